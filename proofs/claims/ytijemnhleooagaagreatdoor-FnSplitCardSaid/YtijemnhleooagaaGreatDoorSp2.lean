/- Parts. -/
import Derived.Test.YtijemnhleooagaaGreatDoorSp1
import Derived.Maps.AppendAt
import Derived.ArgAppend
import Derived.Laws.StructEq
import Derived.Laws.IdiomRangeMap
import Derived.WideKeyRuns
import Derived.Lib.TrailingZeros
import Derived.Lib.AppendZeros
import Derived.ChangeKeysEq
import Derived.Laws.Concat
import Derived.Laws.DeepStrings4
import Derived.Laws.IdiomStrings
import Derived.Lib.ItoaNum
import Derived.Below
import Derived.Lib.SplitLaws
import Derived.Lib.ParseIntB
import Derived.Shelf.Small.Bits
import Derived.Test.YtijemnhleooagaaGreatDoorProg
import Derived.RangeFuncBox
import Derived.RangeFuncLeaves
import Derived.Shelf.Abstract
import Derived.WalkKit
import Derived.OwnWalkIn
import Derived.TacticsInMore
import Derived.LoopNIn
import Derived.LoopIn
import Derived.KernelRfl
set_option linter.unusedVariables false
set_option linter.unusedSimpArgs false
set_option linter.unusedSectionVars false
namespace Go.Sx
open IntKind
noncomputable section
def D.K0 (a:LL)(b:LI):Option (LL×Bool):=
 (D.K1 a b).bind λe=>(cond (!e) (some true) ((D.c a).bind λf=>some (f==16))).bind λg=>cond g (some (([]:LL),false)) ((D.f0 a).bind λh=>(AU h ([([]:LI)]:LL)).bind λi=>(Aw (σ:=Int×LL) (ρ:=LL) (fun(c,d)=>cond (decide (c<(b.length:Int))) ((idx b c).bind λk=>(D.c a).bind λl=>(D.k d k l).bind λm=>some (.inl ((i64.wrap (c+1)),m))) (some (.inr d))) (0,i)).bind λn=>some (n,true))
def D.N0 (b:LI)(d:Int):Option LI:=
 (Aw (σ:=LI×Int) (ρ:=LI) (fun(c,a)=>cond (decide (a<(b.length:Int))) ((idx b a).bind λf=>cond (f !=d) ((idx b a).bind λg=>(AU c ([g]:LI)).bind λh=>some (.inl (h,(i64.wrap (a+1))))) (some (.inl (c,(i64.wrap (a+1)))))) (some (.inr c))) (([]:LI),0)).bind λi=>some i
def D.L1 (f:LL)(c:LI):Option LL:=
 (D.n (c.length:Int)).bind λg=>(Aw (σ:=Int×LL) (ρ:=LL) (fun(a,e)=>cond (decide (a<(c.length:Int))) ((Aw (σ:=Int×LL) (ρ:=LL) (fun(b,d)=>cond (decide (b<a)) ((idx c a).bind λj=>(idx c b).bind λk=>(D.i f j k).bind λl=>cond l ((D.k d b a).bind λm=>some (.inl ((i64.wrap (b+1)),m))) (some (.inl ((i64.wrap (b+1)),d)))) (some (.inr d))) (0,e)).bind λn=>some (.inl ((i64.wrap (a+1)),n))) (some (.inr e))) (0,g)).bind λo=>some o
end
end Go.Sx

namespace Go.Sx
theorem GG :∀(l:List Value) (k:Nat) (cells:Array Value),k+l.length=cells.size→(l.zipIdx k).foldl (λcs p=>cs.setIfInBounds p.2 p.1) cells=(cells.toList.take k++l).toArray
 |[],k,cells,h=>by
  simp only[List.zipIdx_nil,List.foldl_nil,List.append_nil]
  rw[List.take_of_length_le (by simp at h ⊢;omega)]
 |v::l,k,cells,h=>by
  simp only[List.length_cons] at h
  rw[List.zipIdx_cons,List.foldl_cons,GG l (k+1) _ (by simp;omega)]
  simp only[Array.toList_setIfInBounds]
  rw[List.take_add_one,List.take_set_of_le (Nat.le_refl _)]
  have hlk:k<cells.size:=by omega
  simp[List.getElem?_set,hlk]
section
variable {P : Program} {ops : Array Oper} {rest : List Oper} {n r : Bn} {x : List (Nat × Bn)} {a : Act} {w : World} {N : Nat} {L : Bw}
variable {d : Nat} {t : TypeId} {pos : String} {af : Array Edge} {W : World} {G : GH} {H : List Itm} {α : Type} {E : Rec α}
theorem l_slitR {tt u bytes:Nat}{z:Value}{xo:Operand}{cs:List Value}{y:α}(m:Mem W G w H)(hu:SlT P u tt E.m bytes z)(f:Fr a N L)(hN:Nat.blt d N=true)(hx:AN L xo=some (.agg cs.toArray))(hcs:E.enc y=cs)(hm:E.m≤16777216)
  (k:∀it v w' a',Mem W G w' (it::H)→OwR E tt G it v [y]→Fr a' N ((d,v)::L)→wpList P ops (Qk n x r) rest a' w'):
  wpList P ops (Qk n x r) (⟨some d,.buildSlice u 1 #[(0,xo)],t,pos,af,none⟩::rest) a w:=by
 obtain⟨ti,hi1,hi2,hi3,hi4⟩:=hu.info
 have hl:cs.length=E.m:=by rw[←hcs,E.len]
 have hpos:=E.pos
 have hfold:∀cells:Array Value,cells.size=E.m→(Value.agg cs.toArray).cells.zipIdx.foldl (λcs (c,j)=>cs.setIfInBounds (0*ti.size+j) c) cells=cs.toArray:=λcells hc=>by
  have:=GG cs 0 cells (by omega)
  simp only[List.take_zero,List.nil_append] at this
  refine Eq.trans ?_ this
  simp[Value.cells]
 have hr:(execOp a.eval ⟨some d,.buildSlice u 1 #[(0,xo)],t,pos,af,none⟩).run P w= .ok (.value (.slice (some ⟨w.heap.size,0,none⟩) 1 1)) (w.alloc (.cells cs.toArray tt)):=by
  have h0:¬(16777216<ti.size):=by omega
  have h1:ti.size≠0:=by omega
  have hfill:Instr.fill (λi=>some (i*ti.size,ti.size)) ((Array.range (1*ti.size)).map (z.cells[·%z.cells.size]!)) [(0,Value.agg cs.toArray)]=some cs.toArray:=by
   unfold Instr.fill
   simp only[]
   rw[if_neg (by simp[Value.cells];omega),hfold _ (by simp;omega)]
   rfl
  simp only[Nat.one_mul] at hfill
  simp[execOp,Instr.buildSlice,run_underlying hu.und,sizeOf,typeInfo,zeroValue,hi1,hi4,h0,h1,f.eval hx,newRow,hfill]
 refine Ce f rfl rfl hN hr (λa' f'=>k (.row (.slice (some ⟨w.heap.size,0,none⟩) 1 1) tt E.m [y].length ([y].flatMap E.enc)) _ _ a' ?_ rfl f')
 refine m.add rfl rfl rfl (λq hq=>by first|exact heap_alloc_old w _ q hq|exact heap_alloc_old w _ hq) ⟨by rw[E.size],.inr ⟨w.heap.size,1,_,by simp,Nat.zero_le _,heap_alloc_new w _,by simp,by simp[maxLen],by simp[hl],by simp[hcs,←hl]⟩⟩ (λq hq=>by simp[Itm.foot,Value.ownBlock] at hq;omega)
theorem l_slitR0 {tt u bytes:Nat}{z:Value}(m:Mem W G w H)(hu:SlT P u tt E.m bytes z)(f:Fr a N L)(hN:Nat.blt d N=true)
  (k:∀it v w' a',Mem W G w' (it::H)→OwR E tt G it v []→Fr a' N ((d,v)::L)→wpList P ops (Qk n x r) rest a' w'):
  wpList P ops (Qk n x r) (⟨some d,.buildSlice u 0 #[],t,pos,af,none⟩::rest) a w:=by
 obtain⟨ti,hi1,hi2,hi3,hi4⟩:=hu.info
 have hr:(execOp a.eval ⟨some d,.buildSlice u 0 #[],t,pos,af,none⟩).run P w= .ok (.value (.slice (some ⟨w.heap.size,0,none⟩) 0 0)) (w.alloc (.cells #[] tt)):=by
  simp[execOp,Instr.buildSlice,run_underlying hu.und,sizeOf,typeInfo,hi1,newRow,Instr.fill,Array.range_zero']
 refine Ce f rfl rfl hN hr (λa' f'=>k (.row (.slice (some ⟨w.heap.size,0,none⟩) 0 0) tt E.m ([]:List α).length (([]:List α).flatMap E.enc)) _ _ a' ?_ rfl f')
 refine m.add rfl rfl rfl (λq hq=>by first|exact heap_alloc_old w _ q hq|exact heap_alloc_old w _ hq) ⟨by simp,.inr ⟨w.heap.size,0,_,by simp,Nat.zero_le _,heap_alloc_new w _,by simp,by simp[maxLen],by simp,by simp⟩⟩ (λq hq=>by simp[Itm.foot,Value.ownBlock] at hq;omega)
theorem FV {tt u bytes:Nat}{z:Value}{it itS:Itm}{v y:Value}{xs ys zs:List α}{s xo:Operand}(j j2:Nat)(m:Mem W G w H)(h:OwR E tt G it v xs)(hj:H[j]? =some it)(h2:OwR E tt G itS y ys)(hj2:H[j2]? =some itS)(hne:ys≠[])
  (hu:SlT P u tt E.m bytes z) (hzc:z.cells.size=E.m) (hb:bytes≤32768) (f:Fr a N L) (hN:Nat.blt d N=true) (hs:AN L s=some v) (hx:AN L xo=some y) (hz:AU xs ys=some zs)
  (k:∀it' v' w' a',Mem W G w' (H.set j it')→OwR E tt G it' v' zs→Fr a' N ((d,v')::L)→wpList P ops (Qk n x r) rest a' w'):
  wpList P ops (Qk n x r) (⟨some d,.call {callee:= .builtin .append,args:= #[s,xo],argTypes:= #[u,u]},t,pos,af,none⟩::rest) a w:=by
 obtain⟨ti,hi1,hi2,hi3,hi4⟩:=hu.info
 unfold AU at hz
 split at hz
 ·rename_i hle
  obtain rfl:=Option.some.inj hz
  rcases(h2.has m hj2).2 with⟨_,e0⟩|⟨g,cap,cur,e1,_,eh,e2,e3,e4,e5⟩
  ·exact absurd (List.eq_nil_of_length_eq_zero e0) hne
  ·obtain⟨v',w',hr,hown,hg,_,hblk⟩:=run_append_own_at (P:=P) (w:=w) 0 u t tt ti z E.m bytes hu.und hi1 hi4 hi2 hi3 hzc E.pos v xs.length (xs.flatMap E.enc) (h.has m hj) ⟨g,0,none⟩ ys.length cap (ys.flatMap E.enc) (by rw[E.size]) (λk c hk=>by
     rw[BQ]
     rw[←e5,List.getElem?_take] at hk
     split at hk
     ·simp only[World.cell?,eh,Nat.zero_add];simpa using hk
     ·cases hk) (λc hc=>by
     obtain⟨q,_,hq⟩:=List.mem_flatMap.1 hc
     exact E.one q c hq) (by simp only[maxLen];omega) (by
     have:(xs.length+ys.length)*bytes≤4294967296*32768:=Nat.mul_le_mul hle hb
     omega) (Nat.zero_le _)
   have hit:it= .row v tt E.m xs.length (xs.flatMap E.enc):=h
   refine Ce f rfl rfl hN (r_append (f.eval hs) (f.eval hx) (by rw[e1];exact hr)) (λa' f'=>k (.row v' tt E.m (xs++ys).length ((xs++ys).flatMap E.enc)) v' w' a' ?_ rfl f')
   refine m.changeAt j hj hg.os hg.tape hg.output (λq hq hqn=>hg.block q hq (λe=>hqn ?_)) ?_ (λq hq=> ?_)
   ·rw[hit];simp[Itm.foot,←e]
   ·show w'.ownsRow 0 tt E.m v' (xs++ys).length ((xs++ys).flatMap E.enc)
    rw[List.length_append,List.flatMap_append];exact hown
   ·have hq:q∈v'.ownBlock.toList:=hq
    rcases hblk with e|e
    ·rw[e] at hq;left;rw[hit];exact hq
    ·rw[e] at hq;right;simp at hq;omega
 ·cases hz
end
end Go.Sx

namespace Go.Sx
end Go.Sx

namespace Go.Sx
open IntKind
noncomputable def D.s2 (x0 : LI) (x1 : Int) (x2 : Int) : Option (Int) :=
  (D.e x2).bind fun y_1 => (D.u2 x0 x2 (ior .u32 x1 y_1)).bind fun y_8 => (D.r y_8).bind fun y_15 => (Aw (σ := Int × Int) (ρ := (Int)) (fun (s_59 : Int × Int) => match s_59 with | (x_62, x_63) => cond (decide (x_63 < (y_15.length : Int))) ((idx y_15 x_63).bind fun e_82 => (idx x0 e_82).bind fun e_88 => some (.inl ((ior .u32 x_62 e_88), (IntKind.i64.wrap (x_63 + 1))))) (some (.inr x_62))) (0, 0)).bind fun x_79 => (D.e x2).bind fun y_94 => some (iandNot .u32 (iandNot .u32 x_79 x1) y_94)
end Go.Sx

namespace Go.Sx
end Go.Sx

namespace Go.Sx
end Go.Sx

namespace Go.Sx
end Go.Sx

namespace Go.Sx
end Go.Sx

namespace Go.Sx
end Go.Sx

namespace Go.Sx
end Go.Sx

namespace Go.Sx
end Go.Sx

namespace Go.Sx
end Go.Sx

namespace Go.Sx
end Go.Sx

namespace Go.Sx
end Go.Sx

namespace Go.Sx
end Go.Sx

namespace Go.Sx
end Go.Sx

namespace Go.Sx
noncomputable def D.z1 (b:LI)(a c:Int):Option LI:=
 (idx b a).bind λd=>(D.e c).bind λe=>(idx b a).bind λh=>(idx (b.set (Int.toNat a) (iandNot .u32 d e)) c).bind λf=>(D.e a).bind λg=>(idx (b.set (Int.toNat a) (iandNot .u32 d e)) c).bind λi=>some ((b.set (Int.toNat a) (iandNot .u32 d e)).set (Int.toNat c) (iandNot .u32 f g))
section
variable {P : Program} {ρ : Operand → Value} {w : World} {d : Option Tmp} {t : TypeId} {pos : String} {af : Array Edge} {gd : Option (Nat × Bool)}
theorem run_map {b:Nat}{es:Array MapEntry}{clock:Nat}(h:w.heap[b]? =some (.map es clock)):(getObj b).run P w= .ok (.map es clock) w:=by
 simp[getObj,Sem.run,h]
theorem run_setMap {b:Nat}{es:Array MapEntry}{clock:Nat}{o':Obj}(h:w.heap[b]? =some (.map es clock)):(setObj b o').run P w= .ok () {w with heap:=w.heap.setIfInBounds b o'}:=by
 simp[setObj,Sem.run,h]
theorem r_makeMap {mt:TypeId}:(execOp ρ ⟨d,.makeMap mt none,t,pos,af,gd⟩).run P w= .ok (.value (.map (some w.heap.size))) (w.alloc (.map #[] 0)):=by
 simp[execOp,Instr.makeMap]
end
end Go.Sx

namespace Go.Sx
def kyV (k:Int×Int):Value:= .agg #[.int .i64 k.1,.int .i64 k.2]
structure PrK (P:Program)(kt ft:TypeId)(f0 f1:Field):Prop where
 u:P.underlying kt=some (.struct #[f0,f1])
 t0:f0.type=ft
 t1:f1.type=ft
 o0:f0.offset=0
 o1:f1.offset=1
 n0:f0.name≠ "_"
 n1:f1.name≠ "_"
 i:P.underlying ft=some (.int .i64)
 a:∀w,(isAgg ft).run P w= .ok false w
 st:P.stoodInHeld kt=false
def OwMa (it:Itm)(v:Value)(M:List ((Int×Int)×Int)):Prop:=
 ∃(b:Nat) (es:Array MapEntry) (clock:Nat),it= .obj b (.map es clock)∧v= .map (some b)∧es.toList.map (λe=>(e.key,e.val))=M.map (λkv=>(kyV kv.1,Value.int .i64 kv.2))∧(∀e∈es.toList,e.born<clock)∧(es.toList.map (·.born)).Nodup
def By (M:List ((Int×Int)×Int))(x:Int×Int):Option Int:=(M.find? λkv=>kv.1==x).map (·.2)
section
variable {P : Program} {kt ft : TypeId} {f0 f1 : Field}
theorem PrK.part0 (K:PrK P kt ft f0 f1)(x y:Value)(w:World):(part f0.type #[x,y] f0.offset).run P w= .ok x w:=by
 rw[K.t0,K.o0]
 simp[part,K.a w]
theorem PrK.part1 (K:PrK P kt ft f0 f1)(x y:Value)(w:World):(part f1.type #[x,y] f1.offset).run P w= .ok y w:=by
 rw[K.t1,K.o1]
 simp[part,K.a w]
theorem PrK.eq (K:PrK P kt ft f0 f1)(a b:Int×Int)(w:World):(Op.equal kt (kyV a) (kyV b)).run P w= .ok (a==b) w:=by
 have hf:P.fieldsOf kt= #[f0,f1]:=by simp[Program.fieldsOf,K.u]
 have h:(Op.equal kt (kyV a) (kyV b)).run P w=(Op.eqFields 9999 #[.int .i64 a.1,.int .i64 a.2] #[.int .i64 b.1,.int .i64 b.2] [f0,f1]).run P w:=by
  have:=run_equalIn_struct (P:=P) w 9999 kt #[.int .i64 a.1,.int .i64 a.2] #[.int .i64 b.1,.int .i64 b.2] (by rw[hf];exact K.u) K.st
  rw[hf] at this
  exact this
 rw[h]
 have e0:(Op.equalIn 9999 f0.type (.int .i64 a.1) (.int .i64 b.1)).run P w= .ok (a.1==b.1) w:=run_equalIn_int w 9998 _ _ _ _ _ (by rw[K.t0];exact K.i)
 have e1:(Op.equalIn 9999 f1.type (.int .i64 a.2) (.int .i64 b.2)).run P w= .ok (a.2==b.2) w:=run_equalIn_int w 9998 _ _ _ _ _ (by rw[K.t1];exact K.i)
 simp only[Op.eqFields,K.n0,K.n1,ne_eq,not_false_eq_true,if_true,Sem.run_bind,K.part0,K.part1,Result.andThen_ok,e0]
 obtain⟨a1,a2⟩:=a;obtain⟨b1,b2⟩:=b
 dsimp only at*
 cases h1:(a1==b1)
 ·have:((a1,a2)==(b1,b2))=false:=by
   show (a1==b1&&a2==b2)=false
   rw[h1];rfl
  simp[this]
 ·have:((a1,a2)==(b1,b2))=(a2==b2):=by
   show (a1==b1&&a2==b2)=_
   rw[h1];rfl
  rw[this]
  cases h2:(a2==b2)<;>simp[Sem.run_bind,K.part0,K.part1,e1,h2]
theorem PrK.check (K:PrK P kt ft f0 f1)(x:Int×Int)(em:Bool)(w:World):(Instr.checkKey em 10000 kt (kyV x)).run P w= .ok () w:=by
 have c:∀(y:Int),(Instr.checkKey em 9999 ft (.int .i64 y)).run P w= .ok () w:=λy=>by
  unfold Instr.checkKey
  simp[run_underlying K.i]
 have c0:∀(y:Int),(Instr.checkKey em 9999 f0.type (.int .i64 y)).run P w= .ok () w:=λy=>by rw[K.t0];exact c y
 have c1:∀(y:Int),(Instr.checkKey em 9999 f1.type (.int .i64 y)).run P w= .ok () w:=λy=>by rw[K.t1];exact c y
 unfold Instr.checkKey kyV
 simp only[Sem.run_bind,run_underlying K.u,Result.andThen_ok]
 rw[←Array.forIn_toList]
 simp[K.n0,K.n1,Sem.run_bind,K.part0,K.part1,c0,c1]
theorem PrK.find (K:PrK P kt ft f0 f1)(x:Int×Int)(w:World):∀(es:List MapEntry) (M:List ((Int×Int)×Int)) (i:Nat),es.map (λe=>(e.key,e.val))=M.map (λkv=>(kyV kv.1,Value.int .i64 kv.2))→
  ((Instr.findAsking kt (kyV x) es i).run P w= .ok none w∧By M x=none)∨∃j kv,(Instr.findAsking kt (kyV x) es i).run P w= .ok (some (i+j,.int .i64 kv.2)) w∧M[j]? =some kv∧kv.1=x∧By M x=some kv.2
 |[],M,i,h=>by
  have:M=[]:=by simpa using h.symm
  subst this
  exact .inl ⟨by simp[Instr.findAsking],rfl⟩
 |e::es,[],i,h=>by simp at h
 |e::es,kv::M,i,h=>by
  simp only[List.map_cons,List.cons.injEq,Prod.mk.injEq] at h
  obtain⟨⟨h1,h2⟩,h3⟩:=h
  unfold Instr.findAsking By
  rw[h1]
  simp only[Sem.run_bind,K.eq,Result.andThen_ok,List.find?_cons]
  by_cases hx:x=kv.1
  ·have e1:(x==kv.1)=true:=by rw[beq_iff_eq];exact hx
   have e2:(kv.1==x)=true:=by rw[beq_iff_eq];exact hx.symm
   rw[e1,e2]
   exact .inr ⟨0,kv,by simp[h2],rfl,hx.symm,rfl⟩
  ·have e1:(x==kv.1)=false:=by rw[beq_eq_false_iff_ne];exact hx
   have e2:(kv.1==x)=false:=by rw[beq_eq_false_iff_ne];exact λe=>hx e.symm
   rw[e1,e2]
   rcases K.find x w es M (i+1) h3 with⟨h4,h5⟩|⟨j,kv',h4,h5,h6,h7⟩
   ·exact .inl ⟨by simpa using h4,h5⟩
   ·exact .inr ⟨j+1,kv',by simp only[Bool.false_eq_true,if_false,h4];congr 3;omega,by simpa using h5,h6,h7⟩
theorem PrK.findKey (K:PrK P kt ft f0 f1)(x:Int×Int)(w:World){es:List MapEntry}{M:List ((Int×Int)×Int)}(h:es.map (λe=>(e.key,e.val))=M.map (λkv=>(kyV kv.1,Value.int .i64 kv.2))):
  ((Instr.findKey kt (kyV x) es).run P w= .ok none w∧By M x=none)∨∃j kv,(Instr.findKey kt (kyV x) es).run P w= .ok (some (j,.int .i64 kv.2)) w∧M[j]? =some kv∧kv.1=x∧By M x=some kv.2:=by
 rw[run_findKey_eq w (by rw[K.u])]
 rcases K.find x w es M 0 h with h|⟨j,kv,h1,h2⟩
 ·exact .inl h
 ·exact .inr ⟨j,kv,by rw[h1,Nat.zero_add],h2⟩
end
section
variable {P : Program} {ops : Array Oper} {rest : List Oper} {n r : Bn} {x : List (Nat × Bn)} {a : Act} {w : World} {N : Nat} {L : Bw}
variable {W : World} {G : GH} {H : List Itm} {d : Nat} {t : TypeId} {pos : String} {af : Array Edge} {kt ft : TypeId} {f0 f1 : Field}
theorem l_makeMa {mt:TypeId}(m:Mem W G w H)(f:Fr a N L)(hN:Nat.blt d N=true)
  (k:∀it v w' a',Mem W G w' (it::H)→OwMa it v []→Fr a' N ((d,v)::L)→wpList P ops (Qk n x r) rest a' w'):
  wpList P ops (Qk n x r) (⟨some d,.makeMap mt none,t,pos,af,none⟩::rest) a w:=
 Ce f rfl rfl hN r_makeMap (λa' f'=>k (.obj w.heap.size (.map #[] 0)) _ _ a' (m.add rfl rfl rfl (λy hy=>by first|exact heap_alloc_old w _ y hy|exact heap_alloc_old w _ hy) (heap_alloc_new w _) (λy hy=>by simp[Itm.foot] at hy;omega)) ⟨_,_,_,rfl,rfl,rfl,by simp,by simp⟩ f')
theorem F7 (K:PrK P kt ft f0 f1){mt:TypeId}{b:Nat}{es:Array MapEntry}{clock:Nat}{M:List ((Int×Int)×Int)}(ht:P.underlying mt=some (.map kt ft))(hz:∀w,(zeroValue ft).run P w= .ok (.int .i64 0) w)
  (hg:w.heap[b]? =some (.map es clock)) (he:es.toList.map (λe=>(e.key,e.val))=M.map (λkv=>(kyV kv.1,Value.int .i64 kv.2))) (i:Int×Int) (ok:Bool):
  (Instr.lookup mt (.map (some b)) (kyV i) ok).run P w= .ok (if ok then .tuple #[.int .i64 ((By M i).getD 0),.bool (By M i).isSome] else .int .i64 ((By M i).getD 0)) w:=by
 rcases K.findKey i w he with⟨h1,h2⟩|⟨j,kv,h1,_,_,h2⟩
 ·simp[Instr.lookup,run_underlying ht,run_map hg,K.check,h1,h2,hz w]
 ·simp[Instr.lookup,run_underlying ht,run_map hg,K.check,h1,h2]
theorem l_lookupMa (K:PrK P kt ft f0 f1){it:Itm}{v:Value}{M:List ((Int×Int)×Int)}{mt:TypeId}{xo ko:Operand}{i:Int×Int}{ok:Bool}(j:Nat)(m:Mem W G w H)(h:OwMa it v M)(hj:H[j]? =some it)
  (ht:P.underlying mt=some (.map kt ft)) (hz:∀w,(zeroValue ft).run P w= .ok (.int .i64 0) w) (f:Fr a N L) (hN:Nat.blt d N=true) (hx:AN L xo=some v) (hk:AN L ko=some (kyV i))
  (k:∀a',Fr a' N ((d,if ok then .tuple #[.int .i64 ((By M i).getD 0),.bool (By M i).isSome] else .int .i64 ((By M i).getD 0))::L)→wpList P ops (Qk n x r) rest a' w):
  wpList P ops (Qk n x r) (⟨some d,.lookup mt xo ko ok,t,pos,af,none⟩::rest) a w:=by
 obtain⟨b,es,clock,rfl,rfl,he,_,_⟩:=h
 have hg:w.heap[b]? =some (.map es clock):=m.items j _ hj
 refine Ce f rfl rfl hN ?_ k
 simp only[execOp,f.eval hx,f.eval hk,Sem.run_bind,F7 K ht hz hg he i ok,Result.andThen_ok]
 rfl
theorem run_updateMa (K:PrK P kt ft f0 f1){mt:TypeId}{b:Nat}{es:Array MapEntry}{clock:Nat}{M:List ((Int×Int)×Int)}(ht:P.underlying mt=some (.map kt ft))(hg:w.heap[b]? =some (.map es clock))
  (he:es.toList.map (λe=>(e.key,e.val))=M.map (λkv=>(kyV kv.1,Value.int .i64 kv.2))) (i:Int×Int) (y:Int) (hno:By M i=none):
  (Instr.mapUpdate mt (.map (some b)) (kyV i) (.int .i64 y)).run P w= .ok () {w with heap:=w.heap.setIfInBounds b (.map (es.push {key:=kyV i,val:= .int .i64 y,born:=clock}) (clock+1))}:=by
 rcases K.findKey i w he with⟨h1,h2⟩|⟨j,kv,h1,_,_,h2⟩
 ·simp[Instr.mapUpdate,run_underlying ht,run_map hg,K.check,h1,run_setMap hg]
 ·rw[h2] at hno;cases hno
theorem OwMa.push {it:Itm}{v:Value}{M:List ((Int×Int)×Int)}(j:Nat)(m:Mem W G w H)(h:OwMa it v M)(hj:H[j]? =some it)(i:Int×Int)(y:Int):
  ∃b es clock,v= .map (some b)∧w.heap[b]? =some (.map es clock)∧es.toList.map (λe=>(e.key,e.val))=M.map (λkv=>(kyV kv.1,Value.int .i64 kv.2))∧
   ∃it',Mem W G {w with heap:=w.heap.setIfInBounds b (.map (es.push {key:=kyV i,val:= .int .i64 y,born:=clock}) (clock+1))} (H.set j it')∧OwMa it' v (M++[(i,y)]):=by
 obtain⟨b,es,clock,rfl,rfl,he,hb,hn⟩:=h
 have hg:w.heap[b]? =some (.map es clock):=m.items j _ hj
 have hlt:b<w.heap.size:=(Array.getElem?_eq_some_iff.1 hg).1
 refine⟨b,es,clock,rfl,hg,he,.obj b (.map (es.push {key:=kyV i,val:= .int .i64 y,born:=clock}) (clock+1)),m.changeAt j hj rfl rfl rfl (λy _ hy=>by
   have:y≠b:=λe=>hy (by rw[e];simp[Itm.foot])
   simp[Ne.symm this]) (by simp[Itm.ok,hlt]) (λy hy=> .inl hy),b,_,_,rfl,rfl,by simp[he],λe hm=> ?_,?_⟩
 ·rw[Array.toList_push,List.mem_append] at hm
  rcases hm with hm|hm
  ·have:=hb e hm;omega
  ·simp at hm;subst hm;simp
 ·rw[Array.toList_push,List.map_append,List.nodup_append]
  refine⟨hn,by simp,λp hp q hq=> ?_⟩
  obtain⟨e,hm,rfl⟩:=List.mem_map.1 hp
  simp at hq
  have:=hb e hm
  omega
theorem l_putMa (K:PrK P kt ft f0 f1){it:Itm}{v:Value}{M:List ((Int×Int)×Int)}{mt:TypeId}{xo ko vo:Operand}{i:Int×Int}{y:Int}(j:Nat)(m:Mem W G w H)(h:OwMa it v M)(hj:H[j]? =some it)
  (ht:P.underlying mt=some (.map kt ft)) (f:Fr a N L) (hx:AN L xo=some v) (hk:AN L ko=some (kyV i)) (hv:AN L vo=some (.int .i64 y)) (hno:By M i=none)
  (k:∀it' w',Mem W G w' (H.set j it')→OwMa it' v (M++[(i,y)])→wpList P ops (Qk n x r) rest a w'):
  wpList P ops (Qk n x r) (⟨none,.mapUpdate mt xo ko vo,t,pos,af,none⟩::rest) a w:=by
 obtain⟨b,es,clock,rfl,hg,he,it',m',h'⟩:=h.push j m hj i y
 refine l_void rfl rfl ?_ (k it' _ m' h')
 simp only[execOp,f.eval hx,f.eval hk,f.eval hv,Sem.run_bind,run_updateMa K ht hg he i y hno,Result.andThen_ok]
 rfl
end
end Go.Sx

namespace Go.Sx
theorem w64 {x:Int}(h1: -9223372036854775808≤x)(h2:x<9223372036854775808):IntKind.i64.wrap x=x:=by
 simp only[IntKind.wrap,IntKind.bits,IntKind.signed]
 have e:(2:Int)^64=18446744073709551616:=by decide
 have e':(2:Int)^(64-1)=9223372036854775808:=by decide
 simp
 omega
theorem dlt {i n:Nat}(h:i<n):decide ((i:Int)<(n:Int))=true:=by simp;omega
theorem Bx {n:Nat}:decide ((n:Int)<(n:Int))=false:=by simp
theorem AS {α:Type}{xs:List α}{i:Nat}(h:i<xs.length):idx xs (i:Int)=some xs[i]:=by
 unfold idx;rw[if_pos (by omega)];simp[h]
theorem DS {α:Type}{xs:List α}{i:Int}(h0:0≤i)(h:i<xs.length):idx xs i=some (xs[i.toNat]'(by omega)):=by
 unfold idx;rw[if_pos h0];simp
theorem wi {i:Nat}(h:i<4611686018427387904):IntKind.i64.wrap ((i:Int)+1)=((i+1:Nat):Int):=by
 rw[w64 (by omega) (by omega)];rfl
theorem wi' {i n:Nat}(h:i<n)(hn:n≤4611686018427387904):IntKind.i64.wrap ((i:Int)+1)=((i+1:Nat):Int):=wi (by omega)
theorem AW {α:Type}{xs:List α}{i:Nat}(h:i<xs.length)(d:α):xs.getD i d=xs[i]:=by simp[h]
theorem Bp {α:Type}{xs ys:List α}(h:xs.length+ys.length≤4294967296):AU xs ys=some (xs++ys):=by
 unfold AU;rw[if_pos h]
theorem Eh {α:Type}{xs:List α}{i:Nat}(h:i≤xs.length):Ck xs 0 (i:Int)=some (xs.take i):=by
 unfold Ck;rw[if_pos ⟨by omega,by omega,by omega⟩];simp
theorem E6 {α:Type}{xs:List α}{i:Nat}(h:i≤xs.length):Ck xs (i:Int) (xs.length:Int)=some (xs.drop i):=by
 unfold Ck;rw[if_pos ⟨by omega,by omega,by omega⟩];simp
theorem FG {α:Type}{z:α}{n:Nat}{c:Int}(h:(n:Int)≤c)(h2:c≤4294967296):Dd z (n:Int) c=some (List.replicate n z):=by
 unfold Dd;rw[if_pos ⟨by omega,h,h2⟩];simp
theorem makeD_zero {α:Type}{z:α}{c:Int}(h:0≤c)(h2:c≤4294967296):Dd z 0 c=some []:=by
 unfold Dd;rw[if_pos ⟨by omega,h,h2⟩];simp
def Stp {σ ρ:Type}(I:σ→Prop)(μ:σ→Nat)(Post:ρ→Prop)(s:σ):σ ⊕ ρ→Prop
 | .inl s'=>I s'∧μ s'<μ s
 | .inr r=>Post r
theorem AZ {σ ρ β:Type}{step:σ→Option (σ ⊕ ρ)}{s:σ}{k:ρ→Option β}{Q:β→Prop}(I:σ→Prop)(μ:σ→Nat)(Post:ρ→Prop)
  (hstep:∀s,I s→∃y,step s=some y∧Stp I μ Post s y) (h0:I s) (hk:∀r,Post r→∃y,k r=some y∧Q y):∃y,(Aw step s).bind k=some y∧Q y:=by
 obtain⟨r,hr,hp⟩:=loopF_inv (step:=step) I μ Post (λs hs=>by
  obtain⟨y,hy,hq⟩:=hstep s hs
  cases y with
  |inl s'=>exact .inl ⟨s',hy,hq.1,hq.2⟩
  |inr r=>exact .inr ⟨r,hy,hq⟩) s h0
 rw[hr]
 exact hk r hp
theorem Cb {α β:Type}{e:Option α}{k:α→Option β}{Q:β→Prop}(R:α→Prop)(h:∃x,e=some x∧R x)(hk:∀x,R x→∃y,k x=some y∧Q y):∃y,e.bind k=some y∧Q y:=by
 obtain⟨x,rfl,hx⟩:=h
 exact hk x hx
theorem loop_steps {S ρ:Type}{step:S→Option (S ⊕ ρ)}(st:Nat→S)(n:Nat)(h:∀i,i<n→step (st i)=some (.inl (st (i+1)))):Aw step (st 0)=Aw step (st n):=by
 have key:∀k,k≤n→Aw step (st 0)=Aw step (st k):=by
  intro k
  induction k with
  |zero=>intro _;rfl
  |succ k ih=>intro hk;rw[ih (by omega),Cj (h k (by omega))]
 exact key n (Nat.le_refl n)
theorem CT {S ρ β:Type}{step:S→Option (S ⊕ ρ)}{k:ρ→Option β}{s0:S}(st:Nat→S)(n:Nat)(r:ρ)(h0:st 0=s0)(h:∀i,i<n→step (st i)=some (.inl (st (i+1))))(he:step (st n)=some (.inr r)):
  (Aw step s0).bind k=k r:=by
 rw[←h0,loop_steps st n h,Cr he];rfl
theorem loop_list {α σ S ρ:Type}{step:S→Option (S ⊕ ρ)}(xs:List α)(enc:σ→Int→S)(f:σ→α→σ)(fin:σ→ρ)(I:σ→Prop)(s0:σ)
  (h0:I s0) (hstep:∀s (i:Nat) (h:i<xs.length),I s→step (enc s i)=some (.inl (enc (f s xs[i]) ((i+1:Nat):Int)))∧I (f s xs[i]))
  (hend:∀s,I s→step (enc s xs.length)=some (.inr (fin s))):Aw step (enc s0 0)=some (fin (xs.foldl f s0))∧I (xs.foldl f s0):=by
 have key:∀(k i:Nat) (s:σ),i+k=xs.length→I s→Aw step (enc s i)=some (fin ((xs.drop i).foldl f s))∧I ((xs.drop i).foldl f s):=by
  intro k
  induction k with
  |zero=>
   intro i s hk hs
   obtain rfl:i=xs.length:=by omega
   simp only[List.drop_length,List.foldl_nil]
   exact⟨Cr (hend s hs),hs⟩
  |succ k ih=>
   intro i s hk hs
   have hi:i<xs.length:=by omega
   obtain⟨h1,h2⟩:=hstep s i hi hs
   rw[Cj h1,List.drop_eq_getElem_cons hi,List.foldl_cons]
   exact ih (i+1) _ (by omega) h2
 have:=key xs.length 0 s0 (by omega) h0
 simpa using this
theorem Fo {α σ S ρ β:Type}{step:S→Option (S ⊕ ρ)}{k:ρ→Option β}(xs:List α)(enc:σ→Int→S)(f:σ→α→σ)(fin:σ→ρ)(I:σ→Prop)(s0:σ)
  (h0:I s0) (hstep:∀s (i:Nat) (h:i<xs.length),I s→step (enc s i)=some (.inl (enc (f s xs[i]) ((i+1:Nat):Int)))∧I (f s xs[i]))
  (hend:∀s,I s→step (enc s xs.length)=some (.inr (fin s))):(Aw step (enc s0 0)).bind k=k (fin (xs.foldl f s0)):=by
 rw[(loop_list xs enc f fin I s0 h0 hstep hend).1];rfl
theorem FD {α β γ S:Type}{step:S→Option (S ⊕ List β)}{k:List β→Option γ}(xs:List α)(enc:List β→Int→S)(f:α→β)(hx:xs.length≤4294967296)
  (hstep:∀s (i:Nat) (h:i<xs.length),s.length=i→step (enc s i)=(AU s [f xs[i]]).bind λl=>some (.inl (enc l ((i+1:Nat):Int))))
  (hend:∀s,step (enc s xs.length)=some (.inr s)):(Aw step (enc [] 0)).bind k=k (xs.map f):=by
 have key:∀i,i≤xs.length→Aw step (enc [] 0)=Aw step (enc ((xs.take i).map f) i):=by
  intro i
  induction i with
  |zero=>intro _;simp
  |succ i ih=>
   intro hi
   rw[ih (by omega)]
   have h1:=hstep ((xs.take i).map f) i (by omega) (by simp;omega)
   have h2:AU ((xs.take i).map f) [f xs[i]]=some ((xs.take (i+1)).map f):=by
    unfold AU
    rw[if_pos (by simp;omega)]
    rw[List.take_succ_eq_append_getElem (show i<xs.length by omega),List.map_append];rfl
   rw[h2] at h1
   rw[Cj h1]
 rw[key xs.length (Nat.le_refl _),List.take_length,Cr (hend _)];rfl
theorem loop_nat {σ S ρ:Type}{step:S→Option (S ⊕ ρ)}(n:Nat)(enc:σ→Int→S)(f:σ→Nat→σ)(fin:σ→ρ)(I:Nat→σ→Prop)(s0:σ)
  (h0:I 0 s0) (hstep:∀s (i:Nat),i<n→I i s→step (enc s i)=some (.inl (enc (f s i) ((i+1:Nat):Int)))∧I (i+1) (f s i))
  (hend:∀s,I n s→step (enc s n)=some (.inr (fin s))):Aw step (enc s0 0)=some (fin ((List.range n).foldl f s0))∧I n ((List.range n).foldl f s0):=by
 have key:∀k,k≤n→Aw step (enc s0 0)=Aw step (enc ((List.range k).foldl f s0) k)∧I k ((List.range k).foldl f s0):=by
  intro k
  induction k with
  |zero=>intro _;exact⟨rfl,h0⟩
  |succ k ih=>
   intro hk
   obtain⟨h1,h2⟩:=ih (by omega)
   obtain⟨h3,h4⟩:=hstep _ k (by omega) h2
   rw[List.range_succ,List.foldl_append,List.foldl_cons,List.foldl_nil]
   exact⟨by rw[h1,Cj h3],h4⟩
 obtain⟨h1,h2⟩:=key n (Nat.le_refl n)
 exact⟨by rw[h1,Cr (hend _ h2)],h2⟩
theorem EX {ρ : Type} {step : Int → Option (Int ⊕ ρ)} (n : Nat) (c : Nat → Option ρ) (fin : ρ)
    (hstep : ∀ i, i < n → step (i : Int) = match c i with | some r => some (.inr r) | none => some (.inl ((i + 1 : Nat) : Int)))
    (hend : step (n : Int) = some (.inr fin)) : Aw step 0 = some (((List.range n).findSome? c).getD fin) := by
  have key : ∀ (k i : Nat), i + k = n → Aw step (i : Int) = some (((List.range' i k).findSome? c).getD fin) := by
    intro k
    induction k with
    | zero => intro i h; obtain rfl : i = n := by omega
              simpa using Cr hend
    | succ k ih =>
      intro i h
      have h1 := hstep i (by omega)
      rw [List.range'_succ, List.findSome?_cons]
      cases hc : c i with
      | some r => rw [hc] at h1; simpa using Cr h1
      | none => rw [hc] at h1; rw [Cj h1]; exact ih (i + 1) (by omega)
  have := key n 0 (by omega)
  simpa [List.range_eq_range'] using this
theorem D5 {β:Type}{step:Int→Option (Int ⊕ (Unit ⊕ β))}{k:Unit ⊕ β→Option Bool}(n:Nat)(c:Nat→Bool)(bad:β)
  (hstep:∀i,i<n→step (i:Int)=if c i then some (.inl ((i+1:Nat):Int)) else some (.inr (.inr bad)))
  (hend:step (n:Int)=some (.inr (.inl ()))) (hk1:k (.inl ())=some true) (hk2:k (.inr bad)=some false):
  (Aw step 0).bind k=some ((List.range n).all c):=by
 rw[EX n (λi=>if c i then none else some (.inr bad)) (.inl ()) (λi hi=>by rw[hstep i hi];cases c i<;>rfl) hend]
 simp only[bs]
 cases h:(List.range n).all c with
 |true=>
  rw[List.findSome?_eq_none_iff.2 (λx hx=>by rw[if_pos (List.all_eq_true.1 h x hx)])]
  exact hk1
 |false=>
  cases h2:(List.range n).findSome? (λi=>if c i then none else some (Sum.inr bad)) with
  |none=>
   rw[List.findSome?_eq_none_iff] at h2
   have:(List.range n).all c=true:=List.all_eq_true.2 λx hx=>by
    have:=h2 x hx
    cases hc:c x
    ·rw[hc] at this;cases this
    ·rfl
   rw[this] at h;cases h
  |some r=>
   obtain⟨x,_,hx⟩:=List.exists_of_findSome?_eq_some h2
   cases hc:c x
   ·rw[hc] at hx;simp at hx;subst hx;exact hk2
   ·rw[hc] at hx;simp at hx
theorem Gl {ρ β:Type}{step:Int→Option (Int ⊕ ρ)}{k:ρ→Option β}(n:Nat)(c:Nat→Bool)(fine bad:ρ)
  (hstep:∀i,i<n→step (i:Int)=if c i then some (.inl ((i+1:Nat):Int)) else some (.inr bad))
  (hend:step (n:Int)=some (.inr fine)):(Aw step 0).bind k=cond ((List.range n).all c) (k fine) (k bad):=by
 rw[EX n (λi=>if c i then none else some bad) fine (λi hi=>by rw[hstep i hi];cases c i<;>rfl) hend]
 simp only[bs]
 cases h:(List.range n).all c with
 |true=>
  rw[List.findSome?_eq_none_iff.2 (λx hx=>by rw[if_pos (List.all_eq_true.1 h x hx)])]
  rfl
 |false=>
  cases h2:(List.range n).findSome? (λi=>if c i then none else some bad) with
  |none=>
   rw[List.findSome?_eq_none_iff] at h2
   have:(List.range n).all c=true:=List.all_eq_true.2 λx hx=>by
    have:=h2 x hx
    cases hc:c x
    ·rw[hc] at this;cases this
    ·rfl
   rw[this] at h;cases h
  |some r=>
   obtain⟨x,_,hx⟩:=List.exists_of_findSome?_eq_some h2
   cases hc:c x
   ·rw[hc] at hx;simp at hx;subst hx;rfl
   ·rw[hc] at hx;simp at hx
theorem loop_anyb {β:Type}{step:Int→Option (Int ⊕ (Unit ⊕ β))}{k:Unit ⊕ β→Option Bool}(n:Nat)(c:Nat→Bool)(good:β)
  (hstep:∀i,i<n→step (i:Int)=if c i then some (.inr (.inr good)) else some (.inl ((i+1:Nat):Int)))
  (hend:step (n:Int)=some (.inr (.inl ()))) (hk1:k (.inl ())=some false) (hk2:k (.inr good)=some true):
  (Aw step 0).bind k=some ((List.range n).any c):=by
 rw[EX n (λi=>if c i then some (.inr good) else none) (.inl ()) (λi hi=>by rw[hstep i hi];cases c i<;>rfl) hend]
 simp only[bs]
 cases h:(List.range n).any c with
 |false=>
  rw[List.findSome?_eq_none_iff.2 (λx hx=>by
   have:c x=false:=by
    cases hc:c x
    ·rfl
    ·rw[List.any_eq_true.2 ⟨x,hx,hc⟩] at h;cases h
   rw[this];rfl)]
  exact hk1
 |true=>
  obtain⟨x,hx,hc⟩:=List.any_eq_true.1 h
  cases h2:(List.range n).findSome? (λi=>if c i then some (Sum.inr good) else none) with
  |none=>
   rw[List.findSome?_eq_none_iff] at h2
   have:=h2 x hx
   rw[hc] at this;cases this
  |some r=>
   obtain⟨y,_,hy⟩:=List.exists_of_findSome?_eq_some h2
   cases hc:c y
   ·rw[hc] at hy;simp at hy
   ·rw[hc] at hy;simp at hy;subst hy;exact hk2
theorem E8 {α:Type}(xs:List α)(p:α→Bool)(c:Nat→Bool)(h:∀i (hi:i<xs.length),c i=p xs[i]):(List.range xs.length).all c=xs.all p:=by
 rw[Bool.eq_iff_iff,List.all_eq_true,List.all_eq_true]
 constructor
 ·intro hh x hx
  obtain⟨i,hi,rfl⟩:=List.getElem_of_mem hx
  rw[←h i hi];exact hh i (List.mem_range.2 hi)
 ·intro hh i hi
  have hi':=List.mem_range.1 hi
  rw[h i hi'];exact hh _ (List.getElem_mem _)
theorem range_any_list {α:Type}(xs:List α)(p:α→Bool)(c:Nat→Bool)(h:∀i (hi:i<xs.length),c i=p xs[i]):(List.range xs.length).any c=xs.any p:=by
 rw[Bool.eq_iff_iff,List.any_eq_true,List.any_eq_true]
 constructor
 ·rintro⟨i,hi,hc⟩
  have hi':=List.mem_range.1 hi
  exact⟨_,List.getElem_mem hi',by rw[←h i hi'];exact hc⟩
 ·rintro⟨x,hx,hc⟩
  obtain⟨i,hi,rfl⟩:=List.getElem_of_mem hx
  exact⟨i,List.mem_range.2 hi,by rw[h i hi];exact hc⟩
theorem Ej (n:Nat)(c:Nat→Bool):(List.range n).all c=true↔∀i,i<n→c i=true:=by
 rw[List.all_eq_true]
 exact⟨λh i hi=>h i (List.mem_range.2 hi),λh i hi=>h i (List.mem_range.1 hi)⟩
theorem ED (n:Int):IntKind.u32.wrap n=n%4294967296:=by simp[IntKind.wrap,IntKind.signed,IntKind.bits]
def VS (s:Int):Prop:=0≤s∧s<4294967296
def has (s:Int)(v:Nat):Bool:=s.toNat.testBit v
theorem VS.nat {s:Int}(h:VS s):∃n:Nat,s=n∧n<4294967296:=⟨s.toNat,by have:=h.1;omega,by have:=h.1;have:=h.2;omega⟩
theorem VS.zero :VS 0:=⟨by omega,by omega⟩
theorem VS.wrap (n:Int):VS (IntKind.u32.wrap n):=by rw[ED];exact⟨by omega,by omega⟩
theorem CF (n v:Nat):has (n:Int) v=n.testBit v:=by simp[has]
theorem Cc (v:Nat):has 0 v=false:=by simp[has]
theorem DI (n:Nat)(h:n<4294967296):(BitVec.ofInt 32 (n:Int)).toNat=n:=by
 rw[BitVec.toNat_ofInt]
 omega
theorem ior_nat {a b:Nat}(ha:a<4294967296)(hb:b<4294967296):ior .u32 (a:Int) (b:Int)=((a|||b:Nat):Int):=by
 have hw:a|||b<4294967296:=Nat.or_lt_two_pow (n:=32) ha hb
 show IntKind.u32.wrap (((BitVec.ofInt 32 (a:Int)|||BitVec.ofInt 32 (b:Int)).toNat:Nat):Int)=_
 rw[BitVec.toNat_or,DI a ha,DI b hb,ED];omega
theorem EK {a b:Nat}(ha:a<4294967296)(hb:b<4294967296):iand .u32 (a:Int) (b:Int)=((a&&&b:Nat):Int):=by
 have hw:a&&&b<4294967296:=Nat.and_lt_two_pow (n:=32) _ hb
 show IntKind.u32.wrap (((BitVec.ofInt 32 (a:Int)&&&BitVec.ofInt 32 (b:Int)).toNat:Nat):Int)=_
 rw[BitVec.toNat_and,DI a ha,DI b hb,ED];omega
theorem VS.ior (a b:Int):VS (ior .u32 a b):=VS.wrap _
theorem VS.iand (a b:Int):VS (iand .u32 a b):=VS.wrap _
theorem VS.iandNot (a b:Int):VS (iandNot .u32 a b):=VS.wrap _
theorem VS.ishl (a b:Int):VS (ishl .u32 a b):=VS.wrap _
theorem DC {a b:Int}(ha:VS a)(hb:VS b)(v:Nat):has (ior .u32 a b) v=(has a v||has b v):=by
 obtain⟨m,rfl,hm⟩:=ha.nat;obtain⟨n,rfl,hn⟩:=hb.nat
 rw[ior_nat hm hn];simp only[CF,Nat.testBit_or]
theorem EF {a b:Int}(ha:VS a)(hb:VS b)(v:Nat):has (iand .u32 a b) v=(has a v&&has b v):=by
 obtain⟨m,rfl,hm⟩:=ha.nat;obtain⟨n,rfl,hn⟩:=hb.nat
 rw[EK hm hn];simp only[CF,Nat.testBit_and]
theorem CS {a b:Int}(ha:VS a)(hb:VS b)(v:Nat):has (iandNot .u32 a b) v=(has a v&& !has b v):=by
 obtain⟨m,rfl,hm⟩:=ha.nat;obtain⟨n,rfl,hn⟩:=hb.nat
 have e:iandNot .u32 (m:Int) (n:Int)=(((BitVec.ofInt 32 (m:Int)&&& ~~~(BitVec.ofInt 32 (n:Int))).toNat:Nat):Int):=by
  have hw:=(BitVec.ofInt 32 (m:Int)&&& ~~~(BitVec.ofInt 32 (n:Int))).isLt
  show IntKind.u32.wrap (((BitVec.ofInt 32 (m:Int)&&& ~~~(BitVec.ofInt 32 (n:Int))).toNat:Nat):Int)=_
  rw[ED];omega
 rw[e,CF,CF,CF]
 have h1:∀i,(BitVec.ofInt 32 (m:Int)).getLsbD i=m.testBit i:=λi=>by rw[BitVec.getLsbD,DI m hm]
 have h2:∀i,(BitVec.ofInt 32 (n:Int)).getLsbD i=n.testBit i:=λi=>by rw[BitVec.getLsbD,DI n hn]
 rw[←BitVec.getLsbD,BitVec.getLsbD_and,BitVec.getLsbD_not,h1,h2]
 by_cases hv:v<32
 ·simp[hv]
 ·have:m.testBit v=false:=Nat.testBit_lt_two_pow (Nat.lt_of_lt_of_le hm (Nat.pow_le_pow_right (n:=2) (by omega) (show 32≤v by omega)))
  simp[this]
theorem Gn {a:Int}(ha:VS a){v:Nat}(hv:32≤v):has a v=false:=by
 obtain⟨m,rfl,hm⟩:=ha.nat
 rw[CF]
 exact Nat.testBit_lt_two_pow (Nat.lt_of_lt_of_le hm (Nat.pow_le_pow_right (n:=2) (by omega) hv))
theorem VS.ext {a b:Int}(ha:VS a)(hb:VS b)(h:∀v,v<32→has a v=has b v):a=b:=by
 have:∀v,has a v=has b v:=λv=>by
  by_cases hv:v<32
  ·exact h v hv
  ·rw[Gn ha (by omega),Gn hb (by omega)]
 obtain⟨m,rfl,hm⟩:=ha.nat;obtain⟨n,rfl,hn⟩:=hb.nat
 congr 1
 apply Nat.eq_of_testBit_eq
 intro v
 have:=this v
 rwa [CF,CF] at this
theorem VS.eq_zero {a:Int}(ha:VS a):a=0↔∀v,v<32→has a v=false:=
 ⟨λh v _=>by rw[h,Cc],λh=>ha.ext VS.zero (λv hv=>by rw[h v hv,Cc])⟩
theorem one_eq {v:Nat}(hv:v<32):ishl .u32 1 (v:Int)=((2^v:Nat):Int):=by
 have h:(2:Nat)^v<2^32:=Nat.pow_lt_pow_right (by omega) hv
 have h':(2:Nat)^32=4294967296:=by decide
 rw[h'] at h
 show IntKind.u32.wrap (1*2^(min ((v:Int)).toNat 32))=_
 rw[ED,show min ((v:Int)).toNat 32=v by simp;omega,Int.one_mul]
 have e:((2^v:Nat):Int)=(2:Int)^v:=by simp
 rw[←e]
 generalize 2^v=p at h ⊢
 omega
theorem CV {v:Nat}(hv:v<32)(u:Nat):has (ishl .u32 1 (v:Int)) u=decide (u=v):=by
 rw[one_eq hv,CF,Nat.testBit_two_pow]
 simp[eq_comm]
theorem shr_eq (s:Int)(v:Nat)(h:VS s)(hv:v<32):BL .u32 s (v:Int)=((s.toNat>>>v:Nat):Int):=by
 obtain⟨m,rfl,hm⟩:=h.nat
 show Int.fdiv (m:Int) (2^(min ((v:Int)).toNat 32))=_
 rw[show min ((v:Int)).toNat 32=v by simp;omega]
 have e:((2^v:Nat):Int)=(2:Int)^v:=by simp
 rw[←e,Int.fdiv_eq_ediv_of_nonneg _ (Int.natCast_nonneg _),Nat.shiftRight_eq_div_pow]
 simp
theorem bitAt_eq {s:Int}{v:Nat}(h:VS s)(hv:v<32):(iand .u32 (BL .u32 s (v:Int)) 1==1)=has s v:=by
 rw[shr_eq s v h hv]
 have hs:s.toNat>>>v<4294967296:=by
  obtain⟨m,rfl,hm⟩:=h.nat
  rw[Nat.shiftRight_eq_div_pow]
  exact Nat.lt_of_le_of_lt (Nat.div_le_self _ _) hm
 have:=EK hs (show (1:Nat)<4294967296 by omega)
 rw[show (1:Int)=((1:Nat):Int) from rfl,this,has,Nat.testBit]
 rw[Nat.and_comm]
 have h1:1&&&(s.toNat>>>v)=0∨1&&&(s.toNat>>>v)=1:=by
  rw[Nat.and_comm,Nat.and_one_is_mod];omega
 rcases h1 with e|e<;>rw[e]<;>rfl
def Az (s : Int) : LI := ((List.range 32).filter (has s)).map Int.ofNat
theorem mem_elems {s:Int}{x:Int}:x∈Az s↔∃v:Nat,v<32∧has s v=true∧x=v:=by
 unfold Az
 rw[List.mem_map]
 constructor
 ·rintro⟨v,hv,rfl⟩
  rw[List.mem_filter,List.mem_range] at hv
  exact⟨v,hv.1,hv.2,rfl⟩
 ·rintro⟨v,h1,h2,rfl⟩
  exact⟨v,List.mem_filter.2 ⟨List.mem_range.2 h1,h2⟩,rfl⟩
theorem BS {s:Int}(h:VS s){v:Nat}:(v:Int)∈Az s↔has s v=true:=by
 rw[mem_elems]
 constructor
 ·rintro⟨u,_,h2,h3⟩;obtain rfl:v=u:=by omega
  exact h2
 ·intro h2
  refine⟨v,?_,h2,rfl⟩
  by_cases hv:v<32
  ·exact hv
  ·rw[Gn h (by omega)] at h2;cases h2
theorem CX (s:Int):(Az s).length≤32:=by
 unfold Az
 rw[List.length_map]
 exact Nat.le_trans (List.length_filter_le _ _) (by simp)
def Inc (l : LI) : Prop := l.Pairwise (· < ·)
theorem Ch (s:Int):Inc (Az s):=by
 unfold Az Inc
 rw[List.pairwise_map]
 refine List.Pairwise.filter _ ?_
 refine List.Pairwise.imp ?_ (List.pairwise_lt_range (n:=32))
 intro a b h
 show (a:Int)<(b:Int)
 omega
theorem Inc.ext :∀{l l':LI},Inc l→Inc l'→(∀x,x∈l↔x∈l')→l=l'
 |[],[],_,_,_=>rfl
 |[],y::l',_,_,h=>by have:=(h y).2 (by simp);simp at this
 |x::l,[],_,_,h=>by have:=(h x).1 (by simp);simp at this
 |x::l,y::l',h1,h2,h=>by
  have h1':=List.pairwise_cons.1 h1;have h2':=List.pairwise_cons.1 h2
  have e:x=y:=by
   rcases List.mem_cons.1 ((h x).1 (by simp)) with e|e
   ·exact e
   ·rcases List.mem_cons.1 ((h y).2 (by simp)) with e'|e'
    ·exact e'.symm
    ·have:=h2'.1 x e;have:=h1'.1 y e';omega
  subst e
  have:l=l':=by
   refine Inc.ext h1'.2 h2'.2 (λz=> ?_)
   constructor
   ·intro hz
    rcases List.mem_cons.1 ((h z).1 (List.mem_cons_of_mem _ hz)) with e|e
    ·have:=h1'.1 z hz;omega
    ·exact e
   ·intro hz
    rcases List.mem_cons.1 ((h z).2 (List.mem_cons_of_mem _ hz)) with e|e
    ·have:=h2'.1 z hz;omega
    ·exact e
  rw[this]
theorem least_spec {s:Int}(h:VS s)(h0:s≠0):∃k:Nat,k<32∧has s k=true∧(∀v,v<k→has s v=false)∧
  iand .u32 s (IntKind.u32.wrap (0-s))=((2^k:Nat):Int)∧(∀v,has (iand .u32 s (IntKind.u32.wrap (s-1))) v=(has s v&& !decide (v=k))):=by
 obtain⟨m,rfl,hm⟩:=h.nat
 have hm0:m≠0:=by omega
 obtain⟨q,hq,hk⟩:=Lib.ctzFrom_spec 32 m (by omega) hm
 have hc:Lib.ctz 32 m=Lib.ctzFrom 32 m:=by unfold Lib.ctz;rw[if_neg hm0]
 obtain⟨hl,_⟩:=Lib.lowest_bit 32 m hm0 hm
 rw[hc] at hl
 generalize Lib.ctzFrom 32 m=k at*
 have hpos:0<2^k:=Nat.pow_pos (by omega)
 have hb:∀v,m.testBit v=(decide (v≥k)&&(2*q+1).testBit (v-k)):=λv=>by rw[hq,Nat.mul_comm,Nat.testBit_mul_two_pow,Bool.and_comm]
 refine⟨k,hk,?_,λv hv=> ?_,?_,λv=> ?_⟩
 ·rw[CF,hb];simp
 ·rw[CF,hb];simp;intro hc;omega
 ·have e:IntKind.u32.wrap (0-(m:Int))=((4294967296-m:Nat):Int):=by rw[ED];omega
  rw[e,EK hm (by omega)]
  rw[←hl]
 ·have e:IntKind.u32.wrap ((m:Int)-1)=((m-1:Nat):Int):=by rw[ED];omega
  rw[e,EK hm (by omega),CF,CF,Nat.testBit_and]
  have hm1:m-1=2^k*(2*q)+(2^k-1):=by rw[hq,Nat.mul_add];omega
  have hb1:(m-1).testBit v=if v<k then true else(2*q).testBit (v-k):=by
   rw[hm1,Nat.testBit_two_pow_mul_add _ (by omega)]
   split
   ·rename_i hv;rw[Nat.testBit_two_pow_sub_one];simp[hv]
   ·rfl
  rw[hb1,hb]
  by_cases hv:v<k
  ·simp[hv];intro hc;omega
  ·rw[if_neg hv]
   by_cases hvk:v=k
   ·subst hvk;simp
   ·obtain⟨t,ht⟩:∃t,v-k=t+1:=⟨v-k-1,by omega⟩
    rw[ht,Nat.testBit_succ,Nat.testBit_succ]
    have e1:(2*q+1)/2=q:=by omega
    have e2:2*q/2=q:=by omega
    rw[e1,e2]
    simp[hvk]
theorem elems_least {s t:Int}{k:Nat}(hk:k<32)(h1:has s k=true)(h2:∀v,v<k→has s v=false)(h3:∀v,has t v=(has s v&& !decide (v=k))):
  Az s=(k:Int)::Az t:=by
 refine Inc.ext (Ch s) ?_ (λx=> ?_)
 ·refine List.pairwise_cons.2 ⟨λx hx=> ?_,Ch t⟩
  obtain⟨v,hv,h4,rfl⟩:=mem_elems.1 hx
  rw[h3] at h4
  simp at h4
  by_cases hc:v<k
  ·rw[h2 v hc] at h4;simp at h4
  ·omega
 ·rw[List.mem_cons,mem_elems,mem_elems]
  constructor
  ·rintro⟨v,hv,h4,rfl⟩
   by_cases e:v=k
   ·left;omega
   ·right;exact⟨v,hv,by rw[h3,h4];simp[e],rfl⟩
  ·rintro(rfl|⟨v,hv,h4,rfl⟩)
   ·exact⟨k,hk,h1,rfl⟩
   ·rw[h3] at h4;simp at h4
    exact⟨v,hv,h4.1,rfl⟩
theorem Ei :Az 0=[]:=by
 unfold Az
 rw[List.filter_eq_nil_iff.2 (λv _=>by simp[Cc])];rfl
theorem tz_table :∀k:Nat,k<32→idx tab32 (BL .u32 (IntKind.u32.wrap (((2^k:Nat):Int)*125613361)) 27)=some (k:Int):=by decide+kernel
abbrev ArM :=List ((Int×Int)×Int)
abbrev ArL :=List (Int×Int)
end Go.Sx

namespace Go.Sx
end Go.Sx

namespace Go.Sx
open Go
end Go.Sx

namespace Go.Sx
end Go.Sx

namespace Go.Sx
end Go.Sx

namespace Go.Sx
open Go
def ai (x:Nat→Int)(j:Int):Option Int:=if 0≤j∧j<16 then some (x j.toNat) else none
end Go.Sx

namespace Go.Sx
end Go.Sx

namespace Go.Sx
end Go.Sx

namespace Go.Sx
noncomputable def D.p0 (a:LL):Option (Bool):=
 (D.M0 a).bind λb=>some (b&&(decide ((a.length:Int)≤8)))
end Go.Sx

namespace Go.Sx
def growD {α:Type}(n:Int):Option (List α):=if 0≤n∧n≤4294967296 then some [] else none
section
variable {P : Program} {ops : Array Oper} {rest : List Oper} {n r : Bn} {x : List (Nat × Bn)} {a : Act} {w w' W : World} {G : GH} {H : List Itm} {N : Nat} {L : Bw}
variable {d : Nat} {t : TypeId} {pos : String} {af : Array Edge}
theorem r_cap {ρ:Operand→Value}{x:Operand}{u e:TypeId}{a:Option Addr}{n c:Nat}{dd:Option Tmp}{gd:Option (Nat×Bool)}(hx:ρ x= .slice a n c)(hu:P.underlying u=some (.slice e)):
  (execOp ρ ⟨dd,.call {callee:= .builtin .cap,args:= #[x],argTypes:= #[u]},t,pos,af,gd⟩).run P w= .ok (.value (.int .i64 c)) w:=by
 simp[execOp,resolve,invoke,builtin,Builtin.cap_,run_underlying hu,hx,goInt]
theorem r_slice_none {ρ:Operand→Value}{u e sz bytes:Nat}{z:Value}{xo o2:Operand}{k2:IntKind}{dd:Option Tmp}{gd:Option (Nat×Bool)}(hu:SlT P u e sz bytes z)
  (hx:ρ xo= .slice none 0 0) (h2:ρ o2= .int k2 0):
  (execOp ρ ⟨dd,.slice u xo none (some o2) none,t,pos,af,gd⟩).run P w= .ok (.value (.slice none 0 0)) w:=by
 have:=Gr (P:=P) (w:=w) (t:=t) (pos:=pos) (af:=af) (dd:=dd) (gd:=gd) (lo:=none) (hi:=some o2) (i:=0) (j:=0) hu hx (.inl ⟨rfl,rfl⟩) (.inr ⟨o2,k2,rfl,h2⟩) (by omega) (by omega) (by omega)
 rw[this];rfl
theorem b_sub0 {u:TypeId}(w:World):(binOp .sub u (.int .i64 ((0:Nat):Int)) (.int .i64 ((0:Nat):Int))).run P w= .ok (.int .i64 0) w:=by
 rw[Be];rfl
theorem b_subn {u:TypeId}{j:Int}(h0:0≤j)(h1:j≤4294967296)(w:World):(binOp .sub u (.int .i64 j) (.int .i64 0)).run P w= .ok (.int .i64 j) w:=by
 rw[Be]
 have:IntKind.i64.wrap (j-0)=j:=by rw[IntKind.wrap_i64];omega
 rw[this]
theorem l_zeros {tt u ut bytes : Nat} {z : Value} {kq kn : IntKind} {j : Int} {s xo : Operand} (m : Mem W G w H) (hu : SlT P u tt 1 bytes z) (hut : P.underlying ut = some (.int kn)) (hzc : z.cells.size = 1) (hb : bytes ≤ 32768)
    (f : Fr a N L) (hN : Nat.blt d N = true) (hs : AN L s = some (.slice none 0 0)) (hx : AN L xo = some (.int kq j)) (h0 : 0 < j) (h1 : j ≤ 4294967296)
    (k : ∀ b c w' a', Mem W G w' (.row (.slice (some ⟨b, 0, none⟩) 0 c) tt 1 0 [] :: H) → Fr a' N ((d, .slice (some ⟨b, 0, none⟩) j.toNat c) :: L) → wpList P ops (Qk n x r) rest a' w') :
    wpList P ops (Qk n x r) (⟨some d, .call { callee := .builtin .append, args := #[s, xo], argTypes := #[u, ut] }, t, pos, af, none⟩ :: rest) a w := by
  obtain ⟨ti, hi1, hi2, hi3, hi4⟩ := hu.info
  obtain ⟨q, rfl⟩ : ∃ q : Nat, j = q := ⟨j.toNat, by omega⟩
  have hq : q * ti.bytes ≤ 281474976710656 := by
    rw [hi3]
    have : q * bytes ≤ 4294967296 * 32768 := Nat.mul_le_mul (by omega) hb
    omega
  have hr := Lib.run_append_nil_zeros (P := P) w u ut t tt ti z kq kn hu.und hut hi1 hi4 q (by omega) (by omega) (by omega) hq
  have hr2 : (execOp a.eval ⟨some d, .call { callee := .builtin .append, args := #[s, xo], argTypes := #[u, ut] }, t, pos, af, none⟩).run P w = .ok (.value (.slice (some ⟨w.heap.size, 0, none⟩) q (grownCap w q 0 tt))) (w.drew.alloc (.cells (Builtin.zeroCells z.cells q ++ Builtin.zeroCells z.cells (grownCap w q 0 tt - q)) tt)) := by
    simp [execOp, resolve, invoke, builtin, f.eval hs, f.eval hx, hr]
  have hge := grownCap_ge w q 0 tt
  refine Ce f rfl rfl hN hr2 (fun a' f' => k w.heap.size (grownCap w q 0 tt) _ a' ?_ f')
  refine m.add rfl rfl rfl (fun y hy => (by first | exact heap_alloc_old w.drew _ y hy | exact heap_alloc_old w.drew _ hy)) ⟨rfl, .inr ⟨w.heap.size, grownCap w q 0 tt, _, rfl, Nat.zero_le _, heap_alloc_new w.drew _, Nat.zero_le _, grownCap_le_maxLen w q 0 tt (by simp only [maxLen]; omega), ?_, ?_⟩⟩ (fun y hy => ?_)
  · simp only [Array.size_append, size_zeroCells, hzc]
    omega
  · simp
  · simp [Itm.foot, Value.ownBlock] at hy; omega
end
end Go.Sx

namespace Go.Sx
open IntKind
noncomputable section
def D.V1 (a:Int):Option LI:=
 growD a
def D.M1 (a:LL):Option LI:=
 (Aw (σ:=Int×Int) (ρ:=(Int)) (fun(b,c)=>cond (decide (c<(a.length:Int))) ((idx a c).bind λe=>cond (decide ((i64.wrap (b+(e.length:Int)))<0)) none (some (.inl ((i64.wrap (b+(e.length:Int))),(i64.wrap (c+1)))))) (some (.inr b))) (0,0)).bind λh=>(D.V1 h).bind λi=>(Aw (σ:=LI×Int) (ρ:=LI) (fun(f,d)=>cond (decide (d<(a.length:Int))) ((idx a d).bind λk=>(AU f k).bind λl=>some (.inl (l,(i64.wrap (d+1))))) (some (.inr f))) (i,0)).bind λm=>some m
end
end Go.Sx

namespace Go.Sx
def OwMq (_:GH)(it:Itm)(v:Value)(M:List ((Int×Int)×Int)):Prop:=OwMa it v M
theorem OwMq.mono {G G':GH}{it:Itm}{v:Value}{M:List ((Int×Int)×Int)}(_:True)(_:GLe G G')(o:OwMq G it v M):OwMq G' it v M:=o
theorem OwMq.free {G:GH}{it:Itm}{v:Value}{M:List ((Int×Int)×Int)}(_:True)(G':GH)(o:OwMq G it v M):OwMq G' it v M:=o
def Fa (M:List ((Int×Int)×Int))(k:Int×Int)(y:Int):Option (List ((Int×Int)×Int)):=if(By M k).isSome then none else some (M++[(k,y)])
section
variable {P : Program} {ops : Array Oper} {rest : List Oper} {n r : Bn} {x : List (Nat × Bn)} {a : Act} {w : World} {N : Nat} {L : Bw}
variable {W : World} {G : GH} {H : List Itm} {d : Nat} {t : TypeId} {pos : String} {af : Array Edge} {kt ft : TypeId} {f0 f1 : Field}
theorem l_makeMq {mt:TypeId}(m:Mem W G w H)(f:Fr a N L)(hN:Nat.blt d N=true)
  (k:∀it v w' a',Mem W G w' (it::H)→OwMq G it v []→Fr a' N ((d,v)::L)→wpList P ops (Qk n x r) rest a' w'):
  wpList P ops (Qk n x r) (⟨some d,.makeMap mt none,t,pos,af,none⟩::rest) a w:=l_makeMa m f hN k
theorem l_lookMq (K:∃f0 f1,PrK P kt ft f0 f1){it:Itm}{v:Value}{M:List ((Int×Int)×Int)}{mt:TypeId}{xo ko:Operand}{i:Int×Int}(j:Nat)(m:Mem W G w H)(h:OwMq G it v M)(hj:H[j]? =some it)
  (ht:P.underlying mt=some (.map kt ft)) (hz:∀w,(zeroValue ft).run P w= .ok (.int .i64 0) w) (f:Fr a N L) (hN:Nat.blt d N=true) (hx:AN L xo=some v) (hk:AN L ko=some (.agg #[.int .i64 i.1,.int .i64 i.2]))
  (k:∀a',Fr a' N ((d,.tuple #[.int .i64 ((By M i).getD 0),.bool (By M i).isSome])::L)→wpList P ops (Qk n x r) rest a' w):
  wpList P ops (Qk n x r) (⟨some d,.lookup mt xo ko true,t,pos,af,none⟩::rest) a w:=by
 obtain⟨f0,f1,K⟩:=K
 exact l_lookupMa (ok:=true) K j m h hj ht hz f hN hx hk k
theorem l_putMq (K:∃f0 f1,PrK P kt ft f0 f1){it:Itm}{v:Value}{M M':List ((Int×Int)×Int)}{mt:TypeId}{xo ko vo:Operand}{i:Int×Int}{y:Int}(j:Nat)(m:Mem W G w H)(h:OwMq G it v M)(hj:H[j]? =some it)
  (ht:P.underlying mt=some (.map kt ft)) (f:Fr a N L) (hx:AN L xo=some v) (hk:AN L ko=some (.agg #[.int .i64 i.1,.int .i64 i.2])) (hv:AN L vo=some (.int .i64 y)) (hp:Fa M i y=some M')
  (k:∀it' w',Mem W G w' (H.set j it')→OwMq G it' v M'→wpList P ops (Qk n x r) rest a w'):
  wpList P ops (Qk n x r) (⟨none,.mapUpdate mt xo ko vo,t,pos,af,none⟩::rest) a w:=by
 obtain⟨f0,f1,K⟩:=K
 unfold Fa at hp
 split at hp
 ·cases hp
 ·rename_i hno
  cases hp
  exact l_putMa K j m h hj ht f hx hk hv (by simpa using hno) k
end
end Go.Sx

namespace Go.Sx
open IntKind
noncomputable section
def D.P0 (a:LI):Option LI:=
 (D.Q1 a).bind λb=>some b
def D.b (a b:Int):Option (Bool):=
 (D.o a).bind λc=>(cond c ((D.o b).bind λd=>some (!d)) (some false)).bind λe=>some (e||(decide (a<b)))
def D.n0 (g:LI)(d h:Int):Option LI:=
 (Aw (σ:=LI×Int) (ρ:=LI) (fun(e,c)=>cond (decide (c<h)) ((Aw (σ:=LI×Int) (ρ:=LI) (fun(b,a)=>(cond (decide (d<a)) ((idx b a).bind λk=>(idx b (i64.wrap (a-1))).bind λl=>(D.b k l).bind λm=>some m) (some false)).bind λn=>cond n ((idx b (i64.wrap (a-1))).bind λf=>(idx b a).bind λo=>(idx b a).bind λr=>(idx (b.set (Int.toNat a) f) (i64.wrap (a-1))).bind λs=>some (.inl (((b.set (Int.toNat a) f).set (Int.toNat (i64.wrap (a-1))) o),(i64.wrap (a-1))))) (some (.inr b))) (e,c)).bind λp=>some (.inl (p,(i64.wrap (c+1))))) (some (.inr e))) (g,(i64.wrap (d+1)))).bind λq=>some q
def D.U (g:LI)(h e a:Int):Option LI:=
 (Aw (σ:=LI×Int) (ρ:=LI ⊕ LI) (fun(b,c)=>cond (decide (e≤(i64.wrap ((i64.wrap (2*c))+1)))) (some (.inr (.inl b))) ((cond (decide ((i64.wrap ((i64.wrap ((i64.wrap (2*c))+1))+1))<e)) ((idx b (i64.wrap (a+(i64.wrap ((i64.wrap (2*c))+1))))).bind λj=>(idx b (i64.wrap ((i64.wrap (a+(i64.wrap ((i64.wrap (2*c))+1))))+1))).bind λk=>(D.b j k).bind λl=>some l) (some false)).bind λm=>((cond m (some (i64.wrap ((i64.wrap ((i64.wrap (2*c))+1))+1))) (some (i64.wrap ((i64.wrap (2*c))+1))):Option (Int))).bind λd=>(idx b (i64.wrap (a+c))).bind λn=>(idx b (i64.wrap (a+d))).bind λo=>(D.b n o).bind λp=>cond (!p) (some (.inr (.inr b))) ((idx b (i64.wrap (a+d))).bind λf=>(idx b (i64.wrap (a+c))).bind λq=>(idx b (i64.wrap (a+c))).bind λs=>(idx (b.set (Int.toNat (i64.wrap (a+c))) f) (i64.wrap (a+d))).bind λt=>some (.inl (((b.set (Int.toNat (i64.wrap (a+c))) f).set (Int.toNat (i64.wrap (a+d))) q),d))))) (g,h)).bind λzz=>match zz with| .inl r=>(some r)| .inr z=>(some z)
def D.i0 (h:LI)(a d:Int):Option LI:=
 (Aw (σ:=LI×Int) (ρ:=LI) (fun(f,e)=>cond (decide ((0:Int)≤e)) ((D.U f e (i64.wrap (d-a)) a).bind λj=>some (.inl (j,(i64.wrap (e-1))))) (some (.inr f))) (h,(i64.wrap (Int.tdiv (i64.wrap ((i64.wrap (d-a))-1)) 2)))).bind λk=>(Aw (σ:=LI×Int) (ρ:=LI) (fun(b,c)=>cond (decide ((0:Int)≤c)) ((idx b (i64.wrap (a+c))).bind λg=>(idx b a).bind λm=>(idx b a).bind λp=>(idx (b.set (Int.toNat a) g) (i64.wrap (a+c))).bind λq=>(D.U ((b.set (Int.toNat a) g).set (Int.toNat (i64.wrap (a+c))) m) 0 c a).bind λn=>some (.inl (n,(i64.wrap (c-1))))) (some (.inr b))) (k,(i64.wrap ((i64.wrap (d-a))-1)))).bind λo=>some o
def D.a0 (h:LI)(a b:Int):Option LI:=
 cond (decide ((8:Int)≤(i64.wrap (b-a)))) ((D.H0 (i64.wrap (b-a))).bind λf=>(Aw (σ:=LI×Int×Int) (ρ:=LI) (fun(c,d,k)=>cond (decide (d≤(i64.wrap ((i64.wrap (a+(i64.wrap ((i64.wrap (Int.tdiv (i64.wrap (b-a)) 4))*2))))+1)))) ((D.S0 k).bind λe=>((cond (decide ((i64.wrap (b-a))≤(i64.wrap (iand .u64 e.1 (IntKind.u64.wrap (f-1)))))) (some (i64.wrap ((i64.wrap (iand .u64 e.1 (IntKind.u64.wrap (f-1))))-(i64.wrap (b-a))))) (some (i64.wrap (iand .u64 e.1 (IntKind.u64.wrap (f-1))))):Option (Int))).bind λg=>(idx c (i64.wrap (a+g))).bind λi=>(idx c d).bind λl=>(idx c d).bind λn=>(idx (c.set (Int.toNat d) i) (i64.wrap (a+g))).bind λo=>some (.inl (((c.set (Int.toNat d) i).set (Int.toNat (i64.wrap (a+g))) l),(i64.wrap (d+1)),e.2))) (some (.inr c))) (h,(i64.wrap ((i64.wrap (a+(i64.wrap ((i64.wrap (Int.tdiv (i64.wrap (b-a)) 4))*2))))-1)),(IntKind.u64.wrap (i64.wrap (b-a))))).bind λm=>some m) (some h)
def D.E (a:LI)(b c d:Int):Option (Int×Int×LI×Int):=
 (idx a c).bind λe=>(idx a b).bind λf=>(D.b e f).bind λg=>cond g (some (c,b,a,(i64.wrap (d+1)))) (some (b,c,a,d))
def D.R (d:LI)(e f:Int)(g h:Int):Option (Int×LI×Int):=
 (D.E d e f h).bind λa=>(D.E a.2.2.1 a.2.1 g a.2.2.2).bind λb=>(D.E b.2.2.1 a.1 b.1 b.2.2.2).bind λc=>some (c.2.1,c.2.2.1,c.2.2.2)
def D.I (c:LI)(a d:Int):Option (Int×LI×Int):=
 (D.R c (i64.wrap (a-1)) a (i64.wrap (a+1)) d).bind λb=>some (b.1,b.2.1,b.2.2)
def D.r0 (d:LI)(a b:Int):Option (Int×Int×LI):=
 cond (decide ((8:Int)≤(i64.wrap (b-a)))) (((cond (decide ((50:Int)≤(i64.wrap (b-a)))) ((D.I d (i64.wrap (a+(i64.wrap ((i64.wrap (Int.tdiv (i64.wrap (b-a)) 4))*1)))) 0).bind λe=>(D.I e.2.1 (i64.wrap (a+(i64.wrap ((i64.wrap (Int.tdiv (i64.wrap (b-a)) 4))*2)))) e.2.2).bind λf=>(D.I f.2.1 (i64.wrap (a+(i64.wrap ((i64.wrap (Int.tdiv (i64.wrap (b-a)) 4))*3)))) f.2.2).bind λg=>some (g.2.1,e.1,f.1,g.1,g.2.2)) (some (d,(i64.wrap (a+(i64.wrap ((i64.wrap (Int.tdiv (i64.wrap (b-a)) 4))*1)))),(i64.wrap (a+(i64.wrap ((i64.wrap (Int.tdiv (i64.wrap (b-a)) 4))*2)))),(i64.wrap (a+(i64.wrap ((i64.wrap (Int.tdiv (i64.wrap (b-a)) 4))*3)))),0)):Option (LI×Int×Int×Int×Int))).bind fun(h,i,j,k,l)=>(D.R h i j k l).bind λc=>cond (c.2.2==0) (some (c.1,1,c.2.1)) (cond (c.2.2==12) (some (c.1,2,c.2.1)) (some (c.1,0,c.2.1)))) (cond ((0:Int)==0) (some ((i64.wrap (a+(i64.wrap ((i64.wrap (Int.tdiv (i64.wrap (b-a)) 4))*2)))),1,d)) (cond ((0:Int)==12) (some ((i64.wrap (a+(i64.wrap ((i64.wrap (Int.tdiv (i64.wrap (b-a)) 4))*2)))),2,d)) (some ((i64.wrap (a+(i64.wrap ((i64.wrap (Int.tdiv (i64.wrap (b-a)) 4))*2)))),0,d))))
def D.l0 (e:LI)(f g:Int):Option LI:=
 (Aw (σ:=LI×Int×Int) (ρ:=LI) (fun(a,b,c)=>cond (decide (b<c)) ((idx a c).bind λd=>(idx a b).bind λi=>(idx a b).bind λk=>(idx (a.set (Int.toNat b) d) c).bind λl=>some (.inl (((a.set (Int.toNat b) d).set (Int.toNat c) i),(i64.wrap (b+1)),(i64.wrap (c-1))))) (some (.inr a))) (e,f,(i64.wrap (g-1)))).bind λj=>some j
def D.e0 (p:LI)(i g:Int):Option (Bool×LI):=
 (Aw (σ:=LI×Int×Int) (ρ:=LI ⊕ (Bool×LI)) (fun(b,r,j)=>cond (decide (j<5)) ((Aw (σ:=Int) (ρ:=(Int)) (fun(h:Int)=>(cond (decide (h<g)) ((idx b h).bind λs=>(idx b (i64.wrap (h-1))).bind λt=>(D.b s t).bind λu=>some (!u)) (some false)).bind λv=>cond v (some (.inl (i64.wrap (h+1)))) (some (.inr h))) r).bind λa=>cond (a==g) (some (.inr (.inr (true,b)))) (cond (decide ((i64.wrap (g-i))<50)) (some (.inr (.inr (false,b)))) ((idx b (i64.wrap (a-1))).bind λk=>(idx b a).bind λl=>(idx b a).bind λak=>(idx (b.set (Int.toNat a) k) (i64.wrap (a-1))).bind λal=>((cond (decide ((2:Int)≤(i64.wrap (a-i)))) ((Aw (σ:=LI×Int) (ρ:=LI) (fun(e,c)=>cond (decide ((1:Int)≤c)) ((idx e c).bind λx=>(idx e (i64.wrap (c-1))).bind λy=>(D.b x y).bind λaa=>cond (!aa) (some (.inr e)) ((idx e (i64.wrap (c-1))).bind λm=>(idx e c).bind λab=>(idx e c).bind λam=>(idx (e.set (Int.toNat c) m) (i64.wrap (c-1))).bind λan=>some (.inl (((e.set (Int.toNat c) m).set (Int.toNat (i64.wrap (c-1))) ab),(i64.wrap (c-1)))))) (some (.inr e))) (((b.set (Int.toNat a) k).set (Int.toNat (i64.wrap (a-1))) l),(i64.wrap (a-1)))).bind λac=>some ac) (some ((b.set (Int.toNat a) k).set (Int.toNat (i64.wrap (a-1))) l)):Option LI)).bind λn=>cond (decide ((2:Int)≤(i64.wrap (g-a)))) ((Aw (σ:=LI×Int) (ρ:=LI) (fun(f,d)=>cond (decide (d<g)) ((idx f d).bind λae=>(idx f (i64.wrap (d-1))).bind λaf=>(D.b ae af).bind λag=>cond (!ag) (some (.inr f)) ((idx f (i64.wrap (d-1))).bind λo=>(idx f d).bind λah=>(idx f d).bind λao=>(idx (f.set (Int.toNat d) o) (i64.wrap (d-1))).bind λap=>some (.inl (((f.set (Int.toNat d) o).set (Int.toNat (i64.wrap (d-1))) ah),(i64.wrap (d+1)))))) (some (.inr f))) (n,(i64.wrap (a+1)))).bind λai=>some (.inl (ai,a,(i64.wrap (j+1))))) (some (.inl (n,a,(i64.wrap (j+1)))))))) (some (.inr (.inl b)))) (p,(i64.wrap (i+1)),0)).bind λzz=>match zz with| .inl aj=>(some (false,aj))| .inr z=>(some z)
def D.q0 (d:LI)(c l h:Int):Option (Int×LI):=
 (idx d h).bind λi=>(idx d c).bind λm=>(idx d c).bind λaa=>(idx (d.set (Int.toNat c) i) h).bind λab=>(Aw (σ:=LI×Int×Int) (ρ:=(LI×Int)) (fun(a,o,j)=>(Aw (σ:=Int) (ρ:=(Int)) (fun(f:Int)=>(cond (decide (f≤j)) ((idx a c).bind λp=>(idx a f).bind λq=>(D.b p q).bind λr=>some (!r)) (some false)).bind λs=>cond s (some (.inl (i64.wrap (f+1)))) (some (.inr f))) o).bind λb=>(Aw (σ:=Int) (ρ:=(Int)) (fun(g:Int)=>(cond (decide (b≤g)) ((idx a c).bind λt=>(idx a g).bind λu=>(D.b t u).bind λv=>some v) (some false)).bind λw=>cond w (some (.inl (i64.wrap (g-1)))) (some (.inr g))) j).bind λe=>cond (decide (e<b)) (some (.inr (a,b))) ((idx a e).bind λk=>(idx a b).bind λx=>(idx a b).bind λac=>(idx (a.set (Int.toNat b) k) e).bind λad=>some (.inl (((a.set (Int.toNat b) k).set (Int.toNat e) x),(i64.wrap (b+1)),(i64.wrap (e-1)))))) (((d.set (Int.toNat c) i).set (Int.toNat h) m),(i64.wrap (c+1)),(i64.wrap (l-1)))).bind fun(y,z)=>some (z,y)
def D.c0 (b:LI)(a q c:Int):Option (Int×Bool×LI):=
 (idx b c).bind λd=>(idx b a).bind λe=>(idx b a).bind λau=>(idx (b.set (Int.toNat a) d) c).bind λav=>(Aw (σ:=Int) (ρ:=(Int)) (fun(m:Int)=>(cond (decide (m≤(i64.wrap (q-1)))) ((idx ((b.set (Int.toNat a) d).set (Int.toNat c) e) m).bind λw=>(idx ((b.set (Int.toNat a) d).set (Int.toNat c) e) a).bind λx=>(D.b w x).bind λy=>some y) (some false)).bind λz=>cond z (some (.inl (i64.wrap (m+1)))) (some (.inr m))) (i64.wrap (a+1))).bind λh=>(Aw (σ:=Int) (ρ:=(Int)) (fun(n:Int)=>(cond (decide (h≤n)) ((idx ((b.set (Int.toNat a) d).set (Int.toNat c) e) n).bind λaa=>(idx ((b.set (Int.toNat a) d).set (Int.toNat c) e) a).bind λab=>(D.b aa ab).bind λac=>some (!ac)) (some false)).bind λad=>cond ad (some (.inl (i64.wrap (n-1)))) (some (.inr n))) (i64.wrap (q-1))).bind λf=>cond (decide (f<h)) ((idx ((b.set (Int.toNat a) d).set (Int.toNat c) e) a).bind λr=>(idx ((b.set (Int.toNat a) d).set (Int.toNat c) e) f).bind λae=>(idx ((b.set (Int.toNat a) d).set (Int.toNat c) e) f).bind λaw=>(idx (((b.set (Int.toNat a) d).set (Int.toNat c) e).set (Int.toNat f) r) a).bind λax=>some (f,true,((((b.set (Int.toNat a) d).set (Int.toNat c) e).set (Int.toNat f) r).set (Int.toNat a) ae))) ((idx ((b.set (Int.toNat a) d).set (Int.toNat c) e) f).bind λs=>(idx ((b.set (Int.toNat a) d).set (Int.toNat c) e) h).bind λaf=>(idx ((b.set (Int.toNat a) d).set (Int.toNat c) e) h).bind λay=>(idx (((b.set (Int.toNat a) d).set (Int.toNat c) e).set (Int.toNat h) s) f).bind λaz=>(Aw (σ:=LI×Int×Int) (ρ:=(LI×Int)) (fun(g,ah,t)=>(Aw (σ:=Int) (ρ:=(Int)) (fun(o:Int)=>(cond (decide (o≤t)) ((idx g o).bind λai=>(idx g a).bind λaj=>(D.b ai aj).bind λak=>some ak) (some false)).bind λal=>cond al (some (.inl (i64.wrap (o+1)))) (some (.inr o))) ah).bind λi=>(Aw (σ:=Int) (ρ:=(Int)) (fun(p:Int)=>(cond (decide (i≤p)) ((idx g p).bind λam=>(idx g a).bind λan=>(D.b am an).bind λao=>some (!ao)) (some false)).bind λap=>cond ap (some (.inl (i64.wrap (p-1)))) (some (.inr p))) t).bind λj=>cond (decide (j<i)) (some (.inr (g,j))) ((idx g j).bind λu=>(idx g i).bind λaq=>(idx g i).bind λa0=>(idx (g.set (Int.toNat i) u) j).bind λa1=>some (.inl (((g.set (Int.toNat i) u).set (Int.toNat j) aq),(i64.wrap (i+1)),(i64.wrap (j-1)))))) (((((b.set (Int.toNat a) d).set (Int.toNat c) e).set (Int.toNat h) s).set (Int.toNat f) af),(i64.wrap (h+1)),(i64.wrap (f-1)))).bind fun(k,l)=>(idx k a).bind λv=>(idx k l).bind λar=>(idx k l).bind λa2=>(idx (k.set (Int.toNat l) v) a).bind λa3=>some (l,false,((k.set (Int.toNat l) v).set (Int.toNat a) ar)))
def D.B0 :Nat→LI→Int→Int→Int→Option LI
 |0,_,_,_,_=>none
 |fuel+1,o,p,r,s=>(Aw (σ:=LI×Int×Int×Int×Bool×Bool) (ρ:=LI) (fun(f,a,b,h,i,l)=>cond (decide ((i64.wrap (b-a))≤12)) ((D.n0 f a b).bind λu=>some (.inr u)) (cond (h==0) ((D.i0 f a b).bind λv=>some (.inr v)) (((cond (!i) ((D.a0 f a b).bind λw=>some (w,(i64.wrap (h-1)))) (some (f,h)):Option (LI×Int))).bind fun(x,e)=>(D.r0 x a b).bind λd=>((cond (d.2.1==2) ((D.l0 d.2.2 a b).bind λy=>some (y,(i64.wrap ((i64.wrap (b-1))-(i64.wrap (d.1-a)))),1)) (some (d.2.2,d.1,d.2.1)):Option (LI×Int×Int))).bind fun(m,j,aa)=>((cond ((i&&l)&&(aa==1)) ((D.e0 m a b).bind λk=>cond k.1 (some (.inr k.2)) (some (.inl k.2))) (some (.inl m)):Option (LI ⊕ LI))).bind λq=>match q with| .inl g=>((cond (decide ((0:Int)<a)) ((idx g (i64.wrap (a-1))).bind λab=>(idx g j).bind λac=>(D.b ab ac).bind λad=>some (!ad)) (some false)).bind λae=>cond ae ((D.q0 g a b j).bind λn=>some (.inl (n.2,n.1,b,e,i,l))) ((D.c0 g a b j).bind λc=>cond (decide ((i64.wrap (c.1-a))<(i64.wrap (b-c.1)))) ((D.B0 fuel c.2.2 a c.1 e).bind λaf=>some (.inl (af,(i64.wrap (c.1+1)),b,e,(decide ((i64.wrap (Int.tdiv (i64.wrap (b-a)) 8))≤(i64.wrap (c.1-a)))),c.2.1))) ((D.B0 fuel c.2.2 (i64.wrap (c.1+1)) b e).bind λag=>some (.inl (ag,a,c.1,e,(decide ((i64.wrap (Int.tdiv (i64.wrap (b-a)) 8))≤(i64.wrap (b-c.1)))),c.2.1)))))| .inr q=>(some (.inr q))))) (o,p,r,s,true,true)).bind λz=>some z
def D.h (a:LI)(b c d:Int):Option LI:=D.B0 BT a b c d
def D.I1 (a:LI):Option LI:=
 (D.j0 (IntKind.u64.wrap (a.length:Int))).bind λb=>(D.h a 0 (a.length:Int) b).bind λc=>some c
def D.v0 (a:LI):Option LI:=
 (D.P0 a).bind λb=>(D.I1 b).bind λc=>some c
def D.n1 (b:LI)(c:Int):Option (Int):=
 (Aw (σ:=Int) (ρ:=(Unit) ⊕ (Int)) (fun(a:Int)=>cond (decide (a<(b.length:Int))) ((idx b a).bind λd=>cond (c==d) (some (.inr (.inr a))) (some (.inl (i64.wrap (a+1))))) (some (.inr (.inl ())))) 0).bind λzz=>match zz with| .inl _=>(some (-1))| .inr z=>(some z)
def D.b1 (a:LL)(b d:Int):Option (Int):=
 (idx a b).bind λe=>(D.n1 e d).bind λf=>(idx a b).bind λg=>(idx a b).bind λc=>cond ((c.length:Int)==0) none ((idx g (Int.tmod (i64.wrap (f+1)) (c.length:Int))).bind λh=>some h)
end
end Go.Sx

namespace Go.Sx
open IntKind
noncomputable section
def D.S (a:LI):Option LI:=
 (AU ([]:LI) a).bind λb=>some b
def D.h0 (a:Int):Option (Int×Int):=
 cond (a==1) (some (5,0)) (cond (a==2) (some (3,3)) (cond (a==3) (some (4,0)) (cond (a==4) (some (2,3)) (some (0,0)))))
def D.l1 (h:Int):Option LL:=
 (D.h0 h).bind λa=>(Aw (σ:=LL×Int) (ρ:=LL) (fun(c,b)=>cond (decide (b<a.1)) (((cond (a.2==0) ((Aw (σ:=LL×Int) (ρ:=LL) (fun(f,d)=>cond (decide (d<a.1)) ((AU f ([([b,d]:LI)]:LL)).bind λk=>some (.inl (k,(i64.wrap (d+1))))) (some (.inr f))) (c,(i64.wrap (b+1)))).bind λl=>some l) (some c):Option LL)).bind λm=>(Aw (σ:=LL×Int) (ρ:=LL) (fun(g,e)=>cond (decide (e<a.2)) ((AU g ([([b,(i64.wrap (a.1+e))]:LI)]:LL)).bind λo=>some (.inl (o,(i64.wrap (e+1))))) (some (.inr g))) (m,0)).bind λp=>some (.inl (p,(i64.wrap (b+1))))) (some (.inr c))) (([]:LL),0)).bind λq=>some q
def D.c1 (d:Int):Option LL:=
 (D.h0 d).bind λb=>cond (b.1==0) (some ([]:LL)) ((D.n (i64.wrap (b.1+b.2))).bind λf=>(D.l1 d).bind λc=>(Aw (σ:=Int×LL) (ρ:=LL) (fun(a,e)=>cond (decide (a<(c.length:Int))) ((idx c a).bind λh=>(idx h 0).bind λi=>(idx c a).bind λj=>(idx j 1).bind λk=>(D.k e i k).bind λl=>some (.inl ((i64.wrap (a+1)),l))) (some (.inr e))) (0,f)).bind λm=>some m)
def D.I0 (a:LL)(b c:Int):Option (Bool):=
 (D.q a).bind λd=>(cond d ((D.s a b).bind λe=>some e) (some false)).bind λf=>(cond f ((D.s a c).bind λg=>some g) (some false)).bind λh=>some (h&&(b !=c))
def D.Q (d:LL)(a b:Int):Option (LL×Bool):=
 (D.I0 d a b).bind λf=>(cond (!f) (some true) ((D.i d a b).bind λg=>some (!g))).bind λh=>cond h (some (([]:LL),false)) ((D.f0 d).bind λc=>(idx c a).bind λi=>(D.N0 i b).bind λe=>(idx c a).bind λl=>(idx (c.set (Int.toNat a) e) b).bind λj=>(D.N0 j a).bind λk=>(idx (c.set (Int.toNat a) e) b).bind λm=>some (((c.set (Int.toNat a) e).set (Int.toNat b) k),true))
def D.K (c:LL)(a b:Int):Option (LL×Bool):=
 (D.c c).bind λe=>(D.E0 c a b).bind λf=>cond ((!f)||(decide ((16:Int)≤e))) (some (([]:LL),false)) ((D.Q c a b).bind λg=>(D.V a b).bind λh=>(D.V0 a b).bind λi=>(D.K0 g.1 ([h,i]:LI)).bind λd=>some (d.1,d.2))
def D.T0 (a:LL)(b c:Int):Option (LL×Bool):=
 (D.I0 a b c).bind λd=>(cond (!d) (some true) ((D.i a b c).bind λe=>some e)).bind λf=>cond f (some (([]:LL),false)) ((D.f0 a).bind λg=>(D.k g b c).bind λh=>some (h,true))
def D.y0 (a:LL)(b:LI):Option (LL×Bool):=
 (D.m1 a b).bind λc=>cond (!c) (some (([]:LL),false)) ((D.L1 a b).bind λd=>some (d,true))
def D.X (ad:LI)(ae af:Int):Option (LL×LI×Int×Int):=
 (D.m ad ae af 2).bind λa=>cond a.1 ((D.a1 a.2.1 a.2.2.1 a.2.2.2).bind λg=>some (g.1,g.2.1,g.2.2.1,g.2.2.2)) ((D.a a.2.1 a.2.2.1 a.2.2.2 4).bind λh=>(D.c1 (i64.wrap (1+h.1))).bind λag=>(D.a h.2.1 h.2.2.1 h.2.2.2 3).bind λi=>(Aw (σ:=Int×LI×Int×Int×LL) (ρ:=(LI×Int×Int×LL)) (fun(q,r,s,t,j)=>(cond (decide ((0:Int)<q)) ((D.c j).bind λai=>some (decide (ai<7))) (some false)).bind λaj=>cond aj ((D.O j).bind λu=>(D.a r s t (u.length:Int)).bind λk=>(idx u k.1).bind λv=>(((idx v 0).bind λak=>(idx v 1).bind λal=>(D.K j ak al).bind λam=>some am.1:Option LL)).bind λan=>some (.inl ((i64.wrap (q-1)),k.2.1,k.2.2.1,k.2.2.2,an))) (some (.inr (r,s,t,j)))) (i.1,i.2.1,i.2.2.1,i.2.2.2,ag)).bind fun(ao,ap,aq,f)=>(D.m ao ap aq 3).bind λb=>((cond b.1 ((D.c f).bind λar=>(D.a b.2.1 b.2.2.1 b.2.2.2 ar).bind λl=>(D.c f).bind λau=>(D.a l.2.1 l.2.2.1 l.2.2.2 au).bind λc=>(D.T0 f l.1 c.1).bind λw=>cond w.2 (some (c.2.1,c.2.2.1,c.2.2.2,w.1)) (some (c.2.1,c.2.2.1,c.2.2.2,f))) (some (b.2.1,b.2.2.1,b.2.2.2,f)):Option (LI×Int×Int×LL))).bind fun(av,aw,ax,p)=>(D.m av aw ax 3).bind λd=>((cond d.1 ((D.O p).bind λx=>(D.a d.2.1 d.2.2.1 d.2.2.2 (x.length:Int)).bind λm=>(idx x m.1).bind λy=>(((idx y 0).bind λay=>(idx y 1).bind λaz=>(D.Q p ay az).bind λa0=>some a0.1:Option LL)).bind λa1=>some (m.2.1,m.2.2.1,m.2.2.2,a1)) (some (d.2.1,d.2.2.1,d.2.2.2,p)):Option (LI×Int×Int×LL))).bind fun(a2,a3,a4,n)=>(D.m a2 a3 a4 2).bind λe=>cond e.1 ((((D.L0 e.2.1 e.2.2.1 e.2.2.2 n).bind λo=>(D.y0 n o.1).bind λz=>some (z.1,z.2,o.2.1,o.2.2.1,o.2.2.2):Option (LL×Bool×LI×Int×Int))).bind fun(a5,a6,aa,ab,ac)=>cond a6 (some (a5,aa,ab,ac)) (some (n,aa,ab,ac))) (some (n,e.2.1,e.2.2.1,e.2.2.2)))
def D.z (a:Int):Option (Int×Int):=
 cond (a==1) (some (5,0)) (cond (a==2) (some (3,3)) (cond (a==3) (some (4,0)) (cond (a==4) (some (2,3)) (some (0,0)))))
def D.x0 (h:Int):Option (((List (Int×Int)))):=
 (D.z h).bind λa=>(Aw (σ:=(List (Int×Int))×Int) (ρ:=((List (Int×Int)))) (fun(i:(List (Int×Int))×Int)=>match i with|(c,b)=>cond (decide (b<a.1)) (((cond (a.2==0) ((Aw (σ:=(List (Int×Int))×Int) (ρ:=((List (Int×Int)))) (fun(j:(List (Int×Int))×Int)=>match j with|(f,d)=>cond (decide (d<a.1)) ((AU f ([(b,d)]:List (Int×Int))).bind λk=>some (.inl (k,(i64.wrap (d+1))))) (some (.inr f))) (c,(i64.wrap (b+1)))).bind λl=>some l) (some c):Option ((List (Int×Int))))).bind λm=>(Aw (σ:=(List (Int×Int))×Int) (ρ:=((List (Int×Int)))) (fun(n:(List (Int×Int))×Int)=>match n with|(g,e)=>cond (decide (e<a.2)) ((AU g ([(b,(i64.wrap (a.1+e)))]:List (Int×Int))).bind λo=>some (.inl (o,(i64.wrap (e+1))))) (some (.inr g))) (m,0)).bind λp=>some (.inl (p,(i64.wrap (b+1))))) (some (.inr c))) (([]:List (Int×Int)),0)).bind λq=>some q
def D.J1 (c:Int):Option LL:=
 (D.z c).bind λa=>cond (a.1==0) (some ([]:LL)) ((Dd (0:Int) (i64.wrap (a.1+a.2)) (i64.wrap (a.1+a.2))).bind λh=>(D.x0 c).bind λd=>(Aw (σ:=LI×(List (Int×Int))×Int) (ρ:=LI) (fun(i:LI×(List (Int×Int))×Int)=>match i with|(e,f,b)=>cond (decide (b<(d.length:Int))) ((idx f b).bind λg=>(D.F e g.1 g.2).bind λj=>some (.inl (j,f,(i64.wrap (b+1))))) (some (.inr e))) (h,d,0)).bind λk=>(D.g0 k).bind λl=>some l)
end
end Go.Sx

namespace Go.Sx
open IntKind
noncomputable section
def D.p1 (rec_:LI→LI→((List (Int×Int)))→LL→Int→Int→Option (Bool×LL))(c:LI)(d:Int)(x2s_0 x2s_1:LI)(x2s_2:(List (Int×Int)))(x2s_3:LL)(b:Int):Option (Bool×LL):=
 (rec_ x2s_0 x2s_1 x2s_2 x2s_3 (i64.wrap (b+1)) d).bind λa=>cond (!a.1) (some (false,a.2)) ((idx a.2 b).bind λe=>some (true,(a.2.set (Int.toNat b) c)))
def D.D0 (rec_:LI→LI→((List (Int×Int)))→LL→Int→Int→Option (Bool×LL)):Nat→LI→LI→((List (Int×Int)))→LL→LI→Int→Int→Int→Int→Option (Bool×LL)
 |0,_,_,_,_,_,_,_,_,_=>none
 |fuel+1,b,h,i,c,a,j,d,e,k=>(idx a (i64.wrap ((a.length:Int)-1))).bind λl=>cond ((a.length:Int)==(i64.wrap (j-1))) ((idx b l).bind λr=>(D.i1 r d).bind λs=>(cond s ((D.S a).bind λt=>(AU t ([d]:LI)).bind λu=>(D.p1 rec_ u e b h i c k).bind λm=>some (m.1,m.2)) (some (false,c))).bind λn=>some (n.1,n.2)) ((idx b l).bind λv=>(D.r (iand .u32 v e)).bind λo=>(Aw (σ:=Int×LL) (ρ:=LL ⊕ (Bool×LL)) (fun(f,p)=>cond (decide (f<(o.length:Int))) ((idx o f).bind λq=>(D.S a).bind λx=>(AU x ([q]:LI)).bind λy=>(D.e q).bind λaa=>(D.D0 rec_ fuel b h i p y j d (iandNot .u32 e aa) k).bind λg=>cond g.1 (some (.inr (.inr (true,g.2)))) (some (.inl ((i64.wrap (f+1)),g.2)))) (some (.inr (.inl p)))) (0,c)).bind λzz=>match zz with| .inl ab=>(some (false,ab))| .inr z=>(some z))
def D.x (rec_:LI→LI→((List (Int×Int)))→LL→Int→Int→Option (Bool×LL))(a b:LI)(c:(List (Int×Int)))(d:LL)(e:LI)(f g:Int)(h i:Int):Option (Bool×LL):=D.D0 rec_ BT a b c d e f g h i
def D.m0 :Nat→LI→LI→((List (Int×Int)))→LL→Int→Int→Option (Bool×LL)
 |0,_,_,_,_,_,_=>none
 |fuel+1,i,c,a,f,b,g=>cond (b==(a.length:Int)) (some (true,f)) ((idx a b).bind λj=>(idx c j.1).bind λk=>(idx a b).bind λl=>(idx c l.2).bind λm=>(Aw (σ:=Int×LL) (ρ:=LL ⊕ (Bool×LL)) (fun(d,h)=>(D.C g).bind λo=>cond (decide (d≤(i64.wrap (o+2)))) ((D.x (D.m0 fuel) i c a h ([k]:LI) d m g b).bind λe=>cond e.1 (some (.inr (.inr (true,e.2)))) (some (.inl ((i64.wrap (d+1)),e.2)))) (some (.inr (.inl h)))) (2,f)).bind λzz=>match zz with| .inl p=>(some (false,p))| .inr z=>(some z))
def D.l (a b:LI)(c:(List (Int×Int)))(d:LL)(e f:Int):Option (Bool×LL):=D.m0 BT a b c d e f
def D.u0 (b c g:Int)(x3s_0 x3s_1:LI)(x3s_2:(List (Int×Int)))(x3s_3:LL)(e h:LI):Option (Bool×LI×LL):=
 (cond ((iand .u32 c b) !=0) (some true) ((cond (g==2) ((D.M c).bind λi=>(D.M b).bind λj=>some (decide (j<i))) (some false)).bind λk=>some k)).bind λl=>cond l (some (false,x3s_1,x3s_3)) ((D.r c).bind λm=>(D.r b).bind λn=>(AU m n).bind λa=>(Aw (σ:=Int) (ρ:=(Unit) ⊕ (Bool×LI×LL)) (fun(d:Int)=>cond (decide (d<(a.length:Int))) ((idx a d).bind λo=>(idx e o).bind λp=>(D.C p).bind λq=>(idx h d).bind λr=>(D.C r).bind λs=>cond (decide (q<s)) (some (.inr (.inr (false,a,x3s_3)))) (some (.inl (i64.wrap (d+1))))) (some (.inr (.inl ())))) 0).bind λzz=>match zz with| .inl _=>((D.o0 e).bind λt=>(D.l x3s_0 a x3s_2 x3s_3 0 (iandNot .u32 (iandNot .u32 t c) b)).bind λf=>some (f.1,a,f.2))| .inr z=>(some z))
def D.z0 :Nat→Int→Int→Int→Int→Int→Int→LI→LI→((List (Int×Int)))→LL→LI→LI→Option (Bool×LI×LL)
 |0,_,_,_,_,_,_,_,_,_,_,_,_=>none
 |fuel+1,e,m,c,f,g,h,x4c2s_0,x4c2s_1,x4c2s_2,x4c2s_3,i,j=>cond (c==0) ((D.u0 f g h x4c2s_0 x4c2s_1 x4c2s_2 x4c2s_3 i j).bind λd=>some (d.1,d.2.1,d.2.2)) ((Aw (σ:=Int×LI×LL) (ρ:=(LI×LL) ⊕ (Bool×LI×LL)) (fun(b,k,l)=>cond (decide ((i64.wrap (b+c))≤e)) ((D.e b).bind λo=>(D.z0 fuel e (i64.wrap (b+1)) (i64.wrap (c-1)) (ior .u32 f o) g h x4c2s_0 k x4c2s_2 l i j).bind λa=>cond a.1 (some (.inr (.inr (true,a.2.1,a.2.2)))) (some (.inl ((i64.wrap (b+1)),a.2.1,a.2.2)))) (some (.inr (.inl (k,l))))) (m,x4c2s_1,x4c2s_3)).bind λzz=>match zz with| .inl (p,q)=>(some (false,p,q))| .inr z=>(some z))
def D.A (a b:Int)(c d:Int)(e f:Int)(x4c2s_0 x4c2s_1:LI)(x4c2s_2:(List (Int×Int)))(x4c2s_3:LL)(g h:LI):Option (Bool×LI×LL):=D.z0 BT a b c d e f x4c2s_0 x4c2s_1 x4c2s_2 x4c2s_3 g h
def D.p (c:Int)(b:LI)(d e:Int)(x4s_0 x4s_1:LI)(x4s_2:(List (Int×Int)))(x4s_3:LL)(f:LI):Option (Bool×LI×LL):=
 (D.A (b.length:Int) 0 d 0 c e x4s_0 x4s_1 x4s_2 x4s_3 b f).bind λa=>some (a.1,a.2.1,a.2.2)
def D.t0 :Nat→Int→Int→Int→Int→LI→Int→Int→LI→LI→((List (Int×Int)))→LL→LI→Option (Bool×LI×LL)
 |0,_,_,_,_,_,_,_,_,_,_,_,_=>none
 |fuel+1,e,m,c,f,g,h,i,x4c3s_0,x4c3s_1,x4c3s_2,x4c3s_3,j=>cond (c==0) ((D.p f g h i x4c3s_0 x4c3s_1 x4c3s_2 x4c3s_3 j).bind λd=>some (d.1,d.2.1,d.2.2)) ((Aw (σ:=Int×LI×LL) (ρ:=(LI×LL) ⊕ (Bool×LI×LL)) (fun(b,k,l)=>cond (decide ((i64.wrap (b+c))≤e)) ((D.e b).bind λo=>(D.t0 fuel e (i64.wrap (b+1)) (i64.wrap (c-1)) (ior .u32 f o) g h i x4c3s_0 k x4c3s_2 l j).bind λa=>cond a.1 (some (.inr (.inr (true,a.2.1,a.2.2)))) (some (.inl ((i64.wrap (b+1)),a.2.1,a.2.2)))) (some (.inr (.inl (k,l))))) (m,x4c3s_1,x4c3s_3)).bind λzz=>match zz with| .inl (p,q)=>(some (false,p,q))| .inr z=>(some z))
def D.d (a b:Int)(c d:Int)(e:LI)(f g:Int)(x4c3s_0 x4c3s_1:LI)(x4c3s_2:(List (Int×Int)))(x4c3s_3:LL)(h:LI):Option (Bool×LI×LL):=D.t0 BT a b c d e f g x4c3s_0 x4c3s_1 x4c3s_2 x4c3s_3 h
def D.g (c:LI)(a:Int):Option (Int×LI×LL×Bool):=
 (D.z a).bind λf=>(D.J1 a).bind λh=>(D.J h).bind λi=>(((D.x0 a).bind λj=>some j:Option ((List (Int×Int))))).bind λd=>(Dd (([]:LI):LI) (d.length:Int) (d.length:Int)).bind λk=>(D.d (c.length:Int) 0 f.1 0 c f.2 a c ([]:LI) d k i).bind λb=>cond (!b.1) (some (0,([]:LI),([]:LL),false)) ((((D.u b.2.1).bind λl=>some l:Option LI)).bind λm=>(Aw (σ:=Int×LL) (ρ:=LL) (fun(e,g)=>cond (decide (e<(b.2.2.length:Int))) ((idx b.2.2 e).bind λo=>(D.u o).bind λp=>(AU g ([p]:LL)).bind λq=>some (.inl ((i64.wrap (e+1)),q))) (some (.inr g))) (0,([]:LL))).bind λr=>some (a,m,r,true))
def D.T (b:LL)(c:Int):Option (Int×LI×LL×Bool):=
 (D.z c).bind λd=>(D.p0 b).bind λe=>cond ((!e)||(d.1==0)) (some (0,([]:LI),([]:LL),false)) ((D.J b).bind λf=>(D.g f c).bind λa=>some (a.1,a.2.1,a.2.2.1,a.2.2.2))
end
end Go.Sx

namespace Go.Sx
open Go
end Go.Sx

namespace Go.Sx
open Go
end Go.Sx

namespace Go.Sx
open Go
end Go.Sx

namespace Go.Sx
end Go.Sx

namespace Go.Sx
open Go
theorem r_buildF {P:Program}{a:Act}{w:World}{N:Nat}{L:Bw}{dd:Option Tmp}{t:TypeId}{pos:String}{af:Array Edge}{gd:Option (Nat×Bool)}{u:TypeId}{parts:Array (Nat×Operand)}{vs:List (Nat×Value)}{v:Value}(f:Fr a N L)
  (hp:(parts.toList.map λp=>(p.1,AN L p.2))=vs.map λp=>(p.1,some p.2)) (hb:∀w,(Instr.build u vs.toArray).run P w= .ok v w):
  (execOp a.eval ⟨dd,.build u parts,t,pos,af,gd⟩).run P w= .ok (.value v) w:=by
 have key:∀(ps:List (Nat×Operand)) (vs:List (Nat×Value)),(ps.map λp=>(p.1,AN L p.2))=vs.map (λp=>(p.1,some p.2))→ps.map (fun(i,x)=>(i,a.eval x))=vs:=by
  intro ps
  induction ps with
  |nil=>intro vs h;cases vs with
   |nil=>rfl
   |cons _ _=>simp at h
  |cons p ps ih=>
   intro vs h
   cases vs with
   |nil=>simp at h
   |cons q vs=>
    simp only[List.map_cons,List.cons.injEq,Prod.mk.injEq] at h
    simp only[List.map_cons,ih vs h.2,f.eval h.1.2,h.1.1]
 have e:(parts.map fun(i,x)=>(i,a.eval x))=vs.toArray:=by
  apply Array.toList_inj.1
  rw[Array.toList_map,key parts.toList vs hp]
 simp[execOp,e,hb]
theorem A7 {f:Fn}{a b:Array Value}:(Value.func f a b).cells= #[.func f a b]:=rfl
end Go.Sx

namespace Go.Sx
end Go.Sx

namespace Go.Sx
open Go
end Go.Sx

namespace Go.Sx
open Go
end Go.Sx

namespace Go.Sx
end Go.Sx

namespace Go.Sx
end Go.Sx

namespace Go.Sx
section
variable {W w w' : World} {G : GH} {H : List Itm}
end
end Go.Sx

namespace Go.Sx
open Go
end Go.Sx

namespace Go.Sx
end Go.Sx

namespace Go.Sx
def insD (xs:LI)(i:Int)(ys:LI):Option LI:=if 0≤i∧i≤xs.length∧ys.length=1∧xs.length≤4294967296 then some (xs.take i.toNat++ys++xs.drop i.toNat) else none
def D.u1 (x0:LI)(x1:Int)(x2:LI):Option LI:=insD x0 x1 x2
end Go.Sx

namespace Go.Sx
open IntKind
noncomputable section
def D.G1 (a:LI):Option (Int):=
 cond (decide ((a.length:Int)<1)) none ((idx a 0).bind λe=>(Aw (σ:=Int×Int) (ρ:=(Int)) (fun(b,c)=>cond (decide (c<(a.length:Int))) ((idx a c).bind λd=>some (.inl ((if d<b then d else b),(i64.wrap (c+1))))) (some (.inr b))) (e,1)).bind λg=>some g)
def D.b2 (c:LL)(a b:Int):Option (LL×Bool):=
 (D.c c).bind λe=>(D.E0 c a b).bind λf=>cond ((!f)||(decide ((16:Int)≤e))) (some (([]:LL),false)) ((D.Q c a b).bind λg=>(((D.V a b).bind λh=>(D.V0 a b).bind λi=>(D.K0 g.1 ([h,i]:LI)).bind λd=>some (d.2,d.1):Option (Bool×LL))).bind fun(j,k)=>some (k,j))
def D.a2 (ad:LI)(ae af:Int):Option (LL×LI×Int×Int):=
 (D.m ad ae af 2).bind λa=>cond a.1 ((D.a1 a.2.1 a.2.2.1 a.2.2.2).bind λg=>some (g.1,g.2.1,g.2.2.1,g.2.2.2)) ((D.a a.2.1 a.2.2.1 a.2.2.2 4).bind λh=>(D.c1 (i64.wrap (1+h.1))).bind λag=>(D.a h.2.1 h.2.2.1 h.2.2.2 3).bind λi=>(Aw (σ:=Int×LI×Int×Int×LL) (ρ:=(LI×Int×Int×LL)) (fun(q,r,s,t,j)=>(cond (decide ((0:Int)<q)) ((D.c j).bind λai=>some (decide (ai<7))) (some false)).bind λaj=>cond aj ((D.O j).bind λu=>(D.a r s t (u.length:Int)).bind λk=>(idx u k.1).bind λv=>(((idx v 0).bind λak=>(idx v 1).bind λal=>(D.b2 j ak al).bind λam=>some am.1:Option LL)).bind λan=>some (.inl ((i64.wrap (q-1)),k.2.1,k.2.2.1,k.2.2.2,an))) (some (.inr (r,s,t,j)))) (i.1,i.2.1,i.2.2.1,i.2.2.2,ag)).bind fun(ao,ap,aq,f)=>(D.m ao ap aq 3).bind λb=>((cond b.1 ((D.c f).bind λar=>(D.a b.2.1 b.2.2.1 b.2.2.2 ar).bind λl=>(D.c f).bind λau=>(D.a l.2.1 l.2.2.1 l.2.2.2 au).bind λc=>(D.T0 f l.1 c.1).bind λw=>cond w.2 (some (c.2.1,c.2.2.1,c.2.2.2,w.1)) (some (c.2.1,c.2.2.1,c.2.2.2,f))) (some (b.2.1,b.2.2.1,b.2.2.2,f)):Option (LI×Int×Int×LL))).bind fun(av,aw,ax,p)=>(D.m av aw ax 3).bind λd=>((cond d.1 ((D.O p).bind λx=>(D.a d.2.1 d.2.2.1 d.2.2.2 (x.length:Int)).bind λm=>(idx x m.1).bind λy=>(((idx y 0).bind λay=>(idx y 1).bind λaz=>(D.Q p ay az).bind λa0=>some a0.1:Option LL)).bind λa1=>some (m.2.1,m.2.2.1,m.2.2.2,a1)) (some (d.2.1,d.2.2.1,d.2.2.2,p)):Option (LI×Int×Int×LL))).bind fun(a2,a3,a4,n)=>(D.m a2 a3 a4 2).bind λe=>cond e.1 ((((D.L0 e.2.1 e.2.2.1 e.2.2.2 n).bind λo=>(D.y0 n o.1).bind λz=>some (z.1,z.2,o.2.1,o.2.2.1,o.2.2.2):Option (LL×Bool×LI×Int×Int))).bind fun(a5,a6,aa,ab,ac)=>cond a6 (some (a5,aa,ab,ac)) (some (n,aa,ab,ac))) (some (n,e.2.1,e.2.2.1,e.2.2.2)))
def D.d1 (b:LI):Option LL:=
 (D.x1 b).bind λa=>(D.a2 a.1 a.2.1 a.2.2).bind λc=>some c.1
def D.E1 (c:LL):Option (Int×LI×LL×Bool):=
 (D.T c 1).bind λa=>cond a.2.2.2 (some (a.1,a.2.1,a.2.2.1,true)) ((D.T c 2).bind λb=>some (b.1,b.2.1,b.2.2.1,b.2.2.2))
def D.f1 (t:Int)(u:LI)(c:LL):Option LL:=
 cond (decide ((10:Int)<(c.length:Int))) (some ([]:LL)) ((Dd (0:Int) 16 16).bind λh=>(Aw (σ:=LI×Int) (ρ:=LI ⊕ LL) (fun(g,d)=>cond (decide (d<(c.length:Int))) ((idx c d).bind λb=>cond (decide ((16:Int)<(b.length:Int))) (some (.inr (.inr ([]:LL)))) ((Aw (σ:=LI×Int) (ρ:=LI ⊕ LL) (fun(e,a)=>cond (decide (a<(b.length:Int))) ((idx b a).bind λf=>(D.A0 f 0 15).bind λk=>cond (!k) (some (.inr (.inr ([]:LL)))) ((cond (decide ((0:Int)<a)) ((idx b (i64.wrap (a-1))).bind λl=>some (l !=f)) (some false)).bind λm=>cond m ((idx b (i64.wrap (a-1))).bind λn=>(D.F e n f).bind λo=>some (.inl (o,(i64.wrap (a+1))))) (some (.inl (e,(i64.wrap (a+1))))))) (some (.inr (.inl e)))) (g,0)).bind λzz=>match zz with| .inl p=>(some (.inl (p,(i64.wrap (d+1)))))| .inr z=>(some (.inr (.inr z))))) (some (.inr (.inl g)))) (h,0)).bind λzz=>match zz with| .inl q=>((D.g0 q).bind λr=>(D.e1 r).bind λs=>some s)| .inr z=>(some z))
def D.U0 (a:LL)(b c:Int):Option (LL×Bool):=
 (D.A1 a b c).bind λe=>cond ((!e)||((a.length:Int)==16)) (some (([]:LL),false)) ((((D.J a).bind λf=>(AU f ([0]:LI)).bind λg=>some (g,(a.length:Int)):Option (LI×Int))).bind fun(h,d)=>(D.z1 h b c).bind λi=>(D.F i b d).bind λj=>(D.F j c d).bind λk=>(D.g0 k).bind λl=>some (l,true))
def D.g1 (d:LL):Option LL:=
 (Aw (σ:=Int×LL) (ρ:=LL) (fun(b,c)=>cond (decide (b<(d.length:Int))) ((idx d b).bind λg=>(D.u g).bind λa=>cond (decide ((0:Int)<(a.length:Int))) ((D.G1 a).bind λh=>(D.s0 a h).bind λe=>(((Ck a e (a.length:Int)).bind λi=>(Ck a 0 e).bind λj=>(D.M1 ([i,j]:LL)).bind λk=>some k:Option LI)).bind λl=>(AU c [l]).bind λm=>some (.inl ((i64.wrap (b+1)),m))) ((AU c [a]).bind λn=>some (.inl ((i64.wrap (b+1)),n)))) (some (.inr c))) (0,([]:LL))).bind λo=>some o
def D.X0 (b:LI):Option (((List (Int×Int)))):=
 (Aw (σ:=(List (Int×Int))×Int) (ρ:=((List (Int×Int)))) (fun(n:(List (Int×Int))×Int)=>match n with|(f,a)=>(D.o0 b).bind λo=>cond (a !=o) ((D.o0 b).bind λp=>(D.r (iandNot .u32 p a)).bind λg=>(Aw (σ:=Int×Int×Int) (ρ:=(Int)) (fun(h,i,c)=>cond (decide (c<(g.length:Int))) ((idx g c).bind λj=>(idx b j).bind λr=>(D.C (iand .u32 r a)).bind λk=>cond (decide (i<k)) (some (.inl (j,k,(i64.wrap (c+1))))) (some (.inl (h,i,(i64.wrap (c+1)))))) (some (.inr h))) ((-1),(-1),0)).bind λd=>(idx b d).bind λs=>(D.r (iand .u32 s a)).bind λl=>(Aw (σ:=(List (Int×Int))×Int) (ρ:=((List (Int×Int)))) (fun(t:(List (Int×Int))×Int)=>match t with|(m,e)=>cond (decide (e<(l.length:Int))) ((idx l e).bind λu=>(AU m ([(u,d)]:List (Int×Int))).bind λv=>some (.inl (v,(i64.wrap (e+1))))) (some (.inr m))) (f,0)).bind λw=>(D.e d).bind λx=>some (.inl (w,(ior .u32 a x)))) (some (.inr f))) (([]:List (Int×Int)),0)).bind λy=>some y
def D.c2 (g:LL):Option (LL×((List ((Int×Int)×Int)))):=
 (Aw (σ:=LL×(List ((Int×Int)×Int))×Int) (ρ:=(LL×(List ((Int×Int)×Int)))) (fun(n:LL×(List ((Int×Int)×Int))×Int)=>match n with|(i,j,a)=>cond (decide (a<(g.length:Int))) ((idx g a).bind λo=>(D.v0 o).bind λk=>(Aw (σ:=LL×(List ((Int×Int)×Int))×Int) (ρ:=(LL×(List ((Int×Int)×Int)))) (fun(p:LL×(List ((Int×Int)×Int))×Int)=>match p with|(b,c,d)=>cond (decide (d<(k.length:Int))) ((idx k d).bind λl=>cond ((By c (a,l)).isSome) (some (.inl (b,c,(i64.wrap (d+1))))) ((Aw (σ:=(List ((Int×Int)×Int))×LI×Int×Int) (ρ:=((List ((Int×Int)×Int))×LI)) (fun(q:(List ((Int×Int)×Int))×LI×Int×Int)=>match q with|(h,m,e,f)=>cond ((By h (e,f)).isSome) (some (.inr (h,m))) ((Fa h (e,f) (b.length:Int)).bind λr=>(AU m ([e]:LI)).bind λs=>(D.b1 g f e).bind λt=>some (.inl (r,s,f,t)))) (c,([]:LI),a,l)).bind fun(u,v)=>(AU b [v]).bind λw=>some (.inl (w,u,(i64.wrap (d+1)))))) (some (.inr (b,c)))) (i,j,0)).bind fun(x,y)=>some (.inl (x,y,(i64.wrap (a+1))))) (some (.inr (i,j)))) (([]:LL),([]:List ((Int×Int)×Int)),0)).bind fun(z,aa)=>some (z,aa)
def D.w1 (b c:LL):Option (Int):=
 (Aw (σ:=Int) (ρ:=(Unit) ⊕ (Int)) (fun(a:Int)=>cond (decide (a<(b.length:Int))) ((idx b a).bind λe=>cond (decide ((c.length:Int)≤a)) (some (.inr (.inr 1))) ((idx c a).bind λf=>(D.W0 e f).bind λd=>cond (d !=0) (some (.inr (.inr d))) (some (.inl (i64.wrap (a+1)))))) (some (.inr (.inl ())))) 0).bind λzz=>match zz with| .inl _=>(cond (decide ((b.length:Int)<(c.length:Int))) (some (-1)) (some 0))| .inr z=>(some z)
def D.y1 (a:LL)(b:Bool)(c:LL):Option (LL×Bool×LL):=
 (D.g1 a).bind λd=>(cond (!b) (some true) ((D.w1 d c).bind λe=>some (decide (e<0)))).bind λf=>cond f (some (a,true,d)) (some (a,b,c))
def D.d0 (j:(List (Int×Int)))(a:LL)(x0f0_0:Bool)(x0f1_0:LL)(b e c:Int):Option (LL×LL):=
 (((idx a b).bind λf=>(idx a b).bind λd=>(D.S f).bind λg=>(D.u1 g (if(d.length:Int)<(i64.wrap (c+1)) then(d.length:Int) else(i64.wrap (c+1))) ([e]:LI)).bind λh=>(idx a b).bind λk=>some (a.set (Int.toNat b) h):Option LL)).bind λi=>some (i,x0f1_0)
def D.w0 :Nat→((List (Int×Int)))→LL→Bool→LL→Int→Option (LL×Bool×LL)
 |0,_,_,_,_,_=>none
 |fuel+1,b,e,x0f0_0,x0f1_0,j=>cond (j==(b.length:Int)) ((D.y1 e x0f0_0 x0f1_0).bind λl=>some (l.1,l.2.1,l.2.2)) ((idx b j).bind λa=>(idx b j).bind λc=>(D.c2 e).bind λo=>(idx e a.1).bind λd=>(idx e c.2).bind λf=>(Aw (σ:=Int×LL×Bool×LL) (ρ:=(LL×Bool×LL)) (fun(k,p,q,r)=>cond (decide (k<(if(d.length:Int)<1 then 1 else(d.length:Int)))) ((Aw (σ:=Int×LL×Bool×LL) (ρ:=(LL×Bool×LL)) (fun(g,m,h,n)=>cond (decide (g<(if(f.length:Int)<1 then 1 else(f.length:Int)))) ((cond ((decide ((0:Int)<(d.length:Int)))&&(decide ((0:Int)<(f.length:Int)))) ((idx d k).bind λw=>(idx f g).bind λx=>some (((By o.2 (w,a.1)).getD 0) !=((By o.2 (x,c.2)).getD 0))) (some false)).bind λy=>cond y (some (.inl ((i64.wrap (g+1)),m,h,n))) ((D.d0 b m h n a.1 c.2 k).bind λs=>(D.d0 b s.1 h s.2 c.2 a.1 g).bind λt=>(D.w0 fuel b t.1 h t.2 (i64.wrap (j+1))).bind λi=>(idx i.1 a.1).bind λaf=>(idx (i.1.set (Int.toNat a.1) d) c.2).bind λag=>some (.inl ((i64.wrap (g+1)),((i.1.set (Int.toNat a.1) d).set (Int.toNat c.2) f),i.2.1,i.2.2)))) (some (.inr (m,h,n)))) (0,p,q,r)).bind fun(z,aa,ab)=>some (.inl ((i64.wrap (k+1)),z,aa,ab))) (some (.inr (p,q,r)))) (0,e,x0f0_0,x0f1_0)).bind fun(ac,ad,ae)=>some (ac,ad,ae))
def D.y (a:(List (Int×Int)))(b:LL)(x0f0_0:Bool)(x0f1_0:LL)(c:Int):Option (LL×Bool×LL):=D.w0 BT a b x0f0_0 x0f1_0 c
def D.W1 (a:LI)(c:Bool)(d:LL):Option (Bool×LL):=
 (((D.X0 a).bind λe=>(Dd (([]:LI):LI) (a.length:Int) (a.length:Int)).bind λf=>some (e,f):Option ((List (Int×Int))×LL))).bind fun(g,h)=>(D.y g h c d 0).bind λb=>some (b.2.1,b.2.2)
def D.L (a:LL):Option (LL×Bool):=
 (D.p0 a).bind λc=>cond (!c) (some (([]:LL),false)) ((D.J a).bind λd=>(D.W1 d false ([]:LL)).bind λb=>some (b.2,b.1))
def D.O0 (a:LL):Option (Bool):=
 (D.L a).bind λb=>some b.2
def D.T1 (e:LI):Option (Bool):=
 (D.O1 e).bind λm=>cond m (some true) ((D.d1 e).bind λa=>(D.q a).bind λn=>cond ((!n)||(decide ((7:Int)≤(a.length:Int)))) (some true) ((D.P1 a).bind λf=>(D.E1 a).bind λb=>(D.f1 b.1 b.2.1 b.2.2.1).bind λc=>(Aw (σ:=Int×Int) (ρ:=(Int)) (fun(i,g)=>cond (decide (g<(b.2.2.1.length:Int))) ((idx b.2.2.1 g).bind λp=>some (.inl ((i64.wrap ((i64.wrap (i+(p.length:Int)))-1)),(i64.wrap (g+1))))) (some (.inr i))) (0,0)).bind λq=>cond (b.2.2.2&&((c.length:Int) !=q)) (some false) ((Aw (σ:=Int) (ρ:=(Unit) ⊕ (Bool)) (fun(d:Int)=>cond (decide (d<(c.length:Int))) ((idx c d).bind λr=>(cond ((r.length:Int) !=2) (some true) ((idx c d).bind λs=>(idx s 0).bind λt=>(idx c d).bind λu=>(idx u 1).bind λv=>(D.E0 a t v).bind λw=>some (!w))).bind λx=>cond x (some (.inr (.inr false))) (some (.inl (i64.wrap (d+1))))) (some (.inr (.inl ())))) 0).bind λzz=>match zz with| .inl _=>(cond ((f.length:Int)==0) (some (!b.2.2.2)) ((D.v1 e 813).bind λh=>(D.Z0 h.1 h.2.1 h.2.2 (f.length:Int)).bind λy=>(idx f y.1).bind λj=>(((idx j 0).bind λaa=>(idx j 1).bind λab=>(D.U0 a aa ab).bind λk=>some (k.1,k.2):Option (LL×Bool))).bind fun(l,ac)=>(cond ac ((D.q l).bind λad=>some ad) (some false)).bind λae=>(cond ae ((D.O0 l).bind λaf=>(D.O0 a).bind λag=>some (af==ag)) (some false)).bind λah=>some ah))| .inr z=>(some z))))
end
end Go.Sx

namespace Go.Sx
end Go.Sx

namespace Go.Sx
end Go.Sx

namespace Go.Sx
end Go.Sx

namespace Go.Sx
end Go.Sx

namespace Go.Sx
end Go.Sx

namespace Go.Sx
end Go.Sx

namespace Go.Sx
end Go.Sx

namespace Go.Proofs
open Go.Shelf
def Tryz.lays125_ren :Go.Shelf.Ren:=⟨fun|125=>123|128=>134|129=>135|n=>n,fun|46=>57|3=>3|51=>59|53=>39|4=>4|5=>5|9=>9|n=>n,fun|n=>n⟩
theorem Tryz.lays125 :Go.Proofs.Lays.n125 Tryz.prog Tryz.lays125_ren:={
 mixed:=by kernel_rfl
 f125:=Tryz.func123.trans (congrArg some (by kernel_rfl))
 f128:=Tryz.func134.trans (congrArg some (by kernel_rfl))
 f129:=Tryz.func135.trans (congrArg some (by kernel_rfl))
 t3:=Tryz.underlying3
 a3:=Tryz.isAgg3
 z3:=Tryz.sizeOf3
 v3:=Tryz.zeroValue3
 t4:=Tryz.underlying4
 a4:=Tryz.isAgg4
 z4:=Tryz.sizeOf4
 v4:=Tryz.zeroValue4
 t5:=Tryz.underlying5
 a5:=Tryz.isAgg5
 z5:=Tryz.sizeOf5
 v5:=Tryz.zeroValue5
 t9:=Tryz.underlying9
 a9:=Tryz.isAgg9
 z9:=Tryz.sizeOf9
 v9:=Tryz.zeroValue9
 t46:=Tryz.underlying57
 a46:=Tryz.isAgg57
 z46:=Tryz.sizeOf57
 v46:=Tryz.zeroValue57
 t51:=Tryz.underlying59
 a51:=Tryz.isAgg59
 z51:=Tryz.sizeOf59
 v51:=Tryz.zeroValue59
 t53:=Tryz.underlying39
 a53:=Tryz.isAgg39
 z53:=Tryz.sizeOf39
 v53:=Tryz.zeroValue39}
theorem Tryz.bits_Len (x:Int)(w:World)(h0:0≤x)(h1:x≤18446744073709551615):
  Calls Tryz.prog 123 #[.int .u64 x] w λe w'=>e= .returned (.int .i64 (Lib.bitLen x.toNat))∧w'=w:=Any.bits_Len Tryz.lays125 x w h0 h1
end Go.Proofs
namespace Go.Proofs.YtijemnhleooagaaGreatDoor
open Go Go.Sx
theorem Wk.j0 {W w:World}{G:GH}{H:List Itm}{x0:Int}(m:Mem W G w H){y:Int}(hd:D.j0 x0=some y):
  Calls Tryz.prog 123 #[(.int .u64 x0)] w (Res W G H (λ_ Ho v=>Ho=[]∧v=(.int .i64 y))):=by
 unfold D.j0 at hd
 split at hd
 ·rename_i h
  obtain rfl:=Option.some.inj hd
  exact(Tryz.bits_Len x0 w h.1 h.2).mono (λe w' ⟨he,hw⟩=>by subst hw;exact⟨_,he,G,[],GLe.refl G,m,rfl,rfl⟩)
 ·cases hd
end Go.Proofs.YtijemnhleooagaaGreatDoor

namespace Go.Proofs
open Go.RowKit Go.Shelf
attribute [local go_sem] Oper.semAt_some
namespace YtijemnhleooagaaGreatDoor
def C2 {α:Type}(f:Nat→α)(k:Nat):List α:=(List.range k).map f
theorem upto_succI {α:Type}(f:Nat→α)(k:Nat):C2 f (k+1)=C2 f k++[f k]:=by simp[C2,List.range_succ]
theorem upto_lengthI {α:Type}(f:Nat→α)(k:Nat):(C2 f k).length=k:=by simp[C2]
theorem upto_allI (zs:List Int):C2 (λj=>zs[j]?.getD 0) zs.length=zs:=by
 apply List.ext_getElem
 ·simp[C2]
 ·intro i h1 h2
  simp[C2,h2]
theorem upto_takeI (zs:List Int){k:Nat}(hk:k≤zs.length):C2 (λj=>zs[j]?.getD 0) k=zs.take k:=by
 apply List.ext_getElem
 ·simp[C2,hk]
 ·intro i h1 h2
  have:i<zs.length:=by simp[C2] at h1;omega
  simp[C2,this]
set_option maxRecDepth 100000 in
set_option maxHeartbeats 2000000 in
theorem values1_inI (F:Fence)(n:Nat)(h7:F.fn 117)(hro:F.round=none)(hn:1≤n)(l Bs n₀ b off len cap:Nat)(zs:List Int)(hreach:len*8≤140737488351232)(hb:len=0∨b<n₀)(J Jx:List Int→World→Prop)
  (hY:∀pre x W,J pre W→pre.length<len→YieldAt F (n-1) Tryz.prog l #[.int .i64 x] W λe W'=>
   (e= .returned (.bool true)∧J (pre++[x]) W'∧Below n₀ W W')∨(e= .returned (.bool false)∧Jx (pre++[x]) W'))
  (W:World) (hBs:W.cell? ⟨Bs,0,none⟩=some (.slice (some ⟨b,off,none⟩) len cap)) (hc:∀j,j<len→W.cell? ⟨b,off+j,none⟩=some (.int .i64 (zs[j]?.getD 0))) (h0:J [] W):
  CallsIn F n Tryz.prog 117 #[.func (.yield l) #[] #[],.pointer (some ⟨Bs,0,none⟩)] W λe W'=>(∃v,e= .returned v)∧
   ((∃ys,ys=C2 (λj=>zs[j]?.getD 0) len∧J ys W')∨(∃pre,(∃k,k≤len∧pre=C2 (λj=>zs[j]?.getD 0) k)∧Jx pre W')):=by
 refine callsIn_of_wp Tryz.func117 rfl h7 ?_ hro
 simp only[Tryz.ntmps117,List.size_toArray,List.length_cons,List.length_nil,Nat.reduceAdd,Nat.reduceSub,Array.replicate_succ,Array.replicate_zero,List.push_toArray,List.append_toArray,List.nil_append,List.cons_append]
 gi_wp2
 gi_loopw [7] (λi wr=>∃k:Nat,k≤len∧i= .int .i64 k∧J (C2 (λj=>zs[j]?.getD 0) k) wr∧Below n₀ W wr)
  (λi _=>len-(intOf i).toNat)
 case atStart=>exact⟨0,Nat.zero_le _,rfl,h0,Below.refl _ _⟩
 case round=>
  obtain⟨k,hk,rfl,hJs,hnx⟩:=hrel
  have hcx:k<len→wr.cell? ⟨b,off+k,none⟩=some (.int .i64 (zs[k]?.getD 0)):=λh=>(hnx.cell (p:=⟨b,off+k,none⟩) (hb.resolve_left (by omega))).trans (hc k h)
  by_cases hlt:k<len
  ·obtain⟨fn,tmps,assign,body,hy,hR⟩:=hY _ (zs[k]?.getD 0) wr hJs (by rw[upto_lengthI];exact hlt)
   have hcx':=hcx hlt
   gi_wp2
   refine hR.mono ?_
   rintro e W3 (⟨rfl,hJ3,hk3⟩|⟨rfl,hJx3⟩)
   ·gi_wp2
    go_roundw
    case rel=>exact⟨k+1,by omega,by simp,by rw[upto_succI];exact hJ3,hnx.trans hk3⟩
    case measure=>simp[intOf];omega
   ·gi_wp2
    refine bodyPost_ret (results_none rfl _ _ _) rfl ?_
    exact⟨⟨_,rfl⟩,.inr ⟨_,⟨k+1,by omega,(upto_succI _ _).symm⟩,hJx3⟩⟩
  ·obtain rfl:k=len:=by omega
   gi_wp2
   go_end0
   exact⟨⟨_,rfl⟩,.inl ⟨_,rfl,hJs⟩⟩
def IntsI (n₀:Nat)(W:World)(sv:Value)(zs:List Int):Prop:=
 ((∃a c,sv= .slice a 0 c)∧zs=[])∨∃b off cap,sv= .slice (some ⟨b,off,none⟩) zs.length cap∧(zs.length=0∨b<n₀)∧∀j,j<zs.length→W.cell? ⟨b,off+j,none⟩=some (.int .i64 (zs[j]?.getD 0))
theorem IntsI.below {n₀:Nat}{A B:World}(h:Below n₀ A B){sv:Value}{zs:List Int}:IntsI n₀ A sv zs→IntsI n₀ B sv zs
 | .inl e=> .inl e
 | .inr ⟨b,off,cap,e,hb,hc⟩=> .inr ⟨b,off,cap,e,hb,λj hj=>(h.cell (p:=⟨b,off+j,none⟩) (hb.resolve_left (by omega))).trans (hc j hj)⟩
set_option maxRecDepth 100000 in
set_option maxHeartbeats 1000000 in
theorem GR (F:Fence)(n:Nat)(h7:F.fn 117)(hro:F.round=none)(l Bs:Nat)(J:List Int→World→Prop)(W:World)(a:Option Addr)(c:Nat)(hBs:W.cell? ⟨Bs,0,none⟩=some (.slice a 0 c))(h0:J [] W):
  CallsIn F n Tryz.prog 117 #[.func (.yield l) #[] #[],.pointer (some ⟨Bs,0,none⟩)] W λe W'=>(∃v,e= .returned v)∧J [] W':=by
 refine callsIn_of_wp Tryz.func117 rfl h7 ?_ hro
 simp only[Tryz.ntmps117,List.size_toArray,List.length_cons,List.length_nil,Nat.reduceAdd,Nat.reduceSub,Array.replicate_succ,Array.replicate_zero,List.push_toArray,List.append_toArray,List.nil_append,List.cons_append]
 gi_wp2
 gi_loopw [7] (λi wr=>i= .int .i64 0∧J [] wr) (λ_ _=>0)
 case atStart=>exact⟨rfl,h0⟩
 case round=>
  obtain⟨rfl,hJs⟩:=hrel
  gi_wp2
  go_end0
  exact⟨⟨_,rfl⟩,hJs⟩
theorem values_stopsI (F:Fence)(n:Nat)(h7:F.fn 117)(hro:F.round=none)(hn:1≤n)(Bs n₀:Nat)(sv:Value)(zs:List Int)(hreach:zs.length*8≤140737488351232)(w:World)(hBs:Bs<w.heap.size)(hn₀:n₀≤w.heap.size)
  (hc:w.cell? ⟨Bs,0,none⟩=some sv) (hI:IntsI n₀ w sv zs):
  SeqStopsK F n Tryz.prog 117 #[.pointer (some ⟨Bs,0,none⟩)] (λx:Int=> #[Value.int .i64 x]) (Below n₀) (λys=>ys=zs) (λpre=>pre<+:zs) zs.length w:=λl J Jx W hW _ _ hY h0=>by
 have hc':=(hW.cell (p:=⟨Bs,0,none⟩) hBs).trans hc
 rcases hI.below (hW.mono hn₀) with⟨⟨a,c,rfl⟩,rfl⟩|⟨b,off,cap,rfl,hb,hcs⟩
 ·exact(GR F n h7 hro l Bs J W a c hc' h0).mono λe W' ⟨he,hj⟩=>⟨he,.inl ⟨_,rfl,hj⟩⟩
 ·refine(values1_inI F n h7 hro hn l Bs n₀ b off zs.length cap zs hreach hb J Jx hY W hc' hcs h0).mono ?_
  rintro e W' ⟨he,⟨ys,rfl,hj⟩|⟨pre,⟨k,hk,rfl⟩,hj⟩⟩
  ·exact⟨he,.inl ⟨_,upto_allI zs,hj⟩⟩
  ·exact⟨he,.inr ⟨_,by rw[upto_takeI zs hk];exact List.take_prefix _ _,hj⟩⟩
theorem info2I :(Tryz.prog.info? 3).map (λi=>(i.zero,i.size,i.bytes))=some (some (.int .i64 0),1,8):=by kernel_rfl
set_option maxRecDepth 100000 in
set_option maxHeartbeats 4000000 in
theorem AppendSeq_inI (F:Fence)(n:Nat)(h3:F.fn 121)(h5:F.fn 117)(hro:F.round=none)(hn:3≤n)(Bs:Nat)(sv:Value)(xs:List Int)(hlen:xs.length≤maxLen)(hbytes:xs.length*8≤140737488351232)(w:World)(hBs:Bs<w.heap.size)(hc:w.cell? ⟨Bs,0,none⟩=some sv)(hL:IntsI w.heap.size w sv xs):
  CallsIn F n Tryz.prog 121 #[.slice none 0 0,.func (.func 117) #[] #[.pointer (some ⟨Bs,0,none⟩)]] w λe W'=>∃v,e= .returned v∧W'.ownsRow w.heap.size 3 1 v xs.length (xs.map (Value.int .i64))∧Below w.heap.size w W':=by
 have h1:1≤n:=by omega
 obtain⟨i0,hi,hz0,hz1,hz2⟩:=info_parts info2I
 refine callsIn_of_wp_marks Tryz.func121 rfl h3 ?_ hro
 simp only[Tryz.ntmps121,List.size_toArray,List.length_cons,List.length_nil,Nat.reduceAdd,Nat.reduceSub,Array.replicate_succ,Array.replicate_zero,List.push_toArray,List.append_toArray,List.nil_append,List.cons_append]
 gi_wp2
 have bO:=Boxed.new w 87 (.slice none 0 0)
 have hB0:Below w.heap.size w (w.alloc (.cells #[.slice none 0 0] 87)):=(Below.refl _ w).alloc (Nat.le_refl _) _
 refine wpIn_rangeFunc_ownG hro h1 (gf:=117) (lb:= #[.pointer (some ⟨Bs,0,none⟩)]) rfl h5 (enters_of Tryz.func117 (by kernel_rfl) rfl)
  (values_stopsI F (n-1) h5 hro (by omega) Bs w.heap.size sv xs hbytes _ (by simp;omega) (by simp) ((hB0.cell (p:=⟨Bs,0,none⟩) hBs).trans hc) (hL.below hB0)) belowK_t (belowK_b (by simp)) (Below.refl _ _) (λ_=>rfl)
  (λpre W=>(∃v,Boxed W w.heap.size 87 v∧W.ownsRow w.heap.size 3 1 v pre.length (pre.map (Value.int .i64))∧(v= .slice none 0 0↔pre=[]))∧Below w.heap.size w W)
  (λ_ _ _=>False)
  (OwnFrom.and (Own.from (holdsRow_own w.heap.size w.heap.size 87 3 1 (λpre=>pre.length) (λpre=>pre.map (Value.int .i64)) (λpre v=>v= .slice none 0 0↔pre=[])) _) (ownFrom_below (Nat.le_refl _) (by simp)))
  (λ_ _ _ _ _ hs _ _=>hs)
  ⟨⟨_,bO,World.ownsRow_nil _ _ _ _,by simp⟩,hB0⟩
  (λx=>{tmps:= #[.slice none 0 0,.func (.func 117) #[] #[.pointer (some ⟨Bs,0,none⟩)],.pointer (some ⟨w.heap.size,0,none⟩),undef,.slice none 0 0,.int .i64 x,.func (.func 117) #[] #[.pointer (some ⟨Bs,0,none⟩)],.int .i64 x,undef,undef,undef,undef,undef],defers:=[]}) ?assign ?body ?done ?stop
 case assign=>
  intro l x W K hK
  gi_wp2
  exact hK
 case body=>
  rintro l pre x W ⟨⟨v,hv,hrow,hnil⟩,hB⟩ hlt
  have hc:=hv.cell
  gi_wp2_with (gi_at_builtin;refine wpListIn_append_own _ rfl _ _ 87 rfl w.heap.size 3 i0 (.int .i64 0) 1 8 Tryz.underlying87 hi hz0 hz1 hz2 rfl (by decide) _ _ _ rfl (hrow.alloc _) ⟨W.heap.size,0,none⟩ 1 1 [.int .i64 x] rfl rfl (cell_one_new _ _ _) (by simp[Value.oneCell']) (by omega) (by omega) (by have:=hB.size;simp;omega) ?_;intro v' w1 hown' hgrow _;obtain⟨g',cap',rfl⟩:=ownsRow_succ hown';obtain⟨hv1,hv2,hr2,hk2,hb2⟩:=hv.appended (by decide) hrow hB.size (Nat.le_refl _) hown' hgrow;have hc1:=hv1.cell;have hf1:=hv1.frozen)
  exact⟨hk2.from _,hb2,⟨_,hv2,by simpa using hr2,by simp⟩,hB.trans hb2⟩
 case done=>
  rintro D ys W hD rfl ⟨⟨v,hv,hrow,hnil⟩,hB⟩ hK
  have hc:=hv.cell
  gi_wp2
  refine⟨by simp,.inl ⟨_,_,rfl,run_takeDeferred hK,?_⟩⟩
  exact⟨_,results_tmp rfl _ _ _,v,rfl,ownsRow_putObj hrow _ hK rfl,hB.trans (belowK_b (w:=w) (Nat.le_refl _) W D _ _ (by simp at hD;omega) hK rfl rfl)⟩
 case stop=>
  rintro D c pre W _ _ h _
  exact h.elim
set_option maxHeartbeats 1000000 in
theorem values_inI (F:Fence)(n:Nat)(h5:F.fn 112)(hro:F.round=none)(a:Option Addr)(len cap:Nat)(w:World):
  CallsIn F n Tryz.prog 112 #[.slice a len cap] w λe w'=>e= .returned (.func (.func 117) #[] #[.pointer (some ⟨w.heap.size,0,none⟩)])∧w'=w.alloc (.cells #[.slice a len cap] 87):=by
 refine callsIn_of_wp Tryz.func112 rfl h5 ?_ hro
 simp only[Tryz.ntmps112,List.size_toArray,List.length_cons,List.length_nil,Nat.reduceAdd,Nat.reduceSub,Array.replicate_succ,Array.replicate_zero,List.push_toArray,List.append_toArray,List.nil_append,List.cons_append]
 gi_wp2
 go_ret
 exact⟨rfl,rfl⟩
open Go.Sx in
theorem Wk.t2 {W w:World}{G:GH}{H:List Itm}{v:Value}{x:List Int}(m:Mem W G w H)(h:RSl (RI .i64) G v x):
  Calls Tryz.prog 112 #[v] w (Res W G H (λ_ Ho r=>∃b,Ho=[Itm.box b 87 [v]]∧ .func (.func 117) #[] #[.pointer (some ⟨b,0,none⟩)]=r)):=by
 obtain⟨a,c,rfl,_,_⟩:=h.len
 refine(callsIn_wide (n:=3)).1 ((values_inI Fence.wide 3 trivial rfl a x.length c w).mono ?_)
 rintro e w' ⟨rfl,rfl⟩
 exact⟨_,rfl,G,[.box w.heap.size 87 [.slice a x.length c]],GLe.refl G,m.alloc 87 [.slice a x.length c],_,rfl,rfl⟩
open Go.Sx in
theorem Wk.Q1 {W w:World}{G:GH}{H:List Itm}{b0:Nat}{v:Value}{x y:List Int}(m:Mem W G w (Itm.box b0 87 [v]::H))(h:RSl (RI .i64) G v x)(hy:D.Q1 x=some y):
  Calls Tryz.prog 121 #[.slice none 0 0,.func (.func 117) #[] #[.pointer (some ⟨b0,0,none⟩)]] w (Res W G H (λG' Ho r=>∃r' it,Ho=[it]∧r'=r∧Go.Sx.Ow (RI .i64) 3 G' it r' y)):=by
 unfold D.Q1 at hy
 split at hy
 ·rename_i hx
  obtain rfl:=Option.some.inj hy
  have hb0:w.heap[b0]? =some (.cells #[v] 87 (0,0)):=m.items 0 (.box b0 87 [v]) rfl
  have hc:w.cell? ⟨b0,0,none⟩=some v:=by simp[World.cell?,hb0]
  have hl:b0<w.heap.size:=(Array.getElem?_eq_some_iff.1 hb0).1
  have hI:IntsI w.heap.size w v x:=by
   obtain⟨vs,hA,h⟩:=h
   rcases h with⟨rfl,rfl⟩|⟨⟨b,off,sp⟩,cap,rfl,h1,h2,h3⟩
   ·exact .inl ⟨⟨_,_,rfl⟩,rfl⟩
   ·rcases Nat.eq_zero_or_pos x.length with h0|h0
    ·refine .inl ⟨⟨_,_,by rw[h0]⟩,List.eq_nil_of_length_eq_zero h0⟩
    ·obtain⟨c,hc,_⟩:=hA.get (i:=0) (x:=x[0]) (by simp[h0])
     obtain⟨rfl,cs,t,f,k1,_⟩:=h3 0 c hc
     refine .inr ⟨b,off,cap,rfl,.inr (m.glt k1),λj hj=> ?_⟩
     obtain⟨c,hc,hR⟩:=hA.get (i:=j) (x:=x[j]) (by simp[hj])
     have:=(h3 j c hc).2.get m
     rw[this,show c= .int .i64 x[j] from hR]
     simp[hj]
  refine(callsIn_wide (n:=3)).1 ((AppendSeq_inI Fence.wide 3 trivial trivial rfl (by omega) b0 v x (by unfold maxLen;omega) (by omega) w hl hc hI).mono ?_)
  rintro e w' ⟨r,rfl,hrow,hB⟩
  refine⟨_,rfl,G,[.row r 3 1 x.length (x.map (Value.int .i64))],GLe.refl G,?_,r,_,rfl,rfl,x.map (Value.int .i64),rfl,by simp,λi c z h1 h2=> ?_⟩
  ·refine m.tail.add hB.os hB.tape hB.output (λz hz=>hB.block z hz) ?_ ?_
   ·refine⟨hrow.1,?_⟩
    rcases hrow.2 with hn|⟨g,cap,cur,e1,_,e3⟩
    ·exact .inl hn
    ·exact .inr ⟨g,cap,cur,e1,Nat.zero_le _,e3⟩
   ·intro z hz
    rcases hrow.2 with⟨rfl,_⟩|⟨g,cap,cur,rfl,e2,e3⟩
    ·simp[Itm.foot,Value.ownBlock] at hz
    ·simp[Itm.foot,Value.ownBlock] at hz;omega
  ·rw[List.getElem?_map,h2] at h1
   exact(Option.some.inj h1).symm
 ·cases hy
end YtijemnhleooagaaGreatDoor
end Go.Proofs



namespace Go.Sx
noncomputable def DG.insertionSort {α:Type}(cmp:α→α→Option Int)(x0:(List α))(x1:Int)(x2:Int):Option (((List α))):=
 (Aw (σ:=(List α)×Int) (ρ:=((List α))) (fun(s_560:(List α)×Int)=>match s_560 with|(l_563,x_566)=>cond (decide (x_566<x2)) ((Aw (σ:=(List α)×Int) (ρ:=((List α))) (fun(s_984:(List α)×Int)=>match s_984 with|(l_987,x_990)=>(cond (decide (x1<x_990)) ((idx l_987 x_990).bind λe_1079=>(idx l_987 (IntKind.i64.wrap (x_990-1))).bind λe_1085=>(cmp e_1079 e_1085).bind λy_1091=>some (decide (y_1091<0))) (some false)).bind λb_1077=>cond b_1077 ((idx l_987 (IntKind.i64.wrap (x_990-1))).bind λe_1097=>(idx l_987 x_990).bind λe_1103=>(idx l_987 x_990).bind λe_1109=>(idx (l_987.set (Int.toNat x_990) e_1097) (IntKind.i64.wrap (x_990-1))).bind λe_1117=>some (.inl (((l_987.set (Int.toNat x_990) e_1097).set (Int.toNat (IntKind.i64.wrap (x_990-1))) e_1103),(IntKind.i64.wrap (x_990-1))))) (some (.inr l_987))) (l_563,x_566)).bind λl_1056=>some (.inl (l_1056,(IntKind.i64.wrap (x_566+1))))) (some (.inr l_563))) (x0,(IntKind.i64.wrap (x1+1)))).bind λl_844=>some l_844
noncomputable def DG.siftDown {α:Type}(cmp:α→α→Option Int)(x0:(List α))(x1:Int)(x2:Int)(x3:Int):Option (((List α))):=
 (Aw (σ:=(List α)×Int) (ρ:=((List α)) ⊕ (((List α)))) (fun(s_186:(List α)×Int)=>match s_186 with|(l_189,x_192)=>cond (decide (x2≤(IntKind.i64.wrap ((IntKind.i64.wrap (2*x_192))+1)))) (some (.inr (.inl l_189))) ((cond (decide ((IntKind.i64.wrap ((IntKind.i64.wrap ((IntKind.i64.wrap (2*x_192))+1))+1))<x2)) ((idx l_189 (IntKind.i64.wrap (x3+(IntKind.i64.wrap ((IntKind.i64.wrap (2*x_192))+1))))).bind λe_307=>(idx l_189 (IntKind.i64.wrap ((IntKind.i64.wrap (x3+(IntKind.i64.wrap ((IntKind.i64.wrap (2*x_192))+1))))+1))).bind λe_313=>(cmp e_307 e_313).bind λy_319=>some (decide (y_319<0))) (some false)).bind λb_305=>((cond b_305 (some (IntKind.i64.wrap ((IntKind.i64.wrap ((IntKind.i64.wrap (2*x_192))+1))+1))) (some (IntKind.i64.wrap ((IntKind.i64.wrap (2*x_192))+1))):Option (Int))).bind λx_328=>(idx l_189 (IntKind.i64.wrap (x3+x_192))).bind λe_331=>(idx l_189 (IntKind.i64.wrap (x3+x_328))).bind λe_337=>(cmp e_331 e_337).bind λy_343=>cond (!(decide (y_343<0))) (some (.inr (.inr l_189))) ((idx l_189 (IntKind.i64.wrap (x3+x_328))).bind λe_349=>(idx l_189 (IntKind.i64.wrap (x3+x_192))).bind λe_355=>(idx l_189 (IntKind.i64.wrap (x3+x_192))).bind λe_361=>(idx (l_189.set (Int.toNat (IntKind.i64.wrap (x3+x_192))) e_349) (IntKind.i64.wrap (x3+x_328))).bind λe_369=>some (.inl (((l_189.set (Int.toNat (IntKind.i64.wrap (x3+x_192))) e_349).set (Int.toNat (IntKind.i64.wrap (x3+x_328))) e_355),x_328))))) (x0,x1)).bind λzz=>match zz with| .inl l_283=>(some l_283)| .inr z=>(some z)
noncomputable def DG.heapSort {α:Type}(cmp:α→α→Option Int)(x0:(List α))(x1:Int)(x2:Int):Option (((List α))):=
 (Aw (σ:=(List α)×Int) (ρ:=((List α))) (fun(s_30:(List α)×Int)=>match s_30 with|(l_33,x_36)=>cond (decide ((0:Int)≤x_36)) ((DG.siftDown cmp l_33 x_36 (IntKind.i64.wrap (x2-x1)) x1).bind λy_54=>some (.inl (y_54,(IntKind.i64.wrap (x_36-1))))) (some (.inr l_33))) (x0,(IntKind.i64.wrap (Int.tdiv (IntKind.i64.wrap ((IntKind.i64.wrap (x2-x1))-1)) 2)))).bind λl_49=>(Aw (σ:=(List α)×Int) (ρ:=((List α))) (fun(s_144:(List α)×Int)=>match s_144 with|(l_147,x_150)=>cond (decide ((0:Int)≤x_150)) ((idx l_147 (IntKind.i64.wrap (x1+x_150))).bind λe_194=>(idx l_147 x1).bind λe_200=>(idx l_147 x1).bind λe_206=>(idx (l_147.set (Int.toNat x1) e_194) (IntKind.i64.wrap (x1+x_150))).bind λe_214=>(DG.siftDown cmp ((l_147.set (Int.toNat x1) e_194).set (Int.toNat (IntKind.i64.wrap (x1+x_150))) e_200) 0 x_150 x1).bind λy_220=>some (.inl (y_220,(IntKind.i64.wrap (x_150-1))))) (some (.inr l_147))) (l_49,(IntKind.i64.wrap ((IntKind.i64.wrap (x2-x1))-1)))).bind λl_189=>some l_189
noncomputable def DG.breakPatterns {α:Type}(cmp:α→α→Option Int)(x0:(List α))(x1:Int)(x2:Int):Option (((List α))):=
 cond (decide ((8:Int)≤(IntKind.i64.wrap (x2-x1)))) ((D.H0 (IntKind.i64.wrap (x2-x1))).bind λy_4=>(Aw (σ:=(List α)×Int×Int) (ρ:=((List α))) (fun(s_103:(List α)×Int×Int)=>match s_103 with|(l_106,x_109,x_110)=>cond (decide (x_109≤(IntKind.i64.wrap ((IntKind.i64.wrap (x1+(IntKind.i64.wrap ((IntKind.i64.wrap (Int.tdiv (IntKind.i64.wrap (x2-x1)) 4))*2))))+1)))) ((D.S0 x_110).bind λy_159=>((cond (decide ((IntKind.i64.wrap (x2-x1))≤(IntKind.i64.wrap (iand .u64 y_159.1 (IntKind.u64.wrap (y_4-1)))))) (some (IntKind.i64.wrap ((IntKind.i64.wrap (iand .u64 y_159.1 (IntKind.u64.wrap (y_4-1))))-(IntKind.i64.wrap (x2-x1))))) (some (IntKind.i64.wrap (iand .u64 y_159.1 (IntKind.u64.wrap (y_4-1))))):Option (Int))).bind λx_170=>(idx l_106 (IntKind.i64.wrap (x1+x_170))).bind λe_173=>(idx l_106 x_109).bind λe_179=>(idx l_106 x_109).bind λe_185=>(idx (l_106.set (Int.toNat x_109) e_173) (IntKind.i64.wrap (x1+x_170))).bind λe_193=>some (.inl (((l_106.set (Int.toNat x_109) e_173).set (Int.toNat (IntKind.i64.wrap (x1+x_170))) e_179),(IntKind.i64.wrap (x_109+1)),y_159.2))) (some (.inr l_106))) (x0,(IntKind.i64.wrap ((IntKind.i64.wrap (x1+(IntKind.i64.wrap ((IntKind.i64.wrap (Int.tdiv (IntKind.i64.wrap (x2-x1)) 4))*2))))-1)),(IntKind.u64.wrap (IntKind.i64.wrap (x2-x1))))).bind λl_154=>some l_154) (some x0)
noncomputable def DG.order2 {α:Type}(cmp:α→α→Option Int)(x0:(List α))(x1:Int)(x2:Int)(x3_0:Int):Option (Int×Int×((List α))×Int):=
 (idx x0 x2).bind λe_1=>(idx x0 x1).bind λe_7=>(cmp e_1 e_7).bind λy_13=>cond (decide (y_13<0)) (some (x2,x1,x0,(IntKind.i64.wrap (x3_0+1)))) (some (x1,x2,x0,x3_0))
noncomputable def DG.median {α:Type}(cmp:α→α→Option Int)(x0:(List α))(x1:Int)(x2:Int)(x3:Int)(x4_0:Int):Option (Int×((List α))×Int):=
 (DG.order2 cmp x0 x1 x2 x4_0).bind λy_1=>(DG.order2 cmp y_1.2.2.1 y_1.2.1 x3 y_1.2.2.2).bind λy_10=>(DG.order2 cmp y_10.2.2.1 y_1.1 y_10.1 y_10.2.2.2).bind λy_19=>some (y_19.2.1,y_19.2.2.1,y_19.2.2.2)
noncomputable def DG.medianAdjacent {α:Type}(cmp:α→α→Option Int)(x0:(List α))(x1:Int)(x2_0:Int):Option (Int×((List α))×Int):=
 (DG.median cmp x0 (IntKind.i64.wrap (x1-1)) x1 (IntKind.i64.wrap (x1+1)) x2_0).bind λy_1=>some (y_1.1,y_1.2.1,y_1.2.2)
noncomputable def DG.choosePivot {α:Type}(cmp:α→α→Option Int)(x0:(List α))(x1:Int)(x2:Int):Option (Int×Int×((List α))):=
 cond (decide ((8:Int)≤(IntKind.i64.wrap (x2-x1)))) (((cond (decide ((50:Int)≤(IntKind.i64.wrap (x2-x1)))) ((DG.medianAdjacent cmp x0 (IntKind.i64.wrap (x1+(IntKind.i64.wrap ((IntKind.i64.wrap (Int.tdiv (IntKind.i64.wrap (x2-x1)) 4))*1)))) 0).bind λy_44=>(DG.medianAdjacent cmp y_44.2.1 (IntKind.i64.wrap (x1+(IntKind.i64.wrap ((IntKind.i64.wrap (Int.tdiv (IntKind.i64.wrap (x2-x1)) 4))*2)))) y_44.2.2).bind λy_53=>(DG.medianAdjacent cmp y_53.2.1 (IntKind.i64.wrap (x1+(IntKind.i64.wrap ((IntKind.i64.wrap (Int.tdiv (IntKind.i64.wrap (x2-x1)) 4))*3)))) y_53.2.2).bind λy_62=>some (y_62.2.1,y_44.1,y_53.1,y_62.1,y_62.2.2)) (some (x0,(IntKind.i64.wrap (x1+(IntKind.i64.wrap ((IntKind.i64.wrap (Int.tdiv (IntKind.i64.wrap (x2-x1)) 4))*1)))),(IntKind.i64.wrap (x1+(IntKind.i64.wrap ((IntKind.i64.wrap (Int.tdiv (IntKind.i64.wrap (x2-x1)) 4))*2)))),(IntKind.i64.wrap (x1+(IntKind.i64.wrap ((IntKind.i64.wrap (Int.tdiv (IntKind.i64.wrap (x2-x1)) 4))*3)))),0)):Option ((List α)×Int×Int×Int×Int))).bind fun(l_35,x_38,x_39,x_40,x_41)=>(DG.median cmp l_35 x_38 x_39 x_40 x_41).bind λy_71=>cond (y_71.2.2==0) (some (y_71.1,1,y_71.2.1)) (cond (y_71.2.2==12) (some (y_71.1,2,y_71.2.1)) (some (y_71.1,0,y_71.2.1)))) (cond ((0:Int)==0) (some ((IntKind.i64.wrap (x1+(IntKind.i64.wrap ((IntKind.i64.wrap (Int.tdiv (IntKind.i64.wrap (x2-x1)) 4))*2)))),1,x0)) (cond ((0:Int)==12) (some ((IntKind.i64.wrap (x1+(IntKind.i64.wrap ((IntKind.i64.wrap (Int.tdiv (IntKind.i64.wrap (x2-x1)) 4))*2)))),2,x0)) (some ((IntKind.i64.wrap (x1+(IntKind.i64.wrap ((IntKind.i64.wrap (Int.tdiv (IntKind.i64.wrap (x2-x1)) 4))*2)))),0,x0))))
noncomputable def DG.reverseRange {α:Type}(cmp:α→α→Option Int)(x0:(List α))(x1:Int)(x2:Int):Option (((List α))):=
 (Aw (σ:=(List α)×Int×Int) (ρ:=((List α))) (fun(s_65:(List α)×Int×Int)=>match s_65 with|(l_68,x_71,x_72)=>cond (decide (x_71<x_72)) ((idx l_68 x_72).bind λe_107=>(idx l_68 x_71).bind λe_113=>(idx l_68 x_71).bind λe_119=>(idx (l_68.set (Int.toNat x_71) e_107) x_72).bind λe_127=>some (.inl (((l_68.set (Int.toNat x_71) e_107).set (Int.toNat x_72) e_113),(IntKind.i64.wrap (x_71+1)),(IntKind.i64.wrap (x_72-1))))) (some (.inr l_68))) (x0,x1,(IntKind.i64.wrap (x2-1)))).bind λl_102=>some l_102
noncomputable def DG.partialInsertionSort {α:Type}(cmp:α→α→Option Int)(x0:(List α))(x1:Int)(x2:Int):Option (Bool×((List α))):=
 (Aw (σ:=(List α)×Int×Int) (ρ:=((List α)) ⊕ (Bool×((List α)))) (fun(s_1625:(List α)×Int×Int)=>match s_1625 with|(l_1628,x_1631,x_1632)=>cond (decide (x_1632<5)) ((Aw (σ:=Int) (ρ:=(Int)) (fun(x_2530:Int)=>(cond (decide (x_2530<x2)) ((idx l_1628 x_2530).bind λe_2591=>(idx l_1628 (IntKind.i64.wrap (x_2530-1))).bind λe_2597=>(cmp e_2591 e_2597).bind λy_2603=>some (!(decide (y_2603<0)))) (some false)).bind λb_2589=>cond b_2589 (some (.inl (IntKind.i64.wrap (x_2530+1)))) (some (.inr x_2530))) x_1631).bind λx_2570=>cond (x_2570==x2) (some (.inr (.inr (true,l_1628)))) (cond (decide ((IntKind.i64.wrap (x2-x1))<50)) (some (.inr (.inr (false,l_1628)))) ((idx l_1628 (IntKind.i64.wrap (x_2570-1))).bind λe_2611=>(idx l_1628 x_2570).bind λe_2617=>(idx l_1628 x_2570).bind λe_2623=>(idx (l_1628.set (Int.toNat x_2570) e_2611) (IntKind.i64.wrap (x_2570-1))).bind λe_2631=>((cond (decide ((2:Int)≤(IntKind.i64.wrap (x_2570-x1)))) ((Aw (σ:=(List α)×Int) (ρ:=((List α))) (fun(s_2947:(List α)×Int)=>match s_2947 with|(l_2950,x_2953)=>cond (decide ((1:Int)≤x_2953)) ((idx l_2950 x_2953).bind λe_3006=>(idx l_2950 (IntKind.i64.wrap (x_2953-1))).bind λe_3012=>(cmp e_3006 e_3012).bind λy_3018=>cond (!(decide (y_3018<0))) (some (.inr l_2950)) ((idx l_2950 (IntKind.i64.wrap (x_2953-1))).bind λe_3024=>(idx l_2950 x_2953).bind λe_3030=>(idx l_2950 x_2953).bind λe_3036=>(idx (l_2950.set (Int.toNat x_2953) e_3024) (IntKind.i64.wrap (x_2953-1))).bind λe_3044=>some (.inl (((l_2950.set (Int.toNat x_2953) e_3024).set (Int.toNat (IntKind.i64.wrap (x_2953-1))) e_3030),(IntKind.i64.wrap (x_2953-1)))))) (some (.inr l_2950))) (((l_1628.set (Int.toNat x_2570) e_2611).set (Int.toNat (IntKind.i64.wrap (x_2570-1))) e_2617),(IntKind.i64.wrap (x_2570-1)))).bind λl_3001=>some l_3001) (some ((l_1628.set (Int.toNat x_2570) e_2611).set (Int.toNat (IntKind.i64.wrap (x_2570-1))) e_2617)):Option ((List α)))).bind λl_2843=>cond (decide ((2:Int)≤(IntKind.i64.wrap (x2-x_2570)))) ((Aw (σ:=(List α)×Int) (ρ:=((List α))) (fun(s_3150:(List α)×Int)=>match s_3150 with|(l_3153,x_3156)=>cond (decide (x_3156<x2)) ((idx l_3153 x_3156).bind λe_3209=>(idx l_3153 (IntKind.i64.wrap (x_3156-1))).bind λe_3215=>(cmp e_3209 e_3215).bind λy_3221=>cond (!(decide (y_3221<0))) (some (.inr l_3153)) ((idx l_3153 (IntKind.i64.wrap (x_3156-1))).bind λe_3227=>(idx l_3153 x_3156).bind λe_3233=>(idx l_3153 x_3156).bind λe_3239=>(idx (l_3153.set (Int.toNat x_3156) e_3227) (IntKind.i64.wrap (x_3156-1))).bind λe_3247=>some (.inl (((l_3153.set (Int.toNat x_3156) e_3227).set (Int.toNat (IntKind.i64.wrap (x_3156-1))) e_3233),(IntKind.i64.wrap (x_3156+1)))))) (some (.inr l_3153))) (l_2843,(IntKind.i64.wrap (x_2570+1)))).bind λl_3204=>some (.inl (l_3204,x_2570,(IntKind.i64.wrap (x_1632+1))))) (some (.inl (l_2843,x_2570,(IntKind.i64.wrap (x_1632+1)))))))) (some (.inr (.inl l_1628)))) (x0,(IntKind.i64.wrap (x1+1)),0)).bind λzz=>match zz with| .inl l_2442=>(some (false,l_2442))| .inr z=>(some z)
noncomputable def DG.partitionEqual {α:Type}(cmp:α→α→Option Int)(x0:(List α))(x1:Int)(x2:Int)(x3:Int):Option (Int×((List α))):=
 (idx x0 x3).bind λe_1=>(idx x0 x1).bind λe_7=>(idx x0 x1).bind λe_13=>(idx (x0.set (Int.toNat x1) e_1) x3).bind λe_21=>(Aw (σ:=(List α)×Int×Int) (ρ:=((List α)×Int)) (fun(s_739:(List α)×Int×Int)=>match s_739 with|(l_742,x_745,x_746)=>(Aw (σ:=Int) (ρ:=(Int)) (fun(x_1188:Int)=>(cond (decide (x_1188≤x_746)) ((idx l_742 x1).bind λe_1249=>(idx l_742 x_1188).bind λe_1255=>(cmp e_1249 e_1255).bind λy_1261=>some (!(decide (y_1261<0)))) (some false)).bind λb_1247=>cond b_1247 (some (.inl (IntKind.i64.wrap (x_1188+1)))) (some (.inr x_1188))) x_745).bind λx_1228=>(Aw (σ:=Int) (ρ:=(Int)) (fun(x_1350:Int)=>(cond (decide (x_1228≤x_1350)) ((idx l_742 x1).bind λe_1411=>(idx l_742 x_1350).bind λe_1417=>(cmp e_1411 e_1417).bind λy_1423=>some (decide (y_1423<0))) (some false)).bind λb_1409=>cond b_1409 (some (.inl (IntKind.i64.wrap (x_1350-1)))) (some (.inr x_1350))) x_746).bind λx_1390=>cond (decide (x_1390<x_1228)) (some (.inr (l_742,x_1228))) ((idx l_742 x_1390).bind λe_1430=>(idx l_742 x_1228).bind λe_1436=>(idx l_742 x_1228).bind λe_1442=>(idx (l_742.set (Int.toNat x_1228) e_1430) x_1390).bind λe_1450=>some (.inl (((l_742.set (Int.toNat x_1228) e_1430).set (Int.toNat x_1390) e_1436),(IntKind.i64.wrap (x_1228+1)),(IntKind.i64.wrap (x_1390-1)))))) (((x0.set (Int.toNat x1) e_1).set (Int.toNat x3) e_7),(IntKind.i64.wrap (x1+1)),(IntKind.i64.wrap (x2-1)))).bind fun(l_1100,x_1103)=>some (x_1103,l_1100)
noncomputable def DG.partition {α:Type}(cmp:α→α→Option Int)(x0:(List α))(x1:Int)(x2:Int)(x3:Int):Option (Int×Bool×((List α))):=
 (idx x0 x3).bind λe_1=>(idx x0 x1).bind λe_7=>(idx x0 x1).bind λe_13=>(idx (x0.set (Int.toNat x1) e_1) x3).bind λe_21=>(Aw (σ:=Int) (ρ:=(Int)) (fun(x_110:Int)=>(cond (decide (x_110≤(IntKind.i64.wrap (x2-1)))) ((idx ((x0.set (Int.toNat x1) e_1).set (Int.toNat x3) e_7) x_110).bind λe_171=>(idx ((x0.set (Int.toNat x1) e_1).set (Int.toNat x3) e_7) x1).bind λe_177=>(cmp e_171 e_177).bind λy_183=>some (decide (y_183<0))) (some false)).bind λb_169=>cond b_169 (some (.inl (IntKind.i64.wrap (x_110+1)))) (some (.inr x_110))) (IntKind.i64.wrap (x1+1))).bind λx_150=>(Aw (σ:=Int) (ρ:=(Int)) (fun(x_272:Int)=>(cond (decide (x_150≤x_272)) ((idx ((x0.set (Int.toNat x1) e_1).set (Int.toNat x3) e_7) x_272).bind λe_333=>(idx ((x0.set (Int.toNat x1) e_1).set (Int.toNat x3) e_7) x1).bind λe_339=>(cmp e_333 e_339).bind λy_345=>some (!(decide (y_345<0)))) (some false)).bind λb_331=>cond b_331 (some (.inl (IntKind.i64.wrap (x_272-1)))) (some (.inr x_272))) (IntKind.i64.wrap (x2-1))).bind λx_312=>cond (decide (x_312<x_150)) ((idx ((x0.set (Int.toNat x1) e_1).set (Int.toNat x3) e_7) x1).bind λe_352=>(idx ((x0.set (Int.toNat x1) e_1).set (Int.toNat x3) e_7) x_312).bind λe_358=>(idx ((x0.set (Int.toNat x1) e_1).set (Int.toNat x3) e_7) x_312).bind λe_364=>(idx (((x0.set (Int.toNat x1) e_1).set (Int.toNat x3) e_7).set (Int.toNat x_312) e_352) x1).bind λe_372=>some (x_312,true,((((x0.set (Int.toNat x1) e_1).set (Int.toNat x3) e_7).set (Int.toNat x_312) e_352).set (Int.toNat x1) e_358))) ((idx ((x0.set (Int.toNat x1) e_1).set (Int.toNat x3) e_7) x_312).bind λe_378=>(idx ((x0.set (Int.toNat x1) e_1).set (Int.toNat x3) e_7) x_150).bind λe_384=>(idx ((x0.set (Int.toNat x1) e_1).set (Int.toNat x3) e_7) x_150).bind λe_390=>(idx (((x0.set (Int.toNat x1) e_1).set (Int.toNat x3) e_7).set (Int.toNat x_150) e_378) x_312).bind λe_398=>(Aw (σ:=(List α)×Int×Int) (ρ:=((List α)×Int)) (fun(s_1116:(List α)×Int×Int)=>match s_1116 with|(l_1119,x_1122,x_1123)=>(Aw (σ:=Int) (ρ:=(Int)) (fun(x_1565:Int)=>(cond (decide (x_1565≤x_1123)) ((idx l_1119 x_1565).bind λe_1626=>(idx l_1119 x1).bind λe_1632=>(cmp e_1626 e_1632).bind λy_1638=>some (decide (y_1638<0))) (some false)).bind λb_1624=>cond b_1624 (some (.inl (IntKind.i64.wrap (x_1565+1)))) (some (.inr x_1565))) x_1122).bind λx_1605=>(Aw (σ:=Int) (ρ:=(Int)) (fun(x_1727:Int)=>(cond (decide (x_1605≤x_1727)) ((idx l_1119 x_1727).bind λe_1788=>(idx l_1119 x1).bind λe_1794=>(cmp e_1788 e_1794).bind λy_1800=>some (!(decide (y_1800<0)))) (some false)).bind λb_1786=>cond b_1786 (some (.inl (IntKind.i64.wrap (x_1727-1)))) (some (.inr x_1727))) x_1123).bind λx_1767=>cond (decide (x_1767<x_1605)) (some (.inr (l_1119,x_1767))) ((idx l_1119 x_1767).bind λe_1807=>(idx l_1119 x_1605).bind λe_1813=>(idx l_1119 x_1605).bind λe_1819=>(idx (l_1119.set (Int.toNat x_1605) e_1807) x_1767).bind λe_1827=>some (.inl (((l_1119.set (Int.toNat x_1605) e_1807).set (Int.toNat x_1767) e_1813),(IntKind.i64.wrap (x_1605+1)),(IntKind.i64.wrap (x_1767-1)))))) (((((x0.set (Int.toNat x1) e_1).set (Int.toNat x3) e_7).set (Int.toNat x_150) e_378).set (Int.toNat x_312) e_384),(IntKind.i64.wrap (x_150+1)),(IntKind.i64.wrap (x_312-1)))).bind fun(l_1477,x_1480)=>(idx l_1477 x1).bind λe_1833=>(idx l_1477 x_1480).bind λe_1839=>(idx l_1477 x_1480).bind λe_1845=>(idx (l_1477.set (Int.toNat x_1480) e_1833) x1).bind λe_1853=>some (x_1480,false,((l_1477.set (Int.toNat x_1480) e_1833).set (Int.toNat x1) e_1839)))
noncomputable def DG.pdqsortR {α:Type}(cmp:α→α→Option Int):Nat→((List α))→Int→Int→Int→Option (((List α)))
 |0,_,_,_,_=>none
 |fuel+1,x0,x1,x2,x3=>(Aw (σ:=(List α)×Int×Int×Int×Bool×Bool) (ρ:=(((List α)))) (fun(s_398:(List α)×Int×Int×Int×Bool×Bool)=>match s_398 with|(l_401,x_404,x_405,x_406,b_407,b_408)=>cond (decide ((IntKind.i64.wrap (x_405-x_404))≤12)) ((DG.insertionSort cmp l_401 x_404 x_405).bind λy_411=>some (.inr y_411)) (cond (x_406==0) ((DG.heapSort cmp l_401 x_404 x_405).bind λy_421=>some (.inr y_421)) (((cond (!b_407) ((DG.breakPatterns cmp l_401 x_404 x_405).bind λy_449=>some (y_449,(IntKind.i64.wrap (x_406-1)))) (some (l_401,x_406)):Option ((List α)×Int))).bind fun(l_443,x_446)=>(DG.choosePivot cmp l_443 x_404 x_405).bind λy_458=>((cond (y_458.2.1==2) ((DG.reverseRange cmp y_458.2.2 x_404 x_405).bind λy_487=>some (y_487,(IntKind.i64.wrap ((IntKind.i64.wrap (x_405-1))-(IntKind.i64.wrap (y_458.1-x_404)))),1)) (some (y_458.2.2,y_458.1,y_458.2.1)):Option ((List α)×Int×Int))).bind fun(l_480,x_483,x_484)=>((cond ((b_407&&b_408)&&(x_484==1)) ((DG.partialInsertionSort cmp l_480 x_404 x_405).bind λy_521=>cond y_521.1 (some (.inr y_521.2)) (some (.inl y_521.2))) (some (.inl l_480)):Option (((List α)) ⊕ (((List α)))))).bind λq=>match q with| .inl l_516=>((cond (decide ((0:Int)<x_404)) ((idx l_516 (IntKind.i64.wrap (x_404-1))).bind λe_550=>(idx l_516 x_483).bind λe_556=>(cmp e_550 e_556).bind λy_562=>some (!(decide (y_562<0)))) (some false)).bind λb_548=>cond b_548 ((DG.partitionEqual cmp l_516 x_404 x_405 x_483).bind λy_568=>some (.inl (y_568.2,y_568.1,x_405,x_446,b_407,b_408))) ((DG.partition cmp l_516 x_404 x_405 x_483).bind λy_577=>cond (decide ((IntKind.i64.wrap (y_577.1-x_404))<(IntKind.i64.wrap (x_405-y_577.1)))) ((DG.pdqsortR cmp fuel y_577.2.2 x_404 y_577.1 x_446).bind λy_587=>some (.inl (y_587,(IntKind.i64.wrap (y_577.1+1)),x_405,x_446,(decide ((IntKind.i64.wrap (Int.tdiv (IntKind.i64.wrap (x_405-x_404)) 8))≤(IntKind.i64.wrap (y_577.1-x_404)))),y_577.2.1))) ((DG.pdqsortR cmp fuel y_577.2.2 (IntKind.i64.wrap (y_577.1+1)) x_405 x_446).bind λy_596=>some (.inl (y_596,x_404,y_577.1,x_446,(decide ((IntKind.i64.wrap (Int.tdiv (IntKind.i64.wrap (x_405-x_404)) 8))≤(IntKind.i64.wrap (x_405-y_577.1)))),y_577.2.1)))))| .inr q=>(some (.inr q))))) (x0,x1,x2,x3,true,true)).bind λz=>some z
noncomputable def DG.pdqsort {α:Type}(cmp:α→α→Option Int)(x0:(List α))(x1:Int)(x2:Int)(x3:Int):Option (((List α))):=DG.pdqsortR cmp BT x0 x1 x2 x3
noncomputable def DG.Sort {α:Type}(cmp:α→α→Option Int)(x0:(List α)):Option (((List α))):=
 (D.j0 (IntKind.u64.wrap (x0.length:Int))).bind λy_1=>(DG.pdqsort cmp x0 0 (x0.length:Int) y_1).bind λy_8=>some y_8
end Go.Sx

namespace Go.Sx.Gs
class Srtd (α:Type) where
 dflt:α
 key:α→Int
 good:α→Prop
 cmp:α→α→Option Int
 law:∀x y,good x→good y→∃v,cmp x y=some v∧decide (v<0)=decide (key x<key y)
variable {α : Type} [Srtd α]
def el (l:List α)(i:Int):α:=l.getD i.toNat Srtd.dflt
def at' (l:List α)(i:Int):Int:=Srtd.key (el l i)
theorem Bo {l:List α}{i:Int}(h0:0≤i)(h1:i<l.length):idx l i=some (el l i):=by
 unfold idx el
 rw[if_pos h0]
 have:i.toNat<l.length:=by omega
 simp[this]
theorem el_set {l:List α}{i k:Int}{x:α}(h0:0≤i)(h1:i<l.length)(hk:0≤k):el (l.set i.toNat x) k=if k=i then x else el l k:=by
 unfold el
 by_cases h:k=i
 ·subst h
  have:k.toNat<l.length:=by omega
  simp[this]
 ·rw[if_neg h]
  have:i.toNat≠k.toNat:=by omega
  simp[List.getD_eq_getElem?_getD,List.getElem?_set_ne this]
def sw (l:List α)(i j:Int):List α:=(l.set i.toNat (el l j)).set j.toNat (el l i)
theorem sw_len (l:List α)(i j:Int):(sw l i j).length=l.length:=by simp[sw]
theorem BR {l:List α}{i j k:Int}(hi:0≤i)(hi':i<l.length)(hj:0≤j)(hj':j<l.length)(hk:0≤k):
  at' (sw l i j) k=if k=j then at' l i else if k=i then at' l j else at' l k:=by
 unfold sw at'
 rw[el_set hj (by simpa using hj') hk]
 split
 ·rfl
 ·rw[el_set hi hi' hk]
  split<;>rfl
omit [Srtd α] in
theorem Dl (z:α):∀(l:List α) (j:Nat),j<l.length→List.Perm (l.set j z) (z::l.eraseIdx j)
 |[],j,h=>by simp at h
 |x::l,0,_=>by simp
 |x::l,j+1,h=>by
  simp only[List.set_cons_succ,List.eraseIdx_cons_succ]
  exact((Dl z l j (by simpa using h)).cons x).trans (List.Perm.swap _ _ _)
omit [Srtd α] in
theorem perm_erase (l:List α)(j:Nat)(h:j<l.length):List.Perm l (l[j]::l.eraseIdx j):=by
 have:=Dl l[j] l j h
 rwa [List.set_getElem_self] at this
omit [Srtd α] in
theorem set_perm :∀(l:List α) (i j:Nat) (x y:α),l[i]? =some x→l[j]? =some y→List.Perm ((l.set i y).set j x) l
 |[],i,j,x,y,h,_=>by simp at h
 |z::l,0,0,x,y,h,h'=>by simp at h h';subst h;simp
 |z::l,0,j+1,x,y,h,h'=>by
  simp at h h'
  subst h
  simp only[List.set_cons_zero,List.set_cons_succ]
  obtain⟨hj,rfl⟩:=List.getElem?_eq_some_iff.1 h'
  have h1:=Dl z l j hj
  have h2:=perm_erase l j hj
  exact((h1.cons _).trans (List.Perm.swap _ _ _)).trans (h2.symm.cons z)
 |z::l,i+1,0,x,y,h,h'=>by
  simp at h h'
  subst h'
  simp only[List.set_cons_zero,List.set_cons_succ]
  obtain⟨hj,rfl⟩:=List.getElem?_eq_some_iff.1 h
  have h1:=Dl z l i hj
  have h2:=perm_erase l i hj
  exact((h1.cons _).trans (List.Perm.swap _ _ _)).trans (h2.symm.cons z)
 |z::l,i+1,j+1,x,y,h,h'=>by
  simp at h h'
  simp only[List.set_cons_succ]
  exact(set_perm l i j x y h h').cons z
theorem sw_perm {l:List α}{i j:Int}(hi:0≤i)(hi':i<l.length)(hj:0≤j)(hj':j<l.length):List.Perm (sw l i j) l:=by
 have h1:i.toNat<l.length:=by omega
 have h2:j.toNat<l.length:=by omega
 exact set_perm l i.toNat j.toNat _ _ (by simp[el,h1]) (by simp[el,h2])
structure Rg (a b:Int)(l l':List α):Prop where
 len:l'.length=l.length
 perm:List.Perm l' l
 out:∀k,0≤k→(k<a∨b≤k)→at' l' k=at' l k
 all:∀Q:Int→Prop,(∀k,a≤k→k<b→Q (at' l k))→∀k,a≤k→k<b→Q (at' l' k)
theorem Rg.refl (a b:Int)(l:List α):Rg a b l l:=⟨rfl,List.Perm.refl _,λ_ _ _=>rfl,λ_ h=>h⟩
theorem Rg.trans {a b:Int}{l l' l'':List α}(h:Rg a b l l')(h':Rg a b l' l''):Rg a b l l'':=
 ⟨h'.len.trans h.len,h'.perm.trans h.perm,λk h0 hk=>(h'.out k h0 hk).trans (h.out k h0 hk),λQ hQ=>h'.all Q (h.all Q hQ)⟩
theorem Rg.swap {a b i j:Int}{l:List α}(ha:0≤a)(hb:b≤l.length)(hi:a≤i)(hi':i<b)(hj:a≤j)(hj':j<b):Rg a b l (sw l i j):=by
 refine⟨sw_len _ _ _,sw_perm (by omega) (by omega) (by omega) (by omega),λk h0 hk=> ?_,λQ hQ k h1 h2=> ?_⟩
 ·rw[BR (by omega) (by omega) (by omega) (by omega) h0,if_neg (by omega),if_neg (by omega)]
 ·rw[BR (by omega) (by omega) (by omega) (by omega) (by omega)]
  split
  ·exact hQ i hi hi'
  ·split
   ·exact hQ j hj hj'
   ·exact hQ k h1 h2
theorem Rg.widen {a b a' b':Int}{l l':List α}(h:Rg a b l l')(ha:a'≤a)(hb:b≤b')(h0:0≤a'):Rg a' b' l l':=by
 refine⟨h.len,h.perm,λk h0 hk=>h.out k h0 (by omega),λQ hQ k h1 h2=> ?_⟩
 by_cases hk:a≤k∧k<b
 ·exact h.all Q (λk h3 h4=>hQ k (by omega) (by omega)) k hk.1 hk.2
 ·rw[h.out k (by omega) (by omega)];exact hQ k h1 h2
def Srt (l:List α)(a b:Int):Prop:=∀i j,a≤i→i<j→j<b→at' l i≤at' l j
def Good (l:List α):Prop:=∀x∈l,Srtd.good x
theorem Rg.good {a b:Int}{l l':List α}(h:Rg a b l l')(hg:Good l):Good l':=λx hx=>hg x (h.perm.mem_iff.1 hx)
theorem Good.el {l:List α}(h:Good l){i:Int}(h0:0≤i)(h1:i<l.length):Srtd.good (el l i):=by
 unfold Gs.el
 have:i.toNat<l.length:=by omega
 rw[AW this]
 exact h _ (List.getElem_mem this)
theorem C7 {l:List α}(h:Good l){i j:Int}(h0:0≤i)(h1:i<l.length)(h2:0≤j)(h3:j<l.length):∃v,Srtd.cmp (el l i) (el l j)=some v∧decide (v<0)=decide (at' l i<at' l j):=
 Srtd.law _ _ (h.el h0 h1) (h.el h2 h3)
theorem BX {l:List α}{i j:Int}{x:α}(h0:0≤i)(h1:i<l.length):idx (l.set j.toNat x) i=some (el (l.set j.toNat x) i):=Bo h0 (by simpa using h1)
end Go.Sx.Gs

namespace Go.Sx.Gs
variable {α : Type} [Srtd α]
theorem F3 (l0:List α)(a b:Int)(ha:0≤a)(hab:a≤b)(hb:b≤l0.length)(hlen:l0.length≤1100000)(hG:Good l0):
  ∃l',DG.insertionSort Srtd.cmp l0 a b=some l'∧Rg a b l0 l'∧Srt l' a b:=by
 unfold DG.insertionSort
 rw[w64 (show-9223372036854775808≤a+1 by omega) (by omega)]
 refine AZ (λs=>Rg a b l0 s.1∧Srt s.1 a s.2∧a+1≤s.2∧s.2≤b+1) (λs=>(b-s.2).toNat) (λr=>Rg a b l0 r∧Srt r a b) ?_ ?_ ?_
 ·rintro⟨l,i⟩ ⟨hR,hS,h1,h2⟩
  dsimp only at hR hS h1 h2 ⊢
  have hll:=hR.len
  by_cases hi:i<b
  ·simp only[hi,decide_true,cT]
   rw[w64 (show-9223372036854775808≤i+1 by omega) (by omega)]
   refine AZ (λs=>Rg a b l0 s.1∧a≤s.2∧s.2≤i∧∀p q,a≤p→p<q→q≤i→q≠s.2→at' s.1 p≤at' s.1 q) (λs=>(s.2-a).toNat) (λr=>Rg a b l0 r∧Srt r a (i+1)) ?_ ?_ ?_
   ·rintro⟨m,j⟩ ⟨hR',g1,g2,hS'⟩
    dsimp only at hR' g1 g2 hS' ⊢
    have hml:=hR'.len
    rw[w64 (show-9223372036854775808≤j-1 by omega) (by omega)]
    by_cases hj:a<j
    ·have r1:idx m j=some (el m j):=Bo (by omega) (by omega)
     have r2:idx m (j-1)=some (el m (j-1)):=Bo (by omega) (by omega)
     have r3:∀x,idx (m.set j.toNat x) (j-1)=some (el (m.set j.toNat x) (j-1)):=λx=>BX (by omega) (by omega)
     obtain⟨v,cv,hv⟩:=C7 (hR'.good hG) (i:=j) (j:=j-1) (by omega) (by omega) (by omega) (by omega)
     by_cases hlt:at' m j<at' m (j-1)
     ·refine⟨.inl (sw m j (j-1),j-1),?_,⟨hR'.trans (Rg.swap ha (by omega) (by omega) (by omega) (by omega) (by omega)),by dsimp only;omega,by dsimp only;omega,?_⟩,by dsimp only;omega⟩
      ·simp only[r1,r2,r3,hj,cv,hv,hlt,decide_true,cT,bs]
       rfl
      ·intro p q k1 k2 k3 k4
       dsimp only at k4 ⊢
       rw[BR (by omega) (by omega) (by omega) (by omega) (by omega),BR (by omega) (by omega) (by omega) (by omega) (by omega)]
       by_cases c1:q=j
       ·subst c1
        rw[if_neg (show¬q=q-1 by omega),if_pos rfl]
        by_cases c2:p=q-1
        ·rw[if_pos c2];omega
        ·rw[if_neg c2,if_neg (by omega)]
         exact hS' p (q-1) k1 (by omega) (by omega) (by omega)
       ·rw[if_neg (show¬q=j-1 by omega),if_neg c1]
        by_cases c2:p=j-1
        ·rw[if_pos c2]
         exact hS' j q (by omega) (by omega) k3 c1
        ·rw[if_neg c2]
         by_cases c3:p=j
         ·rw[if_pos c3]
          exact hS' (j-1) q (by omega) (by omega) k3 c1
         ·rw[if_neg c3]
          exact hS' p q k1 k2 k3 c1
     ·refine⟨.inr m,?_,hR',?_⟩
      ·simp only[r1,r2,hj,cv,hv,hlt,decide_true,decide_false,cT,cF,bs]
      ·intro p q k1 k2 k3
       by_cases c1:q=j
       ·subst c1
        by_cases c2:p=q-1
        ·subst c2;omega
        ·have:=hS' p (q-1) k1 (by omega) (by omega) (by omega)
         omega
       ·exact hS' p q k1 k2 (by omega) c1
    ·refine⟨.inr m,?_,hR',?_⟩
     ·simp only[hj,decide_false,cF,bs]
     ·intro p q k1 k2 k3
      exact hS' p q k1 k2 (by omega) (by omega)
   ·exact⟨hR,by dsimp only;omega,Int.le_refl _,λp q k1 k2 k3 k4=>hS p q k1 k2 (by dsimp only at k4 ⊢;omega)⟩
   ·rintro r ⟨hR',hS'⟩
    exact⟨.inl (r,i+1),rfl,⟨hR',hS',by dsimp only;omega,by dsimp only;omega⟩,by dsimp only;omega⟩
  ·refine⟨.inr l,by simp only[hi,decide_false,cF],hR,?_⟩
   intro p q k1 k2 k3
   exact hS p q k1 k2 (by omega)
 ·exact⟨Rg.refl _ _ _,λp q k1 k2 k3=>by dsimp only at k3;omega,by dsimp only;omega,by dsimp only;omega⟩
 ·rintro r hr
  exact⟨r,rfl,hr⟩
end Go.Sx.Gs

namespace Go.Sx.Gs
variable {α : Type} [Srtd α]
theorem Gy (l0:List α)(a b:Int)(ha:0≤a)(hab:a≤b)(hb:b≤l0.length)(hlen:l0.length≤1100000):
  ∃l',DG.reverseRange Srtd.cmp l0 a b=some l'∧Rg a b l0 l':=by
 unfold DG.reverseRange
 rw[w64 (show-9223372036854775808≤b-1 by omega) (by omega)]
 refine AZ (λs=>Rg a b l0 s.1∧a≤s.2.1∧s.2.1≤b∧s.2.2<b∧a-1≤s.2.2) (λs=>(s.2.2-s.2.1).toNat) (λr=>Rg a b l0 r) ?_ ?_ ?_
 ·rintro⟨l,i,j⟩ ⟨hR,h1,h2,h3,h4⟩
  dsimp only at hR h1 h2 h3 h4 ⊢
  have hll:=hR.len
  by_cases hi:i<j
  ·have r1:idx l i=some (el l i):=Bo (by omega) (by omega)
   have r2:idx l j=some (el l j):=Bo (by omega) (by omega)
   have r3:∀x,idx (l.set i.toNat x) j=some (el (l.set i.toNat x) j):=λx=>BX (by omega) (by omega)
   rw[w64 (show-9223372036854775808≤i+1 by omega) (by omega),w64 (show-9223372036854775808≤j-1 by omega) (by omega)]
   refine⟨.inl (sw l i j,i+1,j-1),?_,⟨hR.trans (Rg.swap ha (by omega) (by omega) (by omega) (by omega) (by omega)),by dsimp only;omega,by dsimp only;omega,by dsimp only;omega,by dsimp only;omega⟩,by dsimp only;omega⟩
   simp only[r1,r2,r3,hi,decide_true,cT,bs]
   rfl
  ·exact⟨.inr l,by simp only[hi,decide_false,cF],hR⟩
 ·exact⟨Rg.refl _ _ _,by dsimp only;omega,by dsimp only;omega,by dsimp only;omega,by dsimp only;omega⟩
 ·rintro r hr
  exact⟨r,rfl,hr⟩
theorem scanUp {β:Type}{k:Int→Option β}{Q:β→Prop}(l:List α)(hG:Good l)(a hi i0:Int)(ha:0≤a)(ha':a<l.length)(h0:0≤i0)(h1:i0≤hi+1)(h2:hi<l.length)(hlen:l.length≤1100000)
  (hk:∀i,i0≤i→i≤hi+1→(∀q,i0≤q→q<i→at' l q<at' l a)→(i≤hi→¬at' l i<at' l a)→∃y,k i=some y∧Q y):
  ∃y,(Aw (σ:=Int) (ρ:=(Int)) (fun(x:Int)=>(cond (decide (x≤hi)) ((idx l x).bind λe=>(idx l a).bind λe'=>(Srtd.cmp e e').bind λy=>some (decide (y<0))) (some false)).bind λb=>cond b (some (.inl (IntKind.i64.wrap (x+1)))) (some (.inr x))) i0).bind k=some y∧Q y:=by
 refine AZ (λi=>i0≤i∧i≤hi+1∧∀q,i0≤q→q<i→at' l q<at' l a) (λi=>(hi+1-i).toNat) (λi=>i0≤i∧i≤hi+1∧(∀q,i0≤q→q<i→at' l q<at' l a)∧(i≤hi→¬at' l i<at' l a)) ?_ ?_ ?_
 ·rintro i ⟨g1,g2,g3⟩
  by_cases hi':i≤hi
  ·have r1:idx l i=some (el l i):=Bo (by omega) (by omega)
   have r2:idx l a=some (el l a):=Bo (by omega) (by omega)
   obtain⟨v,cv,hv⟩:=C7 hG (i:=i) (j:=a) (by omega) (by omega) (by omega) (by omega)
   by_cases hlt:at' l i<at' l a
   ·refine⟨.inl (i+1),?_,⟨by omega,by omega,λq q1 q2=> ?_⟩,by dsimp only;omega⟩
    ·simp only[r1,r2,hi',cv,hv,hlt,decide_true,cT,bs]
     rw[w64 (by omega) (by omega)]
    ·by_cases e:q=i
     ·rw[e];exact hlt
     ·exact g3 q q1 (by omega)
   ·exact⟨.inr i,by simp only[r1,r2,hi',cv,hv,hlt,decide_true,decide_false,cT,cF,bs],g1,g2,g3,λ_=>hlt⟩
  ·exact⟨.inr i,by simp only[hi',decide_false,cF,bs],g1,g2,g3,λh=>absurd h hi'⟩
 ·exact⟨Int.le_refl _,h1,λq q1 q2=>by omega⟩
 ·rintro i ⟨g1,g2,g3,g4⟩
  exact hk i g1 g2 g3 g4
theorem scanDown {β:Type}{k:Int→Option β}{Q:β→Prop}(l:List α)(hG:Good l)(a lo j0:Int)(ha:0≤a)(ha':a<l.length)(h0:0≤lo)(h1:lo≤j0+1)(h2:j0<l.length)(hlen:l.length≤1100000)
  (hk:∀j,lo≤j+1→j≤j0→(∀q,j<q→q≤j0→¬at' l q<at' l a)→(lo≤j→at' l j<at' l a)→∃y,k j=some y∧Q y):
  ∃y,(Aw (σ:=Int) (ρ:=(Int)) (fun(x:Int)=>(cond (decide (lo≤x)) ((idx l x).bind λe=>(idx l a).bind λe'=>(Srtd.cmp e e').bind λy=>some (!(decide (y<0)))) (some false)).bind λb=>cond b (some (.inl (IntKind.i64.wrap (x-1)))) (some (.inr x))) j0).bind k=some y∧Q y:=by
 refine AZ (λj=>lo≤j+1∧j≤j0∧∀q,j<q→q≤j0→¬at' l q<at' l a) (λj=>(j+1-lo).toNat) (λj=>lo≤j+1∧j≤j0∧(∀q,j<q→q≤j0→¬at' l q<at' l a)∧(lo≤j→at' l j<at' l a)) ?_ ?_ ?_
 ·rintro j ⟨g1,g2,g3⟩
  by_cases hi':lo≤j
  ·have r1:idx l j=some (el l j):=Bo (by omega) (by omega)
   have r2:idx l a=some (el l a):=Bo (by omega) (by omega)
   obtain⟨v,cv,hv⟩:=C7 hG (i:=j) (j:=a) (by omega) (by omega) (by omega) (by omega)
   by_cases hlt:at' l j<at' l a
   ·exact⟨.inr j,by simp only[r1,r2,hi',cv,hv,hlt,decide_true,Bool.not_true,cT,cF,bs],g1,g2,g3,λ_=>hlt⟩
   ·refine⟨.inl (j-1),?_,⟨by omega,by omega,λq q1 q2=> ?_⟩,by dsimp only;omega⟩
    ·simp only[r1,r2,hi',cv,hv,hlt,decide_true,decide_false,Bool.not_false,cT,bs]
     rw[w64 (by omega) (by omega)]
    ·by_cases e:q=j
     ·rw[e];exact hlt
     ·exact g3 q (by omega) q2
  ·exact⟨.inr j,by simp only[hi',decide_false,cF,bs],g1,g2,g3,λh=>absurd h hi'⟩
 ·exact⟨h1,Int.le_refl _,λq q1 q2=>by omega⟩
 ·rintro j ⟨g1,g2,g3,g4⟩
  exact hk j g1 g2 g3 g4
structure Parted (l0 l':List α)(a b mid:Int):Prop where
 rg:Rg a b l0 l'
 lo:a≤mid
 hi:mid<b
 left:∀k,a≤k→k<mid→at' l' k≤at' l' mid
 right:∀k,mid<k→k<b→at' l' mid≤at' l' k
theorem partition_spec (l0:List α)(a b p:Int)(ha:0≤a)(hb:b≤l0.length)(hlen:l0.length≤1100000)(hG:Good l0)(hp:a≤p)(hp':p<b):
  ∃y,DG.partition Srtd.cmp l0 a b p=some y∧Parted l0 y.2.2 a b y.1:=by
 unfold DG.partition
 have r1:idx l0 p=some (el l0 p):=Bo (by omega) (by omega)
 have r2:idx l0 a=some (el l0 a):=Bo (by omega) (by omega)
 have r3:∀x,idx (l0.set a.toNat x) p=some (el (l0.set a.toNat x) p):=λx=>BX (by omega) (by omega)
 simp only[r1,r2,r3,bs]
 rw[show (l0.set a.toNat (el l0 p)).set p.toNat (el l0 a)=sw l0 a p from rfl]
 have hR0:Rg a b l0 (sw l0 a p):=Rg.swap ha hb (by omega) (by omega) hp hp'
 generalize sw l0 a p=m0 at hR0 ⊢
 have hm0:=hR0.len
 rw[w64 (show-9223372036854775808≤b-1 by omega) (by omega),w64 (show-9223372036854775808≤a+1 by omega) (by omega)]
 refine scanUp m0 (hR0.good hG) a (b-1) (a+1) ha (by omega) (by omega) (by omega) (by omega) (by omega) (λi i1 i2 i3 i4=> ?_)
 refine scanDown m0 (hR0.good hG) a i (b-1) ha (by omega) (by omega) (by omega) (by omega) (by omega) (λj j1 j2 j3 j4=> ?_)
 have q1:idx m0 a=some (el m0 a):=Bo (by omega) (by omega)
 have q2:idx m0 j=some (el m0 j):=Bo (by omega) (by omega)
 by_cases hij:j<i
 ·have q3:∀x,idx (m0.set j.toNat x) a=some (el (m0.set j.toNat x) a):=λx=>BX (by omega) (by omega)
  refine⟨(j,true,sw m0 j a),?_,⟨hR0.trans (Rg.swap ha (by omega) (by omega) (by omega) (by omega) (by omega)),by dsimp only;omega,by dsimp only;omega,λk k1 k2=> ?_,λk k1 k2=> ?_⟩⟩
  ·simp only[q1,q2,q3,hij,decide_true,cT,bs]
   rfl
  ·dsimp only at k1 k2 ⊢
   rw[BR (by omega) (by omega) (by omega) (by omega) (by omega),BR (by omega) (by omega) (by omega) (by omega) (by omega)]
   rw[if_neg (show¬j=a by omega),if_pos rfl]
   by_cases e:k=a
   ·rw[if_pos e]
    have:=i3 j (by omega) (by omega);omega
   ·rw[if_neg e,if_neg (by omega)]
    have:=i3 k (by omega) (by omega);omega
  ·dsimp only at k1 k2 ⊢
   rw[BR (by omega) (by omega) (by omega) (by omega) (by omega),BR (by omega) (by omega) (by omega) (by omega) (by omega)]
   rw[if_neg (show¬k=a by omega),if_neg (show¬k=j by omega)]
   have hk:=j3 k (by omega) (by omega)
   by_cases e:j=a
   ·rw[if_pos e];subst e;omega
   ·rw[if_neg e,if_pos rfl];omega
 ·have q4:idx m0 i=some (el m0 i):=Bo (by omega) (by omega)
  have q5:∀x,idx (m0.set i.toNat x) j=some (el (m0.set i.toNat x) j):=λx=>BX (by omega) (by omega)
  simp only[q1,q2,q4,q5,hij,decide_false,cF,bs]
  rw[show (m0.set i.toNat (el m0 j)).set j.toNat (el m0 i)=sw m0 i j from rfl]
  have hia:=i4 (by omega)
  have hja:=j4 (by omega)
  have hne:i<j:=by
   rcases Int.lt_or_eq_of_le (show i≤j by omega) with h|h
   ·exact h
   ·subst h;exact absurd hja hia
  have hR1:Rg a b l0 (sw m0 i j):=hR0.trans (Rg.swap ha (by omega) (by omega) (by omega) (by omega) (by omega))
  have ea:at' (sw m0 i j) a=at' m0 a:=by rw[BR (by omega) (by omega) (by omega) (by omega) (by omega),if_neg (by omega),if_neg (by omega)]
  have hlo:∀q,a+1≤q→q<i+1→at' (sw m0 i j) q<at' (sw m0 i j) a:=λq h1 h2=>by
   rw[ea,BR (by omega) (by omega) (by omega) (by omega) (by omega),if_neg (by omega)]
   by_cases e:q=i
   ·rw[if_pos e];exact hja
   ·rw[if_neg e];exact i3 q h1 (by omega)
  have hhi:∀q,j-1<q→q<b→¬at' (sw m0 i j) q<at' (sw m0 i j) a:=λq h1 h2=>by
   rw[ea,BR (by omega) (by omega) (by omega) (by omega) (by omega)]
   by_cases e:q=j
   ·rw[if_pos e];exact hia
   ·rw[if_neg e,if_neg (by omega)];exact j3 q (by omega) (by omega)
  rw[w64 (show-9223372036854775808≤i+1 by omega) (by omega),w64 (show-9223372036854775808≤j-1 by omega) (by omega)]
  generalize sw m0 i j=m1 at hR1 hlo hhi ⊢
  refine AZ (λs=>Rg a b l0 s.1∧a+1≤s.2.1∧s.2.1≤s.2.2+1∧s.2.2<b∧(∀q,a+1≤q→q<s.2.1→at' s.1 q<at' s.1 a)∧(∀q,s.2.2<q→q<b→¬at' s.1 q<at' s.1 a)) (λs=>(s.2.2+1-s.2.1).toNat)
   (λs=>Rg a b l0 s.1∧a≤s.2∧s.2<b∧(∀q,a+1≤q→q≤s.2→at' s.1 q<at' s.1 a)∧(∀q,s.2<q→q<b→¬at' s.1 q<at' s.1 a)) ?_ ?_ ?_
  ·rintro⟨m,u,v⟩ ⟨hR,g1,g2,g3,g4,g5⟩
   dsimp only at hR g1 g2 g3 g4 g5 ⊢
   have hml:=hR.len
   refine scanUp m (hR.good hG) a v u ha (by omega) (by omega) (by omega) (by omega) (by omega) (λi i1 i2 i3 i4=> ?_)
   refine scanDown m (hR.good hG) a i v ha (by omega) (by omega) (by omega) (by omega) (by omega) (λj j1 j2 j3 j4=> ?_)
   have f1:∀q,a+1≤q→q<i→at' m q<at' m a:=λq h1 h2=>by
    by_cases h:q<u
    ·exact g4 q h1 h
    ·exact i3 q (by omega) h2
   have f2:∀q,j<q→q<b→¬at' m q<at' m a:=λq h1 h2=>by
    by_cases h:q≤v
    ·exact j3 q h1 h
    ·exact g5 q (by omega) h2
   by_cases hij:j<i
   ·exact⟨.inr (m,j),by simp only[hij,decide_true,cT],hR,by dsimp only;omega,by dsimp only;omega,λq h1 h2=>f1 q h1 (by dsimp only at h2;omega),f2⟩
   ·have t1:idx m i=some (el m i):=Bo (by omega) (by omega)
    have t2:idx m j=some (el m j):=Bo (by omega) (by omega)
    have t3:∀x,idx (m.set i.toNat x) j=some (el (m.set i.toNat x) j):=λx=>BX (by omega) (by omega)
    have hia:=i4 (by omega)
    have hja:=j4 (by omega)
    have hne:i<j:=by
     rcases Int.lt_or_eq_of_le (show i≤j by omega) with h|h
     ·exact h
     ·subst h;exact absurd hja hia
    have ea:at' (sw m i j) a=at' m a:=by rw[BR (by omega) (by omega) (by omega) (by omega) (by omega),if_neg (by omega),if_neg (by omega)]
    rw[w64 (show-9223372036854775808≤i+1 by omega) (by omega),w64 (show-9223372036854775808≤j-1 by omega) (by omega)]
    refine⟨.inl (sw m i j,i+1,j-1),?_,⟨hR.trans (Rg.swap ha (by omega) (by omega) (by omega) (by omega) (by omega)),by dsimp only;omega,by dsimp only;omega,by dsimp only;omega,λq h1 h2=> ?_,λq h1 h2=> ?_⟩,by dsimp only;omega⟩
    ·simp only[t1,t2,t3,hij,decide_false,cF,bs]
     rfl
    ·dsimp only at h2 ⊢
     rw[ea,BR (by omega) (by omega) (by omega) (by omega) (by omega),if_neg (by omega)]
     by_cases e:q=i
     ·rw[if_pos e];exact hja
     ·rw[if_neg e];exact f1 q h1 (by omega)
    ·dsimp only at h1 ⊢
     rw[ea,BR (by omega) (by omega) (by omega) (by omega) (by omega)]
     by_cases e:q=j
     ·rw[if_pos e];exact hia
     ·rw[if_neg e,if_neg (by omega)];exact f2 q (by omega) h2
  ·exact⟨hR1,by dsimp only;omega,by dsimp only;omega,by dsimp only;omega,hlo,hhi⟩
  ·rintro⟨m,v⟩ ⟨hR,g1,g2,g3,g4⟩
   dsimp only at hR g1 g2 g3 g4 ⊢
   have hml:=hR.len
   have t1:idx m a=some (el m a):=Bo (by omega) (by omega)
   have t2:idx m v=some (el m v):=Bo (by omega) (by omega)
   have t3:∀x,idx (m.set v.toNat x) a=some (el (m.set v.toNat x) a):=λx=>BX (by omega) (by omega)
   refine⟨(v,false,sw m v a),?_,⟨hR.trans (Rg.swap ha (by omega) (by omega) (by omega) (by omega) (by omega)),g1,g2,λk k1 k2=> ?_,λk k1 k2=> ?_⟩⟩
   ·simp only[t1,t2,t3,bs]
    rfl
   ·dsimp only at k1 k2 ⊢
    rw[BR (by omega) (by omega) (by omega) (by omega) (by omega),BR (by omega) (by omega) (by omega) (by omega) (by omega)]
    rw[if_neg (show¬v=a by omega),if_pos rfl]
    by_cases e:k=a
    ·rw[if_pos e]
     have:=g3 v (by omega) (by omega);omega
    ·rw[if_neg e,if_neg (by omega)]
     have:=g3 k (by omega) (by omega);omega
   ·dsimp only at k1 k2 ⊢
    rw[BR (by omega) (by omega) (by omega) (by omega) (by omega),BR (by omega) (by omega) (by omega) (by omega) (by omega)]
    rw[if_neg (show¬k=a by omega),if_neg (show¬k=v by omega)]
    have hk:=g4 k (by omega) (by omega)
    by_cases e:v=a
    ·rw[if_pos e];subst e;omega
    ·rw[if_neg e,if_pos rfl];omega
end Go.Sx.Gs

namespace Go.Sx.Gs
variable {α : Type} [Srtd α]
theorem scanUp2 {β:Type}{k:Int→Option β}{Q:β→Prop}(l:List α)(hG:Good l)(a hi i0:Int)(ha:0≤a)(ha':a<l.length)(h0:0≤i0)(h1:i0≤hi+1)(h2:hi<l.length)(hlen:l.length≤1100000)
  (hk:∀i,i0≤i→i≤hi+1→(∀q,i0≤q→q<i→¬at' l a<at' l q)→(i≤hi→at' l a<at' l i)→∃y,k i=some y∧Q y):
  ∃y,(Aw (σ:=Int) (ρ:=(Int)) (fun(x:Int)=>(cond (decide (x≤hi)) ((idx l a).bind λe=>(idx l x).bind λe'=>(Srtd.cmp e e').bind λy=>some (!(decide (y<0)))) (some false)).bind λb=>cond b (some (.inl (IntKind.i64.wrap (x+1)))) (some (.inr x))) i0).bind k=some y∧Q y:=by
 refine AZ (λi=>i0≤i∧i≤hi+1∧∀q,i0≤q→q<i→¬at' l a<at' l q) (λi=>(hi+1-i).toNat) (λi=>i0≤i∧i≤hi+1∧(∀q,i0≤q→q<i→¬at' l a<at' l q)∧(i≤hi→at' l a<at' l i)) ?_ ?_ ?_
 ·rintro i ⟨g1,g2,g3⟩
  by_cases hi':i≤hi
  ·have r1:idx l i=some (el l i):=Bo (by omega) (by omega)
   have r2:idx l a=some (el l a):=Bo (by omega) (by omega)
   obtain⟨v,cv,hv⟩:=C7 hG (i:=a) (j:=i) (by omega) (by omega) (by omega) (by omega)
   by_cases hlt:at' l a<at' l i
   ·exact⟨.inr i,by simp only[r1,r2,hi',cv,hv,hlt,decide_true,Bool.not_true,cT,cF,bs],g1,g2,g3,λ_=>hlt⟩
   ·refine⟨.inl (i+1),?_,⟨by omega,by omega,λq q1 q2=> ?_⟩,by dsimp only;omega⟩
    ·simp only[r1,r2,hi',cv,hv,hlt,decide_true,decide_false,Bool.not_false,cT,bs]
     rw[w64 (by omega) (by omega)]
    ·by_cases e:q=i
     ·rw[e];exact hlt
     ·exact g3 q q1 (by omega)
  ·exact⟨.inr i,by simp only[hi',decide_false,cF,bs],g1,g2,g3,λh=>absurd h hi'⟩
 ·exact⟨Int.le_refl _,h1,λq q1 q2=>by omega⟩
 ·rintro i ⟨g1,g2,g3,g4⟩
  exact hk i g1 g2 g3 g4
theorem scanDown2 {β:Type}{k:Int→Option β}{Q:β→Prop}(l:List α)(hG:Good l)(a lo j0:Int)(ha:0≤a)(ha':a<l.length)(h0:0≤lo)(h1:lo≤j0+1)(h2:j0<l.length)(hlen:l.length≤1100000)
  (hk:∀j,lo≤j+1→j≤j0→(∀q,j<q→q≤j0→at' l a<at' l q)→(lo≤j→¬at' l a<at' l j)→∃y,k j=some y∧Q y):
  ∃y,(Aw (σ:=Int) (ρ:=(Int)) (fun(x:Int)=>(cond (decide (lo≤x)) ((idx l a).bind λe=>(idx l x).bind λe'=>(Srtd.cmp e e').bind λy=>some (decide (y<0))) (some false)).bind λb=>cond b (some (.inl (IntKind.i64.wrap (x-1)))) (some (.inr x))) j0).bind k=some y∧Q y:=by
 refine AZ (λj=>lo≤j+1∧j≤j0∧∀q,j<q→q≤j0→at' l a<at' l q) (λj=>(j+1-lo).toNat) (λj=>lo≤j+1∧j≤j0∧(∀q,j<q→q≤j0→at' l a<at' l q)∧(lo≤j→¬at' l a<at' l j)) ?_ ?_ ?_
 ·rintro j ⟨g1,g2,g3⟩
  by_cases hi':lo≤j
  ·have r1:idx l j=some (el l j):=Bo (by omega) (by omega)
   have r2:idx l a=some (el l a):=Bo (by omega) (by omega)
   obtain⟨v,cv,hv⟩:=C7 hG (i:=a) (j:=j) (by omega) (by omega) (by omega) (by omega)
   by_cases hlt:at' l a<at' l j
   ·refine⟨.inl (j-1),?_,⟨by omega,by omega,λq q1 q2=> ?_⟩,by dsimp only;omega⟩
    ·simp only[r1,r2,hi',cv,hv,hlt,decide_true,cT,bs]
     rw[w64 (by omega) (by omega)]
    ·by_cases e:q=j
     ·rw[e];exact hlt
     ·exact g3 q (by omega) q2
   ·exact⟨.inr j,by simp only[r1,r2,hi',cv,hv,hlt,decide_true,decide_false,cT,cF,bs],g1,g2,g3,λ_=>hlt⟩
  ·exact⟨.inr j,by simp only[hi',decide_false,cF,bs],g1,g2,g3,λh=>absurd h hi'⟩
 ·exact⟨h1,Int.le_refl _,λq q1 q2=>by omega⟩
 ·rintro j ⟨g1,g2,g3,g4⟩
  exact hk j g1 g2 g3 g4
theorem FU (l0:List α)(a b p:Int)(ha:0≤a)(hb:b≤l0.length)(hlen:l0.length≤1100000)(hG:Good l0)(hp:a≤p)(hp':p<b):
  ∃y,DG.partitionEqual Srtd.cmp l0 a b p=some y∧Rg a b l0 y.2∧a<y.1∧y.1≤b∧(∀k,a≤k→k<y.1→at' y.2 k≤at' l0 p)∧(∀k,y.1≤k→k<b→at' l0 p<at' y.2 k):=by
 unfold DG.partitionEqual
 have r1:idx l0 p=some (el l0 p):=Bo (by omega) (by omega)
 have r2:idx l0 a=some (el l0 a):=Bo (by omega) (by omega)
 have r3:∀x,idx (l0.set a.toNat x) p=some (el (l0.set a.toNat x) p):=λx=>BX (by omega) (by omega)
 simp only[r1,r2,r3,bs]
 rw[show (l0.set a.toNat (el l0 p)).set p.toNat (el l0 a)=sw l0 a p from rfl]
 have hR0:Rg a b l0 (sw l0 a p):=Rg.swap ha hb (by omega) (by omega) hp hp'
 have ep:at' (sw l0 a p) a=at' l0 p:=by
  rw[BR (by omega) (by omega) (by omega) (by omega) (by omega)]
  by_cases e:a=p
  ·rw[if_pos e,e]
  ·rw[if_neg e,if_pos rfl]
 generalize sw l0 a p=m0 at hR0 ep ⊢
 rw[w64 (show-9223372036854775808≤b-1 by omega) (by omega),w64 (show-9223372036854775808≤a+1 by omega) (by omega)]
 refine AZ (λs=>Rg a b l0 s.1∧a+1≤s.2.1∧s.2.1≤s.2.2+1∧s.2.2<b∧at' s.1 a=at' l0 p∧(∀q,a+1≤q→q<s.2.1→¬at' s.1 a<at' s.1 q)∧(∀q,s.2.2<q→q<b→at' s.1 a<at' s.1 q)) (λs=>(s.2.2+1-s.2.1).toNat)
  (λs=>Rg a b l0 s.1∧a+1≤s.2∧s.2≤b∧at' s.1 a=at' l0 p∧(∀q,a+1≤q→q<s.2→¬at' s.1 a<at' s.1 q)∧(∀q,s.2≤q→q<b→at' s.1 a<at' s.1 q)) ?_ ?_ ?_
 ·rintro⟨m,u,v⟩ ⟨hR,g1,g2,g3,g6,g4,g5⟩
  dsimp only at hR g1 g2 g3 g4 g5 g6 ⊢
  have hml:=hR.len
  refine scanUp2 m (hR.good hG) a v u ha (by omega) (by omega) (by omega) (by omega) (by omega) (λi i1 i2 i3 i4=> ?_)
  refine scanDown2 m (hR.good hG) a i v ha (by omega) (by omega) (by omega) (by omega) (by omega) (λj j1 j2 j3 j4=> ?_)
  have f1:∀q,a+1≤q→q<i→¬at' m a<at' m q:=λq h1 h2=>by
   by_cases h:q<u
   ·exact g4 q h1 h
   ·exact i3 q (by omega) h2
  have f2:∀q,j<q→q<b→at' m a<at' m q:=λq h1 h2=>by
   by_cases h:q≤v
   ·exact j3 q h1 h
   ·exact g5 q (by omega) h2
  by_cases hij:j<i
  ·exact⟨.inr (m,i),by simp only[hij,decide_true,cT],hR,by dsimp only;omega,by dsimp only;omega,g6,f1,λq h1 h2=>f2 q (by dsimp only at h1;omega) h2⟩
  ·have t1:idx m i=some (el m i):=Bo (by omega) (by omega)
   have t2:idx m j=some (el m j):=Bo (by omega) (by omega)
   have t3:∀x,idx (m.set i.toNat x) j=some (el (m.set i.toNat x) j):=λx=>BX (by omega) (by omega)
   have hia:=i4 (by omega)
   have hja:=j4 (by omega)
   have hne:i<j:=by
    rcases Int.lt_or_eq_of_le (show i≤j by omega) with h|h
    ·exact h
    ·subst h;exact absurd hia hja
   have ea:at' (sw m i j) a=at' m a:=by rw[BR (by omega) (by omega) (by omega) (by omega) (by omega),if_neg (by omega),if_neg (by omega)]
   rw[w64 (show-9223372036854775808≤i+1 by omega) (by omega),w64 (show-9223372036854775808≤j-1 by omega) (by omega)]
   refine⟨.inl (sw m i j,i+1,j-1),?_,⟨hR.trans (Rg.swap ha (by omega) (by omega) (by omega) (by omega) (by omega)),by dsimp only;omega,by dsimp only;omega,by dsimp only;omega,by dsimp only;rw[ea];exact g6,λq h1 h2=> ?_,λq h1 h2=> ?_⟩,by dsimp only;omega⟩
   ·simp only[t1,t2,t3,hij,decide_false,cF,bs]
    rfl
   ·dsimp only at h2 ⊢
    rw[ea,BR (by omega) (by omega) (by omega) (by omega) (by omega),if_neg (by omega)]
    by_cases e:q=i
    ·rw[if_pos e];exact hja
    ·rw[if_neg e];exact f1 q h1 (by omega)
   ·dsimp only at h1 ⊢
    rw[ea,BR (by omega) (by omega) (by omega) (by omega) (by omega)]
    by_cases e:q=j
    ·rw[if_pos e];exact hia
    ·rw[if_neg e,if_neg (by omega)];exact f2 q (by omega) h2
 ·exact⟨hR0,by dsimp only;omega,by dsimp only;omega,by dsimp only;omega,ep,λq h1 h2=>by dsimp only at h2;omega,λq h1 h2=>by dsimp only at h1;omega⟩
 ·rintro⟨m,v⟩ ⟨hR,g1,g2,g3,g4,g5⟩
  refine⟨(v,m),rfl,hR,by dsimp only at*;omega,g2,λk k1 k2=> ?_,λk k1 k2=> ?_⟩
  ·dsimp only at*
   by_cases e:k=a
   ·rw[e,g3];exact Int.le_refl _
   ·have:=g4 k (by omega) k2;omega
  ·dsimp only at*
   have:=g5 k k1 k2;omega
theorem E4 (l:List α)(hG:Good l)(a b s:Int)(ha:0≤a)(ha':a<l.length)(hb:0≤b)(hb':b<l.length):
  ∃y,DG.order2 Srtd.cmp l a b s=some y∧y.2.2.1=l∧((y.1=a∧y.2.1=b)∨(y.1=b∧y.2.1=a)):=by
 have r1:idx l a=some (el l a):=Bo ha ha'
 have r2:idx l b=some (el l b):=Bo hb hb'
 unfold DG.order2
 obtain⟨v,cv,hv⟩:=C7 hG (i:=b) (j:=a) hb hb' ha ha'
 simp only[r1,r2,cv,hv,bs]
 by_cases h:at' l b<at' l a
 ·simp only[h,decide_true,cT];exact⟨_,rfl,rfl,.inr ⟨rfl,rfl⟩⟩
 ·simp only[h,decide_false,cF];exact⟨_,rfl,rfl,.inl ⟨rfl,rfl⟩⟩
theorem GI (l:List α)(hG:Good l)(a b c s:Int)(ha:0≤a)(ha':a<l.length)(hb:0≤b)(hb':b<l.length)(hc:0≤c)(hc':c<l.length):
  ∃y,DG.median Srtd.cmp l a b c s=some y∧y.2.1=l∧(y.1=a∨y.1=b∨y.1=c):=by
 unfold DG.median
 obtain⟨y1,h1,e1,c1⟩:=E4 l hG a b s ha ha' hb hb'
 rw[h1,bs,e1]
 have b1:0≤y1.2.1∧y1.2.1<l.length∧0≤y1.1∧y1.1<l.length:=by rcases c1 with⟨c,d⟩|⟨c,d⟩<;>rw[c,d]<;>exact⟨by assumption,by assumption,by assumption,by assumption⟩
 obtain⟨y2,h2,e2,c2⟩:=E4 l hG y1.2.1 c y1.2.2.2 b1.1 b1.2.1 hc hc'
 rw[h2,bs,e2]
 have b2:0≤y2.1∧y2.1<l.length:=by rcases c2 with⟨c,d⟩|⟨c,d⟩<;>rw[c]<;>exact⟨by omega,by omega⟩
 obtain⟨y3,h3,e3,c3⟩:=E4 l hG y1.1 y2.1 y2.2.2.2 b1.2.2.1 b1.2.2.2 b2.1 b2.2
 rw[h3,bs]
 refine⟨_,rfl,e3,?_⟩
 dsimp only
 omega
theorem DU (l:List α)(hG:Good l)(p s:Int)(h0:1≤p)(h1:p+1<l.length)(hlen:l.length≤1100000):
  ∃y,DG.medianAdjacent Srtd.cmp l p s=some y∧y.2.1=l∧p-1≤y.1∧y.1≤p+1:=by
 unfold DG.medianAdjacent
 rw[w64 (show-9223372036854775808≤p-1 by omega) (by omega),w64 (show-9223372036854775808≤p+1 by omega) (by omega)]
 obtain⟨y,h,e,c⟩:=GI l hG (p-1) p (p+1) s (by omega) (by omega) (by omega) (by omega) (by omega) (by omega)
 rw[h,bs]
 exact⟨_,rfl,e,by dsimp only;omega,by dsimp only;omega⟩
theorem GM (l:List α)(hG:Good l)(a b:Int)(ha:0≤a)(hb:b≤l.length)(h8:8≤b-a)(hlen:l.length≤1100000):
  ∃y,DG.choosePivot Srtd.cmp l a b=some y∧y.2.2=l∧a≤y.1∧y.1<b:=by
 unfold DG.choosePivot
 rw[w64 (show-9223372036854775808≤b-a by omega) (by omega)]
 have e4:(b-a).tdiv 4=(b-a)/4:=Int.tdiv_eq_ediv_of_nonneg (by omega)
 rw[e4,w64 (show-9223372036854775808≤(b-a)/4 by omega) (by omega)]
 rw[w64 (show-9223372036854775808≤(b-a)/4*1 by omega) (by omega),w64 (show-9223372036854775808≤(b-a)/4*2 by omega) (by omega),w64 (show-9223372036854775808≤(b-a)/4*3 by omega) (by omega)]
 rw[w64 (show-9223372036854775808≤a+(b-a)/4*1 by omega) (by omega),w64 (show-9223372036854775808≤a+(b-a)/4*2 by omega) (by omega),w64 (show-9223372036854775808≤a+(b-a)/4*3 by omega) (by omega)]
 simp only[h8,decide_true,cT]
 refine Cb (λq:List α×Int×Int×Int×Int=>q.1=l∧(a≤q.2.1∧q.2.1<b)∧(a≤q.2.2.1∧q.2.2.1<b)∧(a≤q.2.2.2.1∧q.2.2.2.1<b)) ?_ ?_
 ·by_cases h50:50≤b-a
  ·simp only[h50,decide_true,cT]
   obtain⟨y1,h1,e1,c1⟩:=DU l hG (a+(b-a)/4*1) 0 (by omega) (by omega) hlen
   rw[h1,bs,e1]
   obtain⟨y2,h2,e2,c2⟩:=DU l hG (a+(b-a)/4*2) y1.2.2 (by omega) (by omega) hlen
   rw[h2,bs,e2]
   obtain⟨y3,h3,e3,c3⟩:=DU l hG (a+(b-a)/4*3) y2.2.2 (by omega) (by omega) hlen
   rw[h3,bs]
   exact⟨_,rfl,e3,⟨by dsimp only;omega,by dsimp only;omega⟩,⟨by dsimp only;omega,by dsimp only;omega⟩,⟨by dsimp only;omega,by dsimp only;omega⟩⟩
  ·simp only[h50,decide_false,cF]
   exact⟨_,rfl,rfl,⟨by dsimp only;omega,by dsimp only;omega⟩,⟨by dsimp only;omega,by dsimp only;omega⟩,⟨by dsimp only;omega,by dsimp only;omega⟩⟩
 ·rintro⟨q,i,j,k,sw⟩ ⟨rfl,g1,g2,g3⟩
  dsimp only at g1 g2 g3 hb hlen ⊢
  obtain⟨y,h1,e1,c1⟩:=GI q hG i j k sw (by omega) (by omega) (by omega) (by omega) (by omega) (by omega)
  rw[h1,bs,e1]
  have hy:a≤y.1∧y.1<b:=by omega
  cases (y.2.2==0)
  ·cases (y.2.2==12)
   ·exact⟨_,rfl,rfl,hy⟩
   ·exact⟨_,rfl,rfl,hy⟩
  ·exact⟨_,rfl,rfl,hy⟩
end Go.Sx.Gs

namespace Go.Sx
theorem iand_small (y m:Int)(h0:0≤m)(h1:m<4294967296):0≤iand .u64 y m∧iand .u64 y m≤m:=by
 unfold iand
 have e:(BitVec.ofInt IntKind.u64.bits y&&&BitVec.ofInt IntKind.u64.bits m).toNat≤(BitVec.ofInt IntKind.u64.bits m).toNat:=by
  rw[BitVec.toNat_and];exact Nat.and_le_right
 have e2:(BitVec.ofInt IntKind.u64.bits m).toNat=m.toNat:=by
  rw[BitVec.toNat_ofInt]
  show (m%(2^64:Nat)).toNat=m.toNat
  congr 1
  omega
 rw[e2] at e
 generalize (BitVec.ofInt IntKind.u64.bits y&&&BitVec.ofInt IntKind.u64.bits m).toNat=t at e
 have:IntKind.u64.wrap (t:Int)=t:=by
  simp only[IntKind.wrap,IntKind.bits,IntKind.signed]
  simp
  omega
 rw[this]
 omega
theorem wu64 {x:Int}(h1:0≤x)(h2:x<18446744073709551616):IntKind.u64.wrap x=x:=by
 simp only[IntKind.wrap,IntKind.bits,IntKind.signed]
 simp
 omega
end Go.Sx

namespace Go.Sx.Gs
variable {α : Type} [Srtd α]
theorem Fm (l0:List α)(hG:Good l0)(a b:Int)(ha:0≤a)(hab:a<b)(hb:b≤l0.length)(hlen:l0.length≤1100000)
  (hpre:0<a→∀k,a≤k→k<b→at' l0 (a-1)≤at' l0 k):
  ∃y,DG.partialInsertionSort Srtd.cmp l0 a b=some y∧Rg a b l0 y.2∧(y.1=true→Srt y.2 a b):=by
 unfold DG.partialInsertionSort
 rw[w64 (show-9223372036854775808≤a+1 by omega) (by omega),w64 (show-9223372036854775808≤b-a by omega) (by omega)]
 refine AZ (λs=>Rg a b l0 s.1∧a+1≤s.2.1∧s.2.1≤b∧Srt s.1 a s.2.1∧0≤s.2.2∧s.2.2≤5) (λs=>(5-s.2.2).toNat)
  (λr=>match r with| .inl l=>Rg a b l0 l| .inr y=>Rg a b l0 y.2∧(y.1=true→Srt y.2 a b)) ?_ ⟨Rg.refl _ _ _,by dsimp only;omega,by dsimp only;omega,λp q k1 k2 k3=>by dsimp only at k3;omega,by dsimp only;omega,by dsimp only;omega⟩ ?_
 ·rintro⟨l,i,j⟩ ⟨hR,g1,g2,g3,g4,g5⟩
  dsimp only at hR g1 g2 g3 g4 g5 ⊢
  have hll:=hR.len
  by_cases hj:j<5
  ·simp only[hj,decide_true,cT]
   refine AZ (λi=>a+1≤i∧i≤b∧Srt l a i) (λi=>(b-i).toNat) (λi=>a+1≤i∧i≤b∧Srt l a i∧(i<b→at' l i<at' l (i-1))) ?_ ⟨g1,g2,g3⟩ ?_
   ·rintro i ⟨g1,g2,g3⟩
    by_cases hi:i<b
    ·have r1:idx l i=some (el l i):=Bo (by omega) (by omega)
     have r2:idx l (i-1)=some (el l (i-1)):=Bo (by omega) (by omega)
     have e1:IntKind.i64.wrap (i-1)=i-1:=w64 (by omega) (by omega)
     obtain⟨v,cv,hv⟩:=C7 (hR.good hG) (i:=i) (j:=i-1) (by omega) (by omega) (by omega) (by omega)
     by_cases hlt:at' l i<at' l (i-1)
     ·exact⟨.inr i,by simp only[r1,r2,e1,hi,cv,hv,hlt,decide_true,Bool.not_true,cT,cF,bs],g1,g2,g3,λ_=>hlt⟩
     ·refine⟨.inl (i+1),?_,⟨by omega,by omega,λp q k1 k2 k3=> ?_⟩,by dsimp only;omega⟩
      ·simp only[r1,r2,e1,hi,cv,hv,hlt,decide_true,decide_false,Bool.not_false,cT,bs]
       rw[w64 (by omega) (by omega)]
      ·by_cases e:q=i
       ·subst e
        by_cases e2:p=q-1
        ·subst e2;omega
        ·have:=g3 p (q-1) k1 (by omega) (by omega);omega
       ·exact g3 p q k1 k2 (by omega)
    ·exact⟨.inr i,by simp only[hi,decide_false,cF,bs],g1,g2,g3,λh=>absurd h hi⟩
   ·rintro i ⟨g1,g2,g3,g6⟩
    by_cases he:i=b
    ·have:(i==b)=true:=by simp[he]
     simp only[this,cT]
     exact⟨_,rfl,hR,λ_=>by rw[←he];exact g3⟩
    ·have:(i==b)=false:=by simp[he]
     simp only[this,cF]
     by_cases h50:b-a<50
     ·simp only[h50,decide_true,cT]
      exact⟨_,rfl,hR,λh=>by cases h⟩
     ·simp only[h50,decide_false,cF]
      have hib:i<b:=by omega
      have hlt:=g6 hib
      have e1:IntKind.i64.wrap (i-1)=i-1:=w64 (by omega) (by omega)
      have r1:idx l i=some (el l i):=Bo (by omega) (by omega)
      have r2:idx l (i-1)=some (el l (i-1)):=Bo (by omega) (by omega)
      have r3:∀x,idx (l.set i.toNat x) (i-1)=some (el (l.set i.toNat x) (i-1)):=λx=>BX (by omega) (by omega)
      simp only[e1,r1,r2,r3,bs]
      rw[show (l.set i.toNat (el l (i-1))).set (i-1).toNat (el l i)=sw l i (i-1) from rfl]
      have hR1:Rg a b l0 (sw l i (i-1)):=hR.trans (Rg.swap ha (by omega) (by omega) (by omega) (by omega) (by omega))
      have hS1:∀p q,a≤p→p<q→q≤i-1→q≠i-1→at' (sw l i (i-1)) p≤at' (sw l i (i-1)) q:=λp q k1 k2 k3 k4=>by
       rw[BR (by omega) (by omega) (by omega) (by omega) (by omega),BR (by omega) (by omega) (by omega) (by omega) (by omega)]
       rw[if_neg (by omega),if_neg (by omega),if_neg (by omega),if_neg (by omega)]
       exact g3 p q k1 k2 (by omega)
      generalize sw l i (i-1)=m at hR1 hS1 ⊢
      have hml:=hR1.len
      have hpre':∀m',Rg a b l0 m'→0<a→∀k,a≤k→k<b→at' m' (a-1)≤at' m' k:=λm' hr h0 k k1 k2=>by
       rw[hr.out (a-1) (by omega) (.inl (by omega))]
       exact hr.all (λx=>at' l0 (a-1)≤x) (hpre h0) k k1 k2
      rw[w64 (show-9223372036854775808≤i-a by omega) (by omega),w64 (show-9223372036854775808≤b-i by omega) (by omega),w64 (show-9223372036854775808≤i+1 by omega) (by omega),w64 (show-9223372036854775808≤j+1 by omega) (by omega)]
      refine Cb (λm=>Rg a b l0 m∧Srt m a i) ?_ ?_
      ·by_cases h2:2≤i-a
       ·simp only[h2,decide_true,cT]
        refine AZ (λs=>Rg a b l0 s.1∧a≤s.2∧s.2≤i-1∧∀p q,a≤p→p<q→q≤i-1→q≠s.2→at' s.1 p≤at' s.1 q) (λs=>s.2.toNat) (λr=>Rg a b l0 r∧Srt r a i) ?_ ⟨hR1,by dsimp only;omega,Int.le_refl _,hS1⟩ (λr hr=>⟨r,rfl,hr⟩)
        rintro⟨m,j⟩ ⟨hR',q1,q2,hS'⟩
        dsimp only at hR' q1 q2 hS' ⊢
        have hml:=hR'.len
        by_cases hj1:1≤j
        ·have f1:idx m j=some (el m j):=Bo (by omega) (by omega)
         have f2:idx m (j-1)=some (el m (j-1)):=Bo (by omega) (by omega)
         have f3:∀x,idx (m.set j.toNat x) (j-1)=some (el (m.set j.toNat x) (j-1)):=λx=>BX (by omega) (by omega)
         have e2:IntKind.i64.wrap (j-1)=j-1:=w64 (by omega) (by omega)
         obtain⟨v,cv,hv⟩:=C7 (hR'.good hG) (i:=j) (j:=j-1) (by omega) (by omega) (by omega) (by omega)
         by_cases hlt:at' m j<at' m (j-1)
         ·have hja:a<j:=by
           rcases Int.lt_or_eq_of_le q1 with h|h
           ·exact h
           ·subst h
            have:=hpre' m hR' (by omega) a (Int.le_refl _) hab
            omega
          refine⟨.inl (sw m j (j-1),j-1),?_,⟨hR'.trans (Rg.swap ha (by omega) (by omega) (by omega) (by omega) (by omega)),by dsimp only;omega,by dsimp only;omega,?_⟩,by dsimp only;omega⟩
          ·simp only[hj1,decide_true,cT,e2,f1,f2,f3,cv,hv,hlt,Bool.not_true,cF,bs]
           rfl
          ·intro p q k1 k2 k3 k4
           dsimp only at k4 ⊢
           rw[BR (by omega) (by omega) (by omega) (by omega) (by omega),BR (by omega) (by omega) (by omega) (by omega) (by omega)]
           by_cases c1:q=j
           ·subst c1
            rw[if_neg (show¬q=q-1 by omega),if_pos rfl]
            by_cases c2:p=q-1
            ·rw[if_pos c2];omega
            ·rw[if_neg c2,if_neg (by omega)]
             exact hS' p (q-1) k1 (by omega) (by omega) (by omega)
           ·rw[if_neg (show¬q=j-1 by omega),if_neg c1]
            by_cases c2:p=j-1
            ·rw[if_pos c2]
             exact hS' j q (by omega) (by omega) k3 c1
            ·rw[if_neg c2]
             by_cases c3:p=j
             ·rw[if_pos c3]
              exact hS' (j-1) q (by omega) (by omega) k3 c1
             ·rw[if_neg c3]
              exact hS' p q k1 k2 k3 c1
         ·refine⟨.inr m,?_,hR',?_⟩
          ·simp only[hj1,decide_true,cT,e2,f1,f2,cv,hv,hlt,decide_false,Bool.not_false,bs]
          ·intro p q k1 k2 k3
           by_cases c1:q=j
           ·subst c1
            by_cases c2:p=q-1
            ·subst c2;omega
            ·have:=hS' p (q-1) k1 (by omega) (by omega) (by omega)
             omega
           ·exact hS' p q k1 k2 (by omega) c1
        ·refine⟨.inr m,?_,hR',?_⟩
         ·simp only[hj1,decide_false,cF]
         ·intro p q k1 k2 k3
          exact hS' p q k1 k2 (by omega) (by omega)
       ·simp only[h2,decide_false,cF]
        exact⟨_,rfl,hR1,λp q k1 k2 k3=>by omega⟩
      ·rintro m1 ⟨hR2,hS2⟩
       have hm1:=hR2.len
       by_cases h2:2≤b-i
       ·simp only[h2,decide_true,cT]
        refine AZ (λs=>Rg a b l0 s.1∧Srt s.1 a i∧i+1≤s.2∧s.2≤b) (λs=>(b-s.2).toNat) (λr=>Rg a b l0 r∧Srt r a i) ?_ ⟨hR2,hS2,by dsimp only;omega,by dsimp only;omega⟩ ?_
        ·rintro⟨m,q⟩ ⟨hR',hS',q1,q2⟩
         dsimp only at hR' hS' q1 q2 ⊢
         have hml:=hR'.len
         by_cases hq:q<b
         ·have f1:idx m q=some (el m q):=Bo (by omega) (by omega)
          have f2:idx m (q-1)=some (el m (q-1)):=Bo (by omega) (by omega)
          have f3:∀x,idx (m.set q.toNat x) (q-1)=some (el (m.set q.toNat x) (q-1)):=λx=>BX (by omega) (by omega)
          have e2:IntKind.i64.wrap (q-1)=q-1:=w64 (by omega) (by omega)
          have e3:IntKind.i64.wrap (q+1)=q+1:=w64 (by omega) (by omega)
          obtain⟨v,cv,hv⟩:=C7 (hR'.good hG) (i:=q) (j:=q-1) (by omega) (by omega) (by omega) (by omega)
          by_cases hlt:at' m q<at' m (q-1)
          ·refine⟨.inl (sw m q (q-1),q+1),?_,⟨hR'.trans (Rg.swap ha (by omega) (by omega) (by omega) (by omega) (by omega)),λp r k1 k2 k3=> ?_,by dsimp only;omega,by dsimp only;omega⟩,by dsimp only;omega⟩
           ·simp only[hq,decide_true,cT,e2,e3,f1,f2,f3,cv,hv,hlt,Bool.not_true,cF,bs]
            rfl
           ·dsimp only
            rw[BR (by omega) (by omega) (by omega) (by omega) (by omega),BR (by omega) (by omega) (by omega) (by omega) (by omega)]
            rw[if_neg (by omega),if_neg (by omega),if_neg (by omega),if_neg (by omega)]
            exact hS' p r k1 k2 k3
          ·refine⟨.inr m,?_,hR',hS'⟩
           simp only[hq,decide_true,cT,e2,f1,f2,cv,hv,hlt,decide_false,Bool.not_false,bs]
         ·exact⟨.inr m,by simp only[hq,decide_false,cF],hR',hS'⟩
        ·rintro m2 ⟨hR3,hS3⟩
         exact⟨_,rfl,⟨hR3,g1,g2,hS3,by dsimp only;omega,by dsimp only;omega⟩,by dsimp only;omega⟩
       ·simp only[h2,decide_false,cF]
        exact⟨_,rfl,⟨hR2,g1,g2,hS2,by dsimp only;omega,by dsimp only;omega⟩,by dsimp only;omega⟩
  ·simp only[hj,decide_false,cF]
   exact⟨_,rfl,hR⟩
 ·rintro(l|y) h
  ·exact⟨_,rfl,h,λh=>by cases h⟩
  ·exact⟨_,rfl,h⟩
theorem GD :∀x:Nat,1≤x→x<2^64→x<2^(Lib.bitLen x)∧2^(Lib.bitLen x)≤2*x:=by
 intro x
 induction x using Nat.strongRecOn with
 |ind x ih=>
  intro h1 h2
  rw[Lib.bitLen_half x (by omega) h2]
  by_cases h:x=1
  ·subst h;decide
  ·obtain⟨a,b⟩:=ih (x/2) (by omega) (by omega) (by omega)
   rw[Nat.add_comm,Nat.pow_succ]
   generalize 2^Lib.bitLen (x/2)=p at a b
   omega
theorem pow2_spec (n:Int)(h1:8≤n)(h2:n≤1100000):∃y,D.H0 n=some y∧n<y∧y≤2*n:=by
 obtain⟨m,rfl⟩:∃m:Nat,n=(m:Int):=⟨n.toNat,by omega⟩
 obtain⟨k1,k2⟩:=GD m (by omega) (by omega)
 have hb:Lib.bitLen m<22:=by
  apply Classical.byContradiction
  intro hc
  have:2^22≤2^Lib.bitLen m:=Nat.pow_le_pow_right (by omega) (by omega)
  omega
 unfold D.H0
 rw[wu64 (by omega) (by omega)]
 unfold D.j0
 rw[if_pos (by omega),bs]
 have:decide (((Lib.bitLen m:Nat):Int)<0)=false:=by simp
 rw[Int.toNat_natCast,this,cF]
 have e:ishl .u64 1 ((Lib.bitLen m:Nat):Int)=((2^Lib.bitLen m:Nat):Int):=by
  show IntKind.u64.wrap (1*2^(min (((Lib.bitLen m:Nat):Int)).toNat 64))=_
  rw[Int.toNat_natCast,show min (Lib.bitLen m) 64=Lib.bitLen m by omega,Int.one_mul]
  have e':((2^Lib.bitLen m:Nat):Int)=(2:Int)^Lib.bitLen m:=by simp
  rw[←e',wu64 (by omega) (by omega)]
 rw[e]
 exact⟨_,rfl,by omega,by omega⟩
theorem F6 (l0:List α)(a b:Int)(ha:0≤a)(hb:b≤l0.length)(h8:8≤b-a)(hlen:l0.length≤1100000):
  ∃l',DG.breakPatterns Srtd.cmp l0 a b=some l'∧Rg a b l0 l':=by
 unfold DG.breakPatterns
 rw[w64 (show-9223372036854775808≤b-a by omega) (by omega)]
 have e4:(b-a).tdiv 4=(b-a)/4:=Int.tdiv_eq_ediv_of_nonneg (by omega)
 rw[e4,w64 (show-9223372036854775808≤(b-a)/4 by omega) (by omega)]
 rw[w64 (show-9223372036854775808≤(b-a)/4*2 by omega) (by omega)]
 rw[w64 (show-9223372036854775808≤a+(b-a)/4*2 by omega) (by omega)]
 rw[w64 (show-9223372036854775808≤a+(b-a)/4*2+1 by omega) (by omega),w64 (show-9223372036854775808≤a+(b-a)/4*2-1 by omega) (by omega)]
 simp only[h8,decide_true,cT]
 obtain⟨y,hy,g1,g2⟩:=pow2_spec (b-a) h8 (by omega)
 rw[hy,bs,wu64 (show 0≤y-1 by omega) (by omega)]
 refine AZ (λs=>Rg a b l0 s.1∧a+(b-a)/4*2-1≤s.2.1∧s.2.1≤a+(b-a)/4*2+2) (λs=>(a+(b-a)/4*2+2-s.2.1).toNat) (λr=>Rg a b l0 r) ?_ ?_ ?_
 ·rintro⟨l,i,z⟩ ⟨hR,k1,k2⟩
  dsimp only at hR k1 k2 ⊢
  have hll:=hR.len
  by_cases hi:i≤a+(b-a)/4*2+1
  ·simp only[hi,decide_true,cT,D.S0,bs]
   obtain⟨t1,t2⟩:=iand_small (Bt .u64 (Bt .u64 (Bt .u64 z (ishl .u64 z 13)) (BL .u64 (Bt .u64 z (ishl .u64 z 13)) 7)) (ishl .u64 (Bt .u64 (Bt .u64 z (ishl .u64 z 13)) (BL .u64 (Bt .u64 z (ishl .u64 z 13)) 7)) 17)) (y-1) (by omega) (by omega)
   revert t1 t2
   generalize iand .u64 (Bt .u64 (Bt .u64 (Bt .u64 z (ishl .u64 z 13)) (BL .u64 (Bt .u64 z (ishl .u64 z 13)) 7)) (ishl .u64 (Bt .u64 (Bt .u64 z (ishl .u64 z 13)) (BL .u64 (Bt .u64 z (ishl .u64 z 13)) 7)) 17)) (y-1)=t
   generalize (Bt .u64 (Bt .u64 (Bt .u64 z (ishl .u64 z 13)) (BL .u64 (Bt .u64 z (ishl .u64 z 13)) 7)) (ishl .u64 (Bt .u64 (Bt .u64 z (ishl .u64 z 13)) (BL .u64 (Bt .u64 z (ishl .u64 z 13)) 7)) 17))=z'
   intro t1 t2
   rw[w64 (show-9223372036854775808≤t by omega) (by omega),w64 (show-9223372036854775808≤t-(b-a) by omega) (by omega)]
   have hc:∃o,(bif decide (b-a≤t) then some (t-(b-a)) else some t)=some o∧0≤o∧o<b-a:=by
    by_cases h:b-a≤t
    ·exact⟨t-(b-a),by simp[h],by omega,by omega⟩
    ·exact⟨t,by simp[h],by omega,by omega⟩
   obtain⟨o,ho,o1,o2⟩:=hc
   rw[ho,bs,w64 (show-9223372036854775808≤a+o by omega) (by omega),w64 (show-9223372036854775808≤i+1 by omega) (by omega)]
   have r1:idx l i=some (el l i):=Bo (by omega) (by omega)
   have r2:idx l (a+o)=some (el l (a+o)):=Bo (by omega) (by omega)
   have r3:∀x,idx (l.set i.toNat x) (a+o)=some (el (l.set i.toNat x) (a+o)):=λx=>BX (by omega) (by omega)
   refine⟨.inl (sw l i (a+o),i+1,z'),?_,⟨hR.trans (Rg.swap ha (by omega) (by omega) (by omega) (by omega) (by omega)),by dsimp only;omega,by dsimp only;omega⟩,by dsimp only;omega⟩
   simp only[r1,r2,r3,bs]
   rfl
  ·exact⟨.inr l,by simp only[hi,decide_false,cF],hR⟩
 ·exact⟨Rg.refl _ _ _,by dsimp only;omega,by dsimp only;omega⟩
 ·rintro r hr
  exact⟨r,rfl,hr⟩
end Go.Sx.Gs

namespace Go.Sx.Gs
variable {α : Type} [Srtd α]
def kid (i c:Int):Prop:=c=2*i+1∨c=2*i+2
theorem FO (l0:List α)(hG:Good l0)(lo hi f:Int)(h0:0≤lo)(hf:0≤f)(hlh:lo≤hi)(hb:f+hi≤l0.length)(hlen:l0.length≤1100000)
  (hH:∀i c,lo<i→kid i c→c<hi→at' l0 (f+c)≤at' l0 (f+i)):
  ∃l',DG.siftDown Srtd.cmp l0 lo hi f=some l'∧Rg (f+lo) (f+hi) l0 l'∧∀i c,lo≤i→kid i c→c<hi→at' l' (f+c)≤at' l' (f+i):=by
 unfold DG.siftDown
 refine AZ (λs=>Rg (f+lo) (f+hi) l0 s.1∧lo≤s.2∧s.2≤hi∧(∀i c,lo≤i→i≠s.2→kid i c→c<hi→at' s.1 (f+c)≤at' s.1 (f+i))∧(∀p c,lo≤p→kid p s.2→kid s.2 c→c<hi→at' s.1 (f+c)≤at' s.1 (f+p)))
  (λs=>(hi-s.2).toNat)
  (λr=>match r with| .inl l'=>Rg (f+lo) (f+hi) l0 l'∧∀i c,lo≤i→kid i c→c<hi→at' l' (f+c)≤at' l' (f+i)| .inr l'=>Rg (f+lo) (f+hi) l0 l'∧∀i c,lo≤i→kid i c→c<hi→at' l' (f+c)≤at' l' (f+i)) ?_
  ⟨Rg.refl _ _ _,Int.le_refl _,hlh,λi c h1 h2 h3 h4=>hH i c (by dsimp only at h2;omega) h3 h4,λp c h1 h2 h3 h4=>by unfold kid at h2;dsimp only at h2;omega⟩ ?_
 ·rintro⟨l,r⟩ ⟨hR,g1,g2,g3,g4⟩
  dsimp only at hR g1 g2 g3 g4 ⊢
  have hll:=hR.len
  rw[w64 (show-9223372036854775808≤2*r by omega) (by omega),w64 (show-9223372036854775808≤2*r+1 by omega) (by omega)]
  rw[w64 (show-9223372036854775808≤2*r+1+1 by omega) (by omega),w64 (show-9223372036854775808≤f+(2*r+1) by omega) (by omega),w64 (show-9223372036854775808≤f+(2*r+1)+1 by omega) (by omega),w64 (show-9223372036854775808≤f+r by omega) (by omega)]
  by_cases hc:hi≤2*r+1
  ·simp only[hc,decide_true,cT]
   refine⟨_,rfl,hR,λi c h1 h2 h3=> ?_⟩
   by_cases e:i=r
   ·subst e;unfold kid at h2;omega
   ·exact g3 i c h1 e h2 h3
  ·simp only[hc,decide_false,cF]
   refine Cb (λb:Bool=>(b=true→2*r+2<hi∧at' l (f+(2*r+1))<at' l (f+(2*r+2)))∧(b=false→2*r+2<hi→at' l (f+(2*r+2))≤at' l (f+(2*r+1)))) ?_ ?_
   ·by_cases h2:2*r+1+1<hi
    ·have r1:idx l (f+(2*r+1))=some (el l (f+(2*r+1))):=Bo (by omega) (by omega)
     have r2:idx l (f+(2*r+1)+1)=some (el l (f+(2*r+1)+1)):=Bo (by omega) (by omega)
     obtain⟨v,cv,hv⟩:=C7 (hR.good hG) (i:=f+(2*r+1)) (j:=f+(2*r+1)+1) (by omega) (by omega) (by omega) (by omega)
     simp only[h2,decide_true,cT,r1,r2,cv,hv,bs]
     rw[show f+(2*r+1)+1=f+(2*r+2) by omega]
     refine⟨_,rfl,λh=>⟨by omega,of_decide_eq_true h⟩,λh _=> ?_⟩
     have:=of_decide_eq_false h
     omega
    ·simp only[h2,decide_false,cF]
     exact⟨_,rfl,(λh=>by cases h),(λ_ h=>by omega)⟩
   ·rintro b ⟨hbb,hbf⟩
    have hch:∃c,(bif b then some (2*r+1+1) else some (2*r+1))=some c∧(b=true→c=2*r+2)∧(b=false→c=2*r+1):=by
     cases b
     ·exact⟨2*r+1,rfl,by simp,by simp⟩
     ·exact⟨2*r+2,by simp;omega,by simp,by simp⟩
    obtain⟨c,ec,c1,c2⟩:=hch
    have hkc:kid r c:=by unfold kid;cases b<;>simp at c1 c2<;>omega
    have hchi:c<hi:=by
     cases b
     ·have:=c2 rfl;omega
     ·have:=c1 rfl;have:=hbb rfl;omega
    rw[ec,bs,w64 (show-9223372036854775808≤f+c by unfold kid at hkc;omega) (by omega)]
    have hcr:r<c:=by unfold kid at hkc;omega
    have t1:idx l (f+r)=some (el l (f+r)):=Bo (by omega) (by omega)
    have t2:idx l (f+c)=some (el l (f+c)):=Bo (by omega) (by omega)
    have t3:∀x,idx (l.set (f+r).toNat x) (f+c)=some (el (l.set (f+r).toNat x) (f+c)):=λx=>BX (by omega) (by omega)
    obtain⟨v,cv,hv⟩:=C7 (hR.good hG) (i:=f+r) (j:=f+c) (by omega) (by omega) (by omega) (by omega)
    have hbest:∀d,kid r d→d<hi→at' l (f+d)≤at' l (f+c):=λd hd hdh=>by
     cases b
     ·have e:=c2 rfl
      subst e
      rcases hd with rfl|rfl
      ·exact Int.le_refl _
      ·exact hbf rfl hdh
     ·have e:=c1 rfl
      subst e
      rcases hd with rfl|rfl
      ·have:=(hbb rfl).2;omega
      ·exact Int.le_refl _
    by_cases hlt:at' l (f+r)<at' l (f+c)
    ·refine⟨.inl (sw l (f+r) (f+c),c),?_,⟨hR.trans (Rg.swap (by omega) (by omega) (by omega) (by omega) (by omega) (by omega)),by dsimp only;omega,by dsimp only;omega,λi d h1 h2 h3 h4=> ?_,λp d h1 h2 h3 h4=> ?_⟩,by dsimp only;omega⟩
     ·simp only[t1,t2,t3,cv,hv,hlt,decide_true,Bool.not_true,cF,bs]
      rfl
     ·dsimp only at h2 ⊢
      have hd0:i<d:=by unfold kid at h3;omega
      rw[BR (by omega) (by omega) (by omega) (by omega) (by omega),BR (by omega) (by omega) (by omega) (by omega) (by omega)]
      rw[if_neg (show¬f+i=f+c by omega)]
      by_cases e:i=r
      ·subst e
       rw[if_pos rfl]
       by_cases e2:d=c
       ·subst e2;rw[if_pos rfl];omega
       ·rw[if_neg (show¬f+d=f+c by omega),if_neg (show¬f+d=f+i by omega)]
        exact hbest d h3 h4
      ·rw[if_neg (show¬f+i=f+r by omega)]
       have e2:d≠c:=λe2=>by subst e2;unfold kid at h3 hkc;omega
       rw[if_neg (show¬f+d=f+c by omega)]
       by_cases e3:d=r
       ·subst e3
        rw[if_pos rfl]
        exact g4 i c h1 h3 hkc hchi
       ·rw[if_neg (show¬f+d=f+r by omega)]
        exact g3 i d h1 e h3 h4
     ·dsimp only at h2 h3 ⊢
      have e:p=r:=by unfold kid at h2 hkc;omega
      subst e
      have hd0:c<d:=by unfold kid at h3;omega
      rw[BR (by omega) (by omega) (by omega) (by omega) (by omega),BR (by omega) (by omega) (by omega) (by omega) (by omega)]
      rw[if_neg (show¬f+d=f+c by omega),if_neg (show¬f+d=f+p by omega),if_neg (show¬f+p=f+c by omega),if_pos rfl]
      exact g3 c d (by omega) (by omega) h3 h4
    ·refine⟨.inr (.inr l),?_,hR,λi d h1 h2 h3=> ?_⟩
     ·simp only[t1,t2,cv,hv,hlt,decide_false,Bool.not_false,cT,bs]
     ·by_cases e:i=r
      ·subst e
       have:=hbest d h2 h3
       omega
      ·exact g3 i d h1 e h2 h3
 ·rintro(l|l) h
  ·exact⟨_,rfl,h⟩
  ·exact⟨_,rfl,h⟩
theorem heap_root {l:List α}{f hi:Int}(hH:∀i c,0≤i→kid i c→c<hi→at' l (f+c)≤at' l (f+i)):∀(n:Nat) (k:Int),k.toNat≤n→0≤k→k<hi→at' l (f+k)≤at' l (f+0):=by
 intro n
 induction n with
 |zero=>intro k h1 h2 h3;rw[show k=0 by omega];exact Int.le_refl _
 |succ n ih=>
  intro k h1 h2 h3
  by_cases h:k=0
  ·subst h;exact Int.le_refl _
  ·have hk:kid ((k-1)/2) k:=by unfold kid;omega
   have a:=hH ((k-1)/2) k (by omega) hk h3
   have b:=ih ((k-1)/2) (by omega) (by omega) (by omega)
   omega
theorem heapSort_spec (l0:List α)(hG:Good l0)(a b:Int)(ha:0≤a)(hab:a≤b)(hb:b≤l0.length)(hlen:l0.length≤1100000):
  ∃l',DG.heapSort Srtd.cmp l0 a b=some l'∧Rg a b l0 l'∧Srt l' a b:=by
 unfold DG.heapSort
 rw[w64 (show-9223372036854775808≤b-a by omega) (by omega),w64 (show-9223372036854775808≤b-a-1 by omega) (by omega)]
 have e2: -1≤(b-a-1).tdiv 2∧(b-a-1).tdiv 2≤b-a∧b-a≤2*(b-a-1).tdiv 2+2:=by
  by_cases h:1≤b-a
  ·rw[Int.tdiv_eq_ediv_of_nonneg (by omega)];omega
  ·have:b-a-1= -1:=by omega
   have e:(-1:Int).tdiv 2=0:=by decide
   rw[this,e];omega
 rw[w64 (show-9223372036854775808≤(b-a-1).tdiv 2 by omega) (by omega)]
 generalize (b-a-1).tdiv 2=st at e2
 refine AZ (λs=>Rg a b l0 s.1∧-1≤s.2∧s.2≤b-a∧∀i c,s.2<i→kid i c→c<b-a→at' s.1 (a+c)≤at' s.1 (a+i)) (λs=>(s.2+1).toNat)
  (λr=>Rg a b l0 r∧∀i c,0≤i→kid i c→c<b-a→at' r (a+c)≤at' r (a+i)) ?_ ⟨Rg.refl _ _ _,by dsimp only;omega,by dsimp only;omega,λi c h1 h2 h3=>by unfold kid at h2;dsimp only at h1;omega⟩ ?_
 ·rintro⟨l,i⟩ ⟨hR,g1,g2,g3⟩
  dsimp only at hR g1 g2 g3 ⊢
  have hll:=hR.len
  by_cases hi:0≤i
  ·simp only[hi,decide_true,cT]
   obtain⟨l',e,r1,r2⟩:=FO l (hR.good hG) i (b-a) a hi ha (by omega) (by omega) (by omega) g3
   rw[e,bs,w64 (show-9223372036854775808≤i-1 by omega) (by omega)]
   exact⟨_,rfl,⟨hR.trans (r1.widen (by omega) (by omega) ha),by dsimp only;omega,by dsimp only;omega,λp c h1 h2 h3=>r2 p c (by dsimp only at h1;omega) h2 h3⟩,by dsimp only;omega⟩
  ·simp only[hi,decide_false,cF]
   exact⟨_,rfl,hR,λp c h1 h2 h3=>g3 p c (by omega) h2 h3⟩
 ·rintro l1 ⟨hR1,hH1⟩
  refine AZ (λs=>Rg a b l0 s.1∧-1≤s.2∧s.2<b-a∧(∀i c,0≤i→kid i c→c≤s.2→at' s.1 (a+c)≤at' s.1 (a+i))∧(∀p q,s.2<p→p<q→q<b-a→at' s.1 (a+p)≤at' s.1 (a+q))∧(∀p q,0≤p→p≤s.2→s.2<q→q<b-a→at' s.1 (a+p)≤at' s.1 (a+q))) (λs=>(s.2+1).toNat)
   (λr=>Rg a b l0 r∧Srt r a b) ?_ ⟨hR1,by dsimp only;omega,by dsimp only;omega,λi c h1 h2 h3=>hH1 i c h1 h2 (by dsimp only at h3;omega),λp q h1 h2 h3=>by dsimp only at h1;omega,λp q h1 h2 h3 h4=>by dsimp only at h3;omega⟩ (λr hr=>⟨r,rfl,hr⟩)
  rintro⟨l,i⟩ ⟨hR,g1,g2,g3,g4,g5⟩
  dsimp only at hR g1 g2 g3 g4 g5 ⊢
  have hll:=hR.len
  by_cases hi:0≤i
  ·rw[w64 (show-9223372036854775808≤a+i by omega) (by omega)]
   have t1:idx l a=some (el l a):=Bo (by omega) (by omega)
   have t2:idx l (a+i)=some (el l (a+i)):=Bo (by omega) (by omega)
   have t3:∀x,idx (l.set a.toNat x) (a+i)=some (el (l.set a.toNat x) (a+i)):=λx=>BX (by omega) (by omega)
   simp only[hi,decide_true,cT,t1,t2,t3,bs]
   rw[show (l.set a.toNat (el l (a+i))).set (a+i).toNat (el l a)=sw l a (a+i) from rfl]
   have hRs:Rg a (a+(i+1)) l (sw l a (a+i)):=Rg.swap ha (by omega) (by omega) (by omega) (by omega) (by omega)
   have sat:∀k,0≤k→at' (sw l a (a+i)) (a+k)=if k=i then at' l a else if k=0 then at' l (a+i) else at' l (a+k):=λk hk=>by
    rw[BR (by omega) (by omega) (by omega) (by omega) (by omega)]
    by_cases c1:k=i
    ·subst c1;simp
    ·rw[if_neg (show¬a+k=a+i by omega),if_neg c1]
     by_cases c2:k=0
     ·subst c2;simp
     ·rw[if_neg (show¬a+k=a by omega),if_neg c2]
   have hroot:∀k,0≤k→k≤i→at' l (a+k)≤at' l a:=λk k1 k2=>by
    have:=heap_root (hi:=i+1) (λp c h1 h2 h3=>g3 p c h1 h2 (by omega)) k.toNat k (Nat.le_refl _) k1 (by omega)
    rwa [Int.add_zero] at this
   have hsl:(sw l a (a+i)).length=l.length:=sw_len _ _ _
   obtain⟨l',e,r1,r2⟩:=FO (sw l a (a+i)) (hRs.good (hR.good hG)) 0 i a (Int.le_refl _) ha hi (by omega) (by omega) (λp c h1 h2 h3=>by
    have hc:p<c:=by unfold kid at h2;omega
    rw[sat c (by omega),sat p (by omega),if_neg (by omega),if_neg (by omega),if_neg (by omega),if_neg (by omega)]
    exact g3 p c (by omega) h2 (by omega))
   rw[e,bs,w64 (show-9223372036854775808≤i-1 by omega) (by omega)]
   rw[Int.add_zero] at r1
   have same:∀k,i≤k→at' l' (a+k)=at' (sw l a (a+i)) (a+k):=λk hk=>r1.out (a+k) (by omega) (.inr (by omega))
   have big:∀k,i<k→k<b-a→at' l' (a+k)=at' l (a+k):=λk hk hk2=>by
    rw[same k (by omega),sat k (by omega),if_neg (by omega),if_neg (by omega)]
   have ati:at' l' (a+i)=at' l a:=by rw[same i (Int.le_refl _),sat i hi,if_pos rfl]
   have low:∀Q:Int→Prop,(∀k,0≤k→k≤i→Q (at' l (a+k)))→∀k,0≤k→k<i→Q (at' l' (a+k)):=λQ hQ k k1 k2=>
    r1.all Q (λm m1 m2=>by
     have h1:=sat (m-a) (by omega)
     rw[show a+(m-a)=m by omega] at h1
     rw[h1]
     split
     ·have:=hQ 0 (by omega) hi;rwa [Int.add_zero] at this
     ·split
      ·exact hQ i hi (Int.le_refl _)
      ·have:=hQ (m-a) (by omega) (by omega);rwa [show a+(m-a)=m by omega] at this) (a+k) (by omega) (by omega)
   refine⟨_,rfl,⟨hR.trans ((hRs.widen (Int.le_refl a) (by omega) ha).trans (r1.widen (Int.le_refl a) (by omega) ha)),by dsimp only;omega,by dsimp only;omega,λp c h1 h2 h3=> ?_,λp q h1 h2 h3=> ?_,λp q h1 h2 h3 h4=> ?_⟩,by dsimp only;omega⟩
   ·dsimp only at h3 ⊢;exact r2 p c h1 h2 (by omega)
   ·dsimp only at h1 ⊢
    by_cases c1:p=i
    ·subst c1
     rw[ati,big q h2 h3]
     have:=g5 0 q (Int.le_refl _) hi h2 h3
     rwa [Int.add_zero] at this
    ·rw[big p (by omega) (by omega),big q (by omega) h3]
     exact g4 p q (by omega) h2 h3
   ·dsimp only at h2 h3 ⊢
    by_cases c1:q=i
    ·subst c1
     rw[ati]
     exact low (λx=>x≤at' l a) hroot p h1 (by omega)
    ·rw[big q (by omega) h4]
     exact low (λx=>x≤at' l (a+q)) (λk k1 k2=>g5 k q k1 k2 (by omega) h4) p h1 (by omega)
  ·simp only[hi,decide_false,cF]
   refine⟨_,rfl,hR,λp q h1 h2 h3=> ?_⟩
   have:=g4 (p-a) (q-a) (by omega) (by omega) (by omega)
   rwa [show a+(p-a)=p by omega,show a+(q-a)=q by omega] at this
end Go.Sx.Gs

namespace Go.Sx.Gs
variable {α : Type} [Srtd α]
def Out (l:List α)(a0 b0 a b:Int):Prop:=∀i j,a0≤i→i<j→j<b0→¬(a≤i∧j<b)→at' l i≤at' l j
theorem Out.keep {a0 a b b0:Int}{l l':List α}(h:Rg a b l l')(h0:0≤a0)(ha:a0≤a)(hb:b≤b0)(c:Out l a0 b0 a b):Out l' a0 b0 a b:=by
 intro i j h1 h2 h3 h4
 by_cases hi:a≤i∧i<b
 ·rw[h.out j (by omega) (by omega)]
  exact h.all (λx=>x≤at' l j) (λk k1 k2=>c k j (by omega) (by omega) h3 (by omega)) i hi.1 hi.2
 ·rw[h.out i (by omega) (by omega)]
  by_cases hj:a≤j∧j<b
  ·exact h.all (λx=>at' l i≤x) (λk k1 k2=>c i k (by omega) (by omega) (by omega) (by omega)) j hj.1 hj.2
  ·rw[h.out j (by omega) (by omega)];exact c i j h1 h2 h3 h4
theorem pdqsort_spec :∀(n:Nat) (l0:List α) (a0 b0 lim:Int),0≤a0→a0≤b0→b0≤l0.length→l0.length≤1100000→Good l0→0≤lim→lim≤64→
  (0<a0→∀k,a0≤k→k<b0→at' l0 (a0-1)≤at' l0 k)→b0-a0<n→∃l',DG.pdqsortR Srtd.cmp n l0 a0 b0 lim=some l'∧Rg a0 b0 l0 l'∧Srt l' a0 b0:=by
 intro n
 induction n with
 |zero=>intro l0 a0 b0 lim h1 h2 h3 h4 hG h7 h8 h9 h10;omega
 |succ n ih=>
  intro l0 a0 b0 lim h1 h2 h3 h4 hG h7 h8 h9 h10
  unfold DG.pdqsortR
  refine AZ (λs=>Rg a0 b0 l0 s.1∧Out s.1 a0 b0 s.2.1 s.2.2.1∧a0≤s.2.1∧s.2.1≤s.2.2.1∧s.2.2.1≤b0∧0≤s.2.2.2.1∧s.2.2.2.1≤64∧(0<s.2.1→∀k,s.2.1≤k→k<s.2.2.1→at' s.1 (s.2.1-1)≤at' s.1 k))
   (λs=>(s.2.2.1-s.2.1).toNat) (λr=>Rg a0 b0 l0 r∧Srt r a0 b0) ?_ ?_ ?_
  ·rintro⟨l,a,b,lm,bal,par⟩ ⟨hR,hO,g1,g2,g3,g5,g6,g7⟩
   dsimp only at hR hO g1 g2 g3 g5 g6 g7 ⊢
   have hll:=hR.len
   have fin:∀l',Rg a b l l'→Srt l' a b→Rg a0 b0 l0 l'∧Srt l' a0 b0:=λl' hr hs=>
    ⟨hR.trans (hr.widen g1 g3 h1),λi j k1 k2 k3=>by
     by_cases hc:a≤i∧j<b
     ·exact hs i j hc.1 k2 hc.2
     ·exact(hO.keep hr h1 g1 g3) i j k1 k2 k3 hc⟩
   rw[w64 (show-9223372036854775808≤b-a by omega) (by omega)]
   by_cases hs:b-a≤12
   ·obtain⟨l',e,r1,r2⟩:=F3 l a b (by omega) g2 (by omega) (by omega) (hR.good hG)
    refine⟨.inr l',?_,fin l' r1 r2⟩
    simp only[hs,decide_true,cT,e,bs]
   ·simp only[hs,decide_false,cF]
    by_cases hlm:lm=0
    ·have hl0:(lm==0)=true:=by simp[hlm]
     obtain⟨l',e,r1,r2⟩:=heapSort_spec l (hR.good hG) a b (by omega) g2 (by omega) (by omega)
     refine⟨.inr l',?_,fin l' r1 r2⟩
     simp only[hl0,cT,e,bs]
    have hl0:(lm==0)=false:=by simp[hlm]
    simp only[hl0,cF]
    refine Cb (λq:List α×Int=>Rg a b l q.1∧0≤q.2∧q.2≤64) ?_ ?_
    ·cases bal
     ·obtain⟨l1,e,r1⟩:=F6 l a b (by omega) (by omega) (by omega) (by omega)
      refine⟨(l1,lm-1),?_,r1,by dsimp only;omega,by dsimp only;omega⟩
      simp only[Bool.not_false,cT,e,bs]
      rw[w64 (by omega) (by omega)]
     ·exact⟨(l,lm),rfl,Rg.refl _ _ _,by dsimp only;omega,by dsimp only;omega⟩
    rintro⟨l1,lm1⟩ ⟨hr1,k2,k3⟩
    dsimp only at hr1 k2 k3 ⊢
    have hl1:=hr1.len
    obtain⟨y,ey,c1,c2,c3⟩:=GM l1 ((hR.trans (hr1.widen g1 g3 h1)).good hG) a b (by omega) (by omega) (by omega) (by omega)
    rw[ey,bs]
    refine Cb (λq:List α×Int×Int=>Rg a b l q.1∧a≤q.2.1∧q.2.1<b) ?_ ?_
    ·cases (y.2.1==2)
     ·exact⟨_,rfl,by dsimp only;rw[c1];exact hr1,c2,c3⟩
     ·obtain⟨l2,e2,r2⟩:=Gy l1 a b (by omega) (by omega) (by omega) (by omega)
      rw[c1]
      simp only[cT,e2,bs]
      rw[w64 (show-9223372036854775808≤b-1 by omega) (by omega),w64 (show-9223372036854775808≤y.1-a by omega) (by omega),w64 (show-9223372036854775808≤b-1-(y.1-a) by omega) (by omega)]
      exact⟨_,rfl,hr1.trans r2,by dsimp only;omega,by dsimp only;omega⟩
    rintro⟨l2,p,hint⟩ ⟨hr2,p1,p2⟩
    dsimp only at hr2 p1 p2 ⊢
    have hl2:=hr2.len
    refine Cb (λq:List α ⊕ List α=>match q with| .inl q=>Rg a b l q| .inr q=>Rg a b l q∧Srt q a b) ?_ ?_
    ·cases ((bal&&par)&&(hint==1))
     ·exact⟨.inl l2,rfl,hr2⟩
     ·obtain⟨y2,e2,d1,d2⟩:=Fm l2 ((hR.trans (hr2.widen g1 g3 h1)).good hG) a b (by omega) (by omega) (by omega) (by omega) (λha k m1 m2=>by
       rw[hr2.out (a-1) (by omega) (.inl (by omega))]
       exact hr2.all (λx=>at' l (a-1)≤x) (g7 ha) k m1 m2)
      simp only[cT,e2,bs]
      cases hy:y2.1
      ·exact⟨.inl y2.2,rfl,hr2.trans d1⟩
      ·exact⟨.inr y2.2,rfl,hr2.trans d1,d2 hy⟩
    rintro(q|q) hq
    case inr=>
     exact⟨.inr q,rfl,fin q hq.1 hq.2⟩
    dsimp only at hq ⊢
    clear hr2 hl2
    have hr2:Rg a b l q:=hq
    have hl2:=hr2.len
    have hGq:Good q:=(hR.trans (hr2.widen g1 g3 h1)).good hG
    have hO2:=hO.keep hr2 h1 g1 g3
    have g7':0<a→∀k,a≤k→k<b→at' q (a-1)≤at' q k:=λha k m1 m2=>by
     rw[hr2.out (a-1) (by omega) (.inl (by omega))]
     exact hr2.all (λx=>at' l (a-1)≤x) (g7 ha) k m1 m2
    refine Cb (λc:Bool=>c=true→0<a∧at' q p≤at' q (a-1)) ?_ ?_
    ·by_cases ha:0<a
     ·have r1:idx q (a-1)=some (el q (a-1)):=Bo (by omega) (by omega)
      have r2:idx q p=some (el q p):=Bo (by omega) (by omega)
      rw[w64 (show-9223372036854775808≤a-1 by omega) (by omega)]
      obtain⟨v,cv,hv⟩:=C7 hGq (i:=a-1) (j:=p) (by omega) (by omega) (by omega) (by omega)
      simp only[ha,decide_true,cT,r1,r2,cv,hv,bs]
      exact⟨_,rfl,λh=>⟨by trivial,by simpa using h⟩⟩
     ·simp only[ha,decide_false,cF]
      exact⟨_,rfl,λh=>by cases h⟩
    intro c hc
    cases c
    ·
     simp only[cF]
     obtain⟨⟨mid,par',l3⟩,e3,P⟩:=partition_spec q a b p (by omega) (by omega) (by omega) hGq p1 p2
     rw[e3,bs]
     obtain⟨hr3,m1,m2,m3,m4⟩:=P
     dsimp only at hr3 m1 m2 m3 m4 ⊢
     have hl3:=hr3.len
     have hO3:=hO2.keep hr3 h1 g1 g3
     have g7'':0<a→∀k,a≤k→k<b→at' l3 (a-1)≤at' l3 k:=λha k n1 n2=>by
      rw[hr3.out (a-1) (by omega) (.inl (by omega))]
      exact hr3.all (λx=>at' q (a-1)≤x) (g7' ha) k n1 n2
     have hR3:Rg a0 b0 l0 l3:=hR.trans ((hr2.trans hr3).widen g1 g3 h1)
     rw[w64 (show-9223372036854775808≤mid-a by omega) (by omega),w64 (show-9223372036854775808≤b-mid by omega) (by omega),w64 (show-9223372036854775808≤mid+1 by omega) (by omega)]
     by_cases hside:mid-a<b-mid
     ·simp only[hside,decide_true,cT]
      obtain⟨l4,e4,r4,s4⟩:=ih l3 a mid lm1 (by omega) m1 (by omega) (by omega) (hR3.good hG) k2 k3 (λha k n1 n2=>g7'' ha k n1 (by omega)) (by omega)
      rw[e4,bs]
      have hl4:=r4.len
      have em:∀k,mid≤k→at' l4 k=at' l3 k:=λk hk=>r4.out k (by omega) (.inr hk)
      have lf:∀k,a≤k→k<mid→at' l4 k≤at' l4 mid:=λk n1 n2=>by
       rw[em mid (Int.le_refl _)];exact r4.all (λx=>x≤at' l3 mid) m3 k n1 n2
      refine⟨.inl _,rfl,⟨hR3.trans (r4.widen g1 (by omega) h1),?_,by dsimp only;omega,by dsimp only;omega,g3,k2,k3,?_⟩,by dsimp only;omega⟩
      ·have hO4:=hO3.keep (r4.widen (Int.le_refl a) (by omega) (by omega)) h1 g1 g3
       intro i j n1 n2 n3 n4
       dsimp only at n4 ⊢
       by_cases hin:a≤i∧j<b
       ·by_cases hj:j<mid
        ·exact s4 i j hin.1 n2 hj
        ·have hi:i≤mid:=by omega
         have e1:at' l4 i≤at' l4 mid:=by
          by_cases e:i=mid
          ·rw[e];exact Int.le_refl _
          ·exact lf i hin.1 (by omega)
         have e2:at' l4 mid≤at' l4 j:=by
          by_cases e:j=mid
          ·rw[e];exact Int.le_refl _
          ·rw[em mid (Int.le_refl _),em j (by omega)];exact m4 j (by omega) hin.2
         omega
       ·exact hO4 i j n1 n2 n3 hin
      ·intro _ k n1 n2
       dsimp only at n1 n2 ⊢
       rw[show mid+1-1=mid by omega,em mid (Int.le_refl _),em k (by omega)]
       exact m4 k (by omega) n2
     ·simp only[hside,decide_false,cF]
      obtain⟨l4,e4,r4,s4⟩:=ih l3 (mid+1) b lm1 (by omega) (by omega) (by omega) (by omega) (hR3.good hG) k2 k3 (λ_ k n1 n2=>by rw[show mid+1-1=mid by omega];exact m4 k (by omega) n2) (by omega)
      rw[e4,bs]
      have hl4:=r4.len
      have em:∀k,0≤k→k≤mid→at' l4 k=at' l3 k:=λk h0 hk=>r4.out k h0 (.inl (by omega))
      have rt:∀k,mid<k→k<b→at' l4 mid≤at' l4 k:=λk n1 n2=>by
       rw[em mid (by omega) (Int.le_refl _)];exact r4.all (λx=>at' l3 mid≤x) (λk q1 q2=>m4 k (by omega) q2) k (by omega) n2
      refine⟨.inl _,rfl,⟨hR3.trans (r4.widen (by omega) g3 h1),?_,g1,m1,by dsimp only;omega,k2,k3,?_⟩,by dsimp only;omega⟩
      ·have hO4:=hO3.keep (r4.widen (by omega) (Int.le_refl b) (by omega)) h1 g1 g3
       intro i j n1 n2 n3 n4
       dsimp only at n4 ⊢
       by_cases hin:a≤i∧j<b
       ·by_cases hi:mid<i
        ·exact s4 i j (by omega) n2 hin.2
        ·have hj:mid≤j:=by omega
         have e1:at' l4 i≤at' l4 mid:=by
          by_cases e:i=mid
          ·rw[e];exact Int.le_refl _
          ·rw[em i (by omega) (by omega),em mid (by omega) (Int.le_refl _)];exact m3 i hin.1 (by omega)
         have e2:at' l4 mid≤at' l4 j:=by
          by_cases e:j=mid
          ·rw[e];exact Int.le_refl _
          ·exact rt j (by omega) hin.2
         omega
       ·exact hO4 i j n1 n2 n3 hin
      ·intro ha k n1 n2
       dsimp only at ha n1 n2 ⊢
       rw[em (a-1) (by omega) (by omega),em k (by omega) (by omega)]
       exact g7'' ha k n1 (by omega)
    ·
     simp only[cT]
     obtain⟨hc1,hc2⟩:=hc rfl
     obtain⟨⟨mid,l3⟩,e3,hr3,m1,m2,m3,m4⟩:=FU q a b p (by omega) (by omega) (by omega) hGq p1 p2
     rw[e3,bs]
     dsimp only at hr3 m1 m2 m3 m4 ⊢
     have hl3:=hr3.len
     have hO3:=hO2.keep hr3 h1 g1 g3
     have lw:∀k,a≤k→k<b→at' q p≤at' l3 k:=λk n1 n2=>
      hr3.all (λx=>at' q p≤x) (λk q1 q2=>Int.le_trans hc2 (g7' hc1 k q1 q2)) k n1 n2
     refine⟨.inl _,rfl,⟨hR.trans ((hr2.trans hr3).widen g1 g3 h1),?_,by dsimp only;omega,m2,g3,k2,k3,?_⟩,by dsimp only;omega⟩
     ·intro i j n1 n2 n3 n4
      dsimp only at n4 ⊢
      by_cases hin:a≤i∧j<b
      ·have:=m3 i hin.1 (by omega)
       have:=lw j (by omega) hin.2
       omega
      ·exact hO3 i j n1 n2 n3 hin
     ·intro _ k n1 n2
      dsimp only at n1 n2 ⊢
      have:=m3 (mid-1) (by omega) (by omega)
      have:=m4 k n1 n2
      omega
  ·exact⟨Rg.refl _ _ _,λi j n1 n2 n3 n4=>by dsimp only at n4;omega,Int.le_refl _,h2,Int.le_refl _,h7,h8,h9⟩
  ·rintro r hr
   exact⟨r,rfl,hr⟩
theorem sort_spec (l:List α)(hG:Good l)(hlen:l.length≤1100000):∃l',DG.Sort Srtd.cmp l=some l'∧List.Perm l' l∧Srt l' 0 l'.length:=by
 unfold DG.Sort
 rw[wu64 (by omega) (by omega)]
 unfold D.j0
 rw[if_pos (by omega),bs]
 have hb:Lib.bitLen l.length≤64:=by
  by_cases h:1≤l.length
  ·obtain⟨_,k2⟩:=GD l.length h (by omega)
   apply Classical.byContradiction
   intro hc
   have:2^22≤2^Lib.bitLen l.length:=Nat.pow_le_pow_right (by omega) (by omega)
   omega
  ·have:l.length=0:=by omega
   rw[this];decide
 have hf:=Da
 obtain⟨l',e,r,s⟩:=pdqsort_spec BT l 0 (l.length:Int) ((Lib.bitLen l.length:Nat):Int) (Int.le_refl _) (by omega) (Int.le_refl _) (by omega) hG (by omega) (by omega) (λh=>by omega) (by omega)
 unfold DG.pdqsort
 rw[Int.toNat_natCast,e]
 refine⟨l',rfl,r.perm,?_⟩
 rw[r.len];exact s
end Go.Sx.Gs

namespace Go.Sx
theorem isNaN_no (x:Int):D.N x=some false:=by unfold D.N;simp
theorem cmp64 (x y:Int):D.Y0 x y=some (if x<y then-1 else if y<x then 1 else 0):=by
 unfold D.Y0
 simp only[isNaN_no,bs,cF]
 by_cases h:x<y
 ·simp[h]
 ·by_cases h':y<x
  ·simp[h,h']
  ·simp[h,h']
section
variable {P : Program} {ops : Array Oper} {nn r : Bn} {x : List (Nat × Bn)} {a : Act} {W : World} {T : Act → World → Prop} {H E : List Itm} {G : GH} {N : Nat} {L : Bw} {i fuel : Nat} {listed listed' : Array Bool} {d : Nat} {t : TypeId} {pos : String} {af : Array Edge} {gd : Option (Nat × Bool)} {kt ft : TypeId}
theorem q_lookMq0 {it:Itm}{v:Value}{M:List ((Int×Int)×Int)}{mt:TypeId}{xo ko:Operand}{ky:Int×Int}(n:Nat)(K:∃f0 f1,PrK P kt ft f0 f1)(j:Nat)(h:OwMq G it v M)(hj:H[j]? =some it)
  (ht:P.underlying mt=some (.map kt ft)) (hz:∀w,(zeroValue ft).run P w= .ok (.int .i64 0) w)
  (hi:ops[i]? =some ⟨some d,.lookup mt xo ko false,t,pos,af,gd⟩) (hck:BZ ops n fuel listed i=true) (hl:listed.setIfInBounds i true=listed') (f:Fr a N L)
  (hw:Region.wanted ⟨some d,.lookup mt xo ko false,t,pos,af,gd⟩ (yielded ops a.tmps)=true) (hN:Nat.blt d N=true) (hx:AN L xo=some v) (hk:AN L ko=some (.agg #[.int .i64 ky.1,.int .i64 ky.2]))
  (k:∀a',Fr a' N ((d,.int .i64 ((By M ky).getD 0))::L)→AnyB W P ops (Qk nn x r) T H fuel G E listed' a'):AnyB W P ops (Qk nn x r) T H (fuel+1) G E listed a:=by
 obtain⟨f0,f1,K⟩:=K
 obtain⟨b,es,clock,rfl,rfl,he,_,_⟩:=h
 have hk':AN L ko=some (kyV ky):=hk
 refine Dq n hi hck hl f hw rfl hN (λG' Ho w hG m=> ?_) k
 have hg:w.heap[b]? =some (.map es clock):=m.drop.items j _ hj
 simp only[execOp,f.eval hx,f.eval hk',Sem.run_bind,F7 K ht hz hg he ky false,Result.andThen_ok]
 rfl
end
end Go.Sx
