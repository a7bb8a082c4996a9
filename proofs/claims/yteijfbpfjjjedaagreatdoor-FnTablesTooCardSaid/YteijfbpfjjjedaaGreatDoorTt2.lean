/- Parts. -/
import Derived.Test.YteijfbpfjjjedaaGreatDoorTt1
import Derived.KernelRfl
import Derived.Test.YteijfbpfjjjedaaGreatDoorProg
set_option linter.unusedVariables false
set_option linter.unusedSimpArgs false
set_option linter.unusedSectionVars false
namespace Go.Sx
open Go
structure KeyE (P:Program)(kt:TypeId){K:Type}(enc:K→Value):Prop where
 inj:∀a b,enc a=enc b→a=b
 check:∀(em:Bool) (x:K) (w:World),(Instr.checkKey em 10000 kt (enc x)).run P w= .ok () w
 find:∀(x:K) (w:World) (es:List MapEntry) (M:List (K×Int)),es.map (λe=>(e.key,e.val))=M.map (λkv=>(enc kv.1,Value.int .i64 kv.2))→
  ((Instr.findKey kt (enc x) es).run P w= .ok none w∧∀kv∈M,kv.1≠x)∨∃j kv,(Instr.findKey kt (enc x) es).run P w= .ok (some (j,.int .i64 kv.2)) w∧M[j]? =some kv∧kv.1=x
 stays:∀(x:K) (w:World),(Instr.keyThatStays (enc x) (enc x)).run P w= .ok (enc x) w
abbrev A5 :Type:=Int→Option Int
abbrev Bw :Type:=Int×Int→Option Int
def BL (x:Int):Value:= .int .u32 x
def eW2 (x:Int×Int):Value:= .agg #[.int .u32 x.1,.int .u32 x.2]
theorem mfT :True:=trivial
def mf0 {K:Type}:K→Option Int:=λ_=>none
def B3 {K:Type}[DecidableEq K](F:K→Option Int)(k:K)(y:Int):K→Option Int:=λx=>if x=k then some y else F x
theorem KeyE.u32 {P:Program}{kt:TypeId}(hu:P.underlying kt=some (.int .u32)):KeyE P kt BL:=by
 refine⟨λa b h=>by simpa [BL] using h,λem x w=>run_check hu em x,λx w es M h=> ?_,λx w=>run_stays _ _⟩
 rcases find_now (β:=Int) (enc:=λy=>Value.int .i64 y) x es M 0 h with⟨h1,h2⟩|⟨j,kv,h1,h2,h3⟩
 ·exact .inl ⟨run_find hu h1,h2⟩
 ·exact .inr ⟨j,kv,by rw[BL,run_find hu h1,Nat.zero_add],h2,h3⟩
structure PrU (P:Program)(kt ft:TypeId)(f0 f1:Field):Prop where
 u:P.underlying kt=some (.struct #[f0,f1])
 t0:f0.type=ft
 t1:f1.type=ft
 o0:f0.offset=0
 o1:f1.offset=1
 n0:f0.name≠ "_"
 n1:f1.name≠ "_"
 i:P.underlying ft=some (.int .u32)
 a:∀w,(isAgg ft).run P w= .ok false w
 st:P.stoodInHeld kt=false
section
variable {P : Program} {kt ft : TypeId} {f0 f1 : Field}
theorem PrU.part0 (K:PrU P kt ft f0 f1)(x y:Value)(w:World):(part f0.type #[x,y] f0.offset).run P w= .ok x w:=by
 rw[K.t0,K.o0]
 simp[part,K.a w]
theorem PrU.part1 (K:PrU P kt ft f0 f1)(x y:Value)(w:World):(part f1.type #[x,y] f1.offset).run P w= .ok y w:=by
 rw[K.t1,K.o1]
 simp[part,K.a w]
theorem PrU.eq (K:PrU P kt ft f0 f1)(a b:Int×Int)(w:World):(Op.equal kt (eW2 a) (eW2 b)).run P w= .ok (a==b) w:=by
 have hf:P.fieldsOf kt= #[f0,f1]:=by simp[Program.fieldsOf,K.u]
 have h:(Op.equal kt (eW2 a) (eW2 b)).run P w=(Op.eqFields 9999 #[.int .u32 a.1,.int .u32 a.2] #[.int .u32 b.1,.int .u32 b.2] [f0,f1]).run P w:=by
  have:=run_equalIn_struct (P:=P) w 9999 kt #[.int .u32 a.1,.int .u32 a.2] #[.int .u32 b.1,.int .u32 b.2] (by rw[hf];exact K.u) K.st
  rw[hf] at this
  exact this
 rw[h]
 have e0:(Op.equalIn 9999 f0.type (.int .u32 a.1) (.int .u32 b.1)).run P w= .ok (a.1==b.1) w:=run_equalIn_int w 9998 _ _ _ _ _ (by rw[K.t0];exact K.i)
 have e1:(Op.equalIn 9999 f1.type (.int .u32 a.2) (.int .u32 b.2)).run P w= .ok (a.2==b.2) w:=run_equalIn_int w 9998 _ _ _ _ _ (by rw[K.t1];exact K.i)
 simp only[Op.eqFields,K.n0,K.n1,ne_eq,not_false_eq_true,if_true,Sem.run_bind,K.part0,K.part1,Result.andThen_ok,e0]
 obtain⟨a1,a2⟩:=a;obtain⟨b1,b2⟩:=b
 dsimp only at*
 cases h1:(a1==b1)
 ·have:((a1,a2)==(b1,b2))=false:=by
   show (a1==b1&&a2==b2)=false
   rw[h1];rfl
  simp[this]
 ·have:((a1,a2)==(b1,b2))=(a2==b2):=by
   show (a1==b1&&a2==b2)=_
   rw[h1];rfl
  rw[this]
  cases h2:(a2==b2)<;>simp[Sem.run_bind,K.part0,K.part1,e1,h2]
theorem PrU.check (K:PrU P kt ft f0 f1)(x:Int×Int)(em:Bool)(w:World):(Instr.checkKey em 10000 kt (eW2 x)).run P w= .ok () w:=by
 have c:∀(y:Int),(Instr.checkKey em 9999 ft (.int .u32 y)).run P w= .ok () w:=λy=>by
  unfold Instr.checkKey
  simp[run_underlying K.i]
 have c0:∀(y:Int),(Instr.checkKey em 9999 f0.type (.int .u32 y)).run P w= .ok () w:=λy=>by rw[K.t0];exact c y
 have c1:∀(y:Int),(Instr.checkKey em 9999 f1.type (.int .u32 y)).run P w= .ok () w:=λy=>by rw[K.t1];exact c y
 unfold Instr.checkKey eW2
 simp only[Sem.run_bind,run_underlying K.u,Result.andThen_ok]
 rw[←Array.forIn_toList]
 simp[K.n0,K.n1,Sem.run_bind,K.part0,K.part1,c0,c1]
theorem F1 {K:Type}[DecidableEq K]{enc:K→Value}(heq:∀a b w,(Op.equal kt (enc a) (enc b)).run P w= .ok (decide (a=b)) w)(x:K)(w:World):∀(es:List MapEntry) (M:List (K×Int)) (i:Nat),es.map (λe=>(e.key,e.val))=M.map (λkv=>(enc kv.1,Value.int .i64 kv.2))→
  ((Instr.findAsking kt (enc x) es i).run P w= .ok none w∧∀kv∈M,kv.1≠x)∨∃j kv,(Instr.findAsking kt (enc x) es i).run P w= .ok (some (i+j,.int .i64 kv.2)) w∧M[j]? =some kv∧kv.1=x
 |[],M,i,h=>by
  have:M=[]:=by simpa using h.symm
  subst this
  exact .inl ⟨by simp[Instr.findAsking],by simp⟩
 |e::es,[],i,h=>by simp at h
 |e::es,kv::M,i,h=>by
  simp only[List.map_cons,List.cons.injEq,Prod.mk.injEq] at h
  obtain⟨⟨h1,h2⟩,h3⟩:=h
  unfold Instr.findAsking
  rw[h1]
  simp only[Sem.run_bind,heq,Result.andThen_ok]
  by_cases hx:x=kv.1
  ·rw[decide_eq_true hx]
   exact .inr ⟨0,kv,by simp[h2],rfl,hx.symm⟩
  ·rw[decide_eq_false hx]
   rcases F1 heq x w es M (i+1) h3 with⟨h4,h5⟩|⟨j,kv',h4,h5,h6⟩
   ·refine .inl ⟨by simpa using h4,λz hz=> ?_⟩
    rcases List.mem_cons.1 hz with rfl|hz
    ·exact λe=>hx e.symm
    ·exact h5 z hz
   ·exact .inr ⟨j+1,kv',by simp only[Bool.false_eq_true,if_false,h4];congr 3;omega,by simpa using h5,h6⟩
theorem KeyE.w2 (K:PrU P kt ft f0 f1):KeyE P kt eW2:=by
 refine⟨λa b h=> ?_,λem x w=>K.check x em w,λx w es M h=> ?_,λx w=> ?_⟩
 ·simp only[eW2,Value.agg.injEq,Array.mk.injEq,List.cons.injEq,Value.int.injEq,true_and,and_true] at h
  exact Prod.ext h.1 h.2
 ·rw[run_findKey_eq w (by rw[K.u])]
  have heq:∀a b w,(Op.equal kt (eW2 a) (eW2 b)).run P w= .ok (decide (a=b)) w:=λa b w=>by
   rw[K.eq];congr 1
   cases hh:(a==b)
   ·exact(decide_eq_false (beq_eq_false_iff_ne.1 hh)).symm
   ·exact(decide_eq_true (beq_iff_eq.1 hh)).symm
  rcases F1 heq x w es M 0 h with h|⟨j,kv,h1,h2⟩
  ·exact .inl h
  ·exact .inr ⟨j,kv,by rw[h1,Nat.zero_add],h2⟩
 ·have e:Instr.sameBits 10000 (eW2 x) (eW2 x)=true:=by simp[eW2,Instr.sameBits]
  unfold Instr.keyThatStays
  rw[e];rfl
end
def MapIs {K:Type}(enc:K→Value)(es:Array MapEntry)(clock:Nat)(F:K→Option Int):Prop:=
 ∃M:List (K×Int),es.toList.map (λe=>(e.key,e.val))=M.map (λkv=>(enc kv.1,Value.int .i64 kv.2))∧(M.map (·.1)).Nodup∧(∀k y,F k=some y↔(k,y)∈M)∧
  (∀e∈es.toList,e.born<clock)∧(es.toList.map (·.born)).Nodup
def OwMf {K:Type}(enc:K→Value)(_:GH)(it:Itm)(v:Value)(F:K→Option Int):Prop:=
 ∃(b:Nat) (es:Array MapEntry) (clock:Nat),it= .obj b (.map es clock)∧v= .map (some b)∧MapIs enc es clock F
def RMf {K:Type}(enc:K→Value):Rep (K→Option Int):=λG v F=>
 (v= .map none∧F=mf0)∨∃(b:Nat) (es:Array MapEntry) (clock:Nat),v= .map (some b)∧G b=some (.map es clock)∧MapIs enc es clock F
section
variable {K : Type} {enc : K → Value} {G G' : GH} {it : Itm} {v : Value} {F : K → Option Int}
theorem OwMf.mono (_:True)(_:GLe G G')(o:OwMf enc G it v F):OwMf enc G' it v F:=o
theorem RMf.mono (_:True):Ei (RMf enc):=by
 rintro G G' v F hG (h|⟨b,es,clock,h1,h2,h3⟩)
 ·exact .inl h
 ·exact .inr ⟨b,es,clock,h1,hG _ _ h2,h3⟩
theorem RMf.nil (enc:K→Value)(G:GH):RMf enc G (.map none) mf0:= .inl ⟨rfl,rfl⟩
theorem RMf.one (enc:K→Value):One (RMf enc):=by
 rintro G v F (⟨rfl,_⟩|⟨b,es,clock,rfl,_⟩)<;>exact⟨rfl,rfl⟩
theorem OwMf.stamp {W w:World}{H:List Itm}(_:True)(h:OwMf enc G it v F)(m:Mem W G w (it::H)):∃G',GLe G G'∧Mem W G' w H∧RMf enc G' v F:=by
 obtain⟨G',h1,h2,h3,_⟩:=m.stamp
 obtain⟨b,es,clock,rfl,rfl,hM⟩:=h
 refine⟨G',h1,h2,.inr ⟨b,es,clock,rfl,?_,hM⟩⟩
 rw[h3 b (by simp[Itm.foot])]
 exact m.items 0 _ rfl
theorem MapIs.nil (enc:K→Value):MapIs enc #[] 0 mf0:=⟨[],rfl,by simp,λk y=>by simp[mf0],by simp,by simp⟩
theorem mem_get {M:List (K×Int)}(hn:(M.map (·.1)).Nodup){k:K}{y y':Int}(h:(k,y)∈M)(h':(k,y')∈M):y=y':=by
 induction M with
 |nil=>cases h
 |cons e M ih=>
  rw[List.map_cons,List.nodup_cons] at hn
  have n1:∀z,(e.1,z)∈M→False:=λz hz=>hn.1 (List.mem_map.2 ⟨_,hz,rfl⟩)
  rcases List.mem_cons.1 h with p|p<;>rcases List.mem_cons.1 h' with q|q
  ·rw[←q] at p;exact(Prod.mk.inj p).2
  ·exact(n1 y' (by rw[←p];exact q)).elim
  ·exact(n1 y (by rw[←q];exact p)).elim
  ·exact ih hn.2 p q
end
section
variable {P : Program} {K : Type} [DecidableEq K] {enc : K → Value} {kt : TypeId} {F : K → Option Int} {w : World}
omit [DecidableEq K] in
theorem MapIs.find (k:KeyE P kt enc){es:Array MapEntry}{clock:Nat}(h:MapIs enc es clock F)(x:K)(w:World):
  (F x=none∧(Instr.findKey kt (enc x) es.toList).run P w= .ok none w)∨∃j y,F x=some y∧(Instr.findKey kt (enc x) es.toList).run P w= .ok (some (j,.int .i64 y)) w∧(es[j]?).map (·.key)=some (enc x):=by
 obtain⟨M,hM,hn,hF,_⟩:=h
 rcases k.find x w es.toList M hM with⟨h1,h2⟩|⟨j,kv,h1,h2,h3⟩
 ·refine .inl ⟨?_,h1⟩
  cases hx:F x with
  |none=>rfl
  |some y=>exact absurd rfl (h2 _ ((hF x y).1 hx))
 ·refine .inr ⟨j,kv.2,(hF _ _).2 (by rw[←h3];exact List.mem_of_getElem? h2),h1,?_⟩
  have hA:=congrArg (λl=>l[j]?) hM
  simp only[List.getElem?_map,h2,Option.map_some,Array.getElem?_toList] at hA
  cases hE:es[j]? with
  |none=>rw[hE] at hA;simp at hA
  |some e=>
   rw[hE] at hA
   simp only[Option.map_some,Option.some.injEq,Prod.mk.injEq] at hA
   rw[Option.map_some,hA.1,h3]
theorem run_lookMf (k:KeyE P kt enc){mt ft:TypeId}{b:Nat}{es:Array MapEntry}{clock:Nat}(ht:P.underlying mt=some (.map kt ft))(hz:∀w,(zeroValue ft).run P w= .ok (.int .i64 0) w)
  (hg:w.heap[b]? =some (.map es clock)) (h:MapIs enc es clock F) (i:K) (ok:Bool):
  (Instr.lookup mt (.map (some b)) (enc i) ok).run P w= .ok (if ok then .tuple #[.int .i64 ((F i).getD 0),.bool (F i).isSome] else .int .i64 ((F i).getD 0)) w:=by
 rcases h.find k i w with⟨h1,h2⟩|⟨j,y,h1,h2,_⟩
 ·simp[Instr.lookup,run_underlying ht,run_map hg,k.check,h1,h2,hz w]
 ·simp[Instr.lookup,run_underlying ht,run_map hg,k.check,h1,h2]
theorem MapIs.put {es:Array MapEntry}{clock:Nat}(h:MapIs enc es clock F)(i:K)(y:Int)(hno:F i=none):MapIs enc (es.push {key:=enc i,val:= .int .i64 y,born:=clock}) (clock+1) (B3 F i y):=by
 obtain⟨M,hM,hn,hF,hb,hd⟩:=h
 refine⟨M++[(i,y)],by simp[hM],?_,λk z=> ?_,λe hm=> ?_,?_⟩
 ·rw[List.map_append,List.nodup_append]
  refine⟨hn,by simp,λp hp q hq=> ?_⟩
  obtain⟨e,he,rfl⟩:=List.mem_map.1 hp
  simp at hq
  rintro rfl
  have:=(hF e.1 e.2).2 he
  rw[hq,hno] at this
  cases this
 ·unfold B3
  rw[List.mem_append,List.mem_singleton]
  split
  ·rename_i e;subst e
   constructor
   ·intro e;cases e;exact .inr rfl
   ·rintro(e|e)
    ·rw[(hF k z).2 e] at hno;cases hno
    ·rw[(Prod.mk.inj e).2]
  ·rename_i e
   rw[hF]
   constructor
   ·exact .inl
   ·rintro(h|h)
    ·exact h
    ·exact absurd (Prod.mk.inj h).1 e
 ·rw[Array.toList_push,List.mem_append] at hm
  rcases hm with hm|hm
  ·have:=hb e hm;omega
  ·simp at hm;subst hm;simp
 ·rw[Array.toList_push,List.map_append,List.nodup_append]
  refine⟨hd,by simp,λp hp q hq=> ?_⟩
  obtain⟨e,hm,rfl⟩:=List.mem_map.1 hp
  simp at hq
  have:=hb e hm
  omega
theorem modify_same {es:Array MapEntry}{j:Nat}(f:MapEntry→MapEntry)(hf:∀e,(f e).born=e.born):(es.modify j f).toList.map (·.born)=es.toList.map (·.born):=by
 refine List.ext_getElem? λp=> ?_
 simp only[List.getElem?_map,Array.getElem?_toList,Array.getElem?_modify]
 split
 ·cases es[p]? with
  |none=>rfl
  |some e=>simp[hf]
 ·rfl
theorem MapIs.set {es:Array MapEntry}{clock:Nat}(h:MapIs enc es clock F)(hinj:∀a b,enc a=enc b→a=b)(i:K)(y:Int){j:Nat}(hj:(es[j]?).map (·.key)=some (enc i)):
  MapIs enc (es.modify j λe=>{e with key:=enc i,val:= .int .i64 y}) clock (B3 F i y):=by
 obtain⟨M,hM,hn,hF,hb,hd⟩:=h
 have hbn:=modify_same (es:=es) (j:=j) (λe=>{e with key:=enc i,val:= .int .i64 y}) (λ_=>rfl)
 have hlen:es.toList.length=M.length:=by have:=congrArg List.length hM;simpa using this
 obtain⟨z,hz⟩:∃z,M[j]? =some (i,z):=by
  have hA:=congrArg (λl=>l[j]?) hM
  simp only[List.getElem?_map,Array.getElem?_toList] at hA
  cases hE:es[j]? with
  |none=>rw[hE] at hj;cases hj
  |some e=>
   rw[hE] at hA hj
   cases hMj:M[j]? with
   |none=>rw[hMj] at hA;cases hA
   |some kv=>
    rw[hMj] at hA
    simp only[Option.map_some,Option.some.injEq,Prod.mk.injEq] at hA hj
    refine⟨kv.2,?_⟩
    rw[←hinj _ _ (hA.1.symm.trans hj)]
 have hjl:j<M.length:=(List.getElem?_eq_some_iff.1 hz).1
 have hks:(M.set j (i,y)).map (·.1)=M.map (·.1):=by
  refine List.ext_getElem? λp=> ?_
  simp only[List.getElem?_map,List.getElem?_set]
  split
  ·rename_i e;subst e
   simp only[if_pos hjl,hz];rfl
  ·rfl
 refine⟨M.set j (i,y),?_,by rw[hks];exact hn,λk x=> ?_,λe he=> ?_,by rw[hbn];exact hd⟩
 ·refine List.ext_getElem? λp=> ?_
  have hA:=congrArg (λl=>l[p]?) hM
  simp only[List.getElem?_map,Array.getElem?_toList] at hA
  simp only[List.getElem?_map,Array.getElem?_toList,Array.getElem?_modify,List.getElem?_set]
  by_cases hp:j=p
  ·subst hp
   rw[if_pos rfl,if_pos rfl,if_pos hjl]
   have:j<es.size:=by rw[←hlen] at hjl;simpa using hjl
   simp[this]
  ·rw[if_neg hp,if_neg hp]
   exact hA
 ·unfold B3
  have hzm:(i,z)∈M:=List.mem_of_getElem? hz
  have hym:(i,y)∈M.set j (i,y):=by
   refine List.mem_iff_getElem?.2 ⟨j,?_⟩
   rw[List.getElem?_set,if_pos rfl,if_pos hjl]
  split
  ·rename_i e;subst e
   constructor
   ·intro e;cases e;exact hym
   ·intro e
    rw[mem_get (M:=M.set j (k,y)) (by rw[hks];exact hn) e hym]
  ·rename_i e
   rw[hF]
   constructor
   ·intro hm
    obtain⟨p,hp⟩:=List.mem_iff_getElem?.1 hm
    refine List.mem_iff_getElem?.2 ⟨p,?_⟩
    rw[List.getElem?_set,if_neg,hp]
    rintro rfl
    rw[hz] at hp
    exact e (Prod.mk.inj (Option.some.inj hp)).1.symm
   ·intro hm
    rcases List.mem_or_eq_of_mem_set hm with h|h
    ·exact h
    ·exact absurd (Prod.mk.inj h).1 e
 ·have:e.born∈es.toList.map (·.born):=by rw[←hbn];exact List.mem_map.2 ⟨e,he,rfl⟩
  obtain⟨e',h1,h2⟩:=List.mem_map.1 this
  rw[←h2];exact hb e' h1
theorem run_putMf (k:KeyE P kt enc){mt ft:TypeId}{b:Nat}{es:Array MapEntry}{clock:Nat}(ht:P.underlying mt=some (.map kt ft))(hg:w.heap[b]? =some (.map es clock))(h:MapIs enc es clock F)(i:K)(y:Int):
  ∃es' clock',(Instr.mapUpdate mt (.map (some b)) (enc i) (.int .i64 y)).run P w= .ok () {w with heap:=w.heap.setIfInBounds b (.map es' clock')}∧MapIs enc es' clock' (B3 F i y):=by
 rcases h.find k i w with⟨h1,h2⟩|⟨j,z,h1,h2,h3⟩
 ·refine⟨_,_,?_,h.put i y h1⟩
  simp[Instr.mapUpdate,run_underlying ht,run_map hg,k.check,h2,run_setMap hg]
 ·have h4:((es[j]?).map (·.key)).getD (enc i)=enc i:=by rw[h3];rfl
  refine⟨es.modify j λe=>{e with key:=enc i,val:= .int .i64 y},clock,?_,h.set k.inj i y h3⟩
  simp only[Instr.mapUpdate]
  simp[run_underlying ht,run_map hg,k.check,h2,h4,k.stays,run_setMap hg]
end
section
variable {P : Program} {ops : Array Oper} {rest : List Oper} {n r : AP} {x : List (Nat × AP)} {a : Act} {w : World} {N : Nat} {L : AZ}
variable {W : World} {G : GH} {H : List Itm} {d : Nat} {t : TypeId} {pos : String} {af : Array Edge} {kt ft : TypeId} {K : Type} {enc : K → Value}
theorem D8 (enc:K→Value){mt:TypeId}(m:Mem W G w H)(f:Fr a N L)(hN:Nat.blt d N=true)
  (k:∀it v w' a',Mem W G w' (it::H)→OwMf enc G it v mf0→Fr a' N ((d,v)::L)→wpList P ops (Qk n x r) rest a' w'):
  wpList P ops (Qk n x r) (⟨some d,.makeMap mt none,t,pos,af,none⟩::rest) a w:=
 Ca f rfl rfl hN r_makeMap (λa' f'=>k (.obj w.heap.size (.map #[] 0)) _ _ a' (m.add rfl rfl rfl (λy hy=>by first|exact heap_alloc_old w _ y hy|exact heap_alloc_old w _ hy) (heap_alloc_new w _) (λy hy=>by simp[Itm.foot] at hy;omega)) ⟨_,_,_,rfl,rfl,MapIs.nil _⟩ f')
variable [DecidableEq K]
theorem l_lookMf (ke:KeyE P kt enc){it:Itm}{v:Value}{F:K→Option Int}{mt:TypeId}{xo ko:Operand}{i:K}{ok:Bool}(j:Nat)(m:Mem W G w H)(h:OwMf enc G it v F)(hj:H[j]? =some it)
  (ht:P.underlying mt=some (.map kt ft)) (hz:∀w,(zeroValue ft).run P w= .ok (.int .i64 0) w) (f:Fr a N L) (hN:Nat.blt d N=true) (hx:AN L xo=some v) (hk:AN L ko=some (enc i))
  (k:∀a',Fr a' N ((d,if ok then .tuple #[.int .i64 ((F i).getD 0),.bool (F i).isSome] else .int .i64 ((F i).getD 0))::L)→wpList P ops (Qk n x r) rest a' w):
  wpList P ops (Qk n x r) (⟨some d,.lookup mt xo ko ok,t,pos,af,none⟩::rest) a w:=by
 obtain⟨b,es,clock,rfl,rfl,he⟩:=h
 have hg:w.heap[b]? =some (.map es clock):=m.items j _ hj
 refine Ca f rfl rfl hN ?_ k
 simp only[execOp,f.eval hx,f.eval hk,Sem.run_bind,run_lookMf ke ht hz hg he i ok,Result.andThen_ok]
 rfl
theorem l_lookRMf (ke:KeyE P kt enc){v:Value}{F:K→Option Int}{mt:TypeId}{xo ko:Operand}{i:K}{ok:Bool}(m:Mem W G w H)(h:RMf enc G v F)
  (ht:P.underlying mt=some (.map kt ft)) (hz:∀w,(zeroValue ft).run P w= .ok (.int .i64 0) w) (f:Fr a N L) (hN:Nat.blt d N=true) (hx:AN L xo=some v) (hk:AN L ko=some (enc i))
  (k:∀a',Fr a' N ((d,if ok then .tuple #[.int .i64 ((F i).getD 0),.bool (F i).isSome] else .int .i64 ((F i).getD 0))::L)→wpList P ops (Qk n x r) rest a' w):
  wpList P ops (Qk n x r) (⟨some d,.lookup mt xo ko ok,t,pos,af,none⟩::rest) a w:=by
 refine Ca f rfl rfl hN ?_ k
 rcases h with⟨rfl,rfl⟩|⟨b,es,clock,rfl,h2,h3⟩
 ·have h1:(Instr.findKey kt (enc i) []).run P w= .ok none w:=by
   rcases ke.find i w [] [] rfl with⟨h,_⟩|⟨j,kv,_,h,_⟩
   ·exact h
   ·simp at h
  have:(Instr.lookup mt (.map none) (enc i) ok).run P w= .ok (if ok then .tuple #[.int .i64 0,.bool false] else .int .i64 0) w:=by
   simp[Instr.lookup,run_underlying ht,ke.check,h1,hz w]
  simp only[execOp,f.eval hx,f.eval hk,Sem.run_bind,this,Result.andThen_ok]
  rfl
 ·simp only[execOp,f.eval hx,f.eval hk,Sem.run_bind,run_lookMf ke ht hz (m.sealed _ _ h2) h3 i ok,Result.andThen_ok]
  rfl
theorem l_lookMf1 (ke:KeyE P kt enc){it:Itm}{v:Value}{F:K→Option Int}{mt:TypeId}{xo ko:Operand}{i:K}(j:Nat)(m:Mem W G w H)(h:OwMf enc G it v F)(hj:H[j]? =some it)
  (ht:P.underlying mt=some (.map kt ft)) (hz:∀w,(zeroValue ft).run P w= .ok (.int .i64 0) w) (f:Fr a N L) (hN:Nat.blt d N=true) (hx:AN L xo=some v) (hk:AN L ko=some (enc i))
  (k:∀a',Fr a' N ((d,.tuple #[.int .i64 ((F i).getD 0),.bool (F i).isSome])::L)→wpList P ops (Qk n x r) rest a' w):
  wpList P ops (Qk n x r) (⟨some d,.lookup mt xo ko true,t,pos,af,none⟩::rest) a w:=l_lookMf (ok:=true) ke j m h hj ht hz f hN hx hk k
theorem l_lookRMf0 (ke:KeyE P kt enc){v:Value}{F:K→Option Int}{mt:TypeId}{xo ko:Operand}{i:K}(m:Mem W G w H)(h:RMf enc G v F)
  (ht:P.underlying mt=some (.map kt ft)) (hz:∀w,(zeroValue ft).run P w= .ok (.int .i64 0) w) (f:Fr a N L) (hN:Nat.blt d N=true) (hx:AN L xo=some v) (hk:AN L ko=some (enc i))
  (k:∀a',Fr a' N ((d,.int .i64 ((F i).getD 0))::L)→wpList P ops (Qk n x r) rest a' w):
  wpList P ops (Qk n x r) (⟨some d,.lookup mt xo ko false,t,pos,af,none⟩::rest) a w:=l_lookRMf (ok:=false) ke m h ht hz f hN hx hk k
theorem OwMf.upd (ke:KeyE P kt enc){it:Itm}{v:Value}{F:K→Option Int}{mt:TypeId}(j:Nat)(m:Mem W G w H)(h:OwMf enc G it v F)(hj:H[j]? =some it)(ht:P.underlying mt=some (.map kt ft))(i:K)(y:Int):
  ∃it' w',(Instr.mapUpdate mt v (enc i) (.int .i64 y)).run P w= .ok () w'∧Mem W G w' (H.set j it')∧OwMf enc G it' v (B3 F i y):=by
 obtain⟨b,es,clock,rfl,rfl,he⟩:=h
 have hg:w.heap[b]? =some (.map es clock):=m.items j _ hj
 have hlt:b<w.heap.size:=(Array.getElem?_eq_some_iff.1 hg).1
 obtain⟨es',clock',h1,h2⟩:=run_putMf ke ht hg he i y
 exact⟨.obj b (.map es' clock'),_,h1,m.changeAt j hj rfl rfl rfl (λy _ hy=>by
   have:y≠b:=λe=>hy (by rw[e];simp[Itm.foot])
   simp[Ne.symm this]) (by simp[Itm.ok,hlt]) (λy hy=> .inl hy),b,es',clock',rfl,rfl,h2⟩
theorem Fe (ke:KeyE P kt enc){it:Itm}{v:Value}{F:K→Option Int}{mt:TypeId}{xo ko vo:Operand}{i:K}{y:Int}(j:Nat)(m:Mem W G w H)(h:OwMf enc G it v F)(hj:H[j]? =some it)
  (ht:P.underlying mt=some (.map kt ft)) (f:Fr a N L) (hx:AN L xo=some v) (hk:AN L ko=some (enc i)) (hv:AN L vo=some (.int .i64 y))
  (k:∀it' w',Mem W G w' (H.set j it')→OwMf enc G it' v (B3 F i y)→wpList P ops (Qk n x r) rest a w'):
  wpList P ops (Qk n x r) (⟨none,.mapUpdate mt xo ko vo,t,pos,af,none⟩::rest) a w:=by
 obtain⟨it',w',h1,m',h'⟩:=h.upd ke j m hj ht i y
 refine l_void rfl rfl ?_ (k it' w' m' h')
 simp only[execOp,f.eval hx,f.eval hk,f.eval hv,Sem.run_bind,h1,Result.andThen_ok]
 rfl
theorem FQ (ke:KeyE P kt enc){it:Itm}{v:Value}{F:K→Option Int}{mt:TypeId}{xo ko vo:Operand}{i:K}{y:Int}(j:Nat)(m:Mem W G w H)(h:OwMf enc G it v F)(hj:H[j]? =some it)
  (ht:P.underlying mt=some (.map kt ft)) (f:Fr a N L) (hx:AN L xo=some v) (hk:AN L ko=some (enc i)) (hv:AN L vo=some (.int .i64 y))
  (k:∀it' w',Mem W G w' (H.set j it')→OwMf enc G it' v (B3 F i y)→wpList P ops (Qk n x r) rest a w'):
  wpList P ops (Qk n x r) (⟨none,.insert mt xo ko vo,t,pos,af,none⟩::rest) a w:=by
 obtain⟨it',w',h1,m',h'⟩:=h.upd ke j m hj ht i y
 refine l_void rfl rfl ?_ (k it' w' m' h')
 simp only[execOp,f.eval hx,f.eval hk,f.eval hv,Sem.run_bind,h1,Result.andThen_ok]
 rfl
end
def Enum {K:Type}(F:K→Option Int)(l:List (K×Int)):Prop:=(l.map (·.1)).Nodup∧∀k y,F k=some y↔(k,y)∈l
theorem Enum.perm {K:Type}{F:K→Option Int}{l l':List (K×Int)}(h:Enum F l)(p:l'.Perm l):Enum F l':=
 ⟨(p.map _).nodup_iff.2 h.1,λk y=>by rw[h.2,p.mem_iff]⟩
def DS {K σ:Type}(body:K×Int→σ→Option σ):List (K×Int)→σ→Option σ
 |[],s=>some s
 |e::l,s=>(body e s).bind (DS body l)
open Classical in
noncomputable def Cs {K σ:Type}(F:K→Option Int)(body:K×Int→σ→Option σ)(s:σ):Option σ:=
 if h:∃s',∀l,Enum F l→DS body l s=some s' then some h.choose else none
theorem rangeF_spec {K σ:Type}{F:K→Option Int}{body:K×Int→σ→Option σ}{s s':σ}(h:Cs F body s=some s'):∀l,Enum F l→DS body l s=some s':=by
 unfold Cs at h
 split at h
 ·rename_i hh
  cases h
  exact hh.choose_spec
 ·cases h
theorem rangeF_eq {K σ:Type}{F:K→Option Int}{body:K×Int→σ→Option σ}{s s':σ}{l₀:List (K×Int)}(h0:Enum F l₀)(h:∀l,Enum F l→DS body l s=some s'):Cs F body s=some s':=by
 unfold Cs
 have hh:∃s',∀l,Enum F l→DS body l s=some s':=⟨s',h⟩
 rw[dif_pos hh]
 have:=hh.choose_spec l₀ h0
 rw[h l₀ h0] at this
 exact this.symm
theorem CH {K σ:Type}{body:K×Int→σ→Option σ}{s q:σ}{rs:List (K×Int)}(h:∀l,l.Perm rs→DS body l s=some q)(hz:rs=[]):s=q:=by
 have:=h [] (by rw[hz])
 exact Option.some.inj this
theorem Cv {K σ:Type}{body:K×Int→σ→Option σ}{s q:σ}{rs rs':List (K×Int)}{e:K×Int}(h:∀l,l.Perm rs→DS body l s=some q)(hp:rs.Perm (e::rs')):
  ∃s1,body e s=some s1∧∀l,l.Perm rs'→DS body l s1=some q:=by
 have h1:=h (e::rs') hp.symm
 obtain⟨s1,h2,h3⟩:=bind_some h1
 refine⟨s1,h2,λl hl=> ?_⟩
 have h4:=h (e::l) ((List.Perm.cons e hl).trans hp.symm)
 obtain⟨s2,h5,h6⟩:=bind_some h4
 rw[h2] at h5;cases h5
 exact h6
theorem CX {K:Type}{rs rs':List (K×Int)}{e:K×Int}(hp:rs.Perm (e::rs')):rs'.length<rs.length:=by
 rw[hp.length_eq];simp
theorem Df {P:Program}{n r:AP}{x:List (Nat×AP)}{a:Act}{w:World}{c:Code}{K σ:Type}{F:K→Option Int}{body:K×Int→σ→Option σ}{s₀ q:σ}{rs₀:List (K×Int)}
  (Inv:σ→List (K×Int)→AP) (hl:Cs F body s₀=some q) (hE:Enum F rs₀) (h0:Inv s₀ rs₀ a w)
  (round:∀s rs,(∀l,l.Perm rs→DS body l s=some q)→∀a w,Inv s rs a w→
   c.wp P (Qk (λa w=>∃s' rs',rs'.length<rs.length∧(∀l,l.Perm rs'→DS body l s'=some q)∧Inv s' rs' a w) x r) a w):
  (Code.loop c).wp P (Qk n x r) a w:=by
 refine k_loopN (λk a w=>∃s rs,rs.length=k∧(∀l,l.Perm rs→DS body l s=some q)∧Inv s rs a w) (k₀:=rs₀.length) ⟨s₀,rs₀,rfl,λl hp=>rangeF_spec hl l (hE.perm hp),h0⟩ ?_
 rintro k a w ⟨s,rs,rfl,h1,h2⟩
 refine wp_mono (round s rs h1 a w h2) λe a w hq=> ?_
 cases e with
 |normal=>
  obtain⟨s',rs',h3,h4,h5⟩:=hq
  exact⟨rs'.length,h3,s',rs',rfl,h4,h5⟩
 |_=>exact hq
def RgF {K:Type}(enc:K→Value)(G:GH)(it:Itm)(v:Value)(rest:List (K×Int))(at':Option (K×Int)):Prop:=
 (rest=[]∧at'=none∧∃bi,it= .obj bi (.mapIter none 0 #[] 0)∧v= .pointer (some ⟨bi,0,none⟩))∨
 ∃(b bi:Nat) (es:Array MapEntry) (clock:Nat) (seen:Array Nat),G b=some (.map es clock)∧(∀e∈es.toList,e.born<clock)∧(es.toList.map (·.born)).Nodup∧
  it= .obj bi (.mapIter (some b) clock seen clock)∧v= .pointer (some ⟨bi,0,none⟩)∧
  ((leftOf es seen).toList.map (λe=>(e.key,e.val)))=rest.map (λkv=>(enc kv.1,Value.int .i64 kv.2))∧
  (∀kv,at'=some kv→∃e∈es.toList,seen.back? =some e.born∧e.key=enc kv.1∧e.val= .int .i64 kv.2)
def RgA {K:Type}(enc:K→Value)(G:GH)(it:Itm)(v:Value)(rest:List (K×Int)):Prop:=∃at',RgF enc G it v rest at'
section
variable {K : Type} {enc : K → Value} {G G' : GH} {it : Itm} {v : Value} {rs : List (K × Int)} {at0 : Option (K × Int)}
theorem RgF.mono (hG:GLe G G')(h:RgF enc G it v rs at0):RgF enc G' it v rs at0:=by
 rcases h with h|⟨b,bi,es,clock,seen,h1,h2⟩
 ·exact .inl h
 ·exact .inr ⟨b,bi,es,clock,seen,hG _ _ h1,h2⟩
theorem RgF.any (h:RgF enc G it v rs at0):RgA enc G it v rs:=⟨_,h⟩
end
section
variable {P : Program} {ops : Array Oper} {rest : List Oper} {n r : AP} {x : List (Nat × AP)} {a : Act} {w : World} {N : Nat} {L : AZ}
variable {W : World} {G : GH} {H : List Itm} {d : Nat} {t : TypeId} {pos : String} {af : Array Edge} {K : Type} {enc : K → Value}
theorem CE {v:Value}{F:K→Option Int}{mt kt et:TypeId}{xo:Operand}(m:Mem W G w H)(h:RMf enc G v F)(ht:P.underlying mt=some (.map kt et))
  (f:Fr a N L) (hN:Nat.blt d N=true) (hx:AN L xo=some v)
  (k:∀itI vI rs w' a',Mem W G w' (itI::H)→RgA enc G itI vI rs→Enum F rs→Fr a' N ((d,vI)::L)→wpList P ops (Qk n x r) rest a' w'):
  wpList P ops (Qk n x r) (⟨some d,.range mt xo,t,pos,af,none⟩::rest) a w:=by
 rcases h with⟨rfl,rfl⟩|⟨b,es,clock,rfl,hG,M,hM,hn,hF,hb,hd⟩
 ·refine Ca f rfl rfl hN (v:= .pointer (some ⟨w.heap.size,0,none⟩)) (w':=w.alloc (.mapIter none 0 #[] 0)) ?_ (λa' f'=>k (.obj w.heap.size (.mapIter none 0 #[] 0)) _ [] _ a'
   (m.add rfl rfl rfl (λy hy=>by first|exact heap_alloc_old w _ y hy|exact heap_alloc_old w _ hy) (heap_alloc_new w _) (λy hy=>by simp[Itm.foot] at hy;omega)) ⟨none,.inl ⟨rfl,rfl,_,rfl,rfl⟩⟩ ⟨by simp,λk y=>by simp[mf0]⟩ f')
  simp only[execOp,f.eval hx,Sem.run_bind]
  simp[Instr.range,run_underlying ht]
 ·have hg:w.heap[b]? =some (.map es clock):=m.sealed _ _ hG
  refine Ca f rfl rfl hN (v:= .pointer (some ⟨w.heap.size,0,none⟩)) (w':=w.alloc (.mapIter (some b) clock #[] clock)) ?_ (λa' f'=>k (.obj w.heap.size (.mapIter (some b) clock #[] clock)) _ M _ a'
   (m.add rfl rfl rfl (λy hy=>by first|exact heap_alloc_old w _ y hy|exact heap_alloc_old w _ hy) (heap_alloc_new w _) (λy hy=>by simp[Itm.foot] at hy;omega)) ⟨none,.inr ⟨b,_,es,clock,#[],hG,hb,hd,rfl,rfl,?_,λk hk=>by cases hk⟩⟩ ⟨hn,hF⟩ f')
  ·simp only[execOp,f.eval hx,Sem.run_bind,run_range_map w mt kt et b es clock ht hg,Result.andThen_ok]
   rfl
  ·have e:leftOf es #[]=es:=by
    unfold leftOf
    exact Array.filter_eq_self.2 (λx _=>by simp)
   rw[e];exact hM
theorem rest_step {e:MapEntry}{kv:K×Int}(hinj:∀a b,enc a=enc b→a=b)(hk1:e.key=enc kv.1)(hk2:e.val= .int .i64 kv.2):∀(l:List MapEntry) (rs:List (K×Int)),(l.map (·.born)).Nodup→e∈l→l.map (λe=>(e.key,e.val))=rs.map (λkv=>(enc kv.1,Value.int .i64 kv.2))→
  ∃rs',rs.Perm (kv::rs')∧(l.filter (λx=> !(x.born==e.born))).map (λe=>(e.key,e.val))=rs'.map (λkv=>(enc kv.1,Value.int .i64 kv.2)):=by
 intro l
 induction l with
 |nil=>intro rs _ h;cases h
 |cons z l ih=>
  intro rs hnd hmem hmap
  cases rs with
  |nil=>simp at hmap
  |cons q rs=>
   simp only[List.map_cons,List.cons.injEq] at hmap
   have hnd':=List.nodup_cons.1 hnd
   by_cases hz:z=e
   ·subst hz
    have hq:q=kv:=by
     have h1:=Prod.mk.inj hmap.1
     have h2:enc q.1=enc kv.1:=h1.1.symm.trans hk1
     have h3:Value.int .i64 q.2= .int .i64 kv.2:=h1.2.symm.trans hk2
     exact Prod.ext (hinj _ _ h2) (by simpa using h3)
    refine⟨rs,by rw[hq],?_⟩
    rw[List.filter_cons,beq_self_eq_true,Bool.not_true,if_neg Bool.false_ne_true]
    have:l.filter (λx=> !(x.born==z.born))=l:=List.filter_eq_self.2 (λx hx=>by
     cases hc:(x.born==z.born)
     ·rfl
     ·exact absurd (List.mem_map.2 ⟨x,hx,beq_iff_eq.1 hc⟩) hnd'.1)
    rw[this];exact hmap.2
   ·have hel:e∈l:=(List.mem_cons.1 hmem).resolve_left (λh=>hz h.symm)
    obtain⟨rs',p1,p2⟩:=ih rs hnd'.2 hel hmap.2
    refine⟨q::rs',(List.Perm.cons q p1).trans (List.Perm.swap _ _ _),?_⟩
    have hb:(z.born==e.born)=false:=by
     cases hc:(z.born==e.born)
     ·rfl
     ·exact absurd (List.mem_map.2 ⟨e,hel,(beq_iff_eq.1 hc).symm⟩) hnd'.1
    rw[List.filter_cons,hb,Bool.not_false,if_pos rfl,List.map_cons,List.map_cons,p2,hmap.1]
theorem C1 {itI:Itm}{v:Value}{rs:List (K×Int)}{xo:Operand}(hinj:∀a b,enc a=enc b→a=b)(j:Nat)(m:Mem W G w H)(h:RgA enc G itI v rs)(hj:H[j]? =some itI)
  (f:Fr a N L) (hN:Nat.blt d N=true) (hx:AN L xo=some v)
  (k0:rs=[]→∀a',Fr a' N ((d,.tuple #[.bool false])::L)→wpList P ops (Qk n x r) rest a' w)
  (k1:∀e rs' itI' w' a',rs.Perm (e::rs')→Mem W G w' (H.set j itI')→RgF enc G itI' v rs' (some e)→Fr a' N ((d,.tuple #[.bool true,enc e.1,.int .i64 e.2])::L)→wpList P ops (Qk n x r) rest a' w'):
  wpList P ops (Qk n x r) (⟨some d,.next xo false,t,pos,af,none⟩::rest) a w:=by
 obtain⟨at0,h⟩:=h
 rcases h with⟨rfl,_,bi,rfl,rfl⟩|⟨b,bi,es,clock,seen,hG,hb,hn,rfl,rfl,he,_⟩
 ·have hr:w.heap[bi]? =some (.mapIter none 0 #[] 0):=m.items j _ hj
  refine Ca f rfl rfl hN ?_ (k0 rfl)
  simp only[execOp,f.eval hx,Sem.run_bind]
  simp[Instr.next,getObj,Sem.run,hr]
 ·have hg:w.heap[b]? =some (.map es clock):=m.sealed _ _ hG
  have hr:w.heap[bi]? =some (.mapIter (some b) clock seen clock):=m.items j _ hj
  have hlt:bi<w.heap.size:=(Array.getElem?_eq_some_iff.1 hr).1
  have hex:(execOp a.eval ⟨some d,.next xo false,t,pos,af,none⟩).run P w=(((Instr.next (.pointer (some ⟨bi,0,none⟩)) false t).run P w).andThen λv' w'=> .ok (.value v') w'):=by
   simp only[execOp,f.eval hx,Sem.run_bind]
   rfl
  rcases run_nextAt (P:=P) w t bi b clock seen es hr hg hb with⟨h0,h1⟩|⟨e,hem,w1,a1,a2,a3,a4,h1⟩
  ·have hrs:rs=[]:=by
    have:(leftOf es seen).toList=[]:=List.eq_nil_of_length_eq_zero (by rw[Array.length_toList];exact h0)
    rw[this] at he
    simpa using he.symm
   refine Ca f rfl rfl hN ?_ (k0 hrs)
   rw[hex,h1];rfl
  ·have hee:=mem_left hem
   have hkv:∃kv∈rs,e.key=enc kv.1∧e.val= .int .i64 kv.2:=by
    have:(e.key,e.val)∈(leftOf es seen).toList.map (λe=>(e.key,e.val)):=List.mem_map.2 ⟨e,hem,rfl⟩
    rw[he] at this
    obtain⟨kv,h2,h3⟩:=List.mem_map.1 this
    simp only[Prod.mk.injEq] at h3
    exact⟨kv,h2,h3.1.symm,h3.2.symm⟩
   obtain⟨kv,_,hk1,hk2⟩:=hkv
   obtain⟨rs',hperm,hrest⟩:∃rs',rs.Perm (kv::rs')∧((leftOf es (seen.push e.born)).toList.map (λe=>(e.key,e.val)))=rs'.map (λkv=>(enc kv.1,Value.int .i64 kv.2)):=by
    have e3:(leftOf es (seen.push e.born)).toList=(leftOf es seen).toList.filter (λx=> !(x.born==e.born)):=by
     unfold leftOf
     rw[Array.toList_filter,Array.toList_filter,List.filter_filter]
     congr 1
     funext x
     rw[contains_push]
     cases seen.contains x.born<;>cases (x.born==e.born)<;>rfl
    rw[e3]
    have hnd:((leftOf es seen).toList.map (·.born)).Nodup:=by
     unfold leftOf
     rw[Array.toList_filter]
     exact hn.sublist (List.Sublist.map _ (List.filter_sublist))
    exact rest_step hinj hk1 hk2 _ rs hnd hem he
   have m':Mem W G w1 (H.set j (.obj bi (.mapIter (some b) clock (seen.push e.born) clock))):=
    m.changeAt j hj a2 a3 a4 (λy _ hy=>by
     have:y≠bi:=λe=>hy (by rw[e];simp[Itm.foot])
     rw[a1];simp[Ne.symm this]) (by simp[Itm.ok,a1,hlt]) (λy hy=> .inl hy)
   refine Ca f rfl rfl hN (w':=w1) (v:= .tuple #[.bool true,enc kv.1,.int .i64 kv.2]) ?_ (λa' f'=>k1 kv rs' _ w1 a' hperm m' (.inr ⟨b,bi,es,clock,seen.push e.born,hG,hb,hn,rfl,rfl,hrest,λk hk=> ?_⟩) f')
   ·rw[hex,h1,hk1,hk2];rfl
   ·cases hk
    exact⟨e,hee.1,by simp,hk1,hk2⟩
theorem CG {itI:Itm}{v:Value}{rs:List (K×Int)}{e:K×Int}{xo:Operand}(j:Nat)(m:Mem W G w H)(h:RgF enc G itI v rs (some e))(hj:H[j]? =some itI)
  (f:Fr a N L) (hN:Nat.blt d N=true) (hx:AN L xo=some v)
  (k:∀a',Fr a' N ((d,.tuple #[enc e.1,.int .i64 e.2])::L)→wpList P ops (Qk n x r) rest a' w):
  wpList P ops (Qk n x r) (⟨some d,.entry xo,t,pos,af,none⟩::rest) a w:=by
 rcases h with⟨_,h,_⟩|⟨b,bi,es,clock,seen,hG,hb,hn,rfl,rfl,he,hl⟩
 ·cases h
 obtain⟨z,hz,hs,hk,hy⟩:=hl e rfl
 have hg:w.heap[b]? =some (.map es clock):=m.sealed _ _ hG
 have hr:w.heap[bi]? =some (.mapIter (some b) clock seen clock):=m.items j _ hj
 have hf:es.find? (·.born==z.born)=some z:=by rw[←Array.find?_toList];exact find_born z es.toList hn hz
 refine Ca f rfl rfl hN (v:= .tuple #[enc e.1,.int .i64 e.2]) ?_ k
 simp only[execOp,f.eval hx,Sem.run_bind]
 have:(Instr.entry (.pointer (some ⟨bi,0,none⟩))).run P w= .ok (.tuple #[z.key,z.val]) w:=by
  simp only[Instr.entry,getObj,Sem.run_bind,Sem.run,hr,hg,Result.andThen,hs,bne_self_eq_false,Bool.false_eq_true,if_false,hf]
  rfl
 rw[this,hk,hy]
 rfl
end
def U2 :Rec (Int×Int):=⟨2,λx=>[.int .u32 x.1,.int .u32 x.2],λ_=>rfl,by decide,λx c h=>by simp at h;rcases h with rfl|rfl<;>rfl⟩
theorem foldl_at :∀(l:List Value) (q b:Nat) (cells:Array Value),b+q+l.length≤cells.size→(l.zipIdx q).foldl (λcs (p:Value×Nat)=>cs.setIfInBounds (b+p.2) p.1) cells=(cells.toList.take (b+q)++l++cells.toList.drop (b+q+l.length)).toArray
 |[],q,b,cells,h=>by simp
 |v::l,q,b,cells,h=>by
  simp only[List.length_cons] at h
  rw[List.zipIdx_cons,List.foldl_cons,foldl_at l (q+1) b _ (by simp;omega)]
  simp only[Array.toList_setIfInBounds]
  have hlk:b+q<cells.toList.length:=by simp;omega
  rw[show b+(q+1)=b+q+1 by omega,List.take_add_one,List.take_set_of_le (Nat.le_refl _),List.getElem?_set,if_pos rfl,if_pos hlk,List.drop_set_of_lt (by omega),List.length_cons]
  simp only[Option.toList,List.append_assoc,List.cons_append,List.nil_append]
  rw[show b+q+1+l.length=b+q+(l.length+1) by omega]
section
variable {P : Program} {ops : Array Oper} {rest : List Oper} {n r : AP} {x : List (Nat × AP)} {a : Act} {w : World} {N : Nat} {L : AZ}
variable {d : Nat} {t : TypeId} {pos : String} {af : Array Edge} {W : World} {G : GH} {H : List Itm} {α : Type} {E : Rec α}
theorem l_slitR2 {tt u bytes:Nat}{z:Value}{xo yo:Operand}{cs ds:List Value}{y y':α}(m:Mem W G w H)(hu:SlT P u tt E.m bytes z)(f:Fr a N L)(hN:Nat.blt d N=true)(hx:AN L xo=some (.agg cs.toArray))(hy:AN L yo=some (.agg ds.toArray))
  (hcs:E.enc y=cs) (hds:E.enc y'=ds) (hm:E.m*2≤16777216)
  (k:∀it v w' a',Mem W G w' (it::H)→OwR E tt G it v [y,y']→Fr a' N ((d,v)::L)→wpList P ops (Qk n x r) rest a' w'):
  wpList P ops (Qk n x r) (⟨some d,.buildSlice u 2 #[(0,xo),(1,yo)],t,pos,af,none⟩::rest) a w:=by
 obtain⟨ti,hi1,hi2,hi3,hi4⟩:=hu.info
 have hl:cs.length=E.m:=by rw[←hcs,E.len]
 have hl':ds.length=E.m:=by rw[←hds,E.len]
 have hpos:=E.pos
 have hr:(execOp a.eval ⟨some d,.buildSlice u 2 #[(0,xo),(1,yo)],t,pos,af,none⟩).run P w= .ok (.value (.slice (some ⟨w.heap.size,0,none⟩) 2 2)) (w.alloc (.cells (cs++ds).toArray tt)):=by
  have h0:¬(16777216<2*ti.size):=by omega
  have h1:ti.size≠0:=by omega
  have hfill:Instr.fill (λi=>some (i*ti.size,ti.size)) ((Array.range (2*ti.size)).map (z.cells[·%z.cells.size]!)) [(0,Value.agg cs.toArray),(1,Value.agg ds.toArray)]=some (cs++ds).toArray:=by
   have f0:=foldl_at cs 0 0 ((Array.range (2*ti.size)).map (z.cells[·%z.cells.size]!)) (by simp;omega)
   generalize hA:((Array.range (2*ti.size)).map (z.cells[·%z.cells.size]!))=A at f0 ⊢
   have hA':A.size=2*ti.size:=by rw[←hA];simp
   have e0:(Value.agg cs.toArray).cells.zipIdx.foldl (λcs (c,j)=>cs.setIfInBounds (0*ti.size+j) c) A=(cs++A.toList.drop cs.length).toArray:=by
    simp only[Nat.zero_add,List.take_zero,List.nil_append] at f0
    refine Eq.trans ?_ f0
    simp[Value.cells]
   have f1:=foldl_at ds 0 ti.size (cs++A.toList.drop cs.length).toArray (by simp;omega)
   have e1:(Value.agg ds.toArray).cells.zipIdx.foldl (λcs (c,j)=>cs.setIfInBounds (1*ti.size+j) c) (cs++A.toList.drop cs.length).toArray=(cs++ds).toArray:=by
    refine Eq.trans ?_ (f1.trans ?_)
    ·simp[Value.cells]
    ·congr 1
     simp only[Nat.add_zero]
     rw[List.take_append_of_le_length (by omega),List.take_of_length_le (by omega),List.drop_eq_nil_of_le (by simp;omega),List.append_nil]
   unfold Instr.fill
   simp only[]
   rw[if_neg (by simp[Value.cells];omega),e0]
   unfold Instr.fill
   simp only[]
   rw[if_neg (by simp[Value.cells];omega),e1]
   rfl
  simp[execOp,Instr.buildSlice,run_underlying hu.und,sizeOf,typeInfo,zeroValue,hi1,hi4,h0,h1,(show 2*ti.size≠0 by omega),f.eval hx,f.eval hy,newRow,hfill]
 refine Ca f rfl rfl hN hr (λa' f'=>k (.row (.slice (some ⟨w.heap.size,0,none⟩) 2 2) tt E.m [y,y'].length ([y,y'].flatMap E.enc)) _ _ a' ?_ rfl f')
 refine m.add rfl rfl rfl (λq hq=>by first|exact heap_alloc_old w _ q hq|exact heap_alloc_old w _ hq) ⟨by rw[E.size],.inr ⟨w.heap.size,2,_,by simp,Nat.zero_le _,heap_alloc_new w _,by simp,by simp[maxLen],by simp;omega,by
   simp only[hcs,hds,List.flatMap_cons,List.flatMap_nil,List.append_nil,List.length_cons,List.length_nil]
   rw[List.take_of_length_le]
   simp;omega⟩⟩ (λq hq=>by simp[Itm.foot,Value.ownBlock] at hq;omega)
end
theorem Fl {P:Program}{a:Act}{w:World}{N:Nat}{L:AZ}{dd:Option Tmp}{t:TypeId}{pos:String}{af:Array Edge}{gd:Option (Nat×Bool)}{u:TypeId}{parts:Array (Nat×Operand)}{vs:List (Nat×Value)}{v:Value}(f:Fr a N L)
  (hp:(parts.toList.map λp=>(p.1,AN L p.2))=vs.map λp=>(p.1,some p.2)) (hb:∀w,(Instr.build u vs.toArray).run P w= .ok v w):
  (execOp a.eval ⟨dd,.build u parts,t,pos,af,gd⟩).run P w= .ok (.value v) w:=by
 have key:∀(ps:List (Nat×Operand)) (vs:List (Nat×Value)),(ps.map λp=>(p.1,AN L p.2))=vs.map (λp=>(p.1,some p.2))→ps.map (fun(i,x)=>(i,a.eval x))=vs:=by
  intro ps
  induction ps with
  |nil=>intro vs h;cases vs with
   |nil=>rfl
   |cons _ _=>simp at h
  |cons p ps ih=>
   intro vs h
   cases vs with
   |nil=>simp at h
   |cons q vs=>
    simp only[List.map_cons,List.cons.injEq,Prod.mk.injEq] at h
    simp only[List.map_cons,ih vs h.2,f.eval h.1.2,h.1.1]
 have e:(parts.map fun(i,x)=>(i,a.eval x))=vs.toArray:=by
  apply Array.toList_inj.1
  rw[Array.toList_map,key parts.toList vs hp]
 simp[execOp,e,hb]
theorem BP {f:Fn}{a b:Array Value}:(Value.func f a b).cells= #[.func f a b]:=rfl
end Go.Sx

namespace Go.Sx
open IntKind
noncomputable section
def D.M0 (a:LI):Option (Bool):=
 some (decide ((8:Int)<(a.length:Int)))
def D.i (a b:LI)(c d:LL)(e f:LI):Option (Int×LI×LI×LL×LL):=
 some ((i64.wrap ((a.length:Int)-1)),a,b,c,d)
def D.j (a b:LI)(c d:LL)(o p:LI)(e f g:Int)(h:LI):Option (LI×LI×LL×LL):=
 (A1 a ([e]:LI)).bind λi=>(A1 b ([f]:LI)).bind λj=>(D.F0 g).bind λk=>(A1 c ([k]:LL)).bind λl=>(D.a0 h).bind λm=>(A1 d ([m]:LL)).bind λn=>some (i,j,l,n)
def D.I (ab ac:LI)(ad ae:LL)(c d:LI)(j k:Int):Option (LI×LI×LL×LL):=
 (D.h (iandNot .u32 j k)).bind λl=>(Ay (σ:=Int×Int×LI×LI×LL×LL) (ρ:=(Int×LI×LI×LL×LL)) (fun(g,h,m,n,o,p)=>cond (decide (h<(l.length:Int))) ((idx l h).bind λq=>(D.a q).bind λr=>(D.i m n o p c d).bind λa=>(D.j a.2.1 a.2.2.1 a.2.2.2.1 a.2.2.2.2 c d 3 q (iandNot .u32 g r) ([a.1]:LI)).bind λe=>some (.inl ((iandNot .u32 g r),(i64.wrap (h+1)),e.1,e.2.1,e.2.2.1,e.2.2.2))) (some (.inr (g,m,n,o,p)))) (j,0,ab,ac,ad,ae)).bind fun(s,ag,ah,ai,aj)=>(D.h (iandNot .u32 k s)).bind λt=>(Ay (σ:=Int×Int×LI×LI×LL×LL) (ρ:=(LI×LI×LL×LL)) (fun(u,i,v,w,x,y)=>cond (decide (i<(t.length:Int))) ((idx t i).bind λz=>(D.a z).bind λaa=>(D.i v w x y c d).bind λb=>(D.j b.2.1 b.2.2.1 b.2.2.2.1 b.2.2.2.2 c d 2 z (ior .u32 u aa) ([b.1]:LI)).bind λf=>some (.inl ((ior .u32 u aa),(i64.wrap (i+1)),f.1,f.2.1,f.2.2.1,f.2.2.2))) (some (.inr (v,w,x,y)))) (s,0,ag,ah,ai,aj)).bind fun(al,am,an,ao)=>some (al,am,an,ao)
def D.P :Nat→LI→LI→LL→LL→LI→LI→Int→Int→Option (LI×LI×LL×LL)
 |0,_,_,_,_,_,_,_,_=>none
 |fuel+1,x,y,z,aa,a,b,d,ab=>(idx b d).bind λac=>(D.h ac).bind λs=>(Ay (σ:=Int×Int×LI×LI×LL×LL) (ρ:=(Int×LI×LI×LL×LL)) (fun(i,e,n,o,p,q)=>cond (decide (e<(s.length:Int))) ((idx s e).bind λr=>cond (r==ab) (some (.inl (i,(i64.wrap (e+1)),n,o,p,q))) ((D.P fuel n o p q a b r d).bind λj=>(idx a r).bind λae=>(idx a d).bind λaf=>(D.I j.1 j.2.1 j.2.2.1 j.2.2.2 a b ae af).bind λc=>cond (decide ((0:Int)≤i)) ((((idx a d).bind λag=>(D.i c.1 c.2.1 c.2.2.1 c.2.2.2 a b).bind λf=>(D.j f.2.1 f.2.2.1 f.2.2.2.1 f.2.2.2.2 a b 4 (-1) ag ([i,f.1]:LI)).bind λk=>some (k.1,k.2.1,k.2.2.1,k.2.2.2):Option (LI×LI×LL×LL))).bind fun(ah,ai,aj,ak)=>(D.i ah ai aj ak a b).bind λg=>some (.inl (g.1,(i64.wrap (e+1)),g.2.1,g.2.2.1,g.2.2.2.1,g.2.2.2.2))) ((D.i c.1 c.2.1 c.2.2.1 c.2.2.2 a b).bind λh=>some (.inl (h.1,(i64.wrap (e+1)),h.2.1,h.2.2.1,h.2.2.2.1,h.2.2.2.2))))) (some (.inr (i,n,o,p,q)))) ((-1),0,x,y,z,aa)).bind fun(al,t,u,v,w)=>cond (decide (al<0)) ((D.j t u v w a b 1 (-1) 0 ([]:LI)).bind λl=>(idx a d).bind λam=>(D.I l.1 l.2.1 l.2.2.1 l.2.2.2 a b 0 am).bind λm=>some (m.1,m.2.1,m.2.2.1,m.2.2.2)) (some (t,u,v,w))
def D.p (a b:LI)(c d:LL)(e f:LI)(g h:Int):Option (LI×LI×LL×LL):=D.P B7 a b c d e f g h
def D.f1 (b:LL):Option (Int):=
 (Ay (σ:=Int) (ρ:=(Unit) ⊕ (Int)) (fun(a:Int)=>cond (decide (a<(b.length:Int))) ((idx b a).bind λc=>(D.M0 c).bind λd=>cond d (some (.inr (.inr a))) (some (.inl (i64.wrap (a+1))))) (some (.inr (.inl ())))) 0).bind λzz=>match zz with| .inl _=>(some (-1))| .inr z=>(some z)
def D.I0 (a:LL):Option (Bool):=
 (D.f1 a).bind λb=>some (decide ((0:Int)≤b))
def D.s (g b e:LL):Option (LI×LI×LL×LL×Bool):=
 (D.E0 g b e).bind λh=>(cond (!h) (some true) ((D.I0 b).bind λi=>some i)).bind λj=>cond j (some (([]:LI),([]:LI),([]:LL),([]:LL),false)) ((D.l b).bind λd=>(D.U b e).bind λf=>(D.p ([]) ([]) ([]) ([]) d f 0 (-1)).bind λc=>(idx d 0).bind λk=>(D.I c.1 c.2.1 c.2.2.1 c.2.2.2 d f k 0).bind λa=>cond (decide ((200:Int)<(a.1.length:Int))) (some (([]:LI),([]:LI),([]:LL),([]:LL),false)) (some (a.1,a.2.1,a.2.2.1,a.2.2.2,true)))
def D.z (a c:LI)(b:Int):Option (Bool):=
 (D.o a b).bind λd=>(cond (!d) ((D.x a b).bind λe=>(D.y e c).bind λf=>some f) (some false)).bind λg=>some g
def D.c0 (h:LL)(i e:LI)(d j:LL)(b:Int):Option (Bool):=
 (idx d b).bind λc=>(idx j b).bind λa=>(cond (decide ((8:Int)<(c.length:Int))) (some true) ((D.f h).bind λk=>(D.C c k).bind λl=>some (!l))).bind λm=>cond m (some false) ((Ay (σ:=Int) (ρ:=(Unit) ⊕ (Bool)) (fun(g:Int)=>cond (decide (g<(a.length:Int))) ((idx a g).bind λn=>(D.e n 0 (i64.wrap (b-1))).bind λo=>cond (!o) (some (.inr (.inr false))) (some (.inl (i64.wrap (g+1))))) (some (.inr (.inl ())))) 0).bind λzz=>match zz with| .inl _=>((idx i b).bind λf=>cond (f==1) ((idx e b).bind λp=>some (((p==(-1))&&((c.length:Int)==0))&&((a.length:Int)==0))) (cond (f==2) ((cond ((a.length:Int)==1) ((idx a 0).bind λq=>(idx d q).bind λr=>(idx e b).bind λs=>(D.z r c s).bind λt=>some t) (some false)).bind λu=>some u) (cond (f==3) ((cond ((a.length:Int)==1) ((idx a 0).bind λv=>(idx d v).bind λw=>(idx e b).bind λx=>(D.z c w x).bind λy=>some y) (some false)).bind λaa=>some aa) (cond (f==4) ((idx e b).bind λab=>(cond ((ab==(-1))&&((a.length:Int)==2)) ((idx a 0).bind λac=>(idx d ac).bind λad=>(D.y ad c).bind λae=>some ae) (some false)).bind λaf=>(cond af ((idx a 1).bind λag=>(idx d ag).bind λah=>(D.y ah c).bind λai=>some ai) (some false)).bind λaj=>some aj) (some false)))))| .inr z=>(some z))
def D.x0 (g r:LI)(s c:LL):Option (Bool):=
 (CD (0:Int) (g.length:Int) (g.length:Int)).bind λj=>(Ay (σ:=LI×Int) (ρ:=LI) (fun(h,a)=>cond (decide (a<(c.length:Int))) ((Ay (σ:=LI×Int) (ρ:=LI) (fun(b,d)=>(idx c a).bind λm=>cond (decide (d<(m.length:Int))) ((idx c a).bind λn=>(idx n d).bind λe=>(idx b e).bind λo=>(idx b e).bind λt=>some (.inl ((b.set (Int.toNat e) (i64.wrap (o+1))),(i64.wrap (d+1))))) (some (.inr b))) (h,0)).bind λp=>some (.inl (p,(i64.wrap (a+1))))) (some (.inr h))) (j,0)).bind λi=>(Ay (σ:=Int) (ρ:=(Unit) ⊕ (Bool)) (fun(f:Int)=>cond (decide ((i64.wrap (f+1))<(i.length:Int))) ((idx i f).bind λq=>cond (q !=1) (some (.inr (.inr false))) (some (.inl (i64.wrap (f+1))))) (some (.inr (.inl ())))) 0).bind λzz=>match zz with| .inl _=>(some true)| .inr z=>(some z)
def D.m0 (b:LL)(i m:LI)(e aj:LL):Option (Bool):=
 (CD (0:Int) (b.length:Int) (b.length:Int)).bind λn=>(CD (0:Int) (b.length:Int) (b.length:Int)).bind λo=>(Ay (σ:=LI×LI×Int) (ρ:=(LI×LI)) (fun(c,j,a)=>cond (decide (a<(i.length:Int))) ((idx i a).bind λq=>((cond (q==3) ((idx m a).bind λh=>(idx c h).bind λr=>(idx c h).bind λak=>some (c.set (Int.toNat h) (i64.wrap (r+1)))) (some c):Option LI)).bind λs=>(idx e a).bind λt=>(D.M t).bind λu=>(Ay (σ:=LI×Int) (ρ:=LI) (fun(f,g)=>(idx e a).bind λw=>cond (decide (g<(w.length:Int))) ((idx e a).bind λx=>(idx x g).bind λk=>(idx e a).bind λy=>(idx y g).bind λaa=>(idx f aa).bind λab=>(idx f k).bind λal=>some (.inl ((f.set (Int.toNat k) (ior .i64 ab u)),(i64.wrap (g+1))))) (some (.inr f))) (j,0)).bind λac=>some (.inl (s,ac,(i64.wrap (a+1))))) (some (.inr (c,j)))) (n,o,0)).bind fun(l,ad)=>(D.A b).bind λae=>(Ay (σ:=Int) (ρ:=(Unit) ⊕ (Bool)) (fun(d:Int)=>cond (decide (d<(l.length:Int))) ((idx l d).bind λaf=>(cond (af !=1) (some true) ((idx ae d).bind λag=>(idx ad d).bind λah=>some ((iandNot .i64 ag ah) !=0))).bind λai=>cond ai (some (.inr (.inr false))) (some (.inl (i64.wrap (d+1))))) (some (.inr (.inl ())))) 0).bind λzz=>match zz with| .inl _=>(some true)| .inr z=>(some z)
def D.k0 (e:LL)(a c:LI)(b d:LL):Option (Bool):=
 (D.t e).bind λg=>cond ((((((!g)||(decide ((a.length:Int)<1)))||(decide ((200:Int)<(a.length:Int))))||((c.length:Int) !=(a.length:Int)))||((b.length:Int) !=(a.length:Int)))||((d.length:Int) !=(a.length:Int))) (some false) ((Ay (σ:=Int) (ρ:=(Unit) ⊕ (Bool)) (fun(f:Int)=>cond (decide (f<(a.length:Int))) ((D.c0 e a c b d f).bind λh=>cond (!h) (some (.inr (.inr false))) (some (.inl (i64.wrap (f+1))))) (some (.inr (.inl ())))) 0).bind λzz=>match zz with| .inl _=>((idx b (i64.wrap ((a.length:Int)-1))).bind λi=>(cond ((i.length:Int)==0) ((D.x0 a c b d).bind λj=>some j) (some false)).bind λk=>(cond k ((D.m0 e a c b d).bind λl=>some l) (some false)).bind λm=>some m)| .inr z=>(some z))
def D.D0 (a b:Int):Option (Bool):=
 (D.B a 0 (i64.wrap (b-1))).bind λc=>some (!c)
def D.T0 (b:LI)(c:Int):Option (Int):=
 (Ay (σ:=Int) (ρ:=(Unit) ⊕ (Int)) (fun(a:Int)=>cond (decide (a<(b.length:Int))) ((idx b a).bind λd=>(D.D0 d c).bind λe=>cond e (some (.inr (.inr a))) (some (.inl (i64.wrap (a+1))))) (some (.inr (.inl ())))) 0).bind λzz=>match zz with| .inl _=>(some (-1))| .inr z=>(some z)
def D.O0 (a:LI)(b:Int):Option (Bool):=
 (D.T0 a b).bind λc=>some (decide ((0:Int)≤c))
def D.m (g h:LI)(ao i:LL)(c:Int)(a:LI)(f:Int):Option (Bool):=
 (idx h c).bind λd=>(idx i c).bind λb=>(D.O0 b c).bind λj=>cond j (some false) ((idx g c).bind λe=>cond (e==1) ((cond (d==(-1)) ((idx a c).bind λk=>some (k==0)) (some false)).bind λl=>some (l&&((b.length:Int)==0))) (cond (e==4) ((cond ((d==(-1))&&((b.length:Int)==2)) ((idx b 0).bind λm=>(idx a m).bind λn=>(idx a c).bind λo=>some (n==o)) (some false)).bind λp=>(cond p ((idx b 1).bind λq=>(idx a q).bind λr=>(idx a c).bind λs=>some (r==s)) (some false)).bind λt=>some t) (cond (e==2) ((D.B d 0 (i64.wrap (f-1))).bind λu=>(cond (u&&((b.length:Int)==1)) ((idx b 0).bind λv=>(idx a v).bind λw=>(D.c w d).bind λx=>some (!x)) (some false)).bind λy=>(cond y ((idx a c).bind λz=>(idx b 0).bind λaa=>(idx a aa).bind λab=>(D.a d).bind λac=>some (z==(ior .u32 ab ac))) (some false)).bind λad=>some ad) (cond (e==3) ((D.B d 0 (i64.wrap (f-1))).bind λae=>(cond (ae&&((b.length:Int)==1)) ((idx b 0).bind λaf=>(idx a af).bind λag=>(D.c ag d).bind λah=>some ah) (some false)).bind λai=>(cond ai ((idx a c).bind λaj=>(idx b 0).bind λak=>(idx a ak).bind λal=>(D.a d).bind λam=>some (aj==(iandNot .u32 al am))) (some false)).bind λan=>some an) (some false)))))
end
end Go.Sx

namespace Go.Sx
open IntKind
noncomputable section
def D.a1 (a:Int):Option (Bool):=
 some (a !=1)
def D.Y0 (b:LI):Option (Int):=
 (Ay (σ:=Int) (ρ:=(Unit) ⊕ (Int)) (fun(a:Int)=>cond (decide (a<(b.length:Int))) ((idx b a).bind λc=>(D.a1 c).bind λd=>cond d (some (.inr (.inr a))) (some (.inl (i64.wrap (a+1))))) (some (.inr (.inl ())))) 0).bind λzz=>match zz with| .inl _=>(some (-1))| .inr z=>(some z)
def D.N0 (a:LI):Option (Bool):=
 (D.Y0 a).bind λb=>some (decide ((0:Int)≤b))
def D.q (c:LL)(a h:LI)(d i:LL):Option (Bool):=
 (D.b0 c).bind λu=>cond ((((((!u)||(decide ((a.length:Int)<1)))||(decide ((200:Int)<(a.length:Int))))||((h.length:Int) !=(a.length:Int)))||((d.length:Int) !=(a.length:Int)))||((i.length:Int) !=(a.length:Int))) (some false) ((Ay (σ:=Int) (ρ:=(Unit) ⊕ (Bool)) (fun(j:Int)=>cond (decide (j<(d.length:Int))) ((idx d j).bind λo=>(cond (decide ((8:Int)<(o.length:Int))) (some true) ((D.v o (c.length:Int)).bind λv=>some (!v))).bind λw=>cond w (some (.inr (.inr false))) (some (.inl (i64.wrap (j+1))))) (some (.inr (.inl ())))) 0).bind λzz=>match zz with| .inl _=>((((D.l d).bind λx=>(CD (0:Int) (a.length:Int) (a.length:Int)).bind λy=>(CD (0:Int) (c.length:Int) (c.length:Int)).bind λaa=>some (x,y,aa):Option (LI×LI×LI))).bind fun(k,ab,ac)=>(Ay (σ:=LI×LI×Int) (ρ:=(LI×LI) ⊕ (Bool)) (fun(p,e,b)=>cond (decide (b<(a.length:Int))) ((D.m a h d i b k (c.length:Int)).bind λae=>cond (!ae) (some (.inr (.inr false))) ((idx i b).bind λq=>(Ay (σ:=LI×Int) (ρ:=LI) (fun(f,l)=>cond (decide (l<(q.length:Int))) ((idx q l).bind λm=>(idx f m).bind λag=>(idx f m).bind λaq=>some (.inl ((f.set (Int.toNat m) (i64.wrap (ag+1))),(i64.wrap (l+1))))) (some (.inr f))) (p,0)).bind λr=>(idx a b).bind λah=>cond (ah==3) ((idx h b).bind λn=>(idx e n).bind λai=>(idx e n).bind λar=>some (.inl (r,(e.set (Int.toNat n) (i64.wrap (ai+1))),(i64.wrap (b+1))))) (some (.inl (r,e,(i64.wrap (b+1))))))) (some (.inr (.inl (p,e))))) (ab,ac,0)).bind λzz=>match zz with| .inl (s,aj)=>((Ay (σ:=Int) (ρ:=(Unit) ⊕ (Bool)) (fun(g:Int)=>cond (decide (g<(s.length:Int))) ((idx s g).bind λt=>cond (((t==1) !=(decide (g<(i64.wrap ((a.length:Int)-1)))))||(decide ((1:Int)<t))) (some (.inr (.inr false))) (some (.inl (i64.wrap (g+1))))) (some (.inr (.inl ())))) 0).bind λzz=>match zz with| .inl _=>((idx k (i64.wrap ((a.length:Int)-1))).bind λak=>(cond (ak==0) ((D.N0 aj).bind λal=>some (!al)) (some false)).bind λam=>(cond am ((D.u c).bind λan=>(D.L an k).bind λao=>some ao) (some false)).bind λap=>some ap)| .inr z=>(some z))| .inr z=>(some z))| .inr z=>(some z))
def D.n0 (a:LI):Option (Bool):=
 some (decide ((6:Int)<(a.length:Int)))
def D.P0 (b c:Int)(a j d:Int):Option (Bw):=
 (D.c c a).bind λe=>cond (!e) (some (mf0:Bw)) ((D.c b a).bind λf=>((cond f (some (i64.wrap (d+1))) (some d):Option (Int))).bind λg=>(D.a a).bind λh=>(D.a a).bind λi=>some (B3 (mf0:Bw) ((iandNot .u32 b h),(iandNot .u32 c i)) g))
def D.U0 (a b:Int)(c d:Int):Option (Int×Int×Bool):=
 some (a,(ior .u32 b d),(a==c))
def D.S (a b:Int):Option (Int):=
 some (i64.wrap (a+b))
def D.m1 (a b:Int):Option (Int):=
 some (if b<a then b else a)
def D.e1 (b:LL):Option (Int):=
 (Ay (σ:=Int) (ρ:=(Unit) ⊕ (Int)) (fun(a:Int)=>cond (decide (a<(b.length:Int))) ((idx b a).bind λc=>(D.n0 c).bind λd=>cond d (some (.inr (.inr a))) (some (.inl (i64.wrap (a+1))))) (some (.inr (.inl ())))) 0).bind λzz=>match zz with| .inl _=>(some (-1))| .inr z=>(some z)
def D.t0 (a:LL):Option (Bool):=
 (D.e1 a).bind λb=>some (decide ((0:Int)≤b))
def D.B0 (b c:Int)(a e:Int)(d:LI):Option (((List (Int×Int)))):=
 ((some ():Option (Unit))).bind λ_=>(idx d a).bind λf=>((cond ((iand .u32 f b) !=0) ((D.a a).bind λg=>some (ior .u32 c g)) (some c):Option (Int))).bind λh=>(D.a a).bind λi=>(idx d a).bind λj=>(D.a a).bind λk=>some ([(b,h),((ior .u32 b i),(ior .u32 c (ior .u32 (iand .u32 j e) k)))]:List (Int×Int))
def D.J (x0_0c0_0:LI)(a:Bw)(b c d:Int):Option (Bw):=
 cond ((a (b,c)).isSome) ((D.m1 ((a (b,c)).getD 0) d).bind λe=>some (B3 a (b,c) e)) (some (B3 a (b,c) d))
def D.s0 (l u:LI)(m v:LL)(w:Bw)(x2_0c0_0:LI):Option (Bw):=
 (Ay (σ:=(List Bw)×Int) (ρ:=((List Bw))) (fun(a,b)=>cond (decide (b<(l.length:Int))) ((idx l b).bind λd=>(idx u b).bind λn=>(idx v b).bind λc=>cond (d==1) ((A1 a ([w]:List Bw)).bind λy=>some (.inl (y,(i64.wrap (b+1))))) (cond (d==2) ((idx c 0).bind λz=>(idx a z).bind λaa=>(Cs (σ:=(Bw)) aa (fun(e:(Int×Int)×Int) (ab:Bw)=>(idx c 0).bind λac=>(idx m ac).bind λad=>(D.k ad).bind λae=>(D.B0 e.1.1 e.1.2 n ae x2_0c0_0).bind λo=>(Ay (σ:=(Bw)×(List (Int×Int))×Int) (ρ:=((Bw))) (fun(af:(Bw)×(List (Int×Int))×Int)=>match af with|(p,q,f)=>cond (decide (f<(o.length:Int))) ((idx q f).bind λr=>(D.J x2_0c0_0 p r.1 r.2 e.2).bind λag=>some (.inl (ag,q,(i64.wrap (f+1))))) (some (.inr p))) (ab,o,0)).bind λah=>some ah) (mf0:Bw)).bind λai=>(A1 a ([ai]:List Bw)).bind λaj=>some (.inl (aj,(i64.wrap (b+1))))) (cond (d==3) ((idx c 0).bind λak=>(idx a ak).bind λal=>(Cs (σ:=(Bw)) al (fun(g:(Int×Int)×Int) (am:Bw)=>(idx m b).bind λan=>(D.k an).bind λao=>(D.P0 g.1.1 g.1.2 n ao g.2).bind λap=>(Cs (σ:=(Bw)) ap (fun(h:(Int×Int)×Int) (aq:Bw)=>(D.J x2_0c0_0 aq h.1.1 h.1.2 h.2).bind λar=>some ar) am).bind λau=>some au) (mf0:Bw)).bind λav=>(A1 a ([av]:List Bw)).bind λaw=>some (.inl (aw,(i64.wrap (b+1))))) (cond (d==4) ((idx c 0).bind λax=>(idx a ax).bind λay=>(Cs (σ:=(Bw)) ay (fun(i:(Int×Int)×Int) (az:Bw)=>(idx c 1).bind λa0=>(idx a a0).bind λa1=>(Cs (σ:=(Bw)) a1 (fun(j:(Int×Int)×Int) (s:Bw)=>(D.U0 i.1.1 i.1.2 j.1.1 j.1.2).bind λk=>cond k.2.2 ((D.S i.2 j.2).bind λa2=>(D.J x2_0c0_0 s k.1 k.2.1 a2).bind λa3=>some a3) (some s)) az).bind λa4=>some a4) (mf0:Bw)).bind λa5=>(A1 a ([a5]:List Bw)).bind λa6=>some (.inl (a6,(i64.wrap (b+1))))) ((A1 a ([(mf0:Bw)]:List Bw)).bind λa7=>some (.inl (a7,(i64.wrap (b+1))))))))) (some (.inr a))) (([]:List Bw),0)).bind λt=>(idx t (i64.wrap ((t.length:Int)-1))).bind λa8=>some a8
def D.b (b:LL)(c d:LI)(a e:LL):Option (Int):=
 (D.q b c d a e).bind λf=>(cond (!f) (some true) ((D.t0 a).bind λg=>some g)).bind λh=>cond h (some (-1)) ((D.u b).bind λi=>(D.s0 c d a e (B3 (mf0:Bw) (0,0) 0) i).bind λj=>some ((j (0,0)).getD 0))
def D.g1 (a b c:Int):Option LI:=
 some ([a]:LI)
def D.W0 (a b:Int):Option (Int×Bool):=
 some ((ior .u32 a b),((iand .u32 a b)==0))
def D.k1 (a b:Int):Option (Int):=
 some (i64.wrap (a*b))
def D.E (x0_1c0_0:LI)(a:A5)(b c:Int):Option (A5):=
 cond ((a b).isSome) ((D.S ((a b).getD 0) c).bind λd=>some (B3 a b d)) (some (B3 a b c))
def D.y0 (a b:Int)(h c:Int)(i:LI):Option (A5):=
 (D.a b).bind λe=>(D.c a b).bind λj=>cond (!j) ((idx i b).bind λk=>(D.h (iandNot .u32 (iand .u32 k h) a)).bind λf=>(Ay (σ:=(A5)×Int) (ρ:=((A5))) (fun(g,d)=>cond (decide (d<(f.length:Int))) ((idx f d).bind λm=>(D.a m).bind λn=>some (.inl ((B3 g (ior .u32 a n) c),(i64.wrap (d+1))))) (some (.inr g))) ((B3 (mf0:A5) (iandNot .u32 a e) c),0)).bind λo=>some o) (some (B3 (mf0:A5) (iandNot .u32 a e) c))
def D.v0 (f s:LI)(g t:LL)(u:A5)(x2_1c0_0:LI):Option (A5):=
 (Ay (σ:=(List A5)×Int) (ρ:=((List A5))) (fun(a,b)=>cond (decide (b<(f.length:Int))) ((idx f b).bind λd=>(idx s b).bind λh=>(idx t b).bind λc=>cond (d==1) ((A1 a ([u]:List A5)).bind λw=>some (.inl (w,(i64.wrap (b+1))))) (cond (d==2) ((idx c 0).bind λx=>(idx a x).bind λy=>(Cs (σ:=(A5)) y (fun(i:Int×Int) (z:A5)=>(idx c 0).bind λaa=>(idx g aa).bind λab=>(D.k ab).bind λac=>(D.g1 i.1 h ac).bind λj=>(Ay (σ:=(A5)×Int) (ρ:=((A5))) (fun(k,e)=>cond (decide (e<(j.length:Int))) ((idx j e).bind λae=>(D.E x2_1c0_0 k ae i.2).bind λaf=>some (.inl (af,(i64.wrap (e+1))))) (some (.inr k))) (z,0)).bind λag=>some ag) (mf0:A5)).bind λah=>(A1 a ([ah]:List A5)).bind λai=>some (.inl (ai,(i64.wrap (b+1))))) (cond (d==3) ((idx c 0).bind λaj=>(idx a aj).bind λak=>(Cs (σ:=(A5)) ak (fun(l:Int×Int) (al:A5)=>(idx g b).bind λam=>(D.k am).bind λan=>(D.y0 l.1 h an l.2 x2_1c0_0).bind λao=>(Cs (σ:=(A5)) ao (fun(m:Int×Int) (ap:A5)=>(D.E x2_1c0_0 ap m.1 m.2).bind λaq=>some aq) al).bind λar=>some ar) (mf0:A5)).bind λau=>(A1 a ([au]:List A5)).bind λav=>some (.inl (av,(i64.wrap (b+1))))) (cond (d==4) ((idx c 0).bind λaw=>(idx a aw).bind λax=>(Cs (σ:=(A5)) ax (fun(n:Int×Int) (ay:A5)=>(idx c 1).bind λaz=>(idx a az).bind λa0=>(Cs (σ:=(A5)) a0 (fun(o:Int×Int) (p:A5)=>(D.W0 n.1 o.1).bind λq=>cond q.2 ((D.k1 n.2 o.2).bind λa1=>(D.E x2_1c0_0 p q.1 a1).bind λa2=>some a2) (some p)) ay).bind λa3=>some a3) (mf0:A5)).bind λa4=>(A1 a ([a4]:List A5)).bind λa5=>some (.inl (a5,(i64.wrap (b+1))))) ((A1 a ([(mf0:A5)]:List A5)).bind λa6=>some (.inl (a6,(i64.wrap (b+1))))))))) (some (.inr a))) (([]:List A5),0)).bind λr=>(idx r (i64.wrap ((r.length:Int)-1))).bind λa7=>some a7
def D.d (a:LL)(b c:LI)(d e:LL):Option (Int):=
 (D.q a b c d e).bind λf=>cond (!f) (some (-1)) ((D.u a).bind λg=>(D.v0 b c d e (B3 (mf0:A5) 0 1) g).bind λh=>some ((h 0).getD 0))
def D.p0 (e:LI)(h:Bool):Option (Int):=
 cond (decide ((IntKind.u64.wrap (e.length:Int))<0)) none ((CD (0:Int) (ishl .i64 1 (IntKind.u64.wrap (e.length:Int))) (ishl .i64 1 (IntKind.u64.wrap (e.length:Int)))).bind λf=>(idx f 0).bind λs=>(Ay (σ:=LI×Int) (ρ:=LI) (fun(b,a)=>cond (decide (a<(b.length:Int))) ((D.q0 a).bind λj=>((cond (!h) ((idx b (iand .i64 a (i64.wrap (a-1)))).bind λk=>(idx b a).bind λt=>some (b.set (Int.toNat a) k)) (some b):Option LI)).bind λl=>(idx e j).bind λm=>(Ay (σ:=LI×Int) (ρ:=LI) (fun(c,d)=>cond (decide ((0:Int)<d)) ((idx c a).bind λo=>(idx c (iandNot .i64 (iand .i64 a (i64.wrap (a-1))) (iand .i64 d (i64.wrap (0-d))))).bind λp=>(idx c a).bind λu=>some (.inl ((c.set (Int.toNat a) (i64.wrap (o+p))),(iand .i64 d (i64.wrap (d-1)))))) (some (.inr c))) (l,(iand .i64 m (iand .i64 a (i64.wrap (a-1)))))).bind λq=>some (.inl (q,(i64.wrap (a+1))))) (some (.inr b))) ((f.set (Int.toNat 0) 1),1)).bind λg=>(idx g (i64.wrap ((g.length:Int)-1))).bind λr=>some r)
def D.u0 (a:LL):Option (Int):=
 (D.t a).bind λb=>cond (!b) (some (-1)) ((D.A a).bind λc=>(D.p0 c false).bind λd=>some d)
def D.f0 (c:LI)(d:Int):Option (Int):=
 (Ay (σ:=Int×Int) (ρ:=(Int)) (fun(b,a)=>cond (decide (a<(c.length:Int))) (cond (decide ((IntKind.u64.wrap a)<0)) none (cond ((iand .i64 (Cu .i64 d (IntKind.u64.wrap a)) 1)==1) ((idx c a).bind λf=>some (.inl ((ior .i64 b f),(i64.wrap (a+1))))) (some (.inl (b,(i64.wrap (a+1))))))) (some (.inr b))) (d,0)).bind λg=>some g
def D.A0 (b:LL):Option LI:=
 (D.t b).bind λf=>cond (!f) (some ([]:LI)) ((D.A b).bind λg=>(D.K b).bind λh=>(Ay (σ:=Int×Int) (ρ:=(Int)) (fun(c,a)=>(D.K b).bind λj=>cond (decide (a≤j)) ((D.F a).bind λd=>(D.F c).bind λe=>(cond (decide (d<e)) (some true) ((cond (d==e) ((D.Y a c).bind λk=>some k) (some false)).bind λl=>some l)).bind λm=>(cond m ((D.f0 g a).bind λn=>(D.K b).bind λo=>some (n==o)) (some false)).bind λp=>cond p (some (.inl (a,(i64.wrap (a+1))))) (some (.inl (c,(i64.wrap (a+1)))))) (some (.inr c))) (h,0)).bind λq=>(D.i0 q).bind λr=>some r)
def D.V0 (e:LI):Option (Bool):=
 (D.c1 e).bind λg=>cond g (some true) ((D.S0 e 815).bind λd=>(D.e0 d.1 d.2.1 d.2.2 6).bind λb=>(((D.l0 b.2.1 b.2.2.1 b.2.2.2 b.1).bind λh=>(D.R b.1 h.1).bind λf=>some (f.1,f.2.1,b.1):Option (LL×LL×LL))).bind fun(i,j,c)=>(D.s c i j).bind λa=>(cond (!a.2.2.2.2) (some true) ((D.k0 c a.1 a.2.1 a.2.2.1 a.2.2.2.1).bind λk=>some (!k))).bind λl=>cond l (some false) ((D.b c a.1 a.2.1 a.2.2.1 a.2.2.2.1).bind λm=>(D.d c a.1 a.2.1 a.2.2.1 a.2.2.2.1).bind λn=>(D.u0 c).bind λo=>cond (n==o) ((D.A0 c).bind λp=>some (m==(p.length:Int))) (some false)))
end
end Go.Sx

namespace Go.Sx
end Go.Sx

namespace Go.Sx
end Go.Sx

namespace Go.Sx
end Go.Sx

namespace Go.Sx
end Go.Sx

namespace Go.Sx
end Go.Sx

namespace Go.Sx
end Go.Sx



namespace Go.Sx
end Go.Sx

namespace Go.Sx.Gs
class Srtd (α:Type) where
 dflt:α
 key:α→Int
 good:α→Prop
 cmp:α→α→Option Int
 law:∀x y,good x→good y→∃v,cmp x y=some v∧decide (v<0)=decide (key x<key y)
variable {α : Type} [Srtd α]
def el (l:List α)(i:Int):α:=l.getD i.toNat Srtd.dflt
def at' (l:List α)(i:Int):Int:=Srtd.key (el l i)
def sw (l:List α)(i j:Int):List α:=(l.set i.toNat (el l j)).set j.toNat (el l i)
end Go.Sx.Gs

namespace Go.Sx.Gs
variable {α : Type} [Srtd α]
end Go.Sx.Gs

namespace Go.Sx.Gs
variable {α : Type} [Srtd α]
end Go.Sx.Gs

namespace Go.Sx.Gs
variable {α : Type} [Srtd α]
end Go.Sx.Gs

namespace Go.Sx
theorem wu64 {x:Int}(h1:0≤x)(h2:x<18446744073709551616):IntKind.u64.wrap x=x:=by
 simp only[IntKind.wrap,IntKind.bits,IntKind.signed]
 simp
 omega
end Go.Sx

namespace Go.Sx.Gs
variable {α : Type} [Srtd α]
end Go.Sx.Gs

namespace Go.Sx.Gs
variable {α : Type} [Srtd α]
end Go.Sx.Gs

namespace Go.Sx.Gs
variable {α : Type} [Srtd α]
end Go.Sx.Gs

namespace Go.Sx
theorem list2 {l:LI}(h:l.length=2):∃a b,l=[a,b]:=by
 match l,h with
 |[a,b],_=>exact⟨a,b,rfl⟩
end Go.Sx

set_option maxRecDepth 100000
namespace Go.Proofs.YteijfbpfjjjedaaGreatDoor
open Go Go.Sx
open Go.Proofs.Tryz Go.Proofs.YteijfbpfjjjedaaGreatDoor.Tryz IntKind
variable {W w : World} {G : GH} {H : List Itm}
theorem AU :prog.follows .mixedOrders=true:=by kernel_rfl
theorem Pl2 :BS prog 2:=isAgg2
theorem T35 :SlT prog 35 2 1 8 (iv 0):=⟨underlying35,Tryz.t2,by kernel_rfl,by kernel_rfl,by kernel_rfl,by kernel_rfl⟩
theorem Pl5 :BS prog 5:=isAgg5
theorem Wk.i1 {v0:Value}{x0:LI}{x1:Int}(m:Mem W G w (H))(h0:R1 G v0 x0){y:Int}(hd:D.i1 x0 x1=some y):
  Calls prog 104 #[v0,(iv x1)] w (Res W G H (λ_ Ho v=>Ho=[]∧v=(iv y))):=by
 refine Au (args:=[v0,(iv x1)]) (N:=19) [.tmp 4] func104 Z Z (lb Z) Z λa f=> ?_
 unfold D.i1 at hd
 refine Ae ?_
 refine Ac f Z λa f=>Aa (Ag (Ae ?_))
 refine Ab f Z λa f=>AL underlying35 f Z Z h0 λa f=>Ab f Z λa f=>Aa ?_
 have⟨aa,ab,hd⟩:=bind_some hd
 refine AM (λa w=>∃q_19':Unit,aa= .inl q_19'∧∃(ac:GH),GLe G ac∧Fr a 19 []∧Mem W ac w (H)) ?_ ?_
 ·refine Ak ?_
  refine AO (λad a w=>∃ae:Int,ae=ad∧∃(af:GH),GLe G af∧Fr a 19 [(0,v0),(1,(iv x1)),(7,(iv (x0.length:Int))),(8,(iv ae))]∧Mem W af w (H)) ab ⟨_,Z,_,gr,f.k Z,m⟩ ?_
  clear ab f m
  rintro ad ag ah ai a w ⟨ae,rfl,af,aj,f,m⟩
  have h0:=rd1 aj h0
  refine Ae ?_
  refine Ah f Z Z AR λa f=>Aa (Ag ?_)
  rcases Af ah with⟨ak,ah⟩|⟨ak,ah⟩
  ·refine Al f Z ak ?_
   refine Am ?_
   refine Ag (Ak (Ae ?_))
   refine Ab f Z λa f=>Ac f Z λa f=>AD ?_
   refine Ab f Z λa f=>Ab f Z λa f=>Ab f Z λa f=> ?_
   have⟨al,am,ah⟩:=bind_some ah
   refine A4 T35 f Z Z Z h0 am λan ao a ap aq f=> ?_
   subst aq
   refine Ax m Pl2 f Z Z ap λa f=>Ah f Z Z Bj λa f=>Aa ?_
   rcases Af ah with⟨ar,ah⟩|⟨ar,ah⟩
   ·refine Al f Z ar ?_
    refine Ae ?_
    refine Ab f Z λa f=>Ac f Z λa f=>Aa ?_
    refine Ap ?_
    obtain rfl:=sj ah
    obtain rfl:=ai _ rfl
    obtain rfl:=sj hd
    exact⟨[(iv ae)],f.g Z,f.d,_,[],aj,m,Z,Z⟩
   ·refine Ai f Z ar ?_
    refine Am ?_
    refine Aj ?_
    refine Ah f Z Z AB λa f=>Ab f Z λa f=>Aa ?_
    obtain rfl:=sj ah
    exact⟨_,Z,_,Z,_,aj,f.k Z,m⟩
  ·refine Ai f Z ak ?_
   refine AG Z ?_
   obtain rfl:=sj ah
   obtain rfl:=ai _ rfl
   exact⟨_,Z,_,aj,f.weak trivial,m⟩
 ·rintro a w ⟨_,rfl,ac,au,f,m⟩
  refine Ae ?_
  refine Ac f Z λa f=>Aa ?_
  refine Ap ?_
  obtain rfl:=sj hd
  exact⟨[(iv (-1))],f.g Z,f.d,_,[],au,m,Z,Z⟩
theorem Wk.V {v0:Value}{x0:LI}{x1:Int}(m:Mem W G w (H))(h0:R1 G v0 x0){y:Bool}(hd:D.V x0 x1=some y):
  Calls prog 93 #[v0,(iv x1)] w (Res W G H (λ_ Ho v=>Ho=[]∧v=(.bool y))):=by
 refine Au (args:=[v0,(iv x1)]) (N:=9) [.tmp 4] func93 Z Z (lb Z) Z λa f=> ?_
 unfold D.V at hd
 refine Ae ?_
 refine Ac f Z λa f=>AD ?_
 refine Ab f Z λa f=>Ab f Z λa f=> ?_
 have⟨aa,ab,hd⟩:=bind_some hd
 refine Bd f Z call104 (Wk.i1 m h0 ab) λac w ad m a f=>Ah f Z Z Es λa f=>Ac f Z λa f=>Aa ?_
 refine Ap ?_
 obtain rfl:=sj hd
 exact⟨[(.bool (decide ((0:Int)≤aa)))],f.g Z,f.d,_,[],ad,m,Z,Z⟩
theorem Wk.d1 {x0:Int}(hW:Dc W)(m:Mem W G w (H)){y:Int}(hd:D.d1 x0=some y):
  Calls prog 103 #[(.int .u32 x0)] w (Res W G H (λ_ Ho v=>Ho=[]∧v=(iv y))):=by
 refine Au (args:=[(.int .u32 x0)]) (N:=14) [.tmp 2] func103 Z Z (lb Z) Z λa f=> ?_
 unfold D.d1 at hd
 refine Ae ?_
 refine Ac f Z λa f=>Aa (Ag (Ae ?_))
 refine Ab f Z λa f=>Ah f Z Z Bj λa f=>Aa ?_
 rcases Af hd with⟨aa,hd⟩|⟨aa,hd⟩
 ·refine Al f Z aa ?_
  refine Ae ?_
  refine Ac f Z λa f=>Aa ?_
  refine Ap ?_
  obtain rfl:=sj hd
  exact⟨[(iv 32)],f.g Z,f.d,_,[],gr,m,Z,Z⟩
 ·refine Ai f Z aa ?_
  refine Am ?_
  refine Ae ?_
  refine Ab f Z λa f=>Ab f Z λa f=>l_o f (r_neg (f.e Z)) λa f=>Ah f Z Z CC λa f=>Ah f Z Z b_mul λa f=>l_o f (r_shr (f.e Z) (f.e Z) (by decide)) λa f=> ?_
  have⟨ab,ac,hd⟩:=bind_some hd
  refine l_tab hW m underlying139 sizeOf5 f Z Z ac λad a ae f=>Ax m Pl5 f Z Z ae λa f=>l_o f (C2 (f.e Z) ⟨_,underlying5⟩ underlying3) λa f=>Ac f Z λa f=>Aa ?_
  refine Ap ?_
  obtain rfl:=sj hd
  exact⟨[(iv (i64.wrap ab))],f.g Z,f.d,_,[],gr,m,Z,Z⟩
end Go.Proofs.YteijfbpfjjjedaaGreatDoor

set_option maxRecDepth 100000
namespace Go.Proofs.YteijfbpfjjjedaaGreatDoor
open Go Go.Sx
open Go.Proofs.Tryz Go.Proofs.YteijfbpfjjjedaaGreatDoor.Tryz IntKind
variable {W w : World} {G : GH} {H : List Itm}
theorem T22 :SlT prog 22 5 1 1 (.int .u8 0):=⟨underlying22,Tryz.t5,by kernel_rfl,by kernel_rfl,by kernel_rfl,by kernel_rfl⟩
theorem Pl26 :BS prog 26:=isAgg26
theorem Pl3 :BS prog 3:=isAgg3
theorem Pl22 :BS prog 22:=isAgg22
theorem T27 :SlT prog 27 35 1 24 sn:=⟨underlying27,Tryz.t35,by kernel_rfl,by kernel_rfl,by kernel_rfl,by kernel_rfl⟩
theorem Be :BS prog 27:=isAgg27
theorem Bv :Agg prog 29 1:=⟨isAgg29,sizeOf29⟩
theorem Ba :BS prog 35:=isAgg35
theorem Pl4 :BS prog 4:=isAgg4
theorem T105 :SlT prog 105 4 1 1 (.bool false):=⟨underlying105,Tryz.t4,by kernel_rfl,by kernel_rfl,by kernel_rfl,by kernel_rfl⟩
theorem Wk.c1 {v0:Value}{x0:LI}(m:Mem W G w (H))(h0:RSl (RI .u8) G v0 x0){y:Bool}(hd:D.c1 x0=some y):
  Calls prog 4 #[v0] w (Res W G H (λ_ Ho v=>Ho=[]∧v=(.bool y))):=by
 refine Au (args:=[v0]) (N:=6) [.tmp 2] func4 Z Z (lb Z) Z λa f=> ?_
 unfold D.c1 at hd
 refine Ae ?_
 refine Ac f Z λa f=>AD ?_
 refine Ab f Z λa f=>AL underlying22 f Z Z h0 λa f=>Ah f Z Z Cz λa f=>Ac f Z λa f=>Aa ?_
 refine Ap ?_
 obtain rfl:=sj hd
 exact⟨[(.bool (decide ((4096:Int)<(x0.length:Int))))],f.g Z,f.d,_,[],gr,m,Z,Z⟩
theorem Wk.S0 {v0:Value}{x0:LI}{x1:Int}(m:Mem W G w (H))(h0:RSl (RI .u8) G v0 x0){y:(LI)×Int×Int}(hd:D.S0 x0 x1=some y):
  Calls prog 5 #[v0,(.int .u64 x1)] w (Res W G H (λG' Ho v=>∃r0:Value,∃c1:Nat,Ho=[ib c1 46 [r0,(iv y.2.1),(.int .u64 y.2.2)]]∧v=(pb c1)∧RSl (RI .u8) G' r0 y.1)):=by
 refine Au (args:=[v0,(.int .u64 x1)]) (N:=38) [.tmp 4] func5 Z Z (lb Z) Z λa f=> ?_
 unfold D.S0 at hd
 refine Ae ?_
 refine Ac f Z λa f=>AD ?_
 refine Ab f Z λa f=>Ab f Z λa f=>Ah f Z Z b_mul λa f=>Ab f Z λa f=>AL underlying22 f Z Z h0 λa f=>l_o f (C2 (f.e Z) ⟨_,underlying3⟩ underlying26) λa f=>Ah f Z Z AB λa f=> ?_
 have aa:∀w,(Instr.build 46 #[(0,v0),(2,(.int .u64 (IntKind.u64.wrap ((IntKind.u64.wrap (x1*7919))+(IntKind.u64.wrap (x0.length:Int))))))]).run prog w= .ok (.agg #[v0,(iv 0),(.int .u64 (IntKind.u64.wrap ((IntKind.u64.wrap (x1*7919))+(IntKind.u64.wrap (x0.length:Int)))))]) w:=by intro w;simp[Instr.build,Instr.fill,h0.cells,BX,BQ,BD,BI,BA,BW,BP]
 refine CS f Z Z aa λa f=>Bo (cs:=[v0,(iv 0),(.int .u64 (IntKind.u64.wrap ((IntKind.u64.wrap (x1*7919))+(IntKind.u64.wrap (x0.length:Int)))))]) m f Z Z Z λab w a m f=>Ac f Z λa f=>Aa (Ag (Ae ?_))
 refine Ac f Z λa f=>Aa ?_
 have⟨ac,ad,hd⟩:=bind_some hd
 refine AM (λa w=>∃ae:Int,ae=ac∧∃(af:GH),GLe G af∧Fr a 38 [(5,(pb ab))]∧Mem W af w (ib ab 46 [v0,(iv 0),(.int .u64 ae)]::H)) ?_ ?_
 ·refine Ak ?_
  refine AO (λag a w=>∃ah:Int,∃ai:Int,(ah,ai)=ag∧∃(aj:GH),GLe G aj∧Fr a 38 [(0,v0),(5,(pb ab)),(6,(iv ah))]∧Mem W aj w (ib ab 46 [v0,(iv 0),(.int .u64 ai)]::H)) ad ⟨_,_,Z,_,gr,f.k Z,m⟩ ?_
  clear ad f m
  rintro ag ak al am a w ⟨ah,ai,rfl,aj,an,f,m⟩
  have h0:=rd1 an h0
  refine Ag (Ae ?_)
  refine Ab f Z λa f=>Ab f Z λa f=>AL underlying22 f Z Z h0 λa f=>Ah f Z Z AR λa f=>Aa ?_
  rcases Af al with⟨ao,al⟩|⟨ao,al⟩
  ·refine Al f Z ao ?_
   refine Am ?_
   refine Ag (Ak ?_)
   refine Bf 15 AU (by kernel_rfl) m ?_
   refine An 0 15 Z f Z λa f=>An 1 15 Z f Z λa f=>q_p 2 15 Z f (λ_=>Bg (f.e Z)) λa f=>Bt 3 15 underlying46 Z sizeOf26 Z f Z λa f=>Br 4 15 0 Pl26 Z Z Z f Z λa f=>q_p 5 15 Z f (λ_=>Bn (f.e Z) (f.e Z) b_mul) λa f=>An 6 15 Z f Z λa f=>An 7 15 Z f Z λa f=> ?_
   have⟨ap,aq,al⟩:=bind_some al
   refine A8 8 15 T22 h0 aq Z f Z Z λar au a av aw f=> ?_
   subst aw
   refine A9 9 15 Pl5 av Z f Z λa f=>q_p 10 15 Z f (λ_=>C2 (f.e Z) ⟨_,underlying5⟩ underlying26) λa f=>q_p 11 15 Z f (λ_=>Bn (f.e Z) (f.e Z) AB) λa f=>q_p 12 15 Z f (λ_=>Bn (f.e Z) (f.e Z) AB) λa f=>q_p 13 15 Z f (λ_=>Bg (f.e Z)) λa f=>Bt 14 15 underlying46 Z sizeOf26 Z f Z λa f=>A2 λax w ay m=>AA 0 2 (ds:=[(.int .u64 (IntKind.u64.wrap ((IntKind.u64.wrap ((IntKind.u64.wrap (ai*1099511628211))+(IntKind.u64.wrap ap)))+3)))]) m sizeOf26 f Z Z Z (Ao Z AK) Z (lb Z) Z λw m=>Aa (Aj ?_)
   refine Ab f Z λa f=>Ah f Z Z AB λa f=>Ac f Z λa f=>Aa ?_
   obtain rfl:=sj al
   exact⟨_,Z,_,_,Z,_,(gt an ay),f.k Z,m⟩
  ·refine Ai f Z ao ?_
   refine AG Z ?_
   obtain rfl:=sj al
   obtain rfl:=am _ rfl
   exact⟨_,Z,_,an,f.k Z,m⟩
 ·rintro a w ⟨ae,rfl,af,az,f,m⟩
  have h0:=rd1 az h0
  refine Ae ?_
  refine Ab f Z λa f=>Ac f Z λa f=>Aa ?_
  refine Ap ?_
  obtain rfl:=sj hd
  exact⟨[(pb ab)],f.g Z,f.d,_,[ib ab 46 [v0,(iv 0),(.int .u64 ae)]],az,m,_,_,Z,Z,h0⟩
theorem Wk.n {b0:Nat}{aa:Value}{ab:LI}{ac ad x1:Int}(m:Mem W G w (ib b0 46 [aa,(iv ac),(.int .u64 ad)]::H))(ae:RSl (RI .u8) G aa ab){y:Int×(LI)×Int×Int}(hd:D.n ab ac ad x1=some y):
  Calls prog 15 #[(pb b0),(iv x1)] w (Res W G H (λG' Ho v=>∃r0:Value,Ho=[ib b0 46 [r0,(iv y.2.2.1),(.int .u64 y.2.2.2)]]∧v=(iv y.1)∧RSl (RI .u8) G' r0 y.2.1)):=by
 refine Au (args:=[(pb b0),(iv x1)]) (N:=56) [.tmp 4] func15 Z Z (lb Z) Z λa f=> ?_
 unfold D.n at hd
 refine Ae ?_
 refine Ac f Z λa f=>AD ?_
 refine Ab f Z λa f=>Ab f Z λa f=>l_o f (Bg (f.e Z)) λa f=>AW underlying46 Z sizeOf26 f Z λa f=>As 0 2 m Pl26 f Z Z Z Z λa f=>Ah f Z Z b_mul λa f=>Ah f Z Z AB λa f=>l_o f (Bg (f.e Z)) λa f=>AW underlying46 Z sizeOf26 f Z λa f=>AA 0 2 (ds:=[(.int .u64 (IntKind.u64.wrap ((IntKind.u64.wrap (ad*6364136223846793005))+1442695040888963407)))]) m sizeOf26 f Z Z Z (Ao Z AK) Z (lb Z) Z λw m=>AD ?_
 refine Ab f Z λa f=>l_o f (Bg (f.e Z)) λa f=>AW underlying46 Z sizeOf26 f Z λa f=>As 0 2 m Pl26 f Z Z Z Z λa f=>l_o f (r_shr (f.e Z) (f.e Z) (by decide)) λa f=>Ah f Z Z CC λa f=>l_o f (C2 (f.e Z) ⟨_,underlying26⟩ underlying2) λa f=>Ac f Z λa f=>Aa (Ag (Ag ?_))
 refine Bf 10 AU (by kernel_rfl) m ?_
 refine An 0 10 Z f Z λa f=>q_p 1 10 Z f (λ_=>Bg (f.e Z)) λa f=>Bt 2 10 underlying46 Z sizeOf3 Z f Z λa f=>Br 3 10 0 Pl3 Z Z Z f Z λa f=>An 4 10 Z f Z λa f=>q_p 5 10 Z f (λ_=>Bg (f.e Z)) λa f=>Bt 6 10 underlying46 Z sizeOf22 Z f Z λa f=>Br 7 10 0 Pl22 Z Z Z f Z λa f=>q_len (i:=8) 10 underlying22 ae Z (by kernel_rfl) Z f Z Z Z λa f=>q_p 9 10 Z f (λ_=>Bn (f.e Z) (f.e Z) AR) λa f=>A2 λaf w ag m=> ?_
 have ae:=rd1 ag ae
 refine Aa ?_
 rcases Af hd with⟨ah,hd⟩|⟨ah,hd⟩
 ·refine Al f Z ah ?_
  refine Ag ?_
  refine Bf 14 AU (by kernel_rfl) m ?_
  refine An 0 14 Z f Z λa f=>An 1 14 Z f Z λa f=>q_p 2 14 Z f (λ_=>Bg (f.e Z)) λa f=>Bt 3 14 underlying46 Z sizeOf22 Z f Z λa f=>Br 4 14 0 Pl22 Z Z Z f Z λa f=>An 5 14 Z f Z λa f=>q_p 6 14 Z f (λ_=>Bg (f.e Z)) λa f=>Bt 7 14 underlying46 Z sizeOf3 Z f Z λa f=>Br 8 14 0 Pl3 Z Z Z f Z λa f=> ?_
  have⟨ai,aj,hd⟩:=bind_some hd
  refine A8 9 14 T22 ae aj Z f Z Z λak al a am an f=> ?_
  subst an
  refine A9 10 14 Pl5 am Z f Z λa f=>q_p 11 14 Z f (λ_=>C2 (f.e Z) ⟨_,underlying5⟩ underlying2) λa f=>q_p 12 14 Z f (λ_=>Bn (f.e Z) (f.e Z) AB) λa f=>q_p 13 14 Z f (λ_=>Bs (f.e Z)) λa f=>A2 λao w ap m=> ?_
  have ae:=rd1 ap ae
  refine Aa (Aj ?_)
  refine Ab f Z λa f=>Ab f Z λa f=>l_o f (Bg (f.e Z)) λa f=>AW underlying46 Z sizeOf3 f Z λa f=>As 0 1 m Pl3 f Z Z Z Z λa f=>Ah f Z Z AB λa f=>l_o f (Bg (f.e Z)) λa f=>AW underlying46 Z sizeOf3 f Z λa f=>AA 0 1 (ds:=[(iv (i64.wrap (ac+1)))]) m sizeOf3 f Z Z Z (Ao Z AK) Z (lb Z) Z λw m=>AD ?_
  refine Ab f Z λa f=>Ab f Z λa f=> ?_
  obtain⟨aq,hd⟩:=Ci hd
  refine Ah f Z Z (b_rem aq) λa f=>Ac f Z λa f=>Aa ?_
  refine Ap ?_
  obtain rfl:=sj hd
  exact⟨[(iv (Int.tmod (i64.wrap ((i64.wrap (iand .u64 (Cu .u64 (IntKind.u64.wrap ((IntKind.u64.wrap (ad*6364136223846793005))+1442695040888963407)) 33) 16777215))+(i64.wrap ai))) x1))],f.g Z,f.d,_,[ib b0 46 [aa,(iv (i64.wrap (ac+1))),(.int .u64 (IntKind.u64.wrap ((IntKind.u64.wrap (ad*6364136223846793005))+1442695040888963407)))]],(gt ag ap),m,_,Z,Z,ae⟩
 ·refine Ai f Z ah ?_
  refine Am ?_
  refine Ae ?_
  refine Ab f Z λa f=>Ab f Z λa f=> ?_
  obtain⟨ar,hd⟩:=Ci hd
  refine Ah f Z Z (b_rem ar) λa f=>Ac f Z λa f=>Aa ?_
  refine Ap ?_
  obtain rfl:=sj hd
  exact⟨[(iv (Int.tmod (i64.wrap (iand .u64 (Cu .u64 (IntKind.u64.wrap ((IntKind.u64.wrap (ad*6364136223846793005))+1442695040888963407)) 33) 16777215)) x1))],f.g Z,f.d,_,[ib b0 46 [aa,(iv ac),(.int .u64 (IntKind.u64.wrap ((IntKind.u64.wrap (ad*6364136223846793005))+1442695040888963407)))]],ag,m,_,Z,Z,ae⟩
theorem Wk.e {x0 x1 x2:Int}(m:Mem W G w (H)){y:Bool}(hd:D.e x0 x1 x2=some y):
  Calls prog 58 #[(iv x0),(iv x1),(iv x2)] w (Res W G H (λ_ Ho v=>Ho=[]∧v=(.bool y))):=by
 refine Au (args:=[(iv x0),(iv x1),(iv x2)]) (N:=15) [.tmp 6] func58 Z Z (lb Z) Z λa f=> ?_
 unfold D.e at hd
 refine Ae ?_
 refine Ac f Z λa f=>AD ?_
 refine Ab f Z λa f=>Ab f Z λa f=>Ah f Z Z Es λa f=>Ab f Z λa f=> ?_
 refine Bx 4 (λa w=>∃aa,GLe G aa∧Mem W aa w (H)∧Fr a 15 [(0,(iv x0)),(1,(iv x1)),(2,(iv x2)),(7,(iv x0)),(8,(iv x1)),(9,(.bool (decide (x1≤x0)))),(10,(.bool (decide (x1≤x0)))),(14,(.bool ((decide (x1≤x0))&&(decide (x0≤x2)))))]) ?_ ?_
 ·rcases Bool.eq_false_or_eq_true (decide (x1≤x0)) with ab|ab
  ·refine Aq f ab ?_
   refine Ab f Z λa f=>Aq f ab ?_
   refine Ab f Z λa f=>Aq f ab ?_
   refine Ah f Z Z b_leq λa f=>l_o f (AI (f.e Z) ab (f.e Z)) λa f=> ?_
   exact⟨_,gr,m,f.weak ⟨Z,Z,Z,Z,Z,Z,Z,by rw[ab];rfl,trivial⟩⟩
  ·refine Ar f ab λa f=> ?_
   refine Ar f ab λa f=>Ar f ab λa f=>l_o f (AJ (f.e Z) ab (f.e Z)) λa f=> ?_
   exact⟨_,gr,m,f.weak ⟨Z,Z,Z,Z,Z,Z,Z,by rw[ab];rfl,trivial⟩⟩
 ·rintro a w ⟨aa,ac,m,f⟩
  refine Ac f Z λa f=>Aa ?_
  refine Ap ?_
  obtain rfl:=sj hd
  exact⟨[(.bool ((decide (x1≤x0))&&(decide (x0≤x2))))],f.g Z,f.d,_,[],ac,m,Z,Z⟩
theorem Wk.z0 {x0:Int}(m:Mem W G w (H)){y:(LL)}(hd:D.z0 x0=some y):
  Calls prog 59 #[(iv x0)] w (Res W G H (λG' Ho v=>∃r0:Value,∃i0:Itm,Ho=[i0]∧v=(.agg #[r0])∧Ow R1 35 G' i0 r0 y)):=by
 refine Au (args:=[(iv x0)]) (N:=18) [.cell 2 29] func59 Z Z (lb Z) Z λa f=> ?_
 unfold D.z0 at hd
 refine Ae ?_
 refine Bp (cs:=[sn]) zeroValue29 m f Z Z λaa w a m f=>AD ?_
 have ab:∀w,(Instr.build 29 #[]).run prog w= .ok (.agg #[sn]) w:=by intro w;simp[Instr.build,Instr.fill,BX,BQ,BD,BI,BA,BW,BP]
 refine CS f Z Z ab λa f=>Bp (cs:=[sn]) zeroValue29 m f Z Z λac w a m f=>AA 0 0 (ds:=[sn]) m sizeOf29 f Z Z Z (Ao Z AK) Z (lb Z) Z λw m=>Aa (Ag (Ae ?_))
 refine Ac f Z λa f=>Aa ?_
 obtain⟨ad,m,ae⟩:=Ow.nil R1 35 m
 have⟨af,ag,hd⟩:=bind_some hd
 refine AM (λa w=>∃ah:LL,ah=af∧∃(ai:GH) (aj:Value) (ak:Itm),GLe G ai∧Fr a 18 [(2,(pb aa)),(3,(pb ac))]∧Mem W ai w (ib aa 29 [sn]::ib ac 29 [aj]::ak::H)∧Ow R1 35 ai ak aj ah) ?_ ?_
 ·refine Ak ?_
  have m:=m.fr 1
  have m:=m.fr 2
  refine AO (λal a w=>∃am:Int,∃an:LL,(am,an)=al∧∃(ao:GH) (ap:Value) (aq:Itm),GLe G ao∧Fr a 18 [(0,(iv x0)),(2,(pb aa)),(3,(pb ac)),(4,(iv am))]∧Mem W ao w (ib aa 29 [sn]::ib ac 29 [ap]::aq::H)∧Ow R1 35 ao aq ap an) ag ⟨_,_,Z,_,sn,ad,gr,f.k Z,m,ae⟩ ?_
  clear ag f m
  rintro al ar au av a w ⟨am,an,rfl,ao,ap,aq,aw,f,m,ax⟩
  refine Ag (Ae ?_)
  refine Ab f Z λa f=>Ab f Z λa f=>Ah f Z Z AR λa f=>Aa ?_
  rcases Af au with⟨ay,au⟩|⟨ay,au⟩
  ·refine Al f Z ay ?_
   refine Am ?_
   refine Ag (Ak (Aj ?_))
   refine AW underlying29 Z sizeOf27 f Z λa f=>As 1 0 m Be f Z Z Z Z λa f=>A7 (R:=R0) (xs:=([]:LI)) (RI.one _) m T35 f Z Z Z (by decide) (All2.nil _) λaz aA w a m aB f=> ?_
   obtain⟨aC,aD,m,aE⟩:=Ow.stamp (RI.mono _) aB m
   have ax:=Ow.mono (RSl.mono (RI.mono _)) aD ax
   refine A7 (R:=R1) (xs:=([([]:LI)]:LL)) (RSl.one _) m T27 f Z Z Z (by decide) (All2.cons aE (All2.nil _)) λaF aG w a m aH f=> ?_
   have⟨aI,aJ,au⟩:=bind_some au
   refine Bh (RSl.one _) 3 m ax Z T27 Z (by decide) f Z Z Z (Ow.src (j:=0) aH m Z) aJ λaK aL w a m aM f=>AW underlying29 Z sizeOf27 f Z λa f=>AA 2 0 (ds:=[aL]) m sizeOf27 f Z Z (Ow.cells 3 m aM Z) (Ao (Ow.one1 3 m aM Z) AK) Z (lb Z) Z λw m=>Aa (Aj ?_)
   refine Ab f Z λa f=>Ah f Z Z AB λa f=>Ac f Z λa f=>Aa ?_
   have m:=m.fr 3
   have m:=m.fr 3
   have m:Mem W aC w (ib aa 29 [sn]::ib ac 29 [aL]::aK::aF::H):=m.fr 3
   have m:=m.eraseAt 3
   obtain rfl:=sj au
   exact⟨_,Z,_,_,Z,_,aL,aK,(gt aw aD),f.k Z,m,aM⟩
  ·refine Ai f Z ay ?_
   refine AG Z ?_
   obtain rfl:=sj au
   obtain rfl:=av _ rfl
   exact⟨_,Z,_,ap,aq,aw,f.k Z,m,ax⟩
 ·rintro a w ⟨ah,rfl,ai,aj,ak,aN,f,m,aO⟩
  refine Ae ?_
  refine AC 1 0 (ds:=[aj]) m Bv f Z Z Z Z Z λa f=>AA 0 0 (ds:=[aj]) m sizeOf29 f Z Z Z (Ao (Ow.one1 2 m aO Z) AK) Z (lb Z) Z λw m=>Aa ?_
  refine Ap ?_
  have aP:=CO (P:=prog) 0 m Bv f (s:=2) rfl rfl rfl
  have m:=m.fr 2
  have m:=m.eraseAt 2
  have m:=m.eraseAt 1
  obtain rfl:=sj hd
  exact⟨[(.agg #[aj])],⟨aP,trivial⟩,f.d,_,[ak],aN,m,_,_,Z,Z,aO⟩
theorem Wk.C {v0:Value}{x0:LI}{x1:Int}(m:Mem W G w (H))(h0:R1 G v0 x0){y:Bool}(hd:D.C x0 x1=some y):
  Calls prog 60 #[v0,(iv x1)] w (Res W G H (λ_ Ho v=>Ho=[]∧v=(.bool y))):=by
 refine Au (args:=[v0,(iv x1)]) (N:=40) [.tmp 4] func60 Z Z (lb Z) Z λa f=> ?_
 unfold D.C at hd
 refine Ae ?_
 refine Ac f Z λa f=>Aa (Ag (Ae ?_))
 refine Ab f Z λa f=>AL underlying35 f Z Z h0 λa f=>Ab f Z λa f=>Ah f Z Z Cz λa f=>Aa ?_
 rcases Af hd with⟨aa,hd⟩|⟨aa,hd⟩
 ·refine Al f Z aa ?_
  refine Ae ?_
  refine Ac f Z λa f=>Aa ?_
  refine Ap ?_
  obtain rfl:=sj hd
  exact⟨[(.bool false)],f.g Z,f.d,_,[],gr,m,Z,Z⟩
 ·refine Ai f Z aa ?_
  refine Am ?_
  refine Ag (Ae ?_)
  refine Ac f Z λa f=>Aa ?_
  have⟨ab,ac,hd⟩:=bind_some hd
  refine AM (λa w=>∃q_150':Unit,ab= .inl q_150'∧∃(ad:GH),GLe G ad∧Fr a 40 []∧Mem W ad w (H)) ?_ ?_
  ·refine Ak ?_
   refine AO (λae a w=>∃af:Int,af=ae∧∃(ag:GH),GLe G ag∧Fr a 40 [(0,v0),(1,(iv x1)),(5,(iv af))]∧Mem W ag w (H)) ac ⟨_,Z,_,gr,f.k Z,m⟩ ?_
   clear ac f m
   rintro ae ah ai aj a w ⟨af,rfl,ag,ak,f,m⟩
   have h0:=rd1 ak h0
   refine Ag (Ae ?_)
   refine Ab f Z λa f=>Ab f Z λa f=>AL underlying35 f Z Z h0 λa f=>Ah f Z Z AR λa f=>Aa ?_
   rcases Af ai with⟨al,ai⟩|⟨al,ai⟩
   ·refine Al f Z al ?_
    refine Am ?_
    refine Ag (Ak (Ag ?_))
    refine Bf 24 AU (by kernel_rfl) m ?_
    refine An 0 24 Z f Z λa f=>An 1 24 Z f Z λa f=> ?_
    have⟨am,an,ai⟩:=bind_some ai
    refine A8 2 24 T35 h0 an Z f Z Z λao ap a aq ar f=> ?_
    subst ar
    refine A9 3 24 Pl2 aq Z f Z λa f=>An 4 24 Z f Z λa f=>q_p 5 24 Z f (λ_=>Bn (f.e Z) (f.e Z) Ck) λa f=> ?_
    have⟨au,av,ai⟩:=bind_some ai
    refine BJ (i:=6) 24 Z (by kernel_rfl) Z f Z Z Z call58 (λ_ _ w aw m=>Wk.e m av) λa f=>q_p 7 24 Z f (λ_=>By (f.e Z)) λa f=>An 8 24 Z f Z λa f=> ?_
    have⟨ax,ay,ai⟩:=bind_some ai
    refine Cw (fuel':=0) (listed':= #[true,true,true,true,true,true,true,true,true,true,true,true,true,true,true,true,true,true,true,true,true,true,true,true]) (λa=>Fr a 40 [(0,v0),(1,(iv x1)),(5,(iv af)),(13,(.bool (decide (af<(x0.length:Int))))),(16,v0),(17,(iv af)),(18,ao),(19,(iv am)),(20,(iv x1)),(21,(iv (i64.wrap (x1-1)))),(22,(.bool au)),(23,(.bool (!au))),(24,(.bool (!au))),(39,(.bool ax))]) ?_ ?_
    ·intro a f
     refine A2 λaz w aA m=>Aa ?_
     rcases Af ai with⟨aB,ai⟩|⟨aB,ai⟩
     ·refine Al f Z aB ?_
      refine Ae ?_
      refine Ac f Z λa f=>Aa ?_
      refine Ap ?_
      obtain rfl:=sj ai
      obtain rfl:=aj _ rfl
      obtain rfl:=sj hd
      exact⟨[(.bool false)],f.g Z,f.d,_,[],(gt ak aA),m,Z,Z⟩
     ·refine Ai f Z aB ?_
      refine Am ?_
      refine Aj ?_
      refine Ab f Z λa f=>Ah f Z Z AB λa f=>Ac f Z λa f=>Aa ?_
      obtain rfl:=sj ai
      exact⟨_,Z,_,Z,_,(gt ak aA),f.k Z,m⟩
    ·intro aC
     rcases Af ay with⟨aD,ay⟩|⟨aD,ay⟩
     ·refine Aw 9 24 Z f aD λa f=> ?_
      refine Aw 10 24 Z f aD λa f=>Aw 11 24 Z f aD λa f=>D9 12 24 Z f λa f=>D9 13 24 Z f λa f=>D9 14 24 Z f λa f=>D9 15 24 Z f λa f=>D9 16 24 Z f λa f=>D9 17 24 Z f λa f=>D9 18 24 Z f λa f=>D9 19 24 Z f λa f=>D9 20 24 Z f λa f=>D9 21 24 Z f λa f=>Aw 22 24 Z f aD λa f=>q_p 23 24 Z f (λ_=>AI (f.e Z) aD (f.e Z)) λa f=> ?_
      obtain rfl:=sj ay
      exact aC _ (f.k Z)
     ·refine An (hw:=wo f aD) 9 24 Z f Z λa f=> ?_
      refine q_p (hw:=wo f aD) 10 24 Z f (λ_=>Bn (f.e Z) (f.e Z) Cz) λa f=>An (hw:=wo f aD) 11 24 Z f Z λa f=> ?_
      have⟨aE,aF,ay⟩:=bind_some ay
      refine Cw (fuel':=1) (listed':= #[true,true,true,true,true,true,true,true,true,true,true,true,true,true,true,true,true,true,true,true,true,true,true,false]) (λa=>Fr a 40 [(0,v0),(1,(iv x1)),(5,(iv af)),(13,(.bool (decide (af<(x0.length:Int))))),(16,v0),(17,(iv af)),(18,ao),(19,(iv am)),(20,(iv x1)),(21,(iv (i64.wrap (x1-1)))),(22,(.bool au)),(23,(.bool (!au))),(24,(.bool (!au))),(25,(iv af)),(26,(.bool (decide ((0:Int)<af)))),(27,(.bool (decide ((0:Int)<af)))),(38,(.bool aE))]) ?_ ?_
      ·intro a f
       refine q_p 23 24 Z f (λ_=>AJ (f.e Z) aD (f.e Z)) λa f=> ?_
       obtain rfl:=sj ay
       exact aC _ (f.k Z)
      ·intro aG
       rcases Af aF with⟨aH,aF⟩|⟨aH,aF⟩
       ·refine An (hw:=wo f aH) 12 24 Z f Z λa f=> ?_
        refine An (hw:=wo f aH) 13 24 Z f Z λa f=> ?_
        have⟨aI,aJ,aF⟩:=bind_some aF
        refine A8 (hw:=wo f aH) 14 24 T35 h0 aJ Z f Z Z λaK aL a aM aN f=> ?_
        subst aN
        refine A9 (hw:=wo f aH) 15 24 Pl2 aM Z f Z λa f=>An (hw:=wo f aH) 16 24 Z f Z λa f=>An (hw:=wo f aH) 17 24 Z f Z λa f=>q_p (hw:=wo f aH) 18 24 Z f (λ_=>Bn (f.e Z) (f.e Z) Ck) λa f=> ?_
        have⟨aO,aP,aF⟩:=bind_some aF
        refine A8 (hw:=wo f aH) 19 24 T35 h0 aP Z f Z Z λaQ aR a aS aT f=> ?_
        subst aT
        refine A9 (hw:=wo f aH) 20 24 Pl2 aS Z f Z λa f=>q_p (hw:=wo f aH) 21 24 Z f (λ_=>Bn (f.e Z) (f.e Z) b_leq) λa f=>q_p (hw:=wo f aD) 22 24 Z f (λ_=>AI (f.e Z) aH (f.e Z)) λa f=> ?_
        obtain rfl:=sj aF
        exact aG _ (f.k Z)
       ·refine Aw 12 24 Z f aH λa f=> ?_
        refine Aw 13 24 Z f aH λa f=>Aw 14 24 Z f aH λa f=>Aw 15 24 Z f aH λa f=>Aw 16 24 Z f aH λa f=>Aw 17 24 Z f aH λa f=>Aw 18 24 Z f aH λa f=>Aw 19 24 Z f aH λa f=>Aw 20 24 Z f aH λa f=>Aw 21 24 Z f aH λa f=>q_p (hw:=wo f aD) 22 24 Z f (λ_=>AJ (f.e Z) aH (f.e Z)) λa f=> ?_
        obtain rfl:=sj aF
        exact aG _ (f.k Z)
   ·refine Ai f Z al ?_
    refine AG Z ?_
    obtain rfl:=sj ai
    obtain rfl:=aj _ rfl
    exact⟨_,Z,_,ak,f.weak trivial,m⟩
  ·rintro a w ⟨_,rfl,ad,aU,f,m⟩
   refine Ae ?_
   refine Ac f Z λa f=>Aa ?_
   refine Ap ?_
   obtain rfl:=sj hd
   exact⟨[(.bool true)],f.g Z,f.d,_,[],aU,m,Z,Z⟩
theorem Wk.g {v0:Value}{x0:LI}(m:Mem W G w (H))(h0:R1 G v0 x0){y:(LI)}(hd:D.g x0=some y):
  Calls prog 20 #[v0] w (Res W G H (λG' Ho v=>∃r0:Value,∃i0:Itm,Ho=[i0]∧r0=v∧Ow R0 2 G' i0 r0 y)):=by
 refine Au (args:=[v0]) (N:=6) [.tmp 2] func20 Z Z (lb Z) Z λa f=> ?_
 unfold D.g at hd
 refine Ae ?_
 refine Ac f Z λa f=>AD ?_
 refine A7 (R:=R0) (xs:=([]:LI)) (RI.one _) m T35 f Z Z Z (by decide) (All2.nil _) λaa ab w a m ac f=>Ab f Z λa f=> ?_
 have⟨ad,ae,hd⟩:=bind_some hd
 refine Bh (RI.one _) 0 m ac Z T35 Z (by decide) f Z Z Z (h0.src m) ae λaf ag w a m ah f=>Ac f Z λa f=>Aa ?_
 refine Ap ?_
 obtain rfl:=sj hd
 exact⟨[ag],f.g Z,f.d,_,[af],gr,m,_,_,Z,Z,ah⟩
theorem Wk.x {v0:Value}{x0:LI}{x1:Int}(m:Mem W G w (H))(h0:R1 G v0 x0){y:(LI)}(hd:D.x x0 x1=some y):
  Calls prog 19 #[v0,(iv x1)] w (Res W G H (λG' Ho v=>∃r0:Value,Ho=[]∧r0=v∧R1 G' r0 y)):=by
 refine Au (args:=[v0,(iv x1)]) (N:=46) [.tmp 4] func19 Z Z (lb Z) Z λa f=> ?_
 unfold D.x at hd
 refine Ae ?_
 refine Ac f Z λa f=>AD ?_
 refine Ac f Z λa f=>Aa (Ag ?_)
 have⟨aa,ab,hd⟩:=bind_some hd
 refine AM (λa w=>∃ac:Int,ac=aa∧∃(ad:GH),GLe G ad∧Fr a 46 [(0,v0),(1,(iv x1)),(5,(iv ac))]∧Mem W ad w (H)) ?_ ?_
 ·refine Ak ?_
  refine AO (λae a w=>∃af:Int,af=ae∧∃(ag:GH),GLe G ag∧Fr a 46 [(0,v0),(1,(iv x1)),(5,(iv af))]∧Mem W ag w (H)) ab ⟨_,Z,_,gr,f.k Z,m⟩ ?_
  clear ab f m
  rintro ae ah ai aj a w ⟨af,rfl,ag,ak,f,m⟩
  have h0:=rd1 ak h0
  refine Ag (Ae ?_)
  refine Ab f Z λa f=>Ab f Z λa f=>AL underlying35 f Z Z h0 λa f=>Ah f Z Z AR λa f=>Ab f Z λa f=> ?_
  have⟨al,am,ai⟩:=bind_some ai
  refine Bx 7 (λa w=>∃an,GLe ag an∧Mem W an w (H)∧Fr a 46 [(0,v0),(1,(iv x1)),(5,(iv af)),(7,(iv af)),(8,v0),(9,(iv (x0.length:Int))),(10,(.bool (decide (af<(x0.length:Int))))),(11,(.bool (decide (af<(x0.length:Int))))),(18,(.bool al))]) ?_ ?_
  ·rcases Af am with⟨ao,am⟩|⟨ao,am⟩
   ·refine Aq f ao ?_
    refine Ab f Z λa f=>Aq f ao ?_
    refine Ab f Z λa f=>Aq f ao ?_
    have⟨ap,aq,am⟩:=bind_some am
    refine A4 T35 f Z Z Z h0 aq λar au a av aw f=> ?_
    subst aw
    refine Aq f ao ?_
    refine Ax m Pl2 f Z Z av λa f=>Aq f ao ?_
    refine Ab f Z λa f=>Aq f ao ?_
    refine Ah f Z Z AR λa f=>l_o f (AI (f.e Z) ao (f.e Z)) λa f=> ?_
    obtain rfl:=sj am
    exact⟨_,gr,m,f.k Z⟩
   ·refine Ar f ao λa f=> ?_
    refine Ar f ao λa f=>Ar f ao λa f=>Ar f ao λa f=>Ar f ao λa f=>Ar f ao λa f=>l_o f (AJ (f.e Z) ao (f.e Z)) λa f=> ?_
    obtain rfl:=sj am
    exact⟨_,gr,m,f.k Z⟩
  ·rintro a w ⟨an,ax,m,f⟩
   refine Aa ?_
   rcases Af ai with⟨ay,ai⟩|⟨ay,ai⟩
   ·refine Al f Z ay ?_
    refine Am ?_
    refine Ak (Aj ?_)
    refine Ab f Z λa f=>Ah f Z Z AB λa f=>Ac f Z λa f=>Aa ?_
    obtain rfl:=sj ai
    exact⟨_,Z,_,Z,_,(gt ak ax),f.k Z,m⟩
   ·refine Ai f Z ay ?_
    refine AG Z ?_
    obtain rfl:=sj ai
    obtain rfl:=aj _ rfl
    exact⟨_,Z,_,(gt ak ax),f.k Z,m⟩
 ·rintro a w ⟨ac,rfl,ad,az,f,m⟩
  have h0:=rd1 az h0
  refine Ag (Ae ?_)
  refine Ab f Z λa f=>Ab f Z λa f=>AL underlying35 f Z Z h0 λa f=>Ah f Z Z AR λa f=>Ab f Z λa f=> ?_
  have⟨aA,aB,hd⟩:=bind_some hd
  refine Bx 7 (λa w=>∃aC,GLe ad aC∧Mem W aC w (H)∧Fr a 46 [(0,v0),(1,(iv x1)),(5,(iv ac)),(21,(iv ac)),(22,v0),(23,(iv (x0.length:Int))),(24,(.bool (decide (ac<(x0.length:Int))))),(25,(.bool (decide (ac<(x0.length:Int))))),(32,(.bool aA))]) ?_ ?_
  ·rcases Af aB with⟨aD,aB⟩|⟨aD,aB⟩
   ·refine Aq f aD ?_
    refine Ab f Z λa f=>Aq f aD ?_
    refine Ab f Z λa f=>Aq f aD ?_
    have⟨aE,aF,aB⟩:=bind_some aB
    refine A4 T35 f Z Z Z h0 aF λaG aH a aI aJ f=> ?_
    subst aJ
    refine Aq f aD ?_
    refine Ax m Pl2 f Z Z aI λa f=>Aq f aD ?_
    refine Ab f Z λa f=>Aq f aD ?_
    refine Ah f Z Z Bj λa f=>l_o f (AI (f.e Z) aD (f.e Z)) λa f=> ?_
    obtain rfl:=sj aB
    exact⟨_,gr,m,f.k Z⟩
   ·refine Ar f aD λa f=> ?_
    refine Ar f aD λa f=>Ar f aD λa f=>Ar f aD λa f=>Ar f aD λa f=>Ar f aD λa f=>l_o f (AJ (f.e Z) aD (f.e Z)) λa f=> ?_
    obtain rfl:=sj aB
    exact⟨_,gr,m,f.k Z⟩
  ·rintro a w ⟨aC,aK,m,f⟩
   have h0:=rd1 aK h0
   refine Aa ?_
   rcases Af hd with⟨aL,hd⟩|⟨aL,hd⟩
   ·refine Al f Z aL ?_
    refine Ae ?_
    refine Ab f Z λa f=>Ac f Z λa f=>Aa ?_
    refine Ap ?_
    obtain rfl:=sj hd
    exact⟨[v0],f.g Z,f.d,_,[],(gt az aK),m,_,Z,Z,h0⟩
   ·refine Ai f Z aL ?_
    refine Am ?_
    refine Ae ?_
    refine Ab f Z λa f=>Ab f Z λa f=> ?_
    have⟨aM,aN,hd⟩:=bind_some hd
    refine FS T35 f Z Z h0 (.inl ⟨Z,Z⟩) (.inr ⟨_,_,Z,Z⟩) aN λaO a aP f=> ?_
    have⟨aQ,aR,hd⟩:=bind_some hd
    refine AX f Z call20 (Wk.g m aP aR) λaS aT aU w aV m aW a f=> ?_
    obtain⟨aX,aY,rfl,rfl,aZ⟩:=aW
    have h0:=rd1 aV h0
    refine Ab f Z λa f=>A7 (R:=R0) (xs:=([x1]:LI)) (RI.one _) m T35 f Z Z Z (by decide) (All2.cons Z (All2.nil _)) λa0 a1 w a m a2 f=> ?_
    have⟨a3,a4,hd⟩:=bind_some hd
    refine Bh (RI.one _) 1 m aZ Z T35 Z (by decide) f Z Z Z (Ow.src (j:=0) a2 m Z) a4 λa5 a6 w a m a7 f=>Ac f Z λa f=>AD ?_
    refine Ab f Z λa f=>Ab f Z λa f=>Ab f Z λa f=> ?_
    have⟨a8,a9,hd⟩:=bind_some hd
    refine FS T35 f Z Z h0 (.inr ⟨_,_,Z,Z⟩) (.inl ⟨Z,Z⟩) a9 λba a bb f=> ?_
    have⟨bc,bd,hd⟩:=bind_some hd
    refine Bh (RI.one _) 1 m a7 Z T35 Z (by decide) f Z Z Z (bb.src m) bd λbe bf w a m bg f=>Ac f Z λa f=>Aa ?_
    refine Ap ?_
    have m:=m.fr 1
    obtain⟨bh,bi,m,bj⟩:=Ow.stamp (RI.mono _) bg m
    have m:Mem W bh w H:=Mem.drop (H':=[a0]) m
    obtain rfl:=sj hd
    exact⟨[bf],f.g Z,f.d,_,[],(gt az (gt aK (gt aV bi))),m,_,Z,Z,bj⟩
theorem Wk.O {aa:Value}{ab:Itm}{ac:LL}{x1 x2:Int}(m:Mem W G w (ab::H))(ad:Ow R1 35 G ab aa ac){y:(LL)}(hd:D.O ac x1 x2=some y):
  Calls prog 61 #[(.agg #[aa]),(iv x1),(iv x2)] w (Res W G H (λG' Ho v=>∃i0:Itm,Ho=[i0]∧v=(.agg #[aa])∧Ow R1 35 G' i0 aa y)):=by
 refine Au (args:=[(.agg #[aa]),(iv x1),(iv x2)]) (N:=30) [.cell 6 29] func61 Z Z (lb Z) Z λa f=> ?_
 unfold D.O at hd
 refine Ae ?_
 refine Bo (cs:=[aa]) m f Z Z Z λae w a m f=>Bp (cs:=[sn]) zeroValue29 m f Z Z λaf w a m f=>Aa (Ag ?_)
 refine Bf 11 AU (by kernel_rfl) m ?_
 refine Bt 0 11 underlying29 Z sizeOf27 Z f Z λa f=>Br 1 11 1 Be Z Z Z f Z λa f=>An 2 11 Z f Z λa f=>Bt 3 11 underlying29 Z sizeOf27 Z f Z λa f=>Br 4 11 1 Be Z Z Z f Z λa f=>An 5 11 Z f Z λa f=> ?_
 have⟨ag,ah,hd⟩:=bind_some hd
 refine Dp 6 11 2 m ad T27 ah Z f Z Z λai a aj f=>q_ol 7 11 2 ad Ba aj ah Z f Z λak a al f=>An 8 11 Z f Z λa f=>BC 9 Z λam w an m ao ao=> ?_
 have al:=rd1 an al
 have ad:=Ow.mono (RSl.mono (RI.mono _)) an ad
 have⟨ap,aq,hd⟩:=bind_some hd
 refine AX f Z call19 (Wk.x m al aq) λar au av w aw m ax a f=> ?_
 obtain⟨ay,rfl,rfl,az⟩:=ax
 have ad:=Ow.mono (RSl.mono (RI.mono _)) aw ad
 refine Aa ?_
 refine ao au [] _ _ aw m ?_
 have⟨aA,aB,hd⟩:=bind_some hd
 refine Dp 10 11 2 m ad T27 aB Z f Z Z λaC a aD f=>A2 λaE w aF m=> ?_
 have az:=rd1 aF az
 have ad:=Ow.mono (RSl.mono (RI.mono _)) aF ad
 refine BN 2 m ad Z sizeOf35 f Z Z aD aB az.cells az.one1 az λaG w m aH=>Aa (Ag ?_)
 refine Bf 11 AU (by kernel_rfl) m ?_
 refine Bt 0 11 underlying29 Z sizeOf27 Z f Z λa f=>Br 1 11 1 Be Z Z Z f Z λa f=>An 2 11 Z f Z λa f=>Bt 3 11 underlying29 Z sizeOf27 Z f Z λa f=>Br 4 11 1 Be Z Z Z f Z λa f=>An 5 11 Z f Z λa f=> ?_
 have⟨aI,aJ,hd⟩:=bind_some hd
 refine Dp 6 11 2 m aH T27 aJ Z f Z Z λaK a aL f=>q_ol 7 11 2 aH Ba aL aJ Z f Z λaM a aN f=>An 8 11 Z f Z λa f=>BC 9 Z λaO w aP m aQ aQ=> ?_
 have aN:=rd1 aP aN
 have aH:=Ow.mono (RSl.mono (RI.mono _)) aP aH
 have⟨aR,aS,hd⟩:=bind_some hd
 refine AX f Z call19 (Wk.x m aN aS) λaT aU aV w aW m aX a f=> ?_
 obtain⟨aY,rfl,rfl,aZ⟩:=aX
 have aH:=Ow.mono (RSl.mono (RI.mono _)) aW aH
 refine Aa ?_
 refine aQ aU [] _ _ aW m ?_
 have⟨a0,a1,hd⟩:=bind_some hd
 refine Dp 10 11 2 m aH T27 a1 Z f Z Z λa2 a a3 f=>A2 λa4 w a5 m=> ?_
 have aZ:=rd1 a5 aZ
 have aH:=Ow.mono (RSl.mono (RI.mono _)) a5 aH
 refine BN 2 m aH Z sizeOf35 f Z Z a3 a1 aZ.cells aZ.one1 aZ λa6 w m a7=>AD ?_
 refine AC 1 0 (ds:=[aa]) m Bv f Z Z Z Z Z λa f=>AA 0 0 (ds:=[aa]) m sizeOf29 f Z Z Z (Ao (Ow.one1 2 m a7 Z) AK) Z (lb Z) Z λw m=>Aa ?_
 refine Ap ?_
 have a8:=CO (P:=prog) 0 m Bv f (s:=6) rfl rfl rfl
 have m:=m.fr 2
 have m:=m.eraseAt 2
 have m:=m.eraseAt 1
 obtain rfl:=sj hd
 exact⟨[(.agg #[aa])],⟨a8,trivial⟩,f.d,_,[a6],(gt an (gt aw (gt aF (gt aP (gt aW a5))))),m,_,Z,Z,a7⟩
theorem Wk.d0 {v1:Value}{x0:Int}{x1:LL}(m:Mem W G w (H))(h1:R2 G v1 x1){y:(LL)×Bool}(hd:D.d0 x0 x1=some y):
  Calls prog 16 #[(iv x0),v1] w (Res W G H (λG' Ho v=>∃r0:Value,∃i0:Itm,Ho=[i0]∧v= .tuple #[(.agg #[r0]),(.bool y.2)]∧Ow R1 35 G' i0 r0 y.1)):=by
 refine Au (args:=[(iv x0),v1]) (N:=56) [.cell 4 29,.tmp 5] func16 Z Z (lb Z) Z λa f=> ?_
 unfold D.d0 at hd
 refine Ae ?_
 refine Bp (cs:=[sn]) zeroValue29 m f Z Z λaa w a m f=>Ac f Z λa f=>Aa (Ag (Ae ?_))
 refine Ab f Z λa f=> ?_
 have⟨ab,ac,hd⟩:=bind_some hd
 refine Bd f Z call58 (Wk.e m ac) λad w ae m a f=> ?_
 have h1:=rd2 ae h1
 refine l_o f (By (f.e Z)) λa f=>Ab f Z λa f=> ?_
 refine Bx 4 (λa w=>∃af,GLe ad af∧Mem W af w (ib aa 29 [sn]::H)∧Fr a 56 [(0,(iv x0)),(1,v1),(4,(pb aa)),(8,(iv x0)),(9,(.bool ab)),(10,(.bool (!ab))),(11,(.bool (!ab))),(15,(.bool ((!ab)||(decide ((120:Int)<(x1.length:Int))))))]) ?_ ?_
 ·rcases Bool.eq_false_or_eq_true (!ab) with ag|ag
  ·refine Ar f ag λa f=> ?_
   refine Ar f ag λa f=>Ar f ag λa f=>l_o f (AI (f.e Z) ag (f.e Z)) λa f=> ?_
   exact⟨_,gr,m,f.weak ⟨Z,Z,Z,Z,Z,Z,Z,by rw[ag];rfl,trivial⟩⟩
  ·refine Aq f ag ?_
   refine Ab f Z λa f=>Aq f ag ?_
   refine AL underlying27 f Z Z h1 λa f=>Aq f ag ?_
   refine Ah f Z Z Cz λa f=>l_o f (AJ (f.e Z) ag (f.e Z)) λa f=> ?_
   exact⟨_,gr,m,f.weak ⟨Z,Z,Z,Z,Z,Z,Z,by rw[ag];rfl,trivial⟩⟩
 ·rintro a w ⟨af,ah,m,f⟩
  have h1:=rd2 ah h1
  refine Aa ?_
  rcases Af hd with⟨ai,hd⟩|⟨ai,hd⟩
  ·refine Al f Z ai ?_
   refine Ae ?_
   have aj:∀w,(Instr.build 29 #[]).run prog w= .ok (.agg #[sn]) w:=by intro w;simp[Instr.build,Instr.fill,BX,BQ,BD,BI,BA,BW,BP]
   refine CS f Z Z aj λa f=>AA 0 0 (ds:=[sn]) m sizeOf29 f Z Z Z (Ao Z AK) Z (lb Z) Z λw m=>Ac f Z λa f=>Aa ?_
   refine Ap ?_
   obtain⟨ak,m,al⟩:=Ow.nil R1 35 m
   have am:=CO (P:=prog) 1 m Bv f (s:=4) rfl rfl rfl
   have m:=m.eraseAt 1
   obtain rfl:=sj hd
   exact⟨[(.agg #[sn]),(.bool false)],⟨am,f.get _ _ Z,trivial⟩,f.d,_,[ak],(gt ae ah),m,_,_,Z,Z,al⟩
  ·refine Ai f Z ai ?_
   refine Am ?_
   refine Ae ?_
   refine Ab f Z λa f=> ?_
   have⟨an,ao,hd⟩:=bind_some hd
   refine AX f Z call59 (Wk.z0 m ao) λap aq ar w au m av a f=> ?_
   obtain⟨aw,ax,rfl,rfl,ay⟩:=av
   have h1:=rd2 au h1
   refine Bp (cs:=[sn]) zeroValue29 m f Z Z λaz w a m f=>AA 0 0 (ds:=[aw]) m sizeOf29 f Z Z Z (Ao (Ow.one1 1 m ay Z) AK) Z (lb Z) Z λw m=>Aa (Ag (Ae ?_))
   refine Ac f Z λa f=>Aa ?_
   have⟨aA,aB,hd⟩:=bind_some hd
   refine AM (λa w=>∃q_213':LL,aA= .inl q_213'∧∃aC:LL,aC=q_213'∧∃(aD:GH) (aE:Itm),GLe aq aD∧Fr a 56 [(4,(pb aa)),(6,(pb az))]∧Mem W aD w (ib aa 29 [sn]::ib az 29 [aw]::aE::H)∧Ow R1 35 aD aE aw aC) ?_ ?_
   ·refine Ak ?_
    have m:=m.fr 2
    refine AO (λaF a w=>∃aG:Int,∃aH:LL,(aG,aH)=aF∧∃(aI:GH) (aJ:Itm),GLe aq aI∧Fr a 56 [(0,(iv x0)),(1,v1),(4,(pb aa)),(6,(pb az)),(7,(iv aG))]∧Mem W aI w (ib aa 29 [sn]::ib az 29 [aw]::aJ::H)∧Ow R1 35 aI aJ aw aH) aB ⟨_,_,Z,_,ax,gr,f.k Z,m,ay⟩ ?_
    clear aB f m
    rintro aF aK aL aM a w ⟨aG,aH,rfl,aI,aJ,aN,f,m,aO⟩
    have h1:=rd2 aN h1
    refine Ag (Ae ?_)
    refine Ab f Z λa f=>Ab f Z λa f=>AL underlying27 f Z Z h1 λa f=>Ah f Z Z AR λa f=>Aa ?_
    rcases Af aL with⟨aP,aL⟩|⟨aP,aL⟩
    ·refine Al f Z aP ?_
     refine Am ?_
     refine Ag (Ak (Ag (Ae ?_)))
     refine Ab f Z λa f=>Ab f Z λa f=> ?_
     have⟨aQ,aR,aL⟩:=bind_some aL
     refine A4 T27 f Z Z Z h1 aR λaS aT a aU aV f=>Ax m Ba f Z Z aU λa f=>AL underlying35 f Z Z aV λa f=>Ah f Z Z Cm λa f=>Ab f Z λa f=> ?_
     have⟨aW,aX,aL⟩:=bind_some aL
     refine Bx 8 (λa w=>∃aY,GLe aI aY∧Mem W aY w (ib aa 29 [sn]::ib az 29 [aw]::aJ::H)∧Fr a 56 [(0,(iv x0)),(1,v1),(4,(pb aa)),(6,(pb az)),(7,(iv aG)),(22,(.bool (decide (aG<(x1.length:Int))))),(25,v1),(26,(iv aG)),(27,aS),(28,aT),(29,(iv (aQ.length:Int))),(30,(.bool ((aQ.length:Int) !=2))),(31,(.bool ((aQ.length:Int) !=2))),(39,(.bool aW))]) ?_ ?_
     ·rcases Af aX with⟨aZ,aX⟩|⟨aZ,aX⟩
      ·refine Ar f aZ λa f=> ?_
       refine Ar f aZ λa f=>Ar f aZ λa f=>Ar f aZ λa f=>Ar f aZ λa f=>Ar f aZ λa f=>Ar f aZ λa f=>l_o f (AI (f.e Z) aZ (f.e Z)) λa f=> ?_
       obtain rfl:=sj aX
       exact⟨_,gr,m,f.k Z⟩
      ·refine Aq f aZ ?_
       refine Ab f Z λa f=>Aq f aZ ?_
       refine Ab f Z λa f=>Aq f aZ ?_
       have⟨a0,a1,aX⟩:=bind_some aX
       refine A4 T27 f Z Z Z h1 a1 λa2 a3 a a4 a5 f=>Aq f aZ ?_
       refine Ax m Ba f Z Z a4 λa f=>Aq f aZ ?_
       refine Ab f Z λa f=>Aq f aZ ?_
       have⟨a6,a7,aX⟩:=bind_some aX
       refine Bd f Z call60 (Wk.C m a5 a7) λa8 w a9 m a f=>Aq f aZ ?_
       refine l_o f (By (f.e Z)) λa f=>l_o f (AJ (f.e Z) aZ (f.e Z)) λa f=> ?_
       obtain rfl:=sj aX
       exact⟨_,a9,m,f.k Z⟩
     ·rintro a w ⟨aY,ba,m,f⟩
      have h1:=rd2 ba h1
      have aO:=Ow.mono (RSl.mono (RI.mono _)) ba aO
      refine Aa ?_
      rcases Af aL with⟨bb,aL⟩|⟨bb,aL⟩
      ·refine Al f Z bb ?_
       refine Ae ?_
       have bc:∀w,(Instr.build 29 #[]).run prog w= .ok (.agg #[sn]) w:=by intro w;simp[Instr.build,Instr.fill,BX,BQ,BD,BI,BA,BW,BP]
       refine CS f Z Z bc λa f=>AA 0 0 (ds:=[sn]) m sizeOf29 f Z Z Z (Ao Z AK) Z (lb Z) Z λw m=>Ac f Z λa f=>Aa ?_
       refine Ap ?_
       obtain⟨bd,m,be⟩:=Ow.nil R1 35 m
       have bf:=CO (P:=prog) 1 m Bv f (s:=4) rfl rfl rfl
       have m:=m.fr 3
       have m:=m.fr 1
       have m:Mem W aY w (bd::aJ::ib aa 29 [sn]::H):=m.eraseAt 3
       have m:=m.eraseAt 2
       have m:=m.eraseAt 1
       obtain rfl:=sj aL
       obtain rfl:=aM _ rfl
       obtain rfl:=sj hd
       exact⟨[(.agg #[sn]),(.bool false)],⟨bf,f.get _ _ Z,trivial⟩,f.d,_,[bd],(gt ae (gt ah (gt au (gt aN ba)))),m,_,_,Z,Z,be⟩
      ·refine Ai f Z bb ?_
       refine Am ?_
       refine Bf 13 AU (by kernel_rfl) m ?_
       refine BE (i:=0) (ds:=[aw]) 13 1 Bv Z Z Z Z (by kernel_rfl) Z f Z Z Z λa f=>An 1 13 Z f Z λa f=>An 2 13 Z f Z λa f=> ?_
       have⟨bg,bh,aL⟩:=bind_some aL
       refine A8 3 13 T27 h1 bh Z f Z Z λbi bj a bk bl f=>A9 4 13 Ba bk Z f Z λa f=> ?_
       have⟨bm,bn,aL⟩:=bind_some aL
       refine A8 5 13 T35 bl bn Z f Z Z λbo bp a bq br f=> ?_
       subst br
       refine A9 6 13 Pl2 bq Z f Z λa f=>An 7 13 Z f Z λa f=>An 8 13 Z f Z λa f=> ?_
       have⟨bs,bt,aL⟩:=bind_some aL
       refine A8 9 13 T27 h1 bt Z f Z Z λbu bv a bw bx f=>A9 10 13 Ba bw Z f Z λa f=> ?_
       have⟨bz,bA,aL⟩:=bind_some aL
       refine A8 11 13 T35 bx bA Z f Z Z λbB bC a bD bE f=> ?_
       subst bE
       refine A9 12 13 Pl2 bD Z f Z λa f=>A2 λbF w bG m=> ?_
       have aO:=Ow.mono (RSl.mono (RI.mono _)) bG aO
       have m:Mem W bF w (aJ::ib aa 29 [sn]::ib az 29 [aw]::H):=m.fr 2
       have⟨bH,bI,aL⟩:=bind_some aL
       refine AX f Z call61 (Wk.O m aO bI) λbJ bK bL w bM m bN a f=> ?_
       obtain⟨bO,rfl,rfl,bP⟩:=bN
       refine AA 2 0 (ds:=[aw]) m sizeOf29 f Z Z Z (Ao (Ow.one1 0 m bP Z) AK) Z (lb Z) Z λw m=>Aa (Aj ?_)
       refine Ab f Z λa f=>Ah f Z Z AB λa f=>Ac f Z λa f=>Aa ?_
       have m:=m.fr 2
       have m:Mem W bK w (ib aa 29 [sn]::ib az 29 [aw]::bO::H):=m.fr 2
       obtain rfl:=sj aL
       exact⟨_,Z,_,_,Z,_,bO,(gt aN (gt ba (gt bG bM))),f.k Z,m,bP⟩
    ·refine Ai f Z aP ?_
     refine AG Z ?_
     obtain rfl:=sj aL
     obtain rfl:=aM _ rfl
     exact⟨_,Z,_,Z,_,aJ,aN,f.k Z,m,aO⟩
   ·rintro a w ⟨_,rfl,aC,rfl,aD,aE,bQ,f,m,bR⟩
    refine Ae ?_
    refine AC 1 0 (ds:=[aw]) m Bv f Z Z Z Z Z λa f=>AA 0 0 (ds:=[aw]) m sizeOf29 f Z Z Z (Ao (Ow.one1 2 m bR Z) AK) Z (lb Z) Z λw m=>Ac f Z λa f=>Aa ?_
    refine Ap ?_
    have bS:=CO (P:=prog) 0 m Bv f (s:=4) rfl rfl rfl
    have m:=m.fr 2
    have m:=m.eraseAt 2
    have m:=m.eraseAt 1
    obtain rfl:=sj hd
    exact⟨[(.agg #[aw]),(.bool true)],⟨bS,f.get _ _ Z,trivial⟩,f.d,_,[aE],(gt ae (gt ah (gt au bQ))),m,_,_,Z,Z,bR⟩
theorem Wk.e0 {b0:Nat}{aa:Value}{ab:LI}{ac ad x1:Int}(m:Mem W G w (ib b0 46 [aa,(iv ac),(.int .u64 ad)]::H))(ae:RSl (RI .u8) G aa ab){y:(LL)×(LI)×Int×Int}(hd:D.e0 ab ac ad x1=some y):
  Calls prog 6 #[(pb b0),(iv x1)] w (Res W G H (λG' Ho v=>∃r0:Value,∃i0:Itm,∃r2:Value,Ho=[i0,ib b0 46 [r2,(iv y.2.2.1),(.int .u64 y.2.2.2)]]∧v=(.agg #[r0])∧Ow R1 35 G' i0 r0 y.1∧RSl (RI .u8) G' r2 y.2.1)):=by
 refine Au (args:=[(pb b0),(iv x1)]) (N:=47) [.cell 4 29] func6 Z Z (lb Z) Z λa f=> ?_
 unfold D.e0 at hd
 refine Ae ?_
 refine Bp (cs:=[sn]) zeroValue29 m f Z Z λaf w a m f=>AD ?_
 refine Ab f Z λa f=>Ab f Z λa f=> ?_
 have m:Mem W G w (ib b0 46 [aa,(iv ac),(.int .u64 ad)]::ib af 29 [sn]::H):=m.fr 1
 have⟨ag,ah,hd⟩:=bind_some hd
 refine AX f Z call15 (Wk.n m ae ah) λai aj ak w al m am a f=> ?_
 obtain⟨an,rfl,rfl,ao⟩:=am
 refine Ah f Z Z AB λa f=>Ac f Z λa f=>AD ?_
 refine Ab f Z λa f=> ?_
 have⟨ap,aq,hd⟩:=bind_some hd
 refine AX f Z call15 (Wk.n m ao aq) λar au av w aw m ax a f=> ?_
 obtain⟨ay,rfl,rfl,az⟩:=ax
 refine Ah f Z Z AB λa f=>Ac f Z λa f=>AD ?_
 refine A7 (R:=R1) (xs:=([]:LL)) (RSl.one _) m T27 f Z Z Z (by decide) (All2.nil _) λaA aB w a m aC f=>Ac f Z λa f=>Aa (Ag (Ae ?_))
 refine Ac f Z λa f=>Aa ?_
 have⟨aD,aE,hd⟩:=bind_some hd
 refine AM (λa w=>∃aF:LL,∃aG:LI,∃aH:Int,∃aI:Int,(aF,aG,aH,aI)=aD∧∃(aJ:GH) (aK:Value) (aL:Itm) (aM:Value),GLe au aJ∧Fr a 47 [(4,(pb af)),(5,(iv (i64.wrap (1+ag.1)))),(7,aK)]∧Mem W aJ w (ib af 29 [sn]::ib b0 46 [aM,(iv aH),(.int .u64 aI)]::aL::H)∧Ow R1 35 aJ aL aK aF∧RSl (RI .u8) aJ aM aG) ?_ ?_
 ·refine Ak ?_
  have m:=m.fr 2
  have m:Mem W au w (ib b0 46 [ay,(iv ap.2.2.1),(.int .u64 ap.2.2.2)]::ib af 29 [sn]::aA::H):=m.fr 2
  refine AO (λaN a w=>∃aO:LL,∃aP:Int,∃aQ:LI,∃aR:Int,∃aS:Int,(aO,aP,aQ,aR,aS)=aN∧∃(aT:GH) (aU:Value) (aV:Itm) (aW:Value),GLe au aT∧Fr a 47 [(0,(pb b0)),(4,(pb af)),(5,(iv (i64.wrap (1+ag.1)))),(6,(iv (i64.wrap (1+ap.1)))),(7,aU),(8,(iv aP))]∧Mem W aT w (ib b0 46 [aW,(iv aR),(.int .u64 aS)]::ib af 29 [sn]::aV::H)∧Ow R1 35 aT aV aU aO∧RSl (RI .u8) aT aW aQ) aE ⟨_,_,_,_,_,Z,_,aB,aA,ay,gr,f.k Z,m,aC,az⟩ ?_
  clear aE f m
  rintro aN aX aY aZ a w ⟨aO,aP,aQ,aR,aS,rfl,aT,aU,aV,aW,a0,f,m,a1,a2⟩
  refine Ag (Ae ?_)
  refine Ab f Z λa f=>Ab f Z λa f=>Ah f Z Z AR λa f=>Aa ?_
  rcases Af aY with⟨a3,aY⟩|⟨a3,aY⟩
  ·refine Al f Z a3 ?_
   refine Am ?_
   refine Ag (Ak (Ae ?_))
   refine Ac f Z λa f=>Aa ?_
   have⟨a4,a5,aY⟩:=bind_some aY
   refine AM (λa w=>∃a6:LL,∃a7:LI,∃a8:Int,∃a9:Int,(a6,a7,a8,a9)=a4∧∃(ba:GH) (bb:Value) (bc:Itm) (bd:Value),GLe aT ba∧Fr a 47 [(0,(pb b0)),(4,(pb af)),(5,(iv (i64.wrap (1+ag.1)))),(6,(iv (i64.wrap (1+ap.1)))),(7,bb),(8,(iv aP))]∧Mem W ba w (ib b0 46 [bd,(iv a8),(.int .u64 a9)]::ib af 29 [sn]::bc::H)∧Ow R1 35 ba bc bb a6∧RSl (RI .u8) ba bd a7) ?_ ?_
   ·refine Ak ?_
    refine AO (λbe a w=>∃bf:LL,∃bg:Int,∃bh:LI,∃bi:Int,∃bj:Int,(bf,bg,bh,bi,bj)=be∧∃(bk:GH) (bl:Value) (bm:Itm) (bn:Value),GLe aT bk∧Fr a 47 [(0,(pb b0)),(4,(pb af)),(5,(iv (i64.wrap (1+ag.1)))),(6,(iv (i64.wrap (1+ap.1)))),(7,bl),(8,(iv aP)),(9,(iv bg))]∧Mem W bk w (ib b0 46 [bn,(iv bi),(.int .u64 bj)]::ib af 29 [sn]::bm::H)∧Ow R1 35 bk bm bl bf∧RSl (RI .u8) bk bn bh) a5 ⟨_,_,_,_,_,Z,_,aU,aV,aW,gr,f.k Z,m,a1,a2⟩ ?_
    clear a5 f m
    rintro be bo bp bq a w ⟨bf,bg,bh,bi,bj,rfl,bk,bl,bm,bn,br,f,m,bs,bt⟩
    refine Ag (Ae ?_)
    refine Ab f Z λa f=>Ab f Z λa f=>Ah f Z Z AR λa f=>Aa ?_
    rcases Af bp with⟨bu,bp⟩|⟨bu,bp⟩
    ·refine Al f Z bu ?_
     refine Am ?_
     refine Ag (Ak (Ae ?_))
     refine Ab f Z λa f=> ?_
     have⟨bv,bw,bp⟩:=bind_some bp
     refine AX f Z call15 (Wk.n m bt bw) λbx bz bA w bB m bC a f=> ?_
     obtain⟨bD,rfl,rfl,bE⟩:=bC
     have bs:=Ow.mono (RSl.mono (RI.mono _)) bB bs
     refine Ab f Z λa f=>Ah f Z Z AR λa f=>Aa ?_
     rcases Af bp with⟨bF,bp⟩|⟨bF,bp⟩
     ·refine Al f Z bF ?_
      refine Aj ?_
      refine Ab f Z λa f=>Ab f Z λa f=>Ab f Z λa f=>A7 (R:=R0) (xs:=([bg,aP]:LI)) (RI.one _) m T35 f Z Z Z (by decide) (All2.cons Z (All2.cons Z (All2.nil _))) λbG bH w a m bI f=> ?_
      obtain⟨bJ,bK,m,bL⟩:=Ow.stamp (RI.mono _) bI m
      have bE:=rd1 bK bE
      have bs:=Ow.mono (RSl.mono (RI.mono _)) bK bs
      refine A7 (R:=R1) (xs:=([([bg,aP]:LI)]:LL)) (RSl.one _) m T27 f Z Z Z (by decide) (All2.cons bL (All2.nil _)) λbM bN w a m bO f=> ?_
      have⟨bP,bQ,bp⟩:=bind_some bp
      refine Bh (RSl.one _) 3 m bs Z T27 Z (by decide) f Z Z Z (Ow.src (j:=0) bO m Z) bQ λbR bS w a m bT f=>Ac f Z λa f=>Aa (Aj ?_)
      refine Ab f Z λa f=>Ah f Z Z AB λa f=>Ac f Z λa f=>Aa ?_
      have m:=m.fr 3
      have m:=m.fr 3
      have m:Mem W bJ w (ib b0 46 [bD,(iv bv.2.2.1),(.int .u64 bv.2.2.2)]::ib af 29 [sn]::bR::bM::H):=m.fr 3
      have m:Mem W bJ w (ib b0 46 [bD,(iv bv.2.2.1),(.int .u64 bv.2.2.2)]::ib af 29 [sn]::bR::H):=m.eraseAt 3
      obtain rfl:=sj bp
      exact⟨_,Z,_,_,_,_,_,Z,_,bS,bR,bD,(gt br (gt bB bK)),f.k Z,m,bT,bE⟩
     ·refine Ai f Z bF ?_
      refine Am ?_
      refine Aj ?_
      refine Ab f Z λa f=>Ah f Z Z AB λa f=>Ac f Z λa f=>Aa ?_
      obtain rfl:=sj bp
      exact⟨_,Z,_,_,_,_,_,Z,_,bl,bm,bD,(gt br bB),f.k Z,m,bs,bE⟩
    ·refine Ai f Z bu ?_
     refine AG Z ?_
     obtain rfl:=sj bp
     obtain rfl:=bq _ rfl
     exact⟨_,_,_,_,Z,_,bl,bm,bn,br,f.k Z,m,bs,bt⟩
   ·rintro a w ⟨a6,a7,a8,a9,rfl,ba,bb,bc,bd,bU,f,m,bV,bW⟩
    refine Aj ?_
    refine Ab f Z λa f=>Ah f Z Z AB λa f=>Ac f Z λa f=>Aa ?_
    obtain rfl:=sj aY
    exact⟨_,Z,_,_,_,_,_,Z,_,bb,bc,bd,(gt a0 bU),f.k Z,m,bV,bW⟩
  ·refine Ai f Z a3 ?_
   refine AG Z ?_
   have m:Mem W aT w (ib af 29 [sn]::ib b0 46 [aW,(iv aR),(.int .u64 aS)]::aV::H):=m.fr 1
   obtain rfl:=sj aY
   obtain rfl:=aZ _ rfl
   exact⟨_,_,_,_,Z,_,aU,aV,aW,a0,f.k Z,m,a1,a2⟩
 ·rintro a w ⟨aF,aG,aH,aI,rfl,aJ,aK,aL,aM,bX,f,m,bY,bZ⟩
  refine Ae ?_
  refine Ab f Z λa f=>Ab f Z λa f=> ?_
  have m:Mem W aJ w (aL::ib af 29 [sn]::ib b0 46 [aM,(iv aH),(.int .u64 aI)]::H):=m.fr 2
  obtain⟨b1,b2,m,b3⟩:=Ow.stamp (RSl.mono (RI.mono _)) bY m
  have bZ:=rd1 b2 bZ
  have⟨b4,b5,hd⟩:=bind_some hd
  refine AX f Z call16 (Wk.d0 m b3 b5) λb6 b7 b8 w b9 m ca a f=> ?_
  obtain⟨cb,cc,rfl,rfl,cd⟩:=ca
  have bZ:=rd1 b9 bZ
  refine Ab f Z λa f=>l_o f (AF (f.e Z) Z) λa f=>l_o f (AF (f.e Z) Z) λa f=>Bp (cs:=[sn]) zeroValue29 m f Z Z λce w a m f=>AA 0 0 (ds:=[cb]) m sizeOf29 f Z Z Z (Ao (Ow.one1 1 m cd Z) AK) Z (lb Z) Z λw m=>Ac f Z λa f=>AD ?_
  refine AC 0 0 (ds:=[cb]) m Bv f Z Z Z Z Z λa f=>AA 2 0 (ds:=[cb]) m sizeOf29 f Z Z Z (Ao (Ow.one1 1 m cd Z) AK) Z (lb Z) Z λw m=>Aa ?_
  refine Ap ?_
  have cf:=CO (P:=prog) 2 m Bv f (s:=4) rfl rfl rfl
  have m:=m.fr 3
  have m:=m.fr 2
  have m:Mem W b7 w (cc::ib b0 46 [aM,(iv aH),(.int .u64 aI)]::ib ce 29 [cb]::H):=m.eraseAt 3
  have m:=m.eraseAt 2
  obtain rfl:=sj hd
  exact⟨[(.agg #[cb])],⟨cf,trivial⟩,f.d,_,[cc,ib b0 46 [aM,(iv aH),(.int .u64 aI)]],(gt al (gt aw (gt bX (gt b2 b9)))),m,_,_,_,Z,Z,cd,bZ⟩
theorem Wk.l0 {b0:Nat}{aa ab:Value}{ac:LI}{ad ae:Int}{af:LL}(m:Mem W G w (ib b0 46 [aa,(iv ad),(.int .u64 ae)]::H))(ag:RSl (RI .u8) G aa ac)(ah:R2 G ab af){y:(LI)×(LI)×Int×Int}(hd:D.l0 ac ad ae af=some y):
  Calls prog 8 #[(pb b0),(.agg #[ab])] w (Res W G H (λG' Ho v=>∃r0:Value,∃i0:Itm,∃r2:Value,Ho=[i0,ib b0 46 [r2,(iv y.2.2.1),(.int .u64 y.2.2.2)]]∧r0=v∧Ow R0 2 G' i0 r0 y.1∧RSl (RI .u8) G' r2 y.2.1)):=by
 refine Au (args:=[(pb b0),(.agg #[ab])]) (N:=36) [.tmp 4] func8 Z Z (lb Z) Z λa f=> ?_
 unfold D.l0 at hd
 refine Ae ?_
 refine Bo (cs:=[ab]) m f Z Z Z λai w a m f=>Ac f Z λa f=>AD ?_
 refine A7 (R:=R0) (xs:=([]:LI)) (RI.one _) m T35 f Z Z Z (by decide) (All2.nil _) λaj ak w a m al f=>Ac f Z λa f=>Aa (Ag (Ae ?_))
 refine Ac f Z λa f=>Aa ?_
 have⟨am,an,hd⟩:=bind_some hd
 refine AM (λa w=>∃ao:LI,∃ap:LI,∃aq:Int,∃ar:Int,(ao,ap,aq,ar)=am∧∃(au:GH) (av:Value) (aw:Itm) (ax:Value),GLe G au∧Fr a 36 [(5,av)]∧Mem W au w (ib b0 46 [ax,(iv aq),(.int .u64 ar)]::aw::H)∧Ow R0 2 au aw av ao∧RSl (RI .u8) au ax ap) ?_ ?_
 ·refine Ak ?_
  have m:=m.fr 1
  have m:Mem W G w (ib b0 46 [aa,(iv ad),(.int .u64 ae)]::ib ai 29 [ab]::aj::H):=m.fr 2
  refine AO (λay a w=>∃az:LI,∃aA:Int,∃aB:LI,∃aC:Int,∃aD:Int,(az,aA,aB,aC,aD)=ay∧∃(aE:GH) (aF:Value) (aG:Itm) (aH:Value),GLe G aE∧Fr a 36 [(0,(pb b0)),(3,(pb ai)),(5,aF),(6,(iv aA))]∧Mem W aE w (ib b0 46 [aH,(iv aC),(.int .u64 aD)]::ib ai 29 [ab]::aG::H)∧Ow R0 2 aE aG aF az∧RSl (RI .u8) aE aH aB) an ⟨_,_,_,_,_,Z,_,ak,aj,aa,gr,f.k Z,m,al,ag⟩ ?_
  clear an f m
  rintro ay aI aJ aK a w ⟨az,aA,aB,aC,aD,rfl,aE,aF,aG,aH,aL,f,m,aM,aN⟩
  have ah:=rd2 aL ah
  refine Ag (Ae ?_)
  refine Ab f Z λa f=>AW underlying29 Z sizeOf27 f Z λa f=>As 1 0 m Be f Z Z Z Z λa f=>AL underlying27 f Z Z ah λa f=>Ah f Z Z AR λa f=>Aa ?_
  rcases Af aJ with⟨aO,aJ⟩|⟨aO,aJ⟩
  ·refine Al f Z aO ?_
   refine Am ?_
   refine Ag (Ak (Ae ?_))
   refine Ab f Z λa f=>Ab f Z λa f=>Ah f Z Z AB λa f=> ?_
   have⟨aP,aQ,aJ⟩:=bind_some aJ
   refine AX f Z call15 (Wk.n m aN aQ) λaR aS aT w aU m aV a f=> ?_
   obtain⟨aW,rfl,rfl,aX⟩:=aV
   have aM:=od1 aU aM
   refine Ac f Z λa f=>AD ?_
   refine A7 (R:=R0) (xs:=([]:LI)) (RI.one _) m T35 f Z Z Z (by decide) (All2.nil _) λaY aZ w a m a0 f=>Ab f Z λa f=>Ab f Z λa f=> ?_
   have m:Mem W aS w (aG::aY::ib b0 46 [aW,(iv aP.2.2.1),(.int .u64 aP.2.2.2)]::ib ai 29 [ab]::H):=m.fr 3
   obtain⟨a1,a2,m,a3⟩:=Ow.stamp (RI.mono _) aM m
   have a0:=od1 a2 a0
   have aX:=rd1 a2 aX
   have⟨a4,a5,aJ⟩:=bind_some aJ
   refine FS T35 f Z Z a3 (.inl ⟨Z,Z⟩) (.inr ⟨_,_,Z,Z⟩) a5 λa6 a a7 f=> ?_
   have⟨a8,a9,aJ⟩:=bind_some aJ
   refine Bh (RI.one _) 0 m a0 Z T35 Z (by decide) f Z Z Z (a7.src m) a9 λba bb w a m bc f=>Ac f Z λa f=>AD ?_
   refine Ab f Z λa f=>Ab f Z λa f=>A7 (R:=R0) (xs:=([aA]:LI)) (RI.one _) m T35 f Z Z Z (by decide) (All2.cons Z (All2.nil _)) λbd be w a m bf f=> ?_
   have⟨bg,bh,aJ⟩:=bind_some aJ
   refine Bh (RI.one _) 1 m bc Z T35 Z (by decide) f Z Z Z (Ow.src (j:=0) bf m Z) bh λbi bj w a m bk f=>Ac f Z λa f=>Aa (Aj ?_)
   refine Ab f Z λa f=>Ab f Z λa f=>Ab f Z λa f=> ?_
   have⟨bl,bm,aJ⟩:=bind_some aJ
   refine FS T35 f Z Z a3 (.inr ⟨_,_,Z,Z⟩) (.inl ⟨Z,Z⟩) bm λbn a bo f=> ?_
   have⟨bp,bq,aJ⟩:=bind_some aJ
   refine Bh (RI.one _) 1 m bk Z T35 Z (by decide) f Z Z Z (bo.src m) bq λbr bs w a m bt f=>Ac f Z λa f=>Aa (Aj ?_)
   refine Ab f Z λa f=>Ah f Z Z AB λa f=>Ac f Z λa f=>Aa ?_
   have m:=m.fr 1
   have m:=m.fr 3
   have m:Mem W a1 w (ib b0 46 [aW,(iv aP.2.2.1),(.int .u64 aP.2.2.2)]::ib ai 29 [ab]::br::bd::H):=m.fr 3
   have m:Mem W a1 w (ib b0 46 [aW,(iv aP.2.2.1),(.int .u64 aP.2.2.2)]::ib ai 29 [ab]::br::H):=m.eraseAt 3
   obtain rfl:=sj aJ
   exact⟨_,Z,_,_,_,_,_,Z,_,bs,br,aW,(gt aL (gt aU a2)),f.k Z,m,bt,aX⟩
  ·refine Ai f Z aO ?_
   refine AG Z ?_
   have m:=m.fr 2
   have m:=m.fr 1
   have m:=m.eraseAt 2
   obtain rfl:=sj aJ
   obtain rfl:=aK _ rfl
   exact⟨_,_,_,_,Z,_,aF,aG,aH,aL,f.k Z,m,aM,aN⟩
 ·rintro a w ⟨ao,ap,aq,ar,rfl,au,av,aw,ax,bu,f,m,bv,bw⟩
  refine Ae ?_
  refine Ab f Z λa f=>Ac f Z λa f=>Aa ?_
  refine Ap ?_
  have m:=m.fr 1
  obtain rfl:=sj hd
  exact⟨[av],f.g Z,f.d,_,[aw,ib b0 46 [ax,(iv aq),(.int .u64 ar)]],bu,m,_,_,_,Z,Z,bv,bw⟩
theorem Wk.f {aa:Value}{ab:LL}(m:Mem W G w (H))(ac:R2 G aa ab){y:Int}(hd:D.f ab=some y):
  Calls prog 64 #[(.agg #[aa])] w (Res W G H (λ_ Ho v=>Ho=[]∧v=(iv y))):=by
 refine Au (args:=[(.agg #[aa])]) (N:=6) [.tmp 2] func64 Z Z (lb Z) Z λa f=> ?_
 unfold D.f at hd
 refine Ae ?_
 refine Bo (cs:=[aa]) m f Z Z Z λad w a m f=>Ac f Z λa f=>AD ?_
 refine AW underlying29 Z sizeOf27 f Z λa f=>As 0 0 m Be f Z Z Z Z λa f=>AL underlying27 f Z Z ac λa f=>Ac f Z λa f=>Aa ?_
 refine Ap ?_
 have m:Mem W G w H:=Mem.drop (H':=[ib ad 29 [aa]]) m
 obtain rfl:=sj hd
 exact⟨[(iv (ab.length:Int))],f.g Z,f.d,_,[],gr,m,Z,Z⟩
theorem Wk.o {v0:Value}{x0:LI}{x1:Int}(m:Mem W G w (H))(h0:R1 G v0 x0){y:Bool}(hd:D.o x0 x1=some y):
  Calls prog 21 #[v0,(iv x1)] w (Res W G H (λ_ Ho v=>Ho=[]∧v=(.bool y))):=by
 refine Au (args:=[v0,(iv x1)]) (N:=18) [.tmp 4] func21 Z Z (lb Z) Z λa f=> ?_
 unfold D.o at hd
 refine Ae ?_
 refine Ac f Z λa f=>Aa (Ag (Ae ?_))
 refine Ac f Z λa f=>Aa ?_
 have⟨aa,ab,hd⟩:=bind_some hd
 refine AM (λa w=>∃q_19':Unit,aa= .inl q_19'∧∃(ac:GH),GLe G ac∧Fr a 18 []∧Mem W ac w (H)) ?_ ?_
 ·refine Ak ?_
  refine AO (λad a w=>∃ae:Int,ae=ad∧∃(af:GH),GLe G af∧Fr a 18 [(0,v0),(1,(iv x1)),(5,(iv ae))]∧Mem W af w (H)) ab ⟨_,Z,_,gr,f.k Z,m⟩ ?_
  clear ab f m
  rintro ad ag ah ai a w ⟨ae,rfl,af,aj,f,m⟩
  have h0:=rd1 aj h0
  refine Ag (Ae ?_)
  refine Ab f Z λa f=>Ab f Z λa f=>AL underlying35 f Z Z h0 λa f=>Ah f Z Z AR λa f=>Aa ?_
  rcases Af ah with⟨ak,ah⟩|⟨ak,ah⟩
  ·refine Al f Z ak ?_
   refine Am ?_
   refine Ag (Ak (Ae ?_))
   refine Ab f Z λa f=>Ab f Z λa f=> ?_
   have⟨al,am,ah⟩:=bind_some ah
   refine A4 T35 f Z Z Z h0 am λan ao a ap aq f=> ?_
   subst aq
   refine Ax m Pl2 f Z Z ap λa f=>Ab f Z λa f=>Ah f Z Z Bj λa f=>Aa ?_
   rcases Af ah with⟨ar,ah⟩|⟨ar,ah⟩
   ·refine Al f Z ar ?_
    refine Ae ?_
    refine Ac f Z λa f=>Aa ?_
    refine Ap ?_
    obtain rfl:=sj ah
    obtain rfl:=ai _ rfl
    obtain rfl:=sj hd
    exact⟨[(.bool true)],f.g Z,f.d,_,[],aj,m,Z,Z⟩
   ·refine Ai f Z ar ?_
    refine Am ?_
    refine Aj ?_
    refine Ab f Z λa f=>Ah f Z Z AB λa f=>Ac f Z λa f=>Aa ?_
    obtain rfl:=sj ah
    exact⟨_,Z,_,Z,_,aj,f.k Z,m⟩
  ·refine Ai f Z ak ?_
   refine AG Z ?_
   obtain rfl:=sj ah
   obtain rfl:=ai _ rfl
   exact⟨_,Z,_,aj,f.weak trivial,m⟩
 ·rintro a w ⟨_,rfl,ac,au,f,m⟩
  refine Ae ?_
  refine Ac f Z λa f=>Aa ?_
  refine Ap ?_
  obtain rfl:=sj hd
  exact⟨[(.bool false)],f.g Z,f.d,_,[],au,m,Z,Z⟩
theorem Wk.t {aa:Value}{ab:LL}(m:Mem W G w (H))(ac:R2 G aa ab){y:Bool}(hd:D.t ab=some y):
  Calls prog 30 #[(.agg #[aa])] w (Res W G H (λ_ Ho v=>Ho=[]∧v=(.bool y))):=by
 refine Au (args:=[(.agg #[aa])]) (N:=64) [.tmp 2] func30 Z Z (lb Z) Z λa f=> ?_
 unfold D.t at hd
 refine Ae ?_
 refine Bo (cs:=[aa]) m f Z Z Z λad w a m f=>Ac f Z λa f=>AD ?_
 refine AC 0 0 (ds:=[aa]) m Bv f Z Z Z Z Z λa f=> ?_
 have⟨ae,af,hd⟩:=bind_some hd
 refine Bd f Z call64 (Wk.f m ac af) λag w ah m a f=> ?_
 have ac:=rd2 ah ac
 refine Ac f Z λa f=>Aa (Ag (Ae ?_))
 refine Ab f Z λa f=> ?_
 have⟨ai,aj,hd⟩:=bind_some hd
 refine Bd f Z call58 (Wk.e m aj) λak w al m a f=> ?_
 have ac:=rd2 al ac
 refine l_o f (By (f.e Z)) λa f=>Aa ?_
 rcases Af hd with⟨am,hd⟩|⟨am,hd⟩
 ·refine Al f Z am ?_
  refine Ae ?_
  refine Ac f Z λa f=>Aa ?_
  refine Ap ?_
  have m:Mem W ak w H:=Mem.drop (H':=[ib ad 29 [aa]]) m
  obtain rfl:=sj hd
  exact⟨[(.bool false)],f.g Z,f.d,_,[],(gt ah al),m,Z,Z⟩
 ·refine Ai f Z am ?_
  refine Am ?_
  refine Ag (Ae ?_)
  refine Ac f Z λa f=>Aa ?_
  have⟨an,ao,hd⟩:=bind_some hd
  refine AM (λa w=>∃q_138':Unit,an= .inl q_138'∧∃(ap:GH),GLe ak ap∧Fr a 64 [(1,(pb ad)),(3,(iv ae))]∧Mem W ap w (ib ad 29 [aa]::H)) ?_ ?_
  ·refine Ak ?_
   refine AO (λaq a w=>∃ar:Int,ar=aq∧∃(au:GH),GLe ak au∧Fr a 64 [(1,(pb ad)),(3,(iv ae)),(4,(iv ar))]∧Mem W au w (ib ad 29 [aa]::H)) ao ⟨_,Z,_,gr,f.k Z,m⟩ ?_
   clear ao f m
   rintro aq av aw ax a w ⟨ar,rfl,au,ay,f,m⟩
   have ac:=rd2 ay ac
   refine Ag (Ae ?_)
   refine Ab f Z λa f=>Ab f Z λa f=>Ah f Z Z AR λa f=>Aa ?_
   rcases Af aw with⟨az,aw⟩|⟨az,aw⟩
   ·refine Al f Z az ?_
    refine Am ?_
    refine Ag (Ak (Ae ?_))
    refine AW underlying29 Z sizeOf27 f Z λa f=>As 0 0 m Be f Z Z Z Z λa f=>Ab f Z λa f=> ?_
    have⟨aA,aB,aw⟩:=bind_some aw
    refine A4 T27 f Z Z Z ac aB λaC aD a aE aF f=>Ax m Ba f Z Z aE λa f=>Ab f Z λa f=> ?_
    have⟨aG,aH,aw⟩:=bind_some aw
    refine Bd f Z call60 (Wk.C m aF aH) λaI w aJ m a f=> ?_
    have ac:=rd2 aJ ac
    refine l_o f (By (f.e Z)) λa f=>Ab f Z λa f=> ?_
    have⟨aK,aL,aw⟩:=bind_some aw
    refine Bx 8 (λa w=>∃aM,GLe aI aM∧Mem W aM w (ib ad 29 [aa]::H)∧Fr a 64 [(1,(pb ad)),(3,(iv ae)),(4,(iv ar)),(14,(.bool (decide (ar<ae)))),(17,(pb ad)),(18,aa),(19,(iv ar)),(20,aC),(21,aD),(22,(iv ae)),(23,(.bool aG)),(24,(.bool (!aG))),(25,(.bool (!aG))),(33,(.bool aK))]) ?_ ?_
    ·rcases Af aL with⟨aN,aL⟩|⟨aN,aL⟩
     ·refine Ar f aN λa f=> ?_
      refine Ar f aN λa f=>Ar f aN λa f=>Ar f aN λa f=>Ar f aN λa f=>Ar f aN λa f=>Ar f aN λa f=>l_o f (AI (f.e Z) aN (f.e Z)) λa f=> ?_
      obtain rfl:=sj aL
      exact⟨_,gr,m,f.k Z⟩
     ·refine Aq f aN ?_
      refine AW underlying29 Z sizeOf27 f Z λa f=>Aq f aN ?_
      refine As 0 0 m Be f Z Z Z Z λa f=>Aq f aN ?_
      refine Ab f Z λa f=>Aq f aN ?_
      have⟨aO,aP,aL⟩:=bind_some aL
      refine A4 T27 f Z Z Z ac aP λaQ aR a aS aT f=>Aq f aN ?_
      refine Ax m Ba f Z Z aS λa f=>Aq f aN ?_
      refine Ab f Z λa f=>Aq f aN ?_
      have⟨aU,aV,aL⟩:=bind_some aL
      refine Bd f Z call21 (Wk.o m aT aV) λaW w aX m a f=>l_o f (AJ (f.e Z) aN (f.e Z)) λa f=> ?_
      obtain rfl:=sj aL
      exact⟨_,aX,m,f.k Z⟩
    ·rintro a w ⟨aM,aY,m,f⟩
     refine Aa ?_
     rcases Af aw with⟨aZ,aw⟩|⟨aZ,aw⟩
     ·refine Al f Z aZ ?_
      refine Ae ?_
      refine Ac f Z λa f=>Aa ?_
      refine Ap ?_
      have m:Mem W aM w H:=Mem.drop (H':=[ib ad 29 [aa]]) m
      obtain rfl:=sj aw
      obtain rfl:=ax _ rfl
      obtain rfl:=sj hd
      exact⟨[(.bool false)],f.g Z,f.d,_,[],(gt ah (gt al (gt ay (gt aJ aY)))),m,Z,Z⟩
     ·refine Ai f Z aZ ?_
      refine Am ?_
      refine Aj ?_
      refine Ab f Z λa f=>Ah f Z Z AB λa f=>Ac f Z λa f=>Aa ?_
      obtain rfl:=sj aw
      exact⟨_,Z,_,Z,_,(gt ay (gt aJ aY)),f.k Z,m⟩
   ·refine Ai f Z az ?_
    refine AG Z ?_
    obtain rfl:=sj aw
    obtain rfl:=ax _ rfl
    exact⟨_,Z,_,ay,f.k Z,m⟩
  ·rintro a w ⟨_,rfl,ap,a0,f,m⟩
   have ac:=rd2 a0 ac
   refine Ag (Ae ?_)
   refine Ac f Z λa f=>Aa ?_
   have⟨a1,a2,hd⟩:=bind_some hd
   refine AM (λa w=>∃q_545':Unit,a1= .inl q_545'∧∃(a3:GH),GLe ap a3∧Fr a 64 []∧Mem W a3 w (H)) ?_ ?_
   ·refine Ak ?_
    refine AO (λa4 a w=>∃a5:Int,a5=a4∧∃(a6:GH),GLe ap a6∧Fr a 64 [(1,(pb ad)),(3,(iv ae)),(5,(iv a5))]∧Mem W a6 w (ib ad 29 [aa]::H)) a2 ⟨_,Z,_,gr,f.k Z,m⟩ ?_
    clear a2 f m
    rintro a4 a7 a8 a9 a w ⟨a5,rfl,a6,ba,f,m⟩
    have ac:=rd2 ba ac
    refine Ag (Ae ?_)
    refine Ab f Z λa f=>Ab f Z λa f=>Ah f Z Z AR λa f=>Aa ?_
    rcases Af a8 with⟨bb,a8⟩|⟨bb,a8⟩
    ·refine Al f Z bb ?_
     refine Am ?_
     refine Ag (Ak (Ae ?_))
     refine Ac f Z λa f=>Aa ?_
     have⟨bc,bd,a8⟩:=bind_some a8
     refine AM (λa w=>∃q_759':Unit,bc= .inl q_759'∧∃(be:GH),GLe a6 be∧Fr a 64 [(1,(pb ad)),(3,(iv ae)),(5,(iv a5))]∧Mem W be w (ib ad 29 [aa]::H)) ?_ ?_
     ·refine Ak ?_
      refine AO (λbf a w=>∃bg:Int,bg=bf∧∃(bh:GH),GLe a6 bh∧Fr a 64 [(1,(pb ad)),(3,(iv ae)),(5,(iv a5)),(6,(iv bg))]∧Mem W bh w (ib ad 29 [aa]::H)) bd ⟨_,Z,_,gr,f.k Z,m⟩ ?_
      clear bd f m
      rintro bf bi bj bk a w ⟨bg,rfl,bh,bl,f,m⟩
      have ac:=rd2 bl ac
      refine Ag (Ae ?_)
      refine Ab f Z λa f=>AW underlying29 Z sizeOf27 f Z λa f=>As 0 0 m Be f Z Z Z Z λa f=>Ab f Z λa f=> ?_
      have⟨bm,bn,bj⟩:=bind_some bj
      refine A4 T27 f Z Z Z ac bn λbo bp a bq br f=>Ax m Ba f Z Z bq λa f=>AL underlying35 f Z Z br λa f=>Ah f Z Z AR λa f=>Aa ?_
      rcases Af bj with⟨bs,bj⟩|⟨bs,bj⟩
      ·refine Al f Z bs ?_
       refine Am ?_
       refine Ag (Ak (Ag ?_))
       refine Bf 15 AU (by kernel_rfl) m ?_
       refine Bt 0 15 underlying29 Z sizeOf27 Z f Z λa f=>Br 1 15 0 Be Z Z Z f Z λa f=>Bt 2 15 underlying29 Z sizeOf27 Z f Z λa f=>Br 3 15 0 Be Z Z Z f Z λa f=>An 4 15 Z f Z λa f=> ?_
       have⟨bt,bu,bj⟩:=bind_some bj
       refine A8 5 15 T27 ac bu Z f Z Z λbv bw a bx bz f=>A9 6 15 Ba bx Z f Z λa f=>An 7 15 Z f Z λa f=> ?_
       have⟨bA,bB,bj⟩:=bind_some bj
       refine A8 8 15 T35 bz bB Z f Z Z λbC bD a bE bF f=> ?_
       subst bF
       refine A9 9 15 Pl2 bE Z f Z λa f=> ?_
       have⟨bG,bH,bj⟩:=bind_some bj
       refine A8 10 15 T27 ac bH Z f Z Z λbI bJ a bK bL f=>A9 11 15 Ba bK Z f Z λa f=>An 12 15 Z f Z λa f=> ?_
       have⟨bM,bN,bj⟩:=bind_some bj
       refine BJ (i:=13) 15 Z (by kernel_rfl) Z f Z Z Z call21 (λ_ _ w bO m=>Wk.o m (rd1 bO bL) bN) λa f=>q_p 14 15 Z f (λ_=>By (f.e Z)) λa f=>A2 λbP w bQ m=>Aa ?_
       rcases Af bj with⟨bR,bj⟩|⟨bR,bj⟩
       ·refine Al f Z bR ?_
        refine Ae ?_
        refine Ac f Z λa f=>Aa ?_
        refine Ap ?_
        have m:Mem W bP w H:=Mem.drop (H':=[ib ad 29 [aa]]) m
        obtain rfl:=sj bj
        obtain rfl:=bk _ rfl
        obtain rfl:=sj a8
        obtain rfl:=a9 _ rfl
        obtain rfl:=sj hd
        exact⟨[(.bool false)],f.g Z,f.d,_,[],(gt ah (gt al (gt a0 (gt ba (gt bl bQ))))),m,Z,Z⟩
       ·refine Ai f Z bR ?_
        refine Am ?_
        refine Aj ?_
        refine Ab f Z λa f=>Ah f Z Z AB λa f=>Ac f Z λa f=>Aa ?_
        obtain rfl:=sj bj
        exact⟨_,Z,_,Z,_,(gt bl bQ),f.k Z,m⟩
      ·refine Ai f Z bs ?_
       refine AG Z ?_
       obtain rfl:=sj bj
       obtain rfl:=bk _ rfl
       exact⟨_,Z,_,bl,f.k Z,m⟩
     ·rintro a w ⟨_,rfl,be,bS,f,m⟩
      refine Aj ?_
      refine Ab f Z λa f=>Ah f Z Z AB λa f=>Ac f Z λa f=>Aa ?_
      obtain rfl:=sj a8
      exact⟨_,Z,_,Z,_,(gt ba bS),f.k Z,m⟩
    ·refine Ai f Z bb ?_
     refine AG Z ?_
     have m:Mem W a6 w H:=Mem.drop (H':=[ib ad 29 [aa]]) m
     obtain rfl:=sj a8
     obtain rfl:=a9 _ rfl
     exact⟨_,Z,_,ba,f.weak trivial,m⟩
   ·rintro a w ⟨_,rfl,a3,bT,f,m⟩
    refine Ae ?_
    refine Ac f Z λa f=>Aa ?_
    refine Ap ?_
    obtain rfl:=sj hd
    exact⟨[(.bool true)],f.g Z,f.d,_,[],(gt ah (gt al (gt a0 bT))),m,Z,Z⟩
theorem Wk.Z0 {aa:Value}{ab:LL}{x1:Int}(m:Mem W G w (H))(ac:R2 G aa ab){y:Bool}(hd:D.Z0 ab x1=some y):
  Calls prog 90 #[(.agg #[aa]),(iv x1)] w (Res W G H (λ_ Ho v=>Ho=[]∧v=(.bool y))):=by
 refine Au (args:=[(.agg #[aa]),(iv x1)]) (N:=10) [.tmp 4] func90 Z Z (lb Z) Z λa f=> ?_
 unfold D.Z0 at hd
 refine Ae ?_
 refine Bo (cs:=[aa]) m f Z Z Z λad w a m f=>Ac f Z λa f=>AD ?_
 refine Ab f Z λa f=>AC 0 0 (ds:=[aa]) m Bv f Z Z Z Z Z λa f=> ?_
 have⟨ae,af,hd⟩:=bind_some hd
 refine Bd f Z call64 (Wk.f m ac af) λag w ah m a f=>Ah f Z Z Ck λa f=> ?_
 have⟨ai,aj,hd⟩:=bind_some hd
 refine Bd f Z call58 (Wk.e m aj) λak w al m a f=>Ac f Z λa f=>Aa ?_
 refine Ap ?_
 have m:Mem W ak w H:=Mem.drop (H':=[ib ad 29 [aa]]) m
 obtain rfl:=sj hd
 exact⟨[(.bool ai)],f.g Z,f.d,_,[],(gt ah al),m,Z,Z⟩
theorem Wk.b1 {aa v1:Value}{ab:LL}{x1:LI}(m:Mem W G w (H))(ac:R2 G aa ab)(h1:R1 G v1 x1){y:Bool}(hd:D.b1 ab x1=some y):
  Calls prog 62 #[(.agg #[aa]),v1] w (Res W G H (λ_ Ho v=>Ho=[]∧v=(.bool y))):=by
 refine Au (args:=[(.agg #[aa]),v1]) (N:=34) [.tmp 4] func62 Z Z (lb Z) Z λa f=> ?_
 unfold D.b1 at hd
 refine Ae ?_
 refine Bo (cs:=[aa]) m f Z Z Z λad w a m f=>Ac f Z λa f=>Aa (Ag (Ae ?_))
 refine Ab f Z λa f=>AL underlying35 f Z Z h1 λa f=>AC 0 0 (ds:=[aa]) m Bv f Z Z Z Z Z λa f=> ?_
 have⟨ae,af,hd⟩:=bind_some hd
 refine Bd f Z call64 (Wk.f m ac af) λag w ah m a f=> ?_
 have ac:=rd2 ah ac
 have h1:=rd1 ah h1
 refine Ah f Z Z Cm λa f=>Aa ?_
 rcases Af hd with⟨ai,hd⟩|⟨ai,hd⟩
 ·refine Al f Z ai ?_
  refine Ae ?_
  refine Ac f Z λa f=>Aa ?_
  refine Ap ?_
  have m:Mem W ag w H:=Mem.drop (H':=[ib ad 29 [aa]]) m
  obtain rfl:=sj hd
  exact⟨[(.bool false)],f.g Z,f.d,_,[],ah,m,Z,Z⟩
 ·refine Ai f Z ai ?_
  refine Am ?_
  refine Ag (Ae ?_)
  refine Ac f Z λa f=>Aa ?_
  have⟨aj,ak,hd⟩:=bind_some hd
  refine AM (λa w=>∃q_99':Unit,aj= .inl q_99'∧∃(al:GH),GLe ag al∧Fr a 34 []∧Mem W al w (H)) ?_ ?_
  ·refine Ak ?_
   refine AO (λam a w=>∃an:Int,an=am∧∃(ao:GH),GLe ag ao∧Fr a 34 [(1,v1),(2,(pb ad)),(5,(iv an))]∧Mem W ao w (ib ad 29 [aa]::H)) ak ⟨_,Z,_,gr,f.k Z,m⟩ ?_
   clear ak f m
   rintro am ap aq ar a w ⟨an,rfl,ao,au,f,m⟩
   have h1:=rd1 au h1
   have ac:=rd2 au ac
   refine Ag (Ae ?_)
   refine Ab f Z λa f=>Ab f Z λa f=>AL underlying35 f Z Z h1 λa f=>Ah f Z Z AR λa f=>Aa ?_
   rcases Af aq with⟨av,aq⟩|⟨av,aq⟩
   ·refine Al f Z av ?_
    refine Am ?_
    refine Ag (Ak (Ag ?_))
    refine Bf 17 AU (by kernel_rfl) m ?_
    refine BE (i:=0) (ds:=[aa]) 17 0 Bv Z Z Z Z (by kernel_rfl) Z f Z Z Z λa f=>An 1 17 Z f Z λa f=>An 2 17 Z f Z λa f=> ?_
    have⟨aw,ax,aq⟩:=bind_some aq
    refine A8 3 17 T35 h1 ax Z f Z Z λay az a aA aB f=> ?_
    subst aB
    refine A9 4 17 Pl2 aA Z f Z λa f=> ?_
    have⟨aC,aD,aq⟩:=bind_some aq
    refine BJ (i:=5) 17 Z (by kernel_rfl) Z f Z Z Z call90 (λ_ _ w aE m=>Wk.Z0 m (rd2 aE ac) aD) λa f=>q_p 6 17 Z f (λ_=>By (f.e Z)) λa f=>An 7 17 Z f Z λa f=> ?_
    have⟨aF,aG,aq⟩:=bind_some aq
    refine Cw (fuel':=0) (listed':= #[true,true,true,true,true,true,true,true,true,true,true,true,true,true,true,true,true]) (λa=>Fr a 34 [(1,v1),(2,(pb ad)),(5,(iv an)),(14,(.bool (decide (an<(x1.length:Int))))),(17,(.agg #[aa])),(18,v1),(19,(iv an)),(20,ay),(21,(iv aw)),(22,(.bool aC)),(23,(.bool (!aC))),(24,(.bool (!aC))),(33,(.bool aF))]) ?_ ?_
    ·intro a f
     refine A2 λaH w aI m=>Aa ?_
     rcases Af aq with⟨aJ,aq⟩|⟨aJ,aq⟩
     ·refine Al f Z aJ ?_
      refine Ae ?_
      refine Ac f Z λa f=>Aa ?_
      refine Ap ?_
      have m:Mem W aH w H:=Mem.drop (H':=[ib ad 29 [aa]]) m
      obtain rfl:=sj aq
      obtain rfl:=ar _ rfl
      obtain rfl:=sj hd
      exact⟨[(.bool false)],f.g Z,f.d,_,[],(gt ah (gt au aI)),m,Z,Z⟩
     ·refine Ai f Z aJ ?_
      refine Am ?_
      refine Aj ?_
      refine Ab f Z λa f=>Ah f Z Z AB λa f=>Ac f Z λa f=>Aa ?_
      obtain rfl:=sj aq
      exact⟨_,Z,_,Z,_,(gt au aI),f.k Z,m⟩
    ·intro aK
     rcases Af aG with⟨aL,aG⟩|⟨aL,aG⟩
     ·refine Aw 8 17 Z f aL λa f=> ?_
      refine Aw 9 17 Z f aL λa f=>Aw 10 17 Z f aL λa f=>Aw 11 17 Z f aL λa f=>Aw 12 17 Z f aL λa f=>Aw 13 17 Z f aL λa f=>Aw 14 17 Z f aL λa f=>Aw 15 17 Z f aL λa f=>q_p 16 17 Z f (λ_=>AI (f.e Z) aL (f.e Z)) λa f=> ?_
      obtain rfl:=sj aG
      exact aK _ (f.k Z)
     ·refine An (hw:=wo f aL) 8 17 Z f Z λa f=> ?_
      refine An (hw:=wo f aL) 9 17 Z f Z λa f=> ?_
      have⟨aM,aN,aG⟩:=bind_some aG
      refine q_slice (i:=10) 17 T35 h1 aN Z (by kernel_rfl) Z f (BH f Z Z Z aL) Z Z (.inl ⟨Z,Z⟩) (.inr ⟨_,_,Z,Z⟩) λaO a aP f=>An (hw:=wo f aL) 11 17 Z f Z λa f=>An (hw:=wo f aL) 12 17 Z f Z λa f=> ?_
      have⟨aQ,aR,aG⟩:=bind_some aG
      refine A8 (hw:=wo f aL) 13 17 T35 h1 aR Z f Z Z λaS aT a aU aV f=> ?_
      subst aV
      refine A9 (hw:=wo f aL) 14 17 Pl2 aU Z f Z λa f=> ?_
      have⟨aW,aX,aG⟩:=bind_some aG
      refine BJ (i:=15) 17 Z (by kernel_rfl) Z f (BH f Z Z Z aL) Z Z call21 (λ_ _ w aY m=>Wk.o m (rd1 aY aP) aX) λa f=>q_p 16 17 Z f (λ_=>AJ (f.e Z) aL (f.e Z)) λa f=> ?_
      obtain rfl:=sj aG
      exact aK _ (f.k Z)
   ·refine Ai f Z av ?_
    refine AG Z ?_
    have m:Mem W ao w H:=Mem.drop (H':=[ib ad 29 [aa]]) m
    obtain rfl:=sj aq
    obtain rfl:=ar _ rfl
    exact⟨_,Z,_,au,f.weak trivial,m⟩
  ·rintro a w ⟨_,rfl,al,aZ,f,m⟩
   refine Ae ?_
   refine Ac f Z λa f=>Aa ?_
   refine Ap ?_
   obtain rfl:=sj hd
   exact⟨[(.bool true)],f.g Z,f.d,_,[],(gt ah aZ),m,Z,Z⟩
theorem Wk.r0 {aa v1:Value}{ab:LL}{x1:LI}(m:Mem W G w (H))(ac:R2 G aa ab)(h1:R1 G v1 x1){y:Bool}(hd:D.r0 ab x1=some y):
  Calls prog 17 #[(.agg #[aa]),v1] w (Res W G H (λ_ Ho v=>Ho=[]∧v=(.bool y))):=by
 refine Au (args:=[(.agg #[aa]),v1]) (N:=12) [.tmp 4] func17 Z Z (lb Z) Z λa f=> ?_
 unfold D.r0 at hd
 refine Ae ?_
 refine Bo (cs:=[aa]) m f Z Z Z λad w a m f=>Ac f Z λa f=>AD ?_
 refine AC 0 0 (ds:=[aa]) m Bv f Z Z Z Z Z λa f=> ?_
 have⟨ae,af,hd⟩:=bind_some hd
 refine Bd f Z call30 (Wk.t m ac af) λag w ah m a f=> ?_
 have ac:=rd2 ah ac
 have h1:=rd1 ah h1
 refine Ab f Z λa f=> ?_
 have⟨ai,aj,hd⟩:=bind_some hd
 refine Bx 4 (λa w=>∃ak,GLe ag ak∧Mem W ak w (ib ad 29 [aa]::H)∧Fr a 12 [(0,(.agg #[aa])),(1,v1),(2,(pb ad)),(5,(.agg #[aa])),(6,(.bool ae)),(7,(.bool ae)),(11,(.bool ai))]) ?_ ?_
 ·rcases Af aj with⟨al,aj⟩|⟨al,aj⟩
  ·refine Aq f al ?_
   refine AC 0 0 (ds:=[aa]) m Bv f Z Z Z Z Z λa f=>Aq f al ?_
   refine Ab f Z λa f=>Aq f al ?_
   have⟨am,an,aj⟩:=bind_some aj
   refine Bd f Z call62 (Wk.b1 m ac h1 an) λao w ap m a f=>l_o f (AI (f.e Z) al (f.e Z)) λa f=> ?_
   obtain rfl:=sj aj
   exact⟨_,ap,m,f.k Z⟩
  ·refine Ar f al λa f=> ?_
   refine Ar f al λa f=>Ar f al λa f=>l_o f (AJ (f.e Z) al (f.e Z)) λa f=> ?_
   obtain rfl:=sj aj
   exact⟨_,gr,m,f.k Z⟩
 ·rintro a w ⟨ak,aq,m,f⟩
  refine Ac f Z λa f=>Aa ?_
  refine Ap ?_
  have m:Mem W ak w H:=Mem.drop (H':=[ib ad 29 [aa]]) m
  obtain rfl:=sj hd
  exact⟨[(.bool ai)],f.g Z,f.d,_,[],(gt ah aq),m,Z,Z⟩
theorem Wk.L0 {aa:Value}{ab:LL}(m:Mem W G w (H))(ac:R2 G aa ab){y:(LL)}(hd:D.L0 ab=some y):
  Calls prog 91 #[(.agg #[aa])] w (Res W G H (λG' Ho v=>∃r0:Value,∃i0:Itm,Ho=[i0]∧v=(.agg #[r0])∧Ow R1 35 G' i0 r0 y)):=by
 refine Au (args:=[(.agg #[aa])]) (N:=25) [.cell 2 29] func91 Z Z (lb Z) Z λa f=> ?_
 unfold D.L0 at hd
 refine Ae ?_
 refine Bo (cs:=[aa]) m f Z Z Z λad w a m f=>Bp (cs:=[sn]) zeroValue29 m f Z Z λae w a m f=>AD ?_
 have af:∀w,(Instr.build 29 #[]).run prog w= .ok (.agg #[sn]) w:=by intro w;simp[Instr.build,Instr.fill,BX,BQ,BD,BI,BA,BW,BP]
 refine CS f Z Z af λa f=>Bp (cs:=[sn]) zeroValue29 m f Z Z λag w a m f=>AA 0 0 (ds:=[sn]) m sizeOf29 f Z Z Z (Ao Z AK) Z (lb Z) Z λw m=>Aa (Ag (Ae ?_))
 refine Ac f Z λa f=>Aa ?_
 obtain⟨ah,m,ai⟩:=Ow.nil R1 35 m
 have⟨aj,ak,hd⟩:=bind_some hd
 refine AM (λa w=>∃al:LL,al=aj∧∃(am:GH) (an:Value) (ao:Itm),GLe G am∧Fr a 25 [(2,(pb ae)),(3,(pb ag))]∧Mem W am w (ib ae 29 [sn]::ib ag 29 [an]::ao::H)∧Ow R1 35 am ao an al) ?_ ?_
 ·refine Ak ?_
  have m:=m.fr 1
  have m:=m.fr 2
  have m:Mem W G w (ib ad 29 [aa]::ib ae 29 [sn]::ib ag 29 [sn]::ah::H):=m.fr 3
  refine AO (λap a w=>∃aq:Int,∃ar:LL,(aq,ar)=ap∧∃(au:GH) (av:Value) (aw:Itm),GLe G au∧Fr a 25 [(1,(pb ad)),(2,(pb ae)),(3,(pb ag)),(4,(iv aq))]∧Mem W au w (ib ad 29 [aa]::ib ae 29 [sn]::ib ag 29 [av]::aw::H)∧Ow R1 35 au aw av ar) ak ⟨_,_,Z,_,sn,ah,gr,f.k Z,m,ai⟩ ?_
  clear ak f m
  rintro ap ax ay az a w ⟨aq,ar,rfl,au,av,aw,aA,f,m,aB⟩
  have ac:=rd2 aA ac
  refine Ag (Ae ?_)
  refine Ab f Z λa f=>AW underlying29 Z sizeOf27 f Z λa f=>As 0 0 m Be f Z Z Z Z λa f=>AL underlying27 f Z Z ac λa f=>Ah f Z Z AR λa f=>Aa ?_
  rcases Af ay with⟨aC,ay⟩|⟨aC,ay⟩
  ·refine Al f Z aC ?_
   refine Am ?_
   refine Ag (Ak ?_)
   refine Bf 9 AU (by kernel_rfl) m ?_
   refine Bt 0 9 underlying29 Z sizeOf27 Z f Z λa f=>Br 1 9 2 Be Z Z Z f Z λa f=>Bt 2 9 underlying29 Z sizeOf27 Z f Z λa f=>Br 3 9 0 Be Z Z Z f Z λa f=>An 4 9 Z f Z λa f=> ?_
   have⟨aD,aE,ay⟩:=bind_some ay
   refine A8 5 9 T27 ac aE Z f Z Z λaF aG a aH aI f=>A9 6 9 Ba aH Z f Z λa f=>BC 7 Z λaJ w aK m aL aL=> ?_
   have aI:=rd1 aK aI
   have aB:=Ow.mono (RSl.mono (RI.mono _)) aK aB
   have⟨aM,aN,ay⟩:=bind_some ay
   refine AX f Z call20 (Wk.g m aI aN) λaO aP aQ w aR m aS a f=> ?_
   obtain⟨aT,aU,rfl,rfl,aV⟩:=aS
   have aB:=Ow.mono (RSl.mono (RI.mono _)) aR aB
   refine Aa ?_
   refine aL aP [aU] _ _ aR m ?_
   refine BC 8 Z λaW w aX m aY aY=> ?_
   have aV:=od1 aX aV
   have aB:=Ow.mono (RSl.mono (RI.mono _)) aX aB
   obtain⟨aZ,a0,m,a1⟩:=Ow.stamp (RI.mono _) aV m
   have aB:=Ow.mono (RSl.mono (RI.mono _)) a0 aB
   refine A7 (R:=R1) (xs:=([aM]:LL)) (RSl.one _) m T27 f Z Z Z (by decide) (All2.cons a1 (All2.nil _)) λa2 a3 w a m a4 f=>Aa ?_
   refine aY aZ [a2] _ _ a0 m ?_
   refine A2 λa5 w a6 m=> ?_
   have a4:=Ow.mono (RSl.mono (RI.mono _)) a6 a4
   have aB:=Ow.mono (RSl.mono (RI.mono _)) a6 aB
   have⟨a7,a8,ay⟩:=bind_some ay
   refine Bh (RSl.one _) 4 m aB Z T27 Z (by decide) f Z Z Z (Ow.src (j:=0) a4 m Z) a8 λa9 ba w a m bb f=>AW underlying29 Z sizeOf27 f Z λa f=>AA 3 0 (ds:=[ba]) m sizeOf27 f Z Z (Ow.cells 4 m bb Z) (Ao (Ow.one1 4 m bb Z) AK) Z (lb Z) Z λw m=>Aa (Aj ?_)
   refine Ab f Z λa f=>Ah f Z Z AB λa f=>Ac f Z λa f=>Aa ?_
   have m:=m.fr 4
   have m:=m.fr 4
   have m:Mem W a5 w (ib ae 29 [sn]::ib ag 29 [ba]::a9::a2::ib ad 29 [aa]::H):=m.fr 4
   have m:=m.fr 4
   have m:Mem W a5 w (ib ad 29 [aa]::ib ae 29 [sn]::ib ag 29 [ba]::a9::H):=m.eraseAt 4
   obtain rfl:=sj ay
   exact⟨_,Z,_,_,Z,_,ba,a9,(gt aA (gt aK (gt aR (gt aX (gt a0 a6))))),f.k Z,m,bb⟩
  ·refine Ai f Z aC ?_
   refine AG Z ?_
   have m:=m.fr 3
   have m:=m.fr 3
   have m:Mem W au w (ib ae 29 [sn]::ib ag 29 [av]::aw::ib ad 29 [aa]::H):=m.fr 3
   have m:=m.eraseAt 3
   obtain rfl:=sj ay
   obtain rfl:=az _ rfl
   exact⟨_,Z,_,av,aw,aA,f.k Z,m,aB⟩
 ·rintro a w ⟨al,rfl,am,an,ao,bc,f,m,bd⟩
  refine Ae ?_
  refine AC 1 0 (ds:=[an]) m Bv f Z Z Z Z Z λa f=>AA 0 0 (ds:=[an]) m sizeOf29 f Z Z Z (Ao (Ow.one1 2 m bd Z) AK) Z (lb Z) Z λw m=>Aa ?_
  refine Ap ?_
  have be:=CO (P:=prog) 0 m Bv f (s:=2) rfl rfl rfl
  have m:=m.fr 2
  have m:=m.eraseAt 2
  have m:=m.eraseAt 1
  obtain rfl:=sj hd
  exact⟨[(.agg #[an])],⟨be,trivial⟩,f.d,_,[ao],bc,m,_,_,Z,Z,bd⟩
theorem Wk.T {aa v2:Value}{ab:LL}{x1:Int}{x2:(List Bool)}(m:Mem W G w (H))(ac:R2 G aa ab)(h2:RSl RB G v2 x2){y:(LI)}(hd:D.T ab x1 x2=some y):
  Calls prog 65 #[(.agg #[aa]),(iv x1),v2] w (Res W G H (λG' Ho v=>∃r0:Value,∃i0:Itm,Ho=[i0]∧r0=v∧Ow R0 2 G' i0 r0 y)):=by
 refine Au (args:=[(.agg #[aa]),(iv x1),v2]) (N:=44) [.tmp 6] func65 Z Z (lb Z) Z λa f=> ?_
 unfold D.T at hd
 refine Ae ?_
 refine Bo (cs:=[aa]) m f Z Z Z λad w a m f=>Ac f Z λa f=>AD ?_
 refine A7 (R:=R0) (xs:=([]:LI)) (RI.one _) m T35 f Z Z Z (by decide) (All2.nil _) λae af w a m ag f=>Ac f Z λa f=>Aa (Ag (Ae ?_))
 refine Ac f Z λa f=>Aa ?_
 have⟨ah,ai,hd⟩:=bind_some hd
 refine AM (λa w=>∃aj:LI,aj=ah∧∃(ak:GH) (al:Value) (am:Itm),GLe G ak∧Fr a 44 [(7,al)]∧Mem W ak w (am::H)∧Ow R0 2 ak am al aj) ?_ ?_
 ·refine Ak ?_
  have m:=m.fr 1
  refine AO (λan a w=>∃ao:LI,∃ap:Int,(ao,ap)=an∧∃(aq:GH) (ar:Value) (au:Itm),GLe G aq∧Fr a 44 [(1,(iv x1)),(2,v2),(3,(pb ad)),(7,ar),(8,(iv ap))]∧Mem W aq w (ib ad 29 [aa]::au::H)∧Ow R0 2 aq au ar ao) ai ⟨_,_,Z,_,af,ae,gr,f.k Z,m,ag⟩ ?_
  clear ai f m
  rintro an av aw ax a w ⟨ao,ap,rfl,aq,ar,au,ay,f,m,az⟩
  have h2:=RSl.mono RB.mono _ _ _ _ ay h2
  have ac:=rd2 ay ac
  refine Ag (Ae ?_)
  refine Ab f Z λa f=>AW underlying29 Z sizeOf27 f Z λa f=>As 0 0 m Be f Z Z Z Z λa f=>Ab f Z λa f=> ?_
  have⟨aA,aB,aw⟩:=bind_some aw
  refine A4 T27 f Z Z Z ac aB λaC aD a aE aF f=>Ax m Ba f Z Z aE λa f=>AL underlying35 f Z Z aF λa f=>Ah f Z Z AR λa f=>Aa ?_
  rcases Af aw with⟨aG,aw⟩|⟨aG,aw⟩
  ·refine Al f Z aG ?_
   refine Am ?_
   refine Ag (Ak (Ae ?_))
   refine Ab f Z λa f=>AW underlying29 Z sizeOf27 f Z λa f=>As 0 0 m Be f Z Z Z Z λa f=>Ab f Z λa f=> ?_
   have⟨aH,aI,aw⟩:=bind_some aw
   refine A4 T27 f Z Z Z ac aI λaJ aK a aL aM f=>Ax m Ba f Z Z aL λa f=>Ab f Z λa f=> ?_
   have⟨aN,aO,aw⟩:=bind_some aw
   refine A4 T35 f Z Z Z aM aO λaP aQ a aR aS f=> ?_
   subst aS
   refine Ax m Pl2 f Z Z aR λa f=> ?_
   have⟨aT,aU,aw⟩:=bind_some aw
   refine A4 T105 f Z Z Z h2 aU λaV aW a aX aY f=> ?_
   subst aY
   refine Ax m Pl4 f Z Z aX λa f=>l_o f (By (f.e Z)) λa f=>Aa ?_
   rcases Af aw with⟨aZ,aw⟩|⟨aZ,aw⟩
   ·refine Al f Z aZ ?_
    refine Aj ?_
    refine Ab f Z λa f=>AW underlying29 Z sizeOf27 f Z λa f=>As 0 0 m Be f Z Z Z Z λa f=>Ab f Z λa f=> ?_
    have⟨a0,a1,aw⟩:=bind_some aw
    refine A4 T27 f Z Z Z ac a1 λa2 a3 a a4 a5 f=>Ax m Ba f Z Z a4 λa f=>Ab f Z λa f=> ?_
    have⟨a6,a7,aw⟩:=bind_some aw
    refine A4 T35 f Z Z Z a5 a7 λa8 a9 a ba bb f=> ?_
    subst bb
    refine Ax m Pl2 f Z Z ba λa f=>A7 (R:=R0) (xs:=([a6]:LI)) (RI.one _) m T35 f Z Z Z (by decide) (All2.cons Z (All2.nil _)) λbc bd w a m be f=> ?_
    have⟨bf,bg,aw⟩:=bind_some aw
    refine Bh (RI.one _) 2 m az Z T35 Z (by decide) f Z Z Z (Ow.src (j:=0) be m Z) bg λbh bi w a m bj f=>Ac f Z λa f=>Aa (Aj ?_)
    refine Ab f Z λa f=>Ah f Z Z AB λa f=>Ac f Z λa f=>Aa ?_
    have m:=m.fr 2
    have m:=m.fr 2
    have m:=m.eraseAt 2
    obtain rfl:=sj aw
    exact⟨_,Z,_,_,Z,_,bi,bh,ay,f.k Z,m,bj⟩
   ·refine Ai f Z aZ ?_
    refine Am ?_
    refine Aj ?_
    refine Ab f Z λa f=>Ah f Z Z AB λa f=>Ac f Z λa f=>Aa ?_
    obtain rfl:=sj aw
    exact⟨_,Z,_,_,Z,_,ar,au,ay,f.k Z,m,az⟩
  ·refine Ai f Z aG ?_
   refine AG Z ?_
   have m:=m.fr 1
   have m:=m.eraseAt 1
   obtain rfl:=sj aw
   obtain rfl:=ax _ rfl
   exact⟨_,Z,_,ar,au,ay,f.k Z,m,az⟩
 ·rintro a w ⟨aj,rfl,ak,al,am,bk,f,m,bl⟩
  refine Ae ?_
  refine Ab f Z λa f=>Ac f Z λa f=>Aa ?_
  refine Ap ?_
  obtain rfl:=sj hd
  exact⟨[al],f.g Z,f.d,_,[am],bk,m,_,_,Z,Z,bl⟩
theorem Wk.g0 {aa:Value}{ab:Itm}{v1:Value}{ac:LL}{x1:LI}(m:Mem W G w (ab::H))(ad:Ow R1 35 G ab aa ac)(h1:R1 G v1 x1){y:(LL)}(hd:D.g0 ac x1=some y):
  Calls prog 92 #[(.agg #[aa]),v1] w (Res W G H (λG' Ho v=>∃i0:Itm,Ho=[i0]∧v=(.agg #[aa])∧Ow R1 35 G' i0 aa y)):=by
 refine Au (args:=[(.agg #[aa]),v1]) (N:=29) [.cell 4 29] func92 Z Z (lb Z) Z λa f=> ?_
 unfold D.g0 at hd
 refine Ae ?_
 refine Bo (cs:=[aa]) m f Z Z Z λae w a m f=>Bp (cs:=[sn]) zeroValue29 m f Z Z λaf w a m f=>Aa (Ag (Ae ?_))
 refine Ac f Z λa f=>Aa ?_
 have⟨ag,ah,hd⟩:=bind_some hd
 refine AM (λa w=>∃ai:LL,ai=ag∧∃(aj:GH) (ak:Itm),GLe G aj∧Fr a 29 [(2,(pb ae)),(4,(pb af))]∧Mem W aj w (ib ae 29 [aa]::ib af 29 [sn]::ak::H)∧Ow R1 35 aj ak aa ai) ?_ ?_
 ·refine Ak ?_
  have m:=m.fr 1
  refine AO (λal a w=>∃am:LL,∃an:Int,(am,an)=al∧∃(ao:GH) (ap:Itm),GLe G ao∧Fr a 29 [(1,v1),(2,(pb ae)),(4,(pb af)),(5,(iv an))]∧Mem W ao w (ib ae 29 [aa]::ib af 29 [sn]::ap::H)∧Ow R1 35 ao ap aa am) ah ⟨_,_,Z,_,ab,gr,f.k Z,m,ad⟩ ?_
  clear ah f m
  rintro al aq ar au a w ⟨am,an,rfl,ao,ap,av,f,m,aw⟩
  have h1:=rd1 av h1
  refine Ag (Ae ?_)
  refine Ab f Z λa f=>Ab f Z λa f=>AL underlying35 f Z Z h1 λa f=>Ah f Z Z AR λa f=>Aa ?_
  rcases Af ar with⟨ax,ar⟩|⟨ax,ar⟩
  ·refine Al f Z ax ?_
   refine Am ?_
   refine Ag (Ak (Ae ?_))
   refine Ac f Z λa f=>Aa ?_
   have⟨ay,az,ar⟩:=bind_some ar
   refine AM (λa w=>∃aA:LL,aA=ay∧∃(aB:GH) (aC:Itm),GLe ao aB∧Fr a 29 [(1,v1),(2,(pb ae)),(4,(pb af)),(5,(iv an))]∧Mem W aB w (ib ae 29 [aa]::ib af 29 [sn]::aC::H)∧Ow R1 35 aB aC aa aA) ?_ ?_
   ·refine Ak ?_
    refine AO (λaD a w=>∃aE:LL,∃aF:Int,(aE,aF)=aD∧∃(aG:GH) (aH:Itm),GLe ao aG∧Fr a 29 [(1,v1),(2,(pb ae)),(4,(pb af)),(5,(iv an)),(6,(iv aF))]∧Mem W aG w (ib ae 29 [aa]::ib af 29 [sn]::aH::H)∧Ow R1 35 aG aH aa aE) az ⟨_,_,Z,_,ap,gr,f.k Z,m,aw⟩ ?_
    clear az f m
    rintro aD aI aJ aK a w ⟨aE,aF,rfl,aG,aH,aL,f,m,aM⟩
    have h1:=rd1 aL h1
    refine Ag (Ae ?_)
    refine Ab f Z λa f=>Ab f Z λa f=>Ah f Z Z AR λa f=>Aa ?_
    rcases Af aJ with⟨aN,aJ⟩|⟨aN,aJ⟩
    ·refine Al f Z aN ?_
     refine Am ?_
     refine Ag (Ak ?_)
     refine Bf 9 AU (by kernel_rfl) m ?_
     refine BE (i:=0) (ds:=[aa]) 9 0 Bv Z Z Z Z (by kernel_rfl) Z f Z Z Z λa f=>An 1 9 Z f Z λa f=>An 2 9 Z f Z λa f=> ?_
     have⟨aO,aP,aJ⟩:=bind_some aJ
     refine A8 3 9 T35 h1 aP Z f Z Z λaQ aR a aS aT f=> ?_
     subst aT
     refine A9 4 9 Pl2 aS Z f Z λa f=>An 5 9 Z f Z λa f=>An 6 9 Z f Z λa f=> ?_
     have⟨aU,aV,aJ⟩:=bind_some aJ
     refine A8 7 9 T35 h1 aV Z f Z Z λaW aX a aY aZ f=> ?_
     subst aZ
     refine A9 8 9 Pl2 aY Z f Z λa f=>A2 λa0 w a1 m=> ?_
     have aM:=Ow.mono (RSl.mono (RI.mono _)) a1 aM
     have m:=m.fr 2
     have⟨a2,a3,aJ⟩:=bind_some aJ
     refine AX f Z call61 (Wk.O m aM a3) λa4 a5 a6 w a7 m a8 a f=> ?_
     obtain⟨a9,rfl,rfl,ba⟩:=a8
     refine AA 1 0 (ds:=[aa]) m sizeOf29 f Z Z Z (Ao (Ow.one1 0 m ba Z) AK) Z (lb Z) Z λw m=>Aa (Aj ?_)
     refine Ab f Z λa f=>Ah f Z Z AB λa f=>Ac f Z λa f=>Aa ?_
     have m:=m.fr 2
     have m:=m.fr 2
     obtain rfl:=sj aJ
     exact⟨_,Z,_,_,Z,_,a9,(gt aL (gt a1 a7)),f.k Z,m,ba⟩
    ·refine Ai f Z aN ?_
     refine AG Z ?_
     obtain rfl:=sj aJ
     obtain rfl:=aK _ rfl
     exact⟨_,Z,_,aH,aL,f.k Z,m,aM⟩
   ·rintro a w ⟨aA,rfl,aB,aC,bb,f,m,bc⟩
    refine Aj ?_
    refine Ab f Z λa f=>Ah f Z Z AB λa f=>Ac f Z λa f=>Aa ?_
    obtain rfl:=sj ar
    exact⟨_,Z,_,_,Z,_,aC,(gt av bb),f.k Z,m,bc⟩
  ·refine Ai f Z ax ?_
   refine AG Z ?_
   obtain rfl:=sj ar
   obtain rfl:=au _ rfl
   exact⟨_,Z,_,ap,av,f.k Z,m,aw⟩
 ·rintro a w ⟨ai,rfl,aj,ak,bd,f,m,be⟩
  refine Ae ?_
  refine AC 0 0 (ds:=[aa]) m Bv f Z Z Z Z Z λa f=>AA 1 0 (ds:=[aa]) m sizeOf29 f Z Z Z (Ao (Ow.one1 2 m be Z) AK) Z (lb Z) Z λw m=>Aa ?_
  refine Ap ?_
  have bf:=CO (P:=prog) 1 m Bv f (s:=4) rfl rfl rfl
  have m:=m.fr 2
  have m:=m.eraseAt 2
  have m:=m.eraseAt 1
  obtain rfl:=sj hd
  exact⟨[(.agg #[aa])],⟨bf,trivial⟩,f.d,_,[ak],bd,m,_,Z,Z,be⟩
theorem Wk.K0 {aa v1:Value}{ab:LL}{x1:LI}(m:Mem W G w (H))(ac:R2 G aa ab)(h1:R1 G v1 x1){y:(LL)}(hd:D.K0 ab x1=some y):
  Calls prog 63 #[(.agg #[aa]),v1] w (Res W G H (λG' Ho v=>∃r0:Value,∃i0:Itm,Ho=[i0]∧v=(.agg #[r0])∧Ow R1 35 G' i0 r0 y)):=by
 refine Au (args:=[(.agg #[aa]),v1]) (N:=35) [.cell 4 29] func63 Z Z (lb Z) Z λa f=> ?_
 unfold D.K0 at hd
 refine Ae ?_
 refine Bo (cs:=[aa]) m f Z Z Z λad w a m f=>Bp (cs:=[sn]) zeroValue29 m f Z Z λae w a m f=>AD ?_
 refine AC 1 0 (ds:=[aa]) m Bv f Z Z Z Z Z λa f=> ?_
 have⟨af,ag,hd⟩:=bind_some hd
 refine AX f Z call91 (Wk.L0 m ac ag) λah ai aj w ak m al a f=> ?_
 obtain⟨am,an,rfl,rfl,ao⟩:=al
 have ac:=rd2 ak ac
 have h1:=rd1 ak h1
 refine Bp (cs:=[sn]) zeroValue29 m f Z Z λap w a m f=>AA 0 0 (ds:=[am]) m sizeOf29 f Z Z Z (Ao (Ow.one1 1 m ao Z) AK) Z (lb Z) Z λw m=>AD ?_
 refine AC 3 0 (ds:=[aa]) m Bv f Z Z Z Z Z λa f=> ?_
 have⟨aq,ar,hd⟩:=bind_some hd
 refine Bd f Z call64 (Wk.f m ac ar) λau w av m a f=> ?_
 have h1:=rd1 av h1
 have ao:=Ow.mono (RSl.mono (RI.mono _)) av ao
 have⟨aw,ax,hd⟩:=bind_some hd
 refine Co (R:=RB) m T105 Z (by decide) Z f Z Z Z ax λay az w a m aA f=>Ac f Z λa f=>Aa (Ag (Ae ?_))
 refine Ac f Z λa f=>Aa ?_
 have⟨aB,aC,hd⟩:=bind_some hd
 refine AM (λa w=>∃aD:LL,aD=aB∧∃(aE:GH) (aF:Itm),GLe au aE∧Fr a 35 [(4,(pb ae)),(5,(pb ap))]∧Mem W aE w (ib ae 29 [sn]::ib ap 29 [am]::aF::H)∧Ow R1 35 aE aF am aD) ?_ ?_
 ·refine Ak ?_
  have m:=m.fr 1
  have m:=m.fr 3
  have m:=m.eraseAt 4
  refine AO (λaG a w=>∃aH:List Bool,∃aI:Int,∃aJ:LL,(aH,aI,aJ)=aG∧∃(aK:GH) (aL:Itm) (aM:Itm),GLe au aK∧Fr a 35 [(1,v1),(4,(pb ae)),(5,(pb ap)),(6,az),(7,(iv aI))]∧Mem W aK w (ib ae 29 [sn]::ib ap 29 [am]::aL::aM::H)∧Ow RB 4 aK aL az aH∧Ow R1 35 aK aM am aJ) aC ⟨_,_,_,Z,_,ay,an,gr,f.k Z,m,aA,ao⟩ ?_
  clear aC f m
  rintro aG aN aO aP a w ⟨aH,aI,aJ,rfl,aK,aL,aM,aQ,f,m,aR,aS⟩
  have h1:=rd1 aQ h1
  refine Ag (Ae ?_)
  refine Ab f Z λa f=>Ab f Z λa f=>AL underlying35 f Z Z h1 λa f=>Ah f Z Z AR λa f=>Aa ?_
  rcases Af aO with⟨aT,aO⟩|⟨aT,aO⟩
  ·refine Al f Z aT ?_
   refine Am ?_
   refine Ag (Ak (Ae ?_))
   refine Ab f Z λa f=>Ab f Z λa f=>Ab f Z λa f=> ?_
   have⟨aU,aV,aO⟩:=bind_some aO
   refine A4 T35 f Z Z Z h1 aV λaW aX a aY aZ f=> ?_
   subst aZ
   refine Ax m Pl2 f Z Z aY λa f=> ?_
   have⟨a2,a3,aO⟩:=bind_some aO
   refine Bi 2 m aR Z T105 f Z Z Z a3 λa4 a a5 f=>BN 2 m aR Z sizeOf4 f Z Z a5 a3 Z Z Z λa6 w m a7=>Aa ?_
   refine Bf 8 AU (by kernel_rfl) m ?_
   refine BE (i:=0) (ds:=[am]) 8 1 Bv Z Z Z Z (by kernel_rfl) Z f Z Z Z λa f=>BE (i:=1) (ds:=[am]) 8 1 Bv Z Z Z Z (by kernel_rfl) Z f Z Z Z λa f=>An 2 8 Z f Z λa f=>An 3 8 Z f Z λa f=> ?_
   have⟨a8,a9,aO⟩:=bind_some aO
   refine A8 4 8 T35 h1 a9 Z f Z Z λba bb a bc bd f=> ?_
   subst bd
   refine A9 5 8 Pl2 bc Z f Z λa f=>An 6 8 Z f Z λa f=>BC 7 Z λbe w bf m bg bg=> ?_
   have a7:=Ow.mono RB.mono bf a7
   have aS:=Ow.mono (RSl.mono (RI.mono _)) bf aS
   have⟨bh,bi,aO⟩:=bind_some aO
   refine AX f Z call65 (Ow.lendCall (RSl.mono (RI.mono _)) 3 aS m Z (λbj bk m bl=>(Ow.lendCall RB.mono 2 (Ow.mono RB.mono bk a7) m Z (λbm bn m bo=>Wk.T m (rd2 bn bl) bo bi) (λ_ G' _ _ ⟨a0,a1,e1,e2,o0⟩=>⟨a0,a1,e1,e2,Ow.free (RI.free _) G' o0⟩))) (λ_ G' _ _ ⟨a0,a1,e1,e2,o0⟩=>⟨a0,a1,e1,e2,Ow.free (RI.free _) G' o0⟩)) λbp bq br w bs m bt a f=> ?_
   obtain⟨bu,bv,rfl,rfl,bw⟩:=bt
   have a7:=Ow.mono RB.mono bs a7
   have aS:=Ow.mono (RSl.mono (RI.mono _)) bs aS
   refine Aa ?_
   refine bg bq [bv] _ _ bs m ?_
   refine A2 λbx w bz m=> ?_
   have bw:=od1 bz bw
   have a7:=Ow.mono RB.mono bz a7
   have aS:=Ow.mono (RSl.mono (RI.mono _)) bz aS
   obtain⟨bA,bB,m,bC⟩:=Ow.stamp (RI.mono _) bw m
   have a7:=Ow.mono RB.mono bB a7
   have aS:=Ow.mono (RSl.mono (RI.mono _)) bB aS
   have m:Mem W bA w (aM::ib ae 29 [sn]::ib ap 29 [am]::a6::H):=m.fr 3
   have⟨bD,bE,aO⟩:=bind_some aO
   refine AX f Z call92 (Wk.g0 m aS bC bE) λbF bG bH w bI m bJ a f=> ?_
   obtain⟨bK,rfl,rfl,bL⟩:=bJ
   have a7:=Ow.mono RB.mono bI a7
   refine AA 2 0 (ds:=[am]) m sizeOf29 f Z Z Z (Ao (Ow.one1 0 m bL Z) AK) Z (lb Z) Z λw m=>Aa (Aj ?_)
   refine Ab f Z λa f=>Ah f Z Z AB λa f=>Ac f Z λa f=>Aa ?_
   have m:=m.fr 3
   have m:=m.fr 3
   have m:Mem W bG w (ib ae 29 [sn]::ib ap 29 [am]::a6::bK::H):=m.fr 3
   obtain rfl:=sj aO
   exact⟨_,Z,_,_,_,Z,_,a6,bK,(gt aQ (gt bf (gt bs (gt bz (gt bB bI))))),f.k Z,m,a7,bL⟩
  ·refine Ai f Z aT ?_
   refine AG Z ?_
   have m:=m.fr 3
   have m:=m.fr 2
   have m:Mem W aK w (ib ae 29 [sn]::ib ap 29 [am]::aM::aL::H):=m.fr 2
   have m:=m.eraseAt 3
   obtain rfl:=sj aO
   obtain rfl:=aP _ rfl
   exact⟨_,Z,_,aM,aQ,f.k Z,m,aS⟩
 ·rintro a w ⟨aD,rfl,aE,aF,bM,f,m,bN⟩
  refine Ae ?_
  refine AC 1 0 (ds:=[am]) m Bv f Z Z Z Z Z λa f=>AA 0 0 (ds:=[am]) m sizeOf29 f Z Z Z (Ao (Ow.one1 2 m bN Z) AK) Z (lb Z) Z λw m=>Aa ?_
  refine Ap ?_
  have bO:=CO (P:=prog) 0 m Bv f (s:=4) rfl rfl rfl
  have m:=m.fr 2
  have m:=m.eraseAt 2
  have m:=m.eraseAt 1
  obtain rfl:=sj hd
  exact⟨[(.agg #[am])],⟨bO,trivial⟩,f.d,_,[aF],(gt ak (gt av bM)),m,_,_,Z,Z,bN⟩
end Go.Proofs.YteijfbpfjjjedaaGreatDoor

set_option maxRecDepth 100000
namespace Go.Proofs.YteijfbpfjjjedaaGreatDoor
open Go Go.Sx
open Go.Proofs.Tryz Go.Proofs.YteijfbpfjjjedaaGreatDoor.Tryz IntKind
variable {W w : World} {G : GH} {H : List Itm}
theorem Ag32 :Agg prog 32 2:=⟨isAgg32,sizeOf32⟩
theorem T62 :SlT prog 62 69 1 4 (.int .u32 0):=⟨underlying62,Tryz.t69,by kernel_rfl,by kernel_rfl,by kernel_rfl,by kernel_rfl⟩
theorem BM :BS prog 69:=isAgg69
theorem T60 :SlT prog 60 69 1 4 (.int .u32 0):=⟨underlying60,Tryz.t69,by kernel_rfl,by kernel_rfl,by kernel_rfl,by kernel_rfl⟩
theorem T89 :SlT prog 89 3 1 8 (iv 0):=⟨underlying89,Tryz.t3,by kernel_rfl,by kernel_rfl,by kernel_rfl,by kernel_rfl⟩
theorem Wk.o0 {aa v1:Value}{ab:LL}{x1:LI}(m:Mem W G w (H))(ac:R2 G aa ab)(h1:R1 G v1 x1){y:(LL)}(hd:D.o0 ab x1=some y):
  Calls prog 18 #[(.agg #[aa]),v1] w (Res W G H (λG' Ho v=>∃r0:Value,∃i0:Itm,Ho=[i0]∧r0=v∧Ow R1 35 G' i0 r0 y)):=by
 refine Au (args:=[(.agg #[aa]),v1]) (N:=44) [.tmp 4] func18 Z Z (lb Z) Z λa f=> ?_
 unfold D.o0 at hd
 refine Ae ?_
 refine Bo (cs:=[aa]) m f Z Z Z λad w a m f=>Ac f Z λa f=>AD ?_
 refine AC 0 0 (ds:=[aa]) m Bv f Z Z Z Z Z λa f=>Ab f Z λa f=> ?_
 have⟨ae,af,hd⟩:=bind_some hd
 refine AX f Z call63 (Wk.K0 m ac h1 af) λag ah ai w aj m ak a f=> ?_
 obtain⟨al,am,rfl,rfl,an⟩:=ak
 have ac:=rd2 aj ac
 have h1:=rd1 aj h1
 refine Bp (cs:=[sn]) zeroValue29 m f Z Z λao w a m f=>AA 0 0 (ds:=[al]) m sizeOf29 f Z Z Z (Ao (Ow.one1 1 m an Z) AK) Z (lb Z) Z λw m=>AD ?_
 refine AC 2 0 (ds:=[aa]) m Bv f Z Z Z Z Z λa f=> ?_
 have⟨ap,aq,hd⟩:=bind_some hd
 refine Bd f Z call64 (Wk.f m ac aq) λar w au m a f=> ?_
 have ac:=rd2 au ac
 have h1:=rd1 au h1
 have an:=Ow.mono (RSl.mono (RI.mono _)) au an
 have⟨av,aw,hd⟩:=bind_some hd
 refine Co (R:=RB) m T105 Z (by decide) Z f Z Z Z aw λax ay w a m az f=>Ac f Z λa f=>AD ?_
 refine AC 3 0 (ds:=[aa]) m Bv f Z Z Z Z Z λa f=> ?_
 have⟨aA,aB,hd⟩:=bind_some hd
 refine Bd f Z call64 (Wk.f m ac aB) λaC w aD m a f=> ?_
 have h1:=rd1 aD h1
 have az:=Ow.mono RB.mono aD az
 have an:=Ow.mono (RSl.mono (RI.mono _)) aD an
 have⟨aE,aF,hd⟩:=bind_some hd
 refine Co (R:=R1) m T27 Z (by decide) (RSl.nil R0 aC) f Z Z Z aF λaG aH w a m aI f=>Ac f Z λa f=>Aa (Ag (Ae ?_))
 refine Ac f Z λa f=>Aa ?_
 have⟨aJ,aK,hd⟩:=bind_some hd
 refine AM (λa w=>∃aL:LL,aL=aJ∧∃(aM:GH) (aN:Itm),GLe aC aM∧Fr a 44 [(7,aH)]∧Mem W aM w (aN::H)∧Ow R1 35 aM aN aH aL) ?_ ?_
 ·refine Ak ?_
  have m:=m.fr 1
  have m:=m.fr 2
  have m:=m.eraseAt 4
  refine AO (λaO a w=>∃aP:List Bool,∃aQ:LL,∃aR:Int,(aP,aQ,aR)=aO∧∃(aS:GH) (aT:Itm) (aU:Itm),GLe aC aS∧Fr a 44 [(1,v1),(5,(pb ao)),(6,ay),(7,aH),(8,(iv aR))]∧Mem W aS w (ib ao 29 [al]::aT::aU::am::H)∧Ow RB 4 aS aT ay aP∧Ow R1 35 aS aU aH aQ) aK ⟨_,_,_,Z,_,ax,aG,gr,f.k Z,m,az,aI⟩ ?_
  clear aK f m
  rintro aO aV aW aX a w ⟨aP,aQ,aR,rfl,aS,aT,aU,aY,f,m,aZ,a2⟩
  have h1:=rd1 aY h1
  have an:=Ow.mono (RSl.mono (RI.mono _)) aY an
  refine Ag (Ae ?_)
  refine Ab f Z λa f=>Ab f Z λa f=>AL underlying35 f Z Z h1 λa f=>Ah f Z Z AR λa f=>Aa ?_
  rcases Af aW with⟨a3,aW⟩|⟨a3,aW⟩
  ·refine Al f Z a3 ?_
   refine Am ?_
   refine Ag (Ak (Ae ?_))
   refine Ab f Z λa f=>Ab f Z λa f=>Ab f Z λa f=> ?_
   have⟨a4,a5,aW⟩:=bind_some aW
   refine A4 T35 f Z Z Z h1 a5 λa6 a7 a a8 a9 f=> ?_
   subst a9
   refine Ax m Pl2 f Z Z a8 λa f=> ?_
   have⟨ba,bb,aW⟩:=bind_some aW
   refine Bi 1 m aZ Z T105 f Z Z Z bb λbc a bd f=>BN 1 m aZ Z sizeOf4 f Z Z bd bb Z Z Z λbe w m bf=>Aa ?_
   refine Bf 13 AU (by kernel_rfl) m ?_
   refine An 0 13 Z f Z λa f=>An 1 13 Z f Z λa f=>An 2 13 Z f Z λa f=> ?_
   have⟨bg,bh,aW⟩:=bind_some aW
   refine A8 3 13 T35 h1 bh Z f Z Z λbi bj a bk bl f=> ?_
   subst bl
   refine A9 4 13 Pl2 bk Z f Z λa f=>BE (i:=5) (ds:=[al]) 13 0 Bv Z Z Z Z (by kernel_rfl) Z f Z Z Z λa f=>An 6 13 Z f Z λa f=>An 7 13 Z f Z λa f=> ?_
   have⟨bm,bn,aW⟩:=bind_some aW
   refine A8 8 13 T35 h1 bn Z f Z Z λbo bp a bq br f=> ?_
   subst br
   refine A9 9 13 Pl2 bq Z f Z λa f=>An 10 13 Z f Z λa f=>BC 11 Z λbs w bt m bu bu=> ?_
   have bf:=Ow.mono RB.mono bt bf
   have a2:=Ow.mono (RSl.mono (RI.mono _)) bt a2
   have an:=Ow.mono (RSl.mono (RI.mono _)) bt an
   have⟨bv,bw,aW⟩:=bind_some aW
   refine AX f Z call65 (Ow.lendCall (RSl.mono (RI.mono _)) 3 an m Z (λbx bz m bA=>(Ow.lendCall RB.mono 1 (Ow.mono RB.mono bz bf) m Z (λbB bC m bD=>Wk.T m (rd2 bC bA) bD bw) (λ_ G' _ _ ⟨a0,a1,e1,e2,o0⟩=>⟨a0,a1,e1,e2,Ow.free (RI.free _) G' o0⟩))) (λ_ G' _ _ ⟨a0,a1,e1,e2,o0⟩=>⟨a0,a1,e1,e2,Ow.free (RI.free _) G' o0⟩)) λbE bF bG w bH m bI a f=> ?_
   obtain⟨bJ,bK,rfl,rfl,bL⟩:=bI
   have bf:=Ow.mono RB.mono bH bf
   have a2:=Ow.mono (RSl.mono (RI.mono _)) bH a2
   refine Aa ?_
   refine bu bF [bK] _ _ bH m ?_
   have⟨bM,bN,aW⟩:=bind_some aW
   refine Dp 12 13 3 m a2 T27 bN Z f Z Z λbO a bP f=>A2 λbQ w bR m=> ?_
   have bL:=od1 bR bL
   have bf:=Ow.mono RB.mono bR bf
   have a2:=Ow.mono (RSl.mono (RI.mono _)) bR a2
   obtain⟨bS,bT,m,bU⟩:=Ow.stamp (RI.mono _) bL m
   have bf:=Ow.mono RB.mono bT bf
   have a2:=Ow.mono (RSl.mono (RI.mono _)) bT a2
   refine BN 2 m a2 Z sizeOf35 f Z Z bP bN bU.cells bU.one1 bU λbV w m bW=>Aa (Aj ?_)
   refine Ab f Z λa f=>Ah f Z Z AB λa f=>Ac f Z λa f=>Aa ?_
   obtain rfl:=sj aW
   exact⟨_,Z,_,_,_,Z,_,be,bV,(gt aY (gt bt (gt bH (gt bR bT)))),f.k Z,m,bf,bW⟩
  ·refine Ai f Z a3 ?_
   refine AG Z ?_
   have m:=m.fr 2
   have m:=m.fr 3
   have m:Mem W aS w (aT::am::aU::ib ao 29 [al]::H):=m.fr 3
   have m:=m.fr 2
   have m:=m.eraseAt 3
   have m:Mem W aS w (aU::aT::H):=m.eraseAt 2
   have m:=m.eraseAt 1
   obtain rfl:=sj aW
   obtain rfl:=aX _ rfl
   exact⟨_,Z,_,aU,aY,f.k Z,m,a2⟩
 ·rintro a w ⟨aL,rfl,aM,aN,bX,f,m,bY⟩
  refine Ae ?_
  refine Ab f Z λa f=>Ac f Z λa f=>Aa ?_
  refine Ap ?_
  obtain rfl:=sj hd
  exact⟨[aH],f.g Z,f.d,_,[aN],(gt aj (gt au (gt aD bX))),m,_,_,Z,Z,bY⟩
theorem Wk.C0 {x0 x1:Int}(m:Mem W G w (H)){y:Int}(hd:D.C0 x0 x1=some y):
  Calls prog 66 #[(iv x0),(iv x1)] w (Res W G H (λ_ Ho v=>Ho=[]∧v=(iv y))):=by
 refine Au (args:=[(iv x0),(iv x1)]) (N:=10) [.tmp 4] func66 Z Z (lb Z) Z λa f=> ?_
 unfold D.C0 at hd
 refine Ae ?_
 refine Ac f Z λa f=>Aa (Ag (Ae ?_))
 refine Ab f Z λa f=>Ab f Z λa f=>Ah f Z Z AR λa f=>Aa ?_
 rcases Af hd with⟨aa,hd⟩|⟨aa,hd⟩
 ·refine Al f Z aa ?_
  refine Ae ?_
  refine Ab f Z λa f=>Ac f Z λa f=>Aa ?_
  refine Ap ?_
  obtain rfl:=sj hd
  exact⟨[(iv x0)],f.g Z,f.d,_,[],gr,m,Z,Z⟩
 ·refine Ai f Z aa ?_
  refine Am ?_
  refine Ae ?_
  refine Ab f Z λa f=>Ac f Z λa f=>Aa ?_
  refine Ap ?_
  obtain rfl:=sj hd
  exact⟨[(iv x1)],f.g Z,f.d,_,[],gr,m,Z,Z⟩
theorem Wk.J0 {x0 x1:Int}(m:Mem W G w (H)){y:Int}(hd:D.J0 x0 x1=some y):
  Calls prog 67 #[(iv x0),(iv x1)] w (Res W G H (λ_ Ho v=>Ho=[]∧v=(iv y))):=by
 refine Au (args:=[(iv x0),(iv x1)]) (N:=10) [.tmp 4] func67 Z Z (lb Z) Z λa f=> ?_
 unfold D.J0 at hd
 refine Ae ?_
 refine Ac f Z λa f=>Aa (Ag (Ae ?_))
 refine Ab f Z λa f=>Ab f Z λa f=>Ah f Z Z Cz λa f=>Aa ?_
 rcases Af hd with⟨aa,hd⟩|⟨aa,hd⟩
 ·refine Al f Z aa ?_
  refine Ae ?_
  refine Ab f Z λa f=>Ac f Z λa f=>Aa ?_
  refine Ap ?_
  obtain rfl:=sj hd
  exact⟨[(iv x0)],f.g Z,f.d,_,[],gr,m,Z,Z⟩
 ·refine Ai f Z aa ?_
  refine Am ?_
  refine Ae ?_
  refine Ab f Z λa f=>Ac f Z λa f=>Aa ?_
  refine Ap ?_
  obtain rfl:=sj hd
  exact⟨[(iv x1)],f.g Z,f.d,_,[],gr,m,Z,Z⟩
theorem Wk.Q {v0 v1:Value}{x0 x1:LI}(m:Mem W G w (H))(h0:R1 G v0 x0)(h1:R1 G v1 x1){y:Bool}(hd:D.Q x0 x1=some y):
  Calls prog 68 #[v0,v1] w (Res W G H (λ_ Ho v=>Ho=[]∧v=(.bool y))):=by
 refine Au (args:=[v0,v1]) (N:=40) [.tmp 4] func68 Z Z (lb Z) Z λa f=> ?_
 unfold D.Q at hd
 refine Ae ?_
 refine Ac f Z λa f=>Aa (Ag (Ae ?_))
 refine Ab f Z λa f=>AL underlying35 f Z Z h0 λa f=>Ab f Z λa f=>AL underlying35 f Z Z h1 λa f=>Ah f Z Z Cm λa f=>Aa ?_
 rcases Af hd with⟨aa,hd⟩|⟨aa,hd⟩
 ·refine Al f Z aa ?_
  refine Ae ?_
  refine Ab f Z λa f=>AL underlying35 f Z Z h0 λa f=>Ab f Z λa f=>AL underlying35 f Z Z h1 λa f=>Ah f Z Z AR λa f=>Ac f Z λa f=>Aa ?_
  refine Ap ?_
  obtain rfl:=sj hd
  exact⟨[(.bool (decide ((x0.length:Int)<(x1.length:Int))))],f.g Z,f.d,_,[],gr,m,Z,Z⟩
 ·refine Ai f Z aa ?_
  refine Am ?_
  refine Ag (Ae ?_)
  refine Ac f Z λa f=>Aa ?_
  have⟨ab,ac,hd⟩:=bind_some hd
  refine AM (λa w=>∃q_64':Unit,ab= .inl q_64'∧∃(ad:GH),GLe G ad∧Fr a 40 []∧Mem W ad w (H)) ?_ ?_
  ·refine Ak ?_
   refine AO (λae a w=>∃af:Int,af=ae∧∃(ag:GH),GLe G ag∧Fr a 40 [(0,v0),(1,v1),(5,(iv af))]∧Mem W ag w (H)) ac ⟨_,Z,_,gr,f.k Z,m⟩ ?_
   clear ac f m
   rintro ae ah ai aj a w ⟨af,rfl,ag,ak,f,m⟩
   have h0:=rd1 ak h0
   have h1:=rd1 ak h1
   refine Ag (Ae ?_)
   refine Ab f Z λa f=>Ab f Z λa f=>AL underlying35 f Z Z h0 λa f=>Ah f Z Z AR λa f=>Aa ?_
   rcases Af ai with⟨al,ai⟩|⟨al,ai⟩
   ·refine Al f Z al ?_
    refine Am ?_
    refine Ag (Ak (Ag ?_))
    refine Bf 9 AU (by kernel_rfl) m ?_
    refine An 0 9 Z f Z λa f=>An 1 9 Z f Z λa f=> ?_
    have⟨am,an,ai⟩:=bind_some ai
    refine A8 2 9 T35 h0 an Z f Z Z λao ap a aq ar f=> ?_
    subst ar
    refine A9 3 9 Pl2 aq Z f Z λa f=>An 4 9 Z f Z λa f=>An 5 9 Z f Z λa f=> ?_
    have⟨au,av,ai⟩:=bind_some ai
    refine A8 6 9 T35 h1 av Z f Z Z λaw ax a ay az f=> ?_
    subst az
    refine A9 7 9 Pl2 ay Z f Z λa f=>q_p 8 9 Z f (λ_=>Bn (f.e Z) (f.e Z) Cm) λa f=>A2 λaA w aB m=> ?_
    have h0:=rd1 aB h0
    have h1:=rd1 aB h1
    refine Aa ?_
    rcases Af ai with⟨aC,ai⟩|⟨aC,ai⟩
    ·refine Al f Z aC ?_
     refine Ag ?_
     refine Bf 10 AU (by kernel_rfl) m ?_
     refine An 0 10 Z f Z λa f=>An 1 10 Z f Z λa f=> ?_
     have⟨aD,aE,ai⟩:=bind_some ai
     refine A8 2 10 T35 h0 aE Z f Z Z λaF aG a aH aI f=> ?_
     subst aI
     refine A9 3 10 Pl2 aH Z f Z λa f=>An 4 10 Z f Z λa f=>An 5 10 Z f Z λa f=> ?_
     have⟨aJ,aK,ai⟩:=bind_some ai
     refine A8 6 10 T35 h1 aK Z f Z Z λaL aM a aN aO f=> ?_
     subst aO
     refine A9 7 10 Pl2 aN Z f Z λa f=>q_p 8 10 Z f (λ_=>Bn (f.e Z) (f.e Z) AR) λa f=>q_p 9 10 Z f (λ_=>Bs (f.e Z)) λa f=>A2 λaP w aQ m=>Aa ?_
     refine Ap ?_
     obtain rfl:=sj ai
     obtain rfl:=aj _ rfl
     obtain rfl:=sj hd
     exact⟨[(.bool (decide (aD<aJ)))],f.g Z,f.d,_,[],(gt ak (gt aB aQ)),m,Z,Z⟩
    ·refine Ai f Z aC ?_
     refine Am ?_
     refine Aj ?_
     refine Ab f Z λa f=>Ah f Z Z AB λa f=>Ac f Z λa f=>Aa ?_
     obtain rfl:=sj ai
     exact⟨_,Z,_,Z,_,(gt ak aB),f.k Z,m⟩
   ·refine Ai f Z al ?_
    refine AG Z ?_
    obtain rfl:=sj ai
    obtain rfl:=aj _ rfl
    exact⟨_,Z,_,ak,f.weak trivial,m⟩
  ·rintro a w ⟨_,rfl,ad,aR,f,m⟩
   refine Ae ?_
   refine Ac f Z λa f=>Aa ?_
   refine Ap ?_
   obtain rfl:=sj hd
   exact⟨[(.bool false)],f.g Z,f.d,_,[],aR,m,Z,Z⟩
theorem Wk.Q0 {v0:Value}{x0:LL}{x1 x2:Int}(m:Mem W G w (H))(h0:R2 G v0 x0){y:(LL)}(hd:D.Q0 x0 x1 x2=some y):
  Calls prog 22 #[v0,(iv x1),(iv x2)] w (Res W G H (λG' Ho v=>∃r0:Value,∃i0:Itm,Ho=[i0]∧r0=v∧Ow R1 35 G' i0 r0 y)):=by
 refine Au (args:=[v0,(iv x1),(iv x2)]) (N:=53) [.tmp 6] func22 Z Z (lb Z) Z λa f=> ?_
 unfold D.Q0 at hd
 refine Ae ?_
 refine Ac f Z λa f=>AD ?_
 refine Ab f Z λa f=>Ab f Z λa f=> ?_
 have⟨aa,ab,hd⟩:=bind_some hd
 refine Bd f Z call66 (Wk.C0 m ab) λac w ad m a f=> ?_
 have h0:=rd2 ad h0
 refine Ab f Z λa f=>Ab f Z λa f=> ?_
 have⟨ae,af,hd⟩:=bind_some hd
 refine Bd f Z call67 (Wk.J0 m af) λag w ah m a f=> ?_
 have h0:=rd2 ah h0
 refine A7 (R:=R0) (xs:=([aa,ae]:LI)) (RI.one _) m T35 f Z Z Z (by decide) (All2.cons Z (All2.cons Z (All2.nil _))) λai aj w a m ak f=>Ac f Z λa f=>AD ?_
 refine A7 (R:=R1) (xs:=([]:LL)) (RSl.one _) m T27 f Z Z Z (by decide) (All2.nil _) λal am w a m an f=>Ac f Z λa f=>AD ?_
 refine Ac f Z λa f=>Aa (Ag (Ae ?_))
 refine Ac f Z λa f=>Aa ?_
 have m:=m.fr 1
 obtain⟨ao,ap,m,aq⟩:=Ow.stamp (RI.mono _) ak m
 have h0:=rd2 ap h0
 have an:=Ow.mono (RSl.mono (RI.mono _)) ap an
 have⟨ar,au,hd⟩:=bind_some hd
 refine AM (λa w=>∃av:LI,∃aw:LL,∃ax:Bool,(av,aw,ax)=ar∧∃(ay:GH) (az:Value) (aA:Value) (aB:Itm),GLe ao ay∧Fr a 53 [(7,az),(8,aA),(9,(.bool ax))]∧Mem W ay w (aB::H)∧R1 ay az av∧Ow R1 35 ay aB aA aw) ?_ ?_
 ·refine Ak ?_
  refine AO (λaC a w=>∃aD:LI,∃aE:LL,∃aF:Bool,∃aG:Int,(aD,aE,aF,aG)=aC∧∃(aH:GH) (aI:Value) (aJ:Value) (aK:Itm),GLe ao aH∧Fr a 53 [(0,v0),(7,aI),(8,aJ),(9,(.bool aF)),(10,(iv aG))]∧Mem W aH w (aK::H)∧R1 aH aI aD∧Ow R1 35 aH aK aJ aE) au ⟨_,_,_,_,Z,_,aj,am,al,gr,f.k Z,m,aq,an⟩ ?_
  clear au f m
  rintro aC aL aM aN a w ⟨aD,aE,aF,aG,rfl,aH,aI,aJ,aK,aO,f,m,aP,aQ⟩
  have h0:=rd2 aO h0
  refine Ag (Ae ?_)
  refine Ab f Z λa f=>Ab f Z λa f=>AL underlying27 f Z Z h0 λa f=>Ah f Z Z AR λa f=>Aa ?_
  rcases Af aM with⟨aR,aM⟩|⟨aR,aM⟩
  ·refine Al f Z aR ?_
   refine Am ?_
   refine Ag (Ak (Ag (Ae ?_)))
   refine Ab f Z λa f=>l_o f (By (f.e Z)) λa f=>Ab f Z λa f=> ?_
   have⟨aS,aT,aM⟩:=bind_some aM
   refine Bx 7 (λa w=>∃aU,GLe aH aU∧Mem W aU w (aK::H)∧Fr a 53 [(0,v0),(7,aI),(8,aJ),(9,(.bool aF)),(10,(iv aG)),(22,(.bool (decide (aG<(x0.length:Int))))),(25,(.bool aF)),(26,(.bool (!aF))),(27,(.bool (!aF))),(34,(.bool aS))]) ?_ ?_
   ·rcases Af aT with⟨aV,aT⟩|⟨aV,aT⟩
    ·refine Aq f aV ?_
     refine Ab f Z λa f=>Aq f aV ?_
     refine Ab f Z λa f=>Aq f aV ?_
     refine Ab f Z λa f=>Aq f aV ?_
     have⟨aW,aX,aT⟩:=bind_some aT
     refine A4 T27 f Z Z Z h0 aX λaY aZ a a0 a1 f=>Aq f aV ?_
     refine Ax m Ba f Z Z a0 λa f=>Aq f aV ?_
     have⟨a2,a3,aT⟩:=bind_some aT
     refine Bd f Z call68 (Wk.Q m aP a1 a3) λa4 w a5 m a f=>l_o f (AI (f.e Z) aV (f.e Z)) λa f=> ?_
     obtain rfl:=sj aT
     exact⟨_,a5,m,f.k Z⟩
    ·refine Ar f aV λa f=> ?_
     refine Ar f aV λa f=>Ar f aV λa f=>Ar f aV λa f=>Ar f aV λa f=>Ar f aV λa f=>l_o f (AJ (f.e Z) aV (f.e Z)) λa f=> ?_
     obtain rfl:=sj aT
     exact⟨_,gr,m,f.k Z⟩
   ·rintro a w ⟨aU,a6,m,f⟩
    have h0:=rd2 a6 h0
    have aP:=rd1 a6 aP
    have aQ:=Ow.mono (RSl.mono (RI.mono _)) a6 aQ
    refine Aa ?_
    rcases Af aM with⟨a7,aM⟩|⟨a7,aM⟩
    ·refine Al f Z a7 ?_
     refine Ae ?_
     refine Ab f Z λa f=>Ab f Z λa f=>A7 (R:=R1) (xs:=([aD]:LL)) (RSl.one _) m T27 f Z Z Z (by decide) (All2.cons aP (All2.nil _)) λa8 a9 w a m ba f=> ?_
     have⟨bb,bc,aM⟩:=bind_some aM
     refine Bh (RSl.one _) 1 m aQ Z T27 Z (by decide) f Z Z Z (Ow.src (j:=0) ba m Z) bc λbd be w a m bf f=>Ac f Z λa f=>Aa (Aj ?_)
     refine Ac f Z λa f=>Aa (Aj ?_)
     refine Ab f Z λa f=>Ab f Z λa f=>Ab f Z λa f=> ?_
     have⟨bg,bh,aM⟩:=bind_some aM
     refine A4 T27 f Z Z Z h0 bh λbi bj a bk bl f=>Ax m Ba f Z Z bk λa f=>A7 (R:=R1) (xs:=([bg]:LL)) (RSl.one _) m T27 f Z Z Z (by decide) (All2.cons bl (All2.nil _)) λbm bn w a m bo f=> ?_
     have⟨bp,bq,aM⟩:=bind_some aM
     refine Bh (RSl.one _) 2 m bf Z T27 Z (by decide) f Z Z Z (Ow.src (j:=0) bo m Z) bq λbr bs w a m bt f=>Ac f Z λa f=>Aa (Aj ?_)
     refine Ab f Z λa f=>Ah f Z Z AB λa f=>Ac f Z λa f=>Aa ?_
     have m:=m.fr 2
     have m:=m.eraseAt 2
     have m:=m.eraseAt 1
     obtain rfl:=sj aM
     exact⟨_,Z,_,_,_,_,Z,_,aI,bs,br,(gt aO a6),f.k Z,m,aP,bt⟩
    ·refine Ai f Z a7 ?_
     refine Am ?_
     refine Aj ?_
     refine Ab f Z λa f=>Ab f Z λa f=>Ab f Z λa f=> ?_
     have⟨bu,bv,aM⟩:=bind_some aM
     refine A4 T27 f Z Z Z h0 bv λbw bx a bz bA f=>Ax m Ba f Z Z bz λa f=>A7 (R:=R1) (xs:=([bu]:LL)) (RSl.one _) m T27 f Z Z Z (by decide) (All2.cons bA (All2.nil _)) λbB bC w a m bD f=> ?_
     have⟨bE,bF,aM⟩:=bind_some aM
     refine Bh (RSl.one _) 1 m aQ Z T27 Z (by decide) f Z Z Z (Ow.src (j:=0) bD m Z) bF λbG bH w a m bI f=>Ac f Z λa f=>Aa (Aj ?_)
     refine Ab f Z λa f=>Ah f Z Z AB λa f=>Ac f Z λa f=>Aa ?_
     have m:=m.fr 1
     have m:=m.eraseAt 1
     obtain rfl:=sj aM
     exact⟨_,Z,_,_,_,_,Z,_,aI,bH,bG,(gt aO a6),f.k Z,m,aP,bI⟩
  ·refine Ai f Z aR ?_
   refine AG Z ?_
   obtain rfl:=sj aM
   obtain rfl:=aN _ rfl
   exact⟨_,_,_,Z,_,aI,aJ,aK,aO,f.k Z,m,aP,aQ⟩
 ·rintro a w ⟨av,aw,ax,rfl,ay,az,aA,aB,bJ,f,m,bK,bL⟩
  refine Ag (Ae ?_)
  refine Ab f Z λa f=>l_o f (By (f.e Z)) λa f=>Aa ?_
  rcases Af hd with⟨bM,hd⟩|⟨bM,hd⟩
  ·refine Al f Z bM ?_
   refine Aj ?_
   refine Ab f Z λa f=>Ab f Z λa f=>A7 (R:=R1) (xs:=([av]:LL)) (RSl.one _) m T27 f Z Z Z (by decide) (All2.cons bK (All2.nil _)) λbN bO w a m bP f=> ?_
   have⟨bQ,bR,hd⟩:=bind_some hd
   refine Bh (RSl.one _) 1 m bL Z T27 Z (by decide) f Z Z Z (Ow.src (j:=0) bP m Z) bR λbS bT w a m bU f=>Ac f Z λa f=>AD ?_
   refine Ab f Z λa f=>Ac f Z λa f=>Aa ?_
   refine Ap ?_
   have m:=m.fr 1
   have m:=m.eraseAt 1
   obtain rfl:=sj hd
   exact⟨[bT],f.g Z,f.d,_,[bS],(gt ad (gt ah (gt ap bJ))),m,_,_,Z,Z,bU⟩
  ·refine Ai f Z bM ?_
   refine Am ?_
   refine Ae ?_
   refine Ab f Z λa f=>Ac f Z λa f=>Aa ?_
   refine Ap ?_
   obtain rfl:=sj hd
   exact⟨[aA],f.g Z,f.d,_,[aB],(gt ad (gt ah (gt ap bJ))),m,_,_,Z,Z,bL⟩
theorem Wk.R {aa v1:Value}{ab:LL}{x1:LI}(m:Mem W G w (H))(ac:R2 G aa ab)(h1:R1 G v1 x1){y:(LL)×(LL)×Bool}(hd:D.R ab x1=some y):
  Calls prog 7 #[(.agg #[aa]),v1] w (Res W G H (λG' Ho v=>∃r0:Value,∃i0:Itm,∃r2:Value,∃i2:Itm,Ho=[i0,i2]∧v= .tuple #[(.agg #[r0,r2]),(.bool y.2.2)]∧Ow R1 35 G' i0 r0 y.1∧Ow R1 35 G' i2 r2 y.2.1)):=by
 refine Au (args:=[(.agg #[aa]),v1]) (N:=78) [.cell 4 32,.tmp 5] func7 Z Z (lb Z) Z λa f=> ?_
 unfold D.R at hd
 refine Ae ?_
 refine Bo (cs:=[aa]) m f Z Z Z λad w a m f=>Bp (cs:=[sn,sn]) zeroValue32 m f Z Z λae w a m f=>Ac f Z λa f=>Aa (Ag (Ae ?_))
 refine AC 1 0 (ds:=[aa]) m Bv f Z Z Z Z Z λa f=>Ab f Z λa f=> ?_
 have⟨af,ag,hd⟩:=bind_some hd
 refine Bd f Z call17 (Wk.r0 m ac h1 ag) λah w ai m a f=> ?_
 have ac:=rd2 ai ac
 have h1:=rd1 ai h1
 refine l_o f (By (f.e Z)) λa f=>Aa ?_
 rcases Af hd with⟨aj,hd⟩|⟨aj,hd⟩
 ·refine Al f Z aj ?_
  refine Ae ?_
  have ak:∀w,(Instr.build 32 #[]).run prog w= .ok (.agg #[sn,sn]) w:=by intro w;simp[Instr.build,Instr.fill,BX,BQ,BD,BI,BA,BW,BP]
  refine CS f Z Z ak λa f=>AA 0 0 (ds:=[sn,sn]) m sizeOf32 f Z Z Z (Ao Z (Ao Z AK)) Z (lb Z) Z λw m=>Ac f Z λa f=>Aa ?_
  refine Ap ?_
  obtain⟨al,m,am⟩:=Ow.nil R1 35 m
  obtain⟨an,m,ao⟩:=Ow.nil R1 35 m
  have ap:=CO (P:=prog) 2 m Ag32 f (s:=4) rfl rfl rfl
  have m:=m.fr 1
  have m:=m.eraseAt 3
  have m:=m.eraseAt 2
  obtain rfl:=sj hd
  exact⟨[(.agg #[sn,sn]),(.bool false)],⟨ap,f.get _ _ Z,trivial⟩,f.d,_,[al,an],ai,m,_,_,_,_,Z,Z,am,ao⟩
 ·refine Ai f Z aj ?_
  refine Am ?_
  refine Ae ?_
  refine AC 1 0 (ds:=[aa]) m Bv f Z Z Z Z Z λa f=>Ab f Z λa f=> ?_
  have⟨aq,ar,hd⟩:=bind_some hd
  refine AX f Z call18 (Wk.o0 m ac h1 ar) λau av aw w ax m ay a f=> ?_
  obtain⟨az,aA,rfl,rfl,aB⟩:=ay
  have h1:=rd1 ax h1
  refine Ac f Z λa f=>AD ?_
  have aC:∀w,(Instr.build 32 #[]).run prog w= .ok (.agg #[sn,sn]) w:=by intro w;simp[Instr.build,Instr.fill,BX,BQ,BD,BI,BA,BW,BP]
  refine CS f Z Z aC λa f=>Bp (cs:=[sn,sn]) zeroValue32 m f Z Z λaD w a m f=>AA 0 0 (ds:=[sn,sn]) m sizeOf32 f Z Z Z (Ao Z (Ao Z AK)) Z (lb Z) Z λw m=>AD ?_
  refine Ab f Z λa f=>AL underlying35 f Z Z h1 λa f=>Ac f Z λa f=>Aa (Ag (Ae ?_))
  refine Ac f Z λa f=>Aa ?_
  obtain⟨aE,m,aF⟩:=Ow.nil R1 35 m
  obtain⟨aG,m,aH⟩:=Ow.nil R1 35 m
  have⟨aI,aJ,hd⟩:=bind_some hd
  refine AM (λa w=>∃aK:LL,∃aL:LL,(aK,aL)=aI∧∃(aM:GH) (aN:Value) (aO:Itm) (aP:Value) (aQ:Itm),GLe av aM∧Fr a 78 [(4,(pb ae)),(7,(pb aD))]∧Mem W aM w (ib ae 32 [sn,sn]::ib aD 32 [aN,aP]::aO::aQ::H)∧Ow R1 35 aM aO aN aK∧Ow R1 35 aM aQ aP aL) ?_ ?_
  ·refine Ak ?_
   have m:=m.fr 1
   have m:=m.fr 3
   have m:Mem W av w (ib aD 32 [sn,sn]::aA::aE::aG::ib ae 32 [sn,sn]::ib ad 29 [aa]::H):=m.fr 3
   have m:=m.fr 4
   have m:Mem W av w (ib ae 32 [sn,sn]::ib aD 32 [sn,sn]::aA::aE::aG::H):=m.eraseAt 5
   refine AO (λaR a w=>∃aS:Int,∃aT:LL,∃aU:LL,(aS,aT,aU)=aR∧∃(aV:GH) (aW:Value) (aX:Itm) (aY:Value) (aZ:Itm),GLe av aV∧Fr a 78 [(1,v1),(4,(pb ae)),(6,az),(7,(pb aD)),(8,(iv (x1.length:Int))),(9,(iv aS))]∧Mem W aV w (ib ae 32 [sn,sn]::ib aD 32 [aW,aY]::aA::aX::aZ::H)∧Ow R1 35 aV aX aW aT∧Ow R1 35 aV aZ aY aU) aJ ⟨_,_,_,Z,_,sn,aE,sn,aG,gr,f.k Z,m,aF,aH⟩ ?_
   clear aJ f m
   rintro aR a0 a1 a2 a w ⟨aS,aT,aU,rfl,aV,aW,aX,aY,aZ,a3,f,m,a4,a5⟩
   have h1:=rd1 a3 h1
   have aB:=Ow.mono (RSl.mono (RI.mono _)) a3 aB
   refine Ag (Ae ?_)
   refine Ab f Z λa f=>Ab f Z λa f=>Ah f Z Z AR λa f=>Aa ?_
   rcases Af a1 with⟨a6,a1⟩|⟨a6,a1⟩
   ·refine Al f Z a6 ?_
    refine Am ?_
    refine Ag (Ak (Ae ?_))
    refine Ab f Z λa f=>Ab f Z λa f=>Ab f Z λa f=> ?_
    have⟨a7,a8,a1⟩:=bind_some a1
    refine A4 T35 f Z Z Z h1 a8 λa9 ba a bb bc f=> ?_
    subst bc
    refine Ax m Pl2 f Z Z bb λa f=> ?_
    have⟨bd,be,a1⟩:=bind_some a1
    refine Bi 2 m aB Z T27 f Z Z Z be λbf a bg f=>Bk 2 m aB Z Ba f Z Z bg be λbh a bi f=>Ac f Z λa f=>Aa (Ag ?_)
    refine Bf 10 AU (by kernel_rfl) m ?_
    refine Bt 0 10 underlying32 Z sizeOf27 Z f Z λa f=>Br 1 10 1 Be Z Z Z f Z λa f=>An 2 10 Z f Z λa f=>An 4 10 Z f Z λa f=>An 5 10 Z f Z λa f=> ?_
    have⟨bj,bk,a1⟩:=bind_some a1
    refine A8 6 10 T35 h1 bk Z f Z Z λbl bm a bn bo f=> ?_
    subst bo
    refine A9 7 10 Pl2 bn Z f Z λa f=>BC 3 Z λbp w bq m br br=> ?_
    have h1:=rd1 bq h1
    have bi:=rd1 bq bi
    have a4:=Ow.mono (RSl.mono (RI.mono _)) bq a4
    have a5:=Ow.mono (RSl.mono (RI.mono _)) bq a5
    have⟨bs,bt,a1⟩:=bind_some a1
    refine AX f Z call20 (Wk.g m bi bt) λbu bv bw w bx m bz a f=> ?_
    obtain⟨bA,bB,rfl,rfl,bC⟩:=bz
    have h1:=rd1 bx h1
    have bi:=rd1 bx bi
    have a4:=Ow.mono (RSl.mono (RI.mono _)) bx a4
    have a5:=Ow.mono (RSl.mono (RI.mono _)) bx a5
    refine Aa ?_
    refine br bv [bB] _ _ bx m ?_
    refine BC 8 Z λbD w bE m bF bF=> ?_
    have h1:=rd1 bE h1
    have bi:=rd1 bE bi
    have bC:=od1 bE bC
    have a4:=Ow.mono (RSl.mono (RI.mono _)) bE a4
    have a5:=Ow.mono (RSl.mono (RI.mono _)) bE a5
    obtain⟨bG,bH,m,bI⟩:=Ow.stamp (RI.mono _) bC m
    have h1:=rd1 bH h1
    have bi:=rd1 bH bi
    have a4:=Ow.mono (RSl.mono (RI.mono _)) bH a4
    have a5:=Ow.mono (RSl.mono (RI.mono _)) bH a5
    have⟨bJ,bK,a1⟩:=bind_some a1
    refine AX f Z call19 (Wk.x m bI bK) λbL bM bN w bO m bP a f=> ?_
    obtain⟨bQ,rfl,rfl,bR⟩:=bP
    have h1:=rd1 bO h1
    have bi:=rd1 bO bi
    have a4:=Ow.mono (RSl.mono (RI.mono _)) bO a4
    have a5:=Ow.mono (RSl.mono (RI.mono _)) bO a5
    refine Aa ?_
    refine bF bM [] _ _ (gt bH bO) m ?_
    refine BC 9 Z λbS w bT m bU bU=> ?_
    have h1:=rd1 bT h1
    have bi:=rd1 bT bi
    have bR:=rd1 bT bR
    have a4:=Ow.mono (RSl.mono (RI.mono _)) bT a4
    have a5:=Ow.mono (RSl.mono (RI.mono _)) bT a5
    refine A7 (R:=R1) (xs:=([bJ]:LL)) (RSl.one _) m T27 f Z Z Z (by decide) (All2.cons bR (All2.nil _)) λbV bW w a m bX f=>Aa ?_
    refine bU bS [bV] _ _ gr m ?_
    refine A2 λbY w bZ m=> ?_
    have h1:=rd1 bZ h1
    have bi:=rd1 bZ bi
    have bX:=Ow.mono (RSl.mono (RI.mono _)) bZ bX
    have a4:=Ow.mono (RSl.mono (RI.mono _)) bZ a4
    have a5:=Ow.mono (RSl.mono (RI.mono _)) bZ a5
    have⟨b0,b1,a1⟩:=bind_some a1
    refine Bh (RSl.one _) 4 m a4 Z T27 Z (by decide) f Z Z Z (Ow.src (j:=0) bX m Z) b1 λb2 b3 w a m b4 f=>AW underlying32 Z sizeOf27 f Z λa f=>AA 2 0 (ds:=[b3]) m sizeOf27 f Z Z (Ow.cells 4 m b4 Z) (Ao (Ow.one1 4 m b4 Z) AK) Z (lb Z) Z λw m=>AD ?_
    refine Ab f Z λa f=>Ah f Z Z AB λa f=>Ac f Z λa f=>Aa (Ag ?_)
    have⟨b5,b6,a1⟩:=bind_some a1
    refine AM (λa w=>∃b7:Int,b7=b5∧∃(b8:GH),GLe bY b8∧Fr a 78 [(1,v1),(4,(pb ae)),(6,az),(7,(pb aD)),(8,(iv (x1.length:Int))),(9,(iv aS)),(11,(iv b7))]∧Mem W b8 w (ib ae 32 [sn,sn]::ib aD 32 [b3,aY]::aA::b2::aZ::H)) ?_ ?_
    ·refine Ak ?_
     have m:=m.fr 5
     have m:=m.fr 5
     have m:Mem W bY w (aA::b2::aZ::bV::ib ae 32 [sn,sn]::ib aD 32 [b3,aY]::H):=m.fr 5
     have m:=m.fr 5
     have m:=m.fr 5
     have m:Mem W bY w (ib ae 32 [sn,sn]::ib aD 32 [b3,aY]::aA::b2::aZ::H):=m.eraseAt 5
     refine AO (λb9 a w=>∃ca:Int,ca=b9∧∃(cb:GH),GLe bY cb∧Fr a 78 [(1,v1),(4,(pb ae)),(6,az),(7,(pb aD)),(8,(iv (x1.length:Int))),(9,(iv aS)),(10,bh),(11,(iv ca))]∧Mem W cb w (ib ae 32 [sn,sn]::ib aD 32 [b3,aY]::aA::b2::aZ::H)) b6 ⟨_,Z,_,gr,f.k Z,m⟩ ?_
     clear b6 f m
     rintro b9 cc cd ce a w ⟨ca,rfl,cb,cf,f,m⟩
     have h1:=rd1 cf h1
     have bi:=rd1 cf bi
     refine Ag (Ae ?_)
     refine Ab f Z λa f=>Ab f Z λa f=>Ah f Z Z AR λa f=>Ab f Z λa f=> ?_
     refine Bx 4 (λa w=>∃cg,GLe cb cg∧Mem W cg w (ib ae 32 [sn,sn]::ib aD 32 [b3,aY]::aA::b2::aZ::H)∧Fr a 78 [(1,v1),(4,(pb ae)),(6,az),(7,(pb aD)),(8,(iv (x1.length:Int))),(9,(iv aS)),(10,bh),(11,(iv ca)),(49,(iv ca)),(50,(iv (x1.length:Int))),(51,(.bool (decide (ca<(x1.length:Int))))),(52,(.bool (decide (ca<(x1.length:Int))))),(56,(.bool ((decide (ca<(x1.length:Int)))&&(decide ((0:Int)<(bd.length:Int))))))]) ?_ ?_
     ·rcases Bool.eq_false_or_eq_true (decide (ca<(x1.length:Int))) with ch|ch
      ·refine Aq f ch ?_
       refine Ab f Z λa f=>Aq f ch ?_
       refine AL underlying35 f Z Z bi λa f=>Aq f ch ?_
       refine Ah f Z Z Cz λa f=>l_o f (AI (f.e Z) ch (f.e Z)) λa f=> ?_
       exact⟨_,gr,m,f.weak ⟨Z,Z,Z,Z,Z,Z,Z,Z,Z,Z,Z,Z,by rw[ch];rfl,trivial⟩⟩
      ·refine Ar f ch λa f=> ?_
       refine Ar f ch λa f=>Ar f ch λa f=>l_o f (AJ (f.e Z) ch (f.e Z)) λa f=> ?_
       exact⟨_,gr,m,f.weak ⟨Z,Z,Z,Z,Z,Z,Z,Z,Z,Z,Z,Z,by rw[ch];rfl,trivial⟩⟩
     ·rintro a w ⟨cg,ci,m,f⟩
      have h1:=rd1 ci h1
      have bi:=rd1 ci bi
      refine Ab f Z λa f=> ?_
      have⟨cj,ck,cd⟩:=bind_some cd
      refine Bx 8 (λa w=>∃cl,GLe cg cl∧Mem W cl w (ib ae 32 [sn,sn]::ib aD 32 [b3,aY]::aA::b2::aZ::H)∧Fr a 78 [(1,v1),(4,(pb ae)),(6,az),(7,(pb aD)),(8,(iv (x1.length:Int))),(9,(iv aS)),(10,bh),(11,(iv ca)),(49,(iv ca)),(50,(iv (x1.length:Int))),(51,(.bool (decide (ca<(x1.length:Int))))),(52,(.bool (decide (ca<(x1.length:Int))))),(56,(.bool ((decide (ca<(x1.length:Int)))&&(decide ((0:Int)<(bd.length:Int)))))),(57,(.bool ((decide (ca<(x1.length:Int)))&&(decide ((0:Int)<(bd.length:Int)))))),(65,(.bool cj))]) ?_ ?_
      ·rcases Af ck with⟨cm,ck⟩|⟨cm,ck⟩
       ·refine Aq f cm ?_
        refine Ab f Z λa f=>Aq f cm ?_
        refine Ab f Z λa f=>Aq f cm ?_
        refine Ab f Z λa f=>Aq f cm ?_
        have⟨cn,co,ck⟩:=bind_some ck
        refine A4 T35 f Z Z Z h1 co λcp cq a cr ct f=> ?_
        subst ct
        refine Aq f cm ?_
        refine Ax m Pl2 f Z Z cr λa f=>Aq f cm ?_
        have⟨cu,cv,ck⟩:=bind_some ck
        refine Bd f Z call21 (Wk.o m bi cv) λcw w cx m a f=>Aq f cm ?_
        refine l_o f (By (f.e Z)) λa f=>l_o f (AI (f.e Z) cm (f.e Z)) λa f=> ?_
        obtain rfl:=sj ck
        exact⟨_,cx,m,f.k Z⟩
       ·refine Ar f cm λa f=> ?_
        refine Ar f cm λa f=>Ar f cm λa f=>Ar f cm λa f=>Ar f cm λa f=>Ar f cm λa f=>Ar f cm λa f=>l_o f (AJ (f.e Z) cm (f.e Z)) λa f=> ?_
        obtain rfl:=sj ck
        exact⟨_,gr,m,f.k Z⟩
      ·rintro a w ⟨cl,cy,m,f⟩
       refine Aa ?_
       rcases Af cd with⟨cz,cd⟩|⟨cz,cd⟩
       ·refine Al f Z cz ?_
        refine Am ?_
        refine Ak (Aj ?_)
        refine Ab f Z λa f=>Ah f Z Z AB λa f=>Ac f Z λa f=>Aa ?_
        obtain rfl:=sj cd
        exact⟨_,Z,_,Z,_,(gt cf (gt ci cy)),f.k Z,m⟩
       ·refine Ai f Z cz ?_
        refine AG Z ?_
        obtain rfl:=sj cd
        obtain rfl:=ce _ rfl
        exact⟨_,Z,_,(gt cf (gt ci cy)),f.k Z,m⟩
    ·rintro a w ⟨b7,rfl,b8,cA,f,m⟩
     have b4:=Ow.mono (RSl.mono (RI.mono _)) cA b4
     have a5:=Ow.mono (RSl.mono (RI.mono _)) cA a5
     refine Ae ?_
     refine Ab f Z λa f=>Ab f Z λa f=>Ah f Z Z AR λa f=>Aa ?_
     rcases Af a1 with⟨cB,a1⟩|⟨cB,a1⟩
     ·refine Al f Z cB ?_
      refine Aj ?_
      refine AW underlying32 Z sizeOf27 f Z λa f=>As 1 1 m Be f Z Z Z Z λa f=>Ab f Z λa f=>Ab f Z λa f=> ?_
      have m:Mem W b8 w (aZ::ib ae 32 [sn,sn]::ib aD 32 [b3,aY]::aA::b2::H):=m.fr 4
      obtain⟨cC,cD,m,cE⟩:=Ow.stamp (RSl.mono (RI.mono _)) a5 m
      have b4:=Ow.mono (RSl.mono (RI.mono _)) cD b4
      have⟨cF,cG,a1⟩:=bind_some a1
      refine AX f Z call22 (Wk.Q0 m cE cG) λcH cI cJ w cK m cL a f=> ?_
      obtain⟨cM,cN,rfl,rfl,cO⟩:=cL
      have b4:=Ow.mono (RSl.mono (RI.mono _)) cK b4
      refine AW underlying32 Z sizeOf27 f Z λa f=>AA 2 1 (ds:=[cM]) m sizeOf27 f Z Z (Ow.cells 0 m cO Z) (Ao (Ow.one1 0 m cO Z) AK) Z (lb Z) Z λw m=>Aa (Aj ?_)
      refine Ab f Z λa f=>Ah f Z Z AB λa f=>Ac f Z λa f=>Aa ?_
      have m:=m.fr 4
      have m:=m.fr 4
      have m:Mem W cI w (ib aD 32 [b3,cM]::aA::b2::cN::ib ae 32 [sn,sn]::H):=m.fr 4
      have m:Mem W cI w (ib ae 32 [sn,sn]::ib aD 32 [b3,cM]::aA::b2::cN::H):=m.fr 4
      obtain rfl:=sj a1
      exact⟨_,Z,_,_,_,Z,_,b3,b2,cM,cN,(gt a3 (gt bq (gt bx (gt bE (gt bH (gt bO (gt bT (gt bZ (gt cA (gt cD cK)))))))))),f.k Z,m,b4,cO⟩
     ·refine Ai f Z cB ?_
      refine Am ?_
      refine Aj ?_
      refine Ab f Z λa f=>Ah f Z Z AB λa f=>Ac f Z λa f=>Aa ?_
      obtain rfl:=sj a1
      exact⟨_,Z,_,_,_,Z,_,b3,b2,aY,aZ,(gt a3 (gt bq (gt bx (gt bE (gt bH (gt bO (gt bT (gt bZ cA)))))))),f.k Z,m,b4,a5⟩
   ·refine Ai f Z a6 ?_
    refine AG Z ?_
    have m:=m.fr 4
    have m:=m.fr 4
    have m:Mem W aV w (ib aD 32 [aW,aY]::aX::aZ::ib ae 32 [sn,sn]::aA::H):=m.fr 3
    have m:=m.fr 3
    have m:Mem W aV w (ib ae 32 [sn,sn]::ib aD 32 [aW,aY]::aX::aZ::H):=m.eraseAt 4
    obtain rfl:=sj a1
    obtain rfl:=a2 _ rfl
    exact⟨_,_,Z,_,aW,aX,aY,aZ,a3,f.k Z,m,a4,a5⟩
  ·rintro a w ⟨aK,aL,rfl,aM,aN,aO,aP,aQ,cP,f,m,cQ,cR⟩
   refine Ae ?_
   refine AC 1 0 (ds:=[aN,aP]) m Ag32 f Z Z Z Z Z λa f=>AA 0 0 (ds:=[aN,aP]) m sizeOf32 f Z Z Z (Ao (Ow.one1 2 m cQ Z) (Ao (Ow.one1 3 m cR Z) AK)) Z (lb Z) Z λw m=>Ac f Z λa f=>Aa ?_
   refine Ap ?_
   have cS:=CO (P:=prog) 0 m Ag32 f (s:=4) rfl rfl rfl
   have m:=m.fr 3
   have m:=m.fr 3
   have m:Mem W aM w (aO::aQ::ib ae 32 [aN,aP]::H):=m.eraseAt 3
   have m:=m.eraseAt 2
   obtain rfl:=sj hd
   exact⟨[(.agg #[aN,aP]),(.bool true)],⟨cS,f.get _ _ Z,trivial⟩,f.d,_,[aO,aQ],(gt ai (gt ax cP)),m,_,_,_,_,Z,Z,cQ,cR⟩
theorem Wk.B {x0 x1 x2:Int}(m:Mem W G w (H)){y:Bool}(hd:D.B x0 x1 x2=some y):
  Calls prog 95 #[(iv x0),(iv x1),(iv x2)] w (Res W G H (λ_ Ho v=>Ho=[]∧v=(.bool y))):=by
 refine Au (args:=[(iv x0),(iv x1),(iv x2)]) (N:=15) [.tmp 6] func95 Z Z (lb Z) Z λa f=> ?_
 unfold D.B at hd
 refine Ae ?_
 refine Ac f Z λa f=>AD ?_
 refine Ab f Z λa f=>Ab f Z λa f=>Ah f Z Z b_leq λa f=>Ab f Z λa f=> ?_
 refine Bx 4 (λa w=>∃aa,GLe G aa∧Mem W aa w (H)∧Fr a 15 [(0,(iv x0)),(1,(iv x1)),(2,(iv x2)),(7,(iv x1)),(8,(iv x0)),(9,(.bool (decide (x1≤x0)))),(10,(.bool (decide (x1≤x0)))),(14,(.bool ((decide (x1≤x0))&&(decide (x0≤x2)))))]) ?_ ?_
 ·rcases Bool.eq_false_or_eq_true (decide (x1≤x0)) with ab|ab
  ·refine Aq f ab ?_
   refine Ab f Z λa f=>Aq f ab ?_
   refine Ab f Z λa f=>Aq f ab ?_
   refine Ah f Z Z b_leq λa f=>l_o f (AI (f.e Z) ab (f.e Z)) λa f=> ?_
   exact⟨_,gr,m,f.weak ⟨Z,Z,Z,Z,Z,Z,Z,by rw[ab];rfl,trivial⟩⟩
  ·refine Ar f ab λa f=> ?_
   refine Ar f ab λa f=>Ar f ab λa f=>l_o f (AJ (f.e Z) ab (f.e Z)) λa f=> ?_
   exact⟨_,gr,m,f.weak ⟨Z,Z,Z,Z,Z,Z,Z,by rw[ab];rfl,trivial⟩⟩
 ·rintro a w ⟨aa,ac,m,f⟩
  refine Ac f Z λa f=>Aa ?_
  refine Ap ?_
  obtain rfl:=sj hd
  exact⟨[(.bool ((decide (x1≤x0))&&(decide (x0≤x2))))],f.g Z,f.d,_,[],ac,m,Z,Z⟩
theorem Wk.v {v0:Value}{x0:LI}{x1:Int}(m:Mem W G w (H))(h0:R1 G v0 x0){y:Bool}(hd:D.v x0 x1=some y):
  Calls prog 71 #[v0,(iv x1)] w (Res W G H (λ_ Ho v=>Ho=[]∧v=(.bool y))):=by
 refine Au (args:=[v0,(iv x1)]) (N:=33) [.tmp 4] func71 Z Z (lb Z) Z λa f=> ?_
 unfold D.v at hd
 refine Ae ?_
 refine Ac f Z λa f=>Aa (Ag (Ae ?_))
 refine Ab f Z λa f=>AL underlying35 f Z Z h0 λa f=>Ab f Z λa f=>Aa ?_
 have⟨aa,ab,hd⟩:=bind_some hd
 refine AM (λa w=>∃q_181':Unit,aa= .inl q_181'∧∃(ac:GH),GLe G ac∧Fr a 33 []∧Mem W ac w (H)) ?_ ?_
 ·refine Ak ?_
  refine AO (λad a w=>∃ae:Int,ae=ad∧∃(af:GH),GLe G af∧Fr a 33 [(0,v0),(1,(iv x1)),(7,v0),(8,(iv (x0.length:Int))),(9,(iv ae))]∧Mem W af w (H)) ab ⟨_,Z,_,gr,f.k Z,m⟩ ?_
  clear ab f m
  rintro ad ag ah ai a w ⟨ae,rfl,af,aj,f,m⟩
  have h0:=rd1 aj h0
  refine Ae ?_
  refine Ah f Z Z AR λa f=>Aa (Ag ?_)
  rcases Af ah with⟨ak,ah⟩|⟨ak,ah⟩
  ·refine Al f Z ak ?_
   refine Am ?_
   refine Ag (Ak (Ae ?_))
   refine Ab f Z λa f=> ?_
   have⟨al,am,ah⟩:=bind_some ah
   refine A4 T35 f Z Z Z h0 am λan ao a ap aq f=> ?_
   subst aq
   refine Ax m Pl2 f Z Z ap λa f=>Ac f Z λa f=>Ac f Z λa f=>AD ?_
   refine Ab f Z λa f=>Ab f Z λa f=>Ah f Z Z Ck λa f=> ?_
   have⟨ar,au,ah⟩:=bind_some ah
   refine Bd f Z call95 (Wk.B m au) λav w aw m a f=> ?_
   have h0:=rd1 aw h0
   refine l_o f (By (f.e Z)) λa f=>Ab f Z λa f=> ?_
   have⟨ax,ay,ah⟩:=bind_some ah
   refine Bx 12 (λa w=>∃az,GLe av az∧Mem W az w (H)∧Fr a 33 [(0,v0),(1,(iv x1)),(5,(iv ae)),(6,(iv al)),(7,v0),(8,(iv (x0.length:Int))),(9,(iv ae)),(14,(iv al)),(15,(iv x1)),(16,(iv (i64.wrap (x1-1)))),(17,(.bool ar)),(18,(.bool (!ar))),(19,(.bool (!ar))),(31,(.bool ax))]) ?_ ?_
   ·rcases Af ay with⟨aA,ay⟩|⟨aA,ay⟩
    ·refine Ar f aA λa f=> ?_
     refine Ar f aA λa f=>Ar f aA λa f=>EF f Z Z Z λa f=>EF f Z Z Z λa f=>EF f Z Z Z λa f=>EF f Z Z Z λa f=>EF f Z Z Z λa f=>EF f Z Z Z λa f=>EF f Z Z Z λa f=>Ar f aA λa f=>l_o f (AI (f.e Z) aA (f.e Z)) λa f=> ?_
     obtain rfl:=sj ay
     exact⟨_,gr,m,f.k Z⟩
    ·refine Aq f aA ?_
     refine Ab f Z λa f=>Aq f aA ?_
     refine Ah f Z Z Cz λa f=>Aq f aA ?_
     refine Ab f Z λa f=> ?_
     have⟨aB,aC,ay⟩:=bind_some ay
     refine Bx 8 (λa w=>∃aD,GLe av aD∧Mem W aD w (H)∧Fr a 33 [(0,v0),(1,(iv x1)),(5,(iv ae)),(6,(iv al)),(7,v0),(8,(iv (x0.length:Int))),(9,(iv ae)),(14,(iv al)),(15,(iv x1)),(16,(iv (i64.wrap (x1-1)))),(17,(.bool ar)),(18,(.bool (!ar))),(19,(.bool (!ar))),(20,(iv ae)),(21,(.bool (decide ((0:Int)<ae)))),(22,(.bool (decide ((0:Int)<ae)))),(30,(.bool aB))]) ?_ ?_
     ·rcases Af aC with⟨aE,aC⟩|⟨aE,aC⟩
      ·refine Aq f aE ?_
       refine Ab f Z λa f=>Aq f aE ?_
       refine Ab f Z λa f=>Aq f aE ?_
       refine Ah f Z Z Ck λa f=>Aq f aE ?_
       have⟨aF,aG,aC⟩:=bind_some aC
       refine A4 T35 f Z Z Z h0 aG λaH aI a aJ aK f=> ?_
       subst aK
       refine Aq f aE ?_
       refine Ax m Pl2 f Z Z aJ λa f=>Aq f aE ?_
       refine Ab f Z λa f=>Aq f aE ?_
       refine Ah f Z Z Es λa f=>Aq f aA ?_
       refine l_o f (AI (f.e Z) aE (f.e Z)) λa f=> ?_
       obtain rfl:=sj aC
       exact⟨_,gr,m,f.k Z⟩
      ·refine Ar f aE λa f=> ?_
       refine Ar f aE λa f=>Ar f aE λa f=>Ar f aE λa f=>Ar f aE λa f=>Ar f aE λa f=>Ar f aE λa f=>Aq f aA ?_
       refine l_o f (AJ (f.e Z) aE (f.e Z)) λa f=> ?_
       obtain rfl:=sj aC
       exact⟨_,gr,m,f.k Z⟩
     ·rintro a w ⟨aD,aL,m,f⟩
      refine l_o f (AJ (f.e Z) aA (f.e Z)) λa f=> ?_
      obtain rfl:=sj ay
      exact⟨_,aL,m,f.k Z⟩
   ·rintro a w ⟨az,aM,m,f⟩
    refine Aa ?_
    rcases Af ah with⟨aN,ah⟩|⟨aN,ah⟩
    ·refine Al f Z aN ?_
     refine Ae ?_
     refine Ac f Z λa f=>Aa ?_
     refine Ap ?_
     obtain rfl:=sj ah
     obtain rfl:=ai _ rfl
     obtain rfl:=sj hd
     exact⟨[(.bool false)],f.g Z,f.d,_,[],(gt aj (gt aw aM)),m,Z,Z⟩
    ·refine Ai f Z aN ?_
     refine Am ?_
     refine Aj ?_
     refine Ah f Z Z AB λa f=>Ab f Z λa f=>Aa ?_
     obtain rfl:=sj ah
     exact⟨_,Z,_,Z,_,(gt aj (gt aw aM)),f.k Z,m⟩
  ·refine Ai f Z ak ?_
   refine AG Z ?_
   obtain rfl:=sj ah
   obtain rfl:=ai _ rfl
   exact⟨_,Z,_,aj,f.weak trivial,m⟩
 ·rintro a w ⟨_,rfl,ac,aO,f,m⟩
  refine Ae ?_
  refine Ac f Z λa f=>Aa ?_
  refine Ap ?_
  obtain rfl:=sj hd
  exact⟨[(.bool true)],f.g Z,f.d,_,[],aO,m,Z,Z⟩
theorem Wk.b0 {aa:Value}{ab:LL}(m:Mem W G w (H))(ac:R2 G aa ab){y:Bool}(hd:D.b0 ab=some y):
  Calls prog 69 #[(.agg #[aa])] w (Res W G H (λ_ Ho v=>Ho=[]∧v=(.bool y))):=by
 refine Au (args:=[(.agg #[aa])]) (N:=61) [.tmp 2] func69 Z Z (lb Z) Z λa f=> ?_
 unfold D.b0 at hd
 refine Ae ?_
 refine Bo (cs:=[aa]) m f Z Z Z λad w a m f=>Ac f Z λa f=>AD ?_
 refine AW underlying29 Z sizeOf27 f Z λa f=>As 0 0 m Be f Z Z Z Z λa f=>AL underlying27 f Z Z ac λa f=>Ac f Z λa f=>Aa (Ag (Ae ?_))
 refine Ab f Z λa f=>Ah f Z Z AR λa f=>Ab f Z λa f=> ?_
 refine Bx 3 (λa w=>∃ae,GLe G ae∧Mem W ae w (ib ad 29 [aa]::H)∧Fr a 61 [(0,(.agg #[aa])),(1,(pb ad)),(3,(iv (ab.length:Int))),(13,(iv (ab.length:Int))),(14,(.bool (decide ((ab.length:Int)<1)))),(15,(.bool (decide ((ab.length:Int)<1)))),(18,(.bool ((decide ((ab.length:Int)<1))||(decide ((16:Int)<(ab.length:Int))))))]) ?_ ?_
 ·rcases Bool.eq_false_or_eq_true (decide ((ab.length:Int)<1)) with af|af
  ·refine Ar f af λa f=> ?_
   refine Ar f af λa f=>l_o f (AI (f.e Z) af (f.e Z)) λa f=> ?_
   exact⟨_,gr,m,f.weak ⟨Z,Z,Z,Z,Z,Z,by rw[af];rfl,trivial⟩⟩
  ·refine Aq f af ?_
   refine Ab f Z λa f=>Aq f af ?_
   refine Ah f Z Z Cz λa f=>l_o f (AJ (f.e Z) af (f.e Z)) λa f=> ?_
   exact⟨_,gr,m,f.weak ⟨Z,Z,Z,Z,Z,Z,by rw[af];rfl,trivial⟩⟩
 ·rintro a w ⟨ae,ag,m,f⟩
  have ac:=rd2 ag ac
  refine Aa ?_
  rcases Af hd with⟨ah,hd⟩|⟨ah,hd⟩
  ·refine Al f Z ah ?_
   refine Ae ?_
   refine Ac f Z λa f=>Aa ?_
   refine Ap ?_
   have m:Mem W ae w H:=Mem.drop (H':=[ib ad 29 [aa]]) m
   obtain rfl:=sj hd
   exact⟨[(.bool false)],f.g Z,f.d,_,[],ag,m,Z,Z⟩
  ·refine Ai f Z ah ?_
   refine Am ?_
   refine Ag (Ae ?_)
   refine AW underlying29 Z sizeOf27 f Z λa f=>As 0 0 m Be f Z Z Z Z λa f=>AL underlying27 f Z Z ac λa f=>Ab f Z λa f=>Aa ?_
   have⟨ai,aj,hd⟩:=bind_some hd
   refine AM (λa w=>∃q_91':Unit,ai= .inl q_91'∧∃(ak:GH),GLe ae ak∧Fr a 61 [(1,(pb ad))]∧Mem W ak w (ib ad 29 [aa]::H)) ?_ ?_
   ·refine Ak ?_
    refine AO (λal a w=>∃am:Int,am=al∧∃(an:GH),GLe ae an∧Fr a 61 [(1,(pb ad)),(3,(iv (ab.length:Int))),(20,aa),(21,(iv (ab.length:Int))),(22,(iv am))]∧Mem W an w (ib ad 29 [aa]::H)) aj ⟨_,Z,_,gr,f.k Z,m⟩ ?_
    clear aj f m
    rintro al ao ap aq a w ⟨am,rfl,an,ar,f,m⟩
    have ac:=rd2 ar ac
    refine Ae ?_
    refine Ah f Z Z AR λa f=>Aa (Ag ?_)
    rcases Af ap with⟨au,ap⟩|⟨au,ap⟩
    ·refine Al f Z au ?_
     refine Am ?_
     refine Ag (Ak (Ae ?_))
     refine Ab f Z λa f=> ?_
     have⟨av,aw,ap⟩:=bind_some ap
     refine A4 T27 f Z Z Z ac aw λax ay a az aA f=>Ax m Ba f Z Z az λa f=>Ac f Z λa f=>Ac f Z λa f=>AD ?_
     refine Ab f Z λa f=>Ab f Z λa f=> ?_
     have⟨aB,aC,ap⟩:=bind_some ap
     refine Bd f Z call71 (Wk.v m aA aC) λaD w aE m a f=> ?_
     have aA:=rd1 aE aA
     refine l_o f (By (f.e Z)) λa f=>Ab f Z λa f=> ?_
     have⟨aF,aG,ap⟩:=bind_some ap
     refine Bx 4 (λa w=>∃aH,GLe aD aH∧Mem W aH w (ib ad 29 [aa]::H)∧Fr a 61 [(1,(pb ad)),(3,(iv (ab.length:Int))),(4,(iv am)),(5,ay),(20,aa),(21,(iv (ab.length:Int))),(22,(iv am)),(27,ay),(28,(iv (ab.length:Int))),(29,(.bool aB)),(30,(.bool (!aB))),(31,(.bool (!aB))),(35,(.bool aF))]) ?_ ?_
     ·rcases Af aG with⟨aI,aG⟩|⟨aI,aG⟩
      ·refine Ar f aI λa f=> ?_
       refine Ar f aI λa f=>Ar f aI λa f=>l_o f (AI (f.e Z) aI (f.e Z)) λa f=> ?_
       obtain rfl:=sj aG
       exact⟨_,gr,m,f.k Z⟩
      ·refine Aq f aI ?_
       refine Ab f Z λa f=>Aq f aI ?_
       refine Ab f Z λa f=>Aq f aI ?_
       have⟨aJ,aK,aG⟩:=bind_some aG
       refine Bd f Z call93 (Wk.V m aA aK) λaL w aM m a f=>l_o f (AJ (f.e Z) aI (f.e Z)) λa f=> ?_
       obtain rfl:=sj aG
       exact⟨_,aM,m,f.k Z⟩
     ·rintro a w ⟨aH,aN,m,f⟩
      refine Aa ?_
      rcases Af ap with⟨aO,ap⟩|⟨aO,ap⟩
      ·refine Al f Z aO ?_
       refine Ae ?_
       refine Ac f Z λa f=>Aa ?_
       refine Ap ?_
       have m:Mem W aH w H:=Mem.drop (H':=[ib ad 29 [aa]]) m
       obtain rfl:=sj ap
       obtain rfl:=aq _ rfl
       obtain rfl:=sj hd
       exact⟨[(.bool false)],f.g Z,f.d,_,[],(gt ag (gt ar (gt aE aN))),m,Z,Z⟩
      ·refine Ai f Z aO ?_
       refine Am ?_
       refine Aj ?_
       refine Ah f Z Z AB λa f=>Ab f Z λa f=>Aa ?_
       obtain rfl:=sj ap
       exact⟨_,Z,_,Z,_,(gt ar (gt aE aN)),f.k Z,m⟩
    ·refine Ai f Z au ?_
     refine AG Z ?_
     obtain rfl:=sj ap
     obtain rfl:=aq _ rfl
     exact⟨_,Z,_,ar,f.k Z,m⟩
   ·rintro a w ⟨_,rfl,ak,aP,f,m⟩
    have ac:=rd2 aP ac
    refine Ag (Ae ?_)
    refine AW underlying29 Z sizeOf27 f Z λa f=>As 0 0 m Be f Z Z Z Z λa f=>AL underlying27 f Z Z ac λa f=>Ab f Z λa f=>Aa ?_
    have⟨aQ,aR,hd⟩:=bind_some hd
    refine AM (λa w=>∃q_394':Unit,aQ= .inl q_394'∧∃(aS:GH),GLe ak aS∧Fr a 61 []∧Mem W aS w (H)) ?_ ?_
    ·refine Ak ?_
     refine AO (λaT a w=>∃aU:Int,aU=aT∧∃(aV:GH),GLe ak aV∧Fr a 61 [(1,(pb ad)),(38,aa),(39,(iv (ab.length:Int))),(40,(iv aU))]∧Mem W aV w (ib ad 29 [aa]::H)) aR ⟨_,Z,_,gr,f.k Z,m⟩ ?_
     clear aR f m
     rintro aT aW aX aY a w ⟨aU,rfl,aV,aZ,f,m⟩
     have ac:=rd2 aZ ac
     refine Ae ?_
     refine Ah f Z Z AR λa f=>Aa (Ag ?_)
     rcases Af aX with⟨a0,aX⟩|⟨a0,aX⟩
     ·refine Al f Z a0 ?_
      refine Am ?_
      refine Ag (Ak (Ae ?_))
      refine Ab f Z λa f=> ?_
      have⟨a1,a2,aX⟩:=bind_some aX
      refine A4 T27 f Z Z Z ac a2 λa3 a4 a a5 a6 f=>Ax m Ba f Z Z a5 λa f=>Ac f Z λa f=>Ac f Z λa f=>AD ?_
      refine Ab f Z λa f=>AL underlying35 f Z Z a6 λa f=>Ab f Z λa f=>Aa ?_
      have⟨a7,a8,aX⟩:=bind_some aX
      refine AM (λa w=>∃q_560':Unit,a7= .inl q_560'∧∃(a9:GH),GLe aV a9∧Fr a 61 [(1,(pb ad)),(38,aa),(39,(iv (ab.length:Int))),(40,(iv aU))]∧Mem W a9 w (ib ad 29 [aa]::H)) ?_ ?_
      ·refine Ak ?_
       refine AO (λba a w=>∃bb:Int,bb=ba∧∃(bc:GH),GLe aV bc∧Fr a 61 [(1,(pb ad)),(6,(iv aU)),(38,aa),(39,(iv (ab.length:Int))),(40,(iv aU)),(45,a4),(46,(iv (a1.length:Int))),(47,(iv bb))]∧Mem W bc w (ib ad 29 [aa]::H)) a8 ⟨_,Z,_,gr,f.k Z,m⟩ ?_
       clear a8 f m
       rintro ba bd be bf a w ⟨bb,rfl,bc,bg,f,m⟩
       have ac:=rd2 bg ac
       have a6:=rd1 bg a6
       refine Ae ?_
       refine Ah f Z Z AR λa f=>Aa (Ag ?_)
       rcases Af be with⟨bh,be⟩|⟨bh,be⟩
       ·refine Al f Z bh ?_
        refine Am ?_
        refine Ag (Ak (Ae ?_))
        have⟨bi,bj,be⟩:=bind_some be
        refine A4 T35 f Z Z Z a6 bj λbk bl a bm bn f=> ?_
        subst bn
        refine Ax m Pl2 f Z Z bm λa f=>Ac f Z λa f=>AD ?_
        refine AW underlying29 Z sizeOf27 f Z λa f=>As 0 0 m Be f Z Z Z Z λa f=>Ab f Z λa f=> ?_
        have⟨bo,bp,be⟩:=bind_some be
        refine A4 T27 f Z Z Z ac bp λbq br a bs bt f=>Ax m Ba f Z Z bs λa f=>Ab f Z λa f=> ?_
        have⟨bu,bv,be⟩:=bind_some be
        refine Bd f Z call93 (Wk.V m bt bv) λbw w bx m a f=>l_o f (By (f.e Z)) λa f=>Aa ?_
        rcases Af be with⟨bz,be⟩|⟨bz,be⟩
        ·refine Al f Z bz ?_
         refine Ae ?_
         refine Ac f Z λa f=>Aa ?_
         refine Ap ?_
         have m:Mem W bw w H:=Mem.drop (H':=[ib ad 29 [aa]]) m
         obtain rfl:=sj be
         obtain rfl:=bf _ rfl
         obtain rfl:=sj aX
         obtain rfl:=aY _ rfl
         obtain rfl:=sj hd
         exact⟨[(.bool false)],f.g Z,f.d,_,[],(gt ag (gt aP (gt aZ (gt bg bx)))),m,Z,Z⟩
        ·refine Ai f Z bz ?_
         refine Am ?_
         refine Aj ?_
         refine Ah f Z Z AB λa f=>Ab f Z λa f=>Aa ?_
         obtain rfl:=sj be
         exact⟨_,Z,_,Z,_,(gt bg bx),f.k Z,m⟩
       ·refine Ai f Z bh ?_
        refine AG Z ?_
        obtain rfl:=sj be
        obtain rfl:=bf _ rfl
        exact⟨_,Z,_,bg,f.k Z,m⟩
      ·rintro a w ⟨_,rfl,a9,bA,f,m⟩
       refine Aj ?_
       refine Ah f Z Z AB λa f=>Ab f Z λa f=>Aa ?_
       obtain rfl:=sj aX
       exact⟨_,Z,_,Z,_,(gt aZ bA),f.k Z,m⟩
     ·refine Ai f Z a0 ?_
      refine AG Z ?_
      have m:Mem W aV w H:=Mem.drop (H':=[ib ad 29 [aa]]) m
      obtain rfl:=sj aX
      obtain rfl:=aY _ rfl
      exact⟨_,Z,_,aZ,f.weak trivial,m⟩
    ·rintro a w ⟨_,rfl,aS,bB,f,m⟩
     refine Ae ?_
     refine Ac f Z λa f=>Aa ?_
     refine Ap ?_
     obtain rfl:=sj hd
     exact⟨[(.bool true)],f.g Z,f.d,_,[],(gt ag (gt aP bB)),m,Z,Z⟩
theorem Wk.H0 {v0:Value}{b1:Nat}{x0:LI}{aa:Int}(m:Mem W G w (ib b1 3 [(iv aa)]::H))(h0:R1 G v0 x0){y:Bool}(hd:D.H0 x0 aa=some y):
  Calls prog 94 #[v0,(pb b1)] w (Res W G H (λ_ Ho v=>Ho=[ib b1 3 [(iv aa)]]∧v=(.bool y))):=by
 refine Au (args:=[v0,(pb b1)]) (N:=13) [.tmp 3] func94 Z Z (lb Z) Z λa f=> ?_
 unfold D.H0 at hd
 refine Ae ?_
 refine Ac f Z λa f=>AD ?_
 refine Ab f Z λa f=>AL underlying35 f Z Z h0 λa f=>Ah f Z Z Cm λa f=>Ab f Z λa f=> ?_
 have⟨ab,ac,hd⟩:=bind_some hd
 refine Bx 5 (λa w=>∃ad,GLe G ad∧Mem W ad w (ib b1 3 [(iv aa)]::H)∧Fr a 13 [(0,v0),(1,(pb b1)),(4,v0),(5,(iv (x0.length:Int))),(6,(.bool ((x0.length:Int) !=2))),(7,(.bool ((x0.length:Int) !=2))),(12,(.bool ab))]) ?_ ?_
 ·rcases Af ac with⟨ae,ac⟩|⟨ae,ac⟩
  ·refine Ar f ae λa f=> ?_
   refine Ar f ae λa f=>Ar f ae λa f=>Ar f ae λa f=>l_o f (AI (f.e Z) ae (f.e Z)) λa f=> ?_
   obtain rfl:=sj ac
   exact⟨_,gr,m,f.k Z⟩
  ·refine Aq f ae ?_
   refine Ab f Z λa f=>Aq f ae ?_
   refine As 0 0 m Pl3 f Z Z Z Z λa f=>Aq f ae ?_
   have⟨af,ag,ac⟩:=bind_some ac
   refine Bd f Z call71 (Wk.v m h0 ag) λah w ai m a f=>Aq f ae ?_
   refine l_o f (By (f.e Z)) λa f=>l_o f (AJ (f.e Z) ae (f.e Z)) λa f=> ?_
   obtain rfl:=sj ac
   exact⟨_,ai,m,f.k Z⟩
 ·rintro a w ⟨ad,aj,m,f⟩
  refine Ac f Z λa f=>Aa ?_
  refine Ap ?_
  obtain rfl:=sj hd
  exact⟨[(.bool ab)],f.g Z,f.d,_,[ib b1 3 [(iv aa)]],aj,m,Z,Z⟩
theorem Wk.X0 {v0:Value}{b1c0:Nat}{x0:LL}{aa:Int}(m:Mem W G w (ib b1c0 3 [(iv aa)]::H))(h0:R2 G v0 x0){y:Int}(hd:D.X0 x0 aa=some y):
  Calls prog 75 #[v0,(.func (.func 94) #[] #[(pb b1c0)])] w (Res W G H (λ_ Ho v=>Ho=[ib b1c0 3 [(iv aa)]]∧v=(iv y))):=by
 refine Au (args:=[v0,(.func (.func 94) #[] #[(pb b1c0)])]) (N:=19) [.tmp 4] func75 Z Z (lb Z) Z λa f=> ?_
 unfold D.X0 at hd
 refine Ae ?_
 refine Ac f Z λa f=>Aa (Ag (Ae ?_))
 refine Ab f Z λa f=>AL underlying27 f Z Z h0 λa f=>Ab f Z λa f=>Aa ?_
 have⟨ab,ac,hd⟩:=bind_some hd
 refine AM (λa w=>∃q_33':Unit,ab= .inl q_33'∧∃(ad:GH),GLe G ad∧Fr a 19 []∧Mem W ad w (ib b1c0 3 [(iv aa)]::H)) ?_ ?_
 ·refine Ak ?_
  refine AO (λae a w=>∃af:Int,af=ae∧∃(ag:GH),GLe G ag∧Fr a 19 [(0,v0),(1,(.func (.func 94) #[] #[(pb b1c0)])),(7,(iv (x0.length:Int))),(8,(iv af))]∧Mem W ag w (ib b1c0 3 [(iv aa)]::H)) ac ⟨_,Z,_,gr,f.k Z,m⟩ ?_
  clear ac f m
  rintro ae ah ai aj a w ⟨af,rfl,ag,ak,f,m⟩
  have h0:=rd2 ak h0
  refine Ae ?_
  refine Ah f Z Z AR λa f=>Aa (Ag ?_)
  rcases Af ai with⟨al,ai⟩|⟨al,ai⟩
  ·refine Al f Z al ?_
   refine Am ?_
   refine Ag (Ak (Ae ?_))
   refine Ab f Z λa f=>Ac f Z λa f=>AD ?_
   refine Ab f Z λa f=>Ab f Z λa f=>Ab f Z λa f=> ?_
   have⟨am,an,ai⟩:=bind_some ai
   refine A4 T27 f Z Z Z h0 an λao ap a aq ar f=>Ax m Ba f Z Z aq λa f=> ?_
   have⟨au,av,ai⟩:=bind_some ai
   refine CL f Z Z Z call94 (Wk.H0 m ar av) λaw ax ay w az m aA a f=> ?_
   obtain⟨rfl,rfl⟩:=aA
   refine Aa ?_
   rcases Af ai with⟨aB,ai⟩|⟨aB,ai⟩
   ·refine Al f Z aB ?_
    refine Ae ?_
    refine Ab f Z λa f=>Ac f Z λa f=>Aa ?_
    refine Ap ?_
    obtain rfl:=sj ai
    obtain rfl:=aj _ rfl
    obtain rfl:=sj hd
    exact⟨[(iv af)],f.g Z,f.d,_,[ib b1c0 3 [(iv aa)]],(gt ak az),m,Z,Z⟩
   ·refine Ai f Z aB ?_
    refine Am ?_
    refine Aj ?_
    refine Ah f Z Z AB λa f=>Ab f Z λa f=>Aa ?_
    obtain rfl:=sj ai
    exact⟨_,Z,_,Z,_,(gt ak az),f.k Z,m⟩
  ·refine Ai f Z al ?_
   refine AG Z ?_
   obtain rfl:=sj ai
   obtain rfl:=aj _ rfl
   exact⟨_,Z,_,ak,f.weak trivial,m⟩
 ·rintro a w ⟨_,rfl,ad,aC,f,m⟩
  refine Ae ?_
  refine Ac f Z λa f=>Aa ?_
  refine Ap ?_
  obtain rfl:=sj hd
  exact⟨[(iv (-1))],f.g Z,f.d,_,[ib b1c0 3 [(iv aa)]],aC,m,Z,Z⟩
theorem Wk.h1 {v0:Value}{b1c0:Nat}{x0:LL}{aa:Int}(m:Mem W G w (ib b1c0 3 [(iv aa)]::H))(h0:R2 G v0 x0){y:Bool}(hd:D.h1 x0 aa=some y):
  Calls prog 24 #[v0,(.func (.func 94) #[] #[(pb b1c0)])] w (Res W G H (λ_ Ho v=>Ho=[ib b1c0 3 [(iv aa)]]∧v=(.bool y))):=by
 refine Au (args:=[v0,(.func (.func 94) #[] #[(pb b1c0)])]) (N:=9) [.tmp 4] func24 Z Z (lb Z) Z λa f=> ?_
 unfold D.h1 at hd
 refine Ae ?_
 refine Ac f Z λa f=>AD ?_
 refine Ab f Z λa f=>Ab f Z λa f=> ?_
 have⟨ab,ac,hd⟩:=bind_some hd
 refine AX f Z call75 (Wk.X0 m h0 ac) λad ae af w ag m ah a f=> ?_
 obtain⟨rfl,rfl⟩:=ah
 refine Ah f Z Z Es λa f=>Ac f Z λa f=>Aa ?_
 refine Ap ?_
 obtain rfl:=sj hd
 exact⟨[(.bool (decide ((0:Int)≤ab)))],f.g Z,f.d,_,[ib b1c0 3 [(iv aa)]],ag,m,Z,Z⟩
theorem Wk.r {v0:Value}{x0:LL}{x1:Int}(m:Mem W G w (H))(h0:R2 G v0 x0){y:Bool}(hd:D.r x0 x1=some y):
  Calls prog 70 #[v0,(iv x1)] w (Res W G H (λ_ Ho v=>Ho=[]∧v=(.bool y))):=by
 refine Au (args:=[v0,(iv x1)]) (N:=9) [.tmp 4] func70 Z Z (lb Z) Z λa f=> ?_
 unfold D.r at hd
 refine Ae ?_
 refine Bo (cs:=[(iv x1)]) m f Z Z Z λaa w a m f=>Ac f Z λa f=>AD ?_
 refine Ab f Z λa f=>Ek f Z Z Z λa f=> ?_
 have⟨ab,ac,hd⟩:=bind_some hd
 refine AX f Z call24 (Wk.h1 m h0 ac) λad ae af w ag m ah a f=> ?_
 obtain⟨rfl,rfl⟩:=ah
 refine l_o f (By (f.e Z)) λa f=>Ac f Z λa f=>Aa ?_
 refine Ap ?_
 have m:Mem W ae w H:=Mem.drop (H':=[ib aa 3 [(iv x1)]]) m
 obtain rfl:=sj hd
 exact⟨[(.bool (!ab))],f.g Z,f.d,_,[],ag,m,Z,Z⟩
theorem Wk.a {x0:Int}(m:Mem W G w (H)){y:Int}(hd:D.a x0=some y):
  Calls prog 38 #[(iv x0)] w (Res W G H (λ_ Ho v=>Ho=[]∧v=(.int .u32 y))):=by
 refine Au (args:=[(iv x0)]) (N:=5) [.tmp 2] func38 Z Z (lb Z) Z λa f=> ?_
 unfold D.a at hd
 refine Ae ?_
 refine Ac f Z λa f=>AD ?_
 refine Ab f Z λa f=> ?_
 obtain⟨aa,hd⟩:=Ci hd
 refine l_o f (r_shl (f.e Z) (f.e Z) aa) λa f=>Ac f Z λa f=>Aa ?_
 refine Ap ?_
 obtain rfl:=sj hd
 exact⟨[(.int .u32 (ishl .u32 1 x0))],f.g Z,f.d,_,[],gr,m,Z,Z⟩
theorem Wk.w0 {v0:Value}{it0:Itm}{x0:LI}{x1 x2:Int}(m:Mem W G w (it0::H))(o0:Ow (RI .u32) 69 G it0 v0 x0){y:(LI)}(hd:D.w0 x0 x1 x2=some y):
  Calls prog 77 #[v0,(iv x1),(iv x2)] w (Res W G H (λG' Ho _=>∃i0:Itm,Ho=[i0]∧Ow (RI .u32) 69 G' i0 v0 y)):=by
 refine Au (args:=[v0,(iv x1),(iv x2)]) (N:=22) [] func77 Z Z (lb Z) Z λa f=> ?_
 unfold D.w0 at hd
 refine Ag ?_
 refine Bf 8 AU (by kernel_rfl) m ?_
 refine An 0 8 Z f Z λa f=>An 1 8 Z f Z λa f=> ?_
 have⟨aa,ab,hd⟩:=bind_some hd
 refine Dp 2 8 0 m o0 T62 ab Z f Z Z λac a ad f=>q_ol 3 8 0 o0 BM ad ab Z f Z λae a af f=> ?_
 subst af
 refine An 4 8 Z f Z λa f=> ?_
 have⟨ag,ah,hd⟩:=bind_some hd
 refine BJ (i:=5) 8 Z (by kernel_rfl) Z f Z Z Z call38 (λ_ _ w ai m=>Wk.a m ah) λa f=>q_p 6 8 Z f (λ_=>Bn (f.e Z) (f.e Z) Db) λa f=> ?_
 have⟨aj,ak,hd⟩:=bind_some hd
 refine Dp 7 8 0 m o0 T62 ak Z f Z Z λal a am f=>A2 λan w ao m=> ?_
 have o0:=od1 ao o0
 refine BN 0 m o0 Z sizeOf69 f Z Z am ak Z Z Z λap w m aq=>Aa ?_
 refine Bf 8 AU (by kernel_rfl) m ?_
 refine An 0 8 Z f Z λa f=>An 1 8 Z f Z λa f=> ?_
 have⟨ar,au,hd⟩:=bind_some hd
 refine Dp 2 8 0 m aq T62 au Z f Z Z λav a aw f=>q_ol 3 8 0 aq BM aw au Z f Z λax a ay f=> ?_
 subst ay
 refine An 4 8 Z f Z λa f=> ?_
 have⟨az,aA,hd⟩:=bind_some hd
 refine BJ (i:=5) 8 Z (by kernel_rfl) Z f Z Z Z call38 (λ_ _ w aB m=>Wk.a m aA) λa f=>q_p 6 8 Z f (λ_=>Bn (f.e Z) (f.e Z) Db) λa f=> ?_
 have⟨aC,aD,hd⟩:=bind_some hd
 refine Dp 7 8 0 m aq T62 aD Z f Z Z λaE a aF f=>A2 λaG w aH m=> ?_
 have aq:=od1 aH aq
 refine BN 0 m aq Z sizeOf69 f Z Z aF aD Z Z Z λaI w m aJ=>Aa ?_
 obtain rfl:=sj hd
 exact⟨[],trivial,f.d,_,[aI],(gt ao aH),m,_,Z,aJ⟩
theorem Wk.U {aa ab:Value}{ac ad:LL}(m:Mem W G w (H))(ae:R2 G aa ac)(af:R2 G ab ad){y:(LI)}(hd:D.U ac ad=some y):
  Calls prog 27 #[(.agg #[aa,ab])] w (Res W G H (λG' Ho v=>∃r0:Value,∃i0:Itm,Ho=[i0]∧r0=v∧Ow (RI .u32) 69 G' i0 r0 y)):=by
 refine Au (args:=[(.agg #[aa,ab])]) (N:=27) [.tmp 2] func27 Z Z (lb Z) Z λa f=> ?_
 unfold D.U at hd
 refine Ae ?_
 refine Bo (cs:=[aa,ab]) m f Z Z Z λag w a m f=>Ac f Z λa f=>AD ?_
 refine AW underlying32 Z sizeOf27 f Z λa f=>As 0 0 m Be f Z Z Z Z λa f=>AL underlying27 f Z Z ae λa f=> ?_
 have⟨ah,ai,hd⟩:=bind_some hd
 refine Co (R:=(RI .u32)) m T62 Z (by decide) Z f Z Z Z ai λaj ak w a m al f=>Ac f Z λa f=>Aa (Ag (Ae ?_))
 refine AW underlying32 Z sizeOf27 f Z λa f=>As 1 1 m Be f Z Z Z Z λa f=>AL underlying27 f Z Z af λa f=>Ab f Z λa f=>Aa ?_
 have⟨am,an,hd⟩:=bind_some hd
 refine AM (λa w=>∃ao:LI,ao=am∧∃(ap:GH) (aq:Itm),GLe G ap∧Fr a 27 [(3,ak)]∧Mem W ap w (aq::H)∧Ow (RI .u32) 69 ap aq ak ao) ?_ ?_
 ·refine Ak ?_
  have m:=m.eraseAt 1
  refine AO (λar a w=>∃au:LI,∃av:Int,(au,av)=ar∧∃(aw:GH) (ax:Itm),GLe G aw∧Fr a 27 [(3,ak),(11,ab),(12,(iv (ad.length:Int))),(13,(iv av))]∧Mem W aw w (ax::H)∧Ow (RI .u32) 69 aw ax ak au) an ⟨_,_,Z,_,aj,gr,f.k Z,m,al⟩ ?_
  clear an f m
  rintro ar ay az aA a w ⟨au,av,rfl,aw,ax,aB,f,m,aC⟩
  have af:=rd2 aB af
  refine Ae ?_
  refine Ah f Z Z AR λa f=>Aa (Ag ?_)
  rcases Af az with⟨aD,az⟩|⟨aD,az⟩
  ·refine Al f Z aD ?_
   refine Am ?_
   refine Ag (Ak (Ae ?_))
   have⟨aE,aF,az⟩:=bind_some az
   refine A4 T27 f Z Z Z af aF λaG aH a aI aJ f=>Ax m Ba f Z Z aI λa f=>Ac f Z λa f=>Aa ?_
   refine Bf 7 AU (by kernel_rfl) m ?_
   refine An 0 7 Z f Z λa f=>An 1 7 Z f Z λa f=> ?_
   have⟨aK,aL,az⟩:=bind_some az
   refine A8 2 7 T35 aJ aL Z f Z Z λaM aN a aO aP f=> ?_
   subst aP
   refine A9 3 7 Pl2 aO Z f Z λa f=>An 4 7 Z f Z λa f=> ?_
   have⟨aQ,aR,az⟩:=bind_some az
   refine A8 5 7 T35 aJ aR Z f Z Z λaS aT a aU aV f=> ?_
   subst aV
   refine A9 6 7 Pl2 aU Z f Z λa f=>A2 λaW w aX m=> ?_
   have aC:=od1 aX aC
   have⟨aY,aZ,az⟩:=bind_some az
   refine AX f Z call77 (Wk.w0 m aC aZ) λa0 a1 a2 w a3 m a4 a f=> ?_
   obtain⟨a5,rfl,a6⟩:=a4
   refine Aa (Aj ?_)
   refine Ah f Z Z AB λa f=>Ab f Z λa f=>Aa ?_
   obtain rfl:=sj az
   exact⟨_,Z,_,_,Z,_,a5,(gt aB (gt aX a3)),f.k Z,m,a6⟩
  ·refine Ai f Z aD ?_
   refine AG Z ?_
   obtain rfl:=sj az
   obtain rfl:=aA _ rfl
   exact⟨_,Z,_,ax,aB,f.k Z,m,aC⟩
 ·rintro a w ⟨ao,rfl,ap,aq,a7,f,m,a8⟩
  refine Ae ?_
  refine Ab f Z λa f=>Ac f Z λa f=>Aa ?_
  refine Ap ?_
  obtain rfl:=sj hd
  exact⟨[ak],f.g Z,f.d,_,[aq],a7,m,_,_,Z,Z,a8⟩
theorem Wk.k {v0:Value}{x0:LI}(m:Mem W G w (H))(h0:R1 G v0 x0){y:Int}(hd:D.k x0=some y):
  Calls prog 76 #[v0] w (Res W G H (λ_ Ho v=>Ho=[]∧v=(.int .u32 y))):=by
 refine Au (args:=[v0]) (N:=18) [.tmp 2] func76 Z Z (lb Z) Z λa f=> ?_
 unfold D.k at hd
 refine Ae ?_
 refine Ac f Z λa f=>AD ?_
 refine Ac f Z λa f=>Aa (Ag (Ae ?_))
 refine Ab f Z λa f=>AL underlying35 f Z Z h0 λa f=>Ab f Z λa f=>Aa ?_
 have⟨aa,ab,hd⟩:=bind_some hd
 refine AM (λa w=>∃ac:Int,ac=aa∧∃(ad:GH),GLe G ad∧Fr a 18 [(3,(.int .u32 ac))]∧Mem W ad w (H)) ?_ ?_
 ·refine Ak ?_
  refine AO (λae a w=>∃af:Int,∃ag:Int,(af,ag)=ae∧∃(ah:GH),GLe G ah∧Fr a 18 [(3,(.int .u32 af)),(6,v0),(7,(iv (x0.length:Int))),(8,(iv ag))]∧Mem W ah w (H)) ab ⟨_,_,Z,_,gr,f.k Z,m⟩ ?_
  clear ab f m
  rintro ae ai aj ak a w ⟨af,ag,rfl,ah,al,f,m⟩
  have h0:=rd1 al h0
  refine Ae ?_
  refine Ah f Z Z AR λa f=>Aa (Ag ?_)
  rcases Af aj with⟨am,aj⟩|⟨am,aj⟩
  ·refine Al f Z am ?_
   refine Am ?_
   refine Ag (Ak (Ae ?_))
   have⟨an,ao,aj⟩:=bind_some aj
   refine A4 T35 f Z Z Z h0 ao λap aq a ar au f=> ?_
   subst au
   refine Ax m Pl2 f Z Z ar λa f=>Ac f Z λa f=>Aa (Aj ?_)
   refine Ab f Z λa f=>Ab f Z λa f=> ?_
   have⟨av,aw,aj⟩:=bind_some aj
   refine Bd f Z call38 (Wk.a m aw) λax w ay m a f=>Ah f Z Z Db λa f=>Ac f Z λa f=>Aa (Aj ?_)
   refine Ah f Z Z AB λa f=>Ab f Z λa f=>Aa ?_
   obtain rfl:=sj aj
   exact⟨_,Z,_,_,Z,_,(gt al ay),f.k Z,m⟩
  ·refine Ai f Z am ?_
   refine AG Z ?_
   obtain rfl:=sj aj
   obtain rfl:=ak _ rfl
   exact⟨_,Z,_,al,f.k Z,m⟩
 ·rintro a w ⟨ac,rfl,ad,az,f,m⟩
  refine Ae ?_
  refine Ab f Z λa f=>Ac f Z λa f=>Aa ?_
  refine Ap ?_
  obtain rfl:=sj hd
  exact⟨[(.int .u32 ac)],f.g Z,f.d,_,[],az,m,Z,Z⟩
theorem Wk.l {v0:Value}{x0:LL}(m:Mem W G w (H))(h0:R2 G v0 x0){y:(LI)}(hd:D.l x0=some y):
  Calls prog 26 #[v0] w (Res W G H (λG' Ho v=>∃r0:Value,∃i0:Itm,Ho=[i0]∧r0=v∧Ow (RI .u32) 69 G' i0 r0 y)):=by
 refine Au (args:=[v0]) (N:=20) [.tmp 2] func26 Z Z (lb Z) Z λa f=> ?_
 unfold D.l at hd
 refine Ae ?_
 refine Ac f Z λa f=>AD ?_
 refine A7 (R:=(RI .u32)) (xs:=([]:LI)) (RI.one _) m T60 f Z Z Z (by decide) (All2.nil _) λaa ab w a m ac f=>Ac f Z λa f=>Aa (Ag (Ae ?_))
 refine Ab f Z λa f=>AL underlying27 f Z Z h0 λa f=>Ab f Z λa f=>Aa ?_
 have⟨ad,ae,hd⟩:=bind_some hd
 refine AM (λa w=>∃af:LI,af=ad∧∃(ag:GH) (ah:Value) (ai:Itm),GLe G ag∧Fr a 20 [(3,ah)]∧Mem W ag w (ai::H)∧Ow (RI .u32) 69 ag ai ah af) ?_ ?_
 ·refine Ak ?_
  refine AO (λaj a w=>∃ak:LI,∃al:Int,(ak,al)=aj∧∃(am:GH) (an:Value) (ao:Itm),GLe G am∧Fr a 20 [(3,an),(7,v0),(8,(iv (x0.length:Int))),(9,(iv al))]∧Mem W am w (ao::H)∧Ow (RI .u32) 69 am ao an ak) ae ⟨_,_,Z,_,ab,aa,gr,f.k Z,m,ac⟩ ?_
  clear ae f m
  rintro aj ap aq ar a w ⟨ak,al,rfl,am,an,ao,au,f,m,av⟩
  have h0:=rd2 au h0
  refine Ae ?_
  refine Ah f Z Z AR λa f=>Aa (Ag ?_)
  rcases Af aq with⟨aw,aq⟩|⟨aw,aq⟩
  ·refine Al f Z aw ?_
   refine Am ?_
   refine Ag (Ak (Ae ?_))
   have⟨ax,ay,aq⟩:=bind_some aq
   refine A4 T27 f Z Z Z h0 ay λaz aA a aB aC f=>Ax m Ba f Z Z aB λa f=>Ac f Z λa f=>Aa (Aj ?_)
   refine Ab f Z λa f=>Ab f Z λa f=> ?_
   have⟨aD,aE,aq⟩:=bind_some aq
   refine Bd f Z call76 (Wk.k m aC aE) λaF w aG m a f=> ?_
   have av:=od1 aG av
   refine A7 (R:=(RI .u32)) (xs:=([aD]:LI)) (RI.one _) m T60 f Z Z Z (by decide) (All2.cons Z (All2.nil _)) λaH aI w a m aJ f=> ?_
   have⟨aK,aL,aq⟩:=bind_some aq
   refine Bh (RI.one _) 1 m av Z T60 Z (by decide) f Z Z Z (Ow.src (j:=0) aJ m Z) aL λaM aN w a m aO f=>Ac f Z λa f=>Aa (Aj ?_)
   refine Ah f Z Z AB λa f=>Ab f Z λa f=>Aa ?_
   have m:=m.fr 1
   have m:=m.eraseAt 1
   obtain rfl:=sj aq
   exact⟨_,Z,_,_,Z,_,aN,aM,(gt au aG),f.k Z,m,aO⟩
  ·refine Ai f Z aw ?_
   refine AG Z ?_
   obtain rfl:=sj aq
   obtain rfl:=ar _ rfl
   exact⟨_,Z,_,an,ao,au,f.k Z,m,av⟩
 ·rintro a w ⟨af,rfl,ag,ah,ai,aP,f,m,aQ⟩
  refine Ae ?_
  refine Ab f Z λa f=>Ac f Z λa f=>Aa ?_
  refine Ap ?_
  obtain rfl:=sj hd
  exact⟨[ah],f.g Z,f.d,_,[ai],aP,m,_,_,Z,Z,aQ⟩
theorem Wk.j1 {x0:Int}(m:Mem W G w (H)){y:Int}(hd:D.j1 x0=some y):
  Calls prog 97 #[(iv x0)] w (Res W G H (λ_ Ho v=>Ho=[]∧v=(.int .u32 y))):=by
 refine Au (args:=[(iv x0)]) (N:=6) [.tmp 2] func97 Z Z (lb Z) Z λa f=> ?_
 unfold D.j1 at hd
 refine Ae ?_
 refine Ac f Z λa f=>AD ?_
 refine Ab f Z λa f=> ?_
 obtain⟨aa,hd⟩:=Ci hd
 refine l_o f (r_shl (f.e Z) (f.e Z) aa) λa f=>Ah f Z Z Ck λa f=>Ac f Z λa f=>Aa ?_
 refine Ap ?_
 obtain rfl:=sj hd
 exact⟨[(.int .u32 (IntKind.u32.wrap ((ishl .u32 1 x0)-1)))],f.g Z,f.d,_,[],gr,m,Z,Z⟩
theorem Wk.h0 {v0:Value}{x0:LI}(m:Mem W G w (H))(h0:RSl (RI .u32) G v0 x0){y:Int}(hd:D.h0 x0=some y):
  Calls prog 73 #[v0] w (Res W G H (λ_ Ho v=>Ho=[]∧v=(.int .u32 y))):=by
 refine Au (args:=[v0]) (N:=6) [.tmp 2] func73 Z Z (lb Z) Z λa f=> ?_
 unfold D.h0 at hd
 refine Ae ?_
 refine Ac f Z λa f=>AD ?_
 refine Ab f Z λa f=>AL underlying62 f Z Z h0 λa f=> ?_
 have⟨aa,ab,hd⟩:=bind_some hd
 refine Bd f Z call97 (Wk.j1 m ab) λac w ad m a f=>Ac f Z λa f=>Aa ?_
 refine Ap ?_
 obtain rfl:=sj hd
 exact⟨[(.int .u32 aa)],f.g Z,f.d,_,[],ad,m,Z,Z⟩
theorem Wk.N {x0:Int}(hW:Dc W)(m:Mem W G w (H)){y:Int}(hd:D.N x0=some y):
  Calls prog 87 #[(.int .u32 x0)] w (Res W G H (λ_ Ho v=>Ho=[]∧v=(iv y))):=by
 refine Au (args:=[(.int .u32 x0)]) (N:=5) [.tmp 2] func87 Z Z (lb Z) Z λa f=> ?_
 unfold D.N at hd
 refine Ae ?_
 refine Ac f Z λa f=>AD ?_
 refine Ab f Z λa f=> ?_
 have⟨aa,ab,hd⟩:=bind_some hd
 refine Bd f Z call103 (Wk.d1 hW m ab) λac w ad m a f=>Ac f Z λa f=>Aa ?_
 refine Ap ?_
 obtain rfl:=sj hd
 exact⟨[(iv aa)],f.g Z,f.d,_,[],ad,m,Z,Z⟩
theorem Wk.h {x0:Int}(hW:Dc W)(m:Mem W G w (H)){y:(LI)}(hd:D.h x0=some y):
  Calls prog 47 #[(.int .u32 x0)] w (Res W G H (λG' Ho v=>∃r0:Value,∃i0:Itm,Ho=[i0]∧r0=v∧Ow R0 3 G' i0 r0 y)):=by
 refine Au (args:=[(.int .u32 x0)]) (N:=17) [.tmp 2] func47 Z Z (lb Z) Z λa f=> ?_
 unfold D.h at hd
 refine Ae ?_
 refine Ac f Z λa f=>AD ?_
 refine A7 (R:=R0) (xs:=([]:LI)) (RI.one _) m T89 f Z Z Z (by decide) (All2.nil _) λaa ab w a m ac f=>Ac f Z λa f=>Aa (Ag ?_)
 have⟨ad,ae,hd⟩:=bind_some hd
 refine AM (λa w=>∃af:LI,af=ad∧∃(ag:GH) (ah:Value) (ai:Itm),GLe G ag∧Fr a 17 [(3,ah)]∧Mem W ag w (ai::H)∧Ow R0 3 ag ai ah af) ?_ ?_
 ·refine Ak ?_
  refine AO (λaj a w=>∃ak:Int,∃al:LI,(ak,al)=aj∧∃(am:GH) (an:Value) (ao:Itm),GLe G am∧Fr a 17 [(0,(.int .u32 ak)),(3,an)]∧Mem W am w (ao::H)∧Ow R0 3 am ao an al) ae ⟨_,_,Z,_,ab,aa,gr,f.k Z,m,ac⟩ ?_
  clear ae f m
  rintro aj ap aq ar a w ⟨ak,al,rfl,am,an,ao,au,f,m,av⟩
  refine Ag (Ae ?_)
  refine Ab f Z λa f=>Ah f Z Z Cm λa f=>Aa ?_
  rcases Af aq with⟨aw,aq⟩|⟨aw,aq⟩
  ·refine Al f Z aw ?_
   refine Am ?_
   refine Ag (Ak (Aj ?_))
   refine Ab f Z λa f=>Ab f Z λa f=> ?_
   have⟨ax,ay,aq⟩:=bind_some aq
   refine Bd f Z call87 (Wk.N hW m ay) λaz w aA m a f=> ?_
   have av:=od1 aA av
   refine A7 (R:=R0) (xs:=([ax]:LI)) (RI.one _) m T89 f Z Z Z (by decide) (All2.cons Z (All2.nil _)) λaB aC w a m aD f=> ?_
   have⟨aE,aF,aq⟩:=bind_some aq
   refine Bh (RI.one _) 1 m av Z T89 Z (by decide) f Z Z Z (Ow.src (j:=0) aD m Z) aF λaG aH w a m aI f=>Ac f Z λa f=>Aa (Aj ?_)
   refine Ab f Z λa f=>Ab f Z λa f=>Ah f Z Z Ck λa f=>Ah f Z Z CC λa f=>Ac f Z λa f=>Aa ?_
   have m:=m.fr 1
   have m:=m.eraseAt 1
   obtain rfl:=sj aq
   exact⟨_,Z,_,_,Z,_,aH,aG,(gt au aA),f.k Z,m,aI⟩
  ·refine Ai f Z aw ?_
   refine AG Z ?_
   obtain rfl:=sj aq
   obtain rfl:=ar _ rfl
   exact⟨_,Z,_,an,ao,au,f.k Z,m,av⟩
 ·rintro a w ⟨af,rfl,ag,ah,ai,aJ,f,m,aK⟩
  refine Ae ?_
  refine Ab f Z λa f=>Ac f Z λa f=>Aa ?_
  refine Ap ?_
  obtain rfl:=sj hd
  exact⟨[ah],f.g Z,f.d,_,[ai],aJ,m,_,_,Z,Z,aK⟩
theorem Wk.j0 {v0:Value}{x0:LI}{x1 x2:Int}(hW:Dc W)(m:Mem W G w (H))(h0:RSl (RI .u32) G v0 x0){y:Int}(hd:D.j0 x0 x1 x2=some y):
  Calls prog 96 #[v0,(iv x1),(.int .u32 x2)] w (Res W G H (λ_ Ho v=>Ho=[]∧v=(.int .u32 y))):=by
 refine Au (args:=[v0,(iv x1),(.int .u32 x2)]) (N:=35) [.tmp 6] func96 Z Z (lb Z) Z λa f=> ?_
 unfold D.j0 at hd
 refine Ae ?_
 refine Ac f Z λa f=>AD ?_
 refine Ab f Z λa f=> ?_
 have⟨aa,ab,hd⟩:=bind_some hd
 refine Bd f Z call38 (Wk.a m ab) λac w ad m a f=> ?_
 have h0:=rd1 ad h0
 refine Ac f Z λa f=>Aa ?_
 have⟨ae,af,hd⟩:=bind_some hd
 refine Ak ?_
 refine AO (λag a w=>∃ah:Int,ah=ag∧∃(ai:GH),GLe ac ai∧Fr a 35 [(0,v0),(2,(.int .u32 x2)),(7,(.int .u32 ah))]∧Mem W ai w (H)) af ⟨_,Z,_,gr,f.k Z,m⟩ ?_
 clear af f m
 rintro ag aj ak al a w ⟨ah,rfl,ai,am,f,m⟩
 have h0:=rd1 am h0
 refine Ak (Ae ?_)
 refine Ab f Z λa f=>Ac f Z λa f=>Aa (Ag (Ae ?_))
 refine Ab f Z λa f=> ?_
 have⟨an,ao,ak⟩:=bind_some ak
 refine AX f Z call47 (Wk.h hW m ao) λap aq ar w au m av a f=> ?_
 obtain⟨aw,ax,rfl,rfl,ay⟩:=av
 have h0:=rd1 au h0
 refine B4 0 m ay Z underlying89 f Z Z λa f=>Ab f Z λa f=>Aa ?_
 have⟨az,aA,ak⟩:=bind_some ak
 refine AM (λa w=>∃aB:Int,aB=az∧∃(aC:GH),GLe aq aC∧Fr a 35 [(0,v0),(2,(.int .u32 x2)),(7,(.int .u32 ah)),(8,(.int .u32 aB))]∧Mem W aC w (H)) ?_ ?_
 ·refine Ak ?_
  refine AO (λaD a w=>∃aE:Int,∃aF:Int,(aE,aF)=aD∧∃(aG:GH),GLe aq aG∧Fr a 35 [(0,v0),(2,(.int .u32 x2)),(7,(.int .u32 ah)),(8,(.int .u32 aE)),(15,aw),(16,(iv (an.length:Int))),(17,(iv aF))]∧Mem W aG w (ax::H)) aA ⟨_,_,Z,_,gr,f.k Z,m⟩ ?_
  clear aA f m
  rintro aD aH aI aJ a w ⟨aE,aF,rfl,aG,aK,f,m⟩
  have h0:=rd1 aK h0
  have ay:=od1 aK ay
  refine Ae ?_
  refine Ah f Z Z AR λa f=>Aa (Ag ?_)
  rcases Af aI with⟨aL,aI⟩|⟨aL,aI⟩
  ·refine Al f Z aL ?_
   refine Am ?_
   refine Ag (Ak (Ae ?_))
   have⟨aM,aN,aI⟩:=bind_some aI
   refine Bi 0 m ay Z T89 f Z Z Z aN λaO a aP f=>Bk 0 m ay Z Pl3 f Z Z aP aN λaQ a aR f=> ?_
   subst aR
   refine Ac f Z λa f=>Aa (Aj ?_)
   refine Ab f Z λa f=>Ab f Z λa f=>Ab f Z λa f=> ?_
   have⟨aS,aT,aI⟩:=bind_some aI
   refine A4 T62 f Z Z Z h0 aT λaU aV a aW aX f=> ?_
   subst aX
   refine Ax m BM f Z Z aW λa f=>Ab f Z λa f=>Ah f Z Z CC λa f=>Ah f Z Z Db λa f=>Ac f Z λa f=>Aa (Aj ?_)
   refine Ah f Z Z AB λa f=>Ab f Z λa f=>Aa ?_
   obtain rfl:=sj aI
   exact⟨_,Z,_,_,Z,_,aK,f.k Z,m⟩
  ·refine Ai f Z aL ?_
   refine AG Z ?_
   have m:Mem W aG w H:=Mem.drop (H':=[ax]) m
   obtain rfl:=sj aI
   obtain rfl:=aJ _ rfl
   exact⟨_,Z,_,aK,f.k Z,m⟩
 ·rintro a w ⟨aB,rfl,aC,aY,f,m⟩
  refine Ag (Ae ?_)
  refine Ab f Z λa f=>Ab f Z λa f=>Ah f Z Z Bj λa f=>Aa ?_
  rcases Af ak with⟨aZ,ak⟩|⟨aZ,ak⟩
  ·refine Al f Z aZ ?_
   refine Ae ?_
   refine Ab f Z λa f=>Ac f Z λa f=>Aa ?_
   refine Ap ?_
   obtain rfl:=sj ak
   obtain rfl:=al _ rfl
   obtain rfl:=sj hd
   exact⟨[(.int .u32 ah)],f.g Z,f.d,_,[],(gt ad (gt am (gt au aY))),m,Z,Z⟩
  ·refine Ai f Z aZ ?_
   refine Am ?_
   refine Aj ?_
   refine Ab f Z λa f=>Ac f Z λa f=>Aa ?_
   obtain rfl:=sj ak
   exact⟨_,Z,_,Z,_,(gt am (gt au aY)),f.k Z,m⟩
theorem Wk.X {v0:Value}{x0:LI}{x1:Int}(hW:Dc W)(m:Mem W G w (H))(h0:RSl (RI .u32) G v0 x0){y:Bool}(hd:D.X x0 x1=some y):
  Calls prog 72 #[v0,(.int .u32 x1)] w (Res W G H (λ_ Ho v=>Ho=[]∧v=(.bool y))):=by
 refine Au (args:=[v0,(.int .u32 x1)]) (N:=16) [.tmp 4] func72 Z Z (lb Z) Z λa f=> ?_
 unfold D.X at hd
 refine Ae ?_
 refine Ac f Z λa f=>AD ?_
 refine Ab f Z λa f=>Ah f Z Z Cm λa f=>Ab f Z λa f=> ?_
 have⟨aa,ab,hd⟩:=bind_some hd
 refine Bx 8 (λa w=>∃ac,GLe G ac∧Mem W ac w (H)∧Fr a 16 [(0,v0),(1,(.int .u32 x1)),(5,(.int .u32 x1)),(6,(.bool (x1 !=0))),(7,(.bool (x1 !=0))),(15,(.bool aa))]) ?_ ?_
 ·rcases Af ab with⟨ad,ab⟩|⟨ad,ab⟩
  ·refine Aq f ad ?_
   refine Ab f Z λa f=>Aq f ad ?_
   refine Ab f Z λa f=>Aq f ad ?_
   have⟨ae,af,ab⟩:=bind_some ab
   refine Bd f Z call87 (Wk.N hW m af) λag w ah m a f=> ?_
   have h0:=rd1 ah h0
   refine Aq f ad ?_
   refine Ab f Z λa f=>Aq f ad ?_
   have⟨ai,aj,ab⟩:=bind_some ab
   refine Bd f Z call96 (Wk.j0 hW m h0 aj) λak w al m a f=>Aq f ad ?_
   refine Ab f Z λa f=>Aq f ad ?_
   refine Ah f Z Z Bj λa f=>l_o f (AI (f.e Z) ad (f.e Z)) λa f=> ?_
   obtain rfl:=sj ab
   exact⟨_,(gt ah al),m,f.k Z⟩
  ·refine Ar f ad λa f=> ?_
   refine Ar f ad λa f=>Ar f ad λa f=>Ar f ad λa f=>Ar f ad λa f=>Ar f ad λa f=>Ar f ad λa f=>l_o f (AJ (f.e Z) ad (f.e Z)) λa f=> ?_
   obtain rfl:=sj ab
   exact⟨_,gr,m,f.k Z⟩
 ·rintro a w ⟨ac,am,m,f⟩
  refine Ac f Z λa f=>Aa ?_
  refine Ap ?_
  obtain rfl:=sj hd
  exact⟨[(.bool aa)],f.g Z,f.d,_,[],am,m,Z,Z⟩
end Go.Proofs.YteijfbpfjjjedaaGreatDoor
