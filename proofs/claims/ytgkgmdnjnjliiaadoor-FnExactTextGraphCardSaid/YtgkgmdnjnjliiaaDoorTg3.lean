/- Parts. -/
import Derived.Test.YtgkgmdnjnjliiaaDoorTg2
set_option linter.unusedVariables false
set_option linter.unusedSimpArgs false
set_option linter.unusedSectionVars false
namespace Go.Sx
open Go
abbrev num (n:Nat):List UInt8:=Lib.decDigits n
theorem Cx {n:Nat}(h:n<10):num n=[UInt8.ofNat (48+n)]:=Lib.decDigits_one h
theorem Cw {k:Nat}(h:k<7):num (10+k)=[49,UInt8.ofNat (48+k)]:=by
 rw[num,Lib.decDigits_two (by omega) (by omega)]
 have e1:(10+k)/10=1:=by omega
 have e2:(10+k)%10=k:=by omega
 rw[e1,e2];rfl
theorem Ck {n:Nat}(h:n<17):n<10∨∃k:Nat,k<7∧n=10+k:=by
 by_cases h1:n<10
 ·exact .inl h1
 ·exact .inr ⟨n-10,by omega,by omega⟩
theorem Bj {n:Nat}(h:n<17):1≤(num n).length∧(num n).length≤2:=by
 rcases Ck h with h1|⟨k,hk,rfl⟩
 ·rw[Cx h1];simp
 ·rw[Cw hk];simp
theorem digit_fin :∀n:Fin 10,(48:UInt8)≤UInt8.ofNat (48+n.val)∧UInt8.ofNat (48+n.val)≤57:=by decide+kernel
theorem num_digits {n:Nat}(h:n<17):∀b∈num n,(48:UInt8)≤b∧b≤57:=by
 intro b hb
 rcases Ck h with h1|⟨k,hk,rfl⟩
 ·rw[Cx h1,List.mem_singleton] at hb
  subst hb
  exact digit_fin ⟨n,h1⟩
 ·rw[Cw hk,List.mem_cons,List.mem_singleton] at hb
  rcases hb with rfl|rfl
  ·decide
  ·exact digit_fin ⟨k,by omega⟩
theorem CD {n:Nat}(h:n<17){c:UInt8}(hc:c<48∨57<c):c∉num n:=by
 intro hb
 have:=num_digits h c hb
 rcases hc with hc|hc
 ·exact absurd (UInt8.lt_of_lt_of_le hc this.1) (UInt8.lt_irrefl _)
 ·exact absurd (UInt8.lt_of_lt_of_le hc this.2) (UInt8.lt_irrefl _)
theorem readNumber_one :∀n:Fin 10,D.e (tx [UInt8.ofNat (48+n.val)])=some ((n.val:Int),true):=by
 intro n
 have h:∀n:Fin 10,D.d (tx [UInt8.ofNat (48+n.val)]) 10 64=some ((n.val:Int),false):=by decide+kernel
 have h2:Lib.itoa (n.val:Int)=[UInt8.ofNat (48+n.val)]:=by
  unfold Lib.itoa
  rw[if_neg (by omega),Int.toNat_natCast]
  exact Cx n.isLt
 unfold D.e
 rw[h n,bs]
 have h3:D.c (n.val:Int) 10=some (tx [UInt8.ofNat (48+n.val)]):=by
  unfold D.c
  rw[if_pos ⟨rfl,by omega,by omega⟩,h2]
 simp only[cF,h3,bs,BE,decide_true,Bool.not_true]
 rfl
theorem readNumber_two :∀k:Fin 7,D.e (tx [49,UInt8.ofNat (48+k.val)])=some (((10+k.val:Nat):Int),true):=by
 intro k
 have h:∀k:Fin 7,D.d (tx [49,UInt8.ofNat (48+k.val)]) 10 64=some (((10+k.val:Nat):Int),false):=by decide+kernel
 have h2:Lib.itoa ((10+k.val:Nat):Int)=[49,UInt8.ofNat (48+k.val)]:=by
  unfold Lib.itoa
  rw[if_neg (by omega),Int.toNat_natCast]
  exact Cw k.isLt
 unfold D.e
 rw[h k,bs]
 have h3:D.c ((10+k.val:Nat):Int) 10=some (tx [49,UInt8.ofNat (48+k.val)]):=by
  unfold D.c
  rw[if_pos ⟨rfl,by omega,by omega⟩,h2]
 simp only[cF,h3,bs,BE,decide_true,Bool.not_true]
 rfl
theorem Cf {n:Nat}(h:n<17):D.e (tx (num n))=some ((n:Int),true):=by
 rcases Ck h with h1|⟨k,hk,rfl⟩
 ·rw[Cx h1];exact readNumber_one ⟨n,h1⟩
 ·rw[Cw hk];exact readNumber_two ⟨k,hk⟩
theorem l1Read_one :∀n:Fin 10,D.f (tx [UInt8.ofNat (48+n.val)])=some ((n.val:Int),true):=by
 intro n
 unfold D.f
 have e0:∀n:Fin 10,((Be (tx [UInt8.ofNat (48+n.val)]) 0).bind λe_19=>some ((e_19==48)&&(decide ((1:Int)<((tx [UInt8.ofNat (48+n.val)]).size:Int)))))=some false:=by decide+kernel
 have e1:((decide (((tx [UInt8.ofNat (48+n.val)]).size:Int)<1))||(decide ((9:Int)<((tx [UInt8.ofNat (48+n.val)]).size:Int))))=false:=rfl
 rw[e1,cF,e0 n,bs,cF]
 rw[A0 (s':=((n.val:Int),1)),A9 (r:= .inl (n.val:Int))]
 ·rfl
 ·rfl
 ·have:∀n:Fin 10,(cond (decide ((0:Int)<((tx [UInt8.ofNat (48+n.val)]).size:Int))) ((Be (tx [UInt8.ofNat (48+n.val)]) 0).bind λe_93=>(cond (decide (e_93<48)) (some true) ((Be (tx [UInt8.ofNat (48+n.val)]) 0).bind λe_104=>some (decide ((57:Int)<e_104)))).bind λb_102=>cond b_102 (some (.inr (.inr (0,false)))) ((Be (tx [UInt8.ofNat (48+n.val)]) 0).bind λe_107=>some (.inl ((IntKind.i64.wrap ((IntKind.i64.wrap (0*10))+(IntKind.i64.wrap (IntKind.u8.wrap (e_107-48))))),(IntKind.i64.wrap (0+1)))))) (some (.inr (.inl 0))):Option ((Int×Int) ⊕ (Int ⊕ (Int×Bool))))=some (.inl ((n.val:Int),1)):=by decide+kernel
  exact this n
theorem l1Read_two :∀k:Fin 7,D.f (tx [49,UInt8.ofNat (48+k.val)])=some (((10+k.val:Nat):Int),true):=by
 intro n
 unfold D.f
 have e0:∀n:Fin 7,((Be (tx [49,UInt8.ofNat (48+n.val)]) 0).bind λe_19=>some ((e_19==48)&&(decide ((1:Int)<((tx [49,UInt8.ofNat (48+n.val)]).size:Int)))))=some false:=by decide+kernel
 have e1:((decide (((tx [49,UInt8.ofNat (48+n.val)]).size:Int)<1))||(decide ((9:Int)<((tx [49,UInt8.ofNat (48+n.val)]).size:Int))))=false:=rfl
 rw[e1,cF,e0 n,bs,cF]
 have st:∀(n:Fin 7) (i:Fin 2),(cond (decide (((i.val:Nat):Int)<((tx [49,UInt8.ofNat (48+n.val)]).size:Int))) ((Be (tx [49,UInt8.ofNat (48+n.val)]) ((i.val:Nat):Int)).bind λe_93=>(cond (decide (e_93<48)) (some true) ((Be (tx [49,UInt8.ofNat (48+n.val)]) ((i.val:Nat):Int)).bind λe_104=>some (decide ((57:Int)<e_104)))).bind λb_102=>cond b_102 (some (.inr (.inr (0,false)))) ((Be (tx [49,UInt8.ofNat (48+n.val)]) ((i.val:Nat):Int)).bind λe_107=>some (.inl ((IntKind.i64.wrap ((IntKind.i64.wrap ((if i.val=0 then 0 else 1)*10))+(IntKind.i64.wrap (IntKind.u8.wrap (e_107-48))))),(IntKind.i64.wrap (((i.val:Nat):Int)+1)))))) (some (.inr (.inl (if i.val=0 then 0 else 1)))):Option ((Int×Int) ⊕ (Int ⊕ (Int×Bool))))=some (.inl ((if i.val=0 then 1 else((10+n.val:Nat):Int)),((i.val+1:Nat):Int))):=by decide+kernel
 rw[A0 (s':=(1,1)),A0 (s':=(((10+n.val:Nat):Int),2)),A9 (r:= .inl ((10+n.val:Nat):Int))]
 ·rfl
 ·rfl
 ·exact st n 1
 ·exact st n 0
theorem CY {n:Nat}(h:n<17):D.f (tx (num n))=some ((n:Int),true):=by
 rcases Ck h with h1|⟨k,hk,rfl⟩
 ·rw[Cx h1];exact l1Read_one ⟨n,h1⟩
 ·rw[Cw hk];exact l1Read_two ⟨k,hk⟩
theorem C4 {n:Nat}(h:n<17):D.c (n:Int) 10=some (tx (num n)):=by
 unfold D.c
 rw[if_pos ⟨rfl,by omega,by omega⟩]
 unfold Lib.itoa
 rw[if_neg (by omega),Int.toNat_natCast]
theorem itoa_num {n:Nat}(h:n<17):D.p (n:Int)=some (tx (num n)):=by
 unfold D.p
 rw[if_pos (by omega),Int.toNat_natCast]
theorem Db {n:Nat}(h:n<17):D.b (n:Int)=some (tx (num n)):=by
 unfold D.b
 have hn:decide ((n:Int)<0)=false:=decide_eq_false (by omega)
 rw[hn]
 have st:∀(d:Fin 10) (c:Fin 2),(Bn (sOf ([(IntKind.u8.wrap (IntKind.i64.wrap (48+(Int.tmod ((10*c.val+d.val:Nat):Int) 10))))]:LI)) (⟨#[]⟩))=some (tx [UInt8.ofNat (48+d.val)])∧decide ((Int.tmod ((10*c.val+d.val:Nat):Int) 10)<0)=false∧IntKind.i64.wrap (Int.tdiv ((10*c.val+d.val:Nat):Int) 10)=(c.val:Int):=by decide+kernel
 rcases Ck h with h1|⟨k,hk,rfl⟩
 ·obtain⟨a1,a2,a3⟩:=st ⟨n,h1⟩ 0
  simp only[Fin.val_zero,Nat.mul_zero,Nat.zero_add] at a1 a2 a3
  rw[A0 (s':=(0,tx [UInt8.ofNat (48+n)])),A9 (r:=tx [UInt8.ofNat (48+n)]),Cx h1]
  ·rfl
  ·have:sEq (tx [UInt8.ofNat (48+n)]) ⟨#[]⟩=false:=by rw[BE];rfl
   simp only[this];rfl
  ·have:sEq (⟨#[]⟩:ByteArray) ⟨#[]⟩=true:=by rw[BE];rfl
   simp only[this,Bool.true_or,cT,a1,a2,a3,cF,bs]
   rfl
 ·obtain⟨a1,a2,a3⟩:=st ⟨k,by omega⟩ 1
  simp only[Fin.val_one,Nat.mul_one] at a1 a2 a3
  have b1:Bn (sOf ([(IntKind.u8.wrap (IntKind.i64.wrap (48+(Int.tmod 1 10))))]:LI)) (tx [UInt8.ofNat (48+k)])=some (tx [49,UInt8.ofNat (48+k)]):=rfl
  rw[A0 (s':=(1,tx [UInt8.ofNat (48+k)])),A0 (s':=(0,tx [49,UInt8.ofNat (48+k)])),A9 (r:=tx [49,UInt8.ofNat (48+k)]),Cw hk]
  ·rfl
  ·have:sEq (tx [49,UInt8.ofNat (48+k)]) ⟨#[]⟩=false:=by rw[BE];rfl
   simp only[this];rfl
  ·have:sEq (tx [UInt8.ofNat (48+k)]) ⟨#[]⟩=false:=by rw[BE];rfl
   have t1:((1:Int) !=0)=true:=rfl
   have t2:decide (Int.tmod 1 10<0)=false:=rfl
   simp only[this,t1,t2,Bool.false_or,cT,cF,b1,bs]
   rfl
  ·have:sEq (⟨#[]⟩:ByteArray) ⟨#[]⟩=true:=by rw[BE];rfl
   simp only[this,Bool.true_or,cT,a1,a2,a3,cF,bs]
   rfl
def etx (e:LI):List UInt8:=num (e.getD 0 0).toNat++45::num (e.getD 1 0).toNat
def txg (g:LL):List UInt8:=num g.length++58::(Ar g).flatMap λe=>32::etx e
theorem edge_nat {g:LL}(hg:GOk g){i:Nat}(hi:i<(Ar g).length):∃u v:Nat,(Ar g)[i]=[(u:Int),(v:Int)]∧u<v∧v<g.length∧adj g u v:=by
 obtain⟨u,v,h1,h2,h3,h4⟩:=(BF hg _).1 (List.getElem_mem hi)
 exact⟨u,v,h4,h3,hg.lt h1 h2,h2⟩
theorem etx_len {g:LL}(hg:GOk g){e:LI}(he:e∈Ar g):(etx e).length≤5:=by
 have h16:=hg.n16
 obtain⟨u,v,h1,h2,h3,rfl⟩:=(BF hg _).1 he
 have:=hg.lt h1 h2
 have a:=Bj (show u<17 by omega)
 have b:=Bj (show v<17 by omega)
 simp[etx];omega
theorem BK {g:LL}(hg:GOk g):(Ar g).length≤120:=by
 have h16:=hg.n16
 have e:=sides_eq hg
 have hb:∀u,u<g.length→(row g u).length≤15:=λu hu=>by
  have hn:((u:Int)::row g u).Nodup:=List.nodup_cons.2 ⟨hg.irr u hu,(hg.rows u hu).1.nodup⟩
  have h1:((u:Int)::row g u).length≤((List.range g.length).map Int.ofNat).length:=nodup_le hn (λx hx=>by
   rcases List.mem_cons.1 hx with rfl|hx
   ·exact List.mem_map.2 ⟨u,List.mem_range.2 hu,rfl⟩
   ·have:=(hg.rows u hu).2 x hx
    exact List.mem_map.2 ⟨x.toNat,List.mem_range.2 (by omega),by show ((x.toNat:Nat):Int)=x;omega⟩)
  simp at h1;omega
 have:=sumN_bd (c:=15) g.length hb
 omega
theorem flat_len {l:LL}{k:Nat}(h:∀e∈l,(etx e).length≤5)(hk:l.length≤k):(l.flatMap λe=>32::etx e).length≤6*k:=by
 induction l generalizing k with
 |nil=>simp
 |cons e l ih=>
  have h1:=h e (by simp)
  have h2:=ih (k:=k-1) (λx hx=>h x (by simp[hx])) (by simp at hk;omega)
  rw[List.flatMap_cons,List.length_append,List.length_cons]
  rw[List.length_cons] at hk
  omega
theorem CV {g:LL}(hg:GOk g)(i:Nat):(((Ar g).take i).flatMap λe=>32::etx e).length≤720:=by
 have:=BK hg
 exact flat_len (k:=120) (λe he=>etx_len hg (List.mem_of_mem_take he)) (by simp;omega)
theorem txg_len {g:LL}(hg:GOk g):(txg g).length≤723:=by
 have h16:=hg.n16
 have a:=Bj (show g.length<17 by omega)
 have:=CV hg (Ar g).length
 rw[List.take_length] at this
 simp only[txg,List.length_append,List.length_cons];omega
theorem take_flat {l:LL}{i:Nat}(hi:i<l.length):((l.take (i+1)).flatMap λe=>32::etx e)=(l.take i).flatMap (λe=>32::etx e)++32::etx l[i]:=by
 rw[List.take_succ_eq_append_getElem hi,List.flatMap_append];simp
theorem Co {g:LL}(hg:GOk g):D.X g=some (tx (txg g)):=by
 have h16:=hg.n16
 unfold D.X D.l
 have a:=Bj (show g.length<17 by omega)
 rw[Dx g hg.sh2,gB_true hg,bs,Bool.not_true,cF,bs,Db (by omega),bs]
 rw[show (⟨#[58]⟩:ByteArray)=tx [58] from rfl,BP (by simp;omega),bs,l1Edges_eq g hg,bs]
 refine(BI (λi=>(tx ((num g.length++[58])++((Ar g).take i).flatMap λe=>32::etx e),(i:Int))) (Ar g).length (tx (txg g)) (by simp) (λi hi=> ?_) ?_).trans rfl
 ·have hl:=CV hg i
  have h120:=BK hg
  generalize hT:((num g.length++[58])++((Ar g).take i).flatMap λe=>32::etx e)=T
  have hTl:T.length≤800:=by rw[←hT];simp only[List.length_append,List.length_singleton];omega
  obtain⟨u,v,e1,h1,h2,_⟩:=edge_nat hg hi
  have a1:=Bj (show u<17 by omega)
  have a2:=Bj (show v<17 by omega)
  have i0:idx [(u:Int),(v:Int)] 0=some (u:Int):=rfl
  have i1:idx [(u:Int),(v:Int)] 1=some (v:Int):=rfl
  have c1:(⟨#[32]⟩:ByteArray)=tx [32]:=rfl
  have c2:(⟨#[45]⟩:ByteArray)=tx [45]:=rfl
  have s1:Bn (tx T) (tx [32])=some (tx (T++[32])):=BP (by simp;omega)
  have s2:Bn (tx (T++[32])) (tx (num u))=some (tx ((T++[32])++num u)):=BP (by simp;omega)
  have s3:Bn (tx ((T++[32])++num u)) (tx [45])=some (tx (((T++[32])++num u)++[45])):=BP (by simp;omega)
  have s4:Bn (tx (((T++[32])++num u)++[45])) (tx (num v))=some (tx ((((T++[32])++num u)++[45])++num v)):=BP (by simp;omega)
  simp only[dlt hi,cT,c1,c2,s1,bs,AA hi,e1,i0,i1,Db (show u<17 by omega),Db (show v<17 by omega),s2,s3,s4,wq i]
  rw[take_flat hi,←List.append_assoc,hT,e1]
  simp[etx]
 ·simp only[Ba,cF,List.take_length]
  simp[txg]
theorem Cp {g:LL}(hg:GOk g):D.S g=some (tx (txg g)):=by
 have h16:=hg.n16
 unfold D.S
 have a:=Bj (show g.length<17 by omega)
 have hsb:∀T:List UInt8,sBy (tx T)=T.map λb=>(b.toNat:Int):=λT=>rfl
 rw[itoa_num (by omega),bs]
 rw[show (⟨#[58]⟩:ByteArray)=tx [58] from rfl,BP (by simp;omega),bs,AX (by rw[hsb];simp;omega),bs,Dw g hg,bs,List.nil_append]
 refine(BI (λi=>((i:Int),sBy (tx ((num g.length++[58])++((Ar g).take i).flatMap λe=>32::etx e)))) (Ar g).length (sBy (tx (txg g))) (by simp) (λi hi=> ?_) ?_).trans ?_
 ·have hl:=CV hg i
  have h120:=BK hg
  generalize hT:((num g.length++[58])++((Ar g).take i).flatMap λe=>32::etx e)=T
  have hTl:T.length≤800:=by rw[←hT];simp only[List.length_append,List.length_singleton];omega
  obtain⟨u,v,e1,h1,h2,_⟩:=edge_nat hg hi
  have a1:=Bj (show u<17 by omega)
  have a2:=Bj (show v<17 by omega)
  have i0:idx [(u:Int),(v:Int)] 0=some (u:Int):=rfl
  have i1:idx [(u:Int),(v:Int)] 1=some (v:Int):=rfl
  have c1:(⟨#[32]⟩:ByteArray)=tx [32]:=rfl
  have c2:(⟨#[45]⟩:ByteArray)=tx [45]:=rfl
  have s1:Bn (tx [32]) (tx (num u))=some (tx ([32]++num u)):=BP (by simp;omega)
  have s2:Bn (tx ([32]++num u)) (tx [45])=some (tx (([32]++num u)++[45])):=BP (by simp;omega)
  have s3:Bn (tx (([32]++num u)++[45])) (tx (num v))=some (tx ((([32]++num u)++[45])++num v)):=BP (by simp;omega)
  have s4:Ay (sBy (tx T)) (sBy (tx ((([32]++num u)++[45])++num v)))=some (sBy (tx T)++sBy (tx ((([32]++num u)++[45])++num v))):=AX (by rw[hsb,hsb];simp;omega)
  simp only[dlt hi,cT,c1,c2,s1,bs,AA hi,e1,i0,i1,C4 (show u<17 by omega),C4 (show v<17 by omega),s2,s3,s4,wq i]
  rw[take_flat hi,←List.append_assoc,hT,e1]
  simp only[hsb,List.map_append]
  simp[etx]
 ·simp only[Ba,cF,List.take_length]
  simp[txg]
 ·unfold D.Y
  have hm:sBy (tx (txg g))=(txg g).map λb=>(b.toNat:Int):=rfl
  have h1:sBy (tx (txg g))≠[]:=by rw[hm];simp[txg]
  have h2:((sBy (tx (txg g))).all λx=>decide (0≤x)&&decide (x<256))=true:=by
   rw[hm,List.all_eq_true]
   intro x hx
   obtain⟨b,_,rfl⟩:=List.mem_map.1 hx
   have:=b.toNat_lt
   simp;omega
  rw[if_pos ⟨h1,h2⟩,bs]
  refine congrArg some (byt_inj ?_)
  rw[hm]
  show (((txg g).map λb=>(b.toNat:Int)).map λn=>UInt8.ofNat n.toNat)=_
  rw[List.map_map]
  refine(List.map_congr_left λb _=> ?_).trans (List.map_id _)
  simp
end Go.Sx

namespace Go.Sx
open Go
theorem C9 {n:Nat}{e:LI}(h2:e.length=2)(h:B7 e n=true):CR n e:=by
 obtain⟨a,b,rfl⟩:∃a b,e=[a,b]:=by
  match e,h2 with
  |[a,b],_=>exact⟨a,b,rfl⟩
 obtain⟨h3,h4⟩:=(CB _ _).1 h
 have:=h4 a (by simp)
 have:=h4 b (by simp)
 have h5:a<b:=by simpa [Inc] using h3
 refine⟨a.toNat,b.toNat,?_,by omega,by omega⟩
 congr 1
 ·omega
 ·congr 1;omega
theorem edgeIn_iff {n:Nat}{e:LI}:CR n e↔e.length=2∧B7 e n=true:=
 ⟨fun⟨a,b,h1,h2,h3⟩=>by subst h1;exact⟨rfl,setB_edge h2 h3⟩,λh=>C9 h.1 h.2⟩
theorem Du (n:Int)(es:LL)(hE:∀e∈es,Sh e)(hl:es.length≤4294967295):
  ∃r,D.q n es=some r∧(r=([],false)∨∃g,r=(g,true)∧GOk g):=by
 unfold D.q
 rw[Dm,bs]
 by_cases hc:((!(decide ((1:Int)≤n)&&decide (n≤16)))||(decide ((120:Int)<(es.length:Int))))=true
 ·rw[hc];exact⟨_,rfl,.inl rfl⟩
 ·rw[Bool.not_eq_true] at hc
  rw[hc,cF]
  simp only[Bool.or_eq_false_iff,Bool.not_eq_eq_eq_not,Bool.not_false,Bool.and_eq_true,decide_eq_true_eq,decide_eq_false_iff_not] at hc
  obtain⟨m,rfl⟩:∃m:Nat,n=m:=⟨n.toNat,by omega⟩
  rw[l1Empty_eq m (by omega),bs]
  refine B6 (λt=>∃i:Nat,t.1=(i:Int)∧i≤es.length∧GOk t.2∧t.2.length=m) (λt=>es.length-t.1.toNat) (λr=>(∃g,r= .inl g∧GOk g)∨r= .inr ([],false)) ?_ ⟨0,rfl,Nat.zero_le _,GOk.empty (by omega) (by omega),by simp⟩ (λr hr=> ?_)
  ·rintro⟨_,g⟩ ⟨i,rfl,hi,hg,hgl⟩
   dsimp only at hg hgl ⊢
   by_cases hil:i<es.length
   ·have hs:=hE _ (List.getElem_mem hil)
    simp only[dlt hil,cT,AA hil,bs,l1Set_eq _ (m:Int) hs (by omega) (by omega),wq i]
    by_cases h2:es[i].length=2
    ·have e2:((es[i].length:Int) !=2)=false:=by simp;omega
     rw[e2,cF,bs]
     cases hb:B7 es[i] m
     ·exact⟨_,rfl,.inr rfl⟩
     ·obtain⟨a,b,e,h3,h4⟩:=C9 h2 hb
      obtain⟨g',k1,k2,k3,_⟩:=l1Link_ok hg (u:=a) (v:=b) (by omega) (by omega) (by omega)
      have i0:idx [(a:Int),(b:Int)] 0=some (a:Int):=rfl
      have i1:idx [(a:Int),(b:Int)] 1=some (b:Int):=rfl
      rw[Bool.not_true,cF,e,i0,i1,bs,bs,k1,bs]
      exact⟨_,rfl,⟨i+1,rfl,by omega,k2,by dsimp only;omega⟩,by dsimp only;omega⟩
    ·have e2:((es[i].length:Int) !=2)=true:=by simp;omega
     rw[e2]
     exact⟨_,rfl,.inr rfl⟩
   ·obtain rfl:i=es.length:=by omega
    simp only[Ba,cF]
    exact⟨_,rfl,.inl ⟨g,rfl,hg⟩⟩
  ·rcases hr with⟨g,rfl,hg⟩|rfl
   ·exact⟨_,rfl,.inr ⟨g,rfl,hg⟩⟩
   ·exact⟨_,rfl,.inl rfl⟩
theorem Dy (F:LI):D.N F=D.n F:=rfl
theorem FOk.zero (n:Nat):FOk (List.replicate n 0) n:=by
 have h0:∀u,(List.replicate n (0:Int)).getD u 0=0:=λu=>by
  rw[List.getD_eq_getElem?_getD,List.getElem?_replicate];split<;>rfl
 have hz:∀u w,nb (List.replicate n 0) u w=false:=λu w=>by unfold nb;rw[h0];exact Cg w
 exact⟨by simp,λu _=>by rw[h0];exact VS.zero,λu w _ h=>(by rw[hz] at h;cases h),λu _=>hz u u,λu w _ h=>(by rw[hz] at h;cases h)⟩
def Ej (es:LL)(u w:Nat):Prop:=[(u:Int),(w:Int)]∈es∨[(w:Int),(u:Int)]∈es
theorem CA (n:Int)(es:LL)(hE:∀e∈es,Sh e)(hl:es.length≤4294967295):
  ∃r,D.C n es=some r∧(r=([],false)∧¬(1≤n∧n≤16∧es.length≤120∧∀e∈es,CR n.toNat e)∨∃F,r=(grow F,true)∧FOk F n.toNat∧1≤n∧n≤16∧∀u w,u<n.toNat→(nb F u w=true↔Ej es u w)):=by
 unfold D.C
 rw[inRange_eq,bs]
 by_cases hc:((!(decide ((1:Int)≤n)&&decide (n≤16)))||(decide ((120:Int)<(es.length:Int))))=true
 ·rw[hc]
  refine⟨_,rfl,.inl ⟨rfl,λh=> ?_⟩⟩
  simp at hc
  omega
 ·rw[Bool.not_eq_true] at hc
  rw[hc,cF]
  simp only[Bool.or_eq_false_iff,Bool.not_eq_eq_eq_not,Bool.not_false,Bool.and_eq_true,decide_eq_true_eq,decide_eq_false_iff_not] at hc
  obtain⟨m,rfl⟩:∃m:Nat,n=m:=⟨n.toNat,by omega⟩
  rw[makeD_ok (Int.le_refl _) (by omega),bs,Int.toNat_natCast]
  refine B6 (λt=>∃i:Nat,t.2=(i:Int)∧i≤es.length∧FOk t.1 m∧(∀u w,u<m→(nb t.1 u w=true↔Ej (es.take i) u w))) (λt=>es.length-t.2.toNat)
   (λr=>(∃F,r= .inl F∧FOk F m∧∀u w,u<m→(nb F u w=true↔Ej es u w))∨r= .inr ([],false)∧¬∀e∈es,CR m e) ?_ ⟨0,rfl,Nat.zero_le _,FOk.zero m,λu w _=>by
    have:nb (List.replicate m 0) u w=false:=by
     unfold nb
     have h0:(List.replicate m (0:Int)).getD u 0=0:=by rw[List.getD_eq_getElem?_getD,List.getElem?_replicate];split<;>rfl
     rw[h0];exact Cg w
    rw[this];simp[Ej]⟩ (λr hr=> ?_)
  ·rintro⟨F,_⟩ ⟨i,rfl,hi,hF,hn⟩
   dsimp only at hF hn ⊢
   by_cases hil:i<es.length
   ·have hs:=hE _ (List.getElem_mem hil)
    simp only[dlt hil,cT,AA hil,bs,increasing_eq _ (m:Int) hs (by omega) (by omega),wq i]
    by_cases h2:es[i].length=2
    ·have e2:((es[i].length:Int) !=2)=false:=by simp;omega
     rw[e2,cF,bs]
     cases hb:B7 es[i] m
     ·refine⟨_,rfl,.inr ⟨rfl,λh=> ?_⟩⟩
      have:=(edgeIn_iff.1 (h _ (List.getElem_mem hil))).2
      rw[hb] at this;cases this
     ·obtain⟨a,b,e,h3,h4⟩:=C9 h2 hb
      obtain⟨y,k1,k2,k3,k4⟩:=nets_join_ok (show m≤16 by omega) hF.len hF.vs (v:=a) (t:=b) (by omega) h4 (by omega)
      have i0:idx [(a:Int),(b:Int)] 0=some (a:Int):=rfl
      have i1:idx [(a:Int),(b:Int)] 1=some (b:Int):=rfl
      rw[Bool.not_true,cF,e,i0,i1,bs,bs,k1,bs]
      have hk:∀u w,u<m→(nb y u w=true↔Ej (es.take (i+1)) u w):=λu w hu=>by
       rw[k4 u w hu,List.take_succ_eq_append_getElem hil,e]
       simp only[Bool.or_eq_true,Bool.and_eq_true,decide_eq_true_eq,hn u w hu,Ej,List.mem_append,List.mem_singleton,List.cons.injEq,and_true]
       constructor
       ·rintro((h|h)|⟨rfl,rfl⟩)
        ·rcases h with h|h
         ·exact .inl (.inl h)
         ·exact .inr (.inl h)
        ·obtain⟨rfl,rfl⟩:=h;exact .inl (.inr ⟨rfl,rfl⟩)
        ·exact .inr (.inr ⟨rfl,rfl⟩)
       ·rintro((h|⟨h,h'⟩)|(h|⟨h,h'⟩))
        ·exact .inl (.inl (.inl h))
        ·exact .inl (.inr ⟨by omega,by omega⟩)
        ·exact .inl (.inl (.inr h))
        ·exact .inr ⟨by omega,by omega⟩
      refine⟨_,rfl,⟨i+1,rfl,by omega,⟨k2,k3,λu w hu h=> ?_,λu hu=> ?_,λu w hu h=> ?_⟩,hk⟩,by dsimp only;omega⟩
      ·rw[k4 u w hu] at h
       simp only[Bool.or_eq_true,Bool.and_eq_true,decide_eq_true_eq] at h
       rcases h with(h|h)|h
       ·exact hF.lt u w hu h
       ·omega
       ·omega
      ·rw[k4 u u hu,hF.irr u hu]
       simp;omega
      ·have hw:w<m:=by
        rw[k4 u w hu] at h
        simp only[Bool.or_eq_true,Bool.and_eq_true,decide_eq_true_eq] at h
        rcases h with(h|h)|h
        ·exact hF.lt u w hu h
        ·omega
        ·omega
       rw[hk u w hu] at h
       rw[hk w u hw]
       exact h.symm
    ·have e2:((es[i].length:Int) !=2)=true:=by simp;omega
     rw[e2]
     refine⟨_,rfl,.inr ⟨rfl,λh=> ?_⟩⟩
     exact h2 (edgeIn_iff.1 (h _ (List.getElem_mem hil))).1
   ·obtain rfl:i=es.length:=by omega
    rw[List.take_length] at hn
    simp only[Ba,cF]
    exact⟨_,rfl,.inl ⟨F,rfl,hF,hn⟩⟩
  ·rcases hr with⟨F,rfl,hF,hn⟩|⟨rfl,hn⟩
   ·refine⟨(grow F,true),?_,.inr ⟨F,rfl,hF,by omega,by omega,hn⟩⟩
    show (D.N F).bind _=_
    rw[Dy,nets_graph_eq F (by rw[hF.len];omega) (λu hu=>hF.vs u (by rw[hF.len] at hu;exact hu))]
    rfl
   ·exact⟨_,rfl,.inl ⟨rfl,λh=>hn (by simpa using h.2.2.2)⟩⟩
theorem GOk.same {g h:LL}(hg:GOk g)(hh:GOk h)(hl:g.length=h.length)(ha:∀u w:Nat,u<g.length→(adj g u w↔adj h u w)):g=h:=by
 rw[←grow_of hg,←grow_of hh]
 congr 1
 refine FOk.ext (n:=g.length) (by simp) (by simp[hl]) (FOk.of hg).vs (by have:=(FOk.of hh).vs;rw[←hl] at this;exact this) (λu w hu=> ?_)
 rw[Bool.eq_iff_iff,CJ hg hu,CJ hh (by omega)]
 exact ha u w hu
theorem CT {g:LL}(hg:GOk g):∀e∈Ar g,CR g.length e:=by
 intro e he
 obtain⟨u,v,h1,h2,h3,rfl⟩:=(BF hg _).1 he
 exact⟨u,v,rfl,h3,hg.lt h1 h2⟩
theorem edges_ej {g:LL}(hg:GOk g){u w:Nat}(hu:u<g.length):Ej (Ar g) u w↔adj g u w:=by
 unfold Ej
 rw[BF hg,BF hg]
 constructor
 ·rintro(⟨a,b,h1,h2,h3,e⟩|⟨a,b,h1,h2,h3,e⟩)
  ·simp only[List.cons.injEq,and_true] at e
   obtain⟨e1,e2⟩:=e
   obtain rfl:u=a:=by omega
   obtain rfl:w=b:=by omega
   exact h2
  ·simp only[List.cons.injEq,and_true] at e
   obtain⟨e1,e2⟩:=e
   obtain rfl:w=a:=by omega
   obtain rfl:u=b:=by omega
   exact hg.sym w u h1 h2
 ·intro h
  have hw:=hg.lt hu h
  rcases Nat.lt_trichotomy u w with h1|h1|h1
  ·exact .inl ⟨u,w,hu,h,h1,rfl⟩
  ·subst h1;exact absurd h (hg.irr u hu)
  ·exact .inr ⟨w,u,hw,hg.sym u w hu h,h1,rfl⟩
theorem Sh.two {a b:Int}:Sh [a,b]:=by simp[Sh]
theorem edges_sh {g:LL}(hg:GOk g):∀e∈Ar g,Sh e:=by
 intro e he
 obtain⟨u,v,h1,h2,h3,rfl⟩:=(BF hg _).1 he
 exact Sh.two
theorem Dc {g:LL}(hg:GOk g):D.q (g.length:Int) (Ar g)=some (g,true):=by
 obtain⟨h,e,h1,h2,h3⟩:=GraphOf_ok g.length (Ar g) hg.n1 hg.n16 (BK hg) (CT hg)
 rw[e]
 have:g=h:=hg.same h1 h2.symm (λu w hu=>by
  rw[h3,←edges_ej hg hu]
  unfold Ej
  constructor
  ·rintro(h|h)
   ·obtain⟨a,b,e,h4,_⟩:=CT hg _ h
    simp only[List.cons.injEq,and_true] at e
    exact .inl ⟨h,by omega⟩
   ·obtain⟨a,b,e,h4,_⟩:=CT hg _ h
    simp only[List.cons.injEq,and_true] at e
    exact .inr ⟨h,by omega⟩
  ·rintro(h|h)
   ·exact .inl h.1
   ·exact .inr h.1)
 rw[←this]
theorem Dd {g:LL}(hg:GOk g):D.C (g.length:Int) (Ar g)=some (g,true):=by
 have h120:=BK hg
 have n1:=hg.n1
 have n16:=hg.n16
 obtain⟨r,e,h⟩:=CA (g.length:Int) (Ar g) (edges_sh hg) (by omega)
 rw[e]
 rcases h with⟨_,h⟩|⟨F,rfl,hF,_,_,hn⟩
 ·exact absurd ⟨by omega,by omega,h120,by simpa using CT hg⟩ h
 ·rw[Int.toNat_natCast] at hF hn
  have:g.map mk=F:=FOk.ext (n:=g.length) (by simp) hF.len (FOk.of hg).vs hF.vs (λu w hu=>by
   rw[Bool.eq_iff_iff,CJ hg hu,hn u w hu,edges_ej hg hu])
  rw[←this,grow_of hg]
end Go.Sx

namespace Go.Sx
open Go
theorem Cu {s:ByteArray}(hs:(byt s).length≤1048576)(c:UInt8):D.o s (c.toNat:Int)=some ((spl c (byt s)).map tx):=by
 obtain⟨w,e,h⟩:=l1Split_ok hs c
 rw[e,←h,List.map_map]
 congr 1
 refine(List.map_id w).symm.trans (List.map_congr_left λx _=> ?_)
 exact(CN x).symm
theorem BS {s:ByteArray}(hs:(byt s).length≤1048576)(c:UInt8):D.j s (tx [c])=some (tx (Lib.cut (byt s) [c]).1,tx (Lib.cut (byt s) [c]).2.1,(Lib.cut (byt s) [c]).2.2):=by
 unfold D.j
 rw[if_pos (by rw[A5];omega)]
theorem CC {s:ByteArray}(hs:(byt s).length≤1048576)(c:UInt8):D.r s (tx [c])=some ((spl c (byt s)).map tx):=by
 unfold D.r
 rw[if_pos ⟨by rw[A5];omega,by rw[size_tx];simp⟩,←split_eq c s,List.map_map]
 congr 1
 refine(List.map_id _).symm.trans (List.map_congr_left λx _=> ?_)
 exact(CN x).symm
theorem cut_len (x:List UInt8)(c:UInt8):(Lib.cut x [c]).1.length≤x.length∧(Lib.cut x [c]).2.1.length≤x.length:=by
 by_cases h:c∈x
 ·obtain⟨a,b,rfl,ha⟩:=spl_has h
  rw[cut_app ha];simp;omega
 ·rw[cut_no h];simp
theorem spl_flat {x:List UInt8}(hx:(32:UInt8)∉x):∀{l:LL},(∀e∈l,(32:UInt8)∉etx e)→spl 32 (x++l.flatMap λe=>32::etx e)=x::l.map etx:=by
 intro l
 induction l generalizing x with
 |nil=>intro _;rw[List.flatMap_nil,List.append_nil,spl_no hx];rfl
 |cons e l ih=>
  intro h
  rw[List.flatMap_cons,List.cons_append,Dk hx,ih (h e (by simp)) (λz hz=>h z (by simp[hz]))]
  rfl
theorem etx_nat (u v:Nat):etx [(u:Int),(v:Int)]=num u++45::num v:=rfl
theorem etx_no {g:LL}(hg:GOk g):∀e∈Ar g,(32:UInt8)∉etx e:=by
 have h16:=hg.n16
 intro e he
 obtain⟨u,v,h1,h2,h3,rfl⟩:=(BF hg _).1 he
 have:=hg.lt h1 h2
 rw[etx_nat]
 have a:=CD (show u<17 by omega) (c:=32) (.inl (by decide))
 have b:=CD (show v<17 by omega) (c:=32) (.inl (by decide))
 simp[a,b]
theorem Ej2 {g:LL}(hg:GOk g){i:Nat}(hi:i<(Ar g).length):∃u v:Nat,(Ar g)[i]=[(u:Int),(v:Int)]∧u<17∧v<17:=by
 have h16:=hg.n16
 obtain⟨u,v,h1,h2,h3,_⟩:=edge_nat hg hi
 exact⟨u,v,h1,by omega,by omega⟩
theorem C6 {s:ByteArray}(hs:(byt s).length≤1048576):∃r,D.s s=some r∧(r=([],false)∨∃g,r=(g,true)∧GOk g∧byt s=txg g):=by
 unfold D.s
 rw[A5]
 by_cases h8:(800:Int)<((byt s).length:Int)
 ·rw[decide_eq_true h8];exact⟨_,rfl,.inl rfl⟩
 rw[decide_eq_false h8,cF,show (32:Int)=((32:UInt8).toNat:Int) from rfl,Cu hs,bs]
 have hW:∀x∈(spl 32 (byt s)).map tx,(byt x).length≤800:=λx hx=>by
  obtain⟨y,hy,rfl⟩:=List.mem_map.1 hx
  have:=spl_part 32 (byt s) y hy
  rw[A8];omega
 have hWl:((spl 32 (byt s)).map tx).length≤801:=by have:=spl_len 32 (byt s);rw[List.length_map];omega
 have hW1:1≤((spl 32 (byt s)).map tx).length:=by
  have:=List.length_pos_iff.2 (spl_ne 32 (byt s));rw[List.length_map];exact this
 generalize (spl 32 (byt s)).map tx=w at hW hWl hW1
 have i0:idx w 0=some (w[0]'(by omega)):=AA (i:=0) (by omega)
 have hx:=hW _ (List.getElem_mem (show 0<w.length by omega))
 generalize w[0]'(by omega)=x at i0 hx
 simp only[i0,bs,A5 x]
 by_cases h2:((byt x).length:Int)<2
 ·rw[decide_eq_true h2];exact⟨_,rfl,.inl rfl⟩
 rw[decide_eq_false h2,cF,w64 (x:=((byt x).length:Int)-1) (by omega) (by omega)]
 have hn:((byt x).length:Int)-1=(((byt x).length-1:Nat):Int):=by omega
 rw[hn,Cj (i:=(byt x).length-1) (by omega),bs,bs]
 cases ((((byt x)[(byt x).length-1]'(by omega)).toNat:Int) !=58)
 rotate_left
 ·exact⟨_,rfl,.inl rfl⟩
 rw[cF,show (0:Int)=((0:Nat):Int) from rfl,C0 (Nat.zero_le _) (Nat.sub_le _ _),bs]
 obtain⟨⟨n,ok⟩,e1⟩:=C5 (tx (((byt x).take ((byt x).length-1)).drop 0))
 rw[e1,bs]
 refine B6 (λt=>∃i:Nat,t.2=(i:Int)∧i≤w.length∧t.1.length≤i∧∀e∈t.1,Sh e) (λt=>w.length-t.2.toNat)
  (λr=>(∃l:LL,r= .inl l∧l.length≤801∧∀e∈l,Sh e)∨r= .inr ([],false)) ?_ ⟨1,rfl,hW1,by simp,by simp⟩ (λr hr=> ?_)
 ·rintro⟨l,_⟩ ⟨i,rfl,hi,hl,hE⟩
  dsimp only at hl hE ⊢
  by_cases hil:i<w.length
  ·have hwi:=hW _ (List.getElem_mem hil)
   simp only[dlt hil,cT,AA hil,bs]
   rw[show (45:Int)=((45:UInt8).toNat:Int) from rfl,Cu (by omega),bs]
   generalize (spl 45 (byt w[i])).map tx=z
   by_cases hz:z.length=2
   ·have e2:((z.length:Int) !=2)=false:=by simp;omega
    have j0:idx z 0=some (z[0]'(by omega)):=AA (i:=0) (by omega)
    have j1:idx z 1=some (z[1]'(by omega)):=AA (i:=1) (by omega)
    obtain⟨⟨u,o1⟩,r1⟩:=C5 (z[0]'(by omega))
    obtain⟨⟨v,o2⟩,r2⟩:=C5 (z[1]'(by omega))
    simp only[e2,cF,show ((0:Nat):Int)=0 from rfl,j0,j1,bs,r1,r2,wq i]
    cases hb:(!o1|| !o2)
    ·rw[cF,AX (by simp;omega),bs]
     refine⟨_,rfl,⟨i+1,rfl,by omega,by simp;omega,λe he=> ?_⟩,by dsimp only;omega⟩
     rcases List.mem_append.1 he with he|he
     ·exact hE e he
     ·rw[List.mem_singleton.1 he];exact Sh.two
    ·exact⟨_,rfl,.inr rfl⟩
   ·have e2:((z.length:Int) !=2)=true:=by simp;omega
    rw[e2]
    exact⟨_,rfl,.inr rfl⟩
  ·obtain rfl:i=w.length:=by omega
   simp only[Ba,cF]
   exact⟨_,rfl,.inl ⟨l,rfl,by omega,hE⟩⟩
 ·rcases hr with⟨l,rfl,hl,hE⟩|rfl
  ·obtain⟨r,e3,h3⟩:=Du n l hE (by omega)
   dsimp only
   rw[e3,bs]
   rcases h3 with rfl|⟨g,rfl,hg⟩
   ·dsimp only
    rw[Bool.not_false,Bool.or_true,cT]
    exact⟨_,rfl,.inl rfl⟩
   ·dsimp only
    rw[Bool.not_true,Bool.or_false,Co hg,bs,BE]
    cases ok
    ·exact⟨_,rfl,.inl rfl⟩
    ·by_cases ht:byt (tx (txg g))=byt s
     ·rw[decide_eq_true ht];exact⟨_,rfl,.inr ⟨g,rfl,hg,ht.symm⟩⟩
     ·rw[decide_eq_false ht];exact⟨_,rfl,.inl rfl⟩
  ·exact⟨_,rfl,.inl rfl⟩
theorem C8 {g:LL}(hg:GOk g):D.s (tx (txg g))=some (g,true):=by
 have h16:=hg.n16
 have h120:=BK hg
 have hl:=txg_len hg
 have hn:=Bj (show g.length<17 by omega)
 unfold D.s
 rw[A5,A8]
 have h8:¬(800:Int)<((txg g).length:Int):=by omega
 rw[decide_eq_false h8,cF,show (32:Int)=((32:UInt8).toNat:Int) from rfl,Cu (by rw[A8];omega),bs,A8]
 have hs:spl 32 (txg g)=(num g.length++[58])::(Ar g).map etx:=by
  have:txg g=(num g.length++[58])++(Ar g).flatMap λe=>32::etx e:=by simp[txg]
  rw[this]
  refine spl_flat ?_ (etx_no hg)
  have:=CD (show g.length<17 by omega) (c:=32) (.inl (by decide))
  simp[this]
 rw[hs,List.map_cons]
 have i0:idx (tx (num g.length++[58])::((Ar g).map etx).map tx) 0=some (tx (num g.length++[58])):=rfl
 simp only[i0,bs]
 have hz:(tx (num g.length++[58])).size=(num g.length).length+1:=by rw[size_tx];simp
 rw[hz]
 have d2:decide ((((num g.length).length+1:Nat):Int)<2)=false:=decide_eq_false (by omega)
 have w1:IntKind.i64.wrap ((((num g.length).length+1:Nat):Int)-1)=(((num g.length).length:Nat):Int):=by rw[w64 (by omega) (by omega)];omega
 have s1:Be (tx (num g.length++[58])) (((num g.length).length:Nat):Int)=some 58:=by
  rw[Cj (by rw[A8];simp)]
  simp[A8]
 have s2:sPart (tx (num g.length++[58])) 0 (((num g.length).length:Nat):Int)=some (tx (num g.length)):=by
  have:=C0 (s:=tx (num g.length++[58])) (Nat.zero_le (num g.length).length) (by rw[A8];simp)
  rw[A8] at this
  simpa using this
 have b58:((58:Int) !=58)=false:=rfl
 simp only[d2,cF,w1,s1,b58,bs,s2,CY (show g.length<17 by omega)]
 refine(BI (λi=>((Ar g).take i,((i+1:Nat):Int))) (Ar g).length (.inl (Ar g)) (by simp) (λi hi=> ?_) ?_).trans ?_
 ·obtain⟨u,v,e1,h1,h2⟩:=Ej2 hg hi
  have hlt:i+1<(tx (num g.length++[58])::((Ar g).map etx).map tx).length:=by simp;omega
  have hx:idx (tx (num g.length++[58])::((Ar g).map etx).map tx) ((i+1:Nat):Int)=some (tx (num u++45::num v)):=by
   rw[AA hlt]
   simp[e1,etx_nat]
  have hlen:(num u++45::num v).length≤1048576:=by
   have:=Bj h1;have:=Bj h2;simp;omega
  have hsp:D.o (tx (num u++45::num v)) 45=some [tx (num u),tx (num v)]:=by
   rw[show (45:Int)=((45:UInt8).toNat:Int) from rfl,Cu (by rw[A8];exact hlen),A8,Dk (CD h1 (.inl (by decide))),spl_no (CD h2 (.inl (by decide)))]
   rfl
  have j0:idx [tx (num u),tx (num v)] 0=some (tx (num u)):=rfl
  have j1:idx [tx (num u),tx (num v)] 1=some (tx (num v)):=rfl
  have l2:((([tx (num u),tx (num v)]).length:Int) !=2)=false:=rfl
  simp only[dlt hlt,cT,hx,bs,hsp,l2,cF,j0,j1,CY h1,CY h2,Bool.not_true,Bool.or_self,wi (show i+1<4611686018427387904 by omega)]
  rw[AX (by simp;omega),bs,List.take_succ_eq_append_getElem hi,e1]
 ·have:(((Ar g).length+1:Nat):Int)=(((tx (num g.length++[58])::((Ar g).map etx).map tx).length:Nat):Int):=by simp
  simp only[this,Ba,cF,List.take_length]
 ·dsimp only
  rw[Dc hg,bs]
  dsimp only
  rw[Co hg,bs,BE]
  simp
theorem C7 {s:ByteArray}(hs:(byt s).length≤1048576):∃r,D.k s=some r∧(r=([],false)∨∃g,r=(g,true)∧GOk g∧byt s=txg g):=by
 unfold D.k
 rw[show (⟨#[58]⟩:ByteArray)=tx [58] from rfl,BS hs,bs]
 have hcl:=cut_len (byt s) 58
 generalize Lib.cut (byt s) [58]=c at hcl
 obtain⟨a,b,fo⟩:=c
 dsimp only at hcl ⊢
 obtain⟨⟨n,ok⟩,e1⟩:=Cm (tx a)
 rw[e1,bs,A5]
 by_cases hc:(((decide ((800:Int)<((byt s).length:Int)))||(!fo))||(!ok))=true
 ·rw[hc];exact⟨_,rfl,.inl rfl⟩
 rw[Bool.not_eq_true] at hc
 rw[hc,cF]
 simp only[Bool.or_eq_false_iff,decide_eq_false_iff_not] at hc
 have h8:=hc.1.1
 rw[show (⟨#[32]⟩:ByteArray)=tx [32] from rfl,CC (by rw[A8];omega),bs,A8]
 have hW:∀x∈(spl 32 b).map tx,(byt x).length≤800:=λx hx=>by
  obtain⟨y,hy,rfl⟩:=List.mem_map.1 hx
  have:=spl_part 32 b y hy
  rw[A8];omega
 have hWl:((spl 32 b).map tx).length≤801:=by have:=spl_len 32 b;rw[List.length_map];omega
 generalize (spl 32 b).map tx=w at hW hWl
 refine B6 (λt=>∃i:Nat,t.2=(i:Int)∧i≤w.length∧t.1.length≤i∧∀e∈t.1,Sh e) (λt=>w.length-t.2.toNat)
  (λr=>(∃l:LL,r= .inl l∧l.length≤801∧∀e∈l,Sh e)∨r= .inr ([],false)) ?_ ⟨0,rfl,Nat.zero_le _,by simp,by simp⟩ (λr hr=> ?_)
 ·rintro⟨l,_⟩ ⟨i,rfl,hi,hl,hE⟩
  dsimp only at hl hE ⊢
  by_cases hil:i<w.length
  ·have hwi:=hW _ (List.getElem_mem hil)
   simp only[dlt hil,cT,AA hil,bs,wq i]
   cases ((i:Int)==0)
   ·rw[cF,show (⟨#[45]⟩:ByteArray)=tx [45] from rfl,BS (by omega),bs]
    generalize Lib.cut (byt w[i]) [45]=c
    obtain⟨p,q,f⟩:=c
    dsimp only
    obtain⟨⟨u,o1⟩,r1⟩:=Cm (tx p)
    obtain⟨⟨v,o2⟩,r2⟩:=Cm (tx q)
    rw[r1,bs,r2,bs]
    dsimp only
    cases hb:(!o1|| !o2)
    ·rw[cF,AX (by simp;omega),bs]
     refine⟨_,rfl,⟨i+1,rfl,by omega,by simp;omega,λe he=> ?_⟩,by dsimp only;omega⟩
     rcases List.mem_append.1 he with he|he
     ·exact hE e he
     ·rw[List.mem_singleton.1 he];exact Sh.two
    ·exact⟨_,rfl,.inr rfl⟩
   ·rw[cT]
    exact⟨_,rfl,⟨i+1,rfl,by omega,by dsimp only;omega,hE⟩,by dsimp only;omega⟩
  ·obtain rfl:i=w.length:=by omega
   simp only[Ba,cF]
   exact⟨_,rfl,.inl ⟨l,rfl,by omega,hE⟩⟩
 ·rcases hr with⟨l,rfl,hl,hE⟩|rfl
  ·obtain⟨r,e3,h3⟩:=CA n l hE (by omega)
   dsimp only
   rw[e3,bs]
   rcases h3 with⟨rfl,_⟩|⟨F,rfl,hF,n1,n16,_⟩
   ·exact⟨_,rfl,.inl rfl⟩
   ·dsimp only
    have hg:=GOk.grow hF (by omega) (by omega)
    rw[Bool.not_true,cF,Cp hg,bs,BE,bs]
    by_cases ht:byt (tx (txg (grow F)))=byt s
    ·rw[decide_eq_true ht];exact⟨_,rfl,.inr ⟨_,rfl,hg,ht.symm⟩⟩
    ·rw[decide_eq_false ht];exact⟨_,rfl,.inl rfl⟩
  ·exact⟨_,rfl,.inl rfl⟩
theorem Dg {g:LL}(hg:GOk g):D.k (tx (txg g))=some (g,true):=by
 have h16:=hg.n16
 have h120:=BK hg
 have hl:=txg_len hg
 have hn:=Bj (show g.length<17 by omega)
 unfold D.k
 rw[show (⟨#[58]⟩:ByteArray)=tx [58] from rfl,BS (by rw[A8];omega),bs,A8]
 have hc:Lib.cut (txg g) [58]=(num g.length,(Ar g).flatMap (λe=>32::etx e),true):=cut_app (CD (by omega) (.inr (by decide))) _
 have hfl:((Ar g).flatMap (λe=>32::etx e)).length≤720:=by
  have:=CV hg (Ar g).length;rwa [List.take_length] at this
 rw[hc]
 dsimp only
 rw[Cf (by omega),bs,A5,A8]
 have h8:decide ((800:Int)<((txg g).length:Int))=false:=decide_eq_false (by omega)
 rw[h8,show (⟨#[32]⟩:ByteArray)=tx [32] from rfl,CC (by rw[A8];omega),A8]
 have hs:spl 32 ((Ar g).flatMap λe=>32::etx e)=[]::(Ar g).map etx:=spl_flat (x:=[]) (by simp) (etx_no hg)
 rw[hs,List.map_cons,bs]
 dsimp only[Bool.not_true,Bool.or_self,cF]
 have f0:(((Ar g).take 0,(0:Int)):LL×Int)=([],0):=by simp
 rw[A0 (s':=(([]:LL),1))]
 rotate_left
 ·have hp:decide ((0:Int)<(((tx []::((Ar g).map etx).map tx).length:Nat):Int))=true:=decide_eq_true (by simp)
  have i0:idx (tx []::((Ar g).map etx).map tx) 0=some (tx []):=rfl
  simp only[hp,cT,i0,bs]
  rfl
 refine(BI (λi=>((Ar g).take i,((i+1:Nat):Int))) (Ar g).length (.inl (Ar g)) (by simp) (λi hi=> ?_) ?_).trans ?_
 ·obtain⟨u,v,e1,h1,h2⟩:=Ej2 hg hi
  have hlt:i+1<(tx []::((Ar g).map etx).map tx).length:=by simp;omega
  have hx:idx (tx []::((Ar g).map etx).map tx) ((i+1:Nat):Int)=some (tx (num u++45::num v)):=by
   rw[AA hlt]
   simp[e1,etx_nat]
  have hlen:(num u++45::num v).length≤1048576:=by
   have:=Bj h1;have:=Bj h2;simp;omega
  have hsp:D.j (tx (num u++45::num v)) ⟨#[45]⟩=some (tx (num u),tx (num v),true):=by
   rw[show (⟨#[45]⟩:ByteArray)=tx [45] from rfl,BS (by rw[A8];exact hlen),A8,cut_app (CD h1 (.inl (by decide)))]
  have z0:(((i+1:Nat):Int)==0)=false:=by simp;omega
  simp only[dlt hlt,cT,hx,bs,z0,cF,hsp,Cf h1,Cf h2,Bool.not_true,Bool.or_self,wi (show i+1<4611686018427387904 by omega)]
  rw[AX (by simp;omega),bs,List.take_succ_eq_append_getElem hi,e1]
 ·have:(((Ar g).length+1:Nat):Int)=(((tx []::((Ar g).map etx).map tx).length:Nat):Int):=by simp
  simp only[this,Ba,cF,List.take_length]
 ·dsimp only
  rw[Dd hg,bs]
  dsimp only
  rw[Cp hg,bs,BE]
  simp
theorem TextGraph_both {s:ByteArray}(hs:(byt s).length≤1048576):∃r,D.s s=some r∧D.k s=some r∧(r=([],false)∨∃g,r=(g,true)∧GOk g∧byt s=txg g):=by
 obtain⟨r,e,h⟩:=C6 hs
 rcases h with rfl|⟨g,rfl,hg,ht⟩
 ·obtain⟨r',e',h'⟩:=C7 hs
  rcases h' with rfl|⟨g,rfl,hg,ht⟩
  ·exact⟨_,e,e',.inl rfl⟩
  ·rw[←CN s,ht,C8 hg] at e
   cases e
 ·refine⟨_,e,?_,.inr ⟨g,rfl,hg,ht⟩⟩
  rw[←CN s,ht,Dg hg]
theorem GOk.tot {g:LL}(hg:GOk g):Sh2 g∧tot g≤1000:=by
 have h16:=hg.n16
 have:∀r∈g,(r.length:Int)≤16:=λr hr=>by have:=(hg.mem0 hr).1;omega
 have h2:=tot_le this
 exact⟨hg.sh2,by omega⟩
theorem CM (s:ByteArray):D.a0 s=some true:=by
 unfold D.a0
 by_cases h:(1048576:Int)<s.size
 ·rw[decide_eq_true h];rfl
 rw[decide_eq_false h,cF]
 obtain⟨⟨g,b⟩,e1,e2,h3⟩:=TextGraph_both (s:=s) (by rw[A5] at h;omega)
 have h2:Sh2 g∧tot g≤1000:=by
  rcases h3 with h3|⟨x,h3,hg,_⟩
  ·cases h3;exact⟨⟨by simp[Sh],by simp⟩,by simp[Sx.tot]⟩
  ·cases h3;exact hg.tot
 have n1:=BM g
 have d2:decide (1+tot g<0)=false:=decide_eq_false (by omega)
 have hheld:D.y (AS 1 g) 1=some (1+tot g):=by
  unfold D.y
  rw[heldSS_eq g 1 h2.1 (by omega) (by omega),bs,d2];rfl
 simp only[e1,e2,bs,eqGraph_eq g g h2.1,decide_true,Bool.not_true,bne_self_eq_false,Bool.or_self,cF,markGraph_eq g 1 h2.1 (by omega) (by omega),hheld,d2]
end Go.Sx
