/- Parts. -/
import Derived.Test.YtgadoeifdbijcaaGreatDoorB3
import Derived.Test.YtgadoeifdbijcaaGreatDoorProg
import Derived.KernelRfl
set_option linter.unusedVariables false
set_option linter.unusedSimpArgs false
set_option linter.unusedSectionVars false
set_option maxRecDepth 100000
namespace Go.Proofs.YtgadoeifdbijcaaGreatDoor
open Go Go.Sx
theorem bbT :SlT Tryz.prog 75 80 1 4 (.int .u32 0):=⟨Tryz.underlying75,Tryz.t80,by kernel_rfl,by kernel_rfl,by kernel_rfl,by kernel_rfl⟩
theorem bbTT :SlT Tryz.prog 85 75 1 24 (.slice none 0 0):=⟨Tryz.underlying85,Tryz.t75,by kernel_rfl,by kernel_rfl,by kernel_rfl,by kernel_rfl⟩
theorem bbPc :By Tryz.prog 85:=Tryz.isAgg85
theorem bbPn :By Tryz.prog 76:=Tryz.isAgg76
theorem bbPv :By Tryz.prog 80:=Tryz.isAgg80
theorem bbAg :Agg Tryz.prog 26 1:=⟨Tryz.isAgg26,Tryz.sizeOf26⟩
set_option maxHeartbeats 1000000 in
theorem Wk.g2 {W:World}{σ:Type}{f0:Int→σ→Option (Bool×σ)}{J:GH→σ→List Itm→Prop}{g:FuncId}{cs:List Value}{G0:GH}
  (hJ:∀G G' s I,GLe G G'→J G s I→J G' s I)
  (hg:∀(ars:Array Value) (w:World),(callFunc g ars).run Tryz.prog w= .ok (.enter g ars) w)
  (hcl:∀(w:World) (G:GH) (H:List Itm) (c:Int) (s:σ) (y:Bool×σ) (I:List Itm),GLe G0 G→J G s I→Mem W G w (I++H)→f0 c s=some y→Calls Tryz.prog g ((.int .u32 c)::cs).toArray w (Res W G H (λG' Ho v=>J G' y.2 Ho∧v= .bool y.1))) (n:Nat):
  ∀(w:World) (G:GH) (H:List Itm) (nn frm many chosen:Int) (s:σ) (y:Bool×σ) (I:List Itm),GLe G0 G→J G s I→Mem W G w (I++H)→D.m f0 n nn frm many chosen s=some y→
   Calls Tryz.prog 67 #[(.int .i64 nn),(.int .i64 frm),(.int .i64 many),(.int .u32 chosen),(.func (.func g) #[] cs.toArray)] w (Res W G H (λG' Ho v=>J G' y.2 Ho∧v= .bool y.1)):=by
 induction n with
 |zero=>intro w G H nn frm many chosen s y I h0 hj m hd;simp[D.m] at hd
 |succ n ih=>
  intro w G H nn frm many chosen s y I h0 hj m hd
  refine Ap (args:=[(.int .i64 nn),(.int .i64 frm),(.int .i64 many),(.int .u32 chosen),(.func (.func g) #[] cs.toArray)]) (N:=36) [.tmp 10] Tryz.func67 rfl rfl (Nat.le_of_ble_eq_true rfl) rfl (λa f=> ?_)
  unfold D.m at hd
  refine Ag ?_
  refine Ah ?_
  refine AY f rfl rfl rfl (A6 (f.eval rfl)) (λa f=> ?_)
  refine Aa ?_
  refine Ag ?_
  refine Ag ?_
  refine Ah ?_
  refine AY f rfl rfl rfl (BC (f.eval rfl)) (λa f=> ?_)
  refine AY f rfl rfl rfl (Bm (f.eval rfl) (f.eval rfl) BW) (λa f=> ?_)
  refine Aa ?_
  rcases Af hd with⟨hc1,hd⟩|⟨hc1,hd⟩
  ·refine Al f rfl hc1 ?_
   refine Ag ?_
   refine Ah ?_
   refine AY f rfl rfl rfl (BC (f.eval rfl)) (λa f=> ?_)
   refine AY f rfl rfl rfl (BC (f.eval rfl)) (λa f=> ?_)
   refine DQ f rfl rfl rfl hg (hcl _ _ _ _ _ _ _ h0 hj m hd) (λv1 G1 Ho1 w hl1 m hQ1 a f=> ?_)
   obtain⟨hj1,rfl⟩:=hQ1
   refine AY f rfl rfl rfl (A6 (f.eval rfl)) (λa f=> ?_)
   refine Aa ?_
   refine Ao ?_
   exact⟨[.bool y.1],⟨f.get _ _ rfl,trivial⟩,f.defers,G1,Ho1,hl1,m,hj1,rfl⟩
  ·refine Ai f rfl hc1 ?_
   refine An ?_
   refine Ag ?_
   refine Ag ?_
   refine Ah ?_
   refine AY f rfl rfl rfl (BC (f.eval rfl)) (λa f=> ?_)
   refine AY f rfl rfl rfl (A6 (f.eval rfl)) (λa f=> ?_)
   refine Aa ?_
   refine AM (λa w=>∃(G':GH) (I':List Itm),GLe G G'∧y.1=false∧J G' y.2 I'∧Fr a 36 []∧Mem W G' w (I'++H)) ?_ ?_
   ·refine Ak ?_
    refine AI (fun(q:σ×Int) a w=>∃(G':GH) (I':List Itm),GLe G G'∧J G' q.1 I'∧Fr a 36 [(0,(.int .i64 nn)),(2,(.int .i64 many)),(3,(.int .u32 chosen)),(4,(.func (.func g) #[] cs.toArray)),(11,(.int .i64 q.2))]∧Mem W G' w (I'++H)) hd ⟨_,_,GLe.refl _,hj,f.weak ⟨rfl,rfl,rfl,rfl,rfl,trivial⟩,m⟩ ?_
    clear hd f m hj
    rintro⟨s,v⟩ o hs hqq a w ⟨G1,I1,hl1,hj,f,m⟩
    dsimp only at f m hj
    unfold D.B at hs
    dsimp only at hs
    refine Ag ?_
    refine Ag ?_
    refine Ah ?_
    refine AY f rfl rfl rfl (BC (f.eval rfl)) (λa f=> ?_)
    refine AY f rfl rfl rfl (BC (f.eval rfl)) (λa f=> ?_)
    refine AY f rfl rfl rfl (Bm (f.eval rfl) (f.eval rfl) Ay) (λa f=> ?_)
    refine AY f rfl rfl rfl (BC (f.eval rfl)) (λa f=> ?_)
    refine AY f rfl rfl rfl (Bm (f.eval rfl) (f.eval rfl) CN) (λa f=> ?_)
    refine Aa ?_
    rcases Af hs with⟨hc2,hs⟩|⟨hc2,hs⟩
    ·refine Al f rfl hc2 ?_
     refine An ?_
     obtain⟨oo,ho,hs⟩:=bind_some hs
     obtain⟨r,hr,hs⟩:=bind_some hs
     refine Ag ?_
     refine Ak ?_
     refine Ag ?_
     refine Ah ?_
     refine AY f rfl rfl rfl (BC (f.eval rfl)) (λa f=> ?_)
     refine AY f rfl rfl rfl (BC (f.eval rfl)) (λa f=> ?_)
     refine AY f rfl rfl rfl (Bm (f.eval rfl) (f.eval rfl) Ay) (λa f=> ?_)
     refine AY f rfl rfl rfl (BC (f.eval rfl)) (λa f=> ?_)
     refine AY f rfl rfl rfl (Bm (f.eval rfl) (f.eval rfl) Ct) (λa f=> ?_)
     refine AY f rfl rfl rfl (BC (f.eval rfl)) (λa f=> ?_)
     refine AY f rfl rfl rfl (BC (f.eval rfl)) (λa f=> ?_)
     refine C3 f rfl rfl Tryz.call99 (Wk.h m ho) (λv2 G2 Ho2 w hl2 m hQ2 a f=> ?_)
     obtain⟨rfl,rfl⟩:=hQ2
     have m:Mem W G2 w (I1++H):=m
     have hj:=hJ _ _ _ _ hl2 hj
     refine AY f rfl rfl rfl (Bm (f.eval rfl) (f.eval rfl) b_or) (λa f=> ?_)
     refine AY f rfl rfl rfl (BC (f.eval rfl)) (λa f=> ?_)
     refine C3 f rfl rfl Tryz.call67 (ih _ _ _ _ _ _ _ _ _ _ (GLe.trans h0 (GLe.trans hl1 hl2)) hj m hr) (λv3 G3 Ho3 w hl3 m hQ3 a f=> ?_)
     obtain⟨hj3,rfl⟩:=hQ3
     refine Aa ?_
     have hle:GLe G G3:=GLe.trans hl1 (GLe.trans hl2 hl3)
     rcases Af hs with⟨hc3,hs⟩|⟨hc3,hs⟩
     ·refine Al f rfl hc3 ?_
      obtain rfl:=Option.some.inj hs
      obtain rfl:=hqq _ rfl
      refine Ag ?_
      refine Ah ?_
      refine AY f rfl rfl rfl (A6 (f.eval rfl)) (λa f=> ?_)
      refine Aa ?_
      refine Ao ?_
      exact⟨[.bool true],⟨f.get _ _ rfl,trivial⟩,f.defers,G3,Ho3,hle,m,hj3,rfl⟩
     ·refine Ai f rfl hc3 ?_
      obtain rfl:=Option.some.inj hs
      refine An ?_
      refine Ah ?_
      refine AY f rfl rfl rfl (BC (f.eval rfl)) (λa f=> ?_)
      refine AY f rfl rfl rfl (Bm (f.eval rfl) (f.eval rfl) Ay) (λa f=> ?_)
      refine AY f rfl rfl rfl (A6 (f.eval rfl)) (λa f=> ?_)
      refine Aa ?_
      exact⟨_,rfl,G3,Ho3,hle,hj3,f.weak ⟨rfl,rfl,rfl,rfl,rfl,trivial⟩,m⟩
    ·refine Ai f rfl hc2 ?_
     refine AG rfl ?_
     obtain rfl:=Option.some.inj hs
     obtain rfl:=hqq _ rfl
     exact⟨G1,I1,hl1,rfl,hj,f.weak trivial,m⟩
   ·clear hd f m hj
    rintro a w ⟨G1,I1,hl1,hy,hj,f,m⟩
    refine Ag ?_
    refine Ah ?_
    refine AY f rfl rfl rfl (A6 (f.eval rfl)) (λa f=> ?_)
    refine Aa ?_
    refine Ao ?_
    exact⟨[.bool false],⟨f.get _ _ rfl,trivial⟩,f.defers,G1,I1,hl1,m,hj,congrArg Value.bool hy.symm⟩
def bbJ (bc ba:Nat)(vF:Value)(G:GH)(s:List (List Int))(I:List Itm):Prop:=∃(v:Value) (it:Itm),I=[Itm.box bc 85 [v],it,Itm.box ba 76 [vF]]∧Ow (RSl (RI .u32)) 75 G it v s
theorem bbJ.mono {bc ba:Nat}{vF:Value}(G G':GH)(s:List (List Int))(I:List Itm)(h:GLe G G')(hj:bbJ bc ba vF G s I):bbJ bc ba vF G' s I:=by
 obtain⟨v,it,e,o⟩:=hj
 exact⟨v,it,e,Ow.mono (RSl.mono (RI.mono _)) h o⟩
set_option maxHeartbeats 2000000 in
theorem Wk.z {W w:World}{G:GH}{H:List Itm}{v0_0:Value}{x0_0:List (List Int)}(hW:BJ W)(m:Mem W G w H)(h0_0:RSl (RSl (RI .i64)) G v0_0 x0_0){y:List (List Int)}(hd:D.z x0_0=some y):
  Calls Tryz.prog 13 #[(.agg #[v0_0])] w (Res W G H (λG' Ho v=>∃r0:Value,Ho=[]∧r0=v∧RSl (RSl (RI .i64)) G' r0 y)):=by
 refine Ap (args:=[(.agg #[v0_0])]) (N:=42) [.tmp 2] Tryz.func13 rfl rfl (Nat.le_of_ble_eq_true rfl) rfl (λa f=> ?_)
 unfold D.z at hd
 obtain⟨b,hb,hd⟩:=bind_some hd
 refine Ag ?_
 refine Ah ?_
 refine A8 (cs:=[v0_0]) m f rfl rfl rfl (λbg w a m f=> ?_)
 refine AY f rfl rfl rfl (A6 (f.eval rfl)) (λa f=> ?_)
 refine Aa ?_
 refine Ag ?_
 refine Ag ?_
 refine Ah ?_
 refine Aw 0 0 (ds:=[v0_0]) m bbAg f rfl rfl rfl rfl rfl (λa f=> ?_)
 refine C3 f rfl rfl Tryz.call66 (Wk.M0 m h0_0 hb) (λv1 G1 Ho1 w hl1 m hQ1 a f=> ?_)
 obtain⟨rfl,rfl⟩:=hQ1
 have h0_0:=RSl.mono (RSl.mono (RI.mono _)) _ _ _ _ hl1 h0_0
 have m:Mem W G1 w (Itm.box bg 26 [v0_0]::H):=m
 refine AY f rfl rfl rfl (Bc (f.eval rfl)) (λa f=> ?_)
 refine Aa ?_
 rcases Af hd with⟨hc1,hd⟩|⟨hc1,hd⟩
 ·obtain rfl:=Option.some.inj hd
  refine Al f rfl hc1 ?_
  refine Ag ?_
  refine Ah ?_
  refine AY f rfl rfl rfl (A6 (f.eval rfl)) (λa f=> ?_)
  refine Aa ?_
  refine Ao ?_
  exact⟨[.slice none 0 0],⟨f.get _ _ rfl,trivial⟩,f.defers,G1,[],hl1,m.tail,_,rfl,rfl,RSl.nil _ _⟩
 ·refine Ai f rfl hc1 ?_
  refine An ?_
  obtain⟨F,hF,hd⟩:=bind_some hd
  obtain⟨wd,hwd,hd⟩:=bind_some hd
  obtain⟨r,hr,hd⟩:=bind_some hd
  obtain⟨l,hl,hd⟩:=bind_some hd
  obtain⟨o,ho,hd⟩:=bind_some hd
  obtain⟨z,hz,hd⟩:=bind_some hd
  obtain rfl:=Option.some.inj hd
  refine Ag ?_
  refine Ah ?_
  refine Aw 0 0 (ds:=[v0_0]) m bbAg f rfl rfl rfl rfl rfl (λa f=> ?_)
  refine C3 f rfl rfl Tryz.call55 (Wk.t m h0_0 hF) (λv2 G2 Ho2 w hl2 m hQ2 a f=> ?_)
  obtain⟨vF,itF,rfl,rfl,oF⟩:=hQ2
  have m:Mem W G2 w (itF::Itm.box bg 26 [v0_0]::H):=m
  obtain⟨G3,hl3,m,hA⟩:=oF.stamp (RI.mono _) m
  refine AF (R:=(RSl (RI .u32))) (xs:=([]:List (List Int))) (RSl.one _) m bbTT f rfl rfl rfl (by decide) (All2.nil _) (λitc vc w a m oc f=> ?_)
  refine Bn (cs:=[(.slice none 0 0)]) Tryz.zeroValue76 m f rfl rfl (λba w a m f=> ?_)
  refine Bn (cs:=[(.slice none 0 0)]) Tryz.zeroValue85 m f rfl rfl (λbc w a m f=> ?_)
  refine AD 1 0 (ds:=[vF]) m Tryz.sizeOf76 f rfl rfl hA.cells (AL hA.one1 AO) rfl (Nat.le_of_ble_eq_true rfl) rfl (λw m=> ?_)
  refine AD 0 0 (ds:=[vc]) m Tryz.sizeOf85 f rfl rfl (Ow.cells 2 m oc rfl) (AL (Ow.one1 2 m oc rfl) AO) rfl (Nat.le_of_ble_eq_true rfl) rfl (λw m=> ?_)
  have m:Mem W G3 w (Itm.box bc 85 [vc]::Itm.box ba 76 [vF]::itc::Itm.box bg 26 [v0_0]::H):=m
  refine Aa ?_
  have hle3:GLe G G3:=GLe.trans hl1 (GLe.trans hl2 hl3)
  refine Ag ?_
  refine Bp 6 A7 (by kernel_rfl) m ?_
  refine EU (i:=0) (listed':= #[true,false,false,false,false,false,false]) 6 1 bbPn rfl rfl rfl (by kernel_rfl) rfl f rfl rfl rfl (λa f=> ?_)
  refine q_len (i:=1) (listed':= #[true,true,false,false,false,false,false]) 6 Tryz.underlying76 hA rfl (by kernel_rfl) rfl f rfl rfl rfl (λa f=> ?_)
  refine EU (i:=2) (listed':= #[true,true,true,false,false,false,false]) 6 1 bbPn rfl rfl rfl (by kernel_rfl) rfl f rfl rfl rfl (λa f=> ?_)
  refine DF (i:=5) (v:= .func (.func 70) #[] ([(.pointer (some ⟨bc,0,none⟩)),(.pointer (some ⟨ba,0,none⟩))]:List Value).toArray) (listed':= #[true,true,true,false,false,true,false]) 6 rfl (by kernel_rfl) rfl f rfl rfl rfl (λ_ _ _ _ _=>r_makeFunc (by rw[List.map_toArray,List.map_toArray,f.evalAll (vs:=[]) rfl,f.evalAll (vs:=[(.pointer (some ⟨bc,0,none⟩)),(.pointer (some ⟨ba,0,none⟩))]) rfl];rfl)) (λa f=> ?_)
  refine q_one (i:=3) (listed':= #[true,true,true,true,false,true,false]) rfl (by kernel_rfl) rfl (λG4 w hl4 m K4 K4=> ?_)
  have hA:=RSl.mono (RI.mono _) _ _ _ _ hl4 hA
  have oc:=Ow.mono (RSl.mono (RI.mono _)) hl4 oc
  have m:Mem W G4 w (Itm.box bc 85 [vc]::Itm.box ba 76 [vF]::itc::Itm.box bg 26 [v0_0]::H):=m
  refine C3 f rfl rfl Tryz.call68 (Wk.k2 m hA) (λv5 G5 Ho5 w hl5 m hQ5 a f=> ?_)
  obtain⟨bx,vm,itM,rfl,rfl,oM⟩:=hQ5
  have hA:=RSl.mono (RI.mono _) _ _ _ _ hl5 hA
  have oc:=Ow.mono (RSl.mono (RI.mono _)) hl5 oc
  refine Aa ?_
  refine K4 G5 [CE bx vF vm,itM] _ _ hl5 m ?_
  refine q_one (i:=4) (listed':= #[true,true,true,true,true,true,false]) rfl (by kernel_rfl) rfl (λG6 w hl6 m K6 K6=> ?_)
  have hA:=RSl.mono (RI.mono _) _ _ _ _ hl6 hA
  have oc:=Ow.mono (RSl.mono (RI.mono _)) hl6 oc
  have m:Mem W G6 w (CE bx vF vm::itM::Itm.box bc 85 [vc]::Itm.box ba 76 [vF]::itc::Itm.box bg 26 [v0_0]::H):=m
  refine C3 f rfl rfl Tryz.call69 ((Wk.Y1 hW Bo).go m hA oM (λkv h=>by simp at h) hwd) (λv7 G7 Ho7 w hl7 m hQ7 a f=> ?_)
  obtain⟨itM',M',rfl,rfl,oM',hcM⟩:=hQ7
  have hA:=RSl.mono (RI.mono _) _ _ _ _ hl7 hA
  have oc:=Ow.mono (RSl.mono (RI.mono _)) hl7 oc
  refine Aa ?_
  refine K6 G7 [CE bx vF vm,itM'] _ _ hl7 m ?_
  refine Bd (λG8 w hl8 m=> ?_)
  have hA:=RSl.mono (RI.mono _) _ _ _ _ hl8 hA
  have oc:=Ow.mono (RSl.mono (RI.mono _)) hl8 oc
  have m:Mem W G8 w (CE bx vF vm::itM'::Itm.box bc 85 [vc]::Itm.box ba 76 [vF]::itc::Itm.box bg 26 [v0_0]::H):=m
  have m:Mem W G8 w (Itm.box bc 85 [vc]::Itm.box ba 76 [vF]::itc::Itm.box bg 26 [v0_0]::H):=m.tail.tail
  have m:Mem W G8 w (itc::Itm.box bc 85 [vc]::Itm.box ba 76 [vF]::Itm.box bg 26 [v0_0]::H):=m.front 2 rfl
  have m:Mem W G8 w (Itm.box bc 85 [vc]::itc::Itm.box ba 76 [vF]::Itm.box bg 26 [v0_0]::H):=m.front 1 rfl
  have m:Mem W G8 w (([Itm.box bc 85 [vc],itc,Itm.box ba 76 [vF]]:List Itm)++(Itm.box bg 26 [v0_0]::H)):=m
  refine C3 f rfl rfl Tryz.call67 (Wk.g2 (J:=bbJ bc ba vF) (G0:=G8) bbJ.mono Tryz.call70 (λw G' H' c s y I hG hj m hd=>by
   obtain⟨v,it,rfl,o⟩:=hj
   have m':Mem W G' w (it::Itm.box bc 85 [v]::Itm.box ba 76 [vF]::H'):=m.front 1 rfl
   refine(Wk.m1 hW m' o (RSl.mono (RI.mono _) _ _ _ _ hG hA) hd).mono (λe w' hr=> ?_)
   obtain⟨v',rfl,G'',Ho,hle,m,r0,i0,rfl,rfl,o'⟩:=hr
   exact⟨_,rfl,G'',_,hle,m,⟨r0,i0,rfl,o'⟩,rfl⟩) Bo _ _ _ _ _ _ _ _ _ _ (GLe.refl _) ⟨vc,itc,rfl,oc⟩ m hr) (λv9 G9 Ho9 w hl9 m hQ9 a f=> ?_)
  obtain⟨⟨vc,itc,rfl,oc⟩,rfl⟩:=hQ9
  have hA:=RSl.mono (RI.mono _) _ _ _ _ hl9 hA
  have m:Mem W G9 w (Itm.box bc 85 [vc]::itc::Itm.box ba 76 [vF]::Itm.box bg 26 [v0_0]::H):=m
  refine Aa ?_
  have hle9:GLe G G9:=GLe.trans hle3 (GLe.trans hl4 (GLe.trans hl5 (GLe.trans hl6 (GLe.trans hl7 (GLe.trans hl8 hl9)))))
  refine Ag ?_
  refine Ah ?_
  refine AF (R:=(RI .u32)) (xs:=([]:List Int)) (RI.one _) m bbT f rfl rfl rfl (by decide) (All2.nil _) (λito vo w a m oo f=> ?_)
  refine AY f rfl rfl rfl (A6 (f.eval rfl)) (λa f=> ?_)
  refine Aa ?_
  have m:Mem W G9 w (ito::Itm.box bc 85 [vc]::itc::Itm.box ba 76 [vF]::Itm.box bg 26 [v0_0]::H):=m
  refine Ag ?_
  refine Ag ?_
  refine Ah ?_
  refine AV 3 0 m bbPn f rfl rfl rfl rfl (λa f=> ?_)
  refine AV 1 0 m bbPc f rfl rfl rfl rfl (λa f=> ?_)
  have m:Mem W G9 w (itc::ito::Itm.box bc 85 [vc]::Itm.box ba 76 [vF]::Itm.box bg 26 [v0_0]::H):=m.front 2 rfl
  obtain⟨G10,hl10,m,hC⟩:=oc.stamp (RSl.mono (RI.mono _)) m
  have hA:=RSl.mono (RI.mono _) _ _ _ _ hl10 hA
  have oo:=Ow.mono (RI.mono _) hl10 oo
  refine AF (R:=(RI .u32)) (xs:=([]:List Int)) (RI.one _) m bbT f rfl rfl rfl (by decide) (All2.nil _) (λitn vn w a m on f=> ?_)
  obtain⟨G11,hl11,m,hN⟩:=on.stamp (RI.mono _) m
  have hA:=RSl.mono (RI.mono _) _ _ _ _ hl11 hA
  have hC:=RSl.mono (RSl.mono (RI.mono _)) _ _ _ _ hl11 hC
  have oo:=Ow.mono (RI.mono _) hl11 oo
  refine C3 f rfl rfl Tryz.call73 (Wk.f hW m hA hC hN hl) (λv12 G12 Ho12 w hl12 m hQ12 a f=> ?_)
  obtain⟨vl,rfl,rfl,hL,_⟩:=hQ12
  have oo:=Ow.mono (RI.mono _) hl12 oo
  have m:Mem W G12 w (ito::Itm.box bc 85 [vc]::Itm.box ba 76 [vF]::Itm.box bg 26 [v0_0]::H):=m
  refine AZ Tryz.underlying75 f rfl rfl hL (λa f=> ?_)
  refine AY f rfl rfl rfl (BC (f.eval rfl)) (λa f=> ?_)
  refine Aa ?_
  have hle12:GLe G G12:=GLe.trans hle9 (GLe.trans hl10 (GLe.trans hl11 hl12))
  refine AM (λa w=>∃(G':GH) (v':Value) (it':Itm),GLe G12 G'∧Fr a 42 [(5,v')]∧Mem W G' w (it'::Itm.box bc 85 [vc]::Itm.box ba 76 [vF]::Itm.box bg 26 [v0_0]::H)∧Ow (RI .u32) 80 G' it' v' o) ?_ ?_
  ·refine Ak ?_
   refine AI (fun(q:List Int×Int) a w=>∃(G':GH) (v':Value) (it':Itm),GLe G12 G'∧Fr a 42 [(5,v'),(25,vl),(26,(.int .i64 (l.length:Int))),(27,(.int .i64 q.2))]∧Mem W G' w (it'::Itm.box bc 85 [vc]::Itm.box ba 76 [vF]::Itm.box bg 26 [v0_0]::H)∧Ow (RI .u32) 80 G' it' v' q.1) ho ⟨_,_,_,GLe.refl _,f.weak ⟨rfl,rfl,rfl,rfl,trivial⟩,m,oo⟩ ?_
   clear ho f m oo
   rintro⟨acc,i⟩ out hs hqq a w ⟨G13,vo,ito,hl13,f,m,oo⟩
   dsimp only at f oo
   have hL:=RSl.mono (RI.mono _) _ _ _ _ hl13 hL
   unfold D.C1 at hs
   dsimp only at hs
   refine Ag ?_
   refine Ah ?_
   refine AY f rfl rfl rfl (Bm (f.eval rfl) (f.eval rfl) AP) (λa f=> ?_)
   refine Aa ?_
   refine Ag ?_
   rcases Af hs with⟨hc2,hs⟩|⟨hc2,hs⟩
   ·refine Al f rfl hc2 ?_
    refine An ?_
    obtain⟨x,hx,hs⟩:=bind_some hs
    obtain⟨b2,hb2,hs⟩:=bind_some hs
    refine Ag ?_
    refine Ak ?_
    refine Ag ?_
    refine Ah ?_
    refine Be bbT f rfl rfl rfl hL hx (λp6 c6 a g6 h6 f=> ?_)
    subst h6
    refine AK m bbPv f rfl rfl g6 (λa f=> ?_)
    refine AY f rfl rfl rfl (A6 (f.eval rfl)) (λa f=> ?_)
    refine Aa ?_
    refine Ag ?_
    refine Ah ?_
    refine AY f rfl rfl rfl (BC (f.eval rfl)) (λa f=> ?_)
    refine AY f rfl rfl rfl (BC (f.eval rfl)) (λa f=> ?_)
    refine C3 f rfl rfl Tryz.call74 (Ow.lendCall (RI.mono _) 0 oo m rfl (λG_5 hl_6 m h_7=>Wk.I0 m h_7 hb2) (λ_ _ _ _ h=>h)) (λv14 G14 Ho14 w hl14 m hQ14 a f=> ?_)
    obtain⟨rfl,rfl⟩:=hQ14
    have hL:=RSl.mono (RI.mono _) _ _ _ _ hl14 hL
    have oo:=Ow.mono (RI.mono _) hl14 oo
    have m:Mem W G14 w (ito::Itm.box bc 85 [vc]::Itm.box ba 76 [vF]::Itm.box bg 26 [v0_0]::H):=m
    refine AY f rfl rfl rfl (Bc (f.eval rfl)) (λa f=> ?_)
    refine Aa ?_
    have hle14:GLe G12 G14:=GLe.trans hl13 hl14
    rcases Af hs with⟨hc3,hs⟩|⟨hc3,hs⟩
    ·refine Al f rfl hc3 ?_
     obtain⟨o2,ho2,hs⟩:=bind_some hs
     obtain rfl:=Option.some.inj hs
     refine Ah ?_
     refine AY f rfl rfl rfl (BC (f.eval rfl)) (λa f=> ?_)
     refine AY f rfl rfl rfl (BC (f.eval rfl)) (λa f=> ?_)
     refine AF (R:=(RI .u32)) (xs:=([x]:List Int)) (RI.one _) m bbT f rfl rfl rfl (by decide) (All2.cons rfl (All2.nil _)) (λitn vn w a m on f=> ?_)
     refine AT (RI.one _) 1 m oo rfl bbT rfl (by decide) f rfl rfl rfl (Ow.src (j:=0) on m rfl) ho2 (λito2 vo2 w a m oo2 f=> ?_)
     have m:Mem W G14 w (ito2::Itm.box bc 85 [vc]::Itm.box ba 76 [vF]::Itm.box bg 26 [v0_0]::H):=m.tail
     refine AY f rfl rfl rfl (A6 (f.eval rfl)) (λa f=> ?_)
     refine Aa ?_
     refine Ah ?_
     refine AY f rfl rfl rfl (Bm (f.eval rfl) (f.eval rfl) Ay) (λa f=> ?_)
     refine AY f rfl rfl rfl (BC (f.eval rfl)) (λa f=> ?_)
     refine Aa ?_
     exact⟨_,rfl,G14,_,_,hle14,f.weak ⟨rfl,rfl,rfl,rfl,trivial⟩,m,oo2⟩
    ·refine Ai f rfl hc3 ?_
     obtain rfl:=Option.some.inj hs
     refine An ?_
     refine Ah ?_
     refine AY f rfl rfl rfl (Bm (f.eval rfl) (f.eval rfl) Ay) (λa f=> ?_)
     refine AY f rfl rfl rfl (BC (f.eval rfl)) (λa f=> ?_)
     refine Aa ?_
     exact⟨_,rfl,G14,_,_,hle14,f.weak ⟨rfl,rfl,rfl,rfl,trivial⟩,m,oo⟩
   ·refine Ai f rfl hc2 ?_
    refine AG rfl ?_
    obtain rfl:=Option.some.inj hs
    obtain rfl:=hqq _ rfl
    exact⟨G13,_,_,hl13,f.weak ⟨rfl,trivial⟩,m,oo⟩
  ·clear ho f m oo
   rintro a w ⟨G13,vo,ito,hl13,f,m,oo⟩
   obtain⟨G14,hl14,m,hO⟩:=oo.stamp (RI.mono _) m
   refine Ag ?_
   refine Ah ?_
   refine AY f rfl rfl rfl (BC (f.eval rfl)) (λa f=> ?_)
   refine C3 f rfl rfl Tryz.call75 (Wk.T0 hW m hO hz) (λv15 G15 Ho15 w hl15 m hQ15 a f=> ?_)
   obtain⟨vr,itr,rfl,rfl,oR⟩:=hQ15
   have m:Mem W G15 w (itr::Itm.box bc 85 [vc]::Itm.box ba 76 [vF]::Itm.box bg 26 [v0_0]::H):=m
   obtain⟨G16,hl16,m,hR⟩:=oR.stamp (RI.mono _) m
   refine AY f rfl rfl rfl (A6 (f.eval rfl)) (λa f=> ?_)
   refine Aa ?_
   refine Ao ?_
   exact⟨[vr],⟨f.get _ _ rfl,trivial⟩,f.defers,G16,[],GLe.trans hle12 (GLe.trans hl13 (GLe.trans hl14 (GLe.trans hl15 hl16))),m.tail.tail.tail,_,rfl,rfl,hR⟩
end Go.Proofs.YtgadoeifdbijcaaGreatDoor

set_option maxRecDepth 100000
namespace Go.Proofs.YtgadoeifdbijcaaGreatDoor
open Go Go.Sx
open Go.Proofs.Tryz Go.Proofs.YtgadoeifdbijcaaGreatDoor.Tryz IntKind
variable {W w : World} {G : GH} {H : List Itm}
theorem Wk.T {v0:Value}{x0:LL}(m:Mem W G w (H))(h0:R2 G v0 x0){y:(LI)}(hd:D.T x0=some y):
  Calls prog 77 #[v0] w (Res W G H (λG' Ho v=>∃r0:Value,∃i0:Itm,Ho=[i0]∧r0=v∧Ow (RI .u32) 80 G' i0 r0 y)):=by
 refine Ap (args:=[v0]) (N:=20) [.tmp 2] func77 Z Z (lb Z) Z λa f=> ?_
 unfold D.T at hd
 refine Ae ?_
 refine Ac f Z λa f=>Az ?_
 refine AF (R:=(RI .u32)) (xs:=([]:LI)) (RI.one _) m T75 f Z Z Z (by decide) (All2.nil _) λaa ab w a m ac f=>Ac f Z λa f=>Aa (Ag (Ae ?_))
 refine Ab f Z λa f=>AZ underlying24 f Z Z h0 λa f=>Ab f Z λa f=>Aa ?_
 have⟨ad,ae,hd⟩:=bind_some hd
 refine AM (λa w=>∃af:LI,af=ad∧∃(ag:GH) (ah:Value) (ai:Itm),GLe G ag∧Fr a 20 [(3,ah)]∧Mem W ag w (ai::H)∧Ow (RI .u32) 80 ag ai ah af) ?_ ?_
 ·refine Ak ?_
  refine AI (λaj a w=>∃ak:LI,∃al:Int,(ak,al)=aj∧∃(am:GH) (an:Value) (ao:Itm),GLe G am∧Fr a 20 [(3,an),(7,v0),(8,(iv (x0.length:Int))),(9,(iv al))]∧Mem W am w (ao::H)∧Ow (RI .u32) 80 am ao an ak) ae ⟨_,_,Z,_,ab,aa,gr,f.k Z,m,ac⟩ ?_
  clear ae f m
  rintro aj ap aq ar a w ⟨ak,al,rfl,am,an,ao,au,f,m,av⟩
  have h0:=rd2 au h0
  refine Ae ?_
  refine Aj f Z Z AP λa f=>Aa (Ag ?_)
  rcases Af aq with⟨aw,aq⟩|⟨aw,aq⟩
  ·refine Al f Z aw ?_
   refine An ?_
   refine Ag (Ak (Ae ?_))
   have⟨ax,ay,aq⟩:=bind_some aq
   refine Be T24 f Z Z Z h0 ay λaz aA a aB aC f=>AK m Br f Z Z aB λa f=>Ac f Z λa f=>Aa (Ah ?_)
   refine Ab f Z λa f=>Ab f Z λa f=> ?_
   have⟨aD,aE,aq⟩:=bind_some aq
   refine AR f Z call58 (Wk.g m aC aE) λaF w aG m a f=> ?_
   have av:=od1 aG av
   refine AF (R:=(RI .u32)) (xs:=([aD]:LI)) (RI.one _) m T75 f Z Z Z (by decide) (All2.cons Z (All2.nil _)) λaH aI w a m aJ f=> ?_
   have⟨aK,aL,aq⟩:=bind_some aq
   refine AT (RI.one _) 1 m av Z T75 Z (by decide) f Z Z Z (Ow.src (j:=0) aJ m Z) aL λaM aN w a m aO f=>Ac f Z λa f=>Aa (Ah ?_)
   refine Aj f Z Z Ay λa f=>Ab f Z λa f=>Aa ?_
   have m:=m.fr 1
   have m:=m.eraseAt 1
   obtain rfl:=sj aq
   exact⟨_,Z,_,_,Z,_,aN,aM,(gt au aG),f.k Z,m,aO⟩
  ·refine Ai f Z aw ?_
   refine AG Z ?_
   obtain rfl:=sj aq
   obtain rfl:=ar _ rfl
   exact⟨_,Z,_,an,ao,au,f.k Z,m,av⟩
 ·rintro a w ⟨af,rfl,ag,ah,ai,aP,f,m,aQ⟩
  refine Ae ?_
  refine Ab f Z λa f=>Ac f Z λa f=>Aa ?_
  refine Ao ?_
  obtain rfl:=sj hd
  exact⟨[ah],f.g Z,f.d,_,[ai],aP,m,_,_,Z,Z,aQ⟩
theorem Wk.t0 {b1:Nat}{x0 aa:Int}(m:Mem W G w (ib b1 80 [(.int .u32 aa)]::H)){y:Bool}(hd:D.t0 x0 aa=some y):
  Calls prog 192 #[(.int .u32 x0),(pb b1)] w (Res W G H (λ_ Ho v=>Ho=[ib b1 80 [(.int .u32 aa)]]∧v=(.bool y))):=by
 refine Ap (args:=[(.int .u32 x0),(pb b1)]) (N:=8) [.tmp 3] func192 Z Z (lb Z) Z λa f=> ?_
 unfold D.t0 at hd
 refine Ae ?_
 refine Ac f Z λa f=>Az ?_
 refine AV 0 0 m Pl80 f Z Z Z Z λa f=>Ab f Z λa f=>Aj f Z Z CY λa f=>Aj f Z Z BW λa f=>Ac f Z λa f=>Aa ?_
 refine Ao ?_
 obtain rfl:=sj hd
 exact⟨[(.bool ((iand .u32 aa x0)==0))],f.g Z,f.d,_,[ib b1 80 [(.int .u32 aa)]],gr,m,Z,Z⟩
theorem Wk.o1 {v0:Value}{b1c0:Nat}{x0:LI}{aa:Int}(m:Mem W G w (ib b1c0 80 [(.int .u32 aa)]::H))(h0:RSl (RI .u32) G v0 x0){y:Int}(hd:D.o1 x0 aa=some y):
  Calls prog 239 #[v0,(.func (.func 192) #[] #[(pb b1c0)])] w (Res W G H (λ_ Ho v=>Ho=[ib b1c0 80 [(.int .u32 aa)]]∧v=(iv y))):=by
 refine Ap (args:=[v0,(.func (.func 192) #[] #[(pb b1c0)])]) (N:=19) [.tmp 4] func239 Z Z (lb Z) Z λa f=> ?_
 unfold D.o1 at hd
 refine Ae ?_
 refine Ac f Z λa f=>Aa (Ag (Ae ?_))
 refine Ab f Z λa f=>AZ underlying75 f Z Z h0 λa f=>Ab f Z λa f=>Aa ?_
 have⟨ab,ac,hd⟩:=bind_some hd
 refine AM (λa w=>∃q_33':Unit,ab= .inl q_33'∧∃(ad:GH),GLe G ad∧Fr a 19 []∧Mem W ad w (ib b1c0 80 [(.int .u32 aa)]::H)) ?_ ?_
 ·refine Ak ?_
  refine AI (λae a w=>∃af:Int,af=ae∧∃(ag:GH),GLe G ag∧Fr a 19 [(0,v0),(1,(.func (.func 192) #[] #[(pb b1c0)])),(7,(iv (x0.length:Int))),(8,(iv af))]∧Mem W ag w (ib b1c0 80 [(.int .u32 aa)]::H)) ac ⟨_,Z,_,gr,f.k Z,m⟩ ?_
  clear ac f m
  rintro ae ah ai aj a w ⟨af,rfl,ag,ak,f,m⟩
  have h0:=rd1 ak h0
  refine Ae ?_
  refine Aj f Z Z AP λa f=>Aa (Ag ?_)
  rcases Af ai with⟨al,ai⟩|⟨al,ai⟩
  ·refine Al f Z al ?_
   refine An ?_
   refine Ag (Ak (Ae ?_))
   refine Ab f Z λa f=>Ac f Z λa f=>Az ?_
   refine Ab f Z λa f=>Ab f Z λa f=>Ab f Z λa f=> ?_
   have⟨am,an,ai⟩:=bind_some ai
   refine Be T75 f Z Z Z h0 an λao ap a aq ar f=> ?_
   subst ar
   refine AK m Pl80 f Z Z aq λa f=> ?_
   have⟨au,av,ai⟩:=bind_some ai
   refine DQ f Z Z Z call192 (Wk.t0 m av) λaw ax ay w az m aA a f=> ?_
   obtain⟨rfl,rfl⟩:=aA
   refine Aa ?_
   rcases Af ai with⟨aB,ai⟩|⟨aB,ai⟩
   ·refine Al f Z aB ?_
    refine Ae ?_
    refine Ab f Z λa f=>Ac f Z λa f=>Aa ?_
    refine Ao ?_
    obtain rfl:=sj ai
    obtain rfl:=aj _ rfl
    obtain rfl:=sj hd
    exact⟨[(iv af)],f.g Z,f.d,_,[ib b1c0 80 [(.int .u32 aa)]],(gt ak az),m,Z,Z⟩
   ·refine Ai f Z aB ?_
    refine An ?_
    refine Ah ?_
    refine Aj f Z Z Ay λa f=>Ab f Z λa f=>Aa ?_
    obtain rfl:=sj ai
    exact⟨_,Z,_,Z,_,(gt ak az),f.k Z,m⟩
  ·refine Ai f Z al ?_
   refine AG Z ?_
   obtain rfl:=sj ai
   obtain rfl:=aj _ rfl
   exact⟨_,Z,_,ak,f.weak trivial,m⟩
 ·rintro a w ⟨_,rfl,ad,aC,f,m⟩
  refine Ae ?_
  refine Ac f Z λa f=>Aa ?_
  refine Ao ?_
  obtain rfl:=sj hd
  exact⟨[(iv (-1))],f.g Z,f.d,_,[ib b1c0 80 [(.int .u32 aa)]],aC,m,Z,Z⟩
theorem Wk.l1 {v0:Value}{b1c0:Nat}{x0:LI}{aa:Int}(m:Mem W G w (ib b1c0 80 [(.int .u32 aa)]::H))(h0:RSl (RI .u32) G v0 x0){y:Bool}(hd:D.l1 x0 aa=some y):
  Calls prog 160 #[v0,(.func (.func 192) #[] #[(pb b1c0)])] w (Res W G H (λ_ Ho v=>Ho=[ib b1c0 80 [(.int .u32 aa)]]∧v=(.bool y))):=by
 refine Ap (args:=[v0,(.func (.func 192) #[] #[(pb b1c0)])]) (N:=9) [.tmp 4] func160 Z Z (lb Z) Z λa f=> ?_
 unfold D.l1 at hd
 refine Ae ?_
 refine Ac f Z λa f=>Az ?_
 refine Ab f Z λa f=>Ab f Z λa f=> ?_
 have⟨ab,ac,hd⟩:=bind_some hd
 refine AA f Z call239 (Wk.o1 m h0 ac) λad ae af w ag m ah a f=> ?_
 obtain⟨rfl,rfl⟩:=ah
 refine Aj f Z Z Dv λa f=>Ac f Z λa f=>Aa ?_
 refine Ao ?_
 obtain rfl:=sj hd
 exact⟨[(.bool (decide ((0:Int)≤ab)))],f.g Z,f.d,_,[ib b1c0 80 [(.int .u32 aa)]],ag,m,Z,Z⟩
theorem Wk.l {aa:Value}{b1:Nat}{x0:Int}{ab:LI}(m:Mem W G w (ib b1 75 [aa]::H))(ac:RSl (RI .u32) G aa ab){y:Bool}(hd:D.l x0 ab=some y):
  Calls prog 191 #[(.int .u32 x0),(pb b1)] w (Res W G H (λ_ Ho v=>Ho=[ib b1 75 [aa]]∧v=(.bool y))):=by
 refine Ap (args:=[(.int .u32 x0),(pb b1)]) (N:=8) [.tmp 3] func191 Z Z (lb Z) Z λa f=> ?_
 unfold D.l at hd
 refine Ae ?_
 refine A8 (cs:=[(.int .u32 x0)]) m f Z Z Z λad w a m f=>Ac f Z λa f=>Az ?_
 refine AV 1 0 m Pl75 f Z Z Z Z λa f=>Df f Z Z Z λa f=> ?_
 have⟨ae,af,hd⟩:=bind_some hd
 refine AA f Z call160 (Wk.l1 m ac af) λag ah ai w aj m ak a f=> ?_
 obtain⟨rfl,rfl⟩:=ak
 refine l_o f (Bc (f.e Z)) λa f=>Ac f Z λa f=>Aa ?_
 refine Ao ?_
 have m:=m.fr 1
 have m:=m.eraseAt 1
 obtain rfl:=sj hd
 exact⟨[(.bool (!ae))],f.g Z,f.d,_,[ib b1 75 [aa]],aj,m,Z,Z⟩
end Go.Proofs.YtgadoeifdbijcaaGreatDoor

set_option maxRecDepth 100000
namespace Go.Proofs.YtgadoeifdbijcaaGreatDoor
open Go Go.Sx
open Go.Proofs.Tryz Go.Proofs.YtgadoeifdbijcaaGreatDoor.Tryz IntKind
variable {W w : World} {G : GH} {H : List Itm}
theorem bPl :By prog 92:=isAgg92
theorem bPv :By prog 80:=isAgg80
abbrev bsV (ba:Nat):Value:= .func (.func 191) #[] ([(pb ba)]:List Value).toArray
abbrev bsIts (bf bt ba:Nat)(v0:Value)(s:Int):List Itm:=[ib bf 80 [(.int .u32 s)],ib bt 92 [bsV ba],ib ba 75 [v0]]
theorem Wk.f2 {W:World}{F:LI}{v0:Value}{bf bt ba:Nat}{G0:GH}(h0:RSl (RI .u32) G0 v0 F)(w:World)(G:GH)(H:List Itm)(c s:Int)(y:Bool×Int)(hG:GLe G0 G)
  (m:Mem W G w (bsIts bf bt ba v0 s++H)) (hd:D.r1 F c s=some y):
  Calls prog 259 ((.int .u32 c)::[(pb bf),(pb bt)]).toArray w (Res W G H (λ_ Ho v=>Ho=bsIts bf bt ba v0 y.2∧v= .bool y.1)):=by
 refine Ap (args:=[(.int .u32 c),(pb bf),(pb bt)]) (N:=9) [.tmp 4] func259 Z Z (lb Z) Z λa f=> ?_
 unfold D.r1 at hd
 have h0:=rd1 hG h0
 have⟨b,hb,hd⟩:=bind_some hd
 obtain rfl:=sj hd
 refine Ae ?_
 refine Ac f Z λa f=>Az ?_
 refine Ab f Z λa f=>AD 0 0 (ds:=[(.int .u32 c)]) m sizeOf80 f Z Z Z (AL Z AO) Z (lb Z) Z λw m=>Az ?_
 refine AV 1 0 m bPl f Z Z Z Z λa f=>Ab f Z λa f=> ?_
 have m':Mem W G w (ib ba 75 [v0]::ib bf 80 [(.int .u32 c)]::ib bt 92 [bsV ba]::H):=m.fr 2
 refine DQ f Z Z Z call191 ((Wk.l m' h0 hb).mono λe w' hr=>hr) λv1 G1 Ho1 w hl1 m hQ1 a f=> ?_
 obtain⟨rfl,rfl⟩:=hQ1
 refine Ac f Z λa f=>Aa ?_
 refine Ao ?_
 have m:=m.fr 2
 have m:=m.fr 2
 exact⟨[.bool b],f.g Z,f.d,G1,bsIts bf bt ba v0 c,hl1,m,Z,Z⟩
theorem Wk.O1 {W:World}{F:LI}{v0:Value}{ba:Nat}{w:World}{G:GH}{H:List Itm}(h0:RSl (RI .u32) G v0 F){n:Int}{y:Int×Bool}
  (m:Mem W G w (ib ba 75 [v0]::H)) (hd:Aq (D.x1 (D.r1 F) n) (0,0)=some y):
  Calls prog 190 #[(iv n),bsV ba] w (Res W G H (λ_ Ho v=>Ho=[ib ba 75 [v0]]∧v= .tuple #[(.int .u32 y.1),(.bool y.2)])):=by
 refine Ap (args:=[(iv n),bsV ba]) (N:=18) [.tmp 4,.tmp 5] func190 Z Z (lb Z) Z λa f=>Ae ?_
 refine A8 (cs:=[bsV ba]) m f Z Z Z λbt w a m f=>Ac f Z λa f=>Ac f Z λa f=>Az ?_
 refine Bn (cs:=[(.int .u32 0)]) zeroValue80 m f Z Z λbf w a m f=>AD 0 0 (ds:=[(.int .u32 0)]) m sizeOf80 f Z Z Z (AL Z AO) Z (lb Z) Z λw m=>Aa (Ag (Ae ?_))
 refine Ac f Z λa f=>Aa ?_
 refine AM (λa w=>y=(0,false)∧∃(G':GH) (s:Int),GLe G G'∧Fr a 18 []∧Mem W G' w (bsIts bf bt ba v0 s++H)) ?_ ?_
 ·refine Ak ?_
  refine AI (fun(q:Int×Int) a w=>∃(G':GH),GLe G G'∧Fr a 18 [(0,(iv n)),(3,(pb bt)),(6,(pb bf)),(7,(iv q.2))]∧Mem W G' w (bsIts bf bt ba v0 q.1++H)) hd ⟨_,gr,f.k Z,m⟩ ?_
  clear hd f m
  rintro⟨s,many⟩ o hs hqq a w ⟨G1,hl1,f,m⟩
  dsimp only at f m
  unfold D.x1 at hs
  refine Ag (Ae ?_)
  refine Ab f Z λa f=>Ab f Z λa f=>Aj f Z Z CN λa f=>Aa ?_
  rcases Af hs with⟨hc1,hs⟩|⟨hc1,hs⟩
  ·refine Al f Z hc1 ?_
   refine An ?_
   have⟨r,hr,hs⟩:=bind_some hs
   refine Ag (Ak (Ae ?_))
   refine Ab f Z λa f=>Ab f Z λa f=>Df (vs:=[]) (us:=[(pb bf),(pb bt)]) f Z Z Z λa f=>AA f Z call67 (Wk.L1 (its:=bsIts bf bt ba v0) call259 (Wk.f2 h0) Bo _ _ _ _ _ _ _ _ _ hl1 m hr) λv6 G6 Ho6 w hl6 m hQ6 a f=> ?_
   obtain⟨rfl,rfl⟩:=hQ6
   refine Aa ?_
   rcases Af hs with⟨hc3,hs⟩|⟨hc3,hs⟩
   ·refine Al f Z hc3 ?_
    obtain rfl:=sj hs
    obtain rfl:=hqq _ rfl
    refine Ae ?_
    refine AV 0 0 m bPv f Z Z Z Z λa f=>Ac f Z λa f=>Ac f Z λa f=>Aa ?_
    refine Ao ?_
    exact⟨[.int .u32 r.2,.bool true],⟨f.get _ _ Z,f.get _ _ Z,trivial⟩,f.d,G6,[ib ba 75 [v0]],gt hl1 hl6,m.tail.tail,Z,Z⟩
   ·refine Ai f Z hc3 ?_
    obtain rfl:=sj hs
    refine An ?_
    refine Ah ?_
    refine Ab f Z λa f=>Aj f Z Z Ay λa f=>Ac f Z λa f=>Aa ?_
    exact⟨_,Z,G6,gt hl1 hl6,f.k Z,m⟩
  ·refine Ai f Z hc1 ?_
   refine AG Z ?_
   obtain rfl:=sj hs
   obtain rfl:=hqq _ rfl
   exact⟨Z,G1,s,hl1,f.weak trivial,m⟩
 ·clear hd f m
  rintro a w ⟨rfl,G4,s,hl4,f,m⟩
  refine Ae ?_
  refine Ac f Z λa f=>Ac f Z λa f=>Aa ?_
  refine Ao ?_
  exact⟨[.int .u32 0,.bool false],⟨f.get _ _ Z,f.get _ _ Z,trivial⟩,f.d,G4,[ib ba 75 [v0]],hl4,m.tail.tail,Z,Z⟩
theorem Wk.c {v1:Value}{x0:Int}{x1:LI}(m:Mem W G w (H))(h1:RSl (RI .u32) G v1 x1){y:Int}(hd:D.c x0 x1=some y):
  Calls prog 76 #[(iv x0),v1] w (Res W G H (λ_ Ho v=>Ho=[]∧v=(.int .u32 y))):=by
 refine Ap (args:=[(iv x0),v1]) (N:=14) [.tmp 4] func76 Z Z (lb Z) Z λa f=> ?_
 unfold D.c at hd
 have⟨r,hr,hd⟩:=bind_some hd
 obtain rfl:=sj hd
 refine Ae ?_
 refine A8 (cs:=[v1]) m f Z Z h1.cells λba w a m f=>Ac f Z λa f=>Az ?_
 refine Ab f Z λa f=>Df (vs:=[]) (us:=[(pb ba)]) f Z Z Z λa f=>AA f Z call190 (Wk.O1 h1 m hr) λv4 G4 Ho4 w hl4 m hQ4 a f=> ?_
 obtain⟨rfl,rfl⟩:=hQ4
 refine Ab f Z λa f=>l_o f (BA (f.e Z) Z) λa f=>l_o f (BA (f.e Z) Z) λa f=>Ac f Z λa f=>Ac f Z λa f=>Az ?_
 refine Ab f Z λa f=>Ac f Z λa f=>Aa ?_
 refine Ao ?_
 exact⟨[.int .u32 r.1],f.g Z,f.d,G4,[],hl4,m.tail,Z,Z⟩
end Go.Proofs.YtgadoeifdbijcaaGreatDoor

set_option maxRecDepth 100000
namespace Go.Proofs.YtgadoeifdbijcaaGreatDoor
open Go Go.Sx
open Go.Proofs.Tryz Go.Proofs.YtgadoeifdbijcaaGreatDoor.Tryz IntKind
variable {W w : World} {G : GH} {H : List Itm}
theorem Wk.J0 {aa v1:Value}{ab x1:LL}(hW:BJ W)(m:Mem W G w (H))(ac:R2 G aa ab)(h1:R2 G v1 x1){y:(LI)}(hd:D.J0 ab x1=some y):
  Calls prog 14 #[(.agg #[aa]),v1] w (Res W G H (λG' Ho v=>∃r0:Value,∃i0:Itm,Ho=[i0]∧r0=v∧Ow R0 2 G' i0 r0 y)):=by
 refine Ap (args:=[(.agg #[aa]),v1]) (N:=16) [.tmp 4] func14 Z Z (lb Z) Z λa f=> ?_
 unfold D.J0 at hd
 refine Ae ?_
 refine A8 (cs:=[aa]) m f Z Z Z λad w a m f=>Ac f Z λa f=>Aa (Ag (Ae ?_))
 refine Aw 0 0 (ds:=[aa]) m AE f Z Z Z Z Z λa f=>Ab f Z λa f=> ?_
 have⟨ae,af,hd⟩:=bind_some hd
 refine AR f Z call9 (Wk.p hW m ac h1 af) λag w ah m a f=> ?_
 have ac:=rd2 ah ac
 have h1:=rd2 ah h1
 refine l_o f (Bc (f.e Z)) λa f=>Aa ?_
 rcases Af hd with⟨ai,hd⟩|⟨ai,hd⟩
 ·refine Al f Z ai ?_
  refine Ae ?_
  refine Ac f Z λa f=>Aa ?_
  refine Ao ?_
  obtain⟨aj,m,ak⟩:=Ow.nil R0 2 m
  have m:=m.eraseAt 1
  obtain rfl:=sj hd
  exact⟨[sn],f.g Z,f.d,_,[aj],ah,m,_,_,Z,Z,ak⟩
 ·refine Ai f Z ai ?_
  refine An ?_
  refine Ag ?_
  refine Bp 8 A7 (by kernel_rfl) m ?_
  refine CC 0 8 underlying26 Z sizeOf24 Z f Z λa f=>Ce 1 8 0 BH Z Z Z f Z λa f=>q_len (i:=2) 8 underlying24 ac Z (by kernel_rfl) Z f Z Z Z λa f=>AJ 3 8 Z f Z λa f=>Bs 4 Z λal w am m an an=> ?_
  have h1:=rd2 am h1
  have⟨ao,ap,hd⟩:=bind_some hd
  refine AA f Z call77 (Wk.T m h1 ap) λaq ar au w av m aw a f=> ?_
  obtain⟨ax,ay,rfl,rfl,az⟩:=aw
  refine Aa ?_
  refine an ar [ay] _ _ av m ?_
  refine Bs 5 Z λaA w aB m aC aC=> ?_
  have az:=od1 aB az
  have⟨aD,aE,hd⟩:=bind_some hd
  refine AA f Z call76 (Ow.lendCall (RI.mono _) 0 az m Z (λaF aG m aH=>Wk.c m aH aE) (λ_ _ _ _ h=>h)) λaI aJ aK w aL m aM a f=> ?_
  obtain⟨rfl,rfl⟩:=aM
  refine Aa ?_
  refine aC aJ [ay] _ _ aL m ?_
  refine Bs 6 Z λaN w aO m aP aP=> ?_
  have⟨aQ,aR,hd⟩:=bind_some hd
  refine AA f Z call78 (Wk.b0 hW m aR) λaS aT aU w aV m aW a f=> ?_
  obtain⟨aX,aY,rfl,rfl,aZ⟩:=aW
  refine Aa ?_
  refine aP aT [aY,ay] _ _ aV m ?_
  refine q_p 7 8 Z f (λ_=>A6 (f.e Z)) λa f=>Bd λa0 w a1 m=> ?_
  have aZ:=od1 a1 aZ
  refine Aa ?_
  refine Ao ?_
  have m:=m.eraseAt 2
  have m:=m.eraseAt 1
  obtain rfl:=sj hd
  exact⟨[aX],f.g Z,f.d,_,[aY],(gt ah (gt am (gt av (gt aB (gt aL (gt aO (gt aV a1))))))),m,_,_,Z,Z,aZ⟩
theorem Wk.N {aa v1:Value}{ab x1:LL}(hW:BJ W)(m:Mem W G w (H))(ac:R2 G aa ab)(h1:R2 G v1 x1){y:Int}(hd:D.N ab x1=some y):
  Calls prog 15 #[(.agg #[aa]),v1] w (Res W G H (λ_ Ho v=>Ho=[]∧v=(iv y))):=by
 refine Ap (args:=[(.agg #[aa]),v1]) (N:=16) [.tmp 4] func15 Z Z (lb Z) Z λa f=> ?_
 unfold D.N at hd
 refine Ae ?_
 refine A8 (cs:=[aa]) m f Z Z Z λad w a m f=>Ac f Z λa f=>Aa (Ag (Ae ?_))
 refine Aw 0 0 (ds:=[aa]) m AE f Z Z Z Z Z λa f=>Ab f Z λa f=> ?_
 have⟨ae,af,hd⟩:=bind_some hd
 refine AR f Z call9 (Wk.p hW m ac h1 af) λag w ah m a f=> ?_
 have ac:=rd2 ah ac
 have h1:=rd2 ah h1
 refine l_o f (Bc (f.e Z)) λa f=>Aa ?_
 rcases Af hd with⟨ai,hd⟩|⟨ai,hd⟩
 ·refine Al f Z ai ?_
  refine Ae ?_
  refine Ac f Z λa f=>Aa ?_
  refine Ao ?_
  have m:Mem W ag w H:=Mem.drop (H':=[ib ad 26 [aa]]) m
  obtain rfl:=sj hd
  exact⟨[(iv (-1))],f.g Z,f.d,_,[],ah,m,Z,Z⟩
 ·refine Ai f Z ai ?_
  refine An ?_
  refine Ag ?_
  refine Bp 8 A7 (by kernel_rfl) m ?_
  refine CC 0 8 underlying26 Z sizeOf24 Z f Z λa f=>Ce 1 8 0 BH Z Z Z f Z λa f=>q_len (i:=2) 8 underlying24 ac Z (by kernel_rfl) Z f Z Z Z λa f=>AJ 3 8 Z f Z λa f=>Bs 4 Z λaj w ak m al al=> ?_
  have h1:=rd2 ak h1
  have⟨am,an,hd⟩:=bind_some hd
  refine AA f Z call77 (Wk.T m h1 an) λao ap aq w ar m au a f=> ?_
  obtain⟨av,aw,rfl,rfl,ax⟩:=au
  refine Aa ?_
  refine al ap [aw] _ _ ar m ?_
  refine Bs 5 Z λay w az m aA aA=> ?_
  have ax:=od1 az ax
  have⟨aB,aC,hd⟩:=bind_some hd
  refine AA f Z call76 (Ow.lendCall (RI.mono _) 0 ax m Z (λaD aE m aF=>Wk.c m aF aC) (λ_ _ _ _ h=>h)) λaG aH aI w aJ m aK a f=> ?_
  obtain⟨rfl,rfl⟩:=aK
  refine Aa ?_
  refine aA aH [aw] _ _ aJ m ?_
  have⟨aL,aM,hd⟩:=bind_some hd
  refine B7 (i:=6) 8 Z (by kernel_rfl) Z f Z Z Z call79 (λ_ _ w aN m=>Wk.j0 m aM) λa f=>q_p 7 8 Z f (λ_=>A6 (f.e Z)) λa f=>Bd λaO w aP m=>Aa ?_
  refine Ao ?_
  have m:Mem W aO w H:=Mem.drop (H':=[aw,ib ad 26 [aa]]) m
  obtain rfl:=sj hd
  exact⟨[(iv aL)],f.g Z,f.d,_,[],(gt ah (gt ak (gt ar (gt az (gt aJ aP))))),m,Z,Z⟩
theorem Wk.n0 {aa v1:Value}{ab x1:LL}{x2:Int}(hW:BJ W)(m:Mem W G w (H))(ac:R2 G aa ab)(h1:R2 G v1 x1){y:Bool}(hd:D.n0 ab x1 x2=some y):
  Calls prog 16 #[(.agg #[aa]),v1,(iv x2)] w (Res W G H (λ_ Ho v=>Ho=[]∧v=(.bool y))):=by
 refine Ap (args:=[(.agg #[aa]),v1,(iv x2)]) (N:=18) [.tmp 6] func16 Z Z (lb Z) Z λa f=> ?_
 unfold D.n0 at hd
 refine Ae ?_
 refine A8 (cs:=[aa]) m f Z Z Z λad w a m f=>Ac f Z λa f=>Az ?_
 refine Aw 0 0 (ds:=[aa]) m AE f Z Z Z Z Z λa f=>Ab f Z λa f=> ?_
 have⟨ae,af,hd⟩:=bind_some hd
 refine AR f Z call9 (Wk.p hW m ac h1 af) λag w ah m a f=> ?_
 have ac:=rd2 ah ac
 have h1:=rd2 ah h1
 refine Ab f Z λa f=> ?_
 have⟨ai,aj,hd⟩:=bind_some hd
 refine Bh 7 (λa w=>∃ak,GLe ag ak∧Mem W ak w (ib ad 26 [aa]::H)∧Fr a 18 [(0,(.agg #[aa])),(1,v1),(2,(iv x2)),(3,(pb ad)),(7,(.agg #[aa])),(8,v1),(9,(.bool ae)),(10,(.bool ae)),(17,(.bool ai))]) ?_ ?_
 ·rcases Af aj with⟨al,aj⟩|⟨al,aj⟩
  ·refine As f al ?_
   refine Aw 0 0 (ds:=[aa]) m AE f Z Z Z Z Z λa f=>As f al ?_
   refine Ab f Z λa f=>As f al ?_
   have⟨am,an,aj⟩:=bind_some aj
   refine AR f Z call15 (Wk.N hW m ac h1 an) λao w ap m a f=>As f al ?_
   refine Aj f Z Z Ct λa f=>As f al ?_
   refine Ab f Z λa f=>As f al ?_
   refine Aj f Z Z Cu λa f=>l_o f (AW (f.e Z) al (f.e Z)) λa f=> ?_
   obtain rfl:=sj aj
   exact⟨_,ap,m,f.k Z⟩
  ·refine Au f al λa f=> ?_
   refine Au f al λa f=>Au f al λa f=>Au f al λa f=>Au f al λa f=>Au f al λa f=>l_o f (AX (f.e Z) al (f.e Z)) λa f=> ?_
   obtain rfl:=sj aj
   exact⟨_,gr,m,f.k Z⟩
 ·rintro a w ⟨ak,aq,m,f⟩
  refine Ac f Z λa f=>Aa ?_
  refine Ao ?_
  have m:Mem W ak w H:=Mem.drop (H':=[ib ad 26 [aa]]) m
  obtain rfl:=sj hd
  exact⟨[(.bool ai)],f.g Z,f.d,_,[],(gt ah aq),m,Z,Z⟩
theorem Wk.k0 {v0 aa:Value}{b1:Nat}{ab:Value}{b2:Nat}{x0 ac ad:LI}(hW:BJ W)(m:Mem W G w (ib b1 76 [aa]::ib b2 33 [ab]::H))(h0:R1 G v0 x0)(ae:RSl (RI .u32) G aa ac)(af:R1 G ab ad){y:Bool}(hd:D.k0 x0 ac ad=some y):
  Calls prog 81 #[v0,(pb b1),(pb b2)] w (Res W G H (λ_ Ho v=>Ho=[ib b1 76 [aa],ib b2 33 [ab]]∧v=(.bool y))):=by
 refine Ap (args:=[v0,(pb b1),(pb b2)]) (N:=12) [.tmp 4] func81 Z Z (lb Z) Z λa f=> ?_
 unfold D.k0 at hd
 refine Ae ?_
 refine Ac f Z λa f=>Aa (Ag ?_)
 refine Bp 8 A7 (by kernel_rfl) m ?_
 refine Ce 0 8 0 Pl76 Z Z Z f Z λa f=>AJ 1 8 Z f Z λa f=> ?_
 have⟨ag,ah,hd⟩:=bind_some hd
 refine B7 (i:=2) 8 Z (by kernel_rfl) Z f Z Z Z call58 (λ_ _ w ai m=>Wk.g m (rd1 ai h0) ah) λa f=>Ce 3 8 1 Br Z Z Z f Z λa f=> ?_
 have⟨aj,ak,hd⟩:=bind_some hd
 refine B7 (i:=4) 8 Z (by kernel_rfl) Z f Z Z Z call58 (λ_ _ w al m=>Wk.g m (rd1 al af) ak) λa f=> ?_
 have⟨am,an,hd⟩:=bind_some hd
 refine B7 (i:=5) 8 Z (by kernel_rfl) Z f Z Z Z call57 (λ_ _ w ao m=>Wk.I hW m (rd1 ao ae) an) λa f=>q_p 6 8 Z f (λ_=>Bc (f.e Z)) λa f=>q_p 7 8 Z f (λ_=>A6 (f.e Z)) λa f=>Bd λap w aq m=>Aa ?_
 refine Ao ?_
 obtain rfl:=sj hd
 exact⟨[(.bool (!am))],f.g Z,f.d,_,[ib b1 76 [aa],ib b2 33 [ab]],aq,m,Z,Z⟩
theorem Wk.p1 {v0 aa:Value}{b1c0:Nat}{ab:Value}{b1c1:Nat}{x0:LL}{ac ad:LI}(hW:BJ W)(m:Mem W G w (ib b1c0 76 [aa]::ib b1c1 33 [ab]::H))(h0:R2 G v0 x0)(ae:RSl (RI .u32) G aa ac)(af:R1 G ab ad){y:Int}(hd:D.p1 x0 ac ad=some y):
  Calls prog 195 #[v0,(.func (.func 81) #[] #[(pb b1c0),(pb b1c1)])] w (Res W G H (λ_ Ho v=>Ho=[ib b1c0 76 [aa],ib b1c1 33 [ab]]∧v=(iv y))):=by
 refine Ap (args:=[v0,(.func (.func 81) #[] #[(pb b1c0),(pb b1c1)])]) (N:=19) [.tmp 4] func195 Z Z (lb Z) Z λa f=> ?_
 unfold D.p1 at hd
 refine Ae ?_
 refine Ac f Z λa f=>Aa (Ag (Ae ?_))
 refine Ab f Z λa f=>AZ underlying24 f Z Z h0 λa f=>Ab f Z λa f=>Aa ?_
 have⟨ag,ah,hd⟩:=bind_some hd
 refine AM (λa w=>∃q_33':Unit,ag= .inl q_33'∧∃(ai:GH),GLe G ai∧Fr a 19 []∧Mem W ai w (ib b1c0 76 [aa]::ib b1c1 33 [ab]::H)) ?_ ?_
 ·refine Ak ?_
  refine AI (λaj a w=>∃ak:Int,ak=aj∧∃(al:GH),GLe G al∧Fr a 19 [(0,v0),(1,(.func (.func 81) #[] #[(pb b1c0),(pb b1c1)])),(7,(iv (x0.length:Int))),(8,(iv ak))]∧Mem W al w (ib b1c0 76 [aa]::ib b1c1 33 [ab]::H)) ah ⟨_,Z,_,gr,f.k Z,m⟩ ?_
  clear ah f m
  rintro aj am an ao a w ⟨ak,rfl,al,ap,f,m⟩
  have h0:=rd2 ap h0
  have ae:=rd1 ap ae
  have af:=rd1 ap af
  refine Ae ?_
  refine Aj f Z Z AP λa f=>Aa (Ag ?_)
  rcases Af an with⟨aq,an⟩|⟨aq,an⟩
  ·refine Al f Z aq ?_
   refine An ?_
   refine Ag (Ak (Ae ?_))
   refine Ab f Z λa f=>Ac f Z λa f=>Az ?_
   refine Ab f Z λa f=>Ab f Z λa f=>Ab f Z λa f=> ?_
   have⟨ar,au,an⟩:=bind_some an
   refine Be T24 f Z Z Z h0 au λav aw a ax ay f=>AK m Br f Z Z ax λa f=> ?_
   have⟨az,aA,an⟩:=bind_some an
   refine DQ f Z Z Z call81 (Wk.k0 hW m ay ae af aA) λaB aC aD w aE m aF a f=> ?_
   obtain⟨rfl,rfl⟩:=aF
   refine Aa ?_
   rcases Af an with⟨aG,an⟩|⟨aG,an⟩
   ·refine Al f Z aG ?_
    refine Ae ?_
    refine Ab f Z λa f=>Ac f Z λa f=>Aa ?_
    refine Ao ?_
    obtain rfl:=sj an
    obtain rfl:=ao _ rfl
    obtain rfl:=sj hd
    exact⟨[(iv ak)],f.g Z,f.d,_,[ib b1c0 76 [aa],ib b1c1 33 [ab]],(gt ap aE),m,Z,Z⟩
   ·refine Ai f Z aG ?_
    refine An ?_
    refine Ah ?_
    refine Aj f Z Z Ay λa f=>Ab f Z λa f=>Aa ?_
    obtain rfl:=sj an
    exact⟨_,Z,_,Z,_,(gt ap aE),f.k Z,m⟩
  ·refine Ai f Z aq ?_
   refine AG Z ?_
   obtain rfl:=sj an
   obtain rfl:=ao _ rfl
   exact⟨_,Z,_,ap,f.weak trivial,m⟩
 ·rintro a w ⟨_,rfl,ai,aH,f,m⟩
  refine Ae ?_
  refine Ac f Z λa f=>Aa ?_
  refine Ao ?_
  obtain rfl:=sj hd
  exact⟨[(iv (-1))],f.g Z,f.d,_,[ib b1c0 76 [aa],ib b1c1 33 [ab]],aH,m,Z,Z⟩
theorem Wk.g1 {v0 aa:Value}{b1c0:Nat}{ab:Value}{b1c1:Nat}{x0:LL}{ac ad:LI}(hW:BJ W)(m:Mem W G w (ib b1c0 76 [aa]::ib b1c1 33 [ab]::H))(h0:R2 G v0 x0)(ae:RSl (RI .u32) G aa ac)(af:R1 G ab ad){y:Bool}(hd:D.g1 x0 ac ad=some y):
  Calls prog 80 #[v0,(.func (.func 81) #[] #[(pb b1c0),(pb b1c1)])] w (Res W G H (λ_ Ho v=>Ho=[ib b1c0 76 [aa],ib b1c1 33 [ab]]∧v=(.bool y))):=by
 refine Ap (args:=[v0,(.func (.func 81) #[] #[(pb b1c0),(pb b1c1)])]) (N:=9) [.tmp 4] func80 Z Z (lb Z) Z λa f=> ?_
 unfold D.g1 at hd
 refine Ae ?_
 refine Ac f Z λa f=>Az ?_
 refine Ab f Z λa f=>Ab f Z λa f=> ?_
 have⟨ag,ah,hd⟩:=bind_some hd
 refine AA f Z call195 (Wk.p1 hW m h0 ae af ah) λai aj ak w al m am a f=> ?_
 obtain⟨rfl,rfl⟩:=am
 refine Aj f Z Z Dv λa f=>Ac f Z λa f=>Aa ?_
 refine Ao ?_
 obtain rfl:=sj hd
 exact⟨[(.bool (decide ((0:Int)≤ag)))],f.g Z,f.d,_,[ib b1c0 76 [aa],ib b1c1 33 [ab]],al,m,Z,Z⟩
theorem Wk.o {aa v1 v2:Value}{ab x1:LL}{x2:LI}(hW:BJ W)(m:Mem W G w (H))(ac:R2 G aa ab)(h1:R2 G v1 x1)(h2:R1 G v2 x2){y:Bool}(hd:D.o ab x1 x2=some y):
  Calls prog 17 #[(.agg #[aa]),v1,v2] w (Res W G H (λ_ Ho v=>Ho=[]∧v=(.bool y))):=by
 refine Ap (args:=[(.agg #[aa]),v1,v2]) (N:=24) [.tmp 6] func17 Z Z (lb Z) Z λa f=> ?_
 unfold D.o at hd
 refine Ae ?_
 refine A8 (cs:=[aa]) m f Z Z Z λad w a m f=>A8 (cs:=[v2]) m f Z Z h2.cells λae w a m f=>Ac f Z λa f=>Aa (Ag (Ae ?_))
 refine Aw 1 0 (ds:=[aa]) m AE f Z Z Z Z Z λa f=>Ab f Z λa f=> ?_
 have⟨af,ag,hd⟩:=bind_some hd
 refine AR f Z call9 (Wk.p hW m ac h1 ag) λah w ai m a f=> ?_
 have ac:=rd2 ai ac
 have h1:=rd2 ai h1
 have h2:=rd1 ai h2
 refine l_o f (Bc (f.e Z)) λa f=>Ab f Z λa f=> ?_
 have⟨aj,ak,hd⟩:=bind_some hd
 refine Bh 5 (λa w=>∃al,GLe ah al∧Mem W al w (ib ae 33 [v2]::ib ad 26 [aa]::H)∧Fr a 24 [(0,(.agg #[aa])),(1,v1),(2,v2),(3,(pb ad)),(5,(pb ae)),(8,(.agg #[aa])),(9,v1),(10,(.bool af)),(11,(.bool (!af))),(12,(.bool (!af))),(17,(.bool aj))]) ?_ ?_
 ·rcases Af ak with⟨am,ak⟩|⟨am,ak⟩
  ·refine Au f am λa f=> ?_
   refine Au f am λa f=>Au f am λa f=>Au f am λa f=>l_o f (AW (f.e Z) am (f.e Z)) λa f=> ?_
   obtain rfl:=sj ak
   exact⟨_,gr,m,f.k Z⟩
  ·refine As f am ?_
   refine Aw 1 0 (ds:=[aa]) m AE f Z Z Z Z Z λa f=>As f am ?_
   refine AV 0 0 m Br f Z Z Z Z λa f=>As f am ?_
   have⟨an,ao,ak⟩:=bind_some ak
   refine AR f Z call56 (Wk.f0 hW m ac h2 ao) λap w aq m a f=>As f am ?_
   refine l_o f (Bc (f.e Z)) λa f=>l_o f (AX (f.e Z) am (f.e Z)) λa f=> ?_
   obtain rfl:=sj ak
   exact⟨_,aq,m,f.k Z⟩
 ·rintro a w ⟨al,ar,m,f⟩
  have ac:=rd2 ar ac
  have h1:=rd2 ar h1
  have h2:=rd1 ar h2
  refine Aa ?_
  rcases Af hd with⟨au,hd⟩|⟨au,hd⟩
  ·refine Al f Z au ?_
   refine Ae ?_
   refine Ac f Z λa f=>Aa ?_
   refine Ao ?_
   have m:Mem W al w H:=Mem.drop (H':=[ib ae 33 [v2],ib ad 26 [aa]]) m
   obtain rfl:=sj hd
   exact⟨[(.bool false)],f.g Z,f.d,_,[],(gt ai ar),m,Z,Z⟩
  ·refine Ai f Z au ?_
   refine An ?_
   refine Ae ?_
   refine Aw 1 0 (ds:=[aa]) m AE f Z Z Z Z Z λa f=> ?_
   have⟨av,aw,hd⟩:=bind_some hd
   refine AA f Z call55 (Wk.t m ac aw) λax ay az w aA m aB a f=> ?_
   obtain⟨aC,aD,rfl,rfl,aE⟩:=aB
   have h1:=rd2 aA h1
   have h2:=rd1 aA h2
   refine Bn (cs:=[sn]) zeroValue76 m f Z Z λaF w a m f=>AD 0 0 (ds:=[aC]) m sizeOf76 f Z Z (Ow.cells 1 m aE Z) (AL (Ow.one1 1 m aE Z) AO) Z (lb Z) Z λw m=>Az ?_
   refine Ab f Z λa f=>Df f Z Z Z λa f=> ?_
   have m:Mem W ay w (aD::ib aF 76 [aC]::ib ae 33 [v2]::ib ad 26 [aa]::H):=m.fr 1
   obtain⟨aG,aH,m,aI⟩:=Ow.stamp (RI.mono _) aE m
   have h1:=rd2 aH h1
   have h2:=rd1 aH h2
   have⟨aJ,aK,hd⟩:=bind_some hd
   refine AA f Z call80 (Wk.g1 hW m h1 aI h2 aK) λaL aM aN w aO m aP a f=> ?_
   obtain⟨rfl,rfl⟩:=aP
   refine l_o f (Bc (f.e Z)) λa f=>Ac f Z λa f=>Aa ?_
   refine Ao ?_
   have m:Mem W aM w H:=Mem.drop (H':=[ib aF 76 [aC],ib ae 33 [v2],ib ad 26 [aa]]) m
   obtain rfl:=sj hd
   exact⟨[(.bool (!aJ))],f.g Z,f.d,_,[],(gt ai (gt ar (gt aA (gt aH aO)))),m,Z,Z⟩
theorem Wk.r0 {aa v1 v2:Value}{ab:LL}{x1 x2:LI}(hW:BJ W)(m:Mem W G w (H))(ac:R2 G aa ab)(h1:R1 G v1 x1)(h2:R1 G v2 x2){y:Bool}(hd:D.r0 ab x1 x2=some y):
  Calls prog 18 #[(.agg #[aa]),v1,v2] w (Res W G H (λ_ Ho v=>Ho=[]∧v=(.bool y))):=by
 refine Ap (args:=[(.agg #[aa]),v1,v2]) (N:=24) [.tmp 6] func18 Z Z (lb Z) Z λa f=> ?_
 unfold D.r0 at hd
 refine Ae ?_
 refine A8 (cs:=[aa]) m f Z Z Z λad w a m f=>Ac f Z λa f=>Az ?_
 refine Aw 0 0 (ds:=[aa]) m AE f Z Z Z Z Z λa f=>Ab f Z λa f=> ?_
 have⟨ae,af,hd⟩:=bind_some hd
 refine AR f Z call82 (Wk.O m ac h1 af) λag w ah m a f=> ?_
 have ac:=rd2 ah ac
 have h1:=rd1 ah h1
 have h2:=rd1 ah h2
 refine Ab f Z λa f=> ?_
 have⟨ai,aj,hd⟩:=bind_some hd
 refine Bh 4 (λa w=>∃ak,GLe ag ak∧Mem W ak w (ib ad 26 [aa]::H)∧Fr a 24 [(0,(.agg #[aa])),(1,v1),(2,v2),(3,(pb ad)),(7,(.agg #[aa])),(8,v1),(9,(.bool ae)),(10,(.bool ae)),(14,(.bool ai))]) ?_ ?_
 ·rcases Af aj with⟨al,aj⟩|⟨al,aj⟩
  ·refine As f al ?_
   refine Aw 0 0 (ds:=[aa]) m AE f Z Z Z Z Z λa f=>As f al ?_
   refine Ab f Z λa f=>As f al ?_
   have⟨am,an,aj⟩:=bind_some aj
   refine AR f Z call82 (Wk.O m ac h2 an) λao w ap m a f=>l_o f (AW (f.e Z) al (f.e Z)) λa f=> ?_
   obtain rfl:=sj aj
   exact⟨_,ap,m,f.k Z⟩
  ·refine Au f al λa f=> ?_
   refine Au f al λa f=>Au f al λa f=>l_o f (AX (f.e Z) al (f.e Z)) λa f=> ?_
   obtain rfl:=sj aj
   exact⟨_,gr,m,f.k Z⟩
 ·rintro a w ⟨ak,aq,m,f⟩
  have ac:=rd2 aq ac
  have h1:=rd1 aq h1
  have h2:=rd1 aq h2
  refine Ab f Z λa f=> ?_
  have⟨ar,au,hd⟩:=bind_some hd
  refine Bh 8 (λa w=>∃av,GLe ak av∧Mem W av w (ib ad 26 [aa]::H)∧Fr a 24 [(0,(.agg #[aa])),(1,v1),(2,v2),(3,(pb ad)),(7,(.agg #[aa])),(8,v1),(9,(.bool ae)),(10,(.bool ae)),(14,(.bool ai)),(15,(.bool ai)),(23,(.bool ar))]) ?_ ?_
  ·rcases Af au with⟨aw,au⟩|⟨aw,au⟩
   ·refine As f aw ?_
    refine Aw 0 0 (ds:=[aa]) m AE f Z Z Z Z Z λa f=>As f aw ?_
    have⟨ax,ay,au⟩:=bind_some au
    refine AA f Z call55 (Wk.t m ac ay) λaz aA aB w aC m aD a f=> ?_
    obtain⟨aE,aF,rfl,rfl,aG⟩:=aD
    have h1:=rd1 aC h1
    have h2:=rd1 aC h2
    refine As f aw ?_
    refine Ab f Z λa f=>As f aw ?_
    have⟨aH,aI,au⟩:=bind_some au
    refine AR f Z call58 (Wk.g m h1 aI) λaJ w aK m a f=> ?_
    have h2:=rd1 aK h2
    have aG:=od1 aK aG
    refine As f aw ?_
    refine Ab f Z λa f=>As f aw ?_
    have⟨aL,aM,au⟩:=bind_some au
    refine AR f Z call58 (Wk.g m h2 aM) λaN w aO m a f=> ?_
    have aG:=od1 aO aG
    refine As f aw ?_
    have⟨aP,aQ,au⟩:=bind_some au
    refine AA f Z call57 (Ow.lendCall (RI.mono _) 0 aG m Z (λaR aS m aT=>Wk.I hW m aT aQ) (λ_ _ _ _ h=>h)) λaU aV aW w aX m aY a f=> ?_
    obtain⟨rfl,rfl⟩:=aY
    refine l_o f (AW (f.e Z) aw (f.e Z)) λa f=> ?_
    obtain rfl:=sj au
    have m:=m.fr 1
    have m:=m.eraseAt 1
    exact⟨_,(gt aC (gt aK (gt aO aX))),m,f.k Z⟩
   ·refine Au f aw λa f=> ?_
    refine Au f aw λa f=>Au f aw λa f=>Au f aw λa f=>Au f aw λa f=>Au f aw λa f=>Au f aw λa f=>l_o f (AX (f.e Z) aw (f.e Z)) λa f=> ?_
    obtain rfl:=sj au
    exact⟨_,gr,m,f.k Z⟩
  ·rintro a w ⟨av,aZ,m,f⟩
   refine Ac f Z λa f=>Aa ?_
   refine Ao ?_
   have m:Mem W av w H:=Mem.drop (H':=[ib ad 26 [aa]]) m
   obtain rfl:=sj hd
   exact⟨[(.bool ar)],f.g Z,f.d,_,[],(gt ah (gt aq aZ)),m,Z,Z⟩
set_option maxHeartbeats 1000000 in
theorem Wk.f1 {v0:Value}{x0:LI}(hW:BJ W)(m:Mem W G w (H))(h0:RSl (RI .u8) G v0 x0){y:Bool}(hd:D.f1 x0=some y):
  Calls prog 3 #[v0] w (Res W G H (λ_ Ho v=>Ho=[]∧v=(.bool y))):=by
 refine Ap (args:=[v0]) (N:=110) [.tmp 2] func3 Z Z (lb Z) Z λa f=> ?_
 unfold D.f1 at hd
 refine Ae ?_
 refine Ac f Z λa f=>Aa (Ag (Ae ?_))
 refine Ab f Z λa f=> ?_
 have⟨aa,ab,hd⟩:=bind_some hd
 refine AR f Z call7 (Wk.d1 m h0 ab) λac w ad m a f=> ?_
 have h0:=rd1 ad h0
 refine Aa ?_
 rcases Af hd with⟨ae,hd⟩|⟨ae,hd⟩
 ·refine Al f Z ae ?_
  refine Ae ?_
  refine Ac f Z λa f=>Aa ?_
  refine Ao ?_
  obtain rfl:=sj hd
  exact⟨[(.bool true)],f.g Z,f.d,_,[],ad,m,Z,Z⟩
 ·refine Ai f Z ae ?_
  refine An ?_
  refine Ae ?_
  refine Ab f Z λa f=> ?_
  have⟨af,ag,hd⟩:=bind_some hd
  refine AA f Z call8 (Wk.X0 m h0 ag) λah ai aj w ak m al a f=> ?_
  obtain⟨am,an,ao,rfl,rfl,ap,aq⟩:=al
  refine Ab f Z λa f=>l_o f (BA (f.e Z) Z) λa f=>l_o f (BA (f.e Z) Z) λa f=>Bn (cs:=[sn]) zeroValue26 m f Z Z λar w a m f=>AD 0 0 (ds:=[am]) m sizeOf26 f Z Z Z (AL ap.one1 AO) Z (lb Z) Z λw m=>Ac f Z λa f=>Az ?_
  refine Aw 0 0 (ds:=[am]) m AE f Z Z Z Z Z λa f=>Ab f Z λa f=> ?_
  have⟨au,av,hd⟩:=bind_some hd
  refine AA f Z call9 (Ow.lendCall (RSl.mono (RI.mono _)) 1 aq m Z (λaw ax m ay=>Wk.p hW m (rd2 ax ap) ay av) (λ_ _ _ _ h=>h)) λaz aA aB w aC m aD a f=> ?_
  obtain⟨rfl,rfl⟩:=aD
  have ap:=rd2 aC ap
  have aq:=Ow.mono (RSl.mono (RI.mono _)) aC aq
  refine Ac f Z λa f=>Aa (Ag (Ae ?_))
  refine Ab f Z λa f=>Aw 0 0 (ds:=[am]) m AE f Z Z Z Z Z λa f=>Ab f Z λa f=> ?_
  have⟨aE,aF,hd⟩:=bind_some hd
  refine AA f Z call10 (Ow.lendCall (RSl.mono (RI.mono _)) 1 aq m Z (λaG aH m aI=>Wk.K m (rd2 aH ap) aI aF) (λ_ _ _ _ h=>h)) λaJ aK aL w aM m aN a f=> ?_
  obtain⟨rfl,rfl⟩:=aN
  have ap:=rd2 aM ap
  have aq:=Ow.mono (RSl.mono (RI.mono _)) aM aq
  refine l_o f (r_bool_neq (f.e Z) (f.e Z) underlying4) λa f=>Aa ?_
  rcases Af hd with⟨aO,hd⟩|⟨aO,hd⟩
  ·refine Al f Z aO ?_
   refine Ae ?_
   refine Ac f Z λa f=>Aa ?_
   refine Ao ?_
   have m:Mem W aK w H:=Mem.drop (H':=[ib ar 26 [am],ao]) m
   obtain rfl:=sj hd
   exact⟨[(.bool false)],f.g Z,f.d,_,[],(gt ad (gt ak (gt aC aM))),m,Z,Z⟩
  ·refine Ai f Z aO ?_
   refine An ?_
   refine Ag (Ae ?_)
   refine Aw 0 0 (ds:=[am]) m AE f Z Z Z Z Z λa f=> ?_
   have⟨aP,aQ,hd⟩:=bind_some hd
   refine AR f Z call11 (Wk.u m ap aQ) λaR w aS m a f=> ?_
   have ap:=rd2 aS ap
   have aq:=Ow.mono (RSl.mono (RI.mono _)) aS aq
   refine l_o f (Bc (f.e Z)) λa f=>Ab f Z λa f=> ?_
   refine Bh 5 (λa w=>∃aT,GLe aR aT∧Mem W aT w (ib ar 26 [am]::ao::H)∧Fr a 110 [(0,v0),(3,(pb ar)),(4,an),(5,(.bool au)),(24,(.bool (au !=aE))),(25,(.agg #[am])),(26,(.bool aP)),(27,(.bool (!aP))),(28,(.bool (!aP))),(33,(.bool ((!aP)||(decide ((7:Int)<(af.1.length:Int))))))]) ?_ ?_
   ·rcases Bool.eq_false_or_eq_true (!aP) with aU|aU
    ·refine Au f aU λa f=> ?_
     refine Au f aU λa f=>Au f aU λa f=>Au f aU λa f=>l_o f (AW (f.e Z) aU (f.e Z)) λa f=> ?_
     exact⟨_,gr,m,f.weak ⟨Z,Z,Z,Z,Z,Z,Z,Z,Z,by rw[aU];rfl,trivial⟩⟩
    ·refine As f aU ?_
     refine BQ underlying26 Z sizeOf24 f Z λa f=>As f aU ?_
     refine AV 0 0 m BH f Z Z Z Z λa f=>As f aU ?_
     refine AZ underlying24 f Z Z ap λa f=>As f aU ?_
     refine Aj f Z Z Cu λa f=>l_o f (AX (f.e Z) aU (f.e Z)) λa f=> ?_
     exact⟨_,gr,m,f.weak ⟨Z,Z,Z,Z,Z,Z,Z,Z,Z,by rw[aU];rfl,trivial⟩⟩
   ·rintro a w ⟨aT,aV,m,f⟩
    have ap:=rd2 aV ap
    have aq:=Ow.mono (RSl.mono (RI.mono _)) aV aq
    refine Aa ?_
    rcases Af hd with⟨aW,hd⟩|⟨aW,hd⟩
    ·refine Al f Z aW ?_
     refine Ae ?_
     refine Ac f Z λa f=>Aa ?_
     refine Ao ?_
     have m:Mem W aT w H:=Mem.drop (H':=[ib ar 26 [am],ao]) m
     obtain rfl:=sj hd
     exact⟨[(.bool true)],f.g Z,f.d,_,[],(gt ad (gt ak (gt aC (gt aM (gt aS aV))))),m,Z,Z⟩
    ·refine Ai f Z aW ?_
     refine An ?_
     refine Ae ?_
     refine Aw 0 0 (ds:=[am]) m AE f Z Z Z Z Z λa f=> ?_
     have⟨aX,aY,hd⟩:=bind_some hd
     refine AR f Z call12 (Wk.o0 m ap aY) λaZ w a0 m a f=> ?_
     have ap:=rd2 a0 ap
     have aq:=Ow.mono (RSl.mono (RI.mono _)) a0 aq
     refine Ac f Z λa f=>Az ?_
     refine Aw 0 0 (ds:=[am]) m AE f Z Z Z Z Z λa f=> ?_
     have⟨a1,a2,hd⟩:=bind_some hd
     refine AA f Z call13 (Wk.z hW m ap a2) λa3 a4 a5 w a6 m a7 a f=> ?_
     obtain⟨a8,rfl,rfl,a9⟩:=a7
     have ap:=rd2 a6 ap
     have aq:=Ow.mono (RSl.mono (RI.mono _)) a6 aq
     refine Ac f Z λa f=>Az ?_
     refine Aw 0 0 (ds:=[am]) m AE f Z Z Z Z Z λa f=>Ab f Z λa f=> ?_
     have⟨ba,bb,hd⟩:=bind_some hd
     refine AA f Z call14 (Wk.J0 hW m ap a9 bb) λbc bd be w bf m bg a f=> ?_
     obtain⟨bh,bi,rfl,rfl,bj⟩:=bg
     have a9:=rd2 bf a9
     have ap:=rd2 bf ap
     have aq:=Ow.mono (RSl.mono (RI.mono _)) bf aq
     refine Ac f Z λa f=>Aa (Ag (Ae ?_))
     refine Aw 1 0 (ds:=[am]) m AE f Z Z Z Z Z λa f=>Ab f Z λa f=> ?_
     have⟨bk,bl,hd⟩:=bind_some hd
     refine AR f Z call10 (Wk.K m ap a9 bl) λbm w bn m a f=> ?_
     have a9:=rd2 bn a9
     have ap:=rd2 bn ap
     have bj:=od1 bn bj
     have aq:=Ow.mono (RSl.mono (RI.mono _)) bn aq
     refine l_o f (Bc (f.e Z)) λa f=>Ab f Z λa f=> ?_
     have⟨bo,bp,hd⟩:=bind_some hd
     refine Bh 7 (λa w=>∃bq,GLe bm bq∧Mem W bq w (bi::ib ar 26 [am]::ao::H)∧Fr a 110 [(0,v0),(3,(pb ar)),(4,an),(5,(.bool au)),(6,(iv aX)),(7,a8),(8,bh),(41,(.agg #[am])),(42,a8),(43,(.bool bk)),(44,(.bool (!bk))),(45,(.bool (!bk))),(52,(.bool bo))]) ?_ ?_
     ·rcases Af bp with⟨br,bp⟩|⟨br,bp⟩
      ·refine Au f br λa f=> ?_
       refine Au f br λa f=>Au f br λa f=>Au f br λa f=>Au f br λa f=>Au f br λa f=>l_o f (AW (f.e Z) br (f.e Z)) λa f=> ?_
       obtain rfl:=sj bp
       exact⟨_,gr,m,f.k Z⟩
      ·refine As f br ?_
       refine Aw 1 0 (ds:=[am]) m AE f Z Z Z Z Z λa f=>As f br ?_
       refine Ab f Z λa f=>As f br ?_
       have⟨bs,bt,bp⟩:=bind_some bp
       refine AR f Z call15 (Wk.N hW m ap a9 bt) λbu w bv m a f=>As f br ?_
       refine Ab f Z λa f=>As f br ?_
       refine Aj f Z Z Ay λa f=>As f br ?_
       refine Aj f Z Z Dx λa f=>l_o f (AX (f.e Z) br (f.e Z)) λa f=> ?_
       obtain rfl:=sj bp
       exact⟨_,bv,m,f.k Z⟩
     ·rintro a w ⟨bq,bw,m,f⟩
      have a9:=rd2 bw a9
      have ap:=rd2 bw ap
      have bj:=od1 bw bj
      have aq:=Ow.mono (RSl.mono (RI.mono _)) bw aq
      refine Ab f Z λa f=> ?_
      refine Bh 6 (λa w=>∃bx,GLe bq bx∧Mem W bx w (bi::ib ar 26 [am]::ao::H)∧Fr a 110 [(0,v0),(3,(pb ar)),(4,an),(5,(.bool au)),(6,(iv aX)),(7,a8),(8,bh),(41,(.agg #[am])),(42,a8),(43,(.bool bk)),(44,(.bool (!bk))),(45,(.bool (!bk))),(52,(.bool bo)),(53,(.bool bo)),(59,(.bool (bo||((ba.length:Int) !=(i64.wrap (aX+1))))))]) ?_ ?_
      ·rcases Bool.eq_false_or_eq_true bo with bz|bz
       ·refine Au f bz λa f=> ?_
        refine Au f bz λa f=>Au f bz λa f=>Au f bz λa f=>Au f bz λa f=>l_o f (AW (f.e Z) bz (f.e Z)) λa f=> ?_
        exact⟨_,gr,m,f.weak ⟨Z,Z,Z,Z,Z,Z,Z,Z,Z,Z,Z,Z,Z,Z,by rw[bz];rfl,trivial⟩⟩
       ·refine As f bz ?_
        refine Ab f Z λa f=>As f bz ?_
        refine Bz 0 m bj Z underlying33 f Z Z λa f=>As f bz ?_
        refine Ab f Z λa f=>As f bz ?_
        refine Aj f Z Z Ay λa f=>As f bz ?_
        refine Aj f Z Z Dx λa f=>l_o f (AX (f.e Z) bz (f.e Z)) λa f=> ?_
        exact⟨_,gr,m,f.weak ⟨Z,Z,Z,Z,Z,Z,Z,Z,Z,Z,Z,Z,Z,Z,by rw[bz];rfl,trivial⟩⟩
      ·rintro a w ⟨bx,bA,m,f⟩
       have a9:=rd2 bA a9
       have ap:=rd2 bA ap
       have aq:=Ow.mono (RSl.mono (RI.mono _)) bA aq
       refine Ab f Z λa f=> ?_
       have⟨bB,bC,hd⟩:=bind_some hd
       refine Bh 7 (λa w=>∃bD,GLe bx bD∧Mem W bD w (bi::ib ar 26 [am]::ao::H)∧Fr a 110 [(0,v0),(3,(pb ar)),(4,an),(5,(.bool au)),(6,(iv aX)),(7,a8),(8,bh),(41,(.agg #[am])),(42,a8),(43,(.bool bk)),(44,(.bool (!bk))),(45,(.bool (!bk))),(52,(.bool bo)),(53,(.bool bo)),(59,(.bool (bo||((ba.length:Int) !=(i64.wrap (aX+1)))))),(60,(.bool (bo||((ba.length:Int) !=(i64.wrap (aX+1)))))),(67,(.bool bB))]) ?_ ?_
       ·rcases Af bC with⟨bE,bC⟩|⟨bE,bC⟩
        ·refine Au f bE λa f=> ?_
         refine Au f bE λa f=>Au f bE λa f=>Au f bE λa f=>Au f bE λa f=>Au f bE λa f=>l_o f (AW (f.e Z) bE (f.e Z)) λa f=> ?_
         obtain rfl:=sj bC
         exact⟨_,gr,m,f.k Z⟩
        ·refine As f bE ?_
         refine Aw 1 0 (ds:=[am]) m AE f Z Z Z Z Z λa f=>As f bE ?_
         refine Ab f Z λa f=>As f bE ?_
         refine Ab f Z λa f=>As f bE ?_
         refine Aj f Z Z Ct λa f=>As f bE ?_
         have⟨bF,bG,bC⟩:=bind_some bC
         refine AR f Z call16 (Wk.n0 hW m ap a9 bG) λbH w bI m a f=>As f bE ?_
         refine l_o f (Bc (f.e Z)) λa f=>l_o f (AX (f.e Z) bE (f.e Z)) λa f=> ?_
         obtain rfl:=sj bC
         exact⟨_,bI,m,f.k Z⟩
       ·rintro a w ⟨bD,bJ,m,f⟩
        have a9:=rd2 bJ a9
        have ap:=rd2 bJ ap
        have aq:=Ow.mono (RSl.mono (RI.mono _)) bJ aq
        refine Ab f Z λa f=> ?_
        have⟨bK,bL,hd⟩:=bind_some hd
        refine Bh 5 (λa w=>∃bM,GLe bD bM∧Mem W bM w (bi::ib ar 26 [am]::ao::H)∧Fr a 110 [(0,v0),(3,(pb ar)),(4,an),(5,(.bool au)),(6,(iv aX)),(7,a8),(8,bh),(41,(.agg #[am])),(42,a8),(43,(.bool bk)),(44,(.bool (!bk))),(45,(.bool (!bk))),(52,(.bool bo)),(53,(.bool bo)),(59,(.bool (bo||((ba.length:Int) !=(i64.wrap (aX+1)))))),(60,(.bool (bo||((ba.length:Int) !=(i64.wrap (aX+1)))))),(67,(.bool bB)),(68,(.bool bB)),(73,(.bool bK))]) ?_ ?_
        ·rcases Af bL with⟨bN,bL⟩|⟨bN,bL⟩
         ·refine Au f bN λa f=> ?_
          refine Au f bN λa f=>Au f bN λa f=>Au f bN λa f=>l_o f (AW (f.e Z) bN (f.e Z)) λa f=> ?_
          obtain rfl:=sj bL
          exact⟨_,gr,m,f.k Z⟩
         ·refine As f bN ?_
          refine Aw 1 0 (ds:=[am]) m AE f Z Z Z Z Z λa f=>As f bN ?_
          refine Ab f Z λa f=>As f bN ?_
          refine Ab f Z λa f=>As f bN ?_
          have⟨bO,bP,bL⟩:=bind_some bL
          refine AR f Z call16 (Wk.n0 hW m ap a9 bP) λbQ w bR m a f=>l_o f (AX (f.e Z) bN (f.e Z)) λa f=> ?_
          obtain rfl:=sj bL
          exact⟨_,bR,m,f.k Z⟩
        ·rintro a w ⟨bM,bS,m,f⟩
         have a9:=rd2 bS a9
         have ap:=rd2 bS ap
         have aq:=Ow.mono (RSl.mono (RI.mono _)) bS aq
         refine Aa ?_
         rcases Af hd with⟨bT,hd⟩|⟨bT,hd⟩
         ·refine Al f Z bT ?_
          refine Ae ?_
          refine Ac f Z λa f=>Aa ?_
          refine Ao ?_
          have m:Mem W bM w H:=Mem.drop (H':=[bi,ib ar 26 [am],ao]) m
          obtain rfl:=sj hd
          exact⟨[(.bool false)],f.g Z,f.d,_,[],(gt ad (gt ak (gt aC (gt aM (gt aS (gt aV (gt a0 (gt a6 (gt bf (gt bn (gt bw (gt bA (gt bJ bS))))))))))))),m,Z,Z⟩
         ·refine Ai f Z bT ?_
          refine An ?_
          refine Ag (Ae ?_)
          refine Ac f Z λa f=>Aa ?_
          have⟨bU,bV,hd⟩:=bind_some hd
          refine AM (λa w=>∃q_268':Unit,bU= .inl q_268'∧∃(bW:GH),GLe bM bW∧Fr a 110 [(3,(pb ar)),(4,an),(5,(.bool au)),(6,(iv aX))]∧Mem W bW w (ib ar 26 [am]::ao::H)) ?_ ?_
          ·refine Ak ?_
           have m:=m.fr 2
           have m:=m.fr 2
           have m:=m.eraseAt 2
           refine AI (λbX a w=>∃bY:Int,bY=bX∧∃(bZ:GH),GLe bM bZ∧Fr a 110 [(3,(pb ar)),(4,an),(5,(.bool au)),(6,(iv aX)),(7,a8),(9,(iv bY))]∧Mem W bZ w (ib ar 26 [am]::ao::H)) bV ⟨_,Z,_,gr,f.k Z,m⟩ ?_
           clear bV f m
           rintro bX b0 b1 b2 a w ⟨bY,rfl,bZ,b3,f,m⟩
           have a9:=rd2 b3 a9
           have ap:=rd2 b3 ap
           refine Ag (Ae ?_)
           refine Ab f Z λa f=>Ab f Z λa f=>AZ underlying24 f Z Z a9 λa f=>Aj f Z Z AP λa f=>Aa ?_
           rcases Af b1 with⟨b4,b1⟩|⟨b4,b1⟩
           ·refine Al f Z b4 ?_
            refine An ?_
            refine Ag (Ak (Ag ?_))
            refine Bp 20 A7 (by kernel_rfl) m ?_
            refine BX (i:=0) (ds:=[am]) 20 0 AE Z Z Z Z (by kernel_rfl) Z f Z Z Z λa f=>AJ 1 20 Z f Z λa f=>AJ 2 20 Z f Z λa f=>AJ 3 20 Z f Z λa f=> ?_
            have⟨b5,b6,b1⟩:=bind_some b1
            refine B8 4 20 T24 a9 b6 Z f Z Z λb7 b8 a b9 ca f=>B6 5 20 Br b9 Z f Z λa f=> ?_
            have⟨cb,cc,b1⟩:=bind_some b1
            refine B7 (i:=6) 20 Z (by kernel_rfl) Z f Z Z Z call17 (λ_ _ w cd m=>Wk.o hW m (rd2 cd ap) (rd2 cd a9) (rd1 cd ca) cc) λa f=>q_p 7 20 Z f (λ_=>Bc (f.e Z)) λa f=>AJ 8 20 Z f Z λa f=> ?_
            have⟨ce,cf,b1⟩:=bind_some b1
            refine q_cut (fuel':=0) (listed':= #[true,true,true,true,true,true,true,true,true,true,true,true,true,true,true,true,true,true,true,true]) (λa=>Fr a 110 [(3,(pb ar)),(4,an),(5,(.bool au)),(6,(iv aX)),(7,a8),(9,(iv bY)),(77,(.bool (decide (bY<(a1.length:Int))))),(80,(.agg #[am])),(81,a8),(82,a8),(83,(iv bY)),(84,b7),(85,b8),(86,(.bool cb)),(87,(.bool (!cb))),(88,(.bool (!cb))),(99,(.bool ce))]) ?_ ?_
            ·intro a f
             refine Bd λcg w ch m=>Aa ?_
             rcases Af b1 with⟨ci,b1⟩|⟨ci,b1⟩
             ·refine Al f Z ci ?_
              refine Ae ?_
              refine Ac f Z λa f=>Aa ?_
              refine Ao ?_
              have m:Mem W cg w H:=Mem.drop (H':=[ib ar 26 [am],ao]) m
              obtain rfl:=sj b1
              obtain rfl:=b2 _ rfl
              obtain rfl:=sj hd
              exact⟨[(.bool false)],f.g Z,f.d,_,[],(gt ad (gt ak (gt aC (gt aM (gt aS (gt aV (gt a0 (gt a6 (gt bf (gt bn (gt bw (gt bA (gt bJ (gt bS (gt b3 ch))))))))))))))),m,Z,Z⟩
             ·refine Ai f Z ci ?_
              refine An ?_
              refine Ah ?_
              refine Ab f Z λa f=>Aj f Z Z Ay λa f=>Ac f Z λa f=>Aa ?_
              obtain rfl:=sj b1
              exact⟨_,Z,_,Z,_,(gt b3 ch),f.k Z,m⟩
            ·intro cj
             rcases Af cf with⟨ck,cf⟩|⟨ck,cf⟩
             ·refine Bb 9 20 Z f ck λa f=> ?_
              refine Bb 10 20 Z f ck λa f=>Bb 11 20 Z f ck λa f=>Bb 12 20 Z f ck λa f=>Bb 13 20 Z f ck λa f=>Bb 14 20 Z f ck λa f=>Bb 15 20 Z f ck λa f=>Bb 16 20 Z f ck λa f=>Bb 17 20 Z f ck λa f=>Bb 18 20 Z f ck λa f=>q_p 19 20 Z f (λ_=>AW (f.e Z) ck (f.e Z)) λa f=> ?_
              obtain rfl:=sj cf
              exact cj _ (f.k Z)
             ·refine BX (i:=9) (ds:=[am]) 20 0 AE Z Z Z Z (by kernel_rfl) Z f (Cr f Z Z Z ck) Z Z λa f=> ?_
              refine AJ (hw:=wo f ck) 10 20 Z f Z λa f=>AJ (hw:=wo f ck) 11 20 Z f Z λa f=> ?_
              have⟨cl,cm,cf⟩:=bind_some cf
              refine B8 (hw:=wo f ck) 12 20 T24 a9 cm Z f Z Z λcn co a cp cq f=>B6 (hw:=wo f ck) 13 20 Br cp Z f Z λa f=>AJ (hw:=wo f ck) 14 20 Z f Z λa f=> ?_
              have⟨cr,ct,cf⟩:=bind_some cf
              refine B8 (hw:=wo f ck) 15 20 T24 a9 ct Z f Z Z λcu cv a cw cx f=>B6 (hw:=wo f ck) 16 20 Br cw Z f Z λa f=> ?_
              have⟨cy,cz,cf⟩:=bind_some cf
              refine B7 (i:=17) 20 Z (by kernel_rfl) Z f (Cr f Z Z Z ck) Z Z call18 (λ_ _ w cA m=>Wk.r0 hW m (rd2 cA ap) (rd1 cA cq) (rd1 cA cx) cz) λa f=>q_p (hw:=wo f ck) 18 20 Z f (λ_=>Bc (f.e Z)) λa f=>q_p 19 20 Z f (λ_=>AX (f.e Z) ck (f.e Z)) λa f=> ?_
              obtain rfl:=sj cf
              exact cj _ (f.k Z)
           ·refine Ai f Z b4 ?_
            refine AG Z ?_
            obtain rfl:=sj b1
            obtain rfl:=b2 _ rfl
            exact⟨_,Z,_,b3,f.k Z,m⟩
          ·rintro a w ⟨_,rfl,bW,cB,f,m⟩
           have ap:=rd2 cB ap
           have aq:=Ow.mono (RSl.mono (RI.mono _)) cB aq
           refine Ae ?_
           refine Ab f Z λa f=>l_o f (Bc (f.e Z)) λa f=>Ab f Z λa f=> ?_
           have⟨cC,cD,hd⟩:=bind_some hd
           refine Bh 7 (λa w=>∃cE,GLe bW cE∧Mem W cE w (ib ar 26 [am]::ao::H)∧Fr a 110 [(3,(pb ar)),(4,an),(5,(.bool au)),(6,(iv aX)),(100,(.bool au)),(101,(.bool (!au))),(102,(.bool (!au))),(109,(.bool cC))]) ?_ ?_
           ·rcases Af cD with⟨cF,cD⟩|⟨cF,cD⟩
            ·refine Au f cF λa f=> ?_
             refine Au f cF λa f=>Au f cF λa f=>Au f cF λa f=>Au f cF λa f=>Au f cF λa f=>l_o f (AW (f.e Z) cF (f.e Z)) λa f=> ?_
             obtain rfl:=sj cD
             exact⟨_,gr,m,f.k Z⟩
            ·refine As f cF ?_
             refine Aw 0 0 (ds:=[am]) m AE f Z Z Z Z Z λa f=>As f cF ?_
             refine Ab f Z λa f=>As f cF ?_
             have⟨cG,cH,cD⟩:=bind_some cD
             refine AA f Z call15 (Ow.lendCall (RSl.mono (RI.mono _)) 1 aq m Z (λcI cJ m cK=>Wk.N hW m (rd2 cJ ap) cK cH) (λ_ _ _ _ h=>h)) λcL cM cN w cO m cP a f=> ?_
             obtain⟨rfl,rfl⟩:=cP
             refine As f cF ?_
             refine Ab f Z λa f=>As f cF ?_
             refine Aj f Z Z Ay λa f=>As f cF ?_
             refine Aj f Z Z CN λa f=>l_o f (AX (f.e Z) cF (f.e Z)) λa f=> ?_
             obtain rfl:=sj cD
             exact⟨_,cO,m,f.k Z⟩
           ·rintro a w ⟨cE,cQ,m,f⟩
            refine Ac f Z λa f=>Aa ?_
            refine Ao ?_
            have m:Mem W cE w H:=Mem.drop (H':=[ib ar 26 [am],ao]) m
            obtain rfl:=sj hd
            exact⟨[(.bool cC)],f.g Z,f.d,_,[],(gt ad (gt ak (gt aC (gt aM (gt aS (gt aV (gt a0 (gt a6 (gt bf (gt bn (gt bw (gt bA (gt bJ (gt bS (gt cB cQ))))))))))))))),m,Z,Z⟩
end Go.Proofs.YtgadoeifdbijcaaGreatDoor

namespace Go.Sx
def Out (l:LI)(a0 b0 a b:Int):Prop:=∀i j,a0≤i→i<j→j<b0→¬(a≤i∧j<b)→at' l i≤at' l j
theorem Out.keep {a0 a b b0:Int}{l l':LI}(h:Rg a b l l')(h0:0≤a0)(ha:a0≤a)(hb:b≤b0)(c:Out l a0 b0 a b):Out l' a0 b0 a b:=by
 intro i j h1 h2 h3 h4
 by_cases hi:a≤i∧i<b
 ·rw[h.out j (by omega) (by omega)]
  exact h.all (λx=>x≤at' l j) (λk k1 k2=>c k j (by omega) (by omega) h3 (by omega)) i hi.1 hi.2
 ·rw[h.out i (by omega) (by omega)]
  by_cases hj:a≤j∧j<b
  ·exact h.all (λx=>at' l i≤x) (λk k1 k2=>c i k (by omega) (by omega) (by omega) (by omega)) j hj.1 hj.2
  ·rw[h.out j (by omega) (by omega)];exact c i j h1 h2 h3 h4
theorem pdqsort_spec :∀(n:Nat) (l0:LI) (a0 b0 lim:Int),0≤a0→a0≤b0→b0≤l0.length→l0.length≤1000000→b0-a0≤16→b0-a0≤12+lim→0≤lim→lim≤64→
  (0<a0→∀k,a0≤k→k<b0→at' l0 (a0-1)≤at' l0 k)→b0-a0<n→∃l',D.t1 n l0 a0 b0 lim=some l'∧Rg a0 b0 l0 l'∧Srt l' a0 b0:=by
 intro n
 induction n with
 |zero=>intro l0 a0 b0 lim h1 h2 h3 h4 h5 h6 h7 h8 h9 h10;omega
 |succ n ih=>
  intro l0 a0 b0 lim h1 h2 h3 h4 h5 h6 h7 h8 h9 h10
  unfold D.t1
  refine AB (λs=>Rg a0 b0 l0 s.1∧Out s.1 a0 b0 s.2.1 s.2.2.1∧a0≤s.2.1∧s.2.1≤s.2.2.1∧s.2.2.1≤b0∧s.2.2.1-s.2.1≤12+s.2.2.2.1∧0≤s.2.2.2.1∧s.2.2.2.1≤64∧(0<s.2.1→∀k,s.2.1≤k→k<s.2.2.1→at' s.1 (s.2.1-1)≤at' s.1 k))
   (λs=>(s.2.2.1-s.2.1).toNat) (λr=>Rg a0 b0 l0 r∧Srt r a0 b0) ?_ ?_ ?_
  ·rintro⟨l,a,b,lm,bal,par⟩ ⟨hR,hO,g1,g2,g3,g4,g5,g6,g7⟩
   dsimp only at hR hO g1 g2 g3 g4 g5 g6 g7 ⊢
   have hll:=hR.len
   have fin:∀l',Rg a b l l'→Srt l' a b→Rg a0 b0 l0 l'∧Srt l' a0 b0:=λl' hr hs=>
    ⟨hR.trans (hr.widen g1 g3 h1),λi j k1 k2 k3=>by
     by_cases hc:a≤i∧j<b
     ·exact hs i j hc.1 k2 hc.2
     ·exact(hO.keep hr h1 g1 g3) i j k1 k2 k3 hc⟩
   rw[w64 (show-9223372036854775808≤b-a by omega) (by omega)]
   by_cases hs:b-a≤12
   ·obtain⟨l',e,r1,r2⟩:=EX l a b (by omega) g2 (by omega) (by omega)
    refine⟨.inr l',?_,fin l' r1 r2⟩
    simp only[hs,decide_true,cond_true,e,bs]
   ·have hl0:(lm==0)=false:=by simp;omega
    simp only[hs,decide_false,cond_false,hl0]
    refine B5 (λq:LI×Int=>Rg a b l q.1∧b-a≤13+q.2∧0≤q.2∧q.2≤64) ?_ ?_
    ·cases bal
     ·obtain⟨l1,e,r1⟩:=EV l a b (by omega) (by omega) (by omega) (by omega) (by omega)
      refine⟨(l1,lm-1),?_,r1,by dsimp only;omega,by dsimp only;omega,by dsimp only;omega⟩
      simp only[Bool.not_false,cond_true,e,bs]
      rw[w64 (by omega) (by omega)]
     ·exact⟨(l,lm),rfl,Rg.refl _ _ _,by dsimp only;omega,by dsimp only;omega,by dsimp only;omega⟩
    rintro⟨l1,lm1⟩ ⟨hr1,k1,k2,k3⟩
    dsimp only at hr1 k1 k2 k3 ⊢
    have hl1:=hr1.len
    obtain⟨y,ey,c1,c2,c3⟩:=Fw l1 a b (by omega) (by omega) (by omega) (by omega) (by omega)
    rw[ey,bs]
    refine B5 (λq:LI×Int×Int=>Rg a b l q.1∧a≤q.2.1∧q.2.1<b) ?_ ?_
    ·cases (y.2.1==2)
     ·exact⟨_,rfl,by dsimp only;rw[c1];exact hr1,c2,c3⟩
     ·obtain⟨l2,e2,r2⟩:=Fe l1 a b (by omega) (by omega) (by omega) (by omega)
      rw[c1]
      simp only[cond_true,e2,bs]
      rw[w64 (show-9223372036854775808≤b-1 by omega) (by omega),w64 (show-9223372036854775808≤y.1-a by omega) (by omega),w64 (show-9223372036854775808≤b-1-(y.1-a) by omega) (by omega)]
      exact⟨_,rfl,hr1.trans r2,by dsimp only;omega,by dsimp only;omega⟩
    rintro⟨l2,p,hint⟩ ⟨hr2,p1,p2⟩
    dsimp only at hr2 p1 p2 ⊢
    have hl2:=hr2.len
    refine B5 (λq:LI ⊕ LI=>match q with| .inl q=>q=l2| .inr q=>q=l2∧Srt l2 a b) ?_ ?_
    ·cases ((bal&&par)&&(hint==1))
     ·exact⟨.inl l2,rfl,rfl⟩
     ·obtain⟨y2,e2,d1,d2⟩:=Ew l2 a b (by omega) (by omega) (by omega) (by omega) (by omega)
      simp only[cond_true,e2,bs,d1]
      cases hy:y2.1
      ·exact⟨.inl l2,rfl,rfl⟩
      ·exact⟨.inr l2,rfl,rfl,d2 hy⟩
    rintro(q|q) hq
    case inr=>
     obtain⟨rfl,hq⟩:=hq
     exact⟨.inr q,rfl,fin q hr2 hq⟩
    dsimp only at hq ⊢
    subst hq
    have hO2:=hO.keep hr2 h1 g1 g3
    have g7':0<a→∀k,a≤k→k<b→at' q (a-1)≤at' q k:=λha k m1 m2=>by
     rw[hr2.out (a-1) (by omega) (.inl (by omega))]
     exact hr2.all (λx=>at' l (a-1)≤x) (g7 ha) k m1 m2
    refine B5 (λc:Bool=>c=true→0<a∧at' q p≤at' q (a-1)) ?_ ?_
    ·by_cases ha:0<a
     ·have r1:idx q (a-1)=some (at' q (a-1)):=A9 (by omega) (by omega)
      have r2:idx q p=some (at' q p):=A9 (by omega) (by omega)
      rw[w64 (show-9223372036854775808≤a-1 by omega) (by omega)]
      simp only[ha,decide_true,cond_true,r1,r2,B9,bs]
      exact⟨_,rfl,λh=>⟨by trivial,by simpa using h⟩⟩
     ·simp only[ha,decide_false,cond_false]
      exact⟨_,rfl,λh=>by cases h⟩
    intro c hc
    cases c
    ·
     simp only[cond_false]
     obtain⟨⟨mid,par',l3⟩,e3,P⟩:=partition_spec q a b p (by omega) (by omega) (by omega) p1 p2
     rw[e3,bs]
     obtain⟨hr3,m1,m2,m3,m4⟩:=P
     dsimp only at hr3 m1 m2 m3 m4 ⊢
     have hl3:=hr3.len
     have hO3:=hO2.keep hr3 h1 g1 g3
     have g7'':0<a→∀k,a≤k→k<b→at' l3 (a-1)≤at' l3 k:=λha k n1 n2=>by
      rw[hr3.out (a-1) (by omega) (.inl (by omega))]
      exact hr3.all (λx=>at' q (a-1)≤x) (g7' ha) k n1 n2
     have hR3:Rg a0 b0 l0 l3:=hR.trans ((hr2.trans hr3).widen g1 g3 h1)
     rw[w64 (show-9223372036854775808≤mid-a by omega) (by omega),w64 (show-9223372036854775808≤b-mid by omega) (by omega),w64 (show-9223372036854775808≤mid+1 by omega) (by omega)]
     by_cases hside:mid-a<b-mid
     ·simp only[hside,decide_true,cond_true]
      obtain⟨l4,e4,r4,s4⟩:=ih l3 a mid lm1 (by omega) m1 (by omega) (by omega) (by omega) (by omega) k2 k3 (λha k n1 n2=>g7'' ha k n1 (by omega)) (by omega)
      rw[e4,bs]
      have hl4:=r4.len
      have em:∀k,mid≤k→at' l4 k=at' l3 k:=λk hk=>r4.out k (by omega) (.inr hk)
      have lf:∀k,a≤k→k<mid→at' l4 k≤at' l4 mid:=λk n1 n2=>by
       rw[em mid (Int.le_refl _)];exact r4.all (λx=>x≤at' l3 mid) m3 k n1 n2
      refine⟨.inl _,rfl,⟨hR3.trans (r4.widen g1 (by omega) h1),?_,by dsimp only;omega,by dsimp only;omega,g3,by dsimp only;omega,k2,k3,?_⟩,by dsimp only;omega⟩
      ·have hO4:=hO3.keep (r4.widen (Int.le_refl a) (by omega) (by omega)) h1 g1 g3
       intro i j n1 n2 n3 n4
       dsimp only at n4 ⊢
       by_cases hin:a≤i∧j<b
       ·by_cases hj:j<mid
        ·exact s4 i j hin.1 n2 hj
        ·have hi:i≤mid:=by omega
         have e1:at' l4 i≤at' l4 mid:=by
          by_cases e:i=mid
          ·rw[e];exact Int.le_refl _
          ·exact lf i hin.1 (by omega)
         have e2:at' l4 mid≤at' l4 j:=by
          by_cases e:j=mid
          ·rw[e];exact Int.le_refl _
          ·rw[em mid (Int.le_refl _),em j (by omega)];exact m4 j (by omega) hin.2
         omega
       ·exact hO4 i j n1 n2 n3 hin
      ·intro _ k n1 n2
       dsimp only at n1 n2 ⊢
       rw[show mid+1-1=mid by omega,em mid (Int.le_refl _),em k (by omega)]
       exact m4 k (by omega) n2
     ·simp only[hside,decide_false,cond_false]
      obtain⟨l4,e4,r4,s4⟩:=ih l3 (mid+1) b lm1 (by omega) (by omega) (by omega) (by omega) (by omega) (by omega) k2 k3 (λ_ k n1 n2=>by rw[show mid+1-1=mid by omega];exact m4 k (by omega) n2) (by omega)
      rw[e4,bs]
      have hl4:=r4.len
      have em:∀k,0≤k→k≤mid→at' l4 k=at' l3 k:=λk h0 hk=>r4.out k h0 (.inl (by omega))
      have rt:∀k,mid<k→k<b→at' l4 mid≤at' l4 k:=λk n1 n2=>by
       rw[em mid (by omega) (Int.le_refl _)];exact r4.all (λx=>at' l3 mid≤x) (λk q1 q2=>m4 k (by omega) q2) k (by omega) n2
      refine⟨.inl _,rfl,⟨hR3.trans (r4.widen (by omega) g3 h1),?_,g1,m1,by dsimp only;omega,by dsimp only;omega,k2,k3,?_⟩,by dsimp only;omega⟩
      ·have hO4:=hO3.keep (r4.widen (by omega) (Int.le_refl b) (by omega)) h1 g1 g3
       intro i j n1 n2 n3 n4
       dsimp only at n4 ⊢
       by_cases hin:a≤i∧j<b
       ·by_cases hi:mid<i
        ·exact s4 i j (by omega) n2 hin.2
        ·have hj:mid≤j:=by omega
         have e1:at' l4 i≤at' l4 mid:=by
          by_cases e:i=mid
          ·rw[e];exact Int.le_refl _
          ·rw[em i (by omega) (by omega),em mid (by omega) (Int.le_refl _)];exact m3 i hin.1 (by omega)
         have e2:at' l4 mid≤at' l4 j:=by
          by_cases e:j=mid
          ·rw[e];exact Int.le_refl _
          ·exact rt j (by omega) hin.2
         omega
       ·exact hO4 i j n1 n2 n3 hin
      ·intro ha k n1 n2
       dsimp only at ha n1 n2 ⊢
       rw[em (a-1) (by omega) (by omega),em k (by omega) (by omega)]
       exact g7'' ha k n1 (by omega)
    ·
     simp only[cond_true]
     obtain⟨hc1,hc2⟩:=hc rfl
     obtain⟨⟨mid,l3⟩,e3,hr3,m1,m2,m3,m4⟩:=EN q a b p (by omega) (by omega) (by omega) p1 p2
     rw[e3,bs]
     dsimp only at hr3 m1 m2 m3 m4 ⊢
     have hl3:=hr3.len
     have hO3:=hO2.keep hr3 h1 g1 g3
     have lw:∀k,a≤k→k<b→at' q p≤at' l3 k:=λk n1 n2=>
      hr3.all (λx=>at' q p≤x) (λk q1 q2=>Int.le_trans hc2 (g7' hc1 k q1 q2)) k n1 n2
     refine⟨.inl _,rfl,⟨hR.trans ((hr2.trans hr3).widen g1 g3 h1),?_,by dsimp only;omega,m2,g3,by dsimp only;omega,k2,k3,?_⟩,by dsimp only;omega⟩
     ·intro i j n1 n2 n3 n4
      dsimp only at n4 ⊢
      by_cases hin:a≤i∧j<b
      ·have:=m3 i hin.1 (by omega)
       have:=lw j (by omega) hin.2
       omega
      ·exact hO3 i j n1 n2 n3 hin
     ·intro _ k n1 n2
      dsimp only at n1 n2 ⊢
      have:=m3 (mid-1) (by omega) (by omega)
      have:=m4 k n1 n2
      omega
  ·exact⟨Rg.refl _ _ _,λi j n1 n2 n3 n4=>by dsimp only at n4;omega,Int.le_refl _,h2,Int.le_refl _,h6,h7,h8,h9⟩
  ·rintro r hr
   exact⟨r,rfl,hr⟩
theorem sorted_spec (l:LI)(hl:l.length≤16):∃y,D.M1 l=some y∧List.Perm y l∧Srt y 0 y.length:=by
 unfold D.M1 D.c2 D.W1 D.b2 D.p0 D.v1
 rw[if_pos (show l.length≤1000000 by omega)]
 simp only[bs]
 rw[wu64 (by omega) (by omega),if_pos (by omega)]
 simp only[bs]
 have hk:∀k:Nat,k≤16→k≤12+Lib.bitLen k∧Lib.bitLen k≤64:=by decide
 obtain⟨k1,k2⟩:=hk l.length hl
 have e:((l.length:Int)).toNat=l.length:=by omega
 have hb:=Dy
 obtain⟨y,hy,hr,hs⟩:=pdqsort_spec Bo l 0 l.length (Lib.bitLen l.length:Nat) (by omega) (by omega) (by omega) (by omega) (by omega) (by omega) (by omega) (by omega) (λh=>absurd h (by omega)) (by omega)
 rw[e,hy]
 refine⟨y,rfl,hr.perm,?_⟩
 rw[hr.len];exact hs
end Go.Sx



namespace Go.Sx
def Sh {α:Type}(xs:List α):Prop:=xs.length≤4294967296
theorem l1In_eq (a b c:Int):D.d a b c=some (decide (b≤a)&&decide (a≤c)):=rfl
theorem inRange_eq (a b c:Int):D.i1 a b c=some (decide (b≤a)&&decide (a≤c)):=rfl
theorem any_beq (xs:LI)(n:Int):xs.any (λx=>x==n)=decide (n∈xs):=by
 rw[Bool.eq_iff_iff,List.any_eq_true];simp
theorem Cj (xs:LI)(n:Int)(h:Sh xs):D.e xs n=some (decide (n∈xs)):=by
 unfold Sh at h
 unfold D.e
 refine(EP xs.length (λi=>xs.getD i 0==n) true (λi hi=> ?_) ?_ rfl rfl).trans ?_
 ·simp only[dlt hi,cond_true,Ax hi,bs,wi' hi (by omega),Ar hi]
  cases xs[i]==n<;>rfl
 ·simp only[A3,cond_false]
 ·rw[range_any_list xs (λx=>x==n) _ (λi hi=>by rw[Ar hi]),any_beq]
theorem Fo (xs:LI)(n:Int)(h:Sh xs):D.l0 xs n=some (decide (n∈xs)):=by
 unfold Sh at h
 unfold D.l0 D.h1
 have e:Aq (σ:=Int) (ρ:=(Unit) ⊕ (Int)) (fun(x_26:Int)=>cond (decide (x_26<(xs.length:Int))) ((idx xs x_26).bind λe_39=>cond (n==e_39) (some (.inr (.inr x_26))) (some (.inl (IntKind.i64.wrap (x_26+1))))) (some (.inr (.inl ())))) 0=
   some (((List.range xs.length).findSome? (λi=>if xs.getD i 0==n then some (Sum.inr (i:Int)) else none)).getD (.inl ())):=by
  refine Ee xs.length _ _ (λi hi=> ?_) ?_
  ·simp only[dlt hi,cond_true,Ax hi,bs,wi' hi (by omega),Ar hi]
   rw[show (n==xs[i])=(xs[i]==n) from Bool.beq_comm ..]
   cases xs[i]==n<;>rfl
  ·simp only[A3,cond_false]
 rw[e,bs]
 cases hf:(List.range xs.length).findSome? (λi=>if xs.getD i 0==n then some (Sum.inr (i:Int):Unit ⊕ Int) else none) with
 |none=>
  have:n∉xs:=λhm=>by
   obtain⟨i,hi,e⟩:=List.getElem_of_mem hm
   have:=(List.findSome?_eq_none_iff.1 hf) i (List.mem_range.2 hi)
   rw[Ar hi,e] at this
   simp at this
  simp[this]
 |some r=>
  obtain⟨i,hi,hr⟩:=List.exists_of_findSome?_eq_some hf
  have hi':=List.mem_range.1 hi
  rw[Ar hi'] at hr
  split at hr
  ·rename_i hc
   cases hr
   have:n∈xs:=by rw[←(beq_iff_eq.1 hc)];exact List.getElem_mem _
   simp[this]
  ·cases hr
def SetOf (xs:LI)(n:Int):Prop:=Inc xs∧∀x∈xs,0≤x∧x<n
theorem SetOf.len :∀{xs:LI} {n a:Int},Inc xs→(∀x∈xs,a≤x∧x<n)→xs=[]∨(xs.length:Int)≤n-a
 |[],_,_,_,_=> .inl rfl
 |x::xs,n,a,h,hr=>by
  right
  have h':=List.pairwise_cons.1 h
  have hx:=hr x (by simp)
  rcases SetOf.len (a:=x+1) (n:=n) h'.2 (λy hy=>⟨by have:=h'.1 y hy;omega,(hr y (by simp[hy])).2⟩) with e|e
  ·subst e;simp;omega
  ·simp;omega
theorem SetOf.length_le {xs:LI}{n:Int}(h:SetOf xs n)(hn:0≤n):(xs.length:Int)≤n:=by
 rcases SetOf.len h.1 h.2 with e|e
 ·subst e;simpa using hn
 ·omega
theorem inc_iff (xs:LI):Inc xs↔∀i (hi:i+1<xs.length),xs[i]<xs[i+1]:=by
 unfold Inc
 constructor
 ·intro h i hi
  exact List.pairwise_iff_getElem.1 h i (i+1) (by omega) hi (by omega)
 ·intro h
  rw[List.pairwise_iff_getElem]
  intro i j hi hj hij
  have key:∀k,∀hk:i+k+1<xs.length,xs[i]<xs[i+k+1]:=by
   intro k
   induction k with
   |zero=>intro hk;exact h i hk
   |succ k ih=>intro hk;have:=ih (by omega);have:=h (i+k+1) hk;exact Int.lt_trans (ih (by omega)) this
  obtain⟨k,rfl⟩:∃k,j=i+k+1:=⟨j-i-1,by omega⟩
  exact key k hj
def CD (xs:LI)(n:Int):Bool:=(List.range xs.length).all λi=>(decide (0≤xs.getD i 0)&&decide (xs.getD i 0≤n-1))&& !(decide (0<i)&&decide (xs.getD i 0≤xs.getD (i-1) 0))
theorem C7 (xs:LI)(n:Int):CD xs n=true↔SetOf xs n:=by
 unfold CD SetOf
 rw[Di,inc_iff]
 constructor
 ·intro h
  refine⟨λi hi=> ?_,λx hx=> ?_⟩
  ·have:=h (i+1) hi
   simp[hi,show i<xs.length by omega] at this
   omega
  ·obtain⟨i,hi,rfl⟩:=List.getElem_of_mem hx
   have:=h i hi
   simp[hi] at this
   omega
 ·rintro⟨h1,h2⟩ i hi
  have h3:=h2 _ (List.getElem_mem hi)
  simp[hi]
  refine⟨by omega,?_⟩
  rcases Nat.eq_zero_or_pos i with h0|h0
  ·exact .inl h0
  ·right
   have:=h1 (i-1) (by omega)
   have e:i-1+1=i:=by omega
   simp only[e] at this
   have e2:xs[i-1]?.getD 0=xs[i-1]:=by rw[List.getElem?_eq_getElem (by omega)];rfl
   rw[e2];exact this
theorem DE (xs:LI)(n:Int)(h:Sh xs)(h0:0≤n)(hn:n≤4294967296):D.a0 xs n=some (CD xs n):=by
 unfold Sh at h
 unfold D.a0
 refine DB xs.length _ false (λi hi=> ?_) ?_ rfl rfl
 ·simp only[dlt hi,cond_true,Ax hi,bs,wi' hi (by omega),Ar hi,inRange_eq]
  rw[w64 (x:=n-1) (by omega) (by omega)]
  cases (decide (0≤xs[i])&&decide (xs[i]≤n-1))
  ·simp
  ·by_cases h0:0<i
   ·have e1:IntKind.i64.wrap ((i:Int)-1)=((i-1:Nat):Int):=by rw[w64 (by omega) (by omega)];omega
    have hd:decide ((0:Int)<(i:Int))=true:=by simp;omega
    simp only[Bool.not_true,cond_false,hd,cond_true,e1,Ax (show i-1<xs.length by omega),bs,Ar (show i-1<xs.length by omega),h0,decide_true,Bool.true_and]
    cases decide (xs[i]≤xs[i-1])<;>rfl
   ·have hd:decide ((0:Int)<(i:Int))=false:=by simp;omega
    simp only[Bool.not_true,cond_false,hd,bs,h0,decide_false,Bool.false_and,Bool.not_false,Bool.and_true,if_true]
 ·simp only[A3,cond_false]
theorem l1Set_eq (xs:LI)(n:Int)(h:Sh xs)(h0:0≤n)(hn:n≤4294967296):D.P xs n=some (CD xs n):=by
 have hh:=h
 unfold Sh at h
 unfold D.P
 by_cases hl:n<xs.length
 ·have:CD xs n=false:=by
   cases hb:CD xs n
   ·rfl
   ·have:=((C7 xs n).1 hb).length_le h0;omega
  simp[hl,this]
 ·simp only[hl,decide_false,cond_false]
  refine DB xs.length _ false (λi hi=> ?_) ?_ rfl rfl
  ·simp only[dlt hi,cond_true,Ax hi,bs,wi' hi (by omega),Ar hi,l1In_eq]
   rw[w64 (x:=n-1) (by omega) (by omega)]
   cases (decide (0≤xs[i])&&decide (xs[i]≤n-1))
   ·simp
   ·by_cases h0:0<i
    ·have e1:IntKind.i64.wrap ((i:Int)-1)=((i-1:Nat):Int):=by rw[w64 (by omega) (by omega)];omega
     have hd:decide ((0:Int)<(i:Int))=true:=by simp;omega
     simp only[Bool.not_true,cond_false,hd,cond_true,e1,Ax (show i-1<xs.length by omega),bs,Ar (show i-1<xs.length by omega),h0,decide_true,Bool.true_and]
     cases decide (xs[i]≤xs[i-1])<;>rfl
    ·have hd:decide ((0:Int)<(i:Int))=false:=by simp;omega
     simp only[Bool.not_true,cond_false,hd,bs,h0,decide_false,Bool.false_and,Bool.not_false,Bool.and_true,if_true]
  ·simp only[A3,cond_false]
def row (g:LL)(v:Nat):LI:=g.getD v []
theorem row_eq {g:LL}{v:Nat}(h:v<g.length):row g v=g[v]:=Ar h _
def adj (g:LL)(u v:Nat):Prop:=(v:Int)∈row g u
structure GOk (g:LL):Prop where
 n1:1≤g.length
 n16:g.length≤16
 rows:∀v,v<g.length→SetOf (row g v) g.length
 irr:∀v,v<g.length→¬adj g v v
 sym:∀u v,u<g.length→adj g u v→adj g v u
theorem GOk.mem {g:LL}(h:GOk g){u:Nat}(hu:u<g.length){x:Int}(hx:x∈row g u):∃v:Nat,x=v∧v<g.length∧adj g u v:=by
 have:=(h.rows u hu).2 x hx
 refine⟨x.toNat,by omega,by omega,?_⟩
 unfold adj
 rw[show ((x.toNat:Nat):Int)=x by omega];exact hx
theorem GOk.row_len {g:LL}(h:GOk g){u:Nat}(hu:u<g.length):(row g u).length≤16:=by
 have:=(h.rows u hu).length_le (by omega)
 have:=h.n16
 omega
theorem GOk.lt {g:LL}(h:GOk g){u v:Nat}(hu:u<g.length)(ha:adj g u v):v<g.length:=by
 obtain⟨w,h1,h2,_⟩:=h.mem hu ha
 omega
def Sh2 (g:LL):Prop:=Sh g∧∀r∈g,Sh r
theorem Sh2.row {g:LL}(h:Sh2 g){v:Nat}(hv:v<g.length):Sh (row g v):=by
 rw[row_eq hv];exact h.2 _ (List.getElem_mem hv)
theorem Cd {g:LL}{v:Nat}(h:v<g.length):idx g (v:Int)=some (row g v):=by rw[row_eq h,Ax h]
def gB1 (g:LL):Bool:=(List.range g.length).all λv=>CD (row g v) g.length&& !decide ((v:Int)∈row g v)
def gB2 (g:LL):Bool:=(List.range g.length).all λv=>(row g v).all λx=>decide ((v:Int)∈row g x.toNat)
def gB (g:LL):Bool:=decide (1≤g.length)&&decide (g.length≤16)&&gB1 g&&gB2 g
theorem gB_iff (g:LL):gB g=true↔GOk g:=by
 unfold gB gB1 gB2
 simp only[Bool.and_eq_true,decide_eq_true_eq,C7,Bool.not_eq_true',decide_eq_false_iff_not,List.all_eq_true,List.mem_range]
 constructor
 ·rintro⟨⟨⟨h1,h2⟩,h3⟩,h4⟩
  refine⟨h1,h2,λv hv=>(h3 v hv).1,λv hv=>(h3 v hv).2,λu v hu ha=> ?_⟩
  have:=h4 u hu v ha
  unfold adj
  simpa using this
 ·intro h
  refine⟨⟨⟨h.n1,h.n16⟩,λv hv=>⟨h.rows v hv,h.irr v hv⟩⟩,λv hv x hx=> ?_⟩
  obtain⟨u,rfl,hu,ha⟩:=h.mem hv hx
  have:=h.sym v u hv ha
  simpa [adj] using this
theorem Cb (g:LL)(h:Sh2 g):D.u g=some (gB g):=by
 have hl:g.length≤4294967296:=h.1
 unfold D.u D.b
 simp only[bs,l1In_eq]
 by_cases hn:1≤g.length∧g.length≤16
 ·have e:(decide ((1:Int)≤(g.length:Int))&&decide ((g.length:Int)≤16))=true:=by simp;omega
  simp only[e,Bool.not_true,cond_false]
  refine(Fc g.length (λv=>CD (row g v) g.length&& !decide ((v:Int)∈row g v)) (.inl ()) (.inr false) (λv hv=> ?_) ?_).trans ?_
  rotate_left
  ·simp only[A3,cond_false]
  ·show cond (gB1 g) _ _=_
   have e4:gB g=(gB1 g&&gB2 g):=by unfold gB;simp[hn.1,hn.2]
   rw[e4]
   cases hc:gB1 g with
   |false=>rfl
   |true=>
    rw[cond_true,Bool.true_and]
    refine DB g.length _ false (λv hv=> ?_) ?_ rfl rfl
    ·have hset:SetOf (row g v) g.length:=by
      have:=(Di _ _).1 hc v hv
      simp only[Bool.and_eq_true] at this
      exact(C7 _ _).1 this.1
     simp only[dlt hv,cond_true]
     refine(Fc (row g v).length (λi=>decide ((v:Int)∈row g ((row g v).getD i 0).toNat)) (.inl ()) (.inr false) (λi hi=> ?_) ?_).trans ?_
     ·have hx:=hset.2 _ (List.getElem_mem hi)
      have e5:idx g (row g v)[i]=some (row g ((row g v)[i]).toNat):=by
       have:=Cd (g:=g) (v:=((row g v)[i]).toNat) (by omega)
       rwa [show ((((row g v)[i]).toNat:Nat):Int)=(row g v)[i] by omega] at this
      have hs:=h.row (v:=((row g v)[i]).toNat) (by omega)
      simp only[Cd hv,bs,dlt hi,cond_true,Ax hi,e5,Cj _ _ hs,wi (show i<4611686018427387904 by have:=h.row hv;unfold Sh at this;omega),Ar hi]
      cases decide ((v:Int)∈row g ((row g v)[i]).toNat)<;>rfl
     ·simp only[Cd hv,bs,A3,cond_false]
     ·rw[Ej (row g v) (λx=>decide ((v:Int)∈row g x.toNat)) _ (λi hi=>by rw[Ar hi]),wi' hv (by omega)]
      cases (row g v).all λx=>decide ((v:Int)∈row g x.toNat)<;>rfl
    ·simp only[A3,cond_false]
  ·simp only[dlt hv,cond_true,Cd hv,bs,l1Set_eq _ _ (h.row hv) (show (0:Int)≤(g.length:Int) by omega) (by omega),Cj _ _ (h.row hv),wi' hv (by omega)]
   cases CD (row g v) g.length
   ·rfl
   ·cases decide ((v:Int)∈row g v)<;>rfl
 ·have e:(decide ((1:Int)≤(g.length:Int))&&decide ((g.length:Int)≤16))=false:=by
   rw[Bool.eq_false_iff];simp;omega
  simp only[e,Bool.not_false,cond_true]
  unfold gB
  congr 1
  symm
  rw[Bool.eq_false_iff]
  simp
  omega
theorem Ca (g:LL)(h:Sh2 g):D.F g=some (gB g):=by
 have hl:g.length≤4294967296:=h.1
 unfold D.F
 by_cases hn:1≤g.length∧g.length≤16
 ·have e:(decide ((g.length:Int)<(1:Int))||decide ((16:Int)<(g.length:Int)))=false:=by simp;omega
  simp only[e,cond_false]
  refine(Fc g.length (λv=>CD (row g v) g.length&& !decide ((v:Int)∈row g v)) (.inl ()) (.inr false) (λv hv=> ?_) ?_).trans ?_
  rotate_left
  ·simp only[A3,cond_false]
  ·show cond (gB1 g) _ _=_
   have e4:gB g=(gB1 g&&gB2 g):=by unfold gB;simp[hn.1,hn.2]
   rw[e4]
   cases hc:gB1 g with
   |false=>rfl
   |true=>
    rw[cond_true,Bool.true_and]
    refine DB g.length _ false (λv hv=> ?_) ?_ rfl rfl
    ·have hset:SetOf (row g v) g.length:=by
      have:=(Di _ _).1 hc v hv
      simp only[Bool.and_eq_true] at this
      exact(C7 _ _).1 this.1
     simp only[dlt hv,cond_true,Cd hv,bs]
     refine(Fc (row g v).length (λi=>decide ((v:Int)∈row g ((row g v).getD i 0).toNat)) (.inl ()) (.inr false) (λi hi=> ?_) ?_).trans ?_
     ·have hx:=hset.2 _ (List.getElem_mem hi)
      have e5:idx g (row g v)[i]=some (row g ((row g v)[i]).toNat):=by
       have:=Cd (g:=g) (v:=((row g v)[i]).toNat) (by omega)
       rwa [show ((((row g v)[i]).toNat:Nat):Int)=(row g v)[i] by omega] at this
      have hs:=h.row (v:=((row g v)[i]).toNat) (by omega)
      simp only[bs,dlt hi,cond_true,Ax hi,e5,Fo _ _ hs,wi (show i<4611686018427387904 by have:=h.row hv;unfold Sh at this;omega),Ar hi]
      cases decide ((v:Int)∈row g ((row g v)[i]).toNat)<;>rfl
     ·simp only[A3,cond_false]
     ·rw[Ej (row g v) (λx=>decide ((v:Int)∈row g x.toNat)) _ (λi hi=>by rw[Ar hi]),wi' hv (by omega)]
      cases (row g v).all λx=>decide ((v:Int)∈row g x.toNat)<;>rfl
    ·simp only[A3,cond_false]
  ·simp only[dlt hv,cond_true,Cd hv,bs,DE _ _ (h.row hv) (show (0:Int)≤(g.length:Int) by omega) (by omega),Fo _ _ (h.row hv),wi' hv (by omega)]
   cases CD (row g v) g.length
   ·rfl
   ·cases decide ((v:Int)∈row g v)<;>rfl
 ·have e:(decide ((g.length:Int)<(1:Int))||decide ((16:Int)<(g.length:Int)))=true:=by
   simp;omega
  simp only[e,cond_true]
  unfold gB
  congr 1
  symm
  rw[Bool.eq_false_iff]
  simp
  omega
structure OOk (g:LL)(o:LI):Prop where
 len:o.length=g.length
 rng:∀x∈o,0≤x∧x<g.length
 nd:o.Nodup
def oB (g:LL)(o:LI):Bool:=(List.range o.length).all λi=>(decide (0≤o.getD i 0)&&decide (o.getD i 0≤(g.length:Int)-1))&& !decide (o.getD i 0∈o.take i)
theorem mem_take_iff {α:Type}{l:List α}{i:Nat}{x:α}:x∈l.take i↔∃j,∃h:j<l.length,j<i∧l[j]=x:=by
 rw[List.mem_take_iff_getElem]
 constructor
 ·rintro⟨j,h,e⟩;exact⟨j,by omega,by omega,e⟩
 ·rintro⟨j,h,h2,e⟩;exact⟨j,by omega,e⟩
theorem nodup_iff {l:LI}:l.Nodup↔∀i (hi:i<l.length),l[i]∉l.take i:=by
 constructor
 ·intro h i hi hm
  obtain⟨j,hj,hji,e⟩:=mem_take_iff.1 hm
  have:=(List.pairwise_iff_getElem.1 h) j i hj hi hji
  exact this e
 ·intro h
  refine List.pairwise_iff_getElem.2 (λi j hi hj hij e=>h j hj (mem_take_iff.2 ⟨i,hi,hij,e⟩))
theorem oB_iff (g:LL)(o:LI)(hl:o.length=g.length):oB g o=true↔OOk g o:=by
 unfold oB
 rw[Di]
 constructor
 ·intro h
  refine⟨hl,λx hx=> ?_,nodup_iff.2 λi hi=> ?_⟩
  ·obtain⟨i,hi,rfl⟩:=List.getElem_of_mem hx
   have:=h i hi
   rw[Ar hi] at this
   simp at this;omega
  ·have:=h i hi
   rw[Ar hi] at this
   simp at this;exact this.2
 ·intro h i hi
  have h1:=h.rng _ (List.getElem_mem hi)
  have h2:=nodup_iff.1 h.nd i hi
  rw[Ar hi]
  simp[h2];omega
def ordB (g:LL)(o:LI):Bool:=decide (o.length=g.length)&&oB g o
theorem ordB_iff (g:LL)(o:LI):ordB g o=true↔OOk g o:=by
 unfold ordB
 by_cases hl:o.length=g.length
 ·simp[hl,oB_iff g o hl]
 ·simp[hl];intro h;exact hl h.len
theorem sorted_inc {y:LI}(hs:Srt y 0 y.length)(hn:y.Nodup):Inc y:=by
 unfold Inc
 rw[List.pairwise_iff_getElem]
 intro i j hi hj hij
 have h1:=hs i j (by omega) (by omega) (by omega)
 have h2:=(List.pairwise_iff_getElem.1 hn) i j hi hj hij
 simp[at',hi,hj] at h1
 have:y[i]≠y[j]:=h2
 omega
theorem Fy (g:LL)(o:LI)(h:Sh2 g)(ho:Sh o):D.z1 g o=some (gB g&&ordB g o):=by
 unfold D.z1
 rw[Ca g h,bs]
 cases hg:gB g
 ·rfl
 ·have hg':=(gB_iff g).1 hg
  by_cases hl:o.length=g.length
  ·have e:((o.length:Int) !=(g.length:Int))=false:=by simp[hl]
   have h16:=hg'.n16
   obtain⟨y,h1,h2,h3⟩:=sorted_spec o (by omega)
   have hyl:=h2.length_eq
   simp only[Bool.not_true,e,Bool.or_false,cond_false,h1,bs,Bool.true_and]
   rw[DE y _ (by unfold Sh;omega) (by omega) (by omega),bs]
   congr 1
   unfold ordB
   simp only[hl,decide_true,Bool.true_and]
   rw[Bool.eq_iff_iff,C7,oB_iff g o hl]
   constructor
   ·rintro⟨k1,k2⟩
    refine⟨hl,λx hx=>k2 x (h2.mem_iff.2 hx),h2.nodup_iff.1 ?_⟩
    exact List.Pairwise.imp (λh e=>by omega) k1
   ·intro k
    exact⟨sorted_inc h3 (h2.nodup_iff.2 k.nd),λx hx=>k.rng x (h2.mem_iff.1 hx)⟩
  ·have e:((o.length:Int) !=(g.length:Int))=true:=by simp;omega
   simp[e,ordB,hl]
theorem CA (v:Nat):D.h (v:Int)=some (ishl .u32 1 (v:Int)):=by
 unfold D.h
 have:decide ((v:Int)<0)=false:=by simp
 rw[this];rfl
theorem impl_one_eq' {x:Int}(h:0≤x):D.h x=some (ishl .u32 1 x):=by
 have:=CA x.toNat
 rwa [show ((x.toNat:Nat):Int)=x by omega] at this
def mk (xs:LI):Int:=xs.foldl (λs v=>ior .u32 s (ishl .u32 1 v)) 0
theorem CG (xs:LI)(h:Sh xs)(h0:∀x∈xs,0≤x):D.g xs=some (mk xs):=by
 unfold Sh at h
 unfold D.g
 refine(loop_listb xs (λs i=>(s,i)) (λs v=>ior .u32 s (ishl .u32 1 v)) (λs=>s) (λ_=>True) 0 trivial (λs i hi _=>⟨?_,trivial⟩) (λs _=> ?_)).trans rfl
 ·simp only[dlt hi,cond_true,Ax hi,bs,wi' hi (by omega),impl_one_eq' (h0 _ (List.getElem_mem hi))]
 ·simp only[A3,cond_false]
theorem EY :∀(xs:LI) (s:Int),VS s→VS (xs.foldl (λs v=>ior .u32 s (ishl .u32 1 v)) s)
 |[],s,h=>h
 |x::xs,s,_=>EY xs _ (VS.ior _ _)
theorem VS.mk (xs:LI):VS (mk xs):=EY xs 0 VS.zero
theorem EL (u:Nat):∀(xs:LI) (s:Int),VS s→(∀x∈xs,0≤x∧x<32)→has (xs.foldl (λs v=>ior .u32 s (ishl .u32 1 v)) s) u=(has s u||decide ((u:Int)∈xs))
 |[],s,_,_=>by simp
 |x::xs,s,hs,h=>by
  have hx:=h x (by simp)
  rw[List.foldl_cons,EL u xs _ (VS.ior _ _) (λy hy=>h y (by simp[hy])),BV hs (VS.ishl _ _)]
  obtain⟨k,rfl⟩:∃k:Nat,x=k:=⟨x.toNat,by omega⟩
  rw[Bv (by omega)]
  by_cases hu:u=k
  ·subst hu;simp
  ·have:¬(u:Int)=(k:Int):=by omega
   simp[hu,this]
theorem En {xs:LI}(h:∀x∈xs,0≤x∧x<32)(u:Nat):has (mk xs) u=decide ((u:Int)∈xs):=by
 unfold mk;rw[EL u xs 0 VS.zero h,A4,Bool.false_or]
theorem GOk.mem0 {g:LL}(hg:GOk g){r:LI}(hr:r∈g):r.length≤16∧∀x∈r,0≤x∧x<g.length:=by
 obtain⟨v,hv,rfl⟩:=List.getElem_of_mem hr
 rw[←row_eq hv]
 exact⟨hg.row_len hv,(hg.rows v hv).2⟩
theorem Db (g:LL)(hg:GOk g):D.t g=some (g.map mk):=by
 have h16:=hg.n16
 unfold D.t
 refine(Ds g (λs i=>(s,i)) mk (by omega) (λs i hi _=> ?_) (λs=> ?_)).trans rfl
 ·obtain⟨h1,h2⟩:=hg.mem0 (List.getElem_mem hi)
  simp only[dlt hi,cond_true,Ax hi,bs,wi' hi (by omega),CG g[i] (by unfold Sh;omega) (λx hx=>(h2 x hx).1)]
 ·simp only[A3,cond_false]
theorem narrow_eq (xs:LI)(h:Sh xs):D.S1 xs=some xs:=by
 unfold Sh at h
 unfold D.S1
 rw[makeD_zero (by omega) (by omega),bs]
 refine(Ds xs (λs i=>(s,i)) (λx=>x) h (λs i hi _=> ?_) (λs=> ?_)).trans (by simp)
 ·simp only[dlt hi,cond_true,Ax hi,bs,wi' hi (by omega)]
 ·simp only[A3,cond_false]
theorem wide_eq (xs:LI)(h:Sh xs):D.A0 xs=some xs:=by
 unfold Sh at h
 unfold D.A0
 rw[makeD_zero (by omega) (by omega),bs]
 refine(Ds xs (λs i=>(s,i)) (λx=>x) h (λs i hi _=> ?_) (λs=> ?_)).trans (by simp)
 ·simp only[dlt hi,cond_true,Ax hi,bs,wi' hi (by omega)]
 ·simp only[A3,cond_false]
theorem least_eq {s:Int}(h:VS s)(h0:s≠0):∃k:Nat,k<32∧D.C s=some (k:Int)∧has s k=true∧(∀v,v<k→has s v=false)∧
  (∀v,has (iand .u32 s (IntKind.u32.wrap (s-1))) v=(has s v&& !decide (v=k))):=by
 obtain⟨k,h1,h2,h3,h4,h5⟩:=least_spec h h0
 refine⟨k,h1,?_,h2,h3,h5⟩
 unfold D.C D.s1
 have e:(s==0)=false:=by simpa using h0
 simp only[e,cond_false,h4,tz_table k h1,bs]
 rw[w64 (by omega) (by omega)]
theorem Eo (s:Int)(h:VS s):D.q s=some (Am s):=by
 unfold D.q
 have key:∀(n:Nat) (x:Int) (l:LI),VS x→(Am x).length=n→l.length+n≤32→
   Aq (σ:=Int×LI) (ρ:=(LI)) (fun(s_52:Int×LI)=>match s_52 with|(x_55,l_56)=>cond (x_55 !=0) ((D.C x_55).bind λy_88=>(AC l_56 ([y_88]:LI)).bind λl_99=>some (.inl ((iand .u32 x_55 (IntKind.u32.wrap (x_55-1))),l_99))) (some (.inr l_56))) (x,l)=some (l++Am x):=by
  intro n
  induction n with
  |zero=>
   intro x l hx hn _
   have e:Am x=[]:=List.eq_nil_of_length_eq_zero hn
   have e0:x=0:=hx.eq_zero.2 λv hv=>by
    cases hc:has x v
    ·rfl
    ·have:=mem_elems.2 ⟨v,hv,hc,rfl⟩;rw[e] at this;simp at this
   rw[e]
   refine Bk ?_
   have:(x !=0)=false:=by simp[e0]
   simp only[this,cond_false,List.append_nil]
  |succ n ih=>
   intro x l hx hn hl
   have h0:x≠0:=by rintro rfl;rw[CP] at hn;simp at hn
   obtain⟨k,h1,h2,h3,h4,h5⟩:=least_eq hx h0
   have e:=elems_least h1 h3 h4 h5
   have en:(Am (iand .u32 x (IntKind.u32.wrap (x-1)))).length=n:=by rw[e] at hn;simpa using hn
   have hstep:=ih (iand .u32 x (IntKind.u32.wrap (x-1))) (l++[(k:Int)]) (VS.iand _ _) en (by simp;omega)
   have e1:(x !=0)=true:=by simpa using h0
   rw[B2 (s':=(iand .u32 x (IntKind.u32.wrap (x-1)),l++[(k:Int)]))]
   ·rw[hstep,e];simp
   ·simp only[e1,cond_true,h2,bs,AQ (xs:=l) (ys:=[(k:Int)]) (by simp;omega)]
 have:=key (Am s).length s [] h rfl (by simpa using BO s)
 rw[this];simp
theorem elems_sh (s:Int):Sh (Am s):=by have:=BO s;unfold Sh;omega
theorem EE (s:Int)(h:VS s):D.b0 s=some (Am s):=by
 unfold D.b0
 rw[Eo s h,bs,wide_eq _ (elems_sh s)];rfl
theorem results_eq (xs:LI)(h:Sh xs)(hv:∀s∈xs,VS s):D.T0 xs=some (xs.map Am):=by
 unfold Sh at h
 unfold D.T0
 refine(Ds xs (λs i=>(s,i)) Am h (λs i hi _=> ?_) (λs=> ?_)).trans rfl
 ·simp only[dlt hi,cond_true,Ax hi,bs,wi' hi (by omega),EE _ (hv _ (List.getElem_mem hi))]
 ·simp only[A3,cond_false]
theorem ET (xs:LI)(h:Sh xs):D.E xs=some xs:=by
 unfold Sh at h
 unfold D.E
 rw[AQ (by simpa using h)];rfl
def into (xs:LI)(n:Int):LI:=if n∈xs then xs else xs.takeWhile (λx=>decide (x<n))++n::xs.dropWhile (λx=>decide (x<n))
theorem mem_into {xs:LI}{n x:Int}:x∈into xs n↔x=n∨x∈xs:=by
 unfold into
 split
 ·constructor
  ·intro h;exact .inr h
  ·rintro(rfl|h)
   ·assumption
   ·exact h
 ·have e:x∈xs↔x∈xs.takeWhile (λx=>decide (x<n))++xs.dropWhile (λx=>decide (x<n)):=by rw[List.takeWhile_append_dropWhile]
  rw[e];simp only[List.mem_append,List.mem_cons]
  constructor
  ·rintro(h|h|h)<;>simp[h]
  ·rintro(h|h|h)<;>simp[h]
theorem EK {xs:LI}{n:Int}(h:Inc xs):∀y∈xs.dropWhile (λx=>decide (x<n)),n≤y:=by
 induction xs with
 |nil=>simp
 |cons x xs ih=>
  have h':=List.pairwise_cons.1 h
  intro y hy
  rw[List.dropWhile_cons] at hy
  split at hy
  ·exact ih h'.2 y hy
  ·rename_i hc
   simp at hc
   rcases List.mem_cons.1 hy with rfl|hy
   ·exact hc
   ·have:=h'.1 y hy;omega
theorem inc_takeWhile {xs:LI}{n:Int}:∀y∈xs.takeWhile (λx=>decide (x<n)),y<n:=by
 intro y hy
 induction xs with
 |nil=>simp at hy
 |cons x xs ih=>
  rw[List.takeWhile_cons] at hy
  split at hy
  ·rename_i hc
   rcases List.mem_cons.1 hy with rfl|hy
   ·simpa using hc
   ·exact ih hy
  ·simp at hy
theorem Inc.into {xs:LI}(h:Inc xs)(n:Int):Inc (into xs n):=by
 unfold Sx.into
 split
 ·exact h
 ·rename_i hn
  unfold Inc
  rw[List.pairwise_append]
  refine⟨List.Pairwise.sublist (List.takeWhile_sublist _) h,List.pairwise_cons.2 ⟨λy hy=> ?_,List.Pairwise.sublist (List.dropWhile_sublist _) h⟩,λa ha b hb=> ?_⟩
  ·have h1:=EK h y hy
   have h2:y≠n:=λe=>hn (e▸(List.dropWhile_sublist _).mem hy)
   omega
  ·have h1:=inc_takeWhile a ha
   rcases List.mem_cons.1 hb with rfl|hb
   ·exact h1
   ·have:=EK h b hb;omega
theorem CT {α:Type}(p:α→Bool):∀(xs:List α),xs.takeWhile p=xs.take (xs.takeWhile p).length∧xs.dropWhile p=xs.drop (xs.takeWhile p).length
 |[]=>by simp
 |x::xs=>by
  rw[List.takeWhile_cons,List.dropWhile_cons]
  cases p x
  ·simp
  ·have:=CT p xs
   simp only[if_true,List.length_cons,List.take_succ_cons,List.drop_succ_cons,←this.1,←this.2,and_self]
theorem C2 {α:Type}(p:α→Bool):∀(xs:List α) (i:Nat) (h:i<(xs.takeWhile p).length) (h':i<xs.length),p xs[i]=true
 |x::xs,i,h,h'=>by
  rw[List.takeWhile_cons] at h
  cases hp:p x
  ·rw[hp] at h;simp at h
  ·rw[hp] at h
   cases i with
   |zero=>simpa using hp
   |succ i=>simp only[if_true,List.length_cons] at h;simpa using C2 p xs i (by omega) (by simpa using h')
theorem Do {α:Type}(p:α→Bool):∀(xs:List α) (h:(xs.takeWhile p).length<xs.length),p (xs[(xs.takeWhile p).length])=false
 |x::xs,h=>by
  cases hp:p x
  ·simp[List.takeWhile_cons,hp]
  ·have h2:(xs.takeWhile p).length<xs.length:=by simpa [List.takeWhile_cons,hp] using h
   simpa [List.takeWhile_cons,hp] using Do p xs h2
theorem Fv {α:Type}(p:α→Bool)(xs:List α):(xs.takeWhile p).length≤xs.length:=(List.takeWhile_sublist _).length_le
theorem EW (xs:LI)(n:Int)(h:Inc xs)(hl:xs.length≤4294967295):D.r xs n=some (into xs n):=by
 unfold D.r
 generalize hk:(xs.takeWhile (λx=>decide (x<n))).length=k
 have hkl:k≤xs.length:=by rw[←hk];exact Fv _ _
 have htk:xs.takeWhile (λx=>decide (x<n))=xs.take k:=by rw[←hk];exact(CT _ xs).1
 have hdk:xs.dropWhile (λx=>decide (x<n))=xs.drop k:=by rw[←hk];exact(CT _ xs).2
 refine(C8 (λi=>((i:Nat):Int)) k (k:Int) rfl (λi hi=> ?_) ?_).trans ?_
 ·have hi':i<xs.length:=by omega
  have hp:decide (xs[i]<n)=true:=C2 (λx=>decide (x<n)) xs i (by omega) hi'
  simp only[dlt hi',cond_true,Ax hi',bs,hp,wq i]
 ·by_cases hlt:k<xs.length
  ·have hp:decide (xs[k]<n)=false:=by
    have:=Do (λx=>decide (x<n)) xs (by omega)
    simp only[hk] at this;exact this
   simp only[dlt hlt,cond_true,Ax hlt,bs,hp,cond_false]
  ·obtain rfl:k=xs.length:=by omega
   simp only[A3,cond_false,bs]
 ·have hS1:Sh (xs.take k):=by unfold Sh;rw[List.length_take];omega
  have hrest:((BF xs 0 (k:Int)).bind λl_135=>(D.E l_135).bind λy_139=>(AC y_139 ([n]:LI)).bind λl_154=>(BF xs (k:Int) (xs.length:Int)).bind λl_160=>(AC l_154 l_160).bind λl_164=>some l_164)=some (xs.take k++n::xs.drop k):=by
   simp only[DO hkl,Fu hkl,bs,ET _ hS1]
   rw[AQ (by simp;omega),bs,AQ (by simp;omega),bs]
   simp
  by_cases hlt:k<xs.length
  ·simp only[dlt hlt,cond_true,Ax hlt,bs]
   by_cases he:xs[k]=n
   ·have hm:n∈xs:=by rw[←he];exact List.getElem_mem _
    have:(xs[k]==n)=true:=by simp[he]
    simp only[this,cond_true]
    unfold into;rw[if_pos hm]
   ·have:(xs[k]==n)=false:=by simpa using he
    simp only[this,cond_false,hrest]
    unfold into
    rw[htk,hdk,if_neg]
    intro hm
    obtain⟨j,hj,e⟩:=List.getElem_of_mem hm
    have hst:decide (xs[k]<n)=false:=by
     have:=Do (λx=>decide (x<n)) xs (by omega)
     simp only[hk] at this;exact this
    simp at hst
    rcases Nat.lt_trichotomy j k with h1|h1|h1
    ·have:=C2 (λx=>decide (x<n)) xs j (by omega) hj
     simp at this;omega
    ·subst h1;exact he e
    ·have:=(List.pairwise_iff_getElem.1 h) k j hlt hj h1
     omega
  ·obtain rfl:k=xs.length:=by omega
   simp only[A3,cond_false,bs,hrest]
   unfold into
   rw[htk,hdk,if_neg]
   intro hm
   obtain⟨j,hj,e⟩:=List.getElem_of_mem hm
   have:=C2 (λx=>decide (x<n)) xs j (by omega) hj
   simp at this;omega
theorem Inc.short {s:LI}{n:Nat}(h:Inc s)(hr:∀x∈s,0≤x∧x<n):s.length≤n:=by
 rcases SetOf.len h hr with e|e
 ·subst e;simp
 ·omega
end Go.Sx



namespace Go.Sx
structure DK (b:LI)(i:Int):Prop where
 byte:∀x∈b,0≤x∧x≤255
 len:b.length≤4096
 i0:0≤i
 i1:i≤b.length
theorem tmod_rng {x n:Int}(hx:0≤x)(hn:0<n):0≤Int.tmod x n∧Int.tmod x n<n:=
 ⟨Int.tmod_nonneg _ hx,Int.tmod_lt_of_pos _ hn⟩
theorem row_set {g:LL}{u v:Nat}{r:LI}(hu:u<g.length):row (g.set u r) v=if v=u then r else row g v:=by
 unfold row
 by_cases h:v=u
 ·subst h;simp[hu]
 ·rw[if_neg h,List.getD_eq_getElem?_getD,List.getElem?_set_ne (λe=>h e.symm),←List.getD_eq_getElem?_getD]
theorem ER {g:LL}(hg:GOk g){u v:Nat}(hu:u<g.length)(hv:v<g.length)(huv:u≠v):
  ∃g',D.y g (u:Int) (v:Int)=some g'∧GOk g'∧g'.length=g.length∧∀a b,adj g' a b↔adj g a b∨(a=u∧b=v)∨(a=v∧b=u):=by
 have h16:=hg.n16
 have hru:=hg.rows u hu;have hrv:=hg.rows v hv
 have hlu:=hg.row_len hu;have hlv:=hg.row_len hv
 refine⟨(g.set u (into (row g u) v)).set v (into (row g v) u),?_,?_⟩
 ·unfold D.y
  have e1:row (g.set u (into (row g u) v)) v=row g v:=by rw[row_set hu,if_neg (Ne.symm huv)]
  simp only[Cd hu,bs,EW _ _ hru.1 (show (row g u).length≤4294967295 by omega),Int.toNat_natCast]
  rw[Cd (show v<(g.set u (into (row g u) v)).length by simpa using hv),e1]
  simp only[bs,EW _ _ hrv.1 (show (row g v).length≤4294967295 by omega)]
 ·have hrow:∀w,row ((g.set u (into (row g u) v)).set v (into (row g v) u)) w=if w=v then into (row g v) u else if w=u then into (row g u) v else row g w:=by
   intro w
   rw[row_set (by simpa using hv),row_set hu]
  have hadj:∀a b,adj ((g.set u (into (row g u) v)).set v (into (row g v) u)) a b↔adj g a b∨(a=u∧b=v)∨(a=v∧b=u):=by
   intro a b
   unfold adj
   rw[hrow]
   by_cases ha:a=v
   ·subst ha
    rw[if_pos rfl,mem_into]
    constructor
    ·rintro(h|h)
     ·exact .inr (.inr ⟨rfl,by omega⟩)
     ·exact .inl h
    ·rintro(h|⟨h,_⟩|⟨_,h⟩)
     ·exact .inr h
     ·exact absurd h.symm huv
     ·exact .inl (by omega)
   ·rw[if_neg ha]
    by_cases ha':a=u
    ·subst ha'
     rw[if_pos rfl,mem_into]
     constructor
     ·rintro(h|h)
      ·exact .inr (.inl ⟨rfl,by omega⟩)
      ·exact .inl h
     ·rintro(h|⟨_,h⟩|⟨h,_⟩)
      ·exact .inr h
      ·exact .inl (by omega)
      ·exact absurd h ha
    ·rw[if_neg ha']
     constructor
     ·exact .inl
     ·rintro(h|⟨h,_⟩|⟨h,_⟩)
      ·exact h
      ·exact absurd h ha'
      ·exact absurd h ha
  refine⟨⟨by simpa using hg.n1,by simpa using h16,λw hw=> ?_,λw hw=> ?_,λa b ha hab=> ?_⟩,by simp,hadj⟩
  ·simp only[List.length_set] at hw ⊢
   rw[hrow]
   split
   ·refine⟨hrv.1.into _,λx hx=> ?_⟩
    rcases mem_into.1 hx with rfl|hx
    ·omega
    ·exact hrv.2 x hx
   ·split
    ·refine⟨hru.1.into _,λx hx=> ?_⟩
     rcases mem_into.1 hx with rfl|hx
     ·omega
     ·exact hru.2 x hx
    ·exact hg.rows w hw
  ·simp only[List.length_set] at hw
   rw[hadj]
   rintro(h|⟨h1,h2⟩|⟨h1,h2⟩)
   ·exact hg.irr w hw h
   ·omega
   ·omega
  ·simp only[List.length_set] at ha
   rw[hadj] at hab ⊢
   rcases hab with h|h|h
   ·exact .inl (hg.sym a b ha h)
   ·exact .inr (.inr ⟨h.2,h.1⟩)
   ·exact .inr (.inl ⟨h.2,h.1⟩)
theorem GOk.empty {n:Nat}(h1:1≤n)(h16:n≤16):GOk (List.replicate n []):=by
 have hr:∀v,row (List.replicate n []) v=[]:=λv=>by
  unfold row
  rw[List.getD_eq_getElem?_getD,List.getElem?_replicate];split<;>rfl
 refine⟨by simpa using h1,by simpa using h16,λv _=> ?_,λv _=> ?_,λu v _ h=> ?_⟩
 ·rw[hr];exact⟨by simp[Inc],by simp⟩
 ·unfold adj;rw[hr];simp
 ·unfold adj at h;rw[hr] at h;simp at h
end Go.Sx



namespace Go.Sx
theorem ext_getD {a b:LI}(hl:a.length=b.length)(h:∀j,j<a.length→a.getD j 0=b.getD j 0):a=b:=by
 apply List.ext_getElem hl
 intro j h1 h2
 have:=h j h1
 rwa [Ar h1,Ar h2] at this
theorem getD_set (l:LI)(i j:Nat)(x:Int)(hi:i<l.length):(l.set i x).getD j 0=if j=i then x else l.getD j 0:=by
 simp only[List.getD_eq_getElem?_getD,List.getElem?_set]
 by_cases h:j=i
 ·subst h;simp[hi]
 ·rw[if_neg (λe=>h e.symm),if_neg h]
def nb (F:LI)(u w:Nat):Bool:=has (F.getD u 0) w
structure FOk (F:LI)(n:Nat):Prop where
 len:F.length=n
 vs:∀u,u<n→VS (F.getD u 0)
 lt:∀u w,u<n→nb F u w=true→w<n
 irr:∀u,u<n→nb F u u=false
 sym:∀u w,u<n→nb F u w=true→nb F w u=true
theorem FOk.ext {F F':LI}{n:Nat}(h:F.length=n)(h':F'.length=n)(v:∀u,u<n→VS (F.getD u 0))(v':∀u,u<n→VS (F'.getD u 0))(e:∀u w,u<n→nb F u w=nb F' u w):F=F':=by
 refine ext_getD (by omega) (λj hj=> ?_)
 exact(v j (by omega)).ext (v' j (by omega)) (λw _=>e j w (by omega))
theorem Fp (g:LL)(u:Nat):(g.map mk).getD u 0=mk (row g u):=by
 unfold row
 simp only[List.getD_eq_getElem?_getD,List.getElem?_map]
 cases g[u]? with
 |none=>simp[mk]
 |some r=>rfl
theorem Dz {g:LL}(hg:GOk g){u w:Nat}(hu:u<g.length):nb (g.map mk) u w=true↔adj g u w:=by
 have h16:=hg.n16
 unfold nb
 rw[Fp,En (λx hx=>by have:=(hg.rows u hu).2 x hx;omega)]
 simp[adj]
theorem FOk.of {g:LL}(hg:GOk g):FOk (g.map Sx.mk) g.length:=by
 refine⟨by simp,λu _=>by rw[Fp];exact VS.mk _,λu w hu h=>hg.lt hu ((Dz hg hu).1 h),λu hu=> ?_,λu w hu h=> ?_⟩
 ·cases h:nb (g.map Sx.mk) u u
  ·rfl
  ·exact absurd ((Dz hg hu).1 h) (hg.irr u hu)
 ·have ha:=(Dz hg hu).1 h
  exact(Dz hg (hg.lt hu ha)).2 (hg.sym u w hu ha)
def grow (F:LI):LL:=F.map Am
theorem row_grow (F:LI)(u:Nat):row (grow F) u=Am (F.getD u 0):=by
 unfold row grow
 simp only[List.getD_eq_getElem?_getD,List.getElem?_map]
 cases F[u]? with
 |none=>simp[CP]
 |some r=>rfl
theorem adj_grow {F:LI}{n u w:Nat}(h:FOk F n)(hu:u<n):adj (grow F) u w↔nb F u w=true:=by
 unfold adj nb
 rw[row_grow,AN (h.vs u hu)]
theorem GOk.grow {F:LI}{n:Nat}(h:FOk F n)(h1:1≤n)(h16:n≤16):GOk (grow F):=by
 have hl:(Sx.grow F).length=n:=by unfold Sx.grow;rw[List.length_map,h.len]
 refine⟨by omega,by omega,λv hv=> ?_,λv hv ha=> ?_,λu v hu ha=> ?_⟩
 ·rw[row_grow,hl]
  refine⟨Bu _,λx hx=> ?_⟩
  obtain⟨w,_,h2,rfl⟩:=mem_elems.1 hx
  have:=h.lt v w (by omega) h2
  omega
 ·rw[adj_grow h (by omega)] at ha
  rw[h.irr v (by omega)] at ha;cases ha
 ·rw[adj_grow h (by omega)] at ha
  have:=h.lt u v (by omega) ha
  rw[adj_grow h (by omega)]
  exact h.sym u v (by omega) ha
theorem BS {s:Int}(h:VS s):mk (Am s)=s:=by
 refine(VS.mk _).ext h (λv hv=> ?_)
 rw[En (λx hx=>by obtain⟨w,h1,_,rfl⟩:=mem_elems.1 hx;omega),Bool.eq_iff_iff,decide_eq_true_eq,AN h]
theorem all_mask :∀n:Fin 17,∀v:Fin 32,has (IntKind.u32.wrap (ishl .u32 1 (n.val:Int)-1)) v.val=decide (v.val<n.val):=by decide+kernel
def PEO (F:LI)(o:LI):Prop:=∀(j:Nat) (v u w:Nat),o[j]? =some (v:Int)→nb F v u=true→nb F v w=true→(u:Int)∉o.take (j+1)→(w:Int)∉o.take (j+1)→u≠w→nb F u w=true
def Lat (F L:LI)(o:LI)(i:Nat):Prop:=∀(j:Nat) (v:Nat),j<i→o[j]? =some (v:Int)→∀w,nb L v w=(nb F v w&&decide ((w:Int)∉o.take (j+1)))
inductive Via (F:LI)(gone:Nat→Prop)(u:Nat):Nat→Prop
 |me:Via F gone u u
 |step {x y:Nat}:Via F gone u x→nb F x y=true→gone y→Via F gone u y
theorem Via.mono {F:LI}{g g':Nat→Prop}{u x:Nat}(h:Via F g u x)(hg:∀y,g y→g' y):Via F g' u x:=by
 induction h with
 |me=>exact .me
 |step _ h1 h2 ih=>exact .step ih h1 (hg _ h2)
theorem Via.end_ {F:LI}{g:Nat→Prop}{u x:Nat}(h:Via F g u x):x=u∨g x:=by
 cases h with
 |me=>exact .inl rfl
 |step _ _ h2=>exact .inr h2
theorem Via.lt {F:LI}{n:Nat}(hF:FOk F n){g:Nat→Prop}{u x:Nat}(hu:u<n)(h:Via F g u x):x<n:=by
 induction h with
 |me=>exact hu
 |step _ h1 _ ih=>exact hF.lt _ _ ih h1
theorem Via.back {F:LI}{n:Nat}(hF:FOk F n){g g':Nat→Prop}(hg:∀y,g y→g' y){v x:Nat}(hv:v<n)(hgv:g' v)(h:Via F g v x):∀z,Via F g' z x→Via F g' z v:=by
 induction h with
 |me=>exact λz h=>h
 |step hx h1 h2 ih=>
  intro z hz
  have hxn:=Via.lt hF hv hx
  refine ih z (.step hz (hF.sym _ _ hxn h1) ?_)
  rcases hx.end_ with e|e
  ·rw[e];exact hgv
  ·exact hg _ e
def Bhd (F:LI)(gone:Nat→Prop)(v w:Nat):Prop:=∃x,Via F gone v x∧nb F x w=true
structure EInv (n:Nat)(F0 o:LI)(i:Nat)(F L:LI)(left:Int):Prop where
 f:FOk F n
 lenL:L.length=n
 vsL:∀u,u<n→VS (L.getD u 0)
 vsl:VS left
 left:∀v,has left v=decide (v<n∧(v:Int)∉o.take i)
 mono:∀u w,u<n→nb F0 u w=true→nb F u w=true
 lat:Lat F L o i
 peo:∀(j:Nat) (v u w:Nat),j<i→o[j]? =some (v:Int)→nb F v u=true→nb F v w=true→(u:Int)∉o.take (j+1)→(w:Int)∉o.take (j+1)→u≠w→nb F u w=true
 same:PEO F0 o→F=F0
 via:∀u w:Nat,u<n→(u:Int)∉o.take i→(w:Int)∉o.take i→u≠w→(nb F u w=true↔Bhd F0 (λx=>(x:Int)∈o.take i) u w)
 latb:∀(j:Nat) (v:Nat),j<i→o[j]? =some (v:Int)→∀w:Nat,nb L v w=true↔(w:Int)∉o.take (j+1)∧Bhd F0 (λx=>(x:Int)∈o.take j) v w
theorem C4 {o:LI}{j i:Nat}(h:j≤i){x:Int}(hx:x∈o.take j):x∈o.take i:=by
 rw[mem_take_iff] at hx ⊢
 obtain⟨k,h1,h2,h3⟩:=hx
 exact⟨k,h1,by omega,h3⟩
theorem EInv.step {n:Nat}{F0 o F L:LI}{i v:Nat}{left:Int}(h16:n≤16)(h0:FOk F0 n)(hn:∀x∈o,0≤x∧x<n)(hnd:o.Nodup)(hi:i<o.length)(hv:o[i]=(v:Int))(h:EInv n F0 o i F L left){F':LI}
  (hl':F'.length=n) (hv':∀u,u<n→VS (F'.getD u 0)) (h':∀u w,u<n→nb F' u w=(nb F u w||(has (iand .u32 (F.getD v 0) (iandNot .u32 left (ishl .u32 1 (v:Int)))) u&&has (iand .u32 (F.getD v 0) (iandNot .u32 left (ishl .u32 1 (v:Int)))) w&&decide (w≠u)))):
  EInv n F0 o (i+1) F' (L.set v (iand .u32 (F.getD v 0) (iandNot .u32 left (ishl .u32 1 (v:Int))))) (iandNot .u32 left (ishl .u32 1 (v:Int))):=by
 have hvn:v<n:=by have:=hn _ (List.getElem_mem hi);omega
 have hvt:(v:Int)∉o.take i:=by rw[←hv];exact nodup_iff.1 hnd i hi
 have htk:∀x:Nat,((x:Int)∈o.take (i+1))↔((x:Int)∈o.take i∨x=v):=λx=>by
  rw[List.take_succ_eq_append_getElem hi,List.mem_append,hv];simp[Int.natCast_inj]
 have hleft:∀w,has (iandNot .u32 left (ishl .u32 1 (v:Int))) w=decide (w<n∧(w:Int)∉o.take (i+1)):=λw=>by
  rw[Ba h.vsl (VS.ishl _ _),Bv (by omega),h.left,Bool.eq_iff_iff]
  simp only[Bool.and_eq_true,decide_eq_true_eq,Bool.not_eq_true',decide_eq_false_iff_not,htk]
  constructor
  ·rintro⟨⟨a,b⟩,c⟩;exact⟨a,λhh=>hh.elim b c⟩
  ·rintro⟨a,b⟩;exact⟨⟨a,λhh=>b (.inl hh)⟩,λhh=>b (.inr hh)⟩
 have hS:∀w,has (iand .u32 (F.getD v 0) (iandNot .u32 left (ishl .u32 1 (v:Int)))) w=(nb F v w&&decide ((w:Int)∉o.take (i+1))):=λw=>by
  rw[Dp (h.f.vs v hvn) (VS.iandNot _ _),hleft,Bool.eq_iff_iff]
  show (nb F v w&&_)=true↔_
  simp only[Bool.and_eq_true,decide_eq_true_eq]
  exact⟨fun⟨a,b,c⟩=>⟨a,c⟩,fun⟨a,c⟩=>⟨a,h.f.lt v w hvn a,c⟩⟩
 have hlV:VS (iandNot .u32 left (ishl .u32 1 (v:Int))):=VS.iandNot _ _
 generalize iandNot .u32 left (ishl .u32 1 (v:Int))=left' at*
 generalize hSS:iand .u32 (F.getD v 0) left'=S at*
 have hSV:VS S:=by rw[←hSS];exact VS.iand _ _
 have hSlt:∀w,has S w=true→w<n∧(w:Int)∉o.take (i+1):=λw hw=>by
  rw[hS] at hw
  simp only[Bool.and_eq_true,decide_eq_true_eq] at hw
  exact⟨h.f.lt v w hvn hw.1,hw.2⟩
 have hmono:∀u w,u<n→nb F u w=true→nb F' u w=true:=λu w hu hh=>by rw[h' u w hu,hh];rfl
 have hold:∀x:Nat,x<n→(x:Int)∈o.take (i+1)→∀w,nb F' x w=nb F x w:=λx hx hm w=>by
  rw[h' x w hx]
  have:has S x=false:=by
   cases hc:has S x
   ·rfl
   ·exact absurd hm (hSlt x hc).2
  simp[this]
 have hf':FOk F' n:=by
  refine⟨hl',hv',λu w hu hh=> ?_,λu hu=> ?_,λu w hu hh=> ?_⟩
  ·rw[h' u w hu] at hh
   simp only[Bool.or_eq_true,Bool.and_eq_true] at hh
   rcases hh with hh|⟨⟨_,hh⟩,_⟩
   ·exact h.f.lt u w hu hh
   ·exact(hSlt w hh).1
  ·rw[h' u u hu,h.f.irr u hu];simp
  ·rw[h' u w hu] at hh
   simp only[Bool.or_eq_true,Bool.and_eq_true,decide_eq_true_eq] at hh
   rcases hh with hh|⟨⟨h1,h2⟩,h3⟩
   ·exact hmono w u (h.f.lt u w hu hh) (h.f.sym u w hu hh)
   ·rw[h' w u (hSlt w h2).1,h1,h2]
    have:decide (u≠w)=true:=by simpa using λe=>h3 e.symm
    simp[this]
 have hjv:∀j (x:Nat),o[j]? =some (x:Int)→j<o.length∧x<n∧(x:Int)∈o.take (j+1):=λj x hx=>by
  obtain⟨h1,h2⟩:=List.getElem?_eq_some_iff.1 hx
  have:=hn _ (List.getElem_mem h1)
  refine⟨h1,by omega,?_⟩
  rw[mem_take_iff];exact⟨j,h1,by omega,h2⟩
 refine⟨hf',by simp[h.lenL],λu hu=> ?_,hlV,hleft,λu w hu hh=>hmono u w hu (h.mono u w hu hh),λj x hj hx w=> ?_,λj x u w hj hx h1 h2 h3 h4 h5=> ?_,λhp=> ?_,λu w hu k1 k2 huw=> ?_,λj x hj hx w=> ?_⟩
 ·rw[getD_set _ _ _ _ (by rw[h.lenL];exact hvn)]
  split
  ·exact hSV
  ·exact h.vsL u hu
 ·obtain⟨k1,k2,k3⟩:=hjv j x hx
  have k4:=C4 (show j+1≤i+1 by omega) k3
  rw[hold x k2 k4 w]
  unfold nb
  rw[getD_set _ _ _ _ (by rw[h.lenL];exact hvn)]
  by_cases hji:j=i
  ·subst hji
   rw[List.getElem?_eq_getElem hi,hv] at hx
   have:x=v:=by
    have:(v:Int)=(x:Int):=by simpa using hx
    omega
   subst this
   rw[if_pos rfl,hS];rfl
  ·have hne:x≠v:=λe=>by
    subst e
    exact hvt (C4 (show j+1≤i by omega) k3)
   rw[if_neg hne]
   exact h.lat j x (by omega) hx w
 ·obtain⟨k1,k2,k3⟩:=hjv j x hx
  have k4:=C4 (show j+1≤i+1 by omega) k3
  rw[hold x k2 k4] at h1 h2
  by_cases hji:j=i
  ·subst hji
   rw[List.getElem?_eq_getElem hi,hv] at hx
   have:x=v:=by
    have:(v:Int)=(x:Int):=by simpa using hx
    omega
   subst this
   have hu:has S u=true:=by rw[hS,h1];simpa using h3
   have hw:has S w=true:=by rw[hS,h2];simpa using h4
   rw[h' u w (hSlt u hu).1,hu,hw]
   have:decide (w≠u)=true:=by simpa using λe=>h5 e.symm
   simp[this]
  ·exact hmono u w (h.f.lt x u k2 h1) (h.peo j x u w (by omega) hx h1 h2 h3 h4 h5)
 ·have hFF:=h.same hp
  subst hFF
  refine FOk.ext hl' h.f.len hv' h.f.vs (λu w hu=> ?_)
  rw[h' u w hu,Bool.eq_iff_iff]
  simp only[Bool.or_eq_true,Bool.and_eq_true,decide_eq_true_eq]
  constructor
  ·rintro(hh|⟨⟨h1,h2⟩,h3⟩)
   ·exact hh
   ·have k1:=(hSlt u h1).2;have k2:=(hSlt w h2).2
    rw[hS] at h1 h2
    simp only[Bool.and_eq_true] at h1 h2
    exact hp i v u w (by rw[List.getElem?_eq_getElem hi,hv]) h1.1 h2.1 k1 k2 (λe=>h3 e.symm)
  ·exact .inl
 ·have q1:(u:Int)∉o.take i:=λe=>k1 ((htk u).2 (.inl e))
  have q2:(w:Int)∉o.take i:=λe=>k2 ((htk w).2 (.inl e))
  have huv:u≠v:=λe=>k1 ((htk u).2 (.inr e))
  have hwv:w≠v:=λe=>k2 ((htk w).2 (.inr e))
  have hgg:∀y:Nat,(y:Int)∈o.take i→(y:Int)∈o.take (i+1):=λy hy=>(htk y).2 (.inl hy)
  rw[h' u w hu]
  simp only[Bool.or_eq_true,Bool.and_eq_true,decide_eq_true_eq]
  constructor
  ·rintro(hh|⟨⟨a1,a2⟩,_⟩)
   ·obtain⟨x,hx,e⟩:=(h.via u w hu q1 q2 huw).1 hh
    exact⟨x,hx.mono hgg,e⟩
   ·rw[hS] at a1 a2
    simp only[Bool.and_eq_true,decide_eq_true_eq] at a1 a2
    obtain⟨x,hx,ex⟩:=(h.via v u hvn hvt q1 (λe=>huv e.symm)).1 a1.1
    obtain⟨y,hy,ey⟩:=(h.via v w hvn hvt q2 (λe=>hwv e.symm)).1 a2.1
    have hvg:(v:Int)∈o.take (i+1):=(htk v).2 (.inr rfl)
    have hxn:=Via.lt h0 hvn hx
    have hxg:(x:Int)∈o.take (i+1):=by
     rcases hx.end_ with e|e
     ·rw[e];exact hvg
     ·exact hgg x e
    have hux:Via F0 (λx=>(x:Int)∈o.take (i+1)) u x:= .step .me (h0.sym x u hxn ex) hxg
    have huv':=Via.back h0 (g':=λx=>(x:Int)∈o.take (i+1)) hgg hvn hvg hx u hux
    have hgo:∀y,Via F0 (λx=>(x:Int)∈o.take i) v y→Via F0 (λx=>(x:Int)∈o.take (i+1)) u y:=λy hy=>by
     induction hy with
     |me=>exact huv'
     |step _ b1 b2 ih=>exact .step ih b1 (hgg _ b2)
    exact⟨y,hgo y hy,ey⟩
  ·rintro⟨x,hx,ex⟩
   have hcl:∀x,Via F0 (λx=>(x:Int)∈o.take (i+1)) u x→Via F0 (λx=>(x:Int)∈o.take i) u x∨(Bhd F0 (λx=>(x:Int)∈o.take i) u v∧Via F0 (λx=>(x:Int)∈o.take i) v x):=λx hx=>by
    induction hx with
    |me=>exact .inl .me
    | @step a b _ b1 b2 ih=>
     rcases(htk b).1 b2 with b2|b2
     ·rcases ih with ih|⟨ih1,ih2⟩
      ·exact .inl (.step ih b1 b2)
      ·exact .inr ⟨ih1,.step ih2 b1 b2⟩
     ·rcases ih with ih|⟨ih1,ih2⟩
      ·subst b2;exact .inr ⟨⟨a,ih,b1⟩,.me⟩
      ·subst b2;exact .inr ⟨ih1,.me⟩
   rcases hcl x hx with hx|⟨hx1,hx2⟩
   ·exact .inl ((h.via u w hu q1 q2 huw).2 ⟨x,hx,ex⟩)
   ·right
    have a1:=(h.via u v hu q1 hvt huv).2 hx1
    have a2:=(h.via v w hvn hvt q2 (λe=>hwv e.symm)).2 ⟨x,hx2,ex⟩
    refine⟨⟨?_,?_⟩,λe=>huw e.symm⟩
    ·rw[hS,h.f.sym u v hu a1];simpa using k1
    ·rw[hS,a2];simpa using k2
 ·obtain⟨k1,k2,k3⟩:=hjv j x hx
  unfold nb
  rw[getD_set _ _ _ _ (by rw[h.lenL];exact hvn)]
  by_cases hji:j=i
  ·subst hji
   rw[List.getElem?_eq_getElem hi,hv] at hx
   have:x=v:=by
    have:(v:Int)=(x:Int):=by simpa using hx
    omega
   subst this
   rw[if_pos rfl,hS,Bool.and_eq_true,decide_eq_true_eq]
   constructor
   ·rintro⟨b1,b2⟩
    have b3:(w:Int)∉o.take j:=λe=>b2 ((htk w).2 (.inl e))
    have b4:x≠w:=λe=>b2 ((htk w).2 (.inr e.symm))
    exact⟨b2,(h.via x w hvn hvt b3 b4).1 b1⟩
   ·rintro⟨b2,b1⟩
    have b3:(w:Int)∉o.take j:=λe=>b2 ((htk w).2 (.inl e))
    have b4:x≠w:=λe=>b2 ((htk w).2 (.inr e.symm))
    exact⟨(h.via x w hvn hvt b3 b4).2 b1,b2⟩
  ·have hne:x≠v:=λe=>by
    subst e
    exact hvt (C4 (show j+1≤i by omega) k3)
   rw[if_neg hne]
   exact h.latb j x (by omega) hx w
def cnt (n k:Nat):Nat:=((List.range k).filter (λi=>n.testBit i)).length
theorem cnt_add (n a b:Nat):cnt n (a+b)=cnt n a+cnt (n>>>a) b:=by
 unfold cnt
 rw[List.range_add,List.filter_append,List.length_append,List.filter_map,List.length_map]
 congr 2
 apply List.filter_congr
 intro i _
 simp[Nat.testBit_shiftRight]
theorem cnt_mod (n k:Nat):cnt (n%2^k) k=cnt n k:=by
 unfold cnt
 congr 1
 apply List.filter_congr
 intro i hi
 have:=List.mem_range.1 hi
 rw[Nat.testBit_mod_two_pow];simp[this]
theorem elems_length (n:Nat):(Am (n:Int)).length=cnt n 32:=by
 unfold Am cnt
 rw[List.length_map]
 rfl
theorem pop_all :∀b:Fin 256,D5 Ep (b.val:Int)=some ((cnt b.val 8:Nat):Int):=by decide+kernel
theorem pop_at {b:Nat}(h:b<256):D5 Ep (b:Int)=some ((cnt b 8:Nat):Int):=pop_all ⟨b,h⟩
theorem cnt_le (n k:Nat):cnt n k≤k:=by
 unfold cnt
 exact Nat.le_trans (List.length_filter_le _ _) (by simp)
theorem wrap8 {x:Int}(h0:0≤x)(h:x<256):IntKind.u8.wrap x=x:=by
 simp[IntKind.wrap,IntKind.signed,IntKind.bits];omega
theorem OnesCount32_eq {s:Int}(h:VS s):D.K0 s=some ((Am s).length:Int):=by
 obtain⟨n,rfl,hn⟩:=h.nat
 have s24:BR .u32 (n:Int) 24=((n>>>24:Nat):Int):=shr_eq (n:Int) 24 h (by omega)
 have s16:BR .u32 (n:Int) 16=((n>>>16:Nat):Int):=shr_eq (n:Int) 16 h (by omega)
 have s8:BR .u32 (n:Int) 8=((n>>>8:Nat):Int):=shr_eq (n:Int) 8 h (by omega)
 have lt:∀k,n>>>k<4294967296:=λk=>by
  rw[Nat.shiftRight_eq_div_pow];exact Nat.lt_of_le_of_lt (Nat.div_le_self _ _) hn
 have a255:∀m:Nat,m<4294967296→iand .u32 (m:Int) 255=((m%256:Nat):Int):=λm hm=>by
  have:=ED hm (show (255:Nat)<4294967296 by omega)
  rw[show ((255:Nat):Int)=255 from rfl] at this
  rw[this]
  congr 1
  exact Nat.and_two_pow_sub_one_eq_mod (n:=8) m
 have h24:n>>>24<256:=by rw[Nat.shiftRight_eq_div_pow];exact Nat.div_lt_of_lt_mul (by simpa using hn)
 have ec:cnt n 32=cnt (n%256) 8+cnt (n>>>8%256) 8+cnt (n>>>16%256) 8+cnt (n>>>24) 8:=by
  rw[show (32:Nat)=8+(8+(8+8)) from rfl,cnt_add n 8,cnt_add _ 8,cnt_add _ 8]
  have e1:=cnt_mod n 8;have e2:=cnt_mod (n>>>8) 8;have e3:=cnt_mod (n>>>16) 8
  simp only[show (2:Nat)^8=256 from rfl] at e1 e2 e3
  rw[e1,e2,e3]
  simp only[←Nat.shiftRight_add,Nat.reduceAdd]
  omega
 unfold D.K0
 rw[s24,s16,s8,a255 _ (lt 16),a255 _ (lt 8),a255 n hn,pop_at h24,pop_at (Nat.mod_lt _ (by omega)),pop_at (Nat.mod_lt _ (by omega)),pop_at (Nat.mod_lt _ (by omega))]
 simp only[bs]
 have c1:=cnt_le (n>>>24) 8;have c2:=cnt_le (n>>>16%256) 8;have c3:=cnt_le (n>>>8%256) 8;have c4:=cnt_le (n%256) 8
 generalize cnt (n>>>24) 8=a at*;generalize cnt (n>>>16%256) 8=b at*;generalize cnt (n>>>8%256) 8=c at*;generalize cnt (n%256) 8=d at*
 rw[wrap8 (x:=(a:Int)+b) (by omega) (by omega),wrap8 (x:=(a:Int)+b+c) (by omega) (by omega),wrap8 (x:=(a:Int)+b+c+d) (by omega) (by omega),w64 (by omega) (by omega),elems_length,ec]
 congr 1
 omega
theorem size_eq {s:Int}(h:VS s):D.j0 s=some ((Am s).length:Int):=by
 unfold D.j0;rw[OnesCount32_eq h];rfl
def cz :LI→LI→Int
 |[],[]=>0
 |[],_::_=> -1
 |_::_,[]=>1
 |a::x,b::y=>if a<b then-1 else if b<a then 1 else cz x y
def lk :Nat→LI→Int
 |0,_=>0
 |_+1,[]=>0
 |d+1,a::l=>(a+1)*33^d+lk d l
def lkey (s:Int):Int:=lk 32 (Am s)
def skey (s:Int):Int:=((Am s).length:Int)*33^32+lkey s
theorem Bi :∀{l m:LI},l.Nodup→(∀x∈l,x∈m)→l.length≤m.length
 |[],_,_,_=>by simp
 |x::l,m,h,hs=>by
  have h':=List.nodup_cons.1 h
  have hx:=hs x (by simp)
  have:=Bi (l:=l) (m:=m.erase x) h'.2 (λy hy=>by
   have hne:y≠x:=λe=>h'.1 (e▸hy)
   exact(List.mem_erase_of_ne hne).2 (hs y (by simp[hy])))
  rw[List.length_erase_of_mem hx] at this
  have hp:0<m.length:=List.length_pos_of_mem hx
  simp;omega
theorem nodup_all {l m:LI}(hl:l.Nodup)(hm:m.Nodup)(h:∀x∈l,x∈m)(h':∀x∈m,x∈l):l.length=m.length:=
 Nat.le_antisymm (Bi hl h) (Bi hm h')
theorem Inc.nodup {l:LI}(h:Inc l):l.Nodup:=List.Pairwise.imp (λh e=>by omega) h
def withV (bags:LL)(v:Int):LI:=((List.range bags.length).filter λb=>decide (v∈bags.getD b [])).map Int.ofNat
theorem mem_withV {bags:LL}{v x:Int}:x∈withV bags v↔∃b:Nat,x=b∧b<bags.length∧v∈bags.getD b []:=by
 unfold withV
 rw[List.mem_map]
 constructor
 ·rintro⟨b,hb,rfl⟩
  rw[List.mem_filter,List.mem_range] at hb
  exact⟨b,rfl,hb.1,of_decide_eq_true hb.2⟩
 ·rintro⟨b,rfl,h1,h2⟩
  exact⟨b,List.mem_filter.2 ⟨List.mem_range.2 h1,decide_eq_true h2⟩,rfl⟩
def Lk (links:LL)(x y:Int):Prop:=[x,y]∈links∨[y,x]∈links
structure Closed (links:LL)(sel m:LI):Prop where
 sub:∀x∈m,x∈sel
 first:∀x,sel.head? =some x→x∈m
 step:∀x∈m,∀y∈sel,Lk links x y→y∈m
def Conn (links:LL)(sel:LI):Prop:=∀m,Closed links sel m→∀x∈sel,x∈m
def LinkIn (n:Nat)(l:LI):Prop:=∃a b:Nat,l=[(a:Int),(b:Int)]∧a<b∧b<n
structure TB (g bags links:LL):Prop where
 n1:1≤bags.length
 n16:bags.length≤16
 many:links.length+1=bags.length
 lks:∀l∈links,LinkIn bags.length l
 sets:∀b∈bags,SetOf b g.length
 tree:Conn links ((List.range bags.length).map Int.ofNat)
 edges:∀u v:Nat,u<g.length→adj g u v→∃b∈bags,(u:Int)∈b∧(v:Int)∈b
 some:∀v,v<g.length→withV bags v≠[]
 conn:∀v,v<g.length→Conn links (withV bags v)
def rowF (r:LI)(u:Nat)(s:LL):LL:=(List.range r.length).foldl (λs i=>if(u:Int)<r.getD i 0 then s++[[(u:Int),r.getD i 0]] else s) s
theorem inner_edges (r:LI)(u:Nat)(s0:LL)(h:s0.length+r.length≤4294967296){step:LL×Int→Option ((LL×Int) ⊕ LL)}
  (hstep:∀s (i:Nat) (hi:i<r.length),step (s,(i:Int))=cond (decide ((u:Int)<r[i])) ((AC s [[(u:Int),r[i]]]).bind λl=>some (.inl (l,((i+1:Nat):Int)))) (some (.inl (s,((i+1:Nat):Int)))))
  (hend:∀s,step (s,(r.length:Int))=some (.inr s)):Aq step (s0,0)=some (rowF r u s0)∧(rowF r u s0).length≤s0.length+r.length:=by
 have key:=loop_nat (step:=step) r.length (λs i=>(s,i)) (λs i=>if(u:Int)<r.getD i 0 then s++[[(u:Int),r.getD i 0]] else s) (λs=>s) (λi s=>s.length≤s0.length+i) s0 (by omega)
  (λs i hi hs=> ?_) (λs _=>hend s)
 ·exact key
 ·have hg:r.getD i 0=r[i]:=Ar hi 0
  refine⟨?_,?_⟩
  ·rw[hstep s i hi,hg]
   by_cases hc:(u:Int)<r[i]
   ·rw[decide_eq_true hc,cond_true,AQ (by simp;omega),if_pos hc];rfl
   ·rw[decide_eq_false hc,cond_false,if_neg hc]
  ·rw[hg]
   split
   ·rw[List.length_append,List.length_singleton];omega
   ·omega
def edgesF (g:LL):LL:=(List.range g.length).foldl (λs u=>rowF (row g u) u s) []
theorem FA (g:LL)(hg:GOk g):D.Q1 g=some (edgesF g):=by
 have h16:=hg.n16
 unfold D.Q1
 have key:=loop_nat (ρ:=LL) (step:=(fun(s_288:LL×Int)=>match s_288 with|(l_291,x_296)=>cond (decide (x_296<(g.length:Int))) ((idx g x_296).bind λe_441=>(Aq (σ:=LL×Int) (ρ:=(LL)) (fun(s_508:LL×Int)=>match s_508 with|(l_511,x_516)=>cond (decide (x_516<(e_441.length:Int))) ((idx e_441 x_516).bind λe_551=>cond (decide (x_296<e_551)) ((AC l_511 ([([x_296,e_551]:LI)]:LL)).bind λl_569=>some (.inl (l_569,(IntKind.i64.wrap (x_516+1))))) (some (.inl (l_511,(IntKind.i64.wrap (x_516+1)))))) (some (.inr l_511))) (l_291,0)).bind λl_544=>some (.inl (l_544,(IntKind.i64.wrap (x_296+1))))) (some (.inr l_291))))
  g.length (λs i=>(s,i)) (λs u=>rowF (row g u) u s) (λs=>s) (λi s=>s.length≤16*i) [] (by simp) (λs u hu hs=> ?_) (λs _=> ?_)
 ·exact congrArg (λz=>Option.bind z λl=>some l) key.1
 ·have hr:=hg.row_len hu
  obtain⟨k1,k2⟩:=inner_edges (row g u) u s (by omega) (step:=(fun(s_508:LL×Int)=>match s_508 with|(l_511,x_516)=>cond (decide (x_516<((row g u).length:Int))) ((idx (row g u) x_516).bind λe_551=>cond (decide ((u:Int)<e_551)) ((AC l_511 ([([(u:Int),e_551]:LI)]:LL)).bind λl_569=>some (.inl (l_569,(IntKind.i64.wrap (x_516+1))))) (some (.inl (l_511,(IntKind.i64.wrap (x_516+1)))))) (some (.inr l_511)))) (λs i hi=>by
    simp only[dlt hi,cond_true,Ax hi,bs,wq i]) (λs=>by simp only[A3,cond_false])
  refine⟨?_,by omega⟩
  simp only[dlt hu,cond_true,Cd hu,bs,wq u]
  exact(congrArg (λz=>Option.bind z _) k1).trans rfl
 ·simp only[A3,cond_false]
theorem GOk.sh2 {g:LL}(hg:GOk g):Sh2 g:=by
 have h16:=hg.n16
 exact⟨by unfold Sh;omega,λr hr=>by have:=(hg.mem0 hr).1;unfold Sh;omega⟩
theorem Dm {g:LL}(hg:GOk g):gB g=true:=(gB_iff g).2 hg
theorem DH (g:LL)(hg:GOk g):D.w1 g=some ((edgesF g).length:Int):=by
 unfold D.w1 D.X1
 rw[Ca g hg.sh2,Dm hg,bs,Bool.not_true,cond_false,FA g hg];rfl
theorem nets_graph_eq (F:LI)(h:F.length≤16)(hV:∀u,u<F.length→VS (F.getD u 0)):D.P1 F=some (grow F):=by
 unfold D.P1
 refine(Ds F (λs i=>(i,s)) Am (by omega) (λs i hi _=> ?_) (λs=> ?_)).trans rfl
 ·have:=hV i hi
  rw[Ar hi] at this
  simp only[dlt hi,cond_true,Ax hi,bs,EE _ this,wq i]
 ·simp only[A3,cond_false]
theorem OOk.sh {g:LL}{o:LI}(hg:GOk g)(ho:OOk g o):Sh o:=by
 have:=hg.n16;have:=ho.len;unfold Sh;omega
theorem Fg {g:LL}{o:LI}(hg:GOk g)(ho:OOk g o):D.z1 g o=some true:=by
 rw[Fy g o hg.sh2 (ho.sh hg),Dm hg,(ordB_iff g o).2 ho];rfl
structure Fill (g:LL)(o F L:LI):Prop where
 elim:D.e2 (g.map mk) o=some (F,L)
 f:FOk F g.length
 lenL:L.length=g.length
 vsL:∀u,u<g.length→VS (L.getD u 0)
 mono:∀u w,u<g.length→adj g u w→nb F u w=true
 lat:Lat F L o g.length
 peo:PEO F o
 same:PEO (g.map mk) o→F=g.map mk
 latb:∀(j:Nat) (v:Nat),o[j]? =some (v:Int)→∀w:Nat,nb L v w=true↔(w:Int)∉o.take (j+1)∧Bhd (g.map mk) (λx=>(x:Int)∈o.take j) v w
theorem Fill.FillOf {g:LL}{o F L:LI}(hg:GOk g)(ho:OOk g o)(h:Fill g o F L):D.K1 g o=some (grow F,true):=by
 have h16:=hg.n16
 unfold D.K1
 rw[Fg hg ho,bs,Bool.not_true,cond_false,Db g hg,bs,narrow_eq o (ho.sh hg),bs,h.elim,bs,nets_graph_eq F (by rw[h.f.len];omega) (λu hu=>h.f.vs u (by rw[h.f.len] at hu;exact hu))]
 rfl
theorem Fill.gok {g:LL}{o F L:LI}(hg:GOk g)(h:Fill g o F L):GOk (grow F):=GOk.grow h.f hg.n1 hg.n16
theorem l1Edge_eq (g:LL)(hg:GOk g){u:Nat}(hu:u<g.length)(w:Int):D.v0 g (u:Int) w=some (decide (w∈row g u)):=by
 unfold D.v0
 rw[Cd hu,bs,Cj _ _ (hg.sh2.row hu)];rfl
def AU (f:Nat→Nat):Nat→Nat
 |0=>0
 |n+1=>AU f n+f n
theorem Bg {f g:Nat→Nat}:∀{n:Nat},(∀i,i<n→f i=g i)→AU f n=AU g n
 |0,_=>rfl
 |n+1,h=>by simp only[AU];rw[Bg (n:=n) (λi hi=>h i (by omega)),h n (by omega)]
theorem C6 (f g:Nat→Nat):∀n,AU (λi=>f i+g i) n=AU f n+AU g n
 |0=>rfl
 |n+1=>by simp only[AU];rw[C6 f g n];omega
theorem Cp :∀n,AU (λ_=>0) n=0
 |0=>rfl
 |n+1=>by simp only[AU];rw[Cp n]
theorem E4 (f:Nat→Nat→Nat)(m:Nat):∀n,AU (λi=>AU (f i) m) n=AU (λj=>AU (λi=>f i j) n) m
 |0=>by simp only[AU];rw[Cp]
 |n+1=>by simp only[AU];rw[E4 f m n,←C6]
def bit (b:Bool):Nat:=if b then 1 else 0
def S2 (n:Nat)(p:Nat→Nat→Bool):Nat:=AU (λu=>AU (λw=>bit (p u w)) n) n
def ast (f:Int→Int)(s:Int×Int)(v:Int):Int×Int:=if s.1<0∨f v<s.2 then(v,f v) else s
def amin (f:Int→Int)(l:LI):Int×Int:=l.foldl (ast f) (-1,0)
theorem ast_run (f:Int→Int):∀(l:LI) (b:Int),0≤b→(∀x∈l,0≤x)→∃c,l.foldl (ast f) (b,f b)=(c,f c)∧(c=b∨c∈l)∧0≤c∧f c≤f b∧∀x∈l,f c≤f x
 |[],b,hb,_=>⟨b,rfl,.inl rfl,hb,Int.le_refl _,by simp⟩
 |x::l,b,hb,hl=>by
  have hx:=hl x (by simp)
  have hl':=λy hy=>hl y (List.mem_cons_of_mem x hy)
  rw[List.foldl_cons]
  by_cases hc:f x<f b
  ·have e:ast f (b,f b) x=(x,f x):=by unfold ast;rw[if_pos (.inr hc)]
   rw[e]
   obtain⟨c,h1,h2,h3,h4,h5⟩:=ast_run f l x hx hl'
   refine⟨c,h1,.inr ?_,h3,by omega,λy hy=> ?_⟩
   ·rcases h2 with rfl|h2
    ·simp
    ·exact List.mem_cons_of_mem _ h2
   ·rcases List.mem_cons.1 hy with rfl|hy
    ·exact h4
    ·exact h5 y hy
  ·have e:ast f (b,f b) x=(b,f b):=by unfold ast;rw[if_neg (λh=>h.elim (λh=>by dsimp only at h;omega) hc)]
   rw[e]
   obtain⟨c,h1,h2,h3,h4,h5⟩:=ast_run f l b hb hl'
   refine⟨c,h1,?_,h3,h4,λy hy=> ?_⟩
   ·rcases h2 with h2|h2
    ·exact .inl h2
    ·exact .inr (List.mem_cons_of_mem _ h2)
   ·rcases List.mem_cons.1 hy with rfl|hy
    ·omega
    ·exact h5 y hy
theorem ast_first (f:Int→Int)(x:Int):ast f (-1,0) x=(x,f x):=by unfold ast;rw[if_pos (.inl (by decide))]
theorem amin_ok (f:Int→Int){l:LI}(hne:l≠[])(hl:∀x∈l,0≤x):∃c,amin f l=(c,f c)∧c∈l∧∀x∈l,f c≤f x:=by
 cases l with
 |nil=>exact absurd rfl hne
 |cons x l=>
  unfold amin
  rw[List.foldl_cons,ast_first]
  obtain⟨c,h1,h2,h3,h4,h5⟩:=ast_run f l x (hl x (by simp)) (λy hy=>hl y (List.mem_cons_of_mem _ hy))
  refine⟨c,h1,?_,λy hy=> ?_⟩
  ·rcases h2 with rfl|h2
   ·simp
   ·exact List.mem_cons_of_mem _ h2
  ·rcases List.mem_cons.1 hy with rfl|hy
   ·exact h4
   ·exact h5 y hy
def els (s:Int)(i:Nat):LI:=((List.range i).filter (has s)).map Int.ofNat
theorem els_succ (s:Int)(i:Nat):els s (i+1)=if has s i then els s i++[(i:Int)] else els s i:=by
 unfold els
 rw[List.range_succ,List.filter_append,List.map_append]
 cases h:has s i<;>simp[h]
theorem Fd {s:Int}{n:Nat}(hn:n≤32)(h:∀v,has s v=true→v<n):els s n=Am s:=by
 unfold els Am
 obtain⟨k,hk⟩:∃k,32=n+k:=⟨32-n,by omega⟩
 rw[hk,List.range_add,List.filter_append]
 have:((List.range k).map (λx=>n+x)).filter (has s)=[]:=by
  rw[List.filter_eq_nil_iff]
  intro x hx hc
  obtain⟨y,_,rfl⟩:=List.mem_map.1 hx
  have:=h _ hc;omega
 rw[this,List.append_nil]
theorem elems_nonneg (s:Int):∀x∈Am s,0≤x:=λx hx=>by
 obtain⟨v,_,_,rfl⟩:=mem_elems.1 hx;omega
theorem elems_rm {s:Int}{b:Nat}(h:VS s)(hb:has s b=true):(Am s).length=(Am (iandNot .u32 s (ishl .u32 1 (b:Int)))).length+1:=by
 have hb32:b<32:=by
  by_cases hv:b<32
  ·exact hv
  ·rw[DS h (by omega)] at hb;cases hb
 have hm:∀x,x∈Am s↔x∈(b:Int)::Am (iandNot .u32 s (ishl .u32 1 (b:Int))):=λx=>by
  rw[List.mem_cons,mem_elems,mem_elems]
  constructor
  ·rintro⟨v,h1,h2,rfl⟩
   by_cases e:v=b
   ·left;omega
   ·right;exact⟨v,h1,by rw[Ba h (VS.ishl _ _),Bv hb32,h2];simp[e],rfl⟩
  ·rintro(rfl|⟨v,h1,h2,rfl⟩)
   ·exact⟨b,hb32,hb,rfl⟩
   ·rw[Ba h (VS.ishl _ _),Bool.and_eq_true] at h2
    exact⟨v,h1,h2.1,rfl⟩
 have hn:((b:Int)::Am (iandNot .u32 s (ishl .u32 1 (b:Int)))).Nodup:=by
  refine List.nodup_cons.2 ⟨λhc=> ?_,(Bu _).nodup⟩
  rw[AN (VS.iandNot _ _),Ba h (VS.ishl _ _),Bv hb32] at hc
  simp at hc
 have:=nodup_all (Bu s).nodup hn (λx hx=>(hm x).1 hx) (λx hx=>(hm x).2 hx)
 simpa using this
def full (n:Nat):Int:=IntKind.u32.wrap (ishl .u32 1 (n:Int)-1)
theorem Ci (n:Nat):VS (full n):=VS.wrap _
theorem BY {n:Nat}(h:n≤16)(v:Nat):has (full n) v=decide (v<n):=by
 by_cases hv:v<32
 ·exact all_mask ⟨n,by omega⟩ ⟨v,hv⟩
 ·rw[DS (Ci n) (by omega)];symm;simp;omega
theorem EI (F:LI):D.Q F=some (full F.length):=by
 unfold D.Q D.e1
 have:decide ((F.length:Int)<0)=false:=by simp
 rw[this];rfl
theorem Fill.many {g:LL}{o F L:LI}(hg:GOk g)(ho:OOk g o)(h:Fill g o F L):D.a2 g o=some (IntKind.i64.wrap (((edgesF (grow F)).length:Int)-((edgesF g).length:Int))):=by
 unfold D.a2
 rw[h.FillOf hg ho,bs]
 simp only[Bool.not_true,cond_false]
 rw[DH _ (h.gok hg),bs,DH _ hg]
 rfl
section
variable {g : LL} {o : LI} (hg : GOk g) (ho : OOk g o)
include hg ho
end
end Go.Sx

namespace Go.Sx
section
variable {g : LL} {o : LI} (hg : GOk g) (ho : OOk g o)
include hg ho
omit hg ho in
theorem l1Max_eq (a b:Int):D.e0 a b=some (max a b):=by
 unfold D.e0
 by_cases h:b<a
 ·simp only[h,decide_true,cond_true];congr 1;omega
 ·simp only[h,decide_false,cond_false];congr 1;omega
def mx (f:Nat→Int):Nat→Int
 |0=>0
 |n+1=>max (mx f n) (f n)
end
end Go.Sx

namespace Go.Sx
def dg (g:LL)(s:Int)(v:Int):Int:=((Am (iand .u32 (mk (row g v.toNat)) s)).length:Int)
structure SQ (n:Nat)(s:Int)(k:Nat):Prop where
 vs:VS s
 lt:∀v,has s v=true→v<n
 card:(Am s).length=k
theorem SQ.full {n:Nat}(h:n≤16):SQ n (full n) n:=by
 refine⟨Ci n,λv hv=>by rw[BY h] at hv;exact of_decide_eq_true hv,?_⟩
 rw[←Fd (n:=n) (by omega) (λv hv=>by rw[BY h] at hv;exact of_decide_eq_true hv)]
 unfold els
 rw[List.length_map,List.filter_eq_self.2 (λv hv=>by rw[BY h];exact decide_eq_true (List.mem_range.1 hv)),List.length_range]
theorem SQ.rm {n k b:Nat}{s:Int}(h:SQ n s (k+1))(hb:has s b=true):SQ n (iandNot .u32 s (ishl .u32 1 (b:Int))) k:=by
 refine⟨VS.iandNot _ _,λv hv=> ?_,?_⟩
 ·rw[Ba h.vs (VS.ishl _ _),Bool.and_eq_true] at hv
  exact h.lt v hv.1
 ·have:=elems_rm h.vs hb
  have:=h.card
  omega
theorem SQ.ne {n k:Nat}{s:Int}(h:SQ n s (k+1)):Am s≠[]:=λe=>by have:=h.card;rw[e] at this;simp at this
theorem SQ.z {n:Nat}{s:Int}(h:SQ n s 0):s=0:=by
 rw[h.vs.eq_zero]
 intro v hv
 cases hc:has s v
 ·rfl
 ·have:(v:Int)∈Am s:=(AN h.vs).2 hc
  have h0:=h.card
  rw[List.length_eq_zero_iff] at h0
  rw[h0] at this;simp at this
theorem SQ.min {n k:Nat}{s:Int}(h:SQ n s (k+1))(f:Int→Int):∃c:Nat,c<n∧has s c=true∧amin f (Am s)=((c:Int),f c)∧∀v:Nat,has s v=true→f c≤f v:=by
 obtain⟨c,h1,h2,h3⟩:=amin_ok f h.ne (elems_nonneg s)
 obtain⟨v,_,h5,rfl⟩:=mem_elems.1 h2
 exact⟨v,h.lt v h5,h5,h1,λw hw=>h3 w ((AN h.vs).2 hw)⟩
noncomputable def elimF (F:LI)(s b:Int):LI:=(D.i2 F s b).getD []
structure GQ (n i:Nat)(F o:LI)(s:Int):Prop where
 f:FOk F n
 left:SQ n s (n-i)
 len:o.length=i
 rng:∀x∈o,∃v:Nat,x=v∧v<n∧has s v=false
 nd:o.Nodup
def CQ (F:LI)(K:Int):Prop:=∀u w,has K u=true→has K w=true→u≠w→nb F u w=true
def MX (F:LI)(n:Nat)(K:Int):Prop:=CQ F K∧∀w,w<n→has K w=false→∃u,has K u=true∧nb F u w=false
def In (n:Nat)(K:Int):Prop:=VS K∧∀w,has K w=true→w<n
structure Tgt (F:LI)(n:Nat)(C O K:Int):Prop where
 ok:In n K
 mx:MX F n K
 sup:∀w,has C w=true→has K w=true
 sub:∀w,has K w=true→has C w=true∨has O w=true
theorem In.lt {n:Nat}{K:Int}(h:In n K)(hn:n≤16):0≤K∧K<65536:=by
 obtain⟨m,rfl,hm⟩:=h.1.nat
 refine⟨by omega,?_⟩
 have:m<2^16:=by
  apply Nat.lt_pow_two_of_testBit
  intro i hi
  cases hc:m.testBit i
  ·rfl
  ·have:=h.2 i (by rw[BU];exact hc)
   omega
 omega
theorem masks_len {n:Nat}{l:LI}(hn:n≤16)(h:∀K∈l,In n K)(hd:l.Nodup):l.length≤65536:=by
 have:=Bi (m:=(List.range 65536).map Int.ofNat) hd (λK hK=>by
  have:=(h K hK).lt hn
  exact List.mem_map.2 ⟨K.toNat,List.mem_range.2 (by omega),by show ((K.toNat:Nat):Int)=K;omega⟩)
 simpa using this
structure BK (F:LI)(n:Nat)(C O S:Int):Prop where
 c:In n C
 o:In n O
 s:In n S
 cq:CQ F C
 cn:∀w,w<n→((has O w=true∨has S w=true)↔∀u,has C u=true→nb F u w=true)
 dis:∀w,has O w=true→has S w=false
theorem EB :33≤Bo:=by have:=Dy;omega
theorem rise_nodup {k:Int→Int}{l:LI}(h:l.Pairwise (λa b=>k a<k b)):l.Nodup:=List.Pairwise.imp (λh e=>by subst e;omega) h
theorem iand255 (a:Int):0≤iand .i64 a 255∧iand .i64 a 255≤255:=by
 have e:(BitVec.ofInt 64 255).toNat=255:=rfl
 have h:(BitVec.ofInt 64 a&&&BitVec.ofInt 64 255).toNat≤255:=by
  rw[BitVec.toNat_and,e];exact Nat.and_le_right
 have e2:iand .i64 a 255=(((BitVec.ofInt 64 a&&&BitVec.ofInt 64 255).toNat:Nat):Int):=by
  show IntKind.i64.wrap (((BitVec.ofInt 64 a&&&BitVec.ofInt 64 255).toNat:Nat):Int)=_
  exact w64 (by omega) (by omega)
 rw[e2];omega
theorem new_ok (code:LI)(h:∀x∈code,0≤x∧x≤255)(hl:code.length≤4096):∃z,D.F0 code=some (code,0,z)∧DK code 0:=by
 unfold D.F0
 refine⟨_,(loop_listb code (λs i=>(s,i)) (λs e=>iand .i64 (IntKind.i64.wrap ((IntKind.i64.wrap ((IntKind.i64.wrap (s*331))+(IntKind.i64.wrap e)))+11)) 1073741823) (λs=>s) (λ_=>True) _ trivial (λs i hi _=>⟨?_,trivial⟩) (λs _=> ?_)).trans rfl,h,hl,by omega,by omega⟩
 ·simp only[dlt hi,cond_true,Ax hi,bs,wq i]
 ·simp only[A3,cond_false]
def Dw {α:Type}(b:LI)(P:α→Prop)(e:Option (α×LI×Int×Int)):Prop:=∃y,e=some y∧(P y.1∧y.2.1=b∧DK b y.2.2.1)
theorem Dw.then {α β:Type}{b:LI}{P:α→Prop}{e:Option (α×LI×Int×Int)}{k:α×LI×Int×Int→Option β}{Q:β→Prop}(h:Dw b P e)
  (hk:∀a i z,P a→DK b i→∃y,k (a,b,i,z)=some y∧Q y):∃y,e.bind k=some y∧Q y:=by
 obtain⟨⟨a,b',i,z⟩,rfl,h1,h2,h3⟩:=h
 dsimp only at h1 h2 h3
 subst h2
 exact hk a i z h1 h3
theorem Er {b:LI}{i:Int}(h:DK b i)(z:Int):Dw b (λr=>0≤r∧r≤255) (D.v b i z):=by
 obtain⟨h1,h2,h3,h4⟩:=h
 unfold D.v
 by_cases hi:i<b.length
 ·simp only[hi,decide_true,cond_true,Fb h3 hi,bs]
  rw[w64 (x:=i+1) (by omega) (by omega)]
  exact⟨_,rfl,iand255 _,rfl,h1,h2,by dsimp only;omega,by dsimp only;omega⟩
 ·simp only[hi,decide_false,cond_false]
  exact⟨_,rfl,iand255 _,rfl,h1,h2,h3,h4⟩
theorem Ez {b:LI}{i:Int}(h:DK b i)(z n:Int):Dw b (λr=>0≤r∧(0<n→r<n)) (D.a b i z n):=by
 unfold D.a
 by_cases h0:n≤0
 ·simp only[h0,decide_true,cond_true]
  exact⟨_,rfl,⟨by dsimp only;omega,λ_=>by omega⟩,rfl,h⟩
 ·have hn0:(n==0)=false:=by simp;omega
  simp only[h0,decide_false,cond_false,hn0]
  by_cases h1:n≤256
  ·simp only[h1,decide_true,cond_true]
   refine(Er h z).then λr i1 z1 hr hk=> ?_
   have:=tmod_rng (x:=r) (n:=n) hr.1 (by omega)
   exact⟨_,rfl,⟨this.1,λ_=>this.2⟩,rfl,hk⟩
  ·simp only[h1,decide_false,cond_false]
   refine(Er h z).then λr i1 z1 hr hk=> ?_
   refine(Er hk z1).then λr2 i2 z2 hr2 hk=> ?_
   refine(Er hk z2).then λr3 i3 z3 hr3 hk=> ?_
   refine(Er hk z3).then λr4 i4 z4 hr4 hk=> ?_
   dsimp only
   rw[w64 (x:=r*16777216) (by omega) (by omega),w64 (x:=r2*65536) (by omega) (by omega),w64 (x:=r3*256) (by omega) (by omega),w64 (x:=r*16777216+r2*65536) (by omega) (by omega),w64 (x:=r*16777216+r2*65536+r3*256) (by omega) (by omega),w64 (x:=r*16777216+r2*65536+r3*256+r4) (by omega) (by omega)]
   have:=tmod_rng (x:=r*16777216+r2*65536+r3*256+r4) (n:=n) (by omega) (by omega)
   exact⟨_,rfl,⟨this.1,λ_=>this.2⟩,rfl,hk⟩
theorem BT {b:LI}{i:Int}(h:DK b i)(z n:Int)(hn:0<n):Dw b (λr=>0≤r∧r<n) (D.a b i z n):=by
 obtain⟨y,e,h1,h2⟩:=Ez h z n
 exact⟨y,e,⟨h1.1,h1.2 hn⟩,h2⟩
theorem De {b:LI}{i:Int}(h:DK b i)(z n:Int):Dw b (λ_:Bool=>True) (D.i b i z n):=by
 unfold D.i
 exact(Ez h z n).then λr i1 z1 _ hk=>⟨_,rfl,trivial,rfl,hk⟩
theorem odd_dw {b:LI}{i:Int}(h:DK b i)(z:Int):Dw b (λ_:Int=>True) (D.U0 b i z):=by
 unfold D.U0
 refine(BT h z 10 (by omega)).then λr i1 z1 hr hk=> ?_
 rw[Fb hr.1 (by simpa using hr.2),bs]
 exact⟨_,rfl,trivial,rfl,hk⟩
theorem min_ok (a b:Int):∃m,D.N0 a b=some m:=by
 unfold D.N0
 by_cases h:a<b
 ·exact⟨a,by simp[h]⟩
 ·exact⟨b,by simp[h]⟩
theorem num_dw {b:LI}{i:Int}(h:DK b i)(z n:Int):Dw b (λ_:Int=>True) (D.R b i z n):=by
 unfold D.R
 refine(De h z 10).then λr i1 z1 _ hk=> ?_
 dsimp only
 cases r
 ·simp only[cond_false]
  refine(De hk z1 2).then λr i1 z1 _ hk=> ?_
  dsimp only
  cases r
  ·simp only[cond_false]
   exact(Ez hk z1 _).then λr i1 z1 _ hk=>⟨_,rfl,trivial,rfl,hk⟩
  ·obtain⟨m,e⟩:=min_ok n 4
   simp only[cond_true,e,bs]
   exact(Ez hk z1 _).then λr i1 z1 _ hk=>⟨_,rfl,trivial,rfl,hk⟩
 ·simp only[cond_true]
  refine(odd_dw hk z1).then λq i1 z1 _ hk=> ?_
  refine(BT hk z1 4 (by omega)).then λr i1 z1 hr hk=> ?_
  dsimp only
  rw[Fb hr.1 (by simpa using hr.2),bs]
  exact⟨_,rfl,trivial,rfl,hk⟩
theorem EG (n:Nat)(hn:n≤100):D.M (n:Int)=some (List.replicate n []):=by
 unfold D.M
 refine(C8 (λi=>((i:Int),List.replicate i [])) n (List.replicate n []) (by simp) (λi hi=> ?_) ?_).trans rfl
 ·simp only[dlt hi,cond_true,wq i]
  rw[AQ (by simp;omega),bs,←List.replicate_succ']
 ·simp only[A3,cond_false]
theorem Into_deep :D.S=D.r:=rfl
theorem EO :D.Y=D.y:=rfl
theorem Of_deep (n:Nat)(h1:1≤n)(h16:n≤16):D.B0 (n:Int)=some (List.replicate n [],true):=by
 unfold D.B0
 have e1:(decide ((1:Int)≤(n:Int))&&decide ((n:Int)≤16))=true:=by simp;omega
 rw[l1In_eq,bs,e1,Bool.not_true,cond_false,EG n (by omega)];rfl
theorem Path_deep (n:Nat)(h1:1≤n)(h16:n≤16):∃y,D.g0 (n:Int)=some y∧(GOk y.1∧y.1.length=n∧y.2=true):=by
 unfold D.g0
 rw[Of_deep n h1 h16,bs]
 simp only[Bool.and_true]
 refine AB (λs=>∃v:Nat,s.1=(v:Int)∧1≤v∧v≤n∧GOk s.2∧s.2.length=n) (λs=>n-s.1.toNat) (λr=>GOk r∧r.length=n) ?_ ⟨1,rfl,by omega,h1,GOk.empty h1 h16,by simp⟩ ?_
 ·rintro⟨_,l⟩ ⟨v,rfl,hv1,hvn,hg,hl⟩
  dsimp only at hg hl ⊢
  by_cases hv:v<n
  ·obtain⟨g',k1,k2,k3,_⟩:=ER hg (u:=v-1) (v:=v) (by omega) (by omega) (by omega)
   have e:IntKind.i64.wrap ((v:Int)-1)=((v-1:Nat):Int):=by rw[w64 (by omega) (by omega)];omega
   simp only[dlt hv,cond_true,e,EO,k1,bs,wq v]
   exact⟨_,rfl,⟨v+1,rfl,by omega,by omega,k2,by dsimp only;omega⟩,by dsimp only;omega⟩
  ·obtain rfl:v=n:=by omega
   simp only[A3,cond_false]
   exact⟨_,rfl,hg,hl⟩
 ·rintro r ⟨hg,hl⟩
  exact⟨_,rfl,hg,hl,rfl⟩
theorem Loop_deep (n:Nat)(h1:3≤n)(h16:n≤16):∃y,D.Q0 (n:Int)=some y∧(GOk y.1∧y.1.length=n):=by
 unfold D.Q0
 refine B5 _ (Path_deep n (by omega) h16) ?_
 rintro⟨g,t⟩ ⟨hg,hl,rfl⟩
 dsimp only at hg hl ⊢
 have e3:decide ((n:Int)<3)=false:=by simp;omega
 obtain⟨g',k1,k2,k3,_⟩:=ER hg (u:=0) (v:=n-1) (by omega) (by omega) (by omega)
 have e:IntKind.i64.wrap ((n:Int)-1)=((n-1:Nat):Int):=by rw[w64 (by omega) (by omega)];omega
 rw[show ((0:Nat):Int)=0 from rfl] at k1
 simp only[Bool.not_true,Bool.false_or,e3,cond_false,EO,e,k1,bs]
 exact⟨_,rfl,k2,by dsimp only;omega⟩
theorem DrawOf_deep {b:LI}{i:Int}(h:DK b i)(z:Int)(n:Nat)(h1:1≤n)(h16:n≤16):Dw b (λg=>GOk g∧g.length=n) (D.H0 b i z (n:Int)):=by
 unfold D.H0
 rw[EG n (by omega),bs]
 refine(BT h z 3 (by omega)).then λq i0 z0 hq k2=> ?_
 dsimp only
 refine AB (λs=>∃v:Nat,s.1=(v:Int)∧1≤v∧v≤n∧s.2.1=b∧DK b s.2.2.1∧GOk s.2.2.2.2∧s.2.2.2.2.length=n) (λs=>n-s.1.toNat)
  (λr=>r.2.1=b∧DK b r.2.2.1∧GOk r.1∧r.1.length=n) ?_ ⟨1,rfl,by omega,h1,rfl,k2,GOk.empty h1 h16,by simp⟩ ?_
 ·rintro⟨_,b2,i,z,g⟩ ⟨v,rfl,g1,g2,rfl,hk,hg,hl⟩
  dsimp only at hk hg hl ⊢
  by_cases hv:v<n
  ·simp only[dlt hv,cond_true]
   refine AB (λs=>∃u:Nat,s.1=(u:Int)∧u≤v∧s.2.1=b2∧DK b2 s.2.2.1∧GOk s.2.2.2.2∧s.2.2.2.2.length=n) (λs=>v-s.1.toNat)
    (λr=>r.1=b2∧DK b2 r.2.1∧GOk r.2.2.2∧r.2.2.2.length=n) ?_ ⟨0,rfl,by omega,rfl,hk,hg,hl⟩ ?_
   ·rintro⟨_,b2,i,z,g⟩ ⟨u,rfl,g3,rfl,hk,hg,hl⟩
    dsimp only at hk hg hl ⊢
    by_cases hu:u<v
    ·simp only[dlt hu,cond_true]
     refine(BT hk z 4 (by omega)).then λt i3 z3 ht hk'=> ?_
     dsimp only
     by_cases hc:t<IntKind.i64.wrap (1+q)
     ·obtain⟨g',k1,k3,k4,_⟩:=ER hg (u:=u) (v:=v) (by omega) (by omega) (by omega)
      simp only[hc,decide_true,cond_true,EO,k1,bs,wq u]
      exact⟨_,rfl,⟨u+1,rfl,by omega,rfl,hk',k3,by dsimp only;omega⟩,by dsimp only;omega⟩
     ·simp only[hc,decide_false,cond_false,wq u]
      exact⟨_,rfl,⟨u+1,rfl,by omega,rfl,hk',hg,hl⟩,by dsimp only;omega⟩
    ·obtain rfl:u=v:=by omega
     simp only[A3,cond_false]
     exact⟨_,rfl,rfl,hk,hg,hl⟩
   ·rintro⟨b2,i3,z3,g⟩ ⟨rfl,hk',hg',hl'⟩
    dsimp only at hk' hg' hl' ⊢
    simp only[wq v]
    exact⟨_,rfl,⟨v+1,rfl,by omega,by omega,rfl,hk',hg',hl'⟩,by dsimp only;omega⟩
  ·obtain rfl:v=n:=by omega
   simp only[A3,cond_false]
   exact⟨_,rfl,rfl,hk,hg,hl⟩
 ·rintro⟨g,b2,i3,z3⟩ ⟨rfl,hk,hg,hl⟩
  exact⟨_,rfl,⟨hg,hl⟩,rfl,hk⟩
theorem Draw_deep {b:LI}{i:Int}(h:DK b i)(z:Int):Dw b (λg=>GOk g∧g.length≤7) (D.D0 b i z):=by
 unfold D.D0
 refine(BT h z 6 (by omega)).then λq i0 z0 hq hk=> ?_
 dsimp only
 by_cases h0:q=0
 ·have e0:(q==0)=true:=by simp[h0]
  simp only[e0,cond_true]
  refine(BT hk z0 4 (by omega)).then λr i1 z1 hr hk=> ?_
  dsimp only
  have e:IntKind.i64.wrap (3+r)=((3+r.toNat:Nat):Int):=by rw[w64 (by omega) (by omega)];omega
  rw[e]
  refine B5 _ (Loop_deep (3+r.toNat) (by omega) (by omega)) ?_
  rintro⟨g,t⟩ ⟨hg,hl⟩
  exact⟨_,rfl,⟨hg,by dsimp only at hl ⊢;omega⟩,rfl,hk⟩
 ·have e0:(q==0)=false:=by simp[h0]
  simp only[e0,cond_false]
  by_cases h1:q=1
  ·have e1:(q==1)=true:=by simp[h1]
   simp only[e1,cond_true]
   refine(BT hk z0 6 (by omega)).then λr i1 z1 hr hk=> ?_
   dsimp only
   have e:IntKind.i64.wrap (1+r)=((1+r.toNat:Nat):Int):=by rw[w64 (by omega) (by omega)];omega
   rw[e]
   refine B5 _ (Path_deep (1+r.toNat) (by omega) (by omega)) ?_
   rintro⟨g,t⟩ ⟨hg,hl,_⟩
   exact⟨_,rfl,⟨hg,by dsimp only at hl ⊢;omega⟩,rfl,hk⟩
  ·have e1:(q==1)=false:=by simp[h1]
   simp only[e1,cond_false]
   refine(BT hk z0 7 (by omega)).then λr i1 z1 hr hk=> ?_
   dsimp only
   have e:IntKind.i64.wrap (1+r)=((1+r.toNat:Nat):Int):=by rw[w64 (by omega) (by omega)];omega
   rw[e]
   refine(DrawOf_deep hk z1 (1+r.toNat) (by omega) (by omega)).then λg i2 z2 hg hk=> ?_
   exact⟨_,rfl,⟨hg.1,by have:=hg.2;dsimp only;omega⟩,rfl,hk⟩
def Few (g:LL):Prop:=g.length≤17∧∀r∈g,r.length≤17
theorem Few.sh2 {g:LL}(h:Few g):Sh2 g:=⟨by have:=h.1;unfold Sh;omega,λr hr=>by have:=h.2 r hr;unfold Sh;omega⟩
theorem GOk.few {g:LL}(hg:GOk g):Few g:=by
 have h16:=hg.n16
 exact⟨by omega,λr hr=>by have:=(hg.mem0 hr).1;omega⟩
theorem Few.set {g:LL}(h:Few g)(k:Nat){r:LI}(hr:r.length≤17):Few (g.set k r):=by
 refine⟨by have:=h.1;simpa using this,λx hx=> ?_⟩
 rcases List.mem_or_eq_of_mem_set hx with hx|rfl
 ·exact h.2 x hx
 ·exact hr
theorem DrawAny_dw {b:LI}{i:Int}(h:DK b i)(z:Int):Dw b Few (D.y0 b i z):=by
 unfold D.y0
 refine(Draw_deep h z).then λg i0 z0 hg hk=> ?_
 have hn1:=hg.1.n1
 have hf:=hg.1.few
 refine(De hk z0 12).then λt i1 z1 _ hk=> ?_
 dsimp only
 cases t
 ·exact⟨_,rfl,hf,rfl,hk⟩
 ·simp only[cond_true]
  refine(BT hk z1 g.length (by omega)).then λv i2 z2 hv hk=> ?_
  refine(BT hk z2 5 (by omega)).then λq i3 z3 hq hk=> ?_
  dsimp only
  have hrow:=Fb (xs:=g) hv.1 hv.2
  have hmem:g[v.toNat]'(by omega)∈g:=List.getElem_mem _
  have hrl:=(hg.1.mem0 hmem).1
  rcases(show q=0∨q=1∨q=2∨q=3∨q=4 by omega) with rfl|rfl|rfl|rfl|rfl
  ·simp only[hrow,bs,show ((0:Int)==0)=true from rfl,cond_true]
   refine B5 (λy=>Few y.1∧y.2.1=b∧DK b y.2.2.1) ?_ (λy hy=>⟨_,rfl,hy⟩)
   refine(num_dw hk z3 16).then λw i4 z4 _ hk=> ?_
   dsimp only
   rw[AQ (by simp;omega),bs]
   exact⟨_,rfl,hf.set _ (by simp;omega),rfl,hk⟩
  ·simp only[hrow,bs,show ((1:Int)==0)=false from rfl,show ((1:Int)==1)=true from rfl,cond_true,cond_false]
   exact⟨_,rfl,hf.set _ (by simp),rfl,hk⟩
  ·simp only[show ((2:Int)==0)=false from rfl,show ((2:Int)==1)=false from rfl,show ((2:Int)==2)=true from rfl,cond_true,cond_false]
   refine(BT hk z3 2 (by omega)).then λw i4 z4 hw hk=> ?_
   dsimp only
   have e:IntKind.i64.wrap (16+w)=((16+w.toNat:Nat):Int):=by rw[w64 (by omega) (by omega)];omega
   rw[e,EG _ (by omega),bs]
   exact⟨_,rfl,⟨by simp;omega,λr hr=>by have:=List.eq_of_mem_replicate hr;subst this;simp⟩,rfl,hk⟩
  ·simp only[show ((3:Int)==0)=false from rfl,show ((3:Int)==1)=false from rfl,show ((3:Int)==2)=false from rfl,show ((3:Int)==3)=true from rfl,cond_true,cond_false]
   exact⟨_,rfl,⟨by simp,by simp⟩,rfl,hk⟩
  ·simp only[hrow,bs,show ((4:Int)==0)=false from rfl,show ((4:Int)==1)=false from rfl,show ((4:Int)==2)=false from rfl,show ((4:Int)==3)=false from rfl,show ((4:Int)==4)=true from rfl,cond_true,cond_false]
   exact⟨_,rfl,hf.set _ (by simp),rfl,hk⟩
theorem DrawSet_dw {b:LI}{i:Int}(h:DK b i)(z:Int){g:LL}(hg:Few g):Dw b (λo:LI=>o.length≤18) (D.Z0 b i z g):=by
 have hgl:=hg.1
 unfold D.Z0
 refine AB (λs=>∃v:Nat,s.2.1=(v:Int)∧v≤g.length∧s.1.length≤v∧s.2.2.1=b∧DK b s.2.2.2.1) (λs=>g.length-s.2.1.toNat) (λr=>r.1.length≤17∧r.2.1=b∧DK b r.2.2.1) ?_ ⟨0,rfl,by omega,by simp,rfl,h⟩ ?_
 ·rintro⟨l,_,b2,i,z⟩ ⟨v,rfl,hv,hl,rfl,hk⟩
  dsimp only at hl hk ⊢
  by_cases h0:v<g.length
  ·simp only[dlt h0,cond_true]
   refine(De hk z 2).then λt i2 z2 _ hk=> ?_
   dsimp only
   rw[wq v]
   cases t
   ·exact⟨_,rfl,⟨v+1,rfl,by omega,by dsimp only;omega,rfl,hk⟩,by dsimp only;omega⟩
   ·rw[cond_true,AQ (by simp;omega),bs]
    exact⟨_,rfl,⟨v+1,rfl,by omega,by simp;omega,rfl,hk⟩,by dsimp only;omega⟩
  ·obtain rfl:v=g.length:=by omega
   simp only[A3,cond_false]
   exact⟨_,rfl,by dsimp only;omega,rfl,hk⟩
 ·rintro⟨o,b2,i2,z2⟩ ⟨ho,rfl,hk⟩
  dsimp only at ho hk ⊢
  refine(De hk z2 15).then λt i3 z3 _ hk=> ?_
  dsimp only
  cases t
  ·exact⟨_,rfl,by dsimp only;omega,rfl,hk⟩
  ·simp only[cond_true]
   refine(num_dw hk z3 _).then λw i5 z5 _ hk=> ?_
   dsimp only
   rw[AQ (by simp;omega),bs]
   exact⟨_,rfl,by simp;omega,rfl,hk⟩
theorem elems_mk {n:Nat}{x:LI}(hn:n≤16)(hi:Inc x)(hr:∀z∈x,0≤z∧z<n):Am (mk x)=x:=by
 have h32:∀z∈x,0≤z∧z<32:=λz hz=>by have:=hr z hz;omega
 refine Inc.ext (Bu _) hi (λz=> ?_)
 rw[mem_elems]
 constructor
 ·rintro⟨v,_,h,rfl⟩
  rw[En h32] at h
  exact of_decide_eq_true h
 ·intro hz
  have:=h32 z hz
  refine⟨z.toNat,by omega,?_,by omega⟩
  rw[En h32,show ((z.toNat:Nat):Int)=z by omega]
  exact decide_eq_true hz
def Cq (g:LL)(x:LI):Prop:=∀u w:Nat,(u:Int)∈x→(w:Int)∈x→u≠w→adj g u w
structure Fin' (g:LL)(x:LI):Prop where
 inc:Inc x
 rng:∀z∈x,0≤z∧z<g.length
 cq:Cq g x
 mx:∀w,w<g.length→∃u:Nat,(u:Int)∈x∧¬adj g u w
def Sol (g:LL)(set left x:LI):Prop:=∃y,x=set++y∧(∀z∈y,z∈left)∧Fin' g x
structure SK (g:LL)(set left out:LI):Prop where
 inc:Inc (set++left)
 r1:∀z∈set++left,0≤z∧z<g.length
 r2:∀z∈out,0≤z∧z<g.length
 cq:Cq g set
 cn:∀w:Nat,w<g.length→(((w:Int)∈left∨(w:Int)∈out)↔∀u:Nat,(u:Int)∈set→adj g u w)
 len:out.length+left.length≤16
theorem inc_len {n:Nat}{x:LI}(hi:Inc x)(hr:∀z∈x,0≤z∧z<n):x.length≤n:=by
 have:=Bi (m:=(List.range n).map Int.ofNat) hi.nodup (λz hz=>by
  have:=hr z hz
  exact List.mem_map.2 ⟨z.toNat,List.mem_range.2 (by omega),by show ((z.toNat:Nat):Int)=z;omega⟩)
 simpa using this
theorem SK.next {g:LL}(hg:GOk g){set left out:LI}(h:SK g set left out){i v:Nat}(hi:i<left.length)(hv:left[i]=(v:Int)):
  SK g (set++[(v:Int)]) ((left.drop (i+1)).filter λx=>decide (x∈row g v)) ((out++left.take i).filter λx=>decide (x∈row g v))∧
  (∀x,Sol g (set++[(v:Int)]) ((left.drop (i+1)).filter λx=>decide (x∈row g v)) x↔∃y,x=set++(v:Int)::y∧(∀z∈y,z∈left)∧Fin' g x):=by
 have hvm:(v:Int)∈left:=by rw[←hv];exact List.getElem_mem hi
 have hvr:=h.r1 _ (List.mem_append.2 (.inr hvm))
 have hvn:v<g.length:=by omega
 have hinc:=List.pairwise_append.1 h.inc
 have hsplit:left=left.take i++(v:Int)::left.drop (i+1):=by
  rw[←hv,List.getElem_cons_drop,List.take_append_drop]
 have hdrop:∀z,z∈left.drop (i+1)↔z∈left∧(v:Int)<z:=λz=>by
  have h2:=hinc.2.1
  rw[hsplit] at h2
  have h3:=List.pairwise_append.1 h2
  have h4:=List.pairwise_cons.1 h3.2.1
  constructor
  ·intro hz
   exact⟨List.mem_of_mem_drop hz,h4.1 z hz⟩
  ·rintro⟨h5,h6⟩
   rw[hsplit] at h5
   rcases List.mem_append.1 h5 with h5|h5
   ·have:=h3.2.2 z h5 (v:Int) (by simp);omega
   ·rcases List.mem_cons.1 h5 with rfl|h5
    ·omega
    ·exact h5
 refine⟨⟨?_,?_,?_,?_,?_,?_⟩,λx=> ?_⟩
 ·rw[List.append_assoc]
  refine List.pairwise_append.2 ⟨hinc.1,?_,λa ha b hb=> ?_⟩
  ·rw[List.singleton_append]
   refine List.pairwise_cons.2 ⟨λz hz=>((hdrop z).1 (List.mem_filter.1 hz).1).2,?_⟩
   exact List.Pairwise.filter _ (List.Pairwise.sublist (List.drop_sublist _ _) hinc.2.1)
  ·refine hinc.2.2 a ha b ?_
   rw[List.singleton_append] at hb
   rcases List.mem_cons.1 hb with rfl|hb
   ·exact hvm
   ·exact((hdrop b).1 (List.mem_filter.1 hb).1).1
 ·intro z hz
  rcases List.mem_append.1 hz with hz|hz
  ·rcases List.mem_append.1 hz with hz|hz
   ·exact h.r1 z (List.mem_append.2 (.inl hz))
   ·simp at hz;subst hz;exact hvr
  ·exact h.r1 z (List.mem_append.2 (.inr ((hdrop z).1 (List.mem_filter.1 hz).1).1))
 ·intro z hz
  rcases List.mem_append.1 (List.mem_filter.1 hz).1 with hz|hz
  ·exact h.r2 z hz
  ·exact h.r1 z (List.mem_append.2 (.inr (List.mem_of_mem_take hz)))
 ·intro u w hu hw hne
  have key:∀a:Nat,(a:Int)∈set→adj g a v:=λa ha=>(h.cn v hvn).1 (.inl hvm) a ha
  rcases List.mem_append.1 hu with hu1|hu1<;>rcases List.mem_append.1 hw with hw1|hw1
  ·exact h.cq u w hu1 hw1 hne
  ·have e:w=v:=by simp at hw1;omega
   rw[e];exact key u hu1
  ·have e:u=v:=by simp at hu1;omega
   rw[e]
   have:=h.r1 _ (List.mem_append.2 (.inl hw1))
   exact hg.sym w v (by omega) (key w hw1)
  ·simp at hu1 hw1;omega
 ·intro w hw
  have h1:=h.cn w hw
  have hself:(w:Int)∈row g v→w≠v:=λha e=>by subst e;exact hg.irr w hw ha
  constructor
  ·intro hm u hu
   have hm':((w:Int)∈left∨(w:Int)∈out)∧(w:Int)∈row g v:=by
    rcases hm with hm|hm
    ·obtain⟨a1,a2⟩:=List.mem_filter.1 hm
     exact⟨.inl ((hdrop _).1 a1).1,of_decide_eq_true a2⟩
    ·obtain⟨a1,a2⟩:=List.mem_filter.1 hm
     refine⟨?_,of_decide_eq_true a2⟩
     rcases List.mem_append.1 a1 with a1|a1
     ·exact .inr a1
     ·exact .inl (List.mem_of_mem_take a1)
   rcases List.mem_append.1 hu with hu|hu
   ·exact h1.1 hm'.1 u hu
   ·have:u=v:=by simp at hu;omega
    subst this;exact hm'.2
  ·intro hA
   have hav:(w:Int)∈row g v:=hA v (by simp)
   have hne:=hself hav
   rcases h1.2 (λu hu=>hA u (List.mem_append.2 (.inl hu))) with hm|hm
   ·rw[hsplit] at hm
    rcases List.mem_append.1 hm with hm|hm
    ·exact .inr (List.mem_filter.2 ⟨List.mem_append.2 (.inr hm),decide_eq_true hav⟩)
    ·rcases List.mem_cons.1 hm with hm|hm
     ·omega
     ·exact .inl (List.mem_filter.2 ⟨hm,decide_eq_true hav⟩)
   ·exact .inr (List.mem_filter.2 ⟨List.mem_append.2 (.inl hm),decide_eq_true hav⟩)
 ·have a1:((left.drop (i+1)).filter λx=>decide (x∈row g v)).length≤(left.drop (i+1)).length:=List.length_filter_le _ _
  have a2:((out++left.take i).filter λx=>decide (x∈row g v)).length≤(out++left.take i).length:=List.length_filter_le _ _
  have:=h.len
  simp only[List.length_drop,List.length_append,List.length_take] at a1 a2
  omega
 ·constructor
  ·rintro⟨y,rfl,hy,hf⟩
   exact⟨y,by simp,λz hz=>((hdrop z).1 (List.mem_filter.1 (hy z hz)).1).1,hf⟩
  ·rintro⟨y,rfl,hy,hf⟩
   refine⟨y,by simp,λz hz=> ?_,hf⟩
   have hz2:=hf.rng z (by simp[hz])
   have h6:=(List.pairwise_cons.1 (List.pairwise_append.1 hf.inc).2.1).1 z hz
   refine List.mem_filter.2 ⟨(hdrop z).2 ⟨hy z hz,h6⟩,decide_eq_true ?_⟩
   have:=hf.cq v z.toNat (by simp) (by rw[show ((z.toNat:Nat):Int)=z by omega];simp[hz]) (by omega)
   unfold adj at this
   rwa [show ((z.toNat:Nat):Int)=z by omega] at this
structure GC (g:LL)(l:LI):Prop where
 up:l.Pairwise λa b=>lkey a<lkey b
 mem:∀K,K∈l↔In g.length K∧MX (g.map mk) g.length K
def mis (F:LI)(n:Nat)(S:Int):Nat:=S2 n (λu w=>has S u&&(has S w&&(decide (w<u)&& !nb F w u)))
def cd (F:LI)(s v:Int):Int:=((Am (iand .u32 (F.getD v.toNat 0) s)).length:Int)
def cf (n:Nat)(F:LI)(s v:Int):Int:=(mis F n (iand .u32 (F.getD v.toNat 0) s):Int)
section
variable {g : LL} (hg : GOk g)
include hg
theorem OOk.shl {o:LI}(ho:OOk g o):Sh o:=ho.sh hg
end
end Go.Sx

namespace Go.Sx
def S16 (s:Int):Prop:=0≤s∧s<65536
theorem S16.vs {s:Int}(h:S16 s):VS s:=⟨h.1,by have:=h.2;omega⟩
theorem S16.nat {s:Int}(h:S16 s):∃n:Nat,s=n∧n<65536:=⟨s.toNat,by have:=h.1;omega,by have:=h.1;have:=h.2;omega⟩
theorem S16.lt {s:Int}(h:S16 s){v:Nat}(hv:has s v=true):v<16:=by
 obtain⟨n,rfl,hn⟩:=h.nat
 rw[BU] at hv
 have:=Nat.ge_two_pow_of_testBit hv
 apply Classical.byContradiction
 intro hc
 have h2:2^16≤2^v:=Nat.pow_le_pow_right (by omega) (by omega)
 omega
theorem In.of {n i:Nat}(h:i<2^n)(hn:n≤16):In n (i:Int):=by
 have:2^n≤2^16:=Nat.pow_le_pow_right (by omega) hn
 refine⟨⟨by omega,by omega⟩,λw hw=> ?_⟩
 rw[BU] at hw
 have:=Nat.ge_two_pow_of_testBit hw
 apply Classical.byContradiction
 intro hc
 have h2:2^n≤2^w:=Nat.pow_le_pow_right (by omega) (by omega)
 omega
theorem DD (g:LL)(s:LI)(h:Sh2 g)(hs:Sh s):D.O g s=some (gB g&&CD s g.length):=by
 unfold D.O
 rw[Ca g h,bs]
 cases gB g
 ·rfl
 ·have:=h.1
  unfold Sh at this
  rw[cond_true,DE s _ hs (by omega) (by omega)];rfl
theorem spec_SetOk_eq (g:LL)(s:LI)(h:Sh2 g)(hs:Sh s):D.W0 g s=some (gB g&&CD s g.length):=by
 unfold D.W0 D.b
 rw[Cb g h,bs]
 cases gB g
 ·rfl
 ·have:=h.1
  unfold Sh at this
  rw[cond_true,bs,l1Set_eq s _ hs (by omega) (by omega)];rfl
theorem Ey {n:Nat}{K:Int}(h:In n K):CD (Am K) n=true:=by
 rw[C7]
 refine⟨Bu _,λz hz=> ?_⟩
 obtain⟨v,_,h2,rfl⟩:=mem_elems.1 hz
 have:=h.2 v h2
 omega
def ch (cs:LI)(i v:Nat):Bool:=has (cs.getD i 0) v
def Opn (cs:LI)(p:Int)(v:Nat):Prop:=(∃i,i<cs.length∧has p i=true∧ch cs i v=true)∧∃i,i<cs.length∧has p i=false∧ch cs i v=true
def Ft (cs:LI)(p:Int)(k:Nat):Prop:=k<cs.length∧has p k=false∧∀v,Opn cs p v→ch cs k v=true
inductive Ends (cs:LI):Int→Prop
 |all {p:Int}:(∀i,i<cs.length→has p i=true)→Ends cs p
 |go {p:Int} {k:Nat}:Ft cs p k→Ends cs (ior .u32 p (ishl .u32 1 (k:Int)))→Ends cs p
def Goes (cs:LI):Int→LI→Prop
 |p,[]=>∀i,i<cs.length→has p i=true
 |p,x::l=>∃k:Nat,x=(k:Int)∧Ft cs p k∧Goes cs (ior .u32 p (ishl .u32 1 (k:Int))) l
section
variable {cs : LI} (hvs : ∀ s ∈ cs, VS s) (hm : cs.length ≤ 16)
include hvs hm
theorem Ft.in {p:Int}{k:Nat}(hp:In cs.length p)(h:Ft cs p k):In cs.length (ior .u32 p (ishl .u32 1 (k:Int)))∧∀v,has (ior .u32 p (ishl .u32 1 (k:Int))) v=(has p v||decide (v=k)):=by
 have hk:=h.1
 have he:∀v,has (ior .u32 p (ishl .u32 1 (k:Int))) v=(has p v||decide (v=k)):=λv=>by
  rw[BV hp.1 (VS.ishl _ _),Bv (by omega)]
 refine⟨⟨VS.ior _ _,λv hv=> ?_⟩,he⟩
 rw[he,Bool.or_eq_true,decide_eq_true_eq] at hv
 rcases hv with hv|rfl
 ·exact hp.2 v hv
 ·exact hk
end
end Go.Sx

namespace Go.Sx
theorem Goes.mid {cs:LI}{v:Nat}:∀{l1:LI} {p:Int} {x:Nat} {l2:LI},cs.length≤16→In cs.length p→Goes cs p (l1++(x:Int)::l2)→((∃i,i<cs.length∧has p i=true∧ch cs i v=true)∨∃y:Nat,(y:Int)∈l1∧ch cs y v=true)→(∃z:Nat,(z:Int)∈l2∧ch cs z v=true)→ch cs x v=true
 |[],p,x,l2,hm,hp,⟨k,e,hF,hG⟩,h1,⟨z,hz,hzv⟩=>by
  obtain rfl:k=x:=by omega
  refine hF.2.2 v ⟨h1.elim id (fun⟨y,hy,_⟩=>by simp at hy),?_⟩
  have:∀(l:LI) (q:Int),In cs.length q→Goes cs q l→(z:Int)∈l→z<cs.length∧has q z=false:=by
   intro l
   induction l with
   |nil=>intro q _ _ h;simp at h
   |cons y l ih=>
    rintro q hq ⟨k',e',hF',hG'⟩ hzl
    rcases List.mem_cons.1 hzl with h|h
    ·obtain rfl:k'=z:=by omega
     exact⟨hF'.1,hF'.2.1⟩
    ·have hk':=hF'.1
     have he:∀w,has (ior .u32 q (ishl .u32 1 (k':Int))) w=(has q w||decide (w=k')):=λw=>by rw[BV hq.1 (VS.ishl _ _),Bv (by omega)]
     have hin:In cs.length (ior .u32 q (ishl .u32 1 (k':Int))):=⟨VS.ior _ _,λw hw=>by
      rw[he,Bool.or_eq_true,decide_eq_true_eq] at hw
      rcases hw with hw|rfl
      ·exact hq.2 w hw
      ·exact hk'⟩
     obtain⟨a,b⟩:=ih _ hin hG' h
     rw[he,Bool.or_eq_false_iff] at b
     exact⟨a,b.1⟩
  obtain⟨h3,h4⟩:=this ((k:Int)::l2) p hp ⟨k,rfl,hF,hG⟩ (List.mem_cons_of_mem _ hz)
  exact⟨z,h3,h4,hzv⟩
 |y::l1,p,x,l2,hm,hp,⟨k,e,hF,hG⟩,h1,h2=>by
  subst e
  have hk:=hF.1
  have he:∀w,has (ior .u32 p (ishl .u32 1 (k:Int))) w=(has p w||decide (w=k)):=λw=>by rw[BV hp.1 (VS.ishl _ _),Bv (by omega)]
  refine Goes.mid (l1:=l1) hm ⟨VS.ior _ _,λw hw=> ?_⟩ hG ?_ h2
  ·rw[he,Bool.or_eq_true,decide_eq_true_eq] at hw
   rcases hw with hw|rfl
   ·exact hp.2 w hw
   ·exact hk
  ·rcases h1 with⟨i,h3,h4,h5⟩|⟨i,h3,h5⟩
   ·exact .inl ⟨i,h3,by rw[he,h4];rfl,h5⟩
   ·rcases List.mem_cons.1 h3 with h|h
    ·obtain rfl:i=k:=by omega
     exact .inl ⟨i,hk,by rw[he];simp,h5⟩
    ·exact .inr ⟨i,h,h5⟩
section
variable {g : LL} (hg : GOk g)
include hg
end
end Go.Sx

namespace Go.Sx
structure Iv (g:LL)(L R:Nat→Int):Prop where
 le:∀v,v<g.length→L v≤R v
 ad:∀u v,u<g.length→v<g.length→(adj g u v↔u≠v∧L u≤R v∧L v≤R u)
section
variable {g : LL} (hg : GOk g)
include hg
variable {L R : Nat → Int} (hI : Iv g L R)
include hI
end
end Go.Sx

namespace Go.Sx
theorem nat_or_add {n k:Nat}(hn:n<65536)(hk:k<16)(h:n.testBit k=false):n+2^k=n|||2^k:=by
 have hp:2^k<65536:=Nat.lt_of_lt_of_le (Nat.pow_lt_pow_right (by omega) hk) (by omega)
 have h0:BitVec.ofNat 32 n&&&BitVec.ofNat 32 (2^k)=0#32:=by
  apply BitVec.eq_of_toNat_eq
  simp only[BitVec.toNat_and,BitVec.toNat_ofNat]
  rw[Nat.mod_eq_of_lt (by omega),Nat.mod_eq_of_lt (by omega)]
  apply Nat.eq_of_testBit_eq
  intro i
  rw[Nat.testBit_and,Nat.testBit_two_pow]
  by_cases hi:k=i
  ·subst hi;simp[h]
  ·simp[hi]
 have e:=congrArg BitVec.toNat (BitVec.add_eq_or_of_and_eq_zero _ _ h0)
 simp only[BitVec.toNat_add,BitVec.toNat_or,BitVec.toNat_ofNat] at e
 rw[Nat.mod_eq_of_lt (show n<2^32 by omega),Nat.mod_eq_of_lt (show 2^k<2^32 by omega),Nat.mod_eq_of_lt (by omega)] at e
 exact e
structure Un (cs:LI)(m:Nat)(U:LI):Prop where
 len:U.length=2^m
 vs:∀b,b<2^m→VS (U.getD b 0)
 hs:∀b,b<2^m→∀v,has (U.getD b 0) v=true↔∃i,i<m∧b.testBit i=true∧ch cs i v=true
theorem pow16 {m:Nat}(hm:m≤16):2^m≤65536:=Nat.le_trans (Nat.pow_le_pow_right (by omega) hm) (by omega)
section
variable {cs U : LI} (hs : ∀ s ∈ cs, VS s) (hm : cs.length ≤ 16) (hU : Un cs cs.length U)
include hs hm hU
end
end Go.Sx

namespace Go.Sx
inductive Goes2 (A:Nat→Nat→Prop)(n:Nat)(L:Nat→Prop):Nat→Nat→Prop
 |fin {v:Nat}:L v→Goes2 A n L (2^n-1) v
 |step {s v u:Nat}:s.testBit v=true→A v u→s.testBit u=false→u<n→Goes2 A n L (s|||2^u) u→Goes2 A n L s v
theorem or_lt {n s u:Nat}(hs:s<2^n)(hu:u<n):s|||2^u<2^n:=Nat.or_lt_two_pow hs (Nat.pow_lt_pow_right (by omega) hu)
theorem or_gt {n s u:Nat}(hn:n≤16)(hs:s<2^n)(hu:u<n)(h:s.testBit u=false):s<s|||2^u:=by
 have:=pow16 hn
 rw[←nat_or_add (by omega) (by omega) h]
 have:=Nat.two_pow_pos u
 omega
section
variable {F : LI} {n : Nat} (hF : FOk F n) (h1 : 1 ≤ n) (h16 : n ≤ 16) {L : Int} (hL : VS L)
abbrev GoF (F:LI)(n:Nat)(L:Int)(s v:Nat):Prop:=Goes2 (λa b=>nb F a b=true) n (λv=>has L v=true) s v
include hF h1 h16 hL
end
end Go.Sx

namespace Go.Sx
noncomputable def ef (g:LL)(o:LI):Nat→LI×LI×Int
 |0=>(g.map mk,List.replicate g.length 0,full g.length)
 |i+1=>(elimF (ef g o i).1 (ef g o i).2.2 (o.getD i 0),(ef g o i).2.1.set (o.getD i 0).toNat (iand .u32 ((ef g o i).1.getD (o.getD i 0).toNat 0) (iandNot .u32 (ef g o i).2.2 (ishl .u32 1 (o.getD i 0)))),
   iandNot .u32 (ef g o i).2.2 (ishl .u32 1 (o.getD i 0)))
section
variable {g : LL} {o : LI} (hg : GOk g) (ho : OOk g o)
include hg ho
end
end Go.Sx

namespace Go.Sx
structure Net (A:LI)(n:Nat):Prop where
 len:A.length=n
 vs:∀u,u<n→VS (A.getD u 0)
 lt:∀u w,u<n→nb A u w=true→w<n
theorem FOk.net {A:LI}{n:Nat}(h:FOk A n):Net A n:=⟨h.len,h.vs,h.lt⟩
structure Rch (A:LI)(W:Int)(v:Nat)(S:Int):Prop where
 vs:VS S
 me:has S v=true
 step:∀x y,has S x=true→nb A x y=true→has W y=true→has S y=true
 least:∀T:Nat→Prop,T v→(∀x y,T x→nb A x y=true→has W y=true→T y)→∀x,has S x=true→T x
theorem reach_ok {A:LI}{n:Nat}(hn:n≤16)(hA:Net A n){v:Nat}(hv:v<n){W:Int}(hW:VS W):∃S,D.J A (v:Int) W=some S∧Rch A W v S∧∀x,has S x=true→x<n:=by
 unfold D.J
 rw[CA,bs]
 refine AB (λS=>VS S∧has S v=true∧(∀x,has S x=true→x<n)∧∀T:Nat→Prop,T v→(∀x y,T x→nb A x y=true→has W y=true→T y)→∀x,has S x=true→T x) (λS=>n-(Am S).length)
  (λS=>Rch A W v S∧∀x,has S x=true→x<n) ?_ ?_ (λr hr=>⟨r,rfl,hr⟩)
 ·rintro S ⟨hS,hv',hlt,hT⟩
  have hle:=BO S
  simp only[Eo S hS,bs]
  have hin:=AB (step:=(fun(s_223:Int×Int)=>match s_223 with|(x_226,x_227)=>cond (decide (x_227<((Am S).length:Int))) ((idx (Am S) x_227).bind λe_246=>(idx A e_246).bind λe_252=>some (.inl ((ior .u32 x_226 (iand .u32 e_252 W)),(IntKind.i64.wrap (x_227+1))))) (some (.inr x_226)))) (s:=(S,0)) (k:=λr=>some r) (Q:=λX:Int=>VS X∧∀y,has X y=true↔has S y=true∨∃u:Nat,has S u=true∧nb A u y=true∧has W y=true)
   (λs=>∃k:Nat,s.2=(k:Int)∧k≤(Am S).length∧VS s.1∧∀y,has s.1 y=true↔has S y=true∨∃u:Nat,(u:Int)∈(Am S).take k∧nb A u y=true∧has W y=true) (λs=>(Am S).length-s.2.toNat) (λX=>VS X∧∀y,has X y=true↔has S y=true∨∃u:Nat,has S u=true∧nb A u y=true∧has W y=true)
   ?_ ⟨0,rfl,by omega,hS,λy=>by simp⟩ (λr hr=>⟨r,rfl,hr⟩)
  ·obtain⟨X,hX,hX1,hX2⟩:=hin
   rw[Option.bind_eq_some_iff] at hX
   obtain⟨z,e1,e2⟩:=hX
   cases e2
   rw[e1,bs]
   by_cases hc:X=S
   ·subst hc
    simp only[beq_self_eq_true,cond_true]
    refine⟨_,rfl,⟨hS,hv',λx y h1 h2 h3=>(hX2 y).2 (.inr ⟨x,h1,h2,h3⟩),hT⟩,hlt⟩
   ·have e3:(X==S)=false:=by simpa using hc
    simp only[e3,cond_false]
    have hXlt:∀x,has X x=true→x<n:=λx hx=>by
     rcases(hX2 x).1 hx with h|⟨u,h1,h2,_⟩
     ·exact hlt x h
     ·exact hA.lt u x (hlt u h1) h2
    refine⟨_,rfl,⟨hX1,(hX2 v).2 (.inl hv'),hXlt,λT h1 h2 x hx=> ?_⟩,?_⟩
    ·rcases(hX2 x).1 hx with h|⟨u,h3,h4,h5⟩
     ·exact hT T h1 h2 x h
     ·exact h2 u x (hT T h1 h2 u h3) h4 h5
    ·
     obtain⟨w,hw,hws⟩:∃w:Nat,has X w=true∧has S w=false:=by
      apply Classical.byContradiction
      intro hno
      refine hc (hX1.ext hS (λw _=> ?_))
      rw[Bool.eq_iff_iff]
      refine⟨λh=> ?_,λh=>(hX2 w).2 (.inl h)⟩
      cases hh:has S w
      ·exact absurd ⟨w,h,hh⟩ hno
      ·rfl
     have h1:((w:Int)::Am S).length≤(Am X).length:=Bi (List.nodup_cons.2 ⟨λhm=>by rw[AN hS,hws] at hm;exact Bool.noConfusion hm,(Bu S).nodup⟩) (λx hx=>by
      rcases List.mem_cons.1 hx with rfl|hx
      ·rw[AN hX1];exact hw
      ·obtain⟨u,_,h2,rfl⟩:=mem_elems.1 hx
       rw[AN hX1];exact(hX2 u).2 (.inl h2))
     have h2:(Am X).length≤n:=(Bu X).short (n:=n) (λx hx=>by
      obtain⟨u,_,h2,rfl⟩:=mem_elems.1 hx
      have:=hXlt u h2;omega)
     simp at h1
     show n-(Am X).length<n-(Am S).length
     omega
  ·rintro⟨X,_⟩ ⟨k,rfl,hk,hX1,hX2⟩
   dsimp only at hX1 hX2 ⊢
   by_cases hkl:k<(Am S).length
   ·obtain⟨u,_,h2,h3⟩:=mem_elems.1 (List.getElem_mem hkl)
    have hu:=hlt u h2
    have hAu:idx A (u:Int)=some (A.getD u 0):=by rw[Ax (by rw[hA.len];exact hu),Ar (by rw[hA.len];exact hu)]
    simp only[dlt hkl,cond_true,Ax hkl,bs,h3,hAu,wq k]
    refine⟨_,rfl,⟨k+1,rfl,hkl,VS.ior _ _,λy=> ?_⟩,by dsimp only;omega⟩
    dsimp only
    rw[BV hX1 (VS.iand _ _),Bool.or_eq_true,Dp (hA.vs u hu) hW,Bool.and_eq_true,hX2,List.take_succ_eq_append_getElem hkl,h3]
    constructor
    ·rintro((h|⟨u',h4,h5⟩)|⟨h4,h5⟩)
     ·exact .inl h
     ·exact .inr ⟨u',List.mem_append_left _ h4,h5⟩
     ·exact .inr ⟨u,List.mem_append_right _ (by simp),h4,h5⟩
    ·rintro(h|⟨u',h4,h5,h6⟩)
     ·exact .inl (.inl h)
     ·rcases List.mem_append.1 h4 with h4|h4
      ·exact .inl (.inr ⟨u',h4,h5,h6⟩)
      ·simp at h4
       obtain rfl:u'=u:=by omega
       exact .inr ⟨h5,h6⟩
   ·obtain rfl:k=(Am S).length:=by omega
    simp only[A3,cond_false]
    refine⟨_,rfl,hX1,λy=> ?_⟩
    rw[hX2,List.take_length]
    constructor
    ·rintro(h|⟨u,h1,h2⟩)
     ·exact .inl h
     ·exact .inr ⟨u,(AN hS).1 h1,h2⟩
    ·rintro(h|⟨u,h1,h2⟩)
     ·exact .inl h
     ·exact .inr ⟨u,(AN hS).2 h1,h2⟩
 ·refine⟨VS.ishl _ _,by rw[Bv (by omega)];simp,λx hx=> ?_,λT h1 _ x hx=> ?_⟩
  ·rw[Bv (by omega)] at hx
   have:=of_decide_eq_true hx;omega
  ·rw[Bv (by omega)] at hx
   rw[of_decide_eq_true hx];exact h1
theorem l1Same_eq (x y:LI)(hx:Sh x):D.q0 x y=some (decide (x=y)):=by
 unfold Sh at hx
 unfold D.q0
 by_cases hl:x.length=y.length
 ·have e:((x.length:Int) !=(y.length:Int))=false:=by simp[hl]
  rw[e,cond_false]
  refine(DB x.length (λi=>x.getD i 0==y.getD i 0) false (λi hi=> ?_) ?_ rfl rfl).trans ?_
  ·have hi':i<y.length:=by omega
   simp only[dlt hi,cond_true,Ax hi,Ax hi',bs,Ar hi,Ar hi',wq i]
   by_cases h:x[i]=y[i]
   ·have:(x[i] !=y[i])=false:=by simp[h]
    rw[this,cond_false,if_pos (by simp[h])]
   ·have:(x[i] !=y[i])=true:=by simp[h]
    rw[this,cond_true,if_neg (by simp[h])]
  ·simp only[A3,cond_false]
  ·congr 1
   rw[Bool.eq_iff_iff,Di,decide_eq_true_eq]
   constructor
   ·intro h
    exact ext_getD hl (λj hj=>by have:=h j hj;simpa using this)
   ·rintro rfl i _;simp
 ·have e:((x.length:Int) !=(y.length:Int))=true:=by simp;omega
  rw[e,cond_true,decide_eq_false (λh=>hl (by rw[h]))]
abbrev Pr :=Int×Int×Int
def DI (n:Nat)(F:LI)(v:Nat)(S:Int):LI:=(List.range n).map λu=>ior .u32 (ior .u32 (F.getD u 0) (if u=v then S else 0)) (if has S u then ishl .u32 1 (v:Int) else 0)
theorem joinF_get {n:Nat}{F:LI}{v u:Nat}{S:Int}(hu:u<n):(DI n F v S).getD u 0=ior .u32 (ior .u32 (F.getD u 0) (if u=v then S else 0)) (if has S u then ishl .u32 1 (v:Int) else 0):=by
 unfold DI
 rw[Ar (by simpa using hu)];simp
theorem vs_ite {c:Prop}[Decidable c]{a b:Int}(ha:VS a)(hb:VS b):VS (if c then a else b):=by split<;>assumption
theorem Dt {n:Nat}{F:LI}{v u:Nat}{S:Int}(hn:n≤16)(hF:FOk F n)(hS:In n S)(hv:v<n)(hu:u<n)(w:Nat):nb (DI n F v S) u w=(nb F u w||(decide (u=v)&&has S w)||(has S u&&decide (w=v))):=by
 unfold nb
 rw[joinF_get hu,BV (VS.ior _ _) (vs_ite (VS.ishl _ _) VS.zero),BV (hF.vs u hu) (vs_ite hS.1 VS.zero)]
 congr 1
 ·congr 1
  by_cases h:u=v
  ·rw[if_pos h,decide_eq_true h];simp
  ·rw[if_neg h,decide_eq_false h,A4];simp
 ·cases hc:has S u
  ·rw[if_neg (by simp),A4];simp
  ·rw[if_pos rfl,Bv (by omega)];simp
theorem joinF_ok {n:Nat}{F:LI}{v:Nat}{S:Int}(hn:n≤16)(hF:FOk F n)(hS:In n S)(hv:v<n)(hSv:has S v=false):FOk (DI n F v S) n:=by
 refine⟨by simp[DI],λu hu=>by rw[joinF_get hu];exact VS.ior _ _,λu w hu h=> ?_,λu hu=> ?_,λu w hu h=> ?_⟩
 ·rw[Dt hn hF hS hv hu] at h
  simp only[Bool.or_eq_true,Bool.and_eq_true,decide_eq_true_eq] at h
  rcases h with(h|h)|h
  ·exact hF.lt u w hu h
  ·exact hS.2 w h.2
  ·omega
 ·rw[Dt hn hF hS hv hu,hF.irr u hu]
  by_cases h:u=v
  ·subst h;simp[hSv]
  ·simp[h]
 ·have hw:w<n:=by
   rw[Dt hn hF hS hv hu] at h
   simp only[Bool.or_eq_true,Bool.and_eq_true,decide_eq_true_eq] at h
   rcases h with(h|h)|h
   ·exact hF.lt u w hu h
   ·exact hS.2 w h.2
   ·omega
  rw[Dt hn hF hS hv hu] at h
  rw[Dt hn hF hS hv hw]
  simp only[Bool.or_eq_true,Bool.and_eq_true,decide_eq_true_eq] at h ⊢
  rcases h with(h|h)|h
  ·exact .inl (.inl (hF.sym u w hu h))
  ·exact .inr ⟨h.2,h.1⟩
  ·exact .inl (.inr ⟨h.2,h.1⟩)
structure PK (n:Nat)(o:LI):Prop where
 len:o.length=n
 rng:∀x∈o,0≤x∧x<n
 nd:o.Nodup
def pl (o:LI)(v:Nat):Nat:=o.idxOf (v:Int)
theorem PK.mem {n:Nat}{o:LI}(h:PK n o){v:Nat}(hv:v<n):(v:Int)∈o:=by
 by_cases hc:(v:Int)∈o
 ·exact hc
 ·have:=Bi (l:=(v:Int)::o) (m:=(List.range n).map Int.ofNat) (List.nodup_cons.2 ⟨hc,h.nd⟩) (λx hx=>by
   have hx':0≤x∧x<n:=by
    rcases List.mem_cons.1 hx with rfl|hx
    ·omega
    ·exact h.rng x hx
   exact List.mem_map.2 ⟨x.toNat,List.mem_range.2 (by omega),by show ((x.toNat:Nat):Int)=x;omega⟩)
  have hl:=h.len
  simp at this;omega
theorem PK.pl_lt {n:Nat}{o:LI}(h:PK n o){v:Nat}(hv:v<n):pl o v<n:=by
 have:=List.idxOf_lt_length_iff.2 (h.mem hv)
 have hl:=h.len
 unfold pl;omega
theorem PK.pl_get {n:Nat}{o:LI}(h:PK n o){v:Nat}(hv:v<n)(hl:pl o v<o.length):o[pl o v]=(v:Int):=by
 unfold pl;exact List.getElem_idxOf _
theorem PK.pl_of {n:Nat}{o:LI}(h:PK n o){i v:Nat}(hi:i<o.length)(e:o[i]=(v:Int)):pl o v=i:=by
 have hv:v<n:=by have:=h.rng _ (List.getElem_mem hi);omega
 have hl:=h.pl_lt hv
 have h2:=h.pl_get hv (by rw[h.len];exact hl)
 have hl':pl o v<o.length:=by rw[h.len];exact hl
 have hnd:=List.pairwise_iff_getElem.1 h.nd
 rcases Nat.lt_trichotomy (pl o v) i with c|c|c
 ·exact absurd (h2.trans e.symm) (hnd _ _ hl' hi c)
 ·exact c
 ·exact absurd (h2.trans e.symm).symm (hnd _ _ hi hl' c)
theorem PK.at {n:Nat}{o:LI}(h:PK n o){i:Nat}(hi:i<o.length):∃v:Nat,o[i]=(v:Int)∧v<n∧pl o v=i:=by
 have:=h.rng _ (List.getElem_mem hi)
 have e:o[i]=((o[i].toNat:Nat):Int):=by omega
 exact⟨o[i].toNat,e,by omega,h.pl_of hi e⟩
structure Ris (n:Nat)(R:Int→Int→Prop)(rk:Int→Nat):Prop where
 up:∀x y,R x y→rk x<rk y
 lt:∀v:Nat,v<n→rk v<n
 tr:∀x y z,R x y→R y z→R x z
structure Ch (n:Nat)(R:Int→Int→Prop)(v:Int)(l:LI):Prop where
 hd:∃t,l=v::t
 pw:l.Pairwise R
 rng:∀x∈l,0≤x∧x<n
 mx:∀t:LI,(v::t).Pairwise R→(∀x∈t,0≤x∧x<n)→t.length+1≤l.length
theorem Ris.nodup {n:Nat}{R:Int→Int→Prop}{rk:Int→Nat}(h:Ris n R rk){l:LI}(hp:l.Pairwise R):l.Nodup:=
 List.Pairwise.imp (fun{x y} hxy e=>by subst e;have:=h.up x x hxy;omega) hp
theorem rng_len {n:Nat}{l:LI}(hd:l.Nodup)(hr:∀x∈l,0≤x∧x<n):l.length≤n:=by
 have:=Bi (m:=(List.range n).map Int.ofNat) hd (λx hx=>by
  have:=hr x hx
  exact List.mem_map.2 ⟨x.toNat,List.mem_range.2 (by omega),by show ((x.toNat:Nat):Int)=x;omega⟩)
 simpa using this
theorem Ch.len {n:Nat}{R:Int→Int→Prop}{rk:Int→Nat}(h:Ris n R rk){v:Int}{l:LI}(hc:Ch n R v l):l.length≤n:=rng_len (h.nodup hc.pw) hc.rng
def Mon (ks ks':List (Option LI)):Prop:=∀(v:Nat) (l:LI),ks[v]? =some (some l)→ks'[v]? =some (some l)
theorem Mon.refl (ks:List (Option LI)):Mon ks ks:=λ_ _ h=>h
structure CL (g:LL)(x:LI):Prop where
 nd:x.Nodup
 rng:∀z∈x,0≤z∧z<g.length
 cq:∀u w:Nat,(u:Int)∈x→(w:Int)∈x→u≠w→adj g u w
def Cn (ad:Nat→Nat→Prop)(S:Nat→Prop)(x y:Nat):Prop:=∀T:Nat→Prop,T x→(∀a b,T a→ad a b→S b→T b)→T y
section
variable {ad : Nat → Nat → Prop} {S S' : Nat → Prop} {x y z : Nat}
theorem Cn.refl :Cn ad S x x:=λ_ h _=>h
theorem Cn.step (h:Cn ad S x y)(ha:ad y z)(hz:S z):Cn ad S x z:=λT h1 h2=>h2 _ _ (h T h1 h2) ha hz
theorem Cn.trans (h:Cn ad S x y)(h':Cn ad S y z):Cn ad S x z:=λT h1 h2=>h' T (h T h1 h2) h2
theorem Cn.mono (hs:∀w,S w→S' w)(h:Cn ad S x y):Cn ad S' x y:=λT h1 h2=>h T h1 (λa b p q r=>h2 a b p q (hs _ r))
theorem Cn.mem (h:Cn ad S x y)(hx:S x):S y:=h S hx (λ_ _ _ _ h=>h)
theorem Cn.sym (hs:∀a b,ad a b→ad b a)(hx:S x)(h:Cn ad S x y):Cn ad S y x:=(h (λw=>S w∧Cn ad S w x) ⟨hx,Cn.refl⟩ (λa b ⟨p1,p2⟩ q r=>⟨r,(Cn.refl.step (hs _ _ q) p1).trans p2⟩)).2
end
def Joint (ad:Nat→Nat→Prop)(S:Nat→Prop):Prop:=∀x y,S x→S y→Cn ad S x y
abbrev Ad (F:LI)(a b:Nat):Prop:=nb F a b=true
abbrev El (s:Int)(x:Nat):Prop:=has s x=true
abbrev Mn (s:Int)(v x:Nat):Prop:=has s x=true∧x≠v
structure Parts (F:LI)(W:Nat→Prop)(l:LI):Prop where
 vs:∀s∈l,VS s
 ne:∀s∈l,∃v,El s v
 sub:∀s∈l,∀x,El s x→W x
 cn:∀s∈l,∀x y,El s x→(El s y↔Cn (Ad F) W x y)
 all:∀x,W x→∃s∈l,El s x
 dis:l.Pairwise λs t=>∀x,¬(El s x∧El t x)
theorem Parts.conn {F:LI}{W:Nat→Prop}{l:LI}(h:Parts F W l):l.length≤1↔Joint (Ad F) W:=by
 constructor
 ·intro hl x y hx hy
  obtain⟨s,hs,h1⟩:=h.all x hx
  obtain⟨t,ht,h2⟩:=h.all y hy
  obtain⟨i,hi,rfl⟩:=List.getElem_of_mem hs
  obtain⟨j,hj,rfl⟩:=List.getElem_of_mem ht
  obtain rfl:i=j:=by omega
  exact(h.cn _ hs x y h1).1 h2
 ·intro hc
  apply Classical.byContradiction
  intro hl
  have h0:0<l.length:=by omega
  have h1:1<l.length:=by omega
  obtain⟨x,hx⟩:=h.ne _ (List.getElem_mem h0)
  obtain⟨y,hy⟩:=h.ne _ (List.getElem_mem h1)
  have hcn:=hc x y (h.sub _ (List.getElem_mem h0) x hx) (h.sub _ (List.getElem_mem h1) y hy)
  have:=(h.cn _ (List.getElem_mem h0) x y hx).2 hcn
  exact(List.pairwise_iff_getElem.1 h.dis) 0 1 h0 h1 (by omega) y ⟨this,hy⟩
section
variable {F : LI} {n : Nat} (hn : n ≤ 16) (hF : FOk F n)
include hn hF
theorem DW {W:Int}{v:Nat}{S:Int}(hR:Rch F W v S)(x:Nat):El S x↔Cn (Ad F) (El W) v x:=
 ⟨λh=>hR.least (λx=>Cn (Ad F) (El W) v x) Cn.refl (λ_ _ p q r=>p.step q r) x h,λh=>h (El S) hR.me (λa b p q r=>hR.step a b p q r)⟩
theorem cn_sym {W:Nat→Prop}(hW:∀x,W x→x<n){x y:Nat}(hx:W x)(h:Cn (Ad F) W x y):Cn (Ad F) W y x:=
 (h (λw=>W w∧Cn (Ad F) W w x) ⟨hx,Cn.refl⟩ (λa b ⟨p1,p2⟩ q r=>⟨r,(Cn.refl.step (hF.sym a b (hW a p1) q) p1).trans p2⟩)).2
theorem partsOf_ok {W:Int}(hW:In n W):∃l,D.L F W=some l∧Parts F (El W) l∧l.length≤16:=by
 have main:=AB (k:=λl=>some l) (Q:=λl=>Parts F (El W) l∧l.length≤16) (step:=fun(s_66:Int×LI)=>match s_66 with|(x_69,l_70)=>cond (x_69 !=0) ((D.C x_69).bind λy_109=>(D.J F y_109 x_69).bind λy_116=>(AC l_70 ([y_116]:LI)).bind λl_127=>some (.inl ((iandNot .u32 x_69 y_116),l_127))) (some (.inr l_70)))
  (s:=(W,([]:LI))) (λq=>VS q.1∧(∀x,El q.1 x→El W x)∧(∀s∈q.2,VS s)∧(∀s∈q.2,∃v,El s v)∧(∀s∈q.2,∀x,El s x→El W x)∧(∀s∈q.2,∀x y,El s x→(El s y↔Cn (Ad F) (El W) x y))∧(∀x,El W x→El q.1 x∨∃s∈q.2,El s x)∧(∀x,El q.1 x→∀s∈q.2,¬El s x)∧(q.2.Pairwise λs t=>∀x,¬(El s x∧El t x))∧q.2.length+(Am q.1).length≤16)
  (λq=>(Am q.1).length) (λl=>Parts F (El W) l∧l.length≤16) ?_ ⟨hW.1,λx h=>h,by simp,by simp,by simp,by simp,λx h=> .inl h,by simp,by simp,?_⟩ (λr hr=>⟨r,rfl,hr⟩)
 ·obtain⟨l,e,hl⟩:=main
  refine⟨l,?_,hl⟩
  unfold D.L
  exact e
 ·rintro⟨W',l⟩ ⟨v1,h1,h2,h3,h4,h5,h6,h7,h8,h9⟩
  dsimp only at v1 h1 h2 h3 h4 h5 h6 h7 h8 h9 ⊢
  by_cases h0:W'=0
  ·have:(W' !=0)=false:=by simp[h0]
   rw[this,cond_false]
   refine⟨_,rfl,⟨h2,h3,h4,h5,λx hx=> ?_,h8⟩,by omega⟩
   rcases h6 x hx with h|h
   ·rw[h0] at h;simp[El,A4] at h
   ·exact h
  ·have:(W' !=0)=true:=by simpa using h0
   rw[this,cond_true]
   obtain⟨k,hk32,ek,hk,_,_⟩:=least_eq v1 h0
   have hkn:=hW.2 k (h1 k hk)
   obtain⟨S,eS,hR,hSn⟩:=reach_ok hn hF.net hkn v1
   have hlen:=BO W'
   rw[ek,bs,eS,bs,AQ (by simp;omega),bs]
   have hSW:∀x,El S x→El W' x:=λx hx=>((DW hn hF hR x).1 hx).mem hk
   have hS':∀x,El (iandNot .u32 W' S) x↔El W' x∧¬El S x:=λx=>by
    unfold El
    rw[Ba v1 hR.vs];simp
   have hWn:∀x,El W x→x<n:=λx hx=>hW.2 x hx
   have hW'n:∀x,El W' x→x<n:=λx hx=>hW.2 x (h1 x hx)
   refine⟨_,rfl,⟨VS.iandNot _ _,λx hx=>h1 x ((hS' x).1 hx).1,?_,?_,?_,?_,λx hx=> ?_,λx hx s hs=> ?_,?_,?_⟩,?_⟩
   ·intro s hs
    rcases List.mem_append.1 hs with h|h
    ·exact h2 s h
    ·simp at h;subst h;exact hR.vs
   ·intro s hs
    rcases List.mem_append.1 hs with h|h
    ·exact h3 s h
    ·simp at h;subst h;exact⟨k,hR.me⟩
   ·intro s hs x hx
    rcases List.mem_append.1 hs with h|h
    ·exact h4 s h x hx
    ·simp at h;subst h;exact h1 x (hSW x hx)
   ·intro s hs x y hx
    rcases List.mem_append.1 hs with h|h
    ·exact h5 s h x y hx
    ·simp at h;subst h
     constructor
     ·intro hy
      have c1:=cn_sym hn hF hW'n hk ((DW hn hF hR x).1 hx)
      exact(c1.trans ((DW hn hF hR y).1 hy)).mono h1
     ·intro hc
      refine hc (El s) hx (λa b ha hab hb=> ?_)
      have haW:=hSW a ha
      rcases h6 b hb with h|⟨t,ht,hbt⟩
      ·exact hR.step a b ha hab h
      ·exfalso
       have:El t a:=(h5 t ht b a hbt).2 (Cn.refl.step (hF.sym a b (hW'n a haW) hab) (h1 a haW))
       exact h7 a haW t ht this
   ·by_cases hxS:El S x
    ·exact .inr ⟨S,by simp,hxS⟩
    ·rcases h6 x hx with h|⟨s,hs,h⟩
     ·exact .inl ((hS' x).2 ⟨h,hxS⟩)
     ·exact .inr ⟨s,by simp[hs],h⟩
   ·obtain⟨p,q⟩:=(hS' x).1 hx
    rcases List.mem_append.1 hs with h|h
    ·exact h7 x p s h
    ·simp at h;subst h;exact q
   ·rw[List.pairwise_append]
    refine⟨h8,by simp,λs hs t ht x ⟨p,q⟩=> ?_⟩
    simp at ht;subst ht
    exact h7 x (hSW x q) s hs p
   ·dsimp only
    have hlt:(Am (iandNot .u32 W' S)).length+1≤(Am W').length:=by
     have:=Bi (l:=(k:Int)::Am (iandNot .u32 W' S)) (m:=Am W') (List.nodup_cons.2 ⟨λhx=> ?_,List.Pairwise.imp (λh e=>by omega) (Bu _)⟩) (λx hx=> ?_)
     ·simpa using this
     ·exact((hS' k).1 ((AN (VS.iandNot _ _)).1 hx)).2 hR.me
     ·rcases List.mem_cons.1 hx with rfl|hx
      ·exact(AN v1).2 hk
      ·obtain⟨w,hw,q,rfl⟩:=mem_elems.1 hx
       exact(AN v1).2 ((hS' w).1 q).1
    simp;omega
   ·dsimp only
    have:=Bi (l:=(k:Int)::Am (iandNot .u32 W' S)) (m:=Am W') (List.nodup_cons.2 ⟨λhx=> ?_,List.Pairwise.imp (λh e=>by omega) (Bu _)⟩) (λx hx=> ?_)
    ·simp at this;omega
    ·exact((hS' k).1 ((AN (VS.iandNot _ _)).1 hx)).2 hR.me
    ·rcases List.mem_cons.1 hx with rfl|hx
     ·exact(AN v1).2 hk
     ·obtain⟨w,hw,q,rfl⟩:=mem_elems.1 hx
      exact(AN v1).2 ((hS' w).1 q).1
 ·have:=inc_len (n:=n) (Bu W) (λz hz=>by
   obtain⟨w,_,q,rfl⟩:=mem_elems.1 hz
   have:=hW.2 w q;omega)
  simp;omega
end
end Go.Sx

namespace Go.Sx
def Way (ad:Nat→Nat→Prop):List Nat→Prop
 |[]=>True
 |[_]=>True
 |a::b::l=>ad a b∧Way ad (b::l)
theorem Way.tail {ad:Nat→Nat→Prop}{a:Nat}{l:List Nat}(h:Way ad (a::l)):Way ad l:=by
 cases l with
 |nil=>trivial
 |cons b l=>exact h.2
structure Wy (ad:Nat→Nat→Prop)(H:Nat→Prop)(x y:Nat)(l:List Nat):Prop where
 len:2≤l.length
 fst:l[0]? =some x
 lst:l[l.length-1]? =some y
 way:Way ad l
 mid:∀i (h:i<l.length),0<i→i+1<l.length→H l[i]
structure Hole (ad:Nat→Nat→Prop)(c:List Nat):Prop where
 len:4≤c.length
 nd:c.Nodup
 step:∀i (h:i+1<c.length),ad c[i] c[i+1]
 close:ad (c[c.length-1]'(by omega)) (c[0]'(by omega))
 no:∀i j (_:i+1<j) (hj:j<c.length),¬(i=0∧j=c.length-1)→¬ad (c[i]'(by omega)) c[j]
def NoHole (ad:Nat→Nat→Prop)(X:Nat→Prop):Prop:=∀c,Hole ad c→¬∀x∈c,X x
section
variable {ad : Nat → Nat → Prop} (hs : ∀ a b, ad a b → ad b a) (hi : ∀ a, ¬ ad a a)
include hs hi
end
end Go.Sx

namespace Go.Sx
def iz (P:List Nat):LI:=P.map Int.ofNat
theorem iz_len (P:List Nat):(iz P).length=P.length:=by simp[iz]
theorem iz_idx {P:List Nat}{i:Nat}(h:i<P.length):idx (iz P) (i:Int)=some ((P[i]:Nat):Int):=by
 rw[Ax (by rw[iz_len];exact h)];simp[iz]
structure Gd (g:LL)(long:Nat)(P:List Nat):Prop where
 nd:P.Nodup
 lt:∀x∈P,x<g.length
 step:∀i (h:i+1<P.length),adj g P[i] P[i+1]
 far:∀i j (_:i+1<j) (hj:j<P.length),adj g (P[i]'(by omega)) P[j]↔(i=0∧j+1=long)
theorem Gd.hole {g:LL}(hg:GOk g){long:Nat}{P:List Nat}(h:Gd g long P)(hl:P.length=long)(h4:4≤long):Hole (adj g) P:=by
 have hs:adj g (P[0]'(by omega)) (P[P.length-1]'(by omega)):=(h.far 0 (P.length-1) (by omega) (by omega)).2 ⟨rfl,by omega⟩
 exact⟨by omega,h.nd,h.step,hg.sym _ _ (h.lt _ (List.getElem_mem _)) hs,λi j hij hj hx ha=>hx (by have:=(h.far i j hij hj).1 ha;omega)⟩
theorem Gd.take {g:LL}{long:Nat}{P:List Nat}(h:Gd g long P)(k:Nat):Gd g long (P.take k):=by
 refine⟨List.Pairwise.sublist (List.take_sublist k P) h.nd,λx hx=>h.lt x (List.mem_of_mem_take hx),λi hi=> ?_,λi j hij hj=> ?_⟩
 ·simp at hi
  rw[List.getElem_take,List.getElem_take]
  exact h.step i (by omega)
 ·simp at hj
  rw[List.getElem_take,List.getElem_take]
  exact h.far i j hij (by omega)
section
variable {g : LL} (hg : GOk g)
include hg
end
end Go.Sx

namespace Go.Sx
section
variable {g : LL} (hg : GOk g)
include hg
end
end Go.Sx

namespace Go.Sx
def Nr (ad:Nat→Nat→Prop)(v:Nat):Nat→Nat→Prop
 |0,_=>False
 |k+1,u=>u=v∨∃w,Nr ad v k w∧ad w u
theorem Nr.up {ad:Nat→Nat→Prop}{v:Nat}:∀{k u:Nat},Nr ad v k u→Nr ad v (k+1) u
 |0,_,h=>h.elim
 |_+1,_,h=>h.imp id (fun⟨w,h1,h2⟩=>⟨w,h1.up,h2⟩)
section
variable {g : LL} (hg : GOk g)
include hg
theorem Nr.lt {v:Nat}(hv:v<g.length):∀{k u:Nat},Nr (adj g) v k u→u<g.length
 |0,_,h=>h.elim
 |k+1,u,h=>by
  rcases h with rfl|⟨w,h1,h2⟩
  ·exact hv
  ·exact hg.lt (Nr.lt hv h1) h2
theorem Nr.of {v:Nat}:∀(l:List Nat) (u:Nat),u<g.length→Way (adj g) (u::l++[v])→Nr (adj g) v (l.length+2) u
 |[],u,hu,h=> .inr ⟨v,.inl rfl,hg.sym _ _ hu h.1⟩
 |a::l,u,hu,h=> .inr ⟨a,Nr.of l a (hg.lt hu h.1) h.2,hg.sym _ _ hu h.1⟩
end
end Go.Sx

namespace Go.Sx
section
variable {g : LL} (hg : GOk g)
include hg
theorem DR {a b:Nat}(h:adj g a b):a<g.length:=by
 apply Classical.byContradiction
 intro hn
 unfold adj row at h
 rw[List.getD_eq_getElem?_getD,List.getElem?_eq_none (by omega)] at h
 simp at h
theorem adj_sym (a b:Nat)(h:adj g a b):adj g b a:=hg.sym _ _ (DR hg h) h
end
end Go.Sx

namespace Go.Sx
section
variable {g : LL} (hg : GOk g) {c : List Nat} (hH : Hole (adj g) c) (hlt : ∀ x ∈ c, x < g.length)
include hg hH hlt
end
end Go.Sx

namespace Go.Sx
structure Rd (ad:Nat→Nat→Prop)(c:List Nat):Prop where
 len:3≤c.length
 nd:c.Nodup
 step:∀i (h:i+1<c.length),ad c[i] c[i+1]
 close:ad (c[c.length-1]'(by omega)) (c[0]'(by omega))
section
variable {g : LL} (hg : GOk g) {c : List Nat} (hH : Rd (adj g) c) (hlt : ∀ x ∈ c, x < g.length)
include hg hH hlt
end
end Go.Sx

namespace Go.Sx
structure Trp (F:LI)(n:Nat)(L:Int)(v0:Nat)(P:List Nat):Prop where
 nd:P.Nodup
 len:P.length=n
 lt:∀x∈P,x<n
 st:P[0]? =some v0
 en:∀(h:0<P.length),has L (P[P.length-1]'(by omega))=true
 ad:∀i (h:i+1<P.length),nb F P[i] P[i+1]=true
section
variable {F : LI} {n : Nat} (hF : FOk F n) (h1 : 1 ≤ n) (h16 : n ≤ 16) {L : Int}
include hF h1 h16
end
end Go.Sx

namespace Go.Sx
def Gm (E:Nat→Nat→Prop)(a b c d:Nat):Prop:=E c d∧((a=c∧¬E b d∧b≠d)∨(b=d∧¬E a c∧a≠c))
def Kl (E:Nat→Nat→Prop)(a b c d:Nat):Prop:=∀T:Nat→Nat→Prop,T a b→(∀p q r s,T p q→Gm E p q r s→T r s)→T c d
section
variable {E : Nat → Nat → Prop} (hs : ∀ a b, E a b → E b a) (hi : ∀ a, ¬ E a a)
theorem Kl.refl {a b:Nat}:Kl E a b a b:=λ_ h _=>h
theorem Kl.step {a b c d p q:Nat}(h:Kl E a b c d)(g:Gm E c d p q):Kl E a b p q:=λT h1 h2=>h2 _ _ _ _ (h T h1 h2) g
theorem Kl.trans {a b c d p q:Nat}(h:Kl E a b c d)(g:Kl E c d p q):Kl E a b p q:=λT h1 h2=>g T (h T h1 h2) h2
theorem Kl.edge {a b c d:Nat}(he:E a b)(h:Kl E a b c d):E c d:=h (λp q=>E p q) he (λ_ _ _ _ _ g=>g.1)
include hs
theorem Gm.sym {a b c d:Nat}(he:E a b)(h:Gm E a b c d):Gm E c d a b:=by
 rcases h with⟨h0,⟨h1,h2,h3⟩|⟨h1,h2,h3⟩⟩
 ·exact⟨he,.inl ⟨h1.symm,λe=>h2 (hs _ _ e),λe=>h3 e.symm⟩⟩
 ·exact⟨he,.inr ⟨h1.symm,λe=>h2 (hs _ _ e),λe=>h3 e.symm⟩⟩
theorem Gm.op {a b c d:Nat}(h:Gm E a b c d):Gm E b a d c:=by
 rcases h with⟨h0,⟨h1,h2,h3⟩|⟨h1,h2,h3⟩⟩
 ·exact⟨hs _ _ h0,.inr ⟨h1,h2,h3⟩⟩
 ·exact⟨hs _ _ h0,.inl ⟨h1,h2,h3⟩⟩
theorem Kl.sym {a b c d:Nat}(he:E a b)(h:Kl E a b c d):Kl E c d a b:=
 (h (λp q=>E p q∧Kl E p q a b) ⟨he,Kl.refl⟩ (λ_ _ _ _ ⟨h1,h2⟩ g=>⟨g.1,(Kl.refl.step (g.sym hs h1)).trans h2⟩)).2
theorem Kl.op {a b c d:Nat}(h:Kl E a b c d):Kl E b a d c:=h (λp q=>Kl E b a q p) Kl.refl (λ_ _ _ _ h1 g=>h1.step (g.op hs))
include hi
end
def Lf (E:Nat→Nat→Prop)(x y a b:Nat):Prop:=E a b∧¬Kl E x y a b∧¬Kl E x y b a
section
variable {E : Nat → Nat → Prop} (hs : ∀ a b, E a b → E b a) (hi : ∀ a, ¬ E a a)
include hs hi
theorem Lf.sym {x y:Nat}(a b:Nat)(h:Lf E x y a b):Lf E x y b a:=⟨hs _ _ h.1,h.2.2,h.2.1⟩
end
end Go.Sx

namespace Go.Sx
structure Orn (E T:Nat→Nat→Prop):Prop where
 sub:∀a b,T a b→E a b
 all:∀a b,E a b→T a b∨T b a
 one:∀a b,T a b→¬T b a
 trn:∀a b c,T a b→T b c→T a c
section
variable {E : Nat → Nat → Prop} (hs : ∀ a b, E a b → E b a) (hi : ∀ a, ¬ E a a)
include hs
theorem Orn.gm {T:Nat→Nat→Prop}(o:Orn E T){a b c d:Nat}(h:T a b)(g:Gm E a b c d):T c d:=by
 obtain⟨h0,⟨rfl,g2,g3⟩|⟨rfl,g2,g3⟩⟩:=g
 ·rcases o.all _ _ h0 with e|e
  ·exact e
  ·exact absurd (hs _ _ (o.sub _ _ (o.trn _ _ _ e h))) g2
 ·rcases o.all _ _ h0 with e|e
  ·exact e
  ·exact absurd (o.sub _ _ (o.trn _ _ _ h e)) g2
theorem Orn.cl {T:Nat→Nat→Prop}(o:Orn E T){a b c d:Nat}(h:T a b)(g:Kl E a b c d):T c d:=g T h (λ_ _ _ _ h1 h2=>o.gm hs h1 h2)
include hi
end
end Go.Sx

namespace Go.Sx
def AdW (g:LL)(all:Int)(a b:Nat):Prop:=adj g a b∧has all b=true
def Dst (g:LL)(all:Int)(v j u:Nat):Prop:=Nr (AdW g all) v (j+1) u∧¬Nr (AdW g all) v j u
structure FarOk (g:LL)(all:Int)(v:Nat)(far:LI):Prop where
 len:far.length=g.length
 val:∀u,u<g.length→(∃j:Nat,far.getD u 0=(j:Int)∧Dst g all v j u)∨(far.getD u 0= -1∧∀k,¬Nr (AdW g all) v k u)
section
variable {g : LL} (hg : GOk g)
include hg
theorem NrW.lt {all:Int}{v:Nat}(hv:v<g.length):∀{k u:Nat},Nr (AdW g all) v k u→u<g.length
 |0,_,h=>h.elim
 |k+1,u,h=>by
  rcases h with rfl|⟨w,h1,h2⟩
  ·exact hv
  ·exact hg.lt (NrW.lt hv h1) h2.1
end
end Go.Sx

namespace Go.Sx
def Av (ad:Nat→Nat→Prop)(X:Nat→Prop)(c z:Nat):Prop:=X z∧z≠c∧¬ad c z
def Apt (ad:Nat→Nat→Prop)(X:Nat→Prop)(a b c:Nat):Prop:=
 X a∧X b∧X c∧a≠b∧a≠c∧b≠c∧¬ad a b∧¬ad a c∧¬ad b c∧Cn ad (Av ad X c) a b∧Cn ad (Av ad X b) a c∧Cn ad (Av ad X a) b c
def Ape (ad:Nat→Nat→Prop)(X S:Nat→Prop)(a b:Nat):Prop:=
 X a∧X b∧a≠b∧¬ad a b∧(∃k,S k∧Cn ad (Av ad X b) a k)∧∃k,S k∧Cn ad (Av ad X a) b k
structure Rp (ad:Nat→Nat→Prop)(X:Nat→Prop)(L R:Nat→Int):Prop where
 le:∀v,X v→L v≤R v
 ad:∀u v,X u→X v→u≠v→(ad u v↔L u≤R v∧L v≤R u)
structure RpE (ad:Nat→Nat→Prop)(X S:Nat→Prop)(L R:Nat→Int)(B:Int):Prop where
 rp:Rp ad X L R
 lo:∀v,X v→-B≤L v
 s:∀v,X v→S v→R v=0
 x:∀v,X v→¬S v→R v<0
theorem RpE.hi {ad:Nat→Nat→Prop}{X S:Nat→Prop}{L R:Nat→Int}{B:Int}(h:RpE ad X S L R B){v:Nat}(hv:X v):R v≤0:=by
 by_cases hs:S v
 ·exact Int.le_of_eq (h.s v hv hs)
 ·exact Int.le_of_lt (h.x v hv hs)
section
variable {ad : Nat → Nat → Prop} (hs : ∀ a b, ad a b → ad b a)
include hs
end
end Go.Sx

namespace Go.Sx
structure Hg (ad:Nat→Nat→Prop)(X S:Nat→Prop):Prop where
 fin:∃l:List Nat,∀x,X x→x∈l
 sub:∀s,S s→X s
 clq:∀s t,S s→S t→s≠t→ad s t
 nh:NoHole ad X
 at3:∀a b c,¬Apt ad X a b c
 ae:∀a b,¬Ape ad X S a b
section
variable {ad : Nat → Nat → Prop}
theorem Em {X X':Nat→Prop}(h:∀v,X' v→X v){a b c:Nat}(hp:Cn ad (Av ad X' c) a b):Cn ad (Av ad X c) a b:=hp.mono λw ⟨p,q,r⟩=>⟨h w p,q,r⟩
theorem Apt.mono {X X':Nat→Prop}(h:∀v,X' v→X v){a b c:Nat}:Apt ad X' a b c→Apt ad X a b c:=
 fun⟨h1,h2,h3,h4,h5,h6,h7,h8,h9,p,q,r⟩=>⟨h a h1,h b h2,h c h3,h4,h5,h6,h7,h8,h9,Em h p,Em h q,Em h r⟩
theorem Hg.mono {X S X' S':Nat→Prop}(g:Hg ad X S)(hX:∀v,X' v→X v)(hS:∀v,S' v→S v)(hS':∀v,S' v→X' v):Hg ad X' S':=by
 obtain⟨l,hl⟩:=g.fin
 refine⟨⟨l,λx hx=>hl x (hX x hx)⟩,hS',λs t p q=>g.clq s t (hS s p) (hS t q),λc hc hx=>g.nh c hc (λx h=>hX x (hx x h)),λa b c h=>g.at3 a b c (h.mono hX),λa b ⟨h1,h2,h3,h4,⟨k,k1,k2⟩,k',k3,k4⟩=>g.ae a b ⟨hX a h1,hX b h2,h3,h4,⟨k,hS k k1,Em hX k2⟩,k',hS k' k3,Em hX k4⟩⟩
variable (hs : ∀ a b, ad a b → ad b a) (hi : ∀ a, ¬ ad a a)
include hs
include hi
end
section
variable {ad : Nat → Nat → Prop} (hs : ∀ a b, ad a b → ad b a) (hi : ∀ a, ¬ ad a a)
include hs
include hi
end
end Go.Sx

namespace Go.Sx
section
variable {g : LL} (hg : GOk g)
include hg
structure PW (g:LL)(W:Nat→Prop)(u v:Nat)(P:List Nat):Prop where
 ne:1≤P.length
 fst:P[0]'(by omega)=u
 lst:P[P.length-1]'(by omega)=v
 inW:∀x∈P,W x
 step:∀i (h:i+1<P.length),adj g P[i] P[i+1]
 short:P.length≤g.length
end
end Go.Sx

namespace Go.Sx
structure Pth (g:LL)(P:List Nat):Prop where
 ne:1≤P.length
 gd:Gd g 1000 P
 low:∀i (h:i<P.length) (h0:0<i),P[0]'(by omega)<P[i]
def Bst (g:LL)(b:LI):Prop:=b=[]∨∃c,b=iz c∧Hole (adj g) c∧∀x∈c,x<g.length
section
variable {g : LL} (hg : GOk g)
include hg
theorem nodup_bound {c:List Nat}(hnd:c.Nodup)(hlt:∀x∈c,x<g.length):c.length≤g.length:=by
 have:=Bi (l:=iz c) (m:=(List.range g.length).map Int.ofNat) (by
  unfold iz
  exact List.pairwise_map.2 (hnd.imp (λh h'=>h (Int.ofNat.inj h')))) (λx hx=>by
  unfold iz at hx
  obtain⟨v,hv,rfl⟩:=List.mem_map.1 hx
  exact List.mem_map.2 ⟨v,List.mem_range.2 (hlt v hv),rfl⟩)
 rw[iz_len] at this
 simpa using this
theorem l8Near_ok {P:List Nat}(hP:∀x∈P,x<g.length)(hl:P.length≤16)(v:Int):D.c0 g (iz P) v=some (((P.countP λu=>decide (v∈row g u)):Nat):Int):=by
 unfold D.c0
 have:=(loop_nat (step:=fun(s_40:Int×Int)=>match s_40 with|(x_43,x_44)=>cond (decide (x_44<((iz P).length:Int))) ((idx (iz P) x_44).bind λe_65=>(D.v0 g e_65 v).bind λy_71=>(D.A y_71).bind λy_74=>some (.inl ((IntKind.i64.wrap (x_43+y_74)),(IntKind.i64.wrap (x_44+1))))) (some (.inr x_43)))
  P.length (fun(a:Int) (i:Int)=>(a,i)) (λa i=>a+(if v∈row g (P.getD i 0) then 1 else 0)) (λa=>a) (λi a=>a=(((P.take i).countP λu=>decide (v∈row g u)):Nat)) 0 (by simp)
  (λs i hi hs=>by
   subst hs
   have hpl:P[i]<g.length:=hP _ (List.getElem_mem hi)
   have hil:i<(iz P).length:=by rw[iz_len];exact hi
   have hcl:((P.take i).countP λu=>decide (v∈row g u))≤i:=Nat.le_trans List.countP_le_length (by simp;omega)
   have hge:P.getD i 0=P[i]:=Ar hi 0
   refine⟨?_,?_⟩
   ·simp only[dlt hil,cond_true,iz_idx hi,bs,l1Edge_eq g hg hpl,hge,wq i]
    by_cases hv:v∈row g P[i]
    ·rw[decide_eq_true hv,if_pos hv]
     show (D.A true).bind _=_
     have:D.A true=some 1:=by decide+kernel
     rw[this,bs,w64 (by omega) (by omega)]
    ·rw[decide_eq_false hv,if_neg hv]
     show (D.A false).bind _=_
     have:D.A false=some 0:=by decide+kernel
     rw[this,bs,w64 (by omega) (by omega)]
   ·rw[List.take_succ_eq_append_getElem hi,List.countP_append,hge]
    by_cases hv:v∈row g P[i]
    ·simp[hv]
    ·simp[hv])
  (λs hs=>by simp only[iz_len,A3,cond_false]))
 rw[this.1,bs,this.2,List.take_length]
theorem Bst.len {b:LI}(h:Bst g b):b.length≤16:=by
 rcases h with rfl|⟨c,rfl,h1,h2⟩
 ·simp
 ·rw[iz_len]
  have:=nodup_bound hg h1.nd h2
  have:=hg.n16
  omega
end
end Go.Sx

namespace Go.Sx
section
variable {g : LL} (hg : GOk g)
include hg
end
end Go.Sx

namespace Go.Sx
section
variable {ad : Nat → Nat → Prop} (hs : ∀ a b, ad a b → ad b a) (hi : ∀ a, ¬ ad a a)
include hs hi
end
end Go.Sx

namespace Go.Sx
section
variable {ad : Nat → Nat → Prop} {X : Nat → Prop} {L R : Nat → Int} (h : Rp ad X L R)
include h
end
end Go.Sx

namespace Go.Sx
theorem Goes.nat {cs:LI}:∀{o:LI} {p:Int},Goes cs p o→∀x∈o,∃k:Nat,x=(k:Int)∧k<cs.length
 |[],_,_,x,hx=>by simp at hx
 |y::o,p,⟨k,e,hF,hG⟩,x,hx=>by
  rcases List.mem_cons.1 hx with rfl|hx
  ·exact⟨k,e,hF.1⟩
  ·exact Goes.nat hG x hx
theorem Goes.mem {cs:LI}(hm:cs.length≤16):∀{o:LI} {p:Int},VS p→Goes cs p o→∀i,i<cs.length→has p i=true∨(i:Int)∈o
 |[],_,_,h,i,hi=> .inl (h i hi)
 |y::o,p,hp,⟨k,e,hF,hG⟩,i,hi=>by
  have hk:=hF.1
  rcases Goes.mem hm (VS.ior _ _) hG i hi with h|h
  ·rw[BV hp (VS.ishl _ _),Bv (by omega),Bool.or_eq_true,decide_eq_true_eq] at h
   rcases h with h|rfl
   ·exact .inl h
   ·exact .inr (by rw[e];simp)
  ·exact .inr (List.mem_cons_of_mem _ h)
def atp (cs o:LI)(k v:Nat):Bool:=ch cs (o.getD k 0).toNat v
theorem Goes.conv {cs o:LI}{v i j k:Nat}(hm:cs.length≤16)(h:Goes cs 0 o)(hij:i<j)(hjk:j<k)(hk:k<o.length)(h1:atp cs o i v=true)(h2:atp cs o k v=true):atp cs o j v=true:=by
 have hj:j<o.length:=by omega
 have hi:i<o.length:=by omega
 obtain⟨a,ea,_⟩:=h.nat _ (List.getElem_mem hi)
 obtain⟨b,eb,_⟩:=h.nat _ (List.getElem_mem hj)
 obtain⟨c,ec,_⟩:=h.nat _ (List.getElem_mem hk)
 unfold atp at*
 rw[Ar hi,ea,Int.toNat_natCast] at h1
 rw[Ar hk,ec,Int.toNat_natCast] at h2
 rw[Ar hj,eb,Int.toNat_natCast]
 have e:o=o.take j++(b:Int)::o.drop (j+1):=by
  rw[←eb,←List.drop_eq_getElem_cons hj,List.take_append_drop]
 rw[e] at h
 refine h.mid hm ⟨VS.zero,λv hv=>by rw[A4] at hv;cases hv⟩ (.inr ⟨a,?_,h1⟩) ⟨c,?_,h2⟩
 ·rw[←ea]
  exact List.mem_take_iff_getElem.2 ⟨i,by omega,rfl⟩
 ·rw[←ec,List.mem_drop_iff_getElem]
  exact⟨k-(j+1),by omega,by congr 1;omega⟩
structure Told (cs o:LI)(v:Nat)(a b:Int):Prop where
 ex:∃i j:Nat,a=(i:Int)∧b=(j:Int)∧i≤j∧j<o.length∧atp cs o i v=true∧atp cs o j v=true∧∀k,k<o.length→atp cs o k v=true→i≤k∧k≤j
theorem Told.at {cs o:LI}{v:Nat}{a b:Int}(hm:cs.length≤16)(h:Goes cs 0 o)(ht:Told cs o v a b){k:Nat}(h1:a≤k)(h2:(k:Int)≤b):k<o.length∧atp cs o k v=true:=by
 obtain⟨i,j,rfl,rfl,hij,hj,hi1,hj1,_⟩:=ht.ex
 refine⟨by omega,?_⟩
 by_cases e1:k=i
 ·rw[e1];exact hi1
 by_cases e2:k=j
 ·rw[e2];exact hj1
 exact h.conv hm (show i<k by omega) (show k<j by omega) hj hi1 hj1
section
variable {g : LL} (hg : GOk g) {l o : LI} (hl : GC g l) (h16 : l.length ≤ 16) (ho : Goes l 0 o)
include hg hl
include h16 ho
end
end Go.Sx

namespace Go.Sx
section
variable {g l : LL} {cs : LI} (hg : GOk g)
include hg
end
end Go.Sx

namespace Go.Sx
inductive Pick (n:Nat):Nat→Nat→Int→Int→Prop
 |done {a:Nat} {c:Int}:Pick n a 0 c c
 |more {a k v:Nat} {c t:Int}:a≤v→v<n→Pick n (v+1) k (ior .u32 c (ishl .u32 1 (v:Int))) t→Pick n a (k+1) c t
theorem Pick.le {n a k:Nat}{c t:Int}(h:Pick n a k c t):k=0∨a+k≤n:=by
 induction h with
 |done=>exact .inl rfl
 |more h1 h2 _ ih=>right;rcases ih with h|h<;>omega
theorem chR_ok {f:Int→Int→Option (Bool×Int)}{n:Nat}(hn:n≤16)(F:Int→Bool)(hf:∀c s,VS c→(∀v,has c v=true→v<n)→f c s=some (F c,c)):
  ∀(k fuel a:Nat) (c s:Int),k<fuel→k≤16→VS c→(∀v,has c v=true→v<n)→a≤n+1→∃r,D.m f fuel (n:Int) (a:Int) (k:Int) c s=some r∧(r.1=true↔∃t,Pick n a k c t∧F t=true)∧(r.1=true→Pick n a k c r.2∧F r.2=true):=by
 intro k
 induction k with
 |zero=>
  intro fuel a c s hk _ hc hcn _
  obtain⟨m,rfl⟩:∃m,fuel=m+1:=⟨fuel-1,by omega⟩
  refine⟨(F c,c),?_,⟨λh=>⟨c,.done,h⟩,?_⟩,λh=>⟨.done,h⟩⟩
  ·unfold D.m
   simp only[Int.natCast_zero,beq_self_eq_true,cond_true,hf c s hc hcn]
  ·rintro⟨t,ht,h⟩
   cases ht
   exact h
 |succ k ih=>
  intro fuel a c s hk hk16 hc hcn ha
  obtain⟨m,rfl⟩:∃m,fuel=m+1:=⟨fuel-1,by omega⟩
  unfold D.m
  have h0:(((k+1:Nat):Int)==0)=false:=by rw[beq_eq_false_iff_ne];omega
  rw[h0,cond_false]
  have key:∀(d a:Nat) (s:Int),a+d=n+1→∃r,Aq (D.B (D.m f m) (n:Int) ((k+1:Nat):Int) c) (s,(a:Int))=some r∧(r.1=true↔∃t,Pick n a (k+1) c t∧F t=true)∧(r.1=true→Pick n a (k+1) c r.2∧F r.2=true):=by
   intro d
   induction d with
   |zero=>
    intro a s hd
    refine⟨(false,s),Bk ?_,⟨by simp,?_⟩,by simp⟩
    ·unfold D.B
     have:decide (IntKind.i64.wrap ((a:Int)+((k+1:Nat):Int))≤(n:Int))=false:=by rw[w64 (by omega) (by omega)];simp;omega
     simp only[this,cond_false]
    ·rintro⟨t,ht,_⟩
     have:=ht.le
     omega
   |succ d ihd=>
    intro a s hd
    by_cases hle:a+(k+1)≤n
    ·have hdec:decide (IntKind.i64.wrap ((a:Int)+((k+1:Nat):Int))≤(n:Int))=true:=by rw[w64 (by omega) (by omega)];simp;omega
     have hone:=Bv (v:=a) (by omega)
     have hc':VS (ior .u32 c (ishl .u32 1 (a:Int))):=VS.ior _ _
     have hcn':∀v,has (ior .u32 c (ishl .u32 1 (a:Int))) v=true→v<n:=λv hv=>by
      rw[BV hc (VS.ishl _ _),hone,Bool.or_eq_true,decide_eq_true_eq] at hv
      rcases hv with hv|rfl
      ·exact hcn v hv
      ·omega
     obtain⟨r,e,hr1,hr2⟩:=ih m (a+1) _ s (by omega) (by omega) hc' hcn' (by omega)
     have ek:IntKind.i64.wrap (((k+1:Nat):Int)-1)=(k:Int):=by rw[w64 (by omega) (by omega)];omega
     have hst:D.B (D.m f m) (n:Int) ((k+1:Nat):Int) c (s,(a:Int))=cond r.1 (some (.inr (true,r.2))) (some (.inl (r.2,((a+1:Nat):Int)))):=by
      unfold D.B
      simp only[hdec,cond_true,CA,bs,wq a,ek,e]
     cases hb:r.1
     ·rw[hb,cond_false] at hst
      obtain⟨r',e',h1,h2⟩:=ihd (a+1) r.2 (by omega)
      refine⟨r',by rw[B2 hst,e'],?_,λhr=> ?_⟩
      ·rw[h1]
       constructor
       ·rintro⟨t,ht,hF⟩
        cases ht with
        |more p1 p2 p3=>exact⟨t,.more (by omega) p2 p3,hF⟩
       ·rintro⟨t,ht,hF⟩
        cases ht with
        | @more _ _ v _ _ p1 p2 p3=>
         by_cases hva:v=a
         ·subst hva
          have:=hr1.2 ⟨t,p3,hF⟩
          rw[hb] at this;cases this
         ·exact⟨t,.more (by omega) p2 p3,hF⟩
      ·obtain⟨p,hF⟩:=h2 hr
       cases p with
       |more p1 p2 p3=>exact⟨.more (by omega) p2 p3,hF⟩
     ·rw[hb,cond_true] at hst
      obtain⟨p,hF⟩:=hr2 hb
      exact⟨(true,r.2),Bk hst,⟨λ_=>⟨r.2,.more (Nat.le_refl _) (by omega) p,hF⟩,λ_=>rfl⟩,λ_=>⟨.more (Nat.le_refl _) (by omega) p,hF⟩⟩
    ·refine⟨(false,s),Bk ?_,⟨by simp,?_⟩,by simp⟩
     ·unfold D.B
      have:decide (IntKind.i64.wrap ((a:Int)+((k+1:Nat):Int))≤(n:Int))=false:=by rw[w64 (by omega) (by omega)];simp;omega
      simp only[this,cond_false]
     ·rintro⟨t,ht,_⟩
      have:=ht.le
      omega
  exact key (n+1-a) a s (by omega)
def Cv (a b:Int):LI:=[min a b,max a b]
structure KOk (n:Nat)(K:LL):Prop where
 nd:K.Nodup
 lk:∀l∈K,LinkIn n l
theorem LinkIn.good {n:Nat}(hn:n≤1000){l:LI}(h:LinkIn n l):rowGood l:=by
 obtain⟨a,b,rfl,h1,h2⟩:=h
 refine⟨rfl,?_⟩
 simp only[List.getD_cons_zero,List.getD_cons_succ]
 omega
theorem KOk.len {n:Nat}(hn:n≤16){K:LL}(h:KOk n K):K.length≤256:=by
 have h1:(K.map Et).Nodup:=by
  unfold List.Nodup
  rw[List.pairwise_map]
  refine List.Pairwise.imp_of_mem (fun{a b} ha hb hab e=> ?_) h.nd
  exact hab (row_inj ((h.lk a ha).good (by omega)) ((h.lk b hb).good (by omega)) e)
 have h2:=Bi (m:=(List.range 16).flatMap (λa=>(List.range 16).map λb=>((a:Nat):Int)*1048576+((b:Nat):Int))) h1 (λx hx=>by
  obtain⟨l,hl,rfl⟩:=List.mem_map.1 hx
  obtain⟨a,b,rfl,h3,h4⟩:=h.lk l hl
  exact List.mem_flatMap.2 ⟨a,List.mem_range.2 (by omega),List.mem_map.2 ⟨b,List.mem_range.2 (by omega),rfl⟩⟩)
 have h3:((List.range 16).flatMap (λa=>(List.range 16).map λb=>((a:Nat):Int)*1048576+((b:Nat):Int))).length=256:=by decide+kernel
 rw[h3,List.length_map] at h2
 exact h2
def WayP (K:LL)(a b:Int):Prop:=∀T:Int→Prop,T a→(∀x y,T x→Lk K x y→T y)→T b
theorem Lk.perm {K K':LL}(h:K.Perm K'){x y:Int}:Lk K x y↔Lk K' x y:=by
 unfold Lk;rw[h.mem_iff,h.mem_iff]
theorem WayP.perm {K K':LL}(h:K.Perm K'){a b:Int}:WayP K a b↔WayP K' a b:=by
 unfold WayP
 constructor
 ·intro hh T h1 h2;exact hh T h1 (λx y hx hl=>h2 x y hx ((Lk.perm h).1 hl))
 ·intro hh T h1 h2;exact hh T h1 (λx y hx hl=>h2 x y hx ((Lk.perm h).2 hl))
structure NetL (A:LI)(n:Nat)(K:LL):Prop where
 net:Net A n
 nb:∀x y,x<n→y<n→(nb A x y=true↔Lk K (x:Int) (y:Int))
end Go.Sx



namespace Go.Sx
theorem ES {i k:Nat}(h:i<k):Cv (i:Int) (k:Int)=[(i:Int),(k:Int)]:=by
 unfold Cv
 rw[show min (i:Int) (k:Int)=i by omega,show max (i:Int) (k:Int)=k by omega]
theorem KOk.add {n i k:Nat}{K:LL}(h:KOk n K)(hik:i<k)(hk:k<n)(hw:¬WayP K (i:Int) (k:Int)):KOk n (K++[Cv (i:Int) (k:Int)]):=by
 have hnot:Cv (i:Int) (k:Int)∉K:=λhm=>hw (λT h1 h2=>h2 _ _ h1 (.inl (by rw[ES hik] at hm;exact hm)))
 refine⟨?_,λl hl=> ?_⟩
 ·have hp:(K++[Cv (i:Int) (k:Int)]).Perm (Cv (i:Int) (k:Int)::K):=List.perm_append_comm
  exact hp.nodup_iff.2 (List.nodup_cons.2 ⟨hnot,h.nd⟩)
 ·rcases List.mem_append.1 hl with hl|hl
  ·exact h.lk l hl
  ·simp at hl;subst hl
   exact⟨i,k,ES hik,hik,hk⟩
theorem NetL.add {A A':LI}{n i k:Nat}{K:LL}(h:NetL A n K)(hik:i<k)(hk:k<n)(hA:Net A' n)(hnb:∀u w,u<n→Sx.nb A' u w=(Sx.nb A u w||(decide (u=i)&&decide (w=k))||(decide (u=k)&&decide (w=i)))):NetL A' n (K++[Cv (i:Int) (k:Int)]):=by
 refine⟨hA,λx y hx hy=> ?_⟩
 rw[hnb x y hx,ES hik]
 simp only[Bool.or_eq_true,Bool.and_eq_true,decide_eq_true_eq]
 rw[h.nb x y hx hy]
 unfold Lk
 simp only[List.mem_append,List.mem_singleton,List.cons.injEq,and_true,Int.natCast_inj]
 constructor
 ·rintro((h1|h1)|⟨h1,h2⟩)
  ·exact h1.elim (λh=> .inl (.inl h)) (λh=> .inr (.inl h))
  ·exact .inl (.inr h1)
  ·exact .inr (.inr ⟨h2,h1⟩)
 ·rintro((h1|h1)|(h1|⟨h1,h2⟩))
  ·exact .inl (.inl (.inl h1))
  ·exact .inl (.inr h1)
  ·exact .inl (.inl (.inr h1))
  ·exact .inr ⟨h2,h1⟩
section
variable {l : LI} (hn : l.length ≤ 16) (hvs : ∀ s ∈ l, VS s)
include hn hvs
end
section
variable {g : LL} (hg : GOk g)
include hg
end
end Go.Sx

namespace Go.Sx
section
variable {g : LL} (hg : GOk g)
include hg
end
end Go.Sx

namespace Go.Sx
def canR (R:Nat→Nat→Prop)(S:Nat→Prop)(v:Nat):Prop:=
 (∀w,S w→¬R v w)∨∃u,u≠v∧S u∧((∀w,S w→(R v w↔w=u))∨(¬R v u∧∀w,S w→(R v w↔R u w))∨(R v u∧∀w,S w→w≠u→w≠v→(R v w↔R u w)))
def Elim (R:Nat→Nat→Prop):Nat→(Nat→Prop)→Prop
 |0,S=>∀w,¬S w
 |k+1,S=>∃v,S v∧canR R S v∧Elim R k (λw=>S w∧w≠v)
theorem Elim.iso {R R':Nat→Nat→Prop}(f:Nat→Nat):∀(k:Nat) (S S':Nat→Prop),Elim R k S→(∀w,S w→S' (f w))→(∀w',S' w'→∃w,S w∧f w=w')→(∀u w,S u→S w→f u=f w→u=w)→(∀u w,S u→S w→(R' (f u) (f w)↔R u w))→Elim R' k S'
 |0,S,S',h,_,h2,_,_=>λw' hw'=>by
  obtain⟨w,hw,_⟩:=h2 w' hw'
  exact h w hw
 |k+1,S,S',h,h1,h2,h3,h4=>by
  obtain⟨v,hv,hc,he⟩:=h
  refine⟨f v,h1 v hv,?_,Elim.iso f k _ _ he (λw hw=>⟨h1 w hw.1,λe=>hw.2 (h3 w v hw.1 hv e)⟩) (λw' hw'=> ?_) (λu w hu hw=>h3 u w hu.1 hw.1) (λu w hu hw=>h4 u w hu.1 hw.1)⟩
  ·rcases hc with hc|⟨u,hu,hSu,hc⟩
   ·refine .inl λw' hw'=> ?_
    obtain⟨w,hw,rfl⟩:=h2 w' hw'
    rw[h4 v w hv hw];exact hc w hw
   ·refine .inr ⟨f u,λe=>hu (h3 u v hSu hv e),h1 u hSu,?_⟩
    rcases hc with hc|⟨hn,hc⟩|⟨hn,hc⟩
    ·refine .inl λw' hw'=> ?_
     obtain⟨w,hw,rfl⟩:=h2 w' hw'
     rw[h4 v w hv hw,hc w hw]
     exact⟨λe=>by rw[e],λe=>h3 w u hw hSu e⟩
    ·refine .inr (.inl ⟨λh=>hn ((h4 v u hv hSu).1 h),λw' hw'=> ?_⟩)
     obtain⟨w,hw,rfl⟩:=h2 w' hw'
     rw[h4 v w hv hw,h4 u w hSu hw];exact hc w hw
    ·refine .inr (.inr ⟨(h4 v u hv hSu).2 hn,λw' hw' hwu hwv=> ?_⟩)
     obtain⟨w,hw,rfl⟩:=h2 w' hw'
     rw[h4 v w hv hw,h4 u w hSu hw]
     exact hc w hw (λe=>hwu (by rw[e])) (λe=>hwv (by rw[e]))
  ·obtain⟨w,hw,rfl⟩:=h2 w' hw'.1
   exact⟨w,⟨hw,λe=>hw'.2 (by rw[e])⟩,rfl⟩
theorem Elim.congr {R R':Nat→Nat→Prop}{k:Nat}{S S':Nat→Prop}(h:Elim R k S)(hS:∀w,S w↔S' w)(hR:∀u w,S u→S w→(R' u w↔R u w)):Elim R' k S':=
 Elim.iso id k S S' h (λw hw=>(hS w).1 hw) (λw hw=>⟨w,(hS w).2 hw,rfl⟩) (λ_ _ _ _ e=>e) hR
def Du (F:LI)(p:Pr):Int:=if p.2.2=2 then ishl .u32 1 p.2.1 else if p.2.2=3 then F.getD p.2.1.toNat 0 else if p.2.2=4 then ior .u32 (F.getD p.2.1.toNat 0) (ishl .u32 1 p.2.1) else 0
def Fs (n:Nat):List Pr→LI
 |[]=>List.replicate n 0
 |p::l=>DI n (Fs n l) p.1.toNat (Du (Fs n l) p)
def vsOf (l:List Pr):LI:=l.map (·.1)
structure GI (n:Nat)(l:List Pr)(s:Int):Prop where
 f:FOk (Fs n l) n
 i:In n s
 mem:∀w:Nat,has s w=true↔(w:Int)∈vsOf l
 thr:∀u w,u<n→nb (Fs n l) u w=true→has s u=true∧has s w=true
 nonneg:∀x∈vsOf l,0≤x
theorem GI.nil (n:Nat):GI n [] 0:=by
 have hz:∀u,(List.replicate n (0:Int)).getD u 0=0:=λu=>by
  rw[List.getD_eq_getElem?_getD,List.getElem?_replicate];split<;>rfl
 have hn:∀u w,nb (List.replicate n (0:Int)) u w=false:=λu w=>by unfold nb;rw[hz,A4]
 exact⟨⟨by simp[Fs],λu _=>by show VS ((List.replicate n (0:Int)).getD u 0);rw[hz];exact VS.zero,λu w _ h=>(by rw[show nb (Fs n []) u w=false from hn u w] at h;cases h),λu _=>hn u u,λu w _ h=>(by rw[show nb (Fs n []) u w=false from hn u w] at h;cases h)⟩,
  ⟨VS.zero,λw h=>(by rw[A4] at h;cases h)⟩,λw=>(by rw[A4];simp[vsOf]),λu w _ h=>(by rw[show nb (Fs n []) u w=false from hn u w] at h;cases h),by simp[vsOf]⟩
def needs (k:Int):Prop:=k=2∨k=3∨k=4
theorem near_ok {n:Nat}(hn:n≤16){l:List Pr}{s:Int}(h:GI n l s){p:Pr}(hby:needs p.2.2→∃b:Nat,p.2.1=b∧has s b=true):In n (Du (Fs n l) p)∧∀w,has (Du (Fs n l) p) w=true→has s w=true:=by
 have key:VS (Du (Fs n l) p)∧∀w,has (Du (Fs n l) p) w=true→has s w=true:=by
  unfold Du
  by_cases k2:p.2.2=2
  ·obtain⟨b,e,hb⟩:=hby (.inl k2)
   have:=h.i.2 b hb
   rw[if_pos k2,e]
   refine⟨VS.ishl _ _,λw hw=> ?_⟩
   rw[Bv (by omega)] at hw
   rw[of_decide_eq_true hw];exact hb
  ·rw[if_neg k2]
   by_cases k3:p.2.2=3
   ·obtain⟨b,e,hb⟩:=hby (.inr (.inl k3))
    have hbn:=h.i.2 b hb
    rw[if_pos k3,e,Int.toNat_natCast]
    exact⟨h.f.vs b hbn,λw hw=>(h.thr b w hbn hw).2⟩
   ·rw[if_neg k3]
    by_cases k4:p.2.2=4
    ·obtain⟨b,e,hb⟩:=hby (.inr (.inr k4))
     have hbn:=h.i.2 b hb
     rw[if_pos k4,e,Int.toNat_natCast]
     refine⟨VS.ior _ _,λw hw=> ?_⟩
     rw[BV (h.f.vs b hbn) (VS.ishl _ _),Bv (by omega),Bool.or_eq_true] at hw
     rcases hw with hw|hw
     ·exact(h.thr b w hbn hw).2
     ·rw[of_decide_eq_true hw];exact hb
    ·rw[if_neg k4]
     exact⟨VS.zero,λw hw=>by rw[A4] at hw;cases hw⟩
 exact⟨⟨key.1,λw hw=>h.i.2 w (key.2 w hw)⟩,key.2⟩
theorem GI.step {n:Nat}(hn:n≤16){l:List Pr}{s:Int}(h:GI n l s){p:Pr}{v:Nat}(e:p.1=v)(hv:v<n)(hsv:has s v=false)(hby:needs p.2.2→∃b:Nat,p.2.1=b∧has s b=true):
  GI n (p::l) (ior .u32 s (ishl .u32 1 (v:Int)))∧Fs n (p::l)=DI n (Fs n l) v (Du (Fs n l) p)∧has (Du (Fs n l) p) v=false∧∀w,nb (Fs n l) v w=false:=by
 obtain⟨hS,hSs⟩:=near_ok hn h hby
 have hSv:has (Du (Fs n l) p) v=false:=by
  rw[Bool.eq_false_iff];intro hc;rw[hSs v hc] at hsv;cases hsv
 have eF:Fs n (p::l)=DI n (Fs n l) v (Du (Fs n l) p):=by
  show DI n (Fs n l) p.1.toNat _=_
  rw[e,Int.toNat_natCast]
 have hh:∀w,has (ior .u32 s (ishl .u32 1 (v:Int))) w=(has s w||decide (w=v)):=λw=>by rw[BV h.i.1 (VS.ishl _ _),Bv (by omega)]
 refine⟨⟨by rw[eF];exact joinF_ok hn h.f hS hv hSv,⟨VS.ior _ _,λw hw=> ?_⟩,λw=> ?_,λu w hu hw=> ?_,λx hx=> ?_⟩,eF,hSv,λw=> ?_⟩
 ·rw[hh,Bool.or_eq_true,decide_eq_true_eq] at hw
  rcases hw with hw|hw
  ·exact h.i.2 w hw
  ·omega
 ·rw[hh,Bool.or_eq_true,decide_eq_true_eq,h.mem]
  unfold vsOf
  rw[List.map_cons,List.mem_cons,e]
  constructor
  ·rintro(hw|hw)
   ·exact .inr hw
   ·exact .inl (by omega)
  ·rintro(hw|hw)
   ·exact .inr (by omega)
   ·exact .inl hw
 ·rw[eF,Dt hn h.f hS hv hu] at hw
  simp only[hh,Bool.or_eq_true,Bool.and_eq_true,decide_eq_true_eq] at hw ⊢
  rcases hw with(hw|hw)|hw
  ·have:=h.thr u w hu hw
   exact⟨.inl this.1,.inl this.2⟩
  ·exact⟨.inr hw.1,.inl (hSs w hw.2)⟩
  ·exact⟨.inl (hSs u hw.1),.inr hw.2⟩
 ·unfold vsOf at hx
  rw[List.map_cons,List.mem_cons,e] at hx
  rcases hx with rfl|hx
  ·omega
  ·exact h.nonneg x hx
 ·rw[Bool.eq_false_iff];intro hc
  rw[(h.thr v w hv hc).1] at hsv;cases hsv
def Lsts (g:LL)(K:Int):Prop:=In g.length K∧(∀u w,has K u=true→has K w=true→¬adj g u w)∧∀w,w<g.length→has K w=true∨∃v,has K v=true∧adj g v w
structure LSt (g:LL)(l:LI):Prop where
 up:l.Pairwise (λa b=>skey a<skey b)
 mem:∀K,K∈l↔Lsts g K
theorem LSt.vs {g:LL}{l:LI}(h:LSt g l):∀s∈l,VS s:=λs hs=>((h.mem s).1 hs).1.1
theorem LSt.len {g:LL}{l:LI}(hg:GOk g)(h:LSt g l):l.length≤65536:=masks_len hg.n16 (λK hK=>((h.mem K).1 hK).1) (rise_nodup h.up)
theorem row_more (g:LL)(v:Nat):row (g++[[]]) v=row g v:=by
 unfold row
 rw[List.getD_eq_getElem?_getD,List.getD_eq_getElem?_getD]
 by_cases h:v<g.length
 ·rw[List.getElem?_append_left h]
 ·rw[List.getElem?_append_right (by omega),List.getElem?_eq_none (show g.length≤v by omega)]
  by_cases h2:v-g.length=0
  ·rw[h2];rfl
  ·rw[List.getElem?_eq_none (by simp;omega)]
theorem GOk.more {g:LL}(hg:GOk g)(h16:g.length<16):GOk (g++[[]]):=by
 have hl:(g++[[]]).length=g.length+1:=by simp
 have hadj:∀u v,adj (g++[[]]) u v↔adj g u v:=λu v=>by unfold adj;rw[row_more]
 have hn:∀u v,adj g u v→u<g.length:=λu v h=>by
  apply Classical.byContradiction
  intro hc
  unfold adj row at h
  rw[List.getD_eq_getElem?_getD,List.getElem?_eq_none (by omega)] at h
  simp at h
 refine⟨by omega,by omega,λv _=> ?_,λv _ h=> ?_,λu v _ h=> ?_⟩
 ·rw[row_more]
  by_cases hv:v<g.length
  ·exact⟨(hg.rows v hv).1,λx hx=>by have:=(hg.rows v hv).2 x hx;omega⟩
  ·unfold row
   rw[List.getD_eq_getElem?_getD,List.getElem?_eq_none (by omega)]
   exact⟨by simp[Inc],by simp⟩
 ·rw[hadj] at h;exact hg.irr v (hn v v h) h
 ·rw[hadj] at h ⊢;exact hg.sym u v (hn u v h) h
def AllGo (g:LL):Prop:=Elim (adj g) g.length (λw=>w<g.length)
theorem AllGo.add {g y:LL}(hg:GOk g)(h:AllGo g){x:LI}(hx:SetOf x (g.length:Int))(hl:y.length=g.length+1)
  (hA:∀u w:Nat,adj y u w↔adj g u w∨(u=g.length∧(w:Int)∈x)∨(w=g.length∧(u:Int)∈x)) (hc:canR (adj y) (λw=>w<g.length+1) g.length):AllGo y:=by
 unfold AllGo
 rw[hl]
 refine⟨g.length,by omega,hc,h.congr (λw=>⟨λh=>⟨by omega,by omega⟩,λh=>by omega⟩) (λu w hu hw=> ?_)⟩
 rw[hA]
 constructor
 ·rintro(h|⟨h,_⟩|⟨h,_⟩)
  ·exact h
  ·omega
  ·omega
 ·exact .inl
def lf (xs:List (Int×Int))(v:Nat):Int:=(xs.getD v (0,0)).1
def rt (xs:List (Int×Int))(v:Nat):Int:=(xs.getD v (0,0)).2
def meetB (xs:List (Int×Int))(u v:Nat):Bool:=decide (lf xs u≤rt xs v)&&decide (lf xs v≤rt xs u)
structure IvL (xs:List (Int×Int)):Prop where
 n1:1≤xs.length
 n16:xs.length≤16
 ok:∀x∈xs,0≤x.1∧x.1≤x.2∧x.2≤100
def rowI (xs:List (Int×Int))(v m:Nat):LI:=((List.range m).filter λu=>decide (u≠v)&&meetB xs u v).map Int.ofNat
def gI (xs:List (Int×Int)):LL:=(List.range xs.length).map λv=>rowI xs v xs.length
theorem gI_len (xs:List (Int×Int)):(gI xs).length=xs.length:=by simp[gI]
theorem mem_rowI {xs:List (Int×Int)}{v m:Nat}{x:Int}:x∈rowI xs v m↔∃u:Nat,x=(u:Int)∧u<m∧u≠v∧meetB xs u v=true:=by
 unfold rowI
 simp only[List.mem_map,List.mem_filter,List.mem_range,Bool.and_eq_true,decide_eq_true_eq]
 constructor
 ·rintro⟨u,⟨h1,h2,h3⟩,rfl⟩;exact⟨u,rfl,h1,h2,h3⟩
 ·rintro⟨u,rfl,h1,h2,h3⟩;exact⟨u,⟨h1,h2,h3⟩,rfl⟩
theorem row_gI {xs:List (Int×Int)}{v:Nat}(hv:v<xs.length):row (gI xs) v=rowI xs v xs.length:=by
 unfold row gI
 rw[Ar (by simpa using hv)];simp
theorem adj_gI {xs:List (Int×Int)}{v u:Nat}(hv:v<xs.length):adj (gI xs) v u↔u<xs.length∧u≠v∧meetB xs u v=true:=by
 unfold adj
 rw[row_gI hv,mem_rowI]
 constructor
 ·rintro⟨w,e,h⟩
  obtain rfl:u=w:=by omega
  exact h
 ·intro h;exact⟨u,rfl,h⟩
theorem meetB_comm (xs:List (Int×Int))(u v:Nat):meetB xs u v=meetB xs v u:=by unfold meetB;exact Bool.and_comm _ _
theorem rowI_inc (xs:List (Int×Int))(v m:Nat):Inc (rowI xs v m):=by
 unfold Inc rowI
 rw[List.pairwise_map]
 refine List.Pairwise.imp (fun{a b} h=>by show (a:Int)<(b:Int);omega) (List.Pairwise.filter _ List.pairwise_lt_range)
theorem gI_ok {xs:List (Int×Int)}(h1:1≤xs.length)(h16:xs.length≤16):GOk (gI xs):=by
 have hl:=gI_len xs
 refine⟨by omega,by omega,λv hv=> ?_,λv hv ha=> ?_,λu v hu ha=> ?_⟩
 ·rw[hl] at hv ⊢
  rw[row_gI hv]
  refine⟨rowI_inc _ _ _,λx hx=> ?_⟩
  obtain⟨u,rfl,h2,_⟩:=mem_rowI.1 hx
  omega
 ·rw[hl] at hv
  exact((adj_gI hv).1 ha).2.1 rfl
 ·rw[hl] at hu
  obtain⟨a,b,c⟩:=(adj_gI hu).1 ha
  exact(adj_gI a).2 ⟨hu,λe=>b e.symm,by rw[meetB_comm];exact c⟩
theorem IvL.g {xs:List (Int×Int)}(h:IvL xs):GOk (gI xs):=gI_ok h.n1 h.n16
theorem IvL.at {xs:List (Int×Int)}(h:IvL xs){v:Nat}(hv:v<xs.length):0≤lf xs v∧lf xs v≤rt xs v∧rt xs v≤100:=by
 unfold lf rt
 rw[Ar hv]
 exact h.ok _ (List.getElem_mem hv)
section
variable {xs : List (Int × Int)} (h : IvL xs)
include h
end
end Go.Sx

namespace Go.Sx
section
variable {g : LL} (hg : GOk g) {l o : LI} (hl : GC g l) (h16 : l.length ≤ 16) (ho : Goes l 0 o) (hol : o.length ≤ 32)
include hg hl h16 ho hol
end
end Go.Sx

namespace Go.Sx
section
variable {g : LL} (hg : GOk g)
include hg
omit hg in
theorem Apt.swap {ad:Nat→Nat→Prop}{X:Nat→Prop}(hs:∀a b,ad a b→ad b a){a b c:Nat}(h:Apt ad X a b c):Apt ad X b a c:=by
 obtain⟨h1,h2,h3,n1,n2,n3,a1,a2,a3,p1,p2,p3⟩:=h
 exact⟨h2,h1,h3,n1.symm,n3,n2,λe=>a1 (hs _ _ e),a3,a2,Cn.sym hs ⟨h1,n2,λe=>a2 (hs _ _ e)⟩ p1,p3,p2⟩
end
end Go.Sx

namespace Go.Sx
section
variable {g : LL} (hg : GOk g)
include hg
end
end Go.Sx

namespace Go.Sx
abbrev ap (a b:Nat):Int×Int:=((a:Int),(b:Int))
section
variable {g : LL} (hg : GOk g)
include hg
end
end Go.Sx

namespace Go.Sx
section
variable {g : LL} (hg : GOk g)
include hg
theorem pairs_few {L:ArL}(hn:L.Nodup)(h:∀x∈L,∃c d:Nat,x=ap c d∧c<g.length∧d<g.length):L.length≤256:=by
 have h16:=hg.n16
 have:=Bi (l:=L.map λx=>x.1*16+x.2) (m:=(List.range 256).map Int.ofNat) (by
  unfold List.Nodup
  rw[List.pairwise_map]
  refine List.Pairwise.imp_of_mem (fun{x y} hx hy hne he=> ?_) hn
  obtain⟨c,d,rfl,h1,h2⟩:=h x hx
  obtain⟨c',d',rfl,h3,h4⟩:=h y hy
  apply hne
  dsimp only at he
  have:c=c'∧d=d':=by omega
  rw[this.1,this.2]) (λz hz=>by
  obtain⟨x,hx,rfl⟩:=List.mem_map.1 hz
  obtain⟨c,d,rfl,h1,h2⟩:=h x hx
  exact List.mem_map.2 ⟨c*16+d,List.mem_range.2 (by omega),by simp⟩)
 simpa using this
structure Fnd (g:LL)(u v:Nat)(M:ArM)(L:ArL):Prop where
 eq:L=M.map (·.1)
 nd:L.Nodup
 kl:∀x∈L,∃c d:Nat,x=ap c d∧Kl (adj g) u v c d
 st:ap u v∈L
theorem Fnd.few {u v:Nat}(huv:adj g u v){M:ArM}{L:ArL}(h:Fnd g u v M L):L.length≤256:=pairs_few hg h.nd λx hx=>by
 obtain⟨c,d,rfl,hk⟩:=h.kl x hx
 have he:=hk.edge huv
 exact⟨c,d,rfl,DR hg he,hg.lt (DR hg he) he⟩
end
end Go.Sx

namespace Go.Sx
abbrev Vx (n at' x:Nat):Prop:=x<n∧x≠at'
def PP (F:LI)(n:Nat)(S:Nat→Prop):Prop:=∀c x,S c→S x→x≠c→(∀w,Ad F c w→Cn (Ad F) (Vx n c) x w→S w)∧∀y,S y→y≠c→Cn (Ad F) (Vx n c) x y→Cn (Ad F) (λz=>S z∧z≠c) x y
structure Leaf (F:LI)(n:Nat)(S:Int):Prop where
 i:In n S
 ne:∃v,El S v
 j:Joint (Ad F) (El S)
 cut:∀v,El S v→Joint (Ad F) (Mn S v)
 p:PP F n (El S)
def Two (S:Int):Prop:=∃x y,El S x∧El S y∧x≠y
section
variable {F : LI} {n : Nat} (hn : n ≤ 16) (hF : FOk F n)
include hn hF
structure Side (F:LI)(n:Nat)(T Q:Nat→Prop)(v:Nat):Prop where
 tn:∀x,T x→x<n
 me:T v
 sub:∀x,Q x→T x∧x≠v
 cn:∀x y,Q x→(Q y↔Cn (Ad F) (λz=>T z∧z≠v) x y)
 ne:∃x,Q x
omit hn in
theorem Side.nb {T Q:Nat→Prop}{v:Nat}(h:Side F n T Q v){a b:Nat}(ha:Q a)(hb:T b)(hbv:b≠v)(hab:Ad F a b):Q b:=(h.cn a b ha).2 (Cn.refl.step hab ⟨hb,hbv⟩)
omit hn in
theorem Side.part {T Q:Nat→Prop}{v:Nat}(h:Side F n T Q v):Joint (Ad F) Q:=λx y hx hy=>
 ((h.cn x y hx).1 hy (λz=>Q z∧Cn (Ad F) Q x z) ⟨hx,Cn.refl⟩ (λa b ⟨p,q⟩ hab ⟨hb,hbv⟩=>by
  have:=h.nb hF p hb hbv hab
  exact⟨this,q.step hab this⟩)).2
structure Blk (F:LI)(n:Nat)(T:Int)(L:LI):Prop where
 lf:∀S∈L,Leaf F n S∧∀x,El S x→El T x
 two:Two T→∀S∈L,Two S
 edge:∀u w,El T u→El T w→Ad F u w→∃S∈L,El S u∧El S w
 one:¬Two T→L=[T]
end
end Go.Sx

namespace Go.Sx
section
variable {g : LL} (hg : GOk g)
include hg
end
end Go.Sx

namespace Go.Sx
def pr (a b:Nat):LI:=[(a:Int),(b:Int)]
theorem bnd_eq {α β:Type}{e:Option α}{a:α}{k:α→Option β}(h:e=some a):e.bind k=k a:=by rw[h];rfl
def Clo (g:LL)(u v a b:Nat):Prop:=∀T:Nat→Nat→Prop,T u v→T v u→(∀a b w,T a b→adj g a w→Cn (adj g) (Vx g.length a) b w→T a w∧T w a)→T a b
theorem Clo.base {g:LL}{u v:Nat}:Clo g u v u v:=λ_ h _ _=>h
theorem Clo.next {g:LL}{u v a b w:Nat}(h:Clo g u v a b)(ha:adj g a w)(hc:Cn (adj g) (Vx g.length a) b w):Clo g u v a w:=λT h1 h2 h3=>(h3 _ _ _ (h T h1 h2 h3) ha hc).1
theorem Clo.sym {g:LL}{u v a b:Nat}(h:Clo g u v a b):Clo g u v b a:=
 (h (λa b=>Clo g u v a b∧Clo g u v b a) ⟨Clo.base,λ_ _ h _=>h⟩ ⟨λ_ _ h _=>h,Clo.base⟩ (λa b w ⟨p,_⟩ q r=>⟨⟨p.next q r,λT h1 h2 h3=>(h3 _ _ _ (p T h1 h2 h3) q r).2⟩,⟨λT h1 h2 h3=>(h3 _ _ _ (p T h1 h2 h3) q r).2,p.next q r⟩⟩)).2
structure BI (g:LL)(u v:Nat)(E Sn:LL):Prop where
 e1:∀e∈E,∃a b:Nat,e=pr a b∧a<g.length∧adj g a b∧Clo g u v a b
 e2:∀a b:Nat,pr a b∈Sn↔pr a b∈E∨pr b a∈E
 e3:∀s∈Sn,∃a b:Nat,s=pr a b
 nd:E.Nodup
 e4:pr u v∈E
 sl:Sn.length=2*E.length
section
variable {g : LL} (hg : GOk g) {u v : Nat}
include hg
theorem BI.short {E Sn:LL}(h:BI g u v E Sn):E.length≤256:=by
 have h16:=hg.n16
 have hinj:(E.map λe=>e.getD 0 0*16+e.getD 1 0).Nodup:=by
  unfold List.Nodup
  rw[List.pairwise_map]
  refine List.Pairwise.imp_of_mem (fun{x y} hx hy hxy he=> ?_) h.nd
  obtain⟨a,b,rfl,ha,hab,_⟩:=h.e1 x hx
  obtain⟨c,d,rfl,hc,hcd,_⟩:=h.e1 y hy
  have hb:=hg.lt ha hab;have hd:=hg.lt hc hcd
  apply hxy
  have he':(a:Int)*16+(b:Int)=(c:Int)*16+(d:Int):=he
  obtain rfl:a=c:=by omega
  obtain rfl:b=d:=by omega
  rfl
 have:=Bi (m:=(List.range 256).map Int.ofNat) hinj (λx hx=>by
  obtain⟨e,he,rfl⟩:=List.mem_map.1 hx
  obtain⟨a,b,rfl,ha,hab,_⟩:=h.e1 e he
  have hb:=hg.lt ha hab
  refine List.mem_map.2 ⟨a*16+b,List.mem_range.2 (by omega),?_⟩
  show ((a*16+b:Nat):Int)=(a:Int)*16+(b:Int)
  omega)
 simpa using this
end
end Go.Sx

namespace Go.Sx
section
variable {g : LL} (hg : GOk g) {u v : Nat}
include hg
end
end Go.Sx

namespace Go.Sx
theorem l19Ahead_eq (x y:LI)(hx:x.length≤100000):∃r,D.D1 x y=some r∧(r=true↔cz x y<0):=by
 have key:∀(d i:Nat),x.length≤i+d→i≤x.length→i≤y.length→
   (Aq (σ:=Int) (ρ:=(Unit) ⊕ (Bool)) (fun(x_76:Int)=>cond ((decide (x_76<(x.length:Int)))&&(decide (x_76<(y.length:Int)))) ((idx x x_76).bind λe_117=>(idx y x_76).bind λe_123=>cond (e_117 !=e_123) ((idx x x_76).bind λe_132=>(idx y x_76).bind λe_138=>some (.inr (.inr (decide (e_132<e_138))))) (some (.inl (IntKind.i64.wrap (x_76+1))))) (some (.inr (.inl ())))) (i:Int)=some (.inl ())∧(cz (x.drop i) (y.drop i)<0↔x.length<y.length))∨
   ∃r,Aq (σ:=Int) (ρ:=(Unit) ⊕ (Bool)) (fun(x_76:Int)=>cond ((decide (x_76<(x.length:Int)))&&(decide (x_76<(y.length:Int)))) ((idx x x_76).bind λe_117=>(idx y x_76).bind λe_123=>cond (e_117 !=e_123) ((idx x x_76).bind λe_132=>(idx y x_76).bind λe_138=>some (.inr (.inr (decide (e_132<e_138))))) (some (.inl (IntKind.i64.wrap (x_76+1))))) (some (.inr (.inl ())))) (i:Int)=some (.inr r)∧(r=true↔cz (x.drop i) (y.drop i)<0):=by
  intro d
  induction d with
  |zero=>
   intro i h1 h2 h3
   obtain rfl:i=x.length:=by omega
   left
   refine⟨Bk ?_,?_⟩
   ·simp only[A3,Bool.false_and,cond_false]
   ·rw[List.drop_length]
    cases hy:y.drop x.length with
    |nil=>
     have:=congrArg List.length hy
     simp at this
     simp[cz];omega
    |cons b t=>
     have:=congrArg List.length hy
     simp at this
     simp[cz];omega
  |succ d ih=>
   intro i h1 h2 h3
   by_cases hix:i<x.length
   ·by_cases hiy:i<y.length
    ·rw[List.drop_eq_getElem_cons hix,List.drop_eq_getElem_cons hiy]
     by_cases he:x[i]=y[i]
     ·have hb:(x[i] !=y[i])=false:=by simp[he]
      rw[B2 (s':=((i+1:Nat):Int)) (by simp only[dlt hix,dlt hiy,Bool.and_self,cond_true,Ax hix,Ax hiy,bs,hb,cond_false,wq i])]
      have hcz:cz (x[i]::x.drop (i+1)) (y[i]::y.drop (i+1))=cz (x.drop (i+1)) (y.drop (i+1)):=by
       rw[he];simp[cz]
      rw[hcz]
      exact ih (i+1) (by omega) (by omega) (by omega)
     ·right
      have hb:(x[i] !=y[i])=true:=by simpa using he
      refine⟨decide (x[i]<y[i]),Bk (by simp only[dlt hix,dlt hiy,Bool.and_self,cond_true,Ax hix,Ax hiy,bs,hb]),?_⟩
      rw[decide_eq_true_eq]
      simp only[cz]
      by_cases hlt:x[i]<y[i]
      ·simp[hlt]
      ·have hgt:y[i]<x[i]:=by omega
       simp[hlt,hgt]
    ·left
     refine⟨Bk ?_,?_⟩
     ·have:decide ((i:Int)<(y.length:Int))=false:=by simp;omega
      simp only[this,Bool.and_false,cond_false]
     ·rw[List.drop_eq_getElem_cons hix,List.drop_of_length_le (l:=y) (by omega)]
      simp[cz];omega
   ·obtain rfl:i=x.length:=by omega
    left
    refine⟨Bk ?_,?_⟩
    ·simp only[A3,Bool.false_and,cond_false]
    ·rw[List.drop_length]
     cases hy:y.drop x.length with
     |nil=>
      have:=congrArg List.length hy
      simp at this
      simp[cz];omega
     |cons b t=>
      have:=congrArg List.length hy
      simp at this
      simp[cz];omega
 unfold D.D1
 rcases key x.length 0 (by omega) (by omega) (by omega) with⟨e,h⟩|⟨r,e,h⟩
 ·refine⟨decide ((x.length:Int)<(y.length:Int)),(bnd_eq e).trans rfl,?_⟩
  rw[decide_eq_true_eq]
  rw[List.drop_zero,List.drop_zero] at h
  rw[h];omega
 ·rw[List.drop_zero,List.drop_zero] at h
  exact⟨r,(bnd_eq e).trans rfl,h⟩
theorem l19Put_any {L:LL}(hL:L.length≤100000)(hr:∀s∈L,s.length≤100)(x:LI):∃L',D.G1 L x=some L'∧((L'=L∧x∈L)∨∃k,k≤L.length∧L'=L.take k++[x]++L.drop k):=by
 unfold D.G1
 refine AB (λs=>∃i:Nat,s=(i:Int)∧i≤L.length) (λs=>L.length-s.toNat) (λr:Int=>∃i:Nat,r=(i:Int)∧i≤L.length) ?_ ⟨0,rfl,Nat.zero_le _⟩ ?_
 ·rintro _ ⟨i,rfl,hi⟩
  by_cases hil:i<L.length
  ·obtain⟨r,er,_⟩:=l19Ahead_eq L[i] x (by have:=hr _ (List.getElem_mem hil);omega)
   rw[dlt hil,cond_true,Ax hil,bs,er,bs,bs]
   cases r
   ·rw[cond_false];exact⟨_,rfl,i,rfl,hi⟩
   ·rw[cond_true,wi (by omega)]
    exact⟨_,rfl,⟨i+1,rfl,hil⟩,by dsimp only;omega⟩
  ·obtain rfl:i=L.length:=by omega
   rw[A3,cond_false,bs,cond_false]
   exact⟨_,rfl,L.length,rfl,Nat.le_refl _⟩
 ·rintro _ ⟨i,rfl,hi⟩
  have hput:∃y,((BF L 0 (i:Int)).bind λl_244=>(AC ([]:LL) l_244).bind λl_248=>(AC l_248 ([x]:LL)).bind λl_258=>(BF L (i:Int) (L.length:Int)).bind λl_264=>(AC l_258 l_264).bind λl_268=>some l_268)=some y∧((y=L∧x∈L)∨∃k,k≤L.length∧y=L.take k++[x]++L.drop k):=by
   rw[DO hi,bs,AQ (by simp;omega),bs,List.nil_append,AQ (by simp;omega),bs,Fu hi,bs,AQ (by simp;omega),bs]
   exact⟨_,rfl,.inr ⟨i,hi,rfl⟩⟩
  by_cases hil:i<L.length
  ·have hsh:Sh L[i]:=by have:=hr _ (List.getElem_mem hil);unfold Sh;omega
   rw[dlt hil,cond_true,Ax hil,bs,l1Same_eq _ _ hsh,bs,bs]
   by_cases he:L[i]=x
   ·rw[decide_eq_true he,cond_true]
    exact⟨_,rfl,.inl ⟨rfl,he▸List.getElem_mem hil⟩⟩
   ·rw[decide_eq_false he,cond_false]
    exact hput
  ·obtain rfl:i=L.length:=by omega
   rw[A3,cond_false,bs,cond_false]
   exact hput
def Prs (L:LL):Prop:=∀s∈L,∃a b:Nat,s=pr a b
theorem Prs.put {L:LL}(h:Prs L)(hL:L.length≤10000)(a b:Nat):∃L',D.G1 L (pr a b)=some L'∧Prs L'∧L'.length≤L.length+1∧(∀y,y∈L'↔y=pr a b∨y∈L)∧(pr a b∉L→L'.Perm (pr a b::L)):=by
 obtain⟨L',e,h1⟩:=l19Put_any (L:=L) (by omega) (λs hs=>by obtain⟨c,d,rfl⟩:=h s hs;simp[pr]) (pr a b)
 refine⟨L',e,?_⟩
 rcases h1 with⟨rfl,hm⟩|⟨k,hk,rfl⟩
 ·exact⟨h,by omega,λy=>⟨.inr,λhy=>hy.elim (λe=>e▸hm) id⟩,λhn=>absurd hm hn⟩
 ·have hp:(L.take k++[pr a b]++L.drop k).Perm (pr a b::L):=by
   rw[List.append_assoc]
   refine List.perm_middle.trans ?_
   show (pr a b::(L.take k++L.drop k)).Perm (pr a b::L)
   rw[List.take_append_drop]
  refine⟨λs hs=> ?_,by rw[hp.length_eq];simp,λy=>by rw[hp.mem_iff];simp,λ_=>hp⟩
  rcases List.mem_cons.1 (hp.mem_iff.1 hs) with rfl|hs
  ·exact⟨a,b,rfl⟩
  ·exact h s hs
section
variable {g : LL} (hg : GOk g)
include hg
end
end Go.Sx

namespace Go.Sx
section
variable {g : LL} (hg : GOk g)
include hg
structure Cls (g:LL)(u v:Nat)(todo out:LL):Prop where
 kl:∀x∈out,∃c d:Nat,x=pr c d∧Kl (adj g) u v c d
 nd:out.Nodup
 st:pr u v∈out
 td:∀x∈todo,x∈out
theorem prs_few {L:LL}(hn:L.Nodup)(h:∀x∈L,∃c d:Nat,x=pr c d∧c<g.length∧d<g.length):L.length≤256:=by
 have h16:=hg.n16
 have:=Bi (l:=L.map λx=>x.getD 0 0*16+x.getD 1 0) (m:=(List.range 256).map Int.ofNat) (by
  unfold List.Nodup
  rw[List.pairwise_map]
  refine List.Pairwise.imp_of_mem (fun{x y} hx hy hne he=> ?_) hn
  obtain⟨c,d,rfl,h1,h2⟩:=h x hx
  obtain⟨c',d',rfl,h3,h4⟩:=h y hy
  apply hne
  simp[pr] at he
  have:c=c'∧d=d':=by omega
  rw[this.1,this.2]) (λz hz=>by
  obtain⟨x,hx,rfl⟩:=List.mem_map.1 hz
  obtain⟨c,d,rfl,h1,h2⟩:=h x hx
  exact List.mem_map.2 ⟨c*16+d,List.mem_range.2 (by omega),by simp[pr]⟩)
 simpa using this
theorem Cls.few {u v:Nat}(huv:adj g u v){todo out:LL}(h:Cls g u v todo out):out.length≤256:=prs_few hg h.nd λx hx=>by
 obtain⟨c,d,rfl,hk⟩:=h.kl x hx
 have he:=hk.edge huv
 exact⟨c,d,rfl,DR hg he,hg.lt (DR hg he) he⟩
end
end Go.Sx

namespace Go.Sx
section
variable {g : LL} {o F L : LI} (hg : GOk g) (ho : OOk g o) (hF : Fill g o F L)
include hg ho hF
end
end Go.Sx

namespace Go.Sx
section
variable {g : LL} {o F L : LI} (hg : GOk g) (ho : OOk g o) (hF : Fill g o F L)
include hg ho hF
end
end Go.Sx

namespace Go.Sx
theorem GOk.shr {g:LL}(hg:GOk g):Sh2 g:=by
 have h16:=hg.n16
 exact⟨by unfold Sh;omega,λr hr=>by have:=(hg.mem0 hr).1;unfold Sh;omega⟩
structure PB (g bags:LL):Prop where
 n16:bags.length≤16
 sets:∀i,i<bags.length→SetOf (bags.getD i []) g.length
 some:∀i,i<bags.length→bags.getD i []≠[]
 all:∀v:Nat,v<g.length→∃i,i<bags.length∧(v:Int)∈bags.getD i []
 edge:∀u v:Nat,u<g.length→adj g u v→∃i,i<bags.length∧(u:Int)∈bags.getD i []∧(v:Int)∈bags.getD i []
 run:∀(v:Nat) (i j k:Nat),i<j→j<k→k<bags.length→(v:Int)∈bags.getD i []→(v:Int)∈bags.getD k []→(v:Int)∈bags.getD j []
theorem PB.sh {g bags:LL}(hg:GOk g)(h:PB g bags):Sh2 bags:=by
 have:=h.n16;have:=hg.n16
 refine⟨by unfold Sh;omega,λb hb=> ?_⟩
 obtain⟨i,hi,rfl⟩:=List.getElem_of_mem hb
 have:=(h.sets i hi).length_le (by omega)
 rw[Ar hi] at this
 unfold Sh;omega
section
variable {g : LL} {o : LI} (hg : GOk g) (ho : OOk g o)
include hg ho
end
section
variable {g : LL} {o : LI} (hg : GOk g) (ho : OOk g o)
include hg ho
end
section
variable {g bags : LL} (hg : GOk g) (h : PB g bags)
include hg h
end
section
variable {g : LL} {o : LI} (hg : GOk g) (ho : OOk g o)
include hg ho
end
end Go.Sx

namespace Go.Sx
section
variable {B K : LL} (hB : Sh2 B) (hK : Sh2 K)
include hB hK
end
section
variable {g B K : LL} (hg : GOk g) (hB : Sh2 B) (hK : Sh2 K)
include hg hB hK
end
end Go.Sx

namespace Go.Sx
section
variable {g B K : LL} (hg : GOk g) (hs : ∀ b ∈ B, SetOf b (g.length : Int)) (hBl : B.length ≤ 16)
include hg hs hBl
end
section
variable {g B K : LL} (hg : GOk g) (hB : Sh2 B) (hK : Sh2 K)
include hg hB hK
end
end Go.Sx

namespace Go.Sx
def prt (s t:Int):Bool:=(iandNot .u32 s t)==0
def ren (gone kept x:Int):Int:=if gone<(if x=gone then kept else x) then(if x=gone then kept else x)-1 else(if x=gone then kept else x)
def lnk (gone kept:Int)(l:LI):Option LI:=if ren gone kept (l.getD 0 0)=ren gone kept (l.getD 1 0) then none else some (Cv (ren gone kept (l.getD 0 0)) (ren gone kept (l.getD 1 0)))
structure TS (M:LI)(K:LL):Prop where
 n16:M.length≤16
 vs:∀s∈M,VS s
 lk:∀l∈K,LinkIn M.length l
 k16:K.length≤16
theorem ren_rng {n g k:Nat}(hg:g<n)(hk:k<n)(hgk:g≠k){a:Nat}(ha:a<n):0≤ren g k a∧ren g k a<((n-1:Nat):Int):=by
 unfold ren
 by_cases e:(a:Int)=g
 ·simp only[e,if_true];split<;>omega
 ·simp only[e,if_false];split<;>omega
theorem lnk_in {n g k:Nat}(hg:g<n)(hk:k<n)(hgk:g≠k){l r:LI}(hl:LinkIn n l)(h:lnk g k l=some r):LinkIn (n-1) r:=by
 obtain⟨a,b,rfl,hab,hb⟩:=hl
 unfold lnk at h
 simp only[List.getD_cons_zero,List.getD_cons_succ] at h
 have h1:=ren_rng hg hk hgk (show a<n by omega)
 have h2:=ren_rng hg hk hgk hb
 split at h
 ·cases h
 ·rename_i hne
  cases h
  generalize ren g k a=x at*
  generalize ren g k b=y at*
  refine⟨(min x y).toNat,(max x y).toNat,?_,by omega,by omega⟩
  unfold Cv
  rw[show (((min x y).toNat:Nat):Int)=min x y by omega,show (((max x y).toNat:Nat):Int)=max x y by omega]
def CM (g k:Nat)(K:LL):LL:=K.filterMap (lnk g k)
theorem mem_merged {n g k:Nat}{K:LL}(hK:∀l∈K,LinkIn n l)(hg:g<n)(hk:k<n)(hgk:g≠k):∀r∈CM g k K,LinkIn (n-1) r:=λr hr=>by
 obtain⟨l,hl,e⟩:=List.mem_filterMap.1 hr
 exact lnk_in hg hk hgk (hK l hl) e
theorem merged_len (g k:Nat)(K:LL):(CM g k K).length≤K.length:=List.length_filterMap_le _ _
section
variable {M : LI} {K : LL} (h : TS M K) {g k : Nat} (hg : g < M.length) (hk : k < M.length) (hgk : g ≠ k)
include h hg hk hgk
theorem TS.merge :TS (M.eraseIdx g) ((CM g k K).mergeSort D6):=by
 have h16:=h.n16
 have hl:(M.eraseIdx g).length=M.length-1:=by rw[List.length_eraseIdx,if_pos hg]
 refine⟨by omega,λs hs=>h.vs s (List.mem_of_mem_eraseIdx hs),λl hl'=> ?_,?_⟩
 ·rw[hl]
  exact mem_merged h.lk hg hk hgk l ((CX _).mem_iff.1 hl')
 ·rw[(CX _).length_eq]
  exact Nat.le_trans (merged_len g k K) h.k16
end
def spareM (M:LI)(l:LI):Option (Nat×Nat):=
 if prt (M.getD (l.getD 1 0).toNat 0) (M.getD (l.getD 0 0).toNat 0) then some ((l.getD 1 0).toNat,(l.getD 0 0).toNat)
 else if prt (M.getD (l.getD 0 0).toNat 0) (M.getD (l.getD 1 0).toNat 0) then some ((l.getD 0 0).toNat,(l.getD 1 0).toNat) else none
def Dj (M:LI)(K:LL):Option (Nat×Nat):=(List.range K.length).findSome? (λi=>spareM M (K.getD i []))
section
variable {M : LI} {K : LL} (h : TS M K)
include h
theorem spareM_in {l:LI}(hl:l∈K){g k:Nat}(e:spareM M l=some (g,k)):g<M.length∧k<M.length∧g≠k:=by
 obtain⟨a,b,rfl,hab,hb⟩:=h.lk l hl
 unfold spareM at e
 simp only[List.getD_cons_zero,List.getD_cons_succ,Int.toNat_natCast] at e
 split at e
 ·cases e;omega
 ·split at e
  ·cases e;omega
  ·cases e
theorem spare_in {g k:Nat}(e:Dj M K=some (g,k)):g<M.length∧k<M.length∧g≠k:=by
 obtain⟨i,hi,e2⟩:=List.exists_of_findSome?_eq_some e
 have hi':=List.mem_range.1 hi
 rw[Ar hi'] at e2
 exact spareM_in h (List.getElem_mem hi') e2
end
end Go.Sx
