/- Parts of the proof: BAW, BBW. -/
import Derived.Test.YtebbefpdncgoiaaGreatDoorBa2
import Derived.Test.YtebbefpdncgoiaaGreatDoorProg
import Derived.KernelRfl
set_option linter.unusedVariables false
set_option linter.unusedSimpArgs false
set_option linter.unusedSectionVars false
set_option maxRecDepth 100000
namespace Go.Proofs.YtebbefpdncgoiaaGreatDoor
open Go Go.Sx
theorem Aw :Tryz.prog.follows .mixedOrders=true:=by kernel_rfl
theorem Pl2 :Cm Tryz.prog 2:=Tryz.isAgg2
theorem T42 :SlT Tryz.prog 42 2 1 8 (.int .i64 0):=⟨Tryz.underlying42,Tryz.t2,by kernel_rfl,by kernel_rfl,by kernel_rfl,by kernel_rfl⟩
theorem Pl190 :Cm Tryz.prog 190:=Tryz.isAgg190
theorem Pl3 :Cm Tryz.prog 3:=Tryz.isAgg3
theorem Pl5 :Cm Tryz.prog 5:=Tryz.isAgg5
theorem T22 :SlT Tryz.prog 22 42 1 24 (.slice none 0 0):=⟨Tryz.underlying22,Tryz.t42,by kernel_rfl,by kernel_rfl,by kernel_rfl,by kernel_rfl⟩
theorem T71 :SlT Tryz.prog 71 76 1 4 (.int .u32 0):=⟨Tryz.underlying71,Tryz.t76,by kernel_rfl,by kernel_rfl,by kernel_rfl,by kernel_rfl⟩
theorem Wk.v1 {W w:World}{G:GH}{H:List Itm}{v0:Value}{x0:(List Int)}{x1:Int}(m:Mem W G w (H))(h0:RSl (RI .i64) G v0 x0){y:Int}(hd:D.v1 x0 x1=some y):
  Calls Tryz.prog 150 #[v0,(.int .i64 x1)] w (Res W G H (fun _ Ho v=>Ho=[]∧v=(.int .i64 y))):=by
 refine As (args:=[v0,(.int .i64 x1)]) (N:=19) [.tmp 4] Tryz.func150 Z Z (Nat.le_of_ble_eq_true Z) Z fun a f=> ?_
 unfold D.v1 at hd
 refine Ac ?_
 refine Ad f Z fun a f=>Aa (Af (Ac ?_))
 refine Ab f Z fun a f=>AZ Tryz.underlying42 f Z Z h0 fun a f=>Ab f Z fun a f=>Aa ?_
 obtain⟨aa,ab,hd⟩:=bind_some hd
 refine AC (fun a w=>∃q_19':Unit,aa= .inl q_19'∧∃(ac:GH),GLe G ac∧Fr a 19 []∧Mem W ac w (H)) ?_ ?_
 ·refine Aj ?_
  refine AA (fun ad a w=>∃ae:Int,ae=ad∧∃(af:GH),GLe G af∧Fr a 19 [(0,v0),(1,(.int .i64 x1)),(7,(.int .i64 (x0.length:Int))),(8,(.int .i64 ae))]∧Mem W af w (H)) ab ⟨_,Z,_,gr,f.k Z,m⟩ ?_
  clear ab f m
  rintro ad ag ah ai a w ⟨ae,rfl,af,aj,f,m⟩
  have h0:=rd1 aj h0
  refine Ac ?_
  refine Ah f Z Z AJ fun a f=>Aa (Af ?_)
  rcases Ae ah with⟨ak,ah⟩|⟨ak,ah⟩
  ·refine Al f Z ak ?_
   refine Am ?_
   refine Af (Aj (Ac ?_))
   refine Ab f Z fun a f=>Ad f Z fun a f=>Aa (Ac ?_)
   refine Ab f Z fun a f=>Ab f Z fun a f=>Ab f Z fun a f=> ?_
   obtain⟨al,am,ah⟩:=bind_some ah
   refine Bf T42 f Z Z Z h0 am fun an ao a ap aq f=> ?_
   subst aq
   refine AG m Pl2 f Z Z ap fun a f=>Ah f Z Z By fun a f=>Aa ?_
   rcases Ae ah with⟨ar,ah⟩|⟨ar,ah⟩
   ·refine Al f Z ar ?_
    refine Ac ?_
    refine Ab f Z fun a f=>Ad f Z fun a f=>Aa ?_
    refine Aq ?_
    obtain rfl:=sj ah
    obtain rfl:=ai _ rfl
    obtain rfl:=sj hd
    exact⟨[(.int .i64 ae)],⟨f.get _ _ Z,trivial⟩,f.defers,_,[],aj,m,Z,Z⟩
   ·refine Ai f Z ar ?_
    refine Am ?_
    refine Ak ?_
    refine Ah f Z Z Ar fun a f=>Ab f Z fun a f=>Aa ?_
    obtain rfl:=sj ah
    exact⟨_,Z,_,Z,_,aj,f.k Z,m⟩
  ·refine Ai f Z ak ?_
   refine Ax Z ?_
   obtain rfl:=sj ah
   obtain rfl:=ai _ rfl
   exact⟨_,Z,_,aj,f.weak trivial,m⟩
 ·rintro a w ⟨_,rfl,ac,au,f,m⟩
  refine Ac ?_
  refine Ad f Z fun a f=>Aa ?_
  refine Aq ?_
  obtain rfl:=sj hd
  exact⟨[(.int .i64 (-1))],⟨f.get _ _ Z,trivial⟩,f.defers,_,[],au,m,Z,Z⟩
theorem Wk.E {W w:World}{G:GH}{H:List Itm}{v0:Value}{x0:(List Int)}{x1:Int}(m:Mem W G w (H))(h0:RSl (RI .i64) G v0 x0){y:Bool}(hd:D.E x0 x1=some y):
  Calls Tryz.prog 109 #[v0,(.int .i64 x1)] w (Res W G H (fun _ Ho v=>Ho=[]∧v=(.bool y))):=by
 refine As (args:=[v0,(.int .i64 x1)]) (N:=9) [.tmp 4] Tryz.func109 Z Z (Nat.le_of_ble_eq_true Z) Z fun a f=> ?_
 unfold D.E at hd
 refine Ac ?_
 refine Ad f Z fun a f=>Aa (Ac ?_)
 refine Ab f Z fun a f=>Ab f Z fun a f=> ?_
 obtain⟨aa,ab,hd⟩:=bind_some hd
 refine Bi f Z Tryz.call150 (Wk.v1 m h0 ab) fun ac w ad m a f=> ?_
 have h0:=rd1 ad h0
 refine Ah f Z Z BM fun a f=>Ad f Z fun a f=>Aa ?_
 refine Aq ?_
 obtain rfl:=sj hd
 exact⟨[(.bool (decide ((0:Int)≤aa)))],⟨f.get _ _ Z,trivial⟩,f.defers,_,[],ad,m,Z,Z⟩
theorem Wk.Z0 {W w:World}{G:GH}{H:List Itm}{v0:Value}{b0:Nat}{x0:(List Int)}(m:Mem W G w (Itm.box b0 42 [v0]::H))(h0:RSl (RI .i64) G v0 x0){y:((List Int))}(hd:D.Z0 x0=some y):
  Calls Tryz.prog 170 #[(.func (.func 172) #[] #[(.pointer (some ⟨b0,0,none⟩))])] w (Res W G H (fun G' Ho v=>∃r0:Value,∃i0:Itm,Ho=[i0]∧r0=v∧Ow (RI .i64) 2 G' i0 r0 y)):=by
 refine As (args:=[(.func (.func 172) #[] #[(.pointer (some ⟨b0,0,none⟩))])]) (N:=5) [.tmp 2] Tryz.func170 Z Z (Nat.le_of_ble_eq_true Z) Z fun a f=> ?_
 unfold D.Z0 at hd
 refine Ac ?_
 refine Ad f Z fun a f=>Aa (Ac ?_)
 refine Ab f Z fun a f=> ?_
 obtain⟨aa,ab,hd⟩:=bind_some hd
 refine AK f Z Tryz.call194 (Wk.w1 m h0 ab) fun ac ad ae w af m ag a f=> ?_
 obtain⟨ah,ai,rfl,rfl,aj⟩:=ag
 refine Ad f Z fun a f=>Aa ?_
 refine Aq ?_
 obtain rfl:=sj hd
 exact⟨[ah],⟨f.get _ _ Z,trivial⟩,f.defers,_,[ai],af,m,_,_,Z,Z,aj⟩
theorem Wk.s {W w:World}{G:GH}{H:List Itm}{x0:Int}(m:Mem W G w (H)){y:Bool}(hd:D.s x0=some y):
  Calls Tryz.prog 164 #[(.int .i64 x0)] w (Res W G H (fun _ Ho v=>Ho=[]∧v=(.bool y))):=by
 refine As (args:=[(.int .i64 x0)]) (N:=6) [.tmp 2] Tryz.func164 Z Z (Nat.le_of_ble_eq_true Z) Z fun a f=> ?_
 unfold D.s at hd
 refine Ac ?_
 refine Ad f Z fun a f=>Aa (Ac ?_)
 refine Ab f Z fun a f=>Ab f Z fun a f=>Ah f Z Z CI fun a f=>Ad f Z fun a f=>Aa ?_
 refine Aq ?_
 obtain rfl:=sj hd
 exact⟨[(.bool (x0 !=x0))],⟨f.get _ _ Z,trivial⟩,f.defers,_,[],gr,m,Z,Z⟩
theorem Wk.b {W w:World}{G:GH}{H:List Itm}{x0:Int}{x1:Int}(m:Mem W G w (H)){y:Bool}(hd:D.b x0 x1=some y):
  Calls Tryz.prog 213 #[(.int .i64 x0),(.int .i64 x1)] w (Res W G H (fun _ Ho v=>Ho=[]∧v=(.bool y))):=by
 refine As (args:=[(.int .i64 x0),(.int .i64 x1)]) (N:=17) [.tmp 4] Tryz.func213 Z Z (Nat.le_of_ble_eq_true Z) Z fun a f=> ?_
 unfold D.b at hd
 refine Ac ?_
 refine Ad f Z fun a f=>Aa (Ac ?_)
 refine Ab f Z fun a f=> ?_
 obtain⟨aa,ab,hd⟩:=bind_some hd
 refine Bi f Z Tryz.call164 (Wk.s m ab) fun ac w ad m a f=>Ab f Z fun a f=> ?_
 obtain⟨ae,af,hd⟩:=bind_some hd
 refine Bz 4 (fun a w=>∃ag,GLe ac ag∧Mem W ag w (H)∧Fr a 17 [(0,(.int .i64 x0)),(1,(.int .i64 x1)),(5,(.int .i64 x0)),(6,(.bool aa)),(7,(.bool aa)),(11,(.bool ae))]) ?_ ?_
 ·rcases Ae af with⟨ah,af⟩|⟨ah,af⟩
  ·refine AB f ah ?_
   refine Ab f Z fun a f=>AB f ah ?_
   obtain⟨ai,aj,af⟩:=bind_some af
   refine Bi f Z Tryz.call164 (Wk.s m aj) fun ak w al m a f=>AB f ah ?_
   refine l_o f (Bd (f.eval Z)) fun a f=>l_o f (AO (f.eval Z) ah (f.eval Z)) fun a f=> ?_
   obtain rfl:=sj af
   exact⟨_,al,m,f.k Z⟩
  ·refine AE f ah fun a f=> ?_
   refine AE f ah fun a f=>AE f ah fun a f=>l_o f (AP (f.eval Z) ah (f.eval Z)) fun a f=> ?_
   obtain rfl:=sj af
   exact⟨_,gr,m,f.k Z⟩
 ·rintro a w ⟨ag,am,m,f⟩
  refine Ab f Z fun a f=> ?_
  refine Bz 4 (fun a w=>∃an,GLe ag an∧Mem W an w (H)∧Fr a 17 [(0,(.int .i64 x0)),(1,(.int .i64 x1)),(5,(.int .i64 x0)),(6,(.bool aa)),(7,(.bool aa)),(11,(.bool ae)),(12,(.bool ae)),(16,(.bool (ae||(decide (x0<x1)))))]) ?_ ?_
  ·rcases Bool.eq_false_or_eq_true ae with ao|ao
   ·refine AE f ao fun a f=> ?_
    refine AE f ao fun a f=>AE f ao fun a f=>l_o f (AO (f.eval Z) ao (f.eval Z)) fun a f=> ?_
    exact⟨_,gr,m,f.weak ⟨Z,Z,Z,Z,Z,Z,Z,by rw[ao];rfl,trivial⟩⟩
   ·refine AB f ao ?_
    refine Ab f Z fun a f=>AB f ao ?_
    refine Ab f Z fun a f=>AB f ao ?_
    refine Ah f Z Z AJ fun a f=>l_o f (AP (f.eval Z) ao (f.eval Z)) fun a f=> ?_
    exact⟨_,gr,m,f.weak ⟨Z,Z,Z,Z,Z,Z,Z,by rw[ao];rfl,trivial⟩⟩
  ·rintro a w ⟨an,ap,m,f⟩
   refine Ad f Z fun a f=>Aa ?_
   refine Aq ?_
   obtain rfl:=sj hd
   exact⟨[(.bool (ae||(decide (x0<x1))))],⟨f.get _ _ Z,trivial⟩,f.defers,_,[],(gt ad (gt am ap)),m,Z,Z⟩
theorem Wk.G0 {W w:World}{G:GH}{H:List Itm}{v0:Value}{it0:Itm}{x0:(List Int)}{x1:Int}{x2:Int}(m:Mem W G w (it0::H))(o0:Ow (RI .i64) 2 G it0 v0 x0){y:((List Int))}(hd:D.G0 x0 x1 x2=some y):
  Calls Tryz.prog 207 #[v0,(.int .i64 x1),(.int .i64 x2)] w (Res W G H (fun G' Ho _=>∃i0:Itm,Ho=[i0]∧Ow (RI .i64) 2 G' i0 v0 y)):=by
 refine As (args:=[v0,(.int .i64 x1),(.int .i64 x2)]) (N:=49) [] Tryz.func207 Z Z (Nat.le_of_ble_eq_true Z) Z fun a f=> ?_
 unfold D.G0 at hd
 refine Ac ?_
 refine Ab f Z fun a f=>Ah f Z Z Ar fun a f=>Ad f Z fun a f=>Aa ?_
 obtain⟨aa,ab,hd⟩:=bind_some hd
 refine AC (fun a w=>∃ac:List Int,ac=aa∧∃(ad:GH) (ae:Itm),GLe G ad∧Fr a 49 []∧Mem W ad w (ae::H)∧Ow (RI .i64) 2 ad ae v0 ac) ?_ ?_
 ·refine Aj ?_
  refine AA (fun af a w=>∃ag:List Int,∃ah:Int,(ag,ah)=af∧∃(ai:GH) (aj:Itm),GLe G ai∧Fr a 49 [(0,v0),(1,(.int .i64 x1)),(2,(.int .i64 x2)),(6,(.int .i64 ah))]∧Mem W ai w (aj::H)∧Ow (RI .i64) 2 ai aj v0 ag) ab ⟨_,_,Z,_,it0,gr,f.k Z,m,o0⟩ ?_
  clear ab f m
  rintro af ak al am a w ⟨ag,ah,rfl,ai,aj,an,f,m,ao⟩
  refine Af (Ac ?_)
  refine Ab f Z fun a f=>Ab f Z fun a f=>Ah f Z Z AJ fun a f=>Aa ?_
  rcases Ae al with⟨ap,al⟩|⟨ap,al⟩
  ·refine Al f Z ap ?_
   refine Am ?_
   refine Af (Aj (Ac ?_))
   refine Ab f Z fun a f=>Ad f Z fun a f=>Aa ?_
   obtain⟨aq,ar,al⟩:=bind_some al
   refine AC (fun a w=>∃au:List Int,au=aq∧∃(av:GH) (aw:Itm),GLe ai av∧Fr a 49 [(0,v0),(1,(.int .i64 x1)),(2,(.int .i64 x2)),(6,(.int .i64 ah))]∧Mem W av w (aw::H)∧Ow (RI .i64) 2 av aw v0 au) ?_ ?_
   ·refine Aj ?_
    refine AA (fun ax a w=>∃ay:List Int,∃az:Int,(ay,az)=ax∧∃(aA:GH) (aB:Itm),GLe ai aA∧Fr a 49 [(0,v0),(1,(.int .i64 x1)),(2,(.int .i64 x2)),(6,(.int .i64 ah)),(7,(.int .i64 az))]∧Mem W aA w (aB::H)∧Ow (RI .i64) 2 aA aB v0 ay) ar ⟨_,_,Z,_,aj,gr,f.k Z,m,ao⟩ ?_
    clear ar f m
    rintro ax aC aD aE a w ⟨ay,az,rfl,aA,aB,aF,f,m,aG⟩
    refine Af (Af ?_)
    refine AT 15 Aw (by kernel_rfl) m ?_
    refine Ag 0 15 Z f Z fun a f=>Ag 1 15 Z f Z fun a f=>q_p 2 15 Z f (fun _=>AD (f.eval Z) (f.eval Z) BV) fun a f=>Ag 3 15 Z f Z fun a f=> ?_
    obtain⟨aH,aI,aD⟩:=bind_some aD
    refine BN (fuel':=0) (listed':= #[true,true,true,true,true,true,true,true,true,true,true,true,true,true,true]) (fun a=>Fr a 49 [(0,v0),(1,(.int .i64 x1)),(2,(.int .i64 x2)),(6,(.int .i64 ah)),(7,(.int .i64 az)),(16,(.int .i64 az)),(17,(.int .i64 x1)),(18,(.bool (decide (x1<az)))),(19,(.bool (decide (x1<az)))),(30,(.bool aH))]) ?_ ?_
    ·intro a f
     refine AI fun aJ w aK m=> ?_
     have aG:=od1 aK aG
     refine Aa ?_
     rcases Ae aD with⟨aL,aD⟩|⟨aL,aD⟩
     ·refine Al f Z aL ?_
      refine Am ?_
      refine Af (Aj ?_)
      refine Bv Aw m ?_
      refine p_p 2 Z (by kernel_rfl) f Z Z Z (fun _=>AX (f.eval Z)) fun a f=>p_p 3 Z (by kernel_rfl) f Z Z Z (fun _=>AX (f.eval Z)) fun a f=>p_p 4 Z (by kernel_rfl) f Z Z Z (fun _=>AD (f.eval Z) (f.eval Z) AH) fun a f=>Bu 28015 12 (by kernel_rfl) Z ?_
      refine Ag 0 28015 Z f Z fun a f=>Ag 1 28015 Z f Z fun a f=>Ag 5 28015 Z f Z fun a f=>Ag 6 28015 Z f Z fun a f=>q_p 7 28015 Z f (fun _=>AD (f.eval Z) (f.eval Z) AH) fun a f=> ?_
      obtain⟨aM,aN,aD⟩:=bind_some aD
      refine Az 8 28015 0 m aG T42 aN Z f Z Z fun aO a aP f=>AL 9 28015 0 aG Pl2 aP aN Z f Z fun aQ a aR f=> ?_
      subst aR
      refine Ag 10 28015 Z f Z fun a f=>Ag 11 28015 Z f Z fun a f=> ?_
      obtain⟨aS,aT,aD⟩:=bind_some aD
      refine Az 12 28015 0 m aG T42 aT Z f Z Z fun aU a aV f=>AL 13 28015 0 aG Pl2 aV aT Z f Z fun aW a aX f=> ?_
      subst aX
      obtain⟨aY,aZ,aD⟩:=bind_some aD
      refine Az 14 28015 0 m aG T42 aZ Z f Z Z fun a0 a a1 f=>AI fun a2 w a3 m=> ?_
      have aG:=od1 a3 aG
      refine Au 0 m aG Z Tryz.sizeOf2 f Z Z a1 aZ Z Z Z fun a4 w m a5=> ?_
      obtain⟨a6,a7,aD⟩:=bind_some aD
      refine AW 0 m a5 Z T42 f Z Z Z a7 fun a8 a a9 f=>Au 0 m a5 Z Tryz.sizeOf2 f Z Z a9 a7 Z Z Z fun ba w m bb=>Aa (Ak ?_)
      refine Ab f Z fun a f=>Ah f Z Z AH fun a f=>Ad f Z fun a f=>Aa ?_
      obtain rfl:=sj aD
      exact⟨_,Z,_,_,Z,_,ba,(gt aF (gt aK a3)),f.k Z,m,bb⟩
     ·refine Ai f Z aL ?_
      refine Ax Z ?_
      obtain rfl:=sj aD
      obtain rfl:=aE _ rfl
      exact⟨_,Z,_,aB,(gt aF aK),f.k Z,m,aG⟩
    ·intro bc
     rcases Ae aI with⟨bd,aI⟩|⟨bd,aI⟩
     ·refine Ag (hw:=wo f bd) 4 15 Z f Z fun a f=> ?_
      refine Ag (hw:=wo f bd) 5 15 Z f Z fun a f=> ?_
      obtain⟨be,bf,aI⟩:=bind_some aI
      refine Az (hw:=wo f bd) 6 15 0 m aG T42 bf Z f Z Z fun bg a bh f=>AL (hw:=wo f bd) 7 15 0 aG Pl2 bh bf Z f Z fun bi a bj f=> ?_
      subst bj
      refine Ag (hw:=wo f bd) 8 15 Z f Z fun a f=>Ag (hw:=wo f bd) 9 15 Z f Z fun a f=>q_p (hw:=wo f bd) 10 15 Z f (fun _=>AD (f.eval Z) (f.eval Z) AH) fun a f=> ?_
      obtain⟨bk,bl,aI⟩:=bind_some aI
      refine Az (hw:=wo f bd) 11 15 0 m aG T42 bl Z f Z Z fun bm a bn f=>AL (hw:=wo f bd) 12 15 0 aG Pl2 bn bl Z f Z fun bo a bp f=> ?_
      subst bp
      obtain⟨bq,br,aI⟩:=bind_some aI
      refine Bh (i:=13) 15 Z (by kernel_rfl) Z f (AQ f Z Z Z bd) Z Z Tryz.call213 (fun _ _ w bs m=>Wk.b m br) fun a f=>q_p 14 15 Z f (fun _=>AO (f.eval Z) bd (f.eval Z)) fun a f=> ?_
      obtain rfl:=sj aI
      exact bc _ (f.k Z)
     ·refine An 4 15 Z f bd fun a f=> ?_
      refine An 5 15 Z f bd fun a f=>An 6 15 Z f bd fun a f=>An 7 15 Z f bd fun a f=>An 8 15 Z f bd fun a f=>An 9 15 Z f bd fun a f=>An 10 15 Z f bd fun a f=>An 11 15 Z f bd fun a f=>An 12 15 Z f bd fun a f=>An 13 15 Z f bd fun a f=>q_p 14 15 Z f (fun _=>AP (f.eval Z) bd (f.eval Z)) fun a f=> ?_
      obtain rfl:=sj aI
      exact bc _ (f.k Z)
   ·rintro a w ⟨au,rfl,av,aw,bt,f,m,bu⟩
    refine Ak ?_
    refine Ab f Z fun a f=>Ah f Z Z Ar fun a f=>Ad f Z fun a f=>Aa ?_
    obtain rfl:=sj al
    exact⟨_,Z,_,_,Z,_,aw,(gt an bt),f.k Z,m,bu⟩
  ·refine Ai f Z ap ?_
   refine Ax Z ?_
   obtain rfl:=sj al
   obtain rfl:=am _ rfl
   exact⟨_,Z,_,aj,an,f.weak trivial,m,ao⟩
 ·rintro a w ⟨ac,rfl,ad,ae,bv,f,m,bw⟩
  obtain rfl:=sj hd
  exact⟨[],trivial,f.defers,_,[ae],bv,m,_,Z,bw⟩
theorem Wk.s0 {W w:World}{G:GH}{H:List Itm}{v0:Value}{it0:Itm}{x0:(List Int)}{x1:Int}{x2:Int}{x3:Int}(m:Mem W G w (it0::H))(o0:Ow (RI .i64) 2 G it0 v0 x0){y:((List Int))}(hd:D.s0 x0 x1 x2 x3=some y):
  Calls Tryz.prog 218 #[v0,(.int .i64 x1),(.int .i64 x2),(.int .i64 x3)] w (Res W G H (fun G' Ho _=>∃i0:Itm,Ho=[i0]∧Ow (RI .i64) 2 G' i0 v0 y)):=by
 refine As (args:=[v0,(.int .i64 x1),(.int .i64 x2),(.int .i64 x3)]) (N:=76) [] Tryz.func218 Z Z (Nat.le_of_ble_eq_true Z) Z fun a f=> ?_
 unfold D.s0 at hd
 refine Ac ?_
 refine Ab f Z fun a f=>Ad f Z fun a f=>Aa ?_
 obtain⟨aa,ab,hd⟩:=bind_some hd
 refine AC (fun a w=>∃q_182':(List Int),aa= .inl q_182'∧∃ac:List Int,ac=q_182'∧∃(ad:GH) (ae:Itm),GLe G ad∧Fr a 76 []∧Mem W ad w (ae::H)∧Ow (RI .i64) 2 ad ae v0 ac) ?_ ?_
 ·refine Aj ?_
  refine AA (fun af a w=>∃ag:List Int,∃ah:Int,(ag,ah)=af∧∃(ai:GH) (aj:Itm),GLe G ai∧Fr a 76 [(0,v0),(2,(.int .i64 x2)),(3,(.int .i64 x3)),(8,(.int .i64 ah))]∧Mem W ai w (aj::H)∧Ow (RI .i64) 2 ai aj v0 ag) ab ⟨_,_,Z,_,it0,gr,f.k Z,m,o0⟩ ?_
  clear ab f m
  rintro af ak al am a w ⟨ag,ah,rfl,ai,aj,an,f,m,ao⟩
  refine Aj (Ac ?_)
  refine Ab f Z fun a f=>Ah f Z Z CH fun a f=>Ah f Z Z Ar fun a f=>Ad f Z fun a f=>Aa (Af (Ac ?_))
  refine Ab f Z fun a f=>Ab f Z fun a f=>Ah f Z Z BM fun a f=>Aa ?_
  rcases Ae al with⟨ap,al⟩|⟨ap,al⟩
  ·refine Al f Z ap ?_
   refine Ax Z ?_
   obtain rfl:=sj al
   obtain rfl:=am _ rfl
   exact⟨_,Z,_,Z,_,aj,an,f.weak trivial,m,ao⟩
  ·refine Ai f Z ap ?_
   refine Am ?_
   refine Af (Af ?_)
   refine AT 20 Aw (by kernel_rfl) m ?_
   refine Ag 0 20 Z f Z fun a f=>q_p 1 20 Z f (fun _=>AD (f.eval Z) (f.eval Z) Ar) fun a f=>Ag 2 20 Z f Z fun a f=>q_p 3 20 Z f (fun _=>AD (f.eval Z) (f.eval Z) AJ) fun a f=>Ag 4 20 Z f Z fun a f=> ?_
   obtain⟨aq,ar,al⟩:=bind_some al
   refine BN (fuel':=0) (listed':= #[true,true,true,true,true,true,true,true,true,true,true,true,true,true,true,true,true,true,true,true]) (fun a=>Fr a 76 [(0,v0),(2,(.int .i64 x2)),(3,(.int .i64 x3)),(8,(.int .i64 ah)),(9,(.int .i64 (IntKind.i64.wrap ((IntKind.i64.wrap (2*ah))+1)))),(16,(.bool (decide (x2≤(IntKind.i64.wrap ((IntKind.i64.wrap (2*ah))+1)))))),(17,(.int .i64 (IntKind.i64.wrap ((IntKind.i64.wrap (2*ah))+1)))),(18,(.int .i64 (IntKind.i64.wrap ((IntKind.i64.wrap ((IntKind.i64.wrap (2*ah))+1))+1)))),(19,(.int .i64 x2)),(20,(.bool (decide ((IntKind.i64.wrap ((IntKind.i64.wrap ((IntKind.i64.wrap (2*ah))+1))+1))<x2)))),(21,(.bool (decide ((IntKind.i64.wrap ((IntKind.i64.wrap ((IntKind.i64.wrap (2*ah))+1))+1))<x2)))),(36,(.bool aq))]) ?_ ?_
   ·intro a f
    refine AI fun au w av m=> ?_
    have ao:=od1 av ao
    refine Aa ?_
    obtain⟨aw,ax,al⟩:=bind_some al
    refine AC (fun a w=>∃ay:Int,ay=aw∧∃(az:GH),GLe au az∧Fr a 76 [(0,v0),(2,(.int .i64 x2)),(3,(.int .i64 x3)),(8,(.int .i64 ah)),(9,(.int .i64 ay))]∧Mem W az w (aj::H)) ?_ ?_
    ·rcases Ae ax with⟨aA,ax⟩|⟨aA,ax⟩
     ·refine Al f Z aA ?_
      refine Ak ?_
      refine Ab f Z fun a f=>Ah f Z Z Ar fun a f=>Ad f Z fun a f=>Aa ?_
      obtain rfl:=sj ax
      exact⟨_,Z,_,gr,f.k Z,m⟩
     ·refine Ai f Z aA ?_
      refine Am ?_
      obtain rfl:=sj ax
      exact⟨_,Z,_,gr,f.k Z,m⟩
    ·rintro a w ⟨ay,rfl,az,aB,f,m⟩
     have ao:=od1 aB ao
     refine Af (Af ?_)
     refine AT 14 Aw (by kernel_rfl) m ?_
     refine Ag 0 14 Z f Z fun a f=>Ag 1 14 Z f Z fun a f=>Ag 2 14 Z f Z fun a f=>q_p 3 14 Z f (fun _=>AD (f.eval Z) (f.eval Z) Ar) fun a f=> ?_
     obtain⟨aC,aD,al⟩:=bind_some al
     refine Az 4 14 0 m ao T42 aD Z f Z Z fun aE a aF f=>AL 5 14 0 ao Pl2 aF aD Z f Z fun aG a aH f=> ?_
     subst aH
     refine Ag 6 14 Z f Z fun a f=>Ag 7 14 Z f Z fun a f=>Ag 8 14 Z f Z fun a f=>q_p 9 14 Z f (fun _=>AD (f.eval Z) (f.eval Z) Ar) fun a f=> ?_
     obtain⟨aI,aJ,al⟩:=bind_some al
     refine Az 10 14 0 m ao T42 aJ Z f Z Z fun aK a aL f=>AL 11 14 0 ao Pl2 aL aJ Z f Z fun aM a aN f=> ?_
     subst aN
     obtain⟨aO,aP,al⟩:=bind_some al
     refine Bh (i:=12) 14 Z (by kernel_rfl) Z f Z Z Z Tryz.call213 (fun _ _ w aQ m=>Wk.b m aP) fun a f=>q_p 13 14 Z f (fun _=>Bd (f.eval Z)) fun a f=>AI fun aR w aS m=> ?_
     have ao:=od1 aS ao
     refine Aa ?_
     rcases Ae al with⟨aT,al⟩|⟨aT,al⟩
     ·refine Al f Z aT ?_
      refine Aq ?_
      obtain rfl:=sj al
      obtain rfl:=am _ rfl
      obtain rfl:=sj hd
      exact⟨[],trivial,f.defers,_,[aj],(gt an (gt av (gt aB aS))),m,_,Z,ao⟩
     ·refine Ai f Z aT ?_
      refine Am ?_
      refine Af ?_
      refine Bv Aw m ?_
      refine p_p 4 Z (by kernel_rfl) f Z Z Z (fun _=>AX (f.eval Z)) fun a f=>p_p 5 Z (by kernel_rfl) f Z Z Z (fun _=>AX (f.eval Z)) fun a f=>p_p 6 Z (by kernel_rfl) f Z Z Z (fun _=>AX (f.eval Z)) fun a f=>p_p 7 Z (by kernel_rfl) f Z Z Z (fun _=>AD (f.eval Z) (f.eval Z) Ar) fun a f=>Bu 240021 17 (by kernel_rfl) Z ?_
      refine Ag 0 240021 Z f Z fun a f=>Ag 1 240021 Z f Z fun a f=>Ag 2 240021 Z f Z fun a f=>q_p 3 240021 Z f (fun _=>AD (f.eval Z) (f.eval Z) Ar) fun a f=>Ag 8 240021 Z f Z fun a f=>Ag 9 240021 Z f Z fun a f=>Ag 10 240021 Z f Z fun a f=>q_p 11 240021 Z f (fun _=>AD (f.eval Z) (f.eval Z) Ar) fun a f=> ?_
      obtain⟨aU,aV,al⟩:=bind_some al
      refine Az 12 240021 0 m ao T42 aV Z f Z Z fun aW a aX f=>AL 13 240021 0 ao Pl2 aX aV Z f Z fun aY a aZ f=> ?_
      subst aZ
      refine Ag 14 240021 Z f Z fun a f=>Ag 15 240021 Z f Z fun a f=>Ag 16 240021 Z f Z fun a f=>q_p 17 240021 Z f (fun _=>AD (f.eval Z) (f.eval Z) Ar) fun a f=> ?_
      obtain⟨a0,a1,al⟩:=bind_some al
      refine Az 18 240021 0 m ao T42 a1 Z f Z Z fun a2 a a3 f=>AL 19 240021 0 ao Pl2 a3 a1 Z f Z fun a4 a a5 f=> ?_
      subst a5
      obtain⟨a6,a7,al⟩:=bind_some al
      refine Az 20 240021 0 m ao T42 a7 Z f Z Z fun a8 a a9 f=>AI fun ba w bb m=> ?_
      have ao:=od1 bb ao
      refine Au 0 m ao Z Tryz.sizeOf2 f Z Z a9 a7 Z Z Z fun bc w m bd=> ?_
      obtain⟨be,bf,al⟩:=bind_some al
      refine AW 0 m bd Z T42 f Z Z Z bf fun bg a bh f=>Au 0 m bd Z Tryz.sizeOf2 f Z Z bh bf Z Z Z fun bi w m bj=>Aa (Ak ?_)
      refine Ab f Z fun a f=>Ad f Z fun a f=>Aa ?_
      obtain rfl:=sj al
      exact⟨_,Z,_,_,Z,_,bi,(gt an (gt av (gt aB (gt aS bb)))),f.k Z,m,bj⟩
   ·intro bk
    rcases Ae ar with⟨bl,ar⟩|⟨bl,ar⟩
    ·refine Ag (hw:=wo f bl) 5 20 Z f Z fun a f=> ?_
     refine Ag (hw:=wo f bl) 6 20 Z f Z fun a f=>Ag (hw:=wo f bl) 7 20 Z f Z fun a f=>q_p (hw:=wo f bl) 8 20 Z f (fun _=>AD (f.eval Z) (f.eval Z) Ar) fun a f=> ?_
     obtain⟨bm,bn,ar⟩:=bind_some ar
     refine Az (hw:=wo f bl) 9 20 0 m ao T42 bn Z f Z Z fun bo a bp f=>AL (hw:=wo f bl) 10 20 0 ao Pl2 bp bn Z f Z fun bq a br f=> ?_
     subst br
     refine Ag (hw:=wo f bl) 11 20 Z f Z fun a f=>Ag (hw:=wo f bl) 12 20 Z f Z fun a f=>Ag (hw:=wo f bl) 13 20 Z f Z fun a f=>q_p (hw:=wo f bl) 14 20 Z f (fun _=>AD (f.eval Z) (f.eval Z) Ar) fun a f=>q_p (hw:=wo f bl) 15 20 Z f (fun _=>AD (f.eval Z) (f.eval Z) Ar) fun a f=> ?_
     obtain⟨bs,bt,ar⟩:=bind_some ar
     refine Az (hw:=wo f bl) 16 20 0 m ao T42 bt Z f Z Z fun bu a bv f=>AL (hw:=wo f bl) 17 20 0 ao Pl2 bv bt Z f Z fun bw a bx f=> ?_
     subst bx
     obtain⟨bz,bA,ar⟩:=bind_some ar
     refine Bh (i:=18) 20 Z (by kernel_rfl) Z f (AQ f Z Z Z bl) Z Z Tryz.call213 (fun _ _ w bB m=>Wk.b m bA) fun a f=>q_p 19 20 Z f (fun _=>AO (f.eval Z) bl (f.eval Z)) fun a f=> ?_
     obtain rfl:=sj ar
     exact bk _ (f.k Z)
    ·refine An 5 20 Z f bl fun a f=> ?_
     refine An 6 20 Z f bl fun a f=>An 7 20 Z f bl fun a f=>An 8 20 Z f bl fun a f=>An 9 20 Z f bl fun a f=>An 10 20 Z f bl fun a f=>An 11 20 Z f bl fun a f=>An 12 20 Z f bl fun a f=>An 13 20 Z f bl fun a f=>An 14 20 Z f bl fun a f=>An 15 20 Z f bl fun a f=>An 16 20 Z f bl fun a f=>An 17 20 Z f bl fun a f=>An 18 20 Z f bl fun a f=>q_p 19 20 Z f (fun _=>AP (f.eval Z) bl (f.eval Z)) fun a f=> ?_
     obtain rfl:=sj ar
     exact bk _ (f.k Z)
 ·rintro a w ⟨_,rfl,ac,rfl,ad,ae,bC,f,m,bD⟩
  obtain rfl:=sj hd
  exact⟨[],trivial,f.defers,_,[ae],bC,m,_,Z,bD⟩
theorem Wk.z1 {W w:World}{G:GH}{H:List Itm}{v0:Value}{it0:Itm}{x0:(List Int)}{x1:Int}{x2:Int}(m:Mem W G w (it0::H))(o0:Ow (RI .i64) 2 G it0 v0 x0){y:((List Int))}(hd:D.z1 x0 x1 x2=some y):
  Calls Tryz.prog 208 #[v0,(.int .i64 x1),(.int .i64 x2)] w (Res W G H (fun G' Ho _=>∃i0:Itm,Ho=[i0]∧Ow (RI .i64) 2 G' i0 v0 y)):=by
 refine As (args:=[v0,(.int .i64 x1),(.int .i64 x2)]) (N:=56) [] Tryz.func208 Z Z (Nat.le_of_ble_eq_true Z) Z fun a f=> ?_
 unfold D.z1 at hd
 refine Ac ?_
 refine Ab f Z fun a f=>Ad f Z fun a f=>Aa (Ac ?_)
 refine Ad f Z fun a f=>Aa (Ac ?_)
 refine Ab f Z fun a f=>Ab f Z fun a f=>Ah f Z Z AH fun a f=>Ad f Z fun a f=>Aa (Af (Ac ?_))
 refine Ab f Z fun a f=>Ah f Z Z AH fun a f=>Ah f Z Z (CW Z) fun a f=>Ad f Z fun a f=>Aa ?_
 obtain⟨aa,ab,hd⟩:=bind_some hd
 refine AC (fun a w=>∃ac:List Int,ac=aa∧∃(ad:GH) (ae:Itm),GLe G ad∧Fr a 56 [(0,v0),(6,(.int .i64 x1)),(7,(.int .i64 0)),(8,(.int .i64 (IntKind.i64.wrap (x2-x1))))]∧Mem W ad w (ae::H)∧Ow (RI .i64) 2 ad ae v0 ac) ?_ ?_
 ·refine Aj ?_
  refine AA (fun af a w=>∃ag:List Int,∃ah:Int,(ag,ah)=af∧∃(ai:GH) (aj:Itm),GLe G ai∧Fr a 56 [(0,v0),(6,(.int .i64 x1)),(7,(.int .i64 0)),(8,(.int .i64 (IntKind.i64.wrap (x2-x1)))),(9,(.int .i64 ah))]∧Mem W ai w (aj::H)∧Ow (RI .i64) 2 ai aj v0 ag) ab ⟨_,_,Z,_,it0,gr,f.k Z,m,o0⟩ ?_
  clear ab f m
  rintro af ak al am a w ⟨ag,ah,rfl,ai,aj,an,f,m,ao⟩
  refine Af (Ac ?_)
  refine Ab f Z fun a f=>Ah f Z Z BM fun a f=>Aa ?_
  rcases Ae al with⟨ap,al⟩|⟨ap,al⟩
  ·refine Al f Z ap ?_
   refine Am ?_
   refine Af (Aj (Ak ?_))
   refine Ab f Z fun a f=>Ab f Z fun a f=>Ab f Z fun a f=>Ab f Z fun a f=> ?_
   obtain⟨aq,ar,al⟩:=bind_some al
   refine AK f Z Tryz.call218 (Wk.s0 m ao ar) fun au av aw w ax m ay a f=> ?_
   obtain⟨az,rfl,aA⟩:=ay
   refine Aa (Ak ?_)
   refine Ab f Z fun a f=>Ah f Z Z AH fun a f=>Ad f Z fun a f=>Aa ?_
   obtain rfl:=sj al
   exact⟨_,Z,_,_,Z,_,az,(gt an ax),f.k Z,m,aA⟩
  ·refine Ai f Z ap ?_
   refine Ax Z ?_
   obtain rfl:=sj al
   obtain rfl:=am _ rfl
   exact⟨_,Z,_,aj,an,f.k Z,m,ao⟩
 ·rintro a w ⟨ac,rfl,ad,ae,aB,f,m,aC⟩
  refine Ac ?_
  refine Ab f Z fun a f=>Ah f Z Z AH fun a f=>Ad f Z fun a f=>Aa ?_
  obtain⟨aD,aE,hd⟩:=bind_some hd
  refine AC (fun a w=>∃aF:List Int,aF=aD∧∃(aG:GH) (aH:Itm),GLe ad aG∧Fr a 56 []∧Mem W aG w (aH::H)∧Ow (RI .i64) 2 aG aH v0 aF) ?_ ?_
  ·refine Aj ?_
   refine AA (fun aI a w=>∃aJ:List Int,∃aK:Int,(aJ,aK)=aI∧∃(aL:GH) (aM:Itm),GLe ad aL∧Fr a 56 [(0,v0),(6,(.int .i64 x1)),(7,(.int .i64 0)),(10,(.int .i64 aK))]∧Mem W aL w (aM::H)∧Ow (RI .i64) 2 aL aM v0 aJ) aE ⟨_,_,Z,_,ae,gr,f.k Z,m,aC⟩ ?_
   clear aE f m
   rintro aI aN aO aP a w ⟨aJ,aK,rfl,aL,aM,aQ,f,m,aR⟩
   refine Af (Ac ?_)
   refine Ab f Z fun a f=>Ah f Z Z BM fun a f=>Aa ?_
   rcases Ae aO with⟨aS,aO⟩|⟨aS,aO⟩
   ·refine Al f Z aS ?_
    refine Am ?_
    refine Af (Aj (Af ?_))
    refine Bv Aw m ?_
    refine p_p 2 Z (by kernel_rfl) f Z Z Z (fun _=>AX (f.eval Z)) fun a f=>p_p 3 Z (by kernel_rfl) f Z Z Z (fun _=>AX (f.eval Z)) fun a f=>p_p 4 Z (by kernel_rfl) f Z Z Z (fun _=>AX (f.eval Z)) fun a f=>p_p 5 Z (by kernel_rfl) f Z Z Z (fun _=>AD (f.eval Z) (f.eval Z) Ar) fun a f=>Bu 60017 13 (by kernel_rfl) Z ?_
    refine Ag 0 60017 Z f Z fun a f=>Ag 1 60017 Z f Z fun a f=>Ag 6 60017 Z f Z fun a f=>Ag 7 60017 Z f Z fun a f=>Ag 8 60017 Z f Z fun a f=>q_p 9 60017 Z f (fun _=>AD (f.eval Z) (f.eval Z) Ar) fun a f=> ?_
    obtain⟨aT,aU,aO⟩:=bind_some aO
    refine Az 10 60017 0 m aR T42 aU Z f Z Z fun aV a aW f=>AL 11 60017 0 aR Pl2 aW aU Z f Z fun aX a aY f=> ?_
    subst aY
    refine Ag 12 60017 Z f Z fun a f=>Ag 13 60017 Z f Z fun a f=> ?_
    obtain⟨aZ,a0,aO⟩:=bind_some aO
    refine Az 14 60017 0 m aR T42 a0 Z f Z Z fun a1 a a2 f=>AL 15 60017 0 aR Pl2 a2 a0 Z f Z fun a3 a a4 f=> ?_
    subst a4
    obtain⟨a5,a6,aO⟩:=bind_some aO
    refine Az 16 60017 0 m aR T42 a6 Z f Z Z fun a7 a a8 f=>AI fun a9 w ba m=> ?_
    have aR:=od1 ba aR
    refine Au 0 m aR Z Tryz.sizeOf2 f Z Z a8 a6 Z Z Z fun bb w m bc=> ?_
    obtain⟨bd,be,aO⟩:=bind_some aO
    refine AW 0 m bc Z T42 f Z Z Z be fun bf a bg f=>Au 0 m bc Z Tryz.sizeOf2 f Z Z bg be Z Z Z fun bh w m bi=>Aa (Ak ?_)
    refine Ab f Z fun a f=>Ab f Z fun a f=>Ab f Z fun a f=>Ab f Z fun a f=> ?_
    obtain⟨bj,bk,aO⟩:=bind_some aO
    refine AK f Z Tryz.call218 (Wk.s0 m bi bk) fun bl bm bn w bo m bp a f=> ?_
    obtain⟨bq,rfl,br⟩:=bp
    refine Aa (Ak ?_)
    refine Ab f Z fun a f=>Ah f Z Z AH fun a f=>Ad f Z fun a f=>Aa ?_
    obtain rfl:=sj aO
    exact⟨_,Z,_,_,Z,_,bq,(gt aQ (gt ba bo)),f.k Z,m,br⟩
   ·refine Ai f Z aS ?_
    refine Ax Z ?_
    obtain rfl:=sj aO
    obtain rfl:=aP _ rfl
    exact⟨_,Z,_,aM,aQ,f.weak trivial,m,aR⟩
  ·rintro a w ⟨aF,rfl,aG,aH,bs,f,m,bt⟩
   obtain rfl:=sj hd
   exact⟨[],trivial,f.defers,_,[aH],(gt aB bs),m,_,Z,bt⟩
theorem Wk.z {W w:World}{G:GH}{H:List Itm}{x0:Int}(m:Mem W G w (H)){y:Int}(hd:D.z x0=some y):
  Calls Tryz.prog 190 #[(.int .i64 x0)] w (Res W G H (fun _ Ho v=>Ho=[]∧v=(.int .u64 y))):=by
 refine As (args:=[(.int .i64 x0)]) (N:=7) [.tmp 2] Tryz.func190 Z Z (Nat.le_of_ble_eq_true Z) Z fun a f=> ?_
 unfold D.z at hd
 refine Ac ?_
 refine Ad f Z fun a f=>Aa (Ac ?_)
 refine Ab f Z fun a f=>l_o f (CT (f.eval Z) ⟨_,Tryz.underlying3⟩ Tryz.underlying135) fun a f=> ?_
 obtain⟨aa,ab,hd⟩:=bind_some hd
 refine AK f Z Tryz.call122 (Wk.r m ab) fun ac ad ae w af m ag a f=> ?_
 obtain⟨rfl,rfl⟩:=ag
 obtain⟨ah,hd⟩:=Do hd
 refine l_o f (r_shl (f.eval Z) (f.eval Z) ah) fun a f=>Ad f Z fun a f=>Aa ?_
 refine Aq ?_
 obtain rfl:=sj hd
 exact⟨[(.int .u64 (ishl .u64 1 aa))],⟨f.get _ _ Z,trivial⟩,f.defers,_,[],af,m,Z,Z⟩
theorem Wk.K {W w:World}{G:GH}{H:List Itm}{b0:Nat}{x0_0:Int}(m:Mem W G w (Itm.box b0 190 [(.int .u64 x0_0)]::H)){y:Int×Int}(hd:D.K x0_0=some y):
  Calls Tryz.prog 191 #[(.pointer (some ⟨b0,0,none⟩))] w (Res W G H (fun _ Ho v=>Ho=[Itm.box b0 190 [(.int .u64 y.2)]]∧v=(.int .u64 y.1))):=by
 refine As (args:=[(.pointer (some ⟨b0,0,none⟩))]) (N:=33) [.tmp 2] Tryz.func191 Z Z (Nat.le_of_ble_eq_true Z) Z fun a f=> ?_
 unfold D.K at hd
 refine Ac ?_
 refine Ad f Z fun a f=>Aa (Af ?_)
 refine AT 9 Aw (by kernel_rfl) m ?_
 refine Ag 0 9 Z f Z fun a f=>q_p 1 9 Z f (fun _=>Bj (f.eval Z)) fun a f=>BO 2 9 0 Pl190 Z Z Z f Z fun a f=>Ag 3 9 Z f Z fun a f=>q_p 4 9 Z f (fun _=>Bj (f.eval Z)) fun a f=>BO 5 9 0 Pl190 Z Z Z f Z fun a f=>q_p 6 9 Z f (fun _=>r_shl (f.eval Z) (f.eval Z) (by decide)) fun a f=>q_p 7 9 Z f (fun _=>AD (f.eval Z) (f.eval Z) b_xor) fun a f=>q_p 8 9 Z f (fun _=>Bj (f.eval Z)) fun a f=>AI fun aa w ab m=>AS 0 0 (ds:=[(.int .u64 (A7 .u64 x0_0 (ishl .u64 x0_0 13)))]) m Tryz.sizeOf190 f Z Z Z (AN Z A3) Z (Nat.le_of_ble_eq_true Z) Z fun w m=>Aa (Af ?_)
 refine AT 9 Aw (by kernel_rfl) m ?_
 refine Ag 0 9 Z f Z fun a f=>q_p 1 9 Z f (fun _=>Bj (f.eval Z)) fun a f=>BO 2 9 0 Pl190 Z Z Z f Z fun a f=>Ag 3 9 Z f Z fun a f=>q_p 4 9 Z f (fun _=>Bj (f.eval Z)) fun a f=>BO 5 9 0 Pl190 Z Z Z f Z fun a f=>q_p 6 9 Z f (fun _=>r_shr (f.eval Z) (f.eval Z) (by decide)) fun a f=>q_p 7 9 Z f (fun _=>AD (f.eval Z) (f.eval Z) b_xor) fun a f=>q_p 8 9 Z f (fun _=>Bj (f.eval Z)) fun a f=>AI fun ac w ad m=>AS 0 0 (ds:=[(.int .u64 (A7 .u64 (A7 .u64 x0_0 (ishl .u64 x0_0 13)) (BJ .u64 (A7 .u64 x0_0 (ishl .u64 x0_0 13)) 7)))]) m Tryz.sizeOf190 f Z Z Z (AN Z A3) Z (Nat.le_of_ble_eq_true Z) Z fun w m=>Aa (Af ?_)
 refine AT 9 Aw (by kernel_rfl) m ?_
 refine Ag 0 9 Z f Z fun a f=>q_p 1 9 Z f (fun _=>Bj (f.eval Z)) fun a f=>BO 2 9 0 Pl190 Z Z Z f Z fun a f=>Ag 3 9 Z f Z fun a f=>q_p 4 9 Z f (fun _=>Bj (f.eval Z)) fun a f=>BO 5 9 0 Pl190 Z Z Z f Z fun a f=>q_p 6 9 Z f (fun _=>r_shl (f.eval Z) (f.eval Z) (by decide)) fun a f=>q_p 7 9 Z f (fun _=>AD (f.eval Z) (f.eval Z) b_xor) fun a f=>q_p 8 9 Z f (fun _=>Bj (f.eval Z)) fun a f=>AI fun ae w af m=>AS 0 0 (ds:=[(.int .u64 (A7 .u64 (A7 .u64 (A7 .u64 x0_0 (ishl .u64 x0_0 13)) (BJ .u64 (A7 .u64 x0_0 (ishl .u64 x0_0 13)) 7)) (ishl .u64 (A7 .u64 (A7 .u64 x0_0 (ishl .u64 x0_0 13)) (BJ .u64 (A7 .u64 x0_0 (ishl .u64 x0_0 13)) 7)) 17)))]) m Tryz.sizeOf190 f Z Z Z (AN Z A3) Z (Nat.le_of_ble_eq_true Z) Z fun w m=>Aa (Ac ?_)
 refine Ab f Z fun a f=>l_o f (Bj (f.eval Z)) fun a f=>AF 0 0 m Pl190 f Z Z Z Z fun a f=>Ad f Z fun a f=>Aa ?_
 refine Aq ?_
 obtain rfl:=sj hd
 exact⟨[(.int .u64 (A7 .u64 (A7 .u64 (A7 .u64 x0_0 (ishl .u64 x0_0 13)) (BJ .u64 (A7 .u64 x0_0 (ishl .u64 x0_0 13)) 7)) (ishl .u64 (A7 .u64 (A7 .u64 x0_0 (ishl .u64 x0_0 13)) (BJ .u64 (A7 .u64 x0_0 (ishl .u64 x0_0 13)) 7)) 17)))],⟨f.get _ _ Z,trivial⟩,f.defers,_,[Itm.box b0 190 [(.int .u64 (A7 .u64 (A7 .u64 (A7 .u64 x0_0 (ishl .u64 x0_0 13)) (BJ .u64 (A7 .u64 x0_0 (ishl .u64 x0_0 13)) 7)) (ishl .u64 (A7 .u64 (A7 .u64 x0_0 (ishl .u64 x0_0 13)) (BJ .u64 (A7 .u64 x0_0 (ishl .u64 x0_0 13)) 7)) 17)))]],(gt ab (gt ad af)),m,Z,Z⟩
theorem Wk.C0 {W w:World}{G:GH}{H:List Itm}{v0:Value}{it0:Itm}{x0:(List Int)}{x1:Int}{x2:Int}(m:Mem W G w (it0::H))(o0:Ow (RI .i64) 2 G it0 v0 x0){y:((List Int))}(hd:D.C0 x0 x1 x2=some y):
  Calls Tryz.prog 209 #[v0,(.int .i64 x1),(.int .i64 x2)] w (Res W G H (fun G' Ho _=>∃i0:Itm,Ho=[i0]∧Ow (RI .i64) 2 G' i0 v0 y)):=by
 refine As (args:=[v0,(.int .i64 x1),(.int .i64 x2)]) (N:=65) [] Tryz.func209 Z Z (Nat.le_of_ble_eq_true Z) Z fun a f=> ?_
 unfold D.C0 at hd
 refine Ac ?_
 refine Ab f Z fun a f=>Ab f Z fun a f=>Ah f Z Z AH fun a f=>Ad f Z fun a f=>Aa (Ac ?_)
 refine Ab f Z fun a f=>Ah f Z Z BM fun a f=>Aa ?_
 rcases Ae hd with⟨aa,hd⟩|⟨aa,hd⟩
 ·refine Al f Z aa ?_
  refine Ac ?_
  refine Ab f Z fun a f=>l_o f (CT (f.eval Z) ⟨_,Tryz.underlying3⟩ Tryz.underlying190) fun a f=>Bx (cs:=[(.int .u64 0)]) Tryz.zeroValue190 m f Z Z fun ab w a m f=>AS 0 0 (ds:=[(.int .u64 (IntKind.u64.wrap (IntKind.i64.wrap (x2-x1))))]) m Tryz.sizeOf190 f Z Z Z (AN Z A3) Z (Nat.le_of_ble_eq_true Z) Z fun w m=>Aa (Ac ?_)
  refine Ab f Z fun a f=> ?_
  obtain⟨ac,ad,hd⟩:=bind_some hd
  refine Bi f Z Tryz.call190 (Wk.z m ad) fun ae w af m a f=> ?_
  have o0:=od1 af o0
  refine Ad f Z fun a f=>Aa (Ac ?_)
  refine Ab f Z fun a f=>Ab f Z fun a f=>Ah f Z Z (CW Z) fun a f=>Ah f Z Z CH fun a f=>Ah f Z Z Ar fun a f=>Ah f Z Z AH fun a f=>Ad f Z fun a f=>Aa ?_
  obtain⟨ag,ah,hd⟩:=bind_some hd
  refine AC (fun a w=>∃ai:List Int,ai=ag∧∃(aj:GH) (ak:Itm),GLe ae aj∧Fr a 65 []∧Mem W aj w (ak::H)∧Ow (RI .i64) 2 aj ak v0 ai) ?_ ?_
  ·refine Aj ?_
   refine AA (fun al a w=>∃am:List Int,∃an:Int,∃ao:Int,(am,an,ao)=al∧∃(ap:GH) (aq:Itm),GLe ae ap∧Fr a 65 [(0,v0),(1,(.int .i64 x1)),(6,(.int .i64 (IntKind.i64.wrap (x2-x1)))),(7,(.pointer (some ⟨ab,0,none⟩))),(8,(.int .u64 ac)),(9,(.int .i64 an))]∧Mem W ap w (Itm.box ab 190 [(.int .u64 ao)]::aq::H)∧Ow (RI .i64) 2 ap aq v0 am) ah ⟨_,_,_,Z,_,it0,gr,f.k Z,m,o0⟩ ?_
   clear ah f m
   rintro al ar au av a w ⟨am,an,ao,rfl,ap,aq,aw,f,m,ax⟩
   refine Af (Ac ?_)
   refine Ab f Z fun a f=>Ab f Z fun a f=>Ab f Z fun a f=>Ah f Z Z (CW Z) fun a f=>Ah f Z Z CH fun a f=>Ah f Z Z Ar fun a f=>Ah f Z Z Ar fun a f=>Ah f Z Z B7 fun a f=>Aa ?_
   rcases Ae au with⟨ay,au⟩|⟨ay,au⟩
   ·refine Al f Z ay ?_
    refine Am ?_
    refine Af (Aj (Ac ?_))
    obtain⟨az,aA,au⟩:=bind_some au
    refine AK f Z Tryz.call191 (Wk.K m aA) fun aB aC aD w aE m aF a f=> ?_
    obtain⟨rfl,rfl⟩:=aF
    have ax:=od1 aE ax
    refine Ab f Z fun a f=>Ah f Z Z AH fun a f=>Ah f Z Z DH fun a f=>l_o f (CT (f.eval Z) ⟨_,Tryz.underlying135⟩ Tryz.underlying3) fun a f=>Ad f Z fun a f=>Aa (Af (Ac ?_))
    refine Ab f Z fun a f=>Ab f Z fun a f=>Ah f Z Z BM fun a f=>Aa ?_
    obtain⟨aG,aH,au⟩:=bind_some au
    refine AC (fun a w=>∃aI:Int,aI=aG∧∃(aJ:GH),GLe aC aJ∧Fr a 65 [(0,v0),(1,(.int .i64 x1)),(6,(.int .i64 (IntKind.i64.wrap (x2-x1)))),(7,(.pointer (some ⟨ab,0,none⟩))),(8,(.int .u64 ac)),(9,(.int .i64 an)),(10,(.int .i64 aI))]∧Mem W aJ w (Itm.box ab 190 [(.int .u64 az.2)]::aq::H)) ?_ ?_
    ·rcases Ae aH with⟨aK,aH⟩|⟨aK,aH⟩
     ·refine Al f Z aK ?_
      refine Ak ?_
      refine Ab f Z fun a f=>Ab f Z fun a f=>Ah f Z Z AH fun a f=>Ad f Z fun a f=>Aa ?_
      obtain rfl:=sj aH
      exact⟨_,Z,_,gr,f.k Z,m⟩
     ·refine Ai f Z aK ?_
      refine Am ?_
      obtain rfl:=sj aH
      exact⟨_,Z,_,gr,f.k Z,m⟩
    ·rintro a w ⟨aI,rfl,aJ,aL,f,m⟩
     have ax:=od1 aL ax
     refine Bv Aw m ?_
     refine p_p 2 Z (by kernel_rfl) f Z Z Z (fun _=>AX (f.eval Z)) fun a f=>p_p 3 Z (by kernel_rfl) f Z Z Z (fun _=>AX (f.eval Z)) fun a f=>p_p 4 Z (by kernel_rfl) f Z Z Z (fun _=>AX (f.eval Z)) fun a f=>p_p 5 Z (by kernel_rfl) f Z Z Z (fun _=>AD (f.eval Z) (f.eval Z) Ar) fun a f=>Bu 60017 13 (by kernel_rfl) Z ?_
     refine Ag 0 60017 Z f Z fun a f=>Ag 1 60017 Z f Z fun a f=>Ag 6 60017 Z f Z fun a f=>Ag 7 60017 Z f Z fun a f=>Ag 8 60017 Z f Z fun a f=>q_p 9 60017 Z f (fun _=>AD (f.eval Z) (f.eval Z) Ar) fun a f=> ?_
     obtain⟨aM,aN,au⟩:=bind_some au
     refine Az 10 60017 1 m ax T42 aN Z f Z Z fun aO a aP f=>AL 11 60017 1 ax Pl2 aP aN Z f Z fun aQ a aR f=> ?_
     subst aR
     refine Ag 12 60017 Z f Z fun a f=>Ag 13 60017 Z f Z fun a f=> ?_
     obtain⟨aS,aT,au⟩:=bind_some au
     refine Az 14 60017 1 m ax T42 aT Z f Z Z fun aU a aV f=>AL 15 60017 1 ax Pl2 aV aT Z f Z fun aW a aX f=> ?_
     subst aX
     obtain⟨aY,aZ,au⟩:=bind_some au
     refine Az 16 60017 1 m ax T42 aZ Z f Z Z fun a0 a a1 f=>AI fun a2 w a3 m=> ?_
     have ax:=od1 a3 ax
     refine Au 1 m ax Z Tryz.sizeOf2 f Z Z a1 aZ Z Z Z fun a4 w m a5=> ?_
     obtain⟨a6,a7,au⟩:=bind_some au
     refine AW 1 m a5 Z T42 f Z Z Z a7 fun a8 a a9 f=>Au 1 m a5 Z Tryz.sizeOf2 f Z Z a9 a7 Z Z Z fun ba w m bb=>Aa (Ak ?_)
     refine Ab f Z fun a f=>Ah f Z Z Ar fun a f=>Ad f Z fun a f=>Aa ?_
     obtain rfl:=sj au
     exact⟨_,Z,_,_,_,Z,_,ba,(gt aw (gt aE (gt aL a3))),f.k Z,m,bb⟩
   ·refine Ai f Z ay ?_
    refine Ax Z ?_
    have m:=m.front 1 rfl
    have m:=m.eraseAt 1
    obtain rfl:=sj au
    obtain rfl:=av _ rfl
    exact⟨_,Z,_,aq,aw,f.weak trivial,m,ax⟩
  ·rintro a w ⟨ai,rfl,aj,ak,bc,f,m,bd⟩
   obtain rfl:=sj hd
   exact⟨[],trivial,f.defers,_,[ak],(gt af bc),m,_,Z,bd⟩
 ·refine Ai f Z aa ?_
  refine Am ?_
  obtain rfl:=sj hd
  exact⟨[],trivial,f.defers,_,[it0],gr,m,_,Z,o0⟩
theorem Wk.D {W w:World}{G:GH}{H:List Itm}{v0:Value}{it0:Itm}{b3:Nat}{x0:(List Int)}{x1:Int}{x2:Int}{x3_0:Int}(m:Mem W G w (it0::Itm.box b3 3 [(.int .i64 x3_0)]::H))(o0:Ow (RI .i64) 2 G it0 v0 x0){y:Int×Int×((List Int))×Int}(hd:D.D x0 x1 x2 x3_0=some y):
  Calls Tryz.prog 221 #[v0,(.int .i64 x1),(.int .i64 x2),(.pointer (some ⟨b3,0,none⟩))] w (Res W G H (fun G' Ho v=>∃i0:Itm,Ho=[i0,Itm.box b3 3 [(.int .i64 y.2.2.2)]]∧v= .tuple #[(.int .i64 y.1),(.int .i64 y.2.1)]∧Ow (RI .i64) 2 G' i0 v0 y.2.2.1)):=by
 refine As (args:=[v0,(.int .i64 x1),(.int .i64 x2),(.pointer (some ⟨b3,0,none⟩))]) (N:=28) [.tmp 8,.tmp 9] Tryz.func221 Z Z (Nat.le_of_ble_eq_true Z) Z fun a f=> ?_
 unfold D.D at hd
 refine Ac ?_
 refine Ad f Z fun a f=>Ad f Z fun a f=>Aa (Af (Af ?_))
 refine AT 9 Aw (by kernel_rfl) m ?_
 refine Ag 0 9 Z f Z fun a f=>Ag 1 9 Z f Z fun a f=> ?_
 obtain⟨aa,ab,hd⟩:=bind_some hd
 refine Az 2 9 0 m o0 T42 ab Z f Z Z fun ac a ad f=>AL 3 9 0 o0 Pl2 ad ab Z f Z fun ae a af f=> ?_
 subst af
 refine Ag 4 9 Z f Z fun a f=>Ag 5 9 Z f Z fun a f=> ?_
 obtain⟨ag,ah,hd⟩:=bind_some hd
 refine Az 6 9 0 m o0 T42 ah Z f Z Z fun ai a aj f=>AL 7 9 0 o0 Pl2 aj ah Z f Z fun ak a al f=> ?_
 subst al
 obtain⟨am,an,hd⟩:=bind_some hd
 refine Bh (i:=8) 9 Z (by kernel_rfl) Z f Z Z Z Tryz.call213 (fun _ _ w ao m=>Wk.b m an) fun a f=>AI fun ap w aq m=> ?_
 have o0:=od1 aq o0
 refine Aa ?_
 rcases Ae hd with⟨ar,hd⟩|⟨ar,hd⟩
 ·refine Al f Z ar ?_
  refine Ac ?_
  refine Ab f Z fun a f=>l_o f (Bj (f.eval Z)) fun a f=>AF 1 0 m Pl3 f Z Z Z Z fun a f=>Ah f Z Z Ar fun a f=>l_o f (Bj (f.eval Z)) fun a f=>AS 1 0 (ds:=[(.int .i64 (IntKind.i64.wrap (x3_0+1)))]) m Tryz.sizeOf3 f Z Z Z (AN Z A3) Z (Nat.le_of_ble_eq_true Z) Z fun w m=>Aa (Ac ?_)
  refine Ab f Z fun a f=>Ab f Z fun a f=>Ad f Z fun a f=>Ad f Z fun a f=>Aa ?_
  refine Aq ?_
  obtain rfl:=sj hd
  exact⟨[(.int .i64 x2),(.int .i64 x1)],⟨f.get _ _ Z,f.get _ _ Z,trivial⟩,f.defers,_,[it0,Itm.box b3 3 [(.int .i64 (IntKind.i64.wrap (x3_0+1)))]],aq,m,_,Z,Z,o0⟩
 ·refine Ai f Z ar ?_
  refine Am ?_
  refine Ac ?_
  refine Ab f Z fun a f=>Ab f Z fun a f=>Ad f Z fun a f=>Ad f Z fun a f=>Aa ?_
  refine Aq ?_
  obtain rfl:=sj hd
  exact⟨[(.int .i64 x1),(.int .i64 x2)],⟨f.get _ _ Z,f.get _ _ Z,trivial⟩,f.defers,_,[it0,Itm.box b3 3 [(.int .i64 x3_0)]],aq,m,_,Z,Z,o0⟩
theorem Wk.N {W w:World}{G:GH}{H:List Itm}{v0:Value}{it0:Itm}{b4:Nat}{x0:(List Int)}{x1:Int}{x2:Int}{x3:Int}{x4_0:Int}(m:Mem W G w (it0::Itm.box b4 3 [(.int .i64 x4_0)]::H))(o0:Ow (RI .i64) 2 G it0 v0 x0){y:Int×((List Int))×Int}(hd:D.N x0 x1 x2 x3 x4_0=some y):
  Calls Tryz.prog 220 #[v0,(.int .i64 x1),(.int .i64 x2),(.int .i64 x3),(.pointer (some ⟨b4,0,none⟩))] w (Res W G H (fun G' Ho v=>∃i0:Itm,Ho=[i0,Itm.box b4 3 [(.int .i64 y.2.2)]]∧v=(.int .i64 y.1)∧Ow (RI .i64) 2 G' i0 v0 y.2.1)):=by
 refine As (args:=[v0,(.int .i64 x1),(.int .i64 x2),(.int .i64 x3),(.pointer (some ⟨b4,0,none⟩))]) (N:=36) [.tmp 10] Tryz.func220 Z Z (Nat.le_of_ble_eq_true Z) Z fun a f=> ?_
 unfold D.N at hd
 refine Ac ?_
 refine Ad f Z fun a f=>Aa (Ac ?_)
 refine Ab f Z fun a f=>Ab f Z fun a f=>Ab f Z fun a f=>Ab f Z fun a f=> ?_
 obtain⟨aa,ab,hd⟩:=bind_some hd
 refine AK f Z Tryz.call221 (Wk.D m o0 ab) fun ac ad ae w af m ag a f=> ?_
 obtain⟨ah,rfl,rfl,ai⟩:=ag
 refine Ab f Z fun a f=>l_o f (Bb (f.eval Z) Z) fun a f=>l_o f (Bb (f.eval Z) Z) fun a f=>Ad f Z fun a f=>Ad f Z fun a f=>Aa (Ac ?_)
 refine Ab f Z fun a f=>Ab f Z fun a f=>Ab f Z fun a f=>Ab f Z fun a f=> ?_
 obtain⟨aj,ak,hd⟩:=bind_some hd
 refine AK f Z Tryz.call221 (Wk.D m ai ak) fun al am an w ao m ap a f=> ?_
 obtain⟨aq,rfl,rfl,ar⟩:=ap
 refine Ab f Z fun a f=>l_o f (Bb (f.eval Z) Z) fun a f=>l_o f (Bb (f.eval Z) Z) fun a f=>Ad f Z fun a f=>Ad f Z fun a f=>Aa (Ac ?_)
 refine Ab f Z fun a f=>Ab f Z fun a f=>Ab f Z fun a f=>Ab f Z fun a f=> ?_
 obtain⟨au,av,hd⟩:=bind_some hd
 refine AK f Z Tryz.call221 (Wk.D m ar av) fun aw ax ay w az m aA a f=> ?_
 obtain⟨aB,rfl,rfl,aC⟩:=aA
 refine Ab f Z fun a f=>l_o f (Bb (f.eval Z) Z) fun a f=>l_o f (Bb (f.eval Z) Z) fun a f=>Ad f Z fun a f=>Ad f Z fun a f=>Aa (Ac ?_)
 refine Ab f Z fun a f=>Ad f Z fun a f=>Aa ?_
 refine Aq ?_
 obtain rfl:=sj hd
 exact⟨[(.int .i64 au.2.1)],⟨f.get _ _ Z,trivial⟩,f.defers,_,[aB,Itm.box b4 3 [(.int .i64 au.2.2.2)]],(gt af (gt ao az)),m,_,Z,Z,aC⟩
theorem Wk.c0 {W w:World}{G:GH}{H:List Itm}{v0:Value}{it0:Itm}{b2:Nat}{x0:(List Int)}{x1:Int}{x2_0:Int}(m:Mem W G w (it0::Itm.box b2 3 [(.int .i64 x2_0)]::H))(o0:Ow (RI .i64) 2 G it0 v0 x0){y:Int×((List Int))×Int}(hd:D.c0 x0 x1 x2_0=some y):
  Calls Tryz.prog 219 #[v0,(.int .i64 x1),(.pointer (some ⟨b2,0,none⟩))] w (Res W G H (fun G' Ho v=>∃i0:Itm,Ho=[i0,Itm.box b2 3 [(.int .i64 y.2.2)]]∧v=(.int .i64 y.1)∧Ow (RI .i64) 2 G' i0 v0 y.2.1)):=by
 refine As (args:=[v0,(.int .i64 x1),(.pointer (some ⟨b2,0,none⟩))]) (N:=15) [.tmp 6] Tryz.func219 Z Z (Nat.le_of_ble_eq_true Z) Z fun a f=> ?_
 unfold D.c0 at hd
 refine Ac ?_
 refine Ad f Z fun a f=>Aa (Ac ?_)
 refine Ab f Z fun a f=>Ab f Z fun a f=>Ah f Z Z AH fun a f=>Ab f Z fun a f=>Ab f Z fun a f=>Ah f Z Z Ar fun a f=>Ab f Z fun a f=> ?_
 obtain⟨aa,ab,hd⟩:=bind_some hd
 refine AK f Z Tryz.call220 (Wk.N m o0 ab) fun ac ad ae w af m ag a f=> ?_
 obtain⟨ah,rfl,rfl,ai⟩:=ag
 refine Ad f Z fun a f=>Aa ?_
 refine Aq ?_
 obtain rfl:=sj hd
 exact⟨[(.int .i64 aa.1)],⟨f.get _ _ Z,trivial⟩,f.defers,_,[ah,Itm.box b2 3 [(.int .i64 aa.2.2)]],af,m,_,Z,Z,ai⟩
theorem Wk.k0 {W w:World}{G:GH}{H:List Itm}{v0:Value}{it0:Itm}{x0:(List Int)}{x1:Int}{x2:Int}(m:Mem W G w (it0::H))(o0:Ow (RI .i64) 2 G it0 v0 x0){y:Int×Int×((List Int))}(hd:D.k0 x0 x1 x2=some y):
  Calls Tryz.prog 210 #[v0,(.int .i64 x1),(.int .i64 x2)] w (Res W G H (fun G' Ho v=>∃i0:Itm,Ho=[i0]∧v= .tuple #[(.int .i64 y.1),(.int .i64 y.2.1)]∧Ow (RI .i64) 2 G' i0 v0 y.2.2)):=by
 refine As (args:=[v0,(.int .i64 x1),(.int .i64 x2)]) (N:=57) [.tmp 6,.tmp 7] Tryz.func210 Z Z (Nat.le_of_ble_eq_true Z) Z fun a f=> ?_
 unfold D.k0 at hd
 refine Ac ?_
 refine Ad f Z fun a f=>Ad f Z fun a f=>Aa (Ac ?_)
 refine Ab f Z fun a f=>Ab f Z fun a f=>Ah f Z Z AH fun a f=>Ad f Z fun a f=>Aa (Ac ?_)
 refine Bx (cs:=[(.int .i64 0)]) Tryz.zeroValue3 m f Z Z fun aa w a m f=>Aa (Ac ?_)
 refine Ab f Z fun a f=>Ab f Z fun a f=>Ah f Z Z (CW Z) fun a f=>Ah f Z Z CH fun a f=>Ah f Z Z Ar fun a f=>Ad f Z fun a f=>Aa (Ac ?_)
 refine Ab f Z fun a f=>Ab f Z fun a f=>Ah f Z Z (CW Z) fun a f=>Ah f Z Z CH fun a f=>Ah f Z Z Ar fun a f=>Ad f Z fun a f=>Aa (Ac ?_)
 refine Ab f Z fun a f=>Ab f Z fun a f=>Ah f Z Z (CW Z) fun a f=>Ah f Z Z CH fun a f=>Ah f Z Z Ar fun a f=>Ad f Z fun a f=>Aa (Af (Ac ?_))
 refine Ab f Z fun a f=>Ah f Z Z BM fun a f=>Aa ?_
 rcases Ae hd with⟨ab,hd⟩|⟨ab,hd⟩
 ·refine Al f Z ab ?_
  refine Af (Ac ?_)
  refine Ab f Z fun a f=>Ah f Z Z BM fun a f=>Aa ?_
  obtain⟨ac,ad,hd⟩:=bind_some hd
  refine AC (fun a w=>∃ae:List Int,∃af:Int,∃ag:Int,∃ah:Int,∃ai:Int,(ae,af,ag,ah,ai)=ac∧∃(aj:GH) (ak:Itm),GLe G aj∧Fr a 57 [(0,v0),(9,(.pointer (some ⟨aa,0,none⟩))),(10,(.int .i64 af)),(11,(.int .i64 ag)),(12,(.int .i64 ah))]∧Mem W aj w (Itm.box aa 3 [(.int .i64 ai)]::ak::H)∧Ow (RI .i64) 2 aj ak v0 ae) ?_ ?_
  ·rcases Ae ad with⟨al,ad⟩|⟨al,ad⟩
   ·refine Al f Z al ?_
    refine Ac ?_
    refine Ab f Z fun a f=>Ab f Z fun a f=> ?_
    have m:=m.front 1 rfl
    obtain⟨am,an,ad⟩:=bind_some ad
    refine AK f Z Tryz.call219 (Wk.c0 m o0 an) fun ao ap aq w ar m au a f=> ?_
    obtain⟨av,rfl,rfl,aw⟩:=au
    refine Ad f Z fun a f=>Aa (Ac ?_)
    refine Ab f Z fun a f=>Ab f Z fun a f=> ?_
    obtain⟨ax,ay,ad⟩:=bind_some ad
    refine AK f Z Tryz.call219 (Wk.c0 m aw ay) fun az aA aB w aC m aD a f=> ?_
    obtain⟨aE,rfl,rfl,aF⟩:=aD
    refine Ad f Z fun a f=>Aa (Ak ?_)
    refine Ab f Z fun a f=>Ab f Z fun a f=> ?_
    obtain⟨aG,aH,ad⟩:=bind_some ad
    refine AK f Z Tryz.call219 (Wk.c0 m aF aH) fun aI aJ aK w aL m aM a f=> ?_
    obtain⟨aN,rfl,rfl,aO⟩:=aM
    refine Ad f Z fun a f=>Aa ?_
    have m:=m.front 1 rfl
    obtain rfl:=sj ad
    exact⟨_,_,_,_,_,Z,_,aN,(gt ar (gt aC aL)),f.k Z,m,aO⟩
   ·refine Ai f Z al ?_
    refine Am ?_
    obtain rfl:=sj ad
    exact⟨_,_,_,_,_,Z,_,it0,gr,f.k Z,m,o0⟩
  ·rintro a w ⟨ae,af,ag,ah,ai,rfl,aj,ak,aP,f,m,aQ⟩
   refine Ak ?_
   refine Ab f Z fun a f=>Ab f Z fun a f=>Ab f Z fun a f=>Ab f Z fun a f=> ?_
   have m:=m.front 1 rfl
   obtain⟨aR,aS,hd⟩:=bind_some hd
   refine AK f Z Tryz.call220 (Wk.N m aQ aS) fun aT aU aV w aW m aX a f=> ?_
   obtain⟨aY,rfl,rfl,aZ⟩:=aX
   refine Ad f Z fun a f=>Aa (Ac ?_)
   refine AF 1 0 m Pl3 f Z Z Z Z fun a f=>Aa (Aj (Ac ?_))
   refine Ah f Z Z By fun a f=>Ad f Z fun a f=>Aa ?_
   rcases Ae hd with⟨a0,hd⟩|⟨a0,hd⟩
   ·refine Al f Z a0 ?_
    refine Ac ?_
    refine Ab f Z fun a f=>Ad f Z fun a f=>Ad f Z fun a f=>Aa ?_
    refine Aq ?_
    have m:=m.eraseAt 1
    obtain rfl:=sj hd
    exact⟨[(.int .i64 aR.1),(.int .i64 1)],⟨f.get _ _ Z,f.get _ _ Z,trivial⟩,f.defers,_,[aY],(gt aP aW),m,_,Z,Z,aZ⟩
   ·refine Ai f Z a0 ?_
    refine Ac ?_
    refine Ah f Z Z By fun a f=>Ad f Z fun a f=>Aa ?_
    rcases Ae hd with⟨a1,hd⟩|⟨a1,hd⟩
    ·refine Al f Z a1 ?_
     refine Ac ?_
     refine Ab f Z fun a f=>Ad f Z fun a f=>Ad f Z fun a f=>Aa ?_
     refine Aq ?_
     have m:=m.eraseAt 1
     obtain rfl:=sj hd
     exact⟨[(.int .i64 aR.1),(.int .i64 2)],⟨f.get _ _ Z,f.get _ _ Z,trivial⟩,f.defers,_,[aY],(gt aP aW),m,_,Z,Z,aZ⟩
    ·refine Ai f Z a1 ?_
     refine Ac ?_
     refine Ab f Z fun a f=>Ad f Z fun a f=>Ad f Z fun a f=>Aa ?_
     refine Aq ?_
     have m:=m.eraseAt 1
     obtain rfl:=sj hd
     exact⟨[(.int .i64 aR.1),(.int .i64 0)],⟨f.get _ _ Z,f.get _ _ Z,trivial⟩,f.defers,_,[aY],(gt aP aW),m,_,Z,Z,aZ⟩
 ·refine Ai f Z ab ?_
  refine Am ?_
  refine Ac ?_
  refine AF 0 0 m Pl3 f Z Z Z Z fun a f=>Aa (Aj (Ac ?_))
  refine Ah f Z Z By fun a f=>Ad f Z fun a f=>Aa ?_
  rcases Ae hd with⟨a2,hd⟩|⟨a2,hd⟩
  ·refine Al f Z a2 ?_
   refine Ac ?_
   refine Ab f Z fun a f=>Ad f Z fun a f=>Ad f Z fun a f=>Aa ?_
   refine Aq ?_
   have m:=m.front 1 rfl
   have m:=m.eraseAt 1
   obtain rfl:=sj hd
   exact⟨[(.int .i64 (IntKind.i64.wrap (x1+(IntKind.i64.wrap ((IntKind.i64.wrap (Int.tdiv (IntKind.i64.wrap (x2-x1)) 4))*2))))),(.int .i64 1)],⟨f.get _ _ Z,f.get _ _ Z,trivial⟩,f.defers,_,[it0],gr,m,_,Z,Z,o0⟩
  ·refine Ai f Z a2 ?_
   refine Ac ?_
   refine Ah f Z Z By fun a f=>Ad f Z fun a f=>Aa ?_
   rcases Ae hd with⟨a3,hd⟩|⟨a3,hd⟩
   ·refine Al f Z a3 ?_
    refine Ac ?_
    refine Ab f Z fun a f=>Ad f Z fun a f=>Ad f Z fun a f=>Aa ?_
    refine Aq ?_
    have m:=m.front 1 rfl
    have m:=m.eraseAt 1
    obtain rfl:=sj hd
    exact⟨[(.int .i64 (IntKind.i64.wrap (x1+(IntKind.i64.wrap ((IntKind.i64.wrap (Int.tdiv (IntKind.i64.wrap (x2-x1)) 4))*2))))),(.int .i64 2)],⟨f.get _ _ Z,f.get _ _ Z,trivial⟩,f.defers,_,[it0],gr,m,_,Z,Z,o0⟩
   ·refine Ai f Z a3 ?_
    refine Ac ?_
    refine Ab f Z fun a f=>Ad f Z fun a f=>Ad f Z fun a f=>Aa ?_
    refine Aq ?_
    have m:=m.front 1 rfl
    have m:=m.eraseAt 1
    obtain rfl:=sj hd
    exact⟨[(.int .i64 (IntKind.i64.wrap (x1+(IntKind.i64.wrap ((IntKind.i64.wrap (Int.tdiv (IntKind.i64.wrap (x2-x1)) 4))*2))))),(.int .i64 0)],⟨f.get _ _ Z,f.get _ _ Z,trivial⟩,f.defers,_,[it0],gr,m,_,Z,Z,o0⟩
theorem Wk.U0 {W w:World}{G:GH}{H:List Itm}{v0:Value}{it0:Itm}{x0:(List Int)}{x1:Int}{x2:Int}(m:Mem W G w (it0::H))(o0:Ow (RI .i64) 2 G it0 v0 x0){y:((List Int))}(hd:D.U0 x0 x1 x2=some y):
  Calls Tryz.prog 211 #[v0,(.int .i64 x1),(.int .i64 x2)] w (Res W G H (fun G' Ho _=>∃i0:Itm,Ho=[i0]∧Ow (RI .i64) 2 G' i0 v0 y)):=by
 refine As (args:=[v0,(.int .i64 x1),(.int .i64 x2)]) (N:=32) [] Tryz.func211 Z Z (Nat.le_of_ble_eq_true Z) Z fun a f=> ?_
 unfold D.U0 at hd
 refine Ac ?_
 refine Ab f Z fun a f=>Ad f Z fun a f=>Aa (Ac ?_)
 refine Ab f Z fun a f=>Ah f Z Z AH fun a f=>Ad f Z fun a f=>Aa ?_
 obtain⟨aa,ab,hd⟩:=bind_some hd
 refine AC (fun a w=>∃ac:List Int,ac=aa∧∃(ad:GH) (ae:Itm),GLe G ad∧Fr a 32 []∧Mem W ad w (ae::H)∧Ow (RI .i64) 2 ad ae v0 ac) ?_ ?_
 ·refine Aj ?_
  refine AA (fun af a w=>∃ag:List Int,∃ah:Int,∃ai:Int,(ag,ah,ai)=af∧∃(aj:GH) (ak:Itm),GLe G aj∧Fr a 32 [(0,v0),(6,(.int .i64 ah)),(7,(.int .i64 ai))]∧Mem W aj w (ak::H)∧Ow (RI .i64) 2 aj ak v0 ag) ab ⟨_,_,_,Z,_,it0,gr,f.k Z,m,o0⟩ ?_
  clear ab f m
  rintro af al am an a w ⟨ag,ah,ai,rfl,aj,ak,ao,f,m,ap⟩
  refine Af (Ac ?_)
  refine Ab f Z fun a f=>Ab f Z fun a f=>Ah f Z Z AJ fun a f=>Aa ?_
  rcases Ae am with⟨aq,am⟩|⟨aq,am⟩
  ·refine Al f Z aq ?_
   refine Am ?_
   refine Aj (Af ?_)
   refine Bv Aw m ?_
   refine p_p 2 Z (by kernel_rfl) f Z Z Z (fun _=>AX (f.eval Z)) fun a f=>p_p 3 Z (by kernel_rfl) f Z Z Z (fun _=>AX (f.eval Z)) fun a f=>Bu 12013 11 (by kernel_rfl) Z ?_
   refine Ag 0 12013 Z f Z fun a f=>Ag 1 12013 Z f Z fun a f=>Ag 4 12013 Z f Z fun a f=>Ag 5 12013 Z f Z fun a f=> ?_
   obtain⟨ar,au,am⟩:=bind_some am
   refine Az 6 12013 0 m ap T42 au Z f Z Z fun av a aw f=>AL 7 12013 0 ap Pl2 aw au Z f Z fun ax a ay f=> ?_
   subst ay
   refine Ag 8 12013 Z f Z fun a f=>Ag 9 12013 Z f Z fun a f=> ?_
   obtain⟨az,aA,am⟩:=bind_some am
   refine Az 10 12013 0 m ap T42 aA Z f Z Z fun aB a aC f=>AL 11 12013 0 ap Pl2 aC aA Z f Z fun aD a aE f=> ?_
   subst aE
   obtain⟨aF,aG,am⟩:=bind_some am
   refine Az 12 12013 0 m ap T42 aG Z f Z Z fun aH a aI f=>AI fun aJ w aK m=> ?_
   have ap:=od1 aK ap
   refine Au 0 m ap Z Tryz.sizeOf2 f Z Z aI aG Z Z Z fun aL w m aM=> ?_
   obtain⟨aN,aO,am⟩:=bind_some am
   refine AW 0 m aM Z T42 f Z Z Z aO fun aP a aQ f=>Au 0 m aM Z Tryz.sizeOf2 f Z Z aQ aO Z Z Z fun aR w m aS=>Aa (Ac ?_)
   refine Ab f Z fun a f=>Ah f Z Z Ar fun a f=>Ad f Z fun a f=>Aa (Ak ?_)
   refine Ab f Z fun a f=>Ah f Z Z AH fun a f=>Ad f Z fun a f=>Aa ?_
   obtain rfl:=sj am
   exact⟨_,Z,_,_,_,Z,_,aR,(gt ao aK),f.k Z,m,aS⟩
  ·refine Ai f Z aq ?_
   refine Ax Z ?_
   obtain rfl:=sj am
   obtain rfl:=an _ rfl
   exact⟨_,Z,_,ak,ao,f.weak trivial,m,ap⟩
 ·rintro a w ⟨ac,rfl,ad,ae,aT,f,m,aU⟩
  obtain rfl:=sj hd
  exact⟨[],trivial,f.defers,_,[ae],aT,m,_,Z,aU⟩
theorem Wk.E0 {W w:World}{G:GH}{H:List Itm}{v0:Value}{it0:Itm}{x0:(List Int)}{x1:Int}{x2:Int}(m:Mem W G w (it0::H))(o0:Ow (RI .i64) 2 G it0 v0 x0){y:Bool×((List Int))}(hd:D.E0 x0 x1 x2=some y):
  Calls Tryz.prog 212 #[v0,(.int .i64 x1),(.int .i64 x2)] w (Res W G H (fun G' Ho v=>∃i0:Itm,Ho=[i0]∧v=(.bool y.1)∧Ow (RI .i64) 2 G' i0 v0 y.2)):=by
 refine As (args:=[v0,(.int .i64 x1),(.int .i64 x2)]) (N:=133) [.tmp 6] Tryz.func212 Z Z (Nat.le_of_ble_eq_true Z) Z fun a f=> ?_
 unfold D.E0 at hd
 refine Ac ?_
 refine Ad f Z fun a f=>Aa (Ac ?_)
 refine Ab f Z fun a f=>Ah f Z Z Ar fun a f=>Ad f Z fun a f=>Aa (Af (Ac ?_))
 refine Ad f Z fun a f=>Aa ?_
 obtain⟨aa,ab,hd⟩:=bind_some hd
 refine AC (fun a w=>∃q_1621':(List Int),aa= .inl q_1621'∧∃ac:List Int,ac=q_1621'∧∃(ad:GH) (ae:Itm),GLe G ad∧Fr a 133 []∧Mem W ad w (ae::H)∧Ow (RI .i64) 2 ad ae v0 ac) ?_ ?_
 ·refine Aj ?_
  refine AA (fun af a w=>∃ag:List Int,∃ah:Int,∃ai:Int,(ag,ah,ai)=af∧∃(aj:GH) (ak:Itm),GLe G aj∧Fr a 133 [(0,v0),(1,(.int .i64 x1)),(2,(.int .i64 x2)),(7,(.int .i64 ah)),(8,(.int .i64 ai))]∧Mem W aj w (ak::H)∧Ow (RI .i64) 2 aj ak v0 ag) ab ⟨_,_,_,Z,_,it0,gr,f.k Z,m,o0⟩ ?_
  clear ab f m
  rintro af al am an a w ⟨ag,ah,ai,rfl,aj,ak,ao,f,m,ap⟩
  refine Af (Ac ?_)
  refine Ab f Z fun a f=>Ah f Z Z AJ fun a f=>Aa ?_
  rcases Ae am with⟨aq,am⟩|⟨aq,am⟩
  ·refine Al f Z aq ?_
   refine Am ?_
   refine Af (Aj (Af ?_))
   obtain⟨ar,au,am⟩:=bind_some am
   refine AC (fun a w=>∃av:Int,av=ar∧∃(aw:GH),GLe aj aw∧Fr a 133 [(0,v0),(1,(.int .i64 x1)),(2,(.int .i64 x2)),(7,(.int .i64 av)),(8,(.int .i64 ai))]∧Mem W aw w (ak::H)) ?_ ?_
   ·refine Aj ?_
    refine AA (fun ax a w=>∃ay:Int,ay=ax∧∃(az:GH),GLe aj az∧Fr a 133 [(0,v0),(1,(.int .i64 x1)),(2,(.int .i64 x2)),(7,(.int .i64 ay)),(8,(.int .i64 ai))]∧Mem W az w (ak::H)) au ⟨_,Z,_,gr,f.k Z,m⟩ ?_
    clear au f m
    rintro ax aA aB aC a w ⟨ay,rfl,az,aD,f,m⟩
    have ap:=od1 aD ap
    refine Af (Af ?_)
    refine AT 16 Aw (by kernel_rfl) m ?_
    refine Ag 0 16 Z f Z fun a f=>Ag 1 16 Z f Z fun a f=>q_p 2 16 Z f (fun _=>AD (f.eval Z) (f.eval Z) AJ) fun a f=>Ag 3 16 Z f Z fun a f=> ?_
    obtain⟨aE,aF,aB⟩:=bind_some aB
    refine BN (fuel':=0) (listed':= #[true,true,true,true,true,true,true,true,true,true,true,true,true,true,true,true]) (fun a=>Fr a 133 [(0,v0),(1,(.int .i64 x1)),(2,(.int .i64 x2)),(7,(.int .i64 ay)),(8,(.int .i64 ai)),(17,(.int .i64 ay)),(18,(.int .i64 x2)),(19,(.bool (decide (ay<x2)))),(20,(.bool (decide (ay<x2)))),(32,(.bool aE))]) ?_ ?_
    ·intro a f
     refine AI fun aG w aH m=> ?_
     have ap:=od1 aH ap
     refine Aa ?_
     rcases Ae aB with⟨aI,aB⟩|⟨aI,aB⟩
     ·refine Al f Z aI ?_
      refine Am ?_
      refine Aj (Ak ?_)
      refine Ab f Z fun a f=>Ah f Z Z Ar fun a f=>Ad f Z fun a f=>Aa ?_
      obtain rfl:=sj aB
      exact⟨_,Z,_,Z,_,(gt aD aH),f.k Z,m⟩
     ·refine Ai f Z aI ?_
      refine Ax Z ?_
      obtain rfl:=sj aB
      obtain rfl:=aC _ rfl
      exact⟨_,Z,_,(gt aD aH),f.k Z,m⟩
    ·intro aJ
     rcases Ae aF with⟨aK,aF⟩|⟨aK,aF⟩
     ·refine Ag (hw:=wo f aK) 4 16 Z f Z fun a f=> ?_
      refine Ag (hw:=wo f aK) 5 16 Z f Z fun a f=> ?_
      obtain⟨aL,aM,aF⟩:=bind_some aF
      refine Az (hw:=wo f aK) 6 16 0 m ap T42 aM Z f Z Z fun aN a aO f=>AL (hw:=wo f aK) 7 16 0 ap Pl2 aO aM Z f Z fun aP a aQ f=> ?_
      subst aQ
      refine Ag (hw:=wo f aK) 8 16 Z f Z fun a f=>Ag (hw:=wo f aK) 9 16 Z f Z fun a f=>q_p (hw:=wo f aK) 10 16 Z f (fun _=>AD (f.eval Z) (f.eval Z) AH) fun a f=> ?_
      obtain⟨aR,aS,aF⟩:=bind_some aF
      refine Az (hw:=wo f aK) 11 16 0 m ap T42 aS Z f Z Z fun aT a aU f=>AL (hw:=wo f aK) 12 16 0 ap Pl2 aU aS Z f Z fun aV a aW f=> ?_
      subst aW
      obtain⟨aX,aY,aF⟩:=bind_some aF
      refine Bh (i:=13) 16 Z (by kernel_rfl) Z f (AQ f Z Z Z aK) Z Z Tryz.call213 (fun _ _ w aZ m=>Wk.b m aY) fun a f=>q_p (hw:=wo f aK) 14 16 Z f (fun _=>Bd (f.eval Z)) fun a f=>q_p 15 16 Z f (fun _=>AO (f.eval Z) aK (f.eval Z)) fun a f=> ?_
      obtain rfl:=sj aF
      exact aJ _ (f.k Z)
     ·refine An 4 16 Z f aK fun a f=> ?_
      refine An 5 16 Z f aK fun a f=>An 6 16 Z f aK fun a f=>An 7 16 Z f aK fun a f=>An 8 16 Z f aK fun a f=>An 9 16 Z f aK fun a f=>An 10 16 Z f aK fun a f=>An 11 16 Z f aK fun a f=>An 12 16 Z f aK fun a f=>An 13 16 Z f aK fun a f=>An 14 16 Z f aK fun a f=>q_p 15 16 Z f (fun _=>AP (f.eval Z) aK (f.eval Z)) fun a f=> ?_
      obtain rfl:=sj aF
      exact aJ _ (f.k Z)
   ·rintro a w ⟨av,rfl,aw,a0,f,m⟩
    have ap:=od1 a0 ap
    refine Af (Ac ?_)
    refine Ab f Z fun a f=>Ab f Z fun a f=>Ah f Z Z By fun a f=>Aa ?_
    rcases Ae am with⟨a1,am⟩|⟨a1,am⟩
    ·refine Al f Z a1 ?_
     refine Ac ?_
     refine Ad f Z fun a f=>Aa ?_
     refine Aq ?_
     obtain rfl:=sj am
     obtain rfl:=an _ rfl
     obtain rfl:=sj hd
     exact⟨[(.bool true)],⟨f.get _ _ Z,trivial⟩,f.defers,_,[ak],(gt ao a0),m,_,Z,Z,ap⟩
    ·refine Ai f Z a1 ?_
     refine Am ?_
     refine Af (Ac ?_)
     refine Ab f Z fun a f=>Ab f Z fun a f=>Ah f Z Z AH fun a f=>Ah f Z Z AJ fun a f=>Aa ?_
     rcases Ae am with⟨a2,am⟩|⟨a2,am⟩
     ·refine Al f Z a2 ?_
      refine Ac ?_
      refine Ad f Z fun a f=>Aa ?_
      refine Aq ?_
      obtain rfl:=sj am
      obtain rfl:=an _ rfl
      obtain rfl:=sj hd
      exact⟨[(.bool false)],⟨f.get _ _ Z,trivial⟩,f.defers,_,[ak],(gt ao a0),m,_,Z,Z,ap⟩
     ·refine Ai f Z a2 ?_
      refine Am ?_
      refine Af ?_
      refine Bv Aw m ?_
      refine p_p 2 Z (by kernel_rfl) f Z Z Z (fun _=>AX (f.eval Z)) fun a f=>p_p 3 Z (by kernel_rfl) f Z Z Z (fun _=>AX (f.eval Z)) fun a f=>p_p 4 Z (by kernel_rfl) f Z Z Z (fun _=>AD (f.eval Z) (f.eval Z) AH) fun a f=>Bu 28015 12 (by kernel_rfl) Z ?_
      refine Ag 0 28015 Z f Z fun a f=>Ag 1 28015 Z f Z fun a f=>Ag 5 28015 Z f Z fun a f=>Ag 6 28015 Z f Z fun a f=>q_p 7 28015 Z f (fun _=>AD (f.eval Z) (f.eval Z) AH) fun a f=> ?_
      obtain⟨a3,a4,am⟩:=bind_some am
      refine Az 8 28015 0 m ap T42 a4 Z f Z Z fun a5 a a6 f=>AL 9 28015 0 ap Pl2 a6 a4 Z f Z fun a7 a a8 f=> ?_
      subst a8
      refine Ag 10 28015 Z f Z fun a f=>Ag 11 28015 Z f Z fun a f=> ?_
      obtain⟨a9,ba,am⟩:=bind_some am
      refine Az 12 28015 0 m ap T42 ba Z f Z Z fun bb a bc f=>AL 13 28015 0 ap Pl2 bc ba Z f Z fun bd a be f=> ?_
      subst be
      obtain⟨bf,bg,am⟩:=bind_some am
      refine Az 14 28015 0 m ap T42 bg Z f Z Z fun bh a bi f=>AI fun bj w bk m=> ?_
      have ap:=od1 bk ap
      refine Au 0 m ap Z Tryz.sizeOf2 f Z Z bi bg Z Z Z fun bl w m bm=> ?_
      obtain⟨bn,bo,am⟩:=bind_some am
      refine AW 0 m bm Z T42 f Z Z Z bo fun bp a bq f=>Au 0 m bm Z Tryz.sizeOf2 f Z Z bq bo Z Z Z fun br w m bs=>Aa (Af (Ac ?_))
      refine Ab f Z fun a f=>Ab f Z fun a f=>Ah f Z Z AH fun a f=>Ah f Z Z BM fun a f=>Aa ?_
      obtain⟨bt,bu,am⟩:=bind_some am
      refine AC (fun a w=>∃bv:List Int,bv=bt∧∃(bw:GH) (bx:Itm),GLe bj bw∧Fr a 133 [(0,v0),(1,(.int .i64 x1)),(2,(.int .i64 x2)),(7,(.int .i64 av)),(8,(.int .i64 ai))]∧Mem W bw w (bx::H)∧Ow (RI .i64) 2 bw bx v0 bv) ?_ ?_
      ·rcases Ae bu with⟨bz,bu⟩|⟨bz,bu⟩
       ·refine Al f Z bz ?_
        refine Ac ?_
        refine Ab f Z fun a f=>Ah f Z Z AH fun a f=>Ad f Z fun a f=>Aa ?_
        obtain⟨bA,bB,bu⟩:=bind_some bu
        refine AC (fun a w=>∃bC:List Int,bC=bA∧∃(bD:GH) (bE:Itm),GLe bj bD∧Fr a 133 [(0,v0),(1,(.int .i64 x1)),(2,(.int .i64 x2)),(7,(.int .i64 av)),(8,(.int .i64 ai))]∧Mem W bD w (bE::H)∧Ow (RI .i64) 2 bD bE v0 bC) ?_ ?_
        ·refine Aj ?_
         refine AA (fun bF a w=>∃bG:List Int,∃bH:Int,(bG,bH)=bF∧∃(bI:GH) (bJ:Itm),GLe bj bI∧Fr a 133 [(0,v0),(1,(.int .i64 x1)),(2,(.int .i64 x2)),(7,(.int .i64 av)),(8,(.int .i64 ai)),(9,(.int .i64 bH))]∧Mem W bI w (bJ::H)∧Ow (RI .i64) 2 bI bJ v0 bG) bB ⟨_,_,Z,_,br,gr,f.k Z,m,bs⟩ ?_
         clear bB f m
         rintro bF bK bL bM a w ⟨bG,bH,rfl,bI,bJ,bN,f,m,bO⟩
         refine Af (Ac ?_)
         refine Ab f Z fun a f=>Ah f Z Z BM fun a f=>Aa ?_
         rcases Ae bL with⟨bP,bL⟩|⟨bP,bL⟩
         ·refine Al f Z bP ?_
          refine Am ?_
          refine Af (Aj (Af (Af ?_)))
          refine AT 11 Aw (by kernel_rfl) m ?_
          refine Ag 0 11 Z f Z fun a f=>Ag 1 11 Z f Z fun a f=> ?_
          obtain⟨bQ,bR,bL⟩:=bind_some bL
          refine Az 2 11 0 m bO T42 bR Z f Z Z fun bS a bT f=>AL 3 11 0 bO Pl2 bT bR Z f Z fun bU a bV f=> ?_
          subst bV
          refine Ag 4 11 Z f Z fun a f=>Ag 5 11 Z f Z fun a f=>q_p 6 11 Z f (fun _=>AD (f.eval Z) (f.eval Z) AH) fun a f=> ?_
          obtain⟨bW,bX,bL⟩:=bind_some bL
          refine Az 7 11 0 m bO T42 bX Z f Z Z fun bY a bZ f=>AL 8 11 0 bO Pl2 bZ bX Z f Z fun b0 a b1 f=> ?_
          subst b1
          obtain⟨b2,b3,bL⟩:=bind_some bL
          refine Bh (i:=9) 11 Z (by kernel_rfl) Z f Z Z Z Tryz.call213 (fun _ _ w b4 m=>Wk.b m b3) fun a f=>q_p 10 11 Z f (fun _=>Bd (f.eval Z)) fun a f=>AI fun b5 w b6 m=> ?_
          have bO:=od1 b6 bO
          refine Aa ?_
          rcases Ae bL with⟨b7,bL⟩|⟨b7,bL⟩
          ·refine Al f Z b7 ?_
           refine Ax Z ?_
           obtain rfl:=sj bL
           obtain rfl:=bM _ rfl
           exact⟨_,Z,_,bJ,(gt bN b6),f.k Z,m,bO⟩
          ·refine Ai f Z b7 ?_
           refine Am ?_
           refine Bv Aw m ?_
           refine p_p 2 Z (by kernel_rfl) f Z Z Z (fun _=>AX (f.eval Z)) fun a f=>p_p 3 Z (by kernel_rfl) f Z Z Z (fun _=>AX (f.eval Z)) fun a f=>p_p 4 Z (by kernel_rfl) f Z Z Z (fun _=>AD (f.eval Z) (f.eval Z) AH) fun a f=>Bu 28015 12 (by kernel_rfl) Z ?_
           refine Ag 0 28015 Z f Z fun a f=>Ag 1 28015 Z f Z fun a f=>Ag 5 28015 Z f Z fun a f=>Ag 6 28015 Z f Z fun a f=>q_p 7 28015 Z f (fun _=>AD (f.eval Z) (f.eval Z) AH) fun a f=> ?_
           obtain⟨b8,b9,bL⟩:=bind_some bL
           refine Az 8 28015 0 m bO T42 b9 Z f Z Z fun ca a cb f=>AL 9 28015 0 bO Pl2 cb b9 Z f Z fun cc a cd f=> ?_
           subst cd
           refine Ag 10 28015 Z f Z fun a f=>Ag 11 28015 Z f Z fun a f=> ?_
           obtain⟨ce,cf,bL⟩:=bind_some bL
           refine Az 12 28015 0 m bO T42 cf Z f Z Z fun cg a ch f=>AL 13 28015 0 bO Pl2 ch cf Z f Z fun ci a cj f=> ?_
           subst cj
           obtain⟨ck,cl,bL⟩:=bind_some bL
           refine Az 14 28015 0 m bO T42 cl Z f Z Z fun cm a cn f=>AI fun co w cp m=> ?_
           have bO:=od1 cp bO
           refine Au 0 m bO Z Tryz.sizeOf2 f Z Z cn cl Z Z Z fun cq w m cr=> ?_
           obtain⟨cs,ct,bL⟩:=bind_some bL
           refine AW 0 m cr Z T42 f Z Z Z ct fun cu a cv f=>Au 0 m cr Z Tryz.sizeOf2 f Z Z cv ct Z Z Z fun cw w m cx=>Aa (Ak ?_)
           refine Ab f Z fun a f=>Ah f Z Z AH fun a f=>Ad f Z fun a f=>Aa ?_
           obtain rfl:=sj bL
           exact⟨_,Z,_,_,Z,_,cw,(gt bN (gt b6 cp)),f.k Z,m,cx⟩
         ·refine Ai f Z bP ?_
          refine Ax Z ?_
          obtain rfl:=sj bL
          obtain rfl:=bM _ rfl
          exact⟨_,Z,_,bJ,bN,f.k Z,m,bO⟩
        ·rintro a w ⟨bC,rfl,bD,bE,cy,f,m,cz⟩
         obtain rfl:=sj bu
         exact⟨_,Z,_,bE,cy,f.k Z,m,cz⟩
       ·refine Ai f Z bz ?_
        refine Am ?_
        obtain rfl:=sj bu
        exact⟨_,Z,_,br,gr,f.k Z,m,bs⟩
      ·rintro a w ⟨bv,rfl,bw,bx,cA,f,m,cB⟩
       refine Ac ?_
       refine Ab f Z fun a f=>Ab f Z fun a f=>Ah f Z Z AH fun a f=>Ah f Z Z BM fun a f=>Aa ?_
       rcases Ae am with⟨cC,am⟩|⟨cC,am⟩
       ·refine Al f Z cC ?_
        refine Ac ?_
        refine Ab f Z fun a f=>Ah f Z Z Ar fun a f=>Ad f Z fun a f=>Aa ?_
        obtain⟨cD,cE,am⟩:=bind_some am
        refine AC (fun a w=>∃cF:List Int,cF=cD∧∃(cG:GH) (cH:Itm),GLe bw cG∧Fr a 133 [(0,v0),(1,(.int .i64 x1)),(2,(.int .i64 x2)),(7,(.int .i64 av)),(8,(.int .i64 ai))]∧Mem W cG w (cH::H)∧Ow (RI .i64) 2 cG cH v0 cF) ?_ ?_
        ·refine Aj ?_
         refine AA (fun cI a w=>∃cJ:List Int,∃cK:Int,(cJ,cK)=cI∧∃(cL:GH) (cM:Itm),GLe bw cL∧Fr a 133 [(0,v0),(1,(.int .i64 x1)),(2,(.int .i64 x2)),(7,(.int .i64 av)),(8,(.int .i64 ai)),(10,(.int .i64 cK))]∧Mem W cL w (cM::H)∧Ow (RI .i64) 2 cL cM v0 cJ) cE ⟨_,_,Z,_,bx,gr,f.k Z,m,cB⟩ ?_
         clear cE f m
         rintro cI cN cO cP a w ⟨cJ,cK,rfl,cL,cM,cQ,f,m,cR⟩
         refine Af (Ac ?_)
         refine Ab f Z fun a f=>Ab f Z fun a f=>Ah f Z Z AJ fun a f=>Aa ?_
         rcases Ae cO with⟨cS,cO⟩|⟨cS,cO⟩
         ·refine Al f Z cS ?_
          refine Am ?_
          refine Af (Aj (Af (Af ?_)))
          refine AT 11 Aw (by kernel_rfl) m ?_
          refine Ag 0 11 Z f Z fun a f=>Ag 1 11 Z f Z fun a f=> ?_
          obtain⟨cT,cU,cO⟩:=bind_some cO
          refine Az 2 11 0 m cR T42 cU Z f Z Z fun cV a cW f=>AL 3 11 0 cR Pl2 cW cU Z f Z fun cX a cY f=> ?_
          subst cY
          refine Ag 4 11 Z f Z fun a f=>Ag 5 11 Z f Z fun a f=>q_p 6 11 Z f (fun _=>AD (f.eval Z) (f.eval Z) AH) fun a f=> ?_
          obtain⟨cZ,c0,cO⟩:=bind_some cO
          refine Az 7 11 0 m cR T42 c0 Z f Z Z fun c1 a c2 f=>AL 8 11 0 cR Pl2 c2 c0 Z f Z fun c3 a c4 f=> ?_
          subst c4
          obtain⟨c5,c6,cO⟩:=bind_some cO
          refine Bh (i:=9) 11 Z (by kernel_rfl) Z f Z Z Z Tryz.call213 (fun _ _ w c7 m=>Wk.b m c6) fun a f=>q_p 10 11 Z f (fun _=>Bd (f.eval Z)) fun a f=>AI fun c8 w c9 m=> ?_
          have cR:=od1 c9 cR
          refine Aa ?_
          rcases Ae cO with⟨da,cO⟩|⟨da,cO⟩
          ·refine Al f Z da ?_
           refine Ax Z ?_
           obtain rfl:=sj cO
           obtain rfl:=cP _ rfl
           exact⟨_,Z,_,cM,(gt cQ c9),f.k Z,m,cR⟩
          ·refine Ai f Z da ?_
           refine Am ?_
           refine Bv Aw m ?_
           refine p_p 2 Z (by kernel_rfl) f Z Z Z (fun _=>AX (f.eval Z)) fun a f=>p_p 3 Z (by kernel_rfl) f Z Z Z (fun _=>AX (f.eval Z)) fun a f=>p_p 4 Z (by kernel_rfl) f Z Z Z (fun _=>AD (f.eval Z) (f.eval Z) AH) fun a f=>Bu 28015 12 (by kernel_rfl) Z ?_
           refine Ag 0 28015 Z f Z fun a f=>Ag 1 28015 Z f Z fun a f=>Ag 5 28015 Z f Z fun a f=>Ag 6 28015 Z f Z fun a f=>q_p 7 28015 Z f (fun _=>AD (f.eval Z) (f.eval Z) AH) fun a f=> ?_
           obtain⟨db,dc,cO⟩:=bind_some cO
           refine Az 8 28015 0 m cR T42 dc Z f Z Z fun dd a de f=>AL 9 28015 0 cR Pl2 de dc Z f Z fun df a dg f=> ?_
           subst dg
           refine Ag 10 28015 Z f Z fun a f=>Ag 11 28015 Z f Z fun a f=> ?_
           obtain⟨dh,di,cO⟩:=bind_some cO
           refine Az 12 28015 0 m cR T42 di Z f Z Z fun dj a dk f=>AL 13 28015 0 cR Pl2 dk di Z f Z fun dl a dm f=> ?_
           subst dm
           obtain⟨dn,dp,cO⟩:=bind_some cO
           refine Az 14 28015 0 m cR T42 dp Z f Z Z fun dq a dr f=>AI fun ds w dt m=> ?_
           have cR:=od1 dt cR
           refine Au 0 m cR Z Tryz.sizeOf2 f Z Z dr dp Z Z Z fun du w m dv=> ?_
           obtain⟨dw,dx,cO⟩:=bind_some cO
           refine AW 0 m dv Z T42 f Z Z Z dx fun dy a dz f=>Au 0 m dv Z Tryz.sizeOf2 f Z Z dz dx Z Z Z fun dA w m dB=>Aa (Ak ?_)
           refine Ab f Z fun a f=>Ah f Z Z Ar fun a f=>Ad f Z fun a f=>Aa ?_
           obtain rfl:=sj cO
           exact⟨_,Z,_,_,Z,_,dA,(gt cQ (gt c9 dt)),f.k Z,m,dB⟩
         ·refine Ai f Z cS ?_
          refine Ax Z ?_
          obtain rfl:=sj cO
          obtain rfl:=cP _ rfl
          exact⟨_,Z,_,cM,cQ,f.k Z,m,cR⟩
        ·rintro a w ⟨cF,rfl,cG,cH,dC,f,m,dD⟩
         refine Ak ?_
         refine Ab f Z fun a f=>Ah f Z Z Ar fun a f=>Ad f Z fun a f=>Aa ?_
         obtain rfl:=sj am
         exact⟨_,Z,_,_,_,Z,_,cH,(gt ao (gt a0 (gt bk (gt cA dC)))),f.k Z,m,dD⟩
       ·refine Ai f Z cC ?_
        refine Am ?_
        refine Ak ?_
        refine Ab f Z fun a f=>Ah f Z Z Ar fun a f=>Ad f Z fun a f=>Aa ?_
        obtain rfl:=sj am
        exact⟨_,Z,_,_,_,Z,_,bx,(gt ao (gt a0 (gt bk cA))),f.k Z,m,cB⟩
  ·refine Ai f Z aq ?_
   refine Ax Z ?_
   obtain rfl:=sj am
   obtain rfl:=an _ rfl
   exact⟨_,Z,_,Z,_,ak,ao,f.weak trivial,m,ap⟩
 ·rintro a w ⟨_,rfl,ac,rfl,ad,ae,dE,f,m,dF⟩
  refine Ac ?_
  refine Ad f Z fun a f=>Aa ?_
  refine Aq ?_
  obtain rfl:=sj hd
  exact⟨[(.bool false)],⟨f.get _ _ Z,trivial⟩,f.defers,_,[ae],dE,m,_,Z,Z,dF⟩
theorem Wk.x0 {W w:World}{G:GH}{H:List Itm}{v0:Value}{it0:Itm}{x0:(List Int)}{x1:Int}{x2:Int}{x3:Int}(m:Mem W G w (it0::H))(o0:Ow (RI .i64) 2 G it0 v0 x0){y:Int×((List Int))}(hd:D.x0 x0 x1 x2 x3=some y):
  Calls Tryz.prog 214 #[v0,(.int .i64 x1),(.int .i64 x2),(.int .i64 x3)] w (Res W G H (fun G' Ho v=>∃i0:Itm,Ho=[i0]∧v=(.int .i64 y.1)∧Ow (RI .i64) 2 G' i0 v0 y.2)):=by
 refine As (args:=[v0,(.int .i64 x1),(.int .i64 x2),(.int .i64 x3)]) (N:=84) [.tmp 8] Tryz.func214 Z Z (Nat.le_of_ble_eq_true Z) Z fun a f=> ?_
 unfold D.x0 at hd
 refine Ac ?_
 refine Ad f Z fun a f=>Aa (Af ?_)
 refine Bv Aw m ?_
 refine p_p 2 Z (by kernel_rfl) f Z Z Z (fun _=>AX (f.eval Z)) fun a f=>p_p 3 Z (by kernel_rfl) f Z Z Z (fun _=>AX (f.eval Z)) fun a f=>Bu 12013 11 (by kernel_rfl) Z ?_
 refine Ag 0 12013 Z f Z fun a f=>Ag 1 12013 Z f Z fun a f=>Ag 4 12013 Z f Z fun a f=>Ag 5 12013 Z f Z fun a f=> ?_
 obtain⟨aa,ab,hd⟩:=bind_some hd
 refine Az 6 12013 0 m o0 T42 ab Z f Z Z fun ac a ad f=>AL 7 12013 0 o0 Pl2 ad ab Z f Z fun ae a af f=> ?_
 subst af
 refine Ag 8 12013 Z f Z fun a f=>Ag 9 12013 Z f Z fun a f=> ?_
 obtain⟨ag,ah,hd⟩:=bind_some hd
 refine Az 10 12013 0 m o0 T42 ah Z f Z Z fun ai a aj f=>AL 11 12013 0 o0 Pl2 aj ah Z f Z fun ak a al f=> ?_
 subst al
 obtain⟨am,an,hd⟩:=bind_some hd
 refine Az 12 12013 0 m o0 T42 an Z f Z Z fun ao a ap f=>AI fun aq w ar m=> ?_
 have o0:=od1 ar o0
 refine Au 0 m o0 Z Tryz.sizeOf2 f Z Z ap an Z Z Z fun au w m av=> ?_
 obtain⟨aw,ax,hd⟩:=bind_some hd
 refine AW 0 m av Z T42 f Z Z Z ax fun ay a az f=>Au 0 m av Z Tryz.sizeOf2 f Z Z az ax Z Z Z fun aA w m aB=>Aa (Ac ?_)
 refine Ab f Z fun a f=>Ah f Z Z Ar fun a f=>Ab f Z fun a f=>Ah f Z Z AH fun a f=>Ad f Z fun a f=>Ad f Z fun a f=>Aa (Af ?_)
 obtain⟨aC,aD,hd⟩:=bind_some hd
 refine AC (fun a w=>∃aE:List Int,∃aF:Int,(aE,aF)=aC∧∃(aG:GH) (aH:Itm),GLe aq aG∧Fr a 84 [(9,(.int .i64 aF))]∧Mem W aG w (aH::H)∧Ow (RI .i64) 2 aG aH v0 aE) ?_ ?_
 ·refine Aj ?_
  refine AA (fun aI a w=>∃aJ:List Int,∃aK:Int,∃aL:Int,(aJ,aK,aL)=aI∧∃(aM:GH) (aN:Itm),GLe aq aM∧Fr a 84 [(0,v0),(1,(.int .i64 x1)),(9,(.int .i64 aK)),(10,(.int .i64 aL))]∧Mem W aM w (aN::H)∧Ow (RI .i64) 2 aM aN v0 aJ) aD ⟨_,_,_,Z,_,aA,gr,f.k Z,m,aB⟩ ?_
  clear aD f m
  rintro aI aO aP aQ a w ⟨aJ,aK,aL,rfl,aM,aN,aR,f,m,aS⟩
  refine Aj (Af ?_)
  obtain⟨aT,aU,aP⟩:=bind_some aP
  refine AC (fun a w=>∃aV:Int,aV=aT∧∃(aW:GH),GLe aM aW∧Fr a 84 [(0,v0),(1,(.int .i64 x1)),(9,(.int .i64 aV)),(10,(.int .i64 aL))]∧Mem W aW w (aN::H)) ?_ ?_
  ·refine Aj ?_
   refine AA (fun aX a w=>∃aY:Int,aY=aX∧∃(aZ:GH),GLe aM aZ∧Fr a 84 [(0,v0),(1,(.int .i64 x1)),(9,(.int .i64 aY)),(10,(.int .i64 aL))]∧Mem W aZ w (aN::H)) aU ⟨_,Z,_,gr,f.k Z,m⟩ ?_
   clear aU f m
   rintro aX a0 a1 a2 a w ⟨aY,rfl,aZ,a3,f,m⟩
   have aS:=od1 a3 aS
   refine Af (Af ?_)
   refine AT 15 Aw (by kernel_rfl) m ?_
   refine Ag 0 15 Z f Z fun a f=>Ag 1 15 Z f Z fun a f=>q_p 2 15 Z f (fun _=>AD (f.eval Z) (f.eval Z) B7) fun a f=>Ag 3 15 Z f Z fun a f=> ?_
   obtain⟨a4,a5,a1⟩:=bind_some a1
   refine BN (fuel':=0) (listed':= #[true,true,true,true,true,true,true,true,true,true,true,true,true,true,true]) (fun a=>Fr a 84 [(0,v0),(1,(.int .i64 x1)),(9,(.int .i64 aY)),(10,(.int .i64 aL)),(29,(.int .i64 aY)),(30,(.int .i64 aL)),(31,(.bool (decide (aY≤aL)))),(32,(.bool (decide (aY≤aL)))),(43,(.bool a4))]) ?_ ?_
   ·intro a f
    refine AI fun a6 w a7 m=> ?_
    have aS:=od1 a7 aS
    refine Aa ?_
    rcases Ae a1 with⟨a8,a1⟩|⟨a8,a1⟩
    ·refine Al f Z a8 ?_
     refine Am ?_
     refine Aj (Ak ?_)
     refine Ab f Z fun a f=>Ah f Z Z Ar fun a f=>Ad f Z fun a f=>Aa ?_
     obtain rfl:=sj a1
     exact⟨_,Z,_,Z,_,(gt a3 a7),f.k Z,m⟩
    ·refine Ai f Z a8 ?_
     refine Ax Z ?_
     obtain rfl:=sj a1
     obtain rfl:=a2 _ rfl
     exact⟨_,Z,_,(gt a3 a7),f.k Z,m⟩
   ·intro a9
    rcases Ae a5 with⟨ba,a5⟩|⟨ba,a5⟩
    ·refine Ag (hw:=wo f ba) 4 15 Z f Z fun a f=> ?_
     refine Ag (hw:=wo f ba) 5 15 Z f Z fun a f=> ?_
     obtain⟨bb,bc,a5⟩:=bind_some a5
     refine Az (hw:=wo f ba) 6 15 0 m aS T42 bc Z f Z Z fun bd a be f=>AL (hw:=wo f ba) 7 15 0 aS Pl2 be bc Z f Z fun bf a bg f=> ?_
     subst bg
     refine Ag (hw:=wo f ba) 8 15 Z f Z fun a f=>Ag (hw:=wo f ba) 9 15 Z f Z fun a f=> ?_
     obtain⟨bh,bi,a5⟩:=bind_some a5
     refine Az (hw:=wo f ba) 10 15 0 m aS T42 bi Z f Z Z fun bj a bk f=>AL (hw:=wo f ba) 11 15 0 aS Pl2 bk bi Z f Z fun bl a bm f=> ?_
     subst bm
     obtain⟨bn,bo,a5⟩:=bind_some a5
     refine Bh (i:=12) 15 Z (by kernel_rfl) Z f (AQ f Z Z Z ba) Z Z Tryz.call213 (fun _ _ w bp m=>Wk.b m bo) fun a f=>q_p (hw:=wo f ba) 13 15 Z f (fun _=>Bd (f.eval Z)) fun a f=>q_p 14 15 Z f (fun _=>AO (f.eval Z) ba (f.eval Z)) fun a f=> ?_
     obtain rfl:=sj a5
     exact a9 _ (f.k Z)
    ·refine An 4 15 Z f ba fun a f=> ?_
     refine An 5 15 Z f ba fun a f=>An 6 15 Z f ba fun a f=>An 7 15 Z f ba fun a f=>An 8 15 Z f ba fun a f=>An 9 15 Z f ba fun a f=>An 10 15 Z f ba fun a f=>An 11 15 Z f ba fun a f=>An 12 15 Z f ba fun a f=>An 13 15 Z f ba fun a f=>q_p 14 15 Z f (fun _=>AP (f.eval Z) ba (f.eval Z)) fun a f=> ?_
     obtain rfl:=sj a5
     exact a9 _ (f.k Z)
  ·rintro a w ⟨aV,rfl,aW,bq,f,m⟩
   have aS:=od1 bq aS
   refine Af ?_
   obtain⟨br,bs,aP⟩:=bind_some aP
   refine AC (fun a w=>∃bt:Int,bt=br∧∃(bu:GH),GLe aW bu∧Fr a 84 [(0,v0),(1,(.int .i64 x1)),(9,(.int .i64 aV)),(10,(.int .i64 bt))]∧Mem W bu w (aN::H)) ?_ ?_
   ·refine Aj ?_
    refine AA (fun bv a w=>∃bw:Int,bw=bv∧∃(bx:GH),GLe aW bx∧Fr a 84 [(0,v0),(1,(.int .i64 x1)),(9,(.int .i64 aV)),(10,(.int .i64 bw))]∧Mem W bx w (aN::H)) bs ⟨_,Z,_,gr,f.k Z,m⟩ ?_
    clear bs f m
    rintro bv bz bA bB a w ⟨bw,rfl,bx,bC,f,m⟩
    have aS:=od1 bC aS
    refine Af (Af ?_)
    refine AT 14 Aw (by kernel_rfl) m ?_
    refine Ag 0 14 Z f Z fun a f=>Ag 1 14 Z f Z fun a f=>q_p 2 14 Z f (fun _=>AD (f.eval Z) (f.eval Z) B7) fun a f=>Ag 3 14 Z f Z fun a f=> ?_
    obtain⟨bD,bE,bA⟩:=bind_some bA
    refine BN (fuel':=0) (listed':= #[true,true,true,true,true,true,true,true,true,true,true,true,true,true]) (fun a=>Fr a 84 [(0,v0),(1,(.int .i64 x1)),(9,(.int .i64 aV)),(10,(.int .i64 bw)),(46,(.int .i64 aV)),(47,(.int .i64 bw)),(48,(.bool (decide (aV≤bw)))),(49,(.bool (decide (aV≤bw)))),(59,(.bool bD))]) ?_ ?_
    ·intro a f
     refine AI fun bF w bG m=> ?_
     have aS:=od1 bG aS
     refine Aa ?_
     rcases Ae bA with⟨bH,bA⟩|⟨bH,bA⟩
     ·refine Al f Z bH ?_
      refine Am ?_
      refine Aj (Ak ?_)
      refine Ab f Z fun a f=>Ah f Z Z AH fun a f=>Ad f Z fun a f=>Aa ?_
      obtain rfl:=sj bA
      exact⟨_,Z,_,Z,_,(gt bC bG),f.k Z,m⟩
     ·refine Ai f Z bH ?_
      refine Ax Z ?_
      obtain rfl:=sj bA
      obtain rfl:=bB _ rfl
      exact⟨_,Z,_,(gt bC bG),f.k Z,m⟩
    ·intro bI
     rcases Ae bE with⟨bJ,bE⟩|⟨bJ,bE⟩
     ·refine Ag (hw:=wo f bJ) 4 14 Z f Z fun a f=> ?_
      refine Ag (hw:=wo f bJ) 5 14 Z f Z fun a f=> ?_
      obtain⟨bK,bL,bE⟩:=bind_some bE
      refine Az (hw:=wo f bJ) 6 14 0 m aS T42 bL Z f Z Z fun bM a bN f=>AL (hw:=wo f bJ) 7 14 0 aS Pl2 bN bL Z f Z fun bO a bP f=> ?_
      subst bP
      refine Ag (hw:=wo f bJ) 8 14 Z f Z fun a f=>Ag (hw:=wo f bJ) 9 14 Z f Z fun a f=> ?_
      obtain⟨bQ,bR,bE⟩:=bind_some bE
      refine Az (hw:=wo f bJ) 10 14 0 m aS T42 bR Z f Z Z fun bS a bT f=>AL (hw:=wo f bJ) 11 14 0 aS Pl2 bT bR Z f Z fun bU a bV f=> ?_
      subst bV
      obtain⟨bW,bX,bE⟩:=bind_some bE
      refine Bh (i:=12) 14 Z (by kernel_rfl) Z f (AQ f Z Z Z bJ) Z Z Tryz.call213 (fun _ _ w bY m=>Wk.b m bX) fun a f=>q_p 13 14 Z f (fun _=>AO (f.eval Z) bJ (f.eval Z)) fun a f=> ?_
      obtain rfl:=sj bE
      exact bI _ (f.k Z)
     ·refine An 4 14 Z f bJ fun a f=> ?_
      refine An 5 14 Z f bJ fun a f=>An 6 14 Z f bJ fun a f=>An 7 14 Z f bJ fun a f=>An 8 14 Z f bJ fun a f=>An 9 14 Z f bJ fun a f=>An 10 14 Z f bJ fun a f=>An 11 14 Z f bJ fun a f=>An 12 14 Z f bJ fun a f=>q_p 13 14 Z f (fun _=>AP (f.eval Z) bJ (f.eval Z)) fun a f=> ?_
      obtain rfl:=sj bE
      exact bI _ (f.k Z)
   ·rintro a w ⟨bt,rfl,bu,bZ,f,m⟩
    have aS:=od1 bZ aS
    refine Af (Ac ?_)
    refine Ab f Z fun a f=>Ab f Z fun a f=>Ah f Z Z BV fun a f=>Aa ?_
    rcases Ae aP with⟨b0,aP⟩|⟨b0,aP⟩
    ·refine Al f Z b0 ?_
     refine Ax Z ?_
     obtain rfl:=sj aP
     obtain rfl:=aQ _ rfl
     exact⟨_,_,Z,_,aN,(gt aR (gt bq bZ)),f.k Z,m,aS⟩
    ·refine Ai f Z b0 ?_
     refine Am ?_
     refine Af ?_
     refine Bv Aw m ?_
     refine p_p 2 Z (by kernel_rfl) f Z Z Z (fun _=>AX (f.eval Z)) fun a f=>p_p 3 Z (by kernel_rfl) f Z Z Z (fun _=>AX (f.eval Z)) fun a f=>Bu 12013 11 (by kernel_rfl) Z ?_
     refine Ag 0 12013 Z f Z fun a f=>Ag 1 12013 Z f Z fun a f=>Ag 4 12013 Z f Z fun a f=>Ag 5 12013 Z f Z fun a f=> ?_
     obtain⟨b1,b2,aP⟩:=bind_some aP
     refine Az 6 12013 0 m aS T42 b2 Z f Z Z fun b3 a b4 f=>AL 7 12013 0 aS Pl2 b4 b2 Z f Z fun b5 a b6 f=> ?_
     subst b6
     refine Ag 8 12013 Z f Z fun a f=>Ag 9 12013 Z f Z fun a f=> ?_
     obtain⟨b7,b8,aP⟩:=bind_some aP
     refine Az 10 12013 0 m aS T42 b8 Z f Z Z fun b9 a ca f=>AL 11 12013 0 aS Pl2 ca b8 Z f Z fun cb a cc f=> ?_
     subst cc
     obtain⟨cd,ce,aP⟩:=bind_some aP
     refine Az 12 12013 0 m aS T42 ce Z f Z Z fun cf a cg f=>AI fun ch w ci m=> ?_
     have aS:=od1 ci aS
     refine Au 0 m aS Z Tryz.sizeOf2 f Z Z cg ce Z Z Z fun cj w m ck=> ?_
     obtain⟨cl,cm,aP⟩:=bind_some aP
     refine AW 0 m ck Z T42 f Z Z Z cm fun cn a co f=>Au 0 m ck Z Tryz.sizeOf2 f Z Z co cm Z Z Z fun cp w m cq=>Aa (Ac ?_)
     refine Ab f Z fun a f=>Ah f Z Z Ar fun a f=>Ad f Z fun a f=>Aa (Ak ?_)
     refine Ab f Z fun a f=>Ah f Z Z AH fun a f=>Ad f Z fun a f=>Aa ?_
     obtain rfl:=sj aP
     exact⟨_,Z,_,_,_,Z,_,cp,(gt aR (gt bq (gt bZ ci))),f.k Z,m,cq⟩
 ·rintro a w ⟨aE,aF,rfl,aG,aH,cr,f,m,cs⟩
  refine Ac ?_
  refine Ab f Z fun a f=>Ad f Z fun a f=>Aa ?_
  refine Aq ?_
  obtain rfl:=sj hd
  exact⟨[(.int .i64 aF)],⟨f.get _ _ Z,trivial⟩,f.defers,_,[aH],(gt ar cr),m,_,Z,Z,cs⟩
theorem Wk.Q0 {W w:World}{G:GH}{H:List Itm}{v0:Value}{it0:Itm}{x0:(List Int)}{x1:Int}{x2:Int}{x3:Int}(m:Mem W G w (it0::H))(o0:Ow (RI .i64) 2 G it0 v0 x0){y:Int×Bool×((List Int))}(hd:D.Q0 x0 x1 x2 x3=some y):
  Calls Tryz.prog 215 #[v0,(.int .i64 x1),(.int .i64 x2),(.int .i64 x3)] w (Res W G H (fun G' Ho v=>∃i0:Itm,Ho=[i0]∧v= .tuple #[(.int .i64 y.1),(.bool y.2.1)]∧Ow (RI .i64) 2 G' i0 v0 y.2.2)):=by
 refine As (args:=[v0,(.int .i64 x1),(.int .i64 x2),(.int .i64 x3)]) (N:=168) [.tmp 8,.tmp 9] Tryz.func215 Z Z (Nat.le_of_ble_eq_true Z) Z fun a f=> ?_
 unfold D.Q0 at hd
 refine Ac ?_
 refine Ad f Z fun a f=>Ad f Z fun a f=>Aa (Af ?_)
 refine Bv Aw m ?_
 refine p_p 2 Z (by kernel_rfl) f Z Z Z (fun _=>AX (f.eval Z)) fun a f=>p_p 3 Z (by kernel_rfl) f Z Z Z (fun _=>AX (f.eval Z)) fun a f=>Bu 12013 11 (by kernel_rfl) Z ?_
 refine Ag 0 12013 Z f Z fun a f=>Ag 1 12013 Z f Z fun a f=>Ag 4 12013 Z f Z fun a f=>Ag 5 12013 Z f Z fun a f=> ?_
 obtain⟨aa,ab,hd⟩:=bind_some hd
 refine Az 6 12013 0 m o0 T42 ab Z f Z Z fun ac a ad f=>AL 7 12013 0 o0 Pl2 ad ab Z f Z fun ae a af f=> ?_
 subst af
 refine Ag 8 12013 Z f Z fun a f=>Ag 9 12013 Z f Z fun a f=> ?_
 obtain⟨ag,ah,hd⟩:=bind_some hd
 refine Az 10 12013 0 m o0 T42 ah Z f Z Z fun ai a aj f=>AL 11 12013 0 o0 Pl2 aj ah Z f Z fun ak a al f=> ?_
 subst al
 obtain⟨am,an,hd⟩:=bind_some hd
 refine Az 12 12013 0 m o0 T42 an Z f Z Z fun ao a ap f=>AI fun aq w ar m=> ?_
 have o0:=od1 ar o0
 refine Au 0 m o0 Z Tryz.sizeOf2 f Z Z ap an Z Z Z fun au w m av=> ?_
 obtain⟨aw,ax,hd⟩:=bind_some hd
 refine AW 0 m av Z T42 f Z Z Z ax fun ay a az f=>Au 0 m av Z Tryz.sizeOf2 f Z Z az ax Z Z Z fun aA w m aB=>Aa (Ac ?_)
 refine Ab f Z fun a f=>Ah f Z Z Ar fun a f=>Ab f Z fun a f=>Ah f Z Z AH fun a f=>Ad f Z fun a f=>Ad f Z fun a f=>Aa (Af ?_)
 obtain⟨aC,aD,hd⟩:=bind_some hd
 refine AC (fun a w=>∃aE:Int,aE=aC∧∃(aF:GH),GLe aq aF∧Fr a 168 [(0,v0),(1,(.int .i64 x1)),(10,(.int .i64 aE)),(11,(.int .i64 (IntKind.i64.wrap (x2-1))))]∧Mem W aF w (aA::H)) ?_ ?_
 ·refine Aj ?_
  refine AA (fun aG a w=>∃aH:Int,aH=aG∧∃(aI:GH),GLe aq aI∧Fr a 168 [(0,v0),(1,(.int .i64 x1)),(10,(.int .i64 aH)),(11,(.int .i64 (IntKind.i64.wrap (x2-1))))]∧Mem W aI w (aA::H)) aD ⟨_,Z,_,gr,f.k Z,m⟩ ?_
  clear aD f m
  rintro aG aJ aK aL a w ⟨aH,rfl,aI,aM,f,m⟩
  have aB:=od1 aM aB
  refine Af (Af ?_)
  refine AT 14 Aw (by kernel_rfl) m ?_
  refine Ag 0 14 Z f Z fun a f=>Ag 1 14 Z f Z fun a f=>q_p 2 14 Z f (fun _=>AD (f.eval Z) (f.eval Z) B7) fun a f=>Ag 3 14 Z f Z fun a f=> ?_
  obtain⟨aN,aO,aK⟩:=bind_some aK
  refine BN (fuel':=0) (listed':= #[true,true,true,true,true,true,true,true,true,true,true,true,true,true]) (fun a=>Fr a 168 [(0,v0),(1,(.int .i64 x1)),(10,(.int .i64 aH)),(11,(.int .i64 (IntKind.i64.wrap (x2-1)))),(30,(.int .i64 aH)),(31,(.int .i64 (IntKind.i64.wrap (x2-1)))),(32,(.bool (decide (aH≤(IntKind.i64.wrap (x2-1)))))),(33,(.bool (decide (aH≤(IntKind.i64.wrap (x2-1)))))),(43,(.bool aN))]) ?_ ?_
  ·intro a f
   refine AI fun aP w aQ m=> ?_
   have aB:=od1 aQ aB
   refine Aa ?_
   rcases Ae aK with⟨aR,aK⟩|⟨aR,aK⟩
   ·refine Al f Z aR ?_
    refine Am ?_
    refine Aj (Ak ?_)
    refine Ab f Z fun a f=>Ah f Z Z Ar fun a f=>Ad f Z fun a f=>Aa ?_
    obtain rfl:=sj aK
    exact⟨_,Z,_,Z,_,(gt aM aQ),f.k Z,m⟩
   ·refine Ai f Z aR ?_
    refine Ax Z ?_
    obtain rfl:=sj aK
    obtain rfl:=aL _ rfl
    exact⟨_,Z,_,(gt aM aQ),f.k Z,m⟩
  ·intro aS
   rcases Ae aO with⟨aT,aO⟩|⟨aT,aO⟩
   ·refine Ag (hw:=wo f aT) 4 14 Z f Z fun a f=> ?_
    refine Ag (hw:=wo f aT) 5 14 Z f Z fun a f=> ?_
    obtain⟨aU,aV,aO⟩:=bind_some aO
    refine Az (hw:=wo f aT) 6 14 0 m aB T42 aV Z f Z Z fun aW a aX f=>AL (hw:=wo f aT) 7 14 0 aB Pl2 aX aV Z f Z fun aY a aZ f=> ?_
    subst aZ
    refine Ag (hw:=wo f aT) 8 14 Z f Z fun a f=>Ag (hw:=wo f aT) 9 14 Z f Z fun a f=> ?_
    obtain⟨a0,a1,aO⟩:=bind_some aO
    refine Az (hw:=wo f aT) 10 14 0 m aB T42 a1 Z f Z Z fun a2 a a3 f=>AL (hw:=wo f aT) 11 14 0 aB Pl2 a3 a1 Z f Z fun a4 a a5 f=> ?_
    subst a5
    obtain⟨a6,a7,aO⟩:=bind_some aO
    refine Bh (i:=12) 14 Z (by kernel_rfl) Z f (AQ f Z Z Z aT) Z Z Tryz.call213 (fun _ _ w a8 m=>Wk.b m a7) fun a f=>q_p 13 14 Z f (fun _=>AO (f.eval Z) aT (f.eval Z)) fun a f=> ?_
    obtain rfl:=sj aO
    exact aS _ (f.k Z)
   ·refine An 4 14 Z f aT fun a f=> ?_
    refine An 5 14 Z f aT fun a f=>An 6 14 Z f aT fun a f=>An 7 14 Z f aT fun a f=>An 8 14 Z f aT fun a f=>An 9 14 Z f aT fun a f=>An 10 14 Z f aT fun a f=>An 11 14 Z f aT fun a f=>An 12 14 Z f aT fun a f=>q_p 13 14 Z f (fun _=>AP (f.eval Z) aT (f.eval Z)) fun a f=> ?_
    obtain rfl:=sj aO
    exact aS _ (f.k Z)
 ·rintro a w ⟨aE,rfl,aF,a9,f,m⟩
  have aB:=od1 a9 aB
  refine Af ?_
  obtain⟨ba,bb,hd⟩:=bind_some hd
  refine AC (fun a w=>∃bc:Int,bc=ba∧∃(bd:GH),GLe aF bd∧Fr a 168 [(0,v0),(1,(.int .i64 x1)),(10,(.int .i64 aE)),(11,(.int .i64 bc))]∧Mem W bd w (aA::H)) ?_ ?_
  ·refine Aj ?_
   refine AA (fun be a w=>∃bf:Int,bf=be∧∃(bg:GH),GLe aF bg∧Fr a 168 [(0,v0),(1,(.int .i64 x1)),(10,(.int .i64 aE)),(11,(.int .i64 bf))]∧Mem W bg w (aA::H)) bb ⟨_,Z,_,gr,f.k Z,m⟩ ?_
   clear bb f m
   rintro be bh bi bj a w ⟨bf,rfl,bg,bk,f,m⟩
   have aB:=od1 bk aB
   refine Af (Af ?_)
   refine AT 15 Aw (by kernel_rfl) m ?_
   refine Ag 0 15 Z f Z fun a f=>Ag 1 15 Z f Z fun a f=>q_p 2 15 Z f (fun _=>AD (f.eval Z) (f.eval Z) B7) fun a f=>Ag 3 15 Z f Z fun a f=> ?_
   obtain⟨bl,bm,bi⟩:=bind_some bi
   refine BN (fuel':=0) (listed':= #[true,true,true,true,true,true,true,true,true,true,true,true,true,true,true]) (fun a=>Fr a 168 [(0,v0),(1,(.int .i64 x1)),(10,(.int .i64 aE)),(11,(.int .i64 bf)),(46,(.int .i64 aE)),(47,(.int .i64 bf)),(48,(.bool (decide (aE≤bf)))),(49,(.bool (decide (aE≤bf)))),(60,(.bool bl))]) ?_ ?_
   ·intro a f
    refine AI fun bn w bo m=> ?_
    have aB:=od1 bo aB
    refine Aa ?_
    rcases Ae bi with⟨bp,bi⟩|⟨bp,bi⟩
    ·refine Al f Z bp ?_
     refine Am ?_
     refine Aj (Ak ?_)
     refine Ab f Z fun a f=>Ah f Z Z AH fun a f=>Ad f Z fun a f=>Aa ?_
     obtain rfl:=sj bi
     exact⟨_,Z,_,Z,_,(gt bk bo),f.k Z,m⟩
    ·refine Ai f Z bp ?_
     refine Ax Z ?_
     obtain rfl:=sj bi
     obtain rfl:=bj _ rfl
     exact⟨_,Z,_,(gt bk bo),f.k Z,m⟩
   ·intro bq
    rcases Ae bm with⟨br,bm⟩|⟨br,bm⟩
    ·refine Ag (hw:=wo f br) 4 15 Z f Z fun a f=> ?_
     refine Ag (hw:=wo f br) 5 15 Z f Z fun a f=> ?_
     obtain⟨bs,bt,bm⟩:=bind_some bm
     refine Az (hw:=wo f br) 6 15 0 m aB T42 bt Z f Z Z fun bu a bv f=>AL (hw:=wo f br) 7 15 0 aB Pl2 bv bt Z f Z fun bw a bx f=> ?_
     subst bx
     refine Ag (hw:=wo f br) 8 15 Z f Z fun a f=>Ag (hw:=wo f br) 9 15 Z f Z fun a f=> ?_
     obtain⟨bz,bA,bm⟩:=bind_some bm
     refine Az (hw:=wo f br) 10 15 0 m aB T42 bA Z f Z Z fun bB a bC f=>AL (hw:=wo f br) 11 15 0 aB Pl2 bC bA Z f Z fun bD a bE f=> ?_
     subst bE
     obtain⟨bF,bG,bm⟩:=bind_some bm
     refine Bh (i:=12) 15 Z (by kernel_rfl) Z f (AQ f Z Z Z br) Z Z Tryz.call213 (fun _ _ w bH m=>Wk.b m bG) fun a f=>q_p (hw:=wo f br) 13 15 Z f (fun _=>Bd (f.eval Z)) fun a f=>q_p 14 15 Z f (fun _=>AO (f.eval Z) br (f.eval Z)) fun a f=> ?_
     obtain rfl:=sj bm
     exact bq _ (f.k Z)
    ·refine An 4 15 Z f br fun a f=> ?_
     refine An 5 15 Z f br fun a f=>An 6 15 Z f br fun a f=>An 7 15 Z f br fun a f=>An 8 15 Z f br fun a f=>An 9 15 Z f br fun a f=>An 10 15 Z f br fun a f=>An 11 15 Z f br fun a f=>An 12 15 Z f br fun a f=>An 13 15 Z f br fun a f=>q_p 14 15 Z f (fun _=>AP (f.eval Z) br (f.eval Z)) fun a f=> ?_
     obtain rfl:=sj bm
     exact bq _ (f.k Z)
  ·rintro a w ⟨bc,rfl,bd,bI,f,m⟩
   have aB:=od1 bI aB
   refine Af (Ac ?_)
   refine Ab f Z fun a f=>Ab f Z fun a f=>Ah f Z Z BV fun a f=>Aa ?_
   rcases Ae hd with⟨bJ,hd⟩|⟨bJ,hd⟩
   ·refine Al f Z bJ ?_
    refine Af ?_
    refine Bv Aw m ?_
    refine p_p 2 Z (by kernel_rfl) f Z Z Z (fun _=>AX (f.eval Z)) fun a f=>p_p 3 Z (by kernel_rfl) f Z Z Z (fun _=>AX (f.eval Z)) fun a f=>Bu 12013 11 (by kernel_rfl) Z ?_
    refine Ag 0 12013 Z f Z fun a f=>Ag 1 12013 Z f Z fun a f=>Ag 4 12013 Z f Z fun a f=>Ag 5 12013 Z f Z fun a f=> ?_
    obtain⟨bK,bL,hd⟩:=bind_some hd
    refine Az 6 12013 0 m aB T42 bL Z f Z Z fun bM a bN f=>AL 7 12013 0 aB Pl2 bN bL Z f Z fun bO a bP f=> ?_
    subst bP
    refine Ag 8 12013 Z f Z fun a f=>Ag 9 12013 Z f Z fun a f=> ?_
    obtain⟨bQ,bR,hd⟩:=bind_some hd
    refine Az 10 12013 0 m aB T42 bR Z f Z Z fun bS a bT f=>AL 11 12013 0 aB Pl2 bT bR Z f Z fun bU a bV f=> ?_
    subst bV
    obtain⟨bW,bX,hd⟩:=bind_some hd
    refine Az 12 12013 0 m aB T42 bX Z f Z Z fun bY a bZ f=>AI fun b0 w b1 m=> ?_
    have aB:=od1 b1 aB
    refine Au 0 m aB Z Tryz.sizeOf2 f Z Z bZ bX Z Z Z fun b2 w m b3=> ?_
    obtain⟨b4,b5,hd⟩:=bind_some hd
    refine AW 0 m b3 Z T42 f Z Z Z b5 fun b6 a b7 f=>Au 0 m b3 Z Tryz.sizeOf2 f Z Z b7 b5 Z Z Z fun b8 w m b9=>Aa (Ac ?_)
    refine Ab f Z fun a f=>Ad f Z fun a f=>Ad f Z fun a f=>Aa ?_
    refine Aq ?_
    obtain rfl:=sj hd
    exact⟨[(.int .i64 bc),(.bool true)],⟨f.get _ _ Z,f.get _ _ Z,trivial⟩,f.defers,_,[b8],(gt ar (gt a9 (gt bI b1))),m,_,Z,Z,b9⟩
   ·refine Ai f Z bJ ?_
    refine Am ?_
    refine Af ?_
    refine Bv Aw m ?_
    refine p_p 2 Z (by kernel_rfl) f Z Z Z (fun _=>AX (f.eval Z)) fun a f=>p_p 3 Z (by kernel_rfl) f Z Z Z (fun _=>AX (f.eval Z)) fun a f=>Bu 12013 11 (by kernel_rfl) Z ?_
    refine Ag 0 12013 Z f Z fun a f=>Ag 1 12013 Z f Z fun a f=>Ag 4 12013 Z f Z fun a f=>Ag 5 12013 Z f Z fun a f=> ?_
    obtain⟨ca,cb,hd⟩:=bind_some hd
    refine Az 6 12013 0 m aB T42 cb Z f Z Z fun cc a cd f=>AL 7 12013 0 aB Pl2 cd cb Z f Z fun ce a cf f=> ?_
    subst cf
    refine Ag 8 12013 Z f Z fun a f=>Ag 9 12013 Z f Z fun a f=> ?_
    obtain⟨cg,ch,hd⟩:=bind_some hd
    refine Az 10 12013 0 m aB T42 ch Z f Z Z fun ci a cj f=>AL 11 12013 0 aB Pl2 cj ch Z f Z fun ck a cl f=> ?_
    subst cl
    obtain⟨cm,cn,hd⟩:=bind_some hd
    refine Az 12 12013 0 m aB T42 cn Z f Z Z fun co a cp f=>AI fun cq w cr m=> ?_
    have aB:=od1 cr aB
    refine Au 0 m aB Z Tryz.sizeOf2 f Z Z cp cn Z Z Z fun cs w m ct=> ?_
    obtain⟨cu,cv,hd⟩:=bind_some hd
    refine AW 0 m ct Z T42 f Z Z Z cv fun cw a cx f=>Au 0 m ct Z Tryz.sizeOf2 f Z Z cx cv Z Z Z fun cy w m cz=>Aa (Ac ?_)
    refine Ab f Z fun a f=>Ah f Z Z Ar fun a f=>Ad f Z fun a f=>Aa (Ac ?_)
    refine Ab f Z fun a f=>Ah f Z Z AH fun a f=>Ad f Z fun a f=>Aa (Af ?_)
    obtain⟨cA,cB,hd⟩:=bind_some hd
    refine AC (fun a w=>∃cC:List Int,∃cD:Int,(cC,cD)=cA∧∃(cE:GH) (cF:Itm),GLe cq cE∧Fr a 168 [(0,v0),(1,(.int .i64 x1)),(11,(.int .i64 cD))]∧Mem W cE w (cF::H)∧Ow (RI .i64) 2 cE cF v0 cC) ?_ ?_
    ·refine Aj ?_
     refine AA (fun cG a w=>∃cH:List Int,∃cI:Int,∃cJ:Int,(cH,cI,cJ)=cG∧∃(cK:GH) (cL:Itm),GLe cq cK∧Fr a 168 [(0,v0),(1,(.int .i64 x1)),(10,(.int .i64 cI)),(11,(.int .i64 cJ))]∧Mem W cK w (cL::H)∧Ow (RI .i64) 2 cK cL v0 cH) cB ⟨_,_,_,Z,_,cy,gr,f.k Z,m,cz⟩ ?_
     clear cB f m
     rintro cG cM cN cO a w ⟨cH,cI,cJ,rfl,cK,cL,cP,f,m,cQ⟩
     refine Aj (Af ?_)
     obtain⟨cR,cS,cN⟩:=bind_some cN
     refine AC (fun a w=>∃cT:Int,cT=cR∧∃(cU:GH),GLe cK cU∧Fr a 168 [(0,v0),(1,(.int .i64 x1)),(10,(.int .i64 cT)),(11,(.int .i64 cJ))]∧Mem W cU w (cL::H)) ?_ ?_
     ·refine Aj ?_
      refine AA (fun cV a w=>∃cW:Int,cW=cV∧∃(cX:GH),GLe cK cX∧Fr a 168 [(0,v0),(1,(.int .i64 x1)),(10,(.int .i64 cW)),(11,(.int .i64 cJ))]∧Mem W cX w (cL::H)) cS ⟨_,Z,_,gr,f.k Z,m⟩ ?_
      clear cS f m
      rintro cV cY cZ c0 a w ⟨cW,rfl,cX,c1,f,m⟩
      have cQ:=od1 c1 cQ
      refine Af (Af ?_)
      refine AT 14 Aw (by kernel_rfl) m ?_
      refine Ag 0 14 Z f Z fun a f=>Ag 1 14 Z f Z fun a f=>q_p 2 14 Z f (fun _=>AD (f.eval Z) (f.eval Z) B7) fun a f=>Ag 3 14 Z f Z fun a f=> ?_
      obtain⟨c2,c3,cZ⟩:=bind_some cZ
      refine BN (fuel':=0) (listed':= #[true,true,true,true,true,true,true,true,true,true,true,true,true,true]) (fun a=>Fr a 168 [(0,v0),(1,(.int .i64 x1)),(10,(.int .i64 cW)),(11,(.int .i64 cJ)),(99,(.int .i64 cW)),(100,(.int .i64 cJ)),(101,(.bool (decide (cW≤cJ)))),(102,(.bool (decide (cW≤cJ)))),(112,(.bool c2))]) ?_ ?_
      ·intro a f
       refine AI fun c4 w c5 m=> ?_
       have cQ:=od1 c5 cQ
       refine Aa ?_
       rcases Ae cZ with⟨c6,cZ⟩|⟨c6,cZ⟩
       ·refine Al f Z c6 ?_
        refine Am ?_
        refine Aj (Ak ?_)
        refine Ab f Z fun a f=>Ah f Z Z Ar fun a f=>Ad f Z fun a f=>Aa ?_
        obtain rfl:=sj cZ
        exact⟨_,Z,_,Z,_,(gt c1 c5),f.k Z,m⟩
       ·refine Ai f Z c6 ?_
        refine Ax Z ?_
        obtain rfl:=sj cZ
        obtain rfl:=c0 _ rfl
        exact⟨_,Z,_,(gt c1 c5),f.k Z,m⟩
      ·intro c7
       rcases Ae c3 with⟨c8,c3⟩|⟨c8,c3⟩
       ·refine Ag (hw:=wo f c8) 4 14 Z f Z fun a f=> ?_
        refine Ag (hw:=wo f c8) 5 14 Z f Z fun a f=> ?_
        obtain⟨c9,da,c3⟩:=bind_some c3
        refine Az (hw:=wo f c8) 6 14 0 m cQ T42 da Z f Z Z fun db a dc f=>AL (hw:=wo f c8) 7 14 0 cQ Pl2 dc da Z f Z fun dd a de f=> ?_
        subst de
        refine Ag (hw:=wo f c8) 8 14 Z f Z fun a f=>Ag (hw:=wo f c8) 9 14 Z f Z fun a f=> ?_
        obtain⟨df,dg,c3⟩:=bind_some c3
        refine Az (hw:=wo f c8) 10 14 0 m cQ T42 dg Z f Z Z fun dh a di f=>AL (hw:=wo f c8) 11 14 0 cQ Pl2 di dg Z f Z fun dj a dk f=> ?_
        subst dk
        obtain⟨dl,dm,c3⟩:=bind_some c3
        refine Bh (i:=12) 14 Z (by kernel_rfl) Z f (AQ f Z Z Z c8) Z Z Tryz.call213 (fun _ _ w dn m=>Wk.b m dm) fun a f=>q_p 13 14 Z f (fun _=>AO (f.eval Z) c8 (f.eval Z)) fun a f=> ?_
        obtain rfl:=sj c3
        exact c7 _ (f.k Z)
       ·refine An 4 14 Z f c8 fun a f=> ?_
        refine An 5 14 Z f c8 fun a f=>An 6 14 Z f c8 fun a f=>An 7 14 Z f c8 fun a f=>An 8 14 Z f c8 fun a f=>An 9 14 Z f c8 fun a f=>An 10 14 Z f c8 fun a f=>An 11 14 Z f c8 fun a f=>An 12 14 Z f c8 fun a f=>q_p 13 14 Z f (fun _=>AP (f.eval Z) c8 (f.eval Z)) fun a f=> ?_
        obtain rfl:=sj c3
        exact c7 _ (f.k Z)
     ·rintro a w ⟨cT,rfl,cU,dp,f,m⟩
      have cQ:=od1 dp cQ
      refine Af ?_
      obtain⟨dq,dr,cN⟩:=bind_some cN
      refine AC (fun a w=>∃ds:Int,ds=dq∧∃(dt:GH),GLe cU dt∧Fr a 168 [(0,v0),(1,(.int .i64 x1)),(10,(.int .i64 cT)),(11,(.int .i64 ds))]∧Mem W dt w (cL::H)) ?_ ?_
      ·refine Aj ?_
       refine AA (fun du a w=>∃dv:Int,dv=du∧∃(dw:GH),GLe cU dw∧Fr a 168 [(0,v0),(1,(.int .i64 x1)),(10,(.int .i64 cT)),(11,(.int .i64 dv))]∧Mem W dw w (cL::H)) dr ⟨_,Z,_,gr,f.k Z,m⟩ ?_
       clear dr f m
       rintro du dx dy dz a w ⟨dv,rfl,dw,dA,f,m⟩
       have cQ:=od1 dA cQ
       refine Af (Af ?_)
       refine AT 15 Aw (by kernel_rfl) m ?_
       refine Ag 0 15 Z f Z fun a f=>Ag 1 15 Z f Z fun a f=>q_p 2 15 Z f (fun _=>AD (f.eval Z) (f.eval Z) B7) fun a f=>Ag 3 15 Z f Z fun a f=> ?_
       obtain⟨dB,dC,dy⟩:=bind_some dy
       refine BN (fuel':=0) (listed':= #[true,true,true,true,true,true,true,true,true,true,true,true,true,true,true]) (fun a=>Fr a 168 [(0,v0),(1,(.int .i64 x1)),(10,(.int .i64 cT)),(11,(.int .i64 dv)),(115,(.int .i64 cT)),(116,(.int .i64 dv)),(117,(.bool (decide (cT≤dv)))),(118,(.bool (decide (cT≤dv)))),(129,(.bool dB))]) ?_ ?_
       ·intro a f
        refine AI fun dD w dE m=> ?_
        have cQ:=od1 dE cQ
        refine Aa ?_
        rcases Ae dy with⟨dF,dy⟩|⟨dF,dy⟩
        ·refine Al f Z dF ?_
         refine Am ?_
         refine Aj (Ak ?_)
         refine Ab f Z fun a f=>Ah f Z Z AH fun a f=>Ad f Z fun a f=>Aa ?_
         obtain rfl:=sj dy
         exact⟨_,Z,_,Z,_,(gt dA dE),f.k Z,m⟩
        ·refine Ai f Z dF ?_
         refine Ax Z ?_
         obtain rfl:=sj dy
         obtain rfl:=dz _ rfl
         exact⟨_,Z,_,(gt dA dE),f.k Z,m⟩
       ·intro dG
        rcases Ae dC with⟨dH,dC⟩|⟨dH,dC⟩
        ·refine Ag (hw:=wo f dH) 4 15 Z f Z fun a f=> ?_
         refine Ag (hw:=wo f dH) 5 15 Z f Z fun a f=> ?_
         obtain⟨dI,dJ,dC⟩:=bind_some dC
         refine Az (hw:=wo f dH) 6 15 0 m cQ T42 dJ Z f Z Z fun dK a dL f=>AL (hw:=wo f dH) 7 15 0 cQ Pl2 dL dJ Z f Z fun dM a dN f=> ?_
         subst dN
         refine Ag (hw:=wo f dH) 8 15 Z f Z fun a f=>Ag (hw:=wo f dH) 9 15 Z f Z fun a f=> ?_
         obtain⟨dO,dP,dC⟩:=bind_some dC
         refine Az (hw:=wo f dH) 10 15 0 m cQ T42 dP Z f Z Z fun dQ a dR f=>AL (hw:=wo f dH) 11 15 0 cQ Pl2 dR dP Z f Z fun dS a dT f=> ?_
         subst dT
         obtain⟨dU,dV,dC⟩:=bind_some dC
         refine Bh (i:=12) 15 Z (by kernel_rfl) Z f (AQ f Z Z Z dH) Z Z Tryz.call213 (fun _ _ w dW m=>Wk.b m dV) fun a f=>q_p (hw:=wo f dH) 13 15 Z f (fun _=>Bd (f.eval Z)) fun a f=>q_p 14 15 Z f (fun _=>AO (f.eval Z) dH (f.eval Z)) fun a f=> ?_
         obtain rfl:=sj dC
         exact dG _ (f.k Z)
        ·refine An 4 15 Z f dH fun a f=> ?_
         refine An 5 15 Z f dH fun a f=>An 6 15 Z f dH fun a f=>An 7 15 Z f dH fun a f=>An 8 15 Z f dH fun a f=>An 9 15 Z f dH fun a f=>An 10 15 Z f dH fun a f=>An 11 15 Z f dH fun a f=>An 12 15 Z f dH fun a f=>An 13 15 Z f dH fun a f=>q_p 14 15 Z f (fun _=>AP (f.eval Z) dH (f.eval Z)) fun a f=> ?_
         obtain rfl:=sj dC
         exact dG _ (f.k Z)
      ·rintro a w ⟨ds,rfl,dt,dX,f,m⟩
       have cQ:=od1 dX cQ
       refine Af (Ac ?_)
       refine Ab f Z fun a f=>Ab f Z fun a f=>Ah f Z Z BV fun a f=>Aa ?_
       rcases Ae cN with⟨dY,cN⟩|⟨dY,cN⟩
       ·refine Al f Z dY ?_
        refine Ax Z ?_
        obtain rfl:=sj cN
        obtain rfl:=cO _ rfl
        exact⟨_,_,Z,_,cL,(gt cP (gt dp dX)),f.k Z,m,cQ⟩
       ·refine Ai f Z dY ?_
        refine Am ?_
        refine Af ?_
        refine Bv Aw m ?_
        refine p_p 2 Z (by kernel_rfl) f Z Z Z (fun _=>AX (f.eval Z)) fun a f=>p_p 3 Z (by kernel_rfl) f Z Z Z (fun _=>AX (f.eval Z)) fun a f=>Bu 12013 11 (by kernel_rfl) Z ?_
        refine Ag 0 12013 Z f Z fun a f=>Ag 1 12013 Z f Z fun a f=>Ag 4 12013 Z f Z fun a f=>Ag 5 12013 Z f Z fun a f=> ?_
        obtain⟨dZ,d0,cN⟩:=bind_some cN
        refine Az 6 12013 0 m cQ T42 d0 Z f Z Z fun d1 a d2 f=>AL 7 12013 0 cQ Pl2 d2 d0 Z f Z fun d3 a d4 f=> ?_
        subst d4
        refine Ag 8 12013 Z f Z fun a f=>Ag 9 12013 Z f Z fun a f=> ?_
        obtain⟨d5,d6,cN⟩:=bind_some cN
        refine Az 10 12013 0 m cQ T42 d6 Z f Z Z fun d7 a d8 f=>AL 11 12013 0 cQ Pl2 d8 d6 Z f Z fun d9 a ea f=> ?_
        subst ea
        obtain⟨eb,ec,cN⟩:=bind_some cN
        refine Az 12 12013 0 m cQ T42 ec Z f Z Z fun ed a ee f=>AI fun ef w eg m=> ?_
        have cQ:=od1 eg cQ
        refine Au 0 m cQ Z Tryz.sizeOf2 f Z Z ee ec Z Z Z fun eh w m ei=> ?_
        obtain⟨ej,ek,cN⟩:=bind_some cN
        refine AW 0 m ei Z T42 f Z Z Z ek fun el a em f=>Au 0 m ei Z Tryz.sizeOf2 f Z Z em ek Z Z Z fun en w m eo=>Aa (Ac ?_)
        refine Ab f Z fun a f=>Ah f Z Z Ar fun a f=>Ad f Z fun a f=>Aa (Ak ?_)
        refine Ab f Z fun a f=>Ah f Z Z AH fun a f=>Ad f Z fun a f=>Aa ?_
        obtain rfl:=sj cN
        exact⟨_,Z,_,_,_,Z,_,en,(gt cP (gt dp (gt dX eg))),f.k Z,m,eo⟩
    ·rintro a w ⟨cC,cD,rfl,cE,cF,ep,f,m,eq⟩
     refine Af ?_
     refine Bv Aw m ?_
     refine p_p 2 Z (by kernel_rfl) f Z Z Z (fun _=>AX (f.eval Z)) fun a f=>p_p 3 Z (by kernel_rfl) f Z Z Z (fun _=>AX (f.eval Z)) fun a f=>Bu 12013 11 (by kernel_rfl) Z ?_
     refine Ag 0 12013 Z f Z fun a f=>Ag 1 12013 Z f Z fun a f=>Ag 4 12013 Z f Z fun a f=>Ag 5 12013 Z f Z fun a f=> ?_
     obtain⟨er,es,hd⟩:=bind_some hd
     refine Az 6 12013 0 m eq T42 es Z f Z Z fun et a eu f=>AL 7 12013 0 eq Pl2 eu es Z f Z fun ev a ew f=> ?_
     subst ew
     refine Ag 8 12013 Z f Z fun a f=>Ag 9 12013 Z f Z fun a f=> ?_
     obtain⟨ex,ey,hd⟩:=bind_some hd
     refine Az 10 12013 0 m eq T42 ey Z f Z Z fun ez a eA f=>AL 11 12013 0 eq Pl2 eA ey Z f Z fun eB a eC f=> ?_
     subst eC
     obtain⟨eD,eE,hd⟩:=bind_some hd
     refine Az 12 12013 0 m eq T42 eE Z f Z Z fun eF a eG f=>AI fun eH w eI m=> ?_
     have eq:=od1 eI eq
     refine Au 0 m eq Z Tryz.sizeOf2 f Z Z eG eE Z Z Z fun eJ w m eK=> ?_
     obtain⟨eL,eM,hd⟩:=bind_some hd
     refine AW 0 m eK Z T42 f Z Z Z eM fun eN a eO f=>Au 0 m eK Z Tryz.sizeOf2 f Z Z eO eM Z Z Z fun eP w m eQ=>Aa (Ac ?_)
     refine Ab f Z fun a f=>Ad f Z fun a f=>Ad f Z fun a f=>Aa ?_
     refine Aq ?_
     obtain rfl:=sj hd
     exact⟨[(.int .i64 cD),(.bool false)],⟨f.get _ _ Z,f.get _ _ Z,trivial⟩,f.defers,_,[eP],(gt ar (gt a9 (gt bI (gt cr (gt ep eI))))),m,_,Z,Z,eQ⟩
theorem Wk.I {W:World}(n:Nat):∀{w:World} {G:GH} {H:List Itm} {v0:Value} {it0:Itm} {x0:(List Int)} {x1:Int} {x2:Int} {x3:Int} (m:Mem W G w (it0::H)) (o0:Ow (RI .i64) 2 G it0 v0 x0) {y:((List Int))} (hd:D.I n x0 x1 x2 x3=some y),
  Calls Tryz.prog 195 #[v0,(.int .i64 x1),(.int .i64 x2),(.int .i64 x3)] w (Res W G H (fun G' Ho _=>∃i0:Itm,Ho=[i0]∧Ow (RI .i64) 2 G' i0 v0 y)):=by
 induction n with
 |zero=>intros;rename_i hd;simp[D.I] at hd
 |succ fuel ih=>
  intro w G H v0 it0 x0 x1 x2 x3 m o0 y hd
  refine As (args:=[v0,(.int .i64 x1),(.int .i64 x2),(.int .i64 x3)]) (N:=134) [] Tryz.func195 Z Z (Nat.le_of_ble_eq_true Z) Z fun a f=> ?_
  unfold D.I at hd
  refine Ac ?_
  refine Ad f Z fun a f=>Aa (Ac ?_)
  refine Ad f Z fun a f=>Aa ?_
  obtain⟨aa,ab,hd⟩:=bind_some hd
  refine Aj ?_
  refine AA (fun ac a w=>∃ad:List Int,∃ae:Int,∃af:Int,∃ag:Int,∃ah:Bool,∃ai:Bool,(ad,ae,af,ag,ah,ai)=ac∧∃(aj:GH) (ak:Itm),GLe G aj∧Fr a 134 [(0,v0),(1,(.int .i64 ae)),(2,(.int .i64 af)),(3,(.int .i64 ag)),(8,(.bool ah)),(9,(.bool ai))]∧Mem W aj w (ak::H)∧Ow (RI .i64) 2 aj ak v0 ad) ab ⟨_,_,_,_,_,_,Z,_,it0,gr,f.k Z,m,o0⟩ ?_
  clear ab f m
  rintro ac al am an a w ⟨ad,ae,af,ag,ah,ai,rfl,aj,ak,ao,f,m,ap⟩
  refine Aj (Ac ?_)
  refine Ab f Z fun a f=>Ab f Z fun a f=>Ah f Z Z AH fun a f=>Ad f Z fun a f=>Aa (Af (Ac ?_))
  refine Ab f Z fun a f=>Ah f Z Z B7 fun a f=>Aa ?_
  rcases Ae am with⟨aq,am⟩|⟨aq,am⟩
  ·refine Al f Z aq ?_
   refine Ac ?_
   refine Ab f Z fun a f=>Ab f Z fun a f=>Ab f Z fun a f=> ?_
   obtain⟨ar,au,am⟩:=bind_some am
   refine AK f Z Tryz.call207 (Wk.G0 m ap au) fun av aw ax w ay m az a f=> ?_
   obtain⟨aA,rfl,aB⟩:=az
   refine Aa ?_
   refine Aq ?_
   obtain rfl:=sj am
   obtain rfl:=an _ rfl
   obtain rfl:=sj hd
   exact⟨[],trivial,f.defers,_,[aA],(gt ao ay),m,_,Z,aB⟩
  ·refine Ai f Z aq ?_
   refine Am ?_
   refine Af (Ac ?_)
   refine Ab f Z fun a f=>Ah f Z Z By fun a f=>Aa ?_
   rcases Ae am with⟨aC,am⟩|⟨aC,am⟩
   ·refine Al f Z aC ?_
    refine Ac ?_
    refine Ab f Z fun a f=>Ab f Z fun a f=>Ab f Z fun a f=> ?_
    obtain⟨aD,aE,am⟩:=bind_some am
    refine AK f Z Tryz.call208 (Wk.z1 m ap aE) fun aF aG aH w aI m aJ a f=> ?_
    obtain⟨aK,rfl,aL⟩:=aJ
    refine Aa ?_
    refine Aq ?_
    obtain rfl:=sj am
    obtain rfl:=an _ rfl
    obtain rfl:=sj hd
    exact⟨[],trivial,f.defers,_,[aK],(gt ao aI),m,_,Z,aL⟩
   ·refine Ai f Z aC ?_
    refine Am ?_
    refine Af (Ac ?_)
    refine Ab f Z fun a f=>l_o f (Bd (f.eval Z)) fun a f=>Aa ?_
    obtain⟨aM,aN,am⟩:=bind_some am
    refine AC (fun a w=>∃aO:List Int,∃aP:Int,(aO,aP)=aM∧∃(aQ:GH) (aR:Itm),GLe aj aQ∧Fr a 134 [(0,v0),(1,(.int .i64 ae)),(2,(.int .i64 af)),(3,(.int .i64 aP)),(8,(.bool ah)),(9,(.bool ai)),(10,(.int .i64 (IntKind.i64.wrap (af-ae))))]∧Mem W aQ w (aR::H)∧Ow (RI .i64) 2 aQ aR v0 aO) ?_ ?_
    ·rcases Ae aN with⟨aS,aN⟩|⟨aS,aN⟩
     ·refine Al f Z aS ?_
      refine Ac ?_
      refine Ab f Z fun a f=>Ab f Z fun a f=>Ab f Z fun a f=> ?_
      obtain⟨aT,aU,aN⟩:=bind_some aN
      refine AK f Z Tryz.call209 (Wk.C0 m ap aU) fun aV aW aX w aY m aZ a f=> ?_
      obtain⟨a0,rfl,a1⟩:=aZ
      refine Aa (Ak ?_)
      refine Ab f Z fun a f=>Ah f Z Z AH fun a f=>Ad f Z fun a f=>Aa ?_
      obtain rfl:=sj aN
      exact⟨_,_,Z,_,a0,aY,f.k Z,m,a1⟩
     ·refine Ai f Z aS ?_
      refine Am ?_
      obtain rfl:=sj aN
      exact⟨_,_,Z,_,ak,gr,f.k Z,m,ap⟩
    ·rintro a w ⟨aO,aP,rfl,aQ,aR,a2,f,m,a3⟩
     refine Ac ?_
     refine Ab f Z fun a f=>Ab f Z fun a f=>Ab f Z fun a f=> ?_
     obtain⟨a4,a5,am⟩:=bind_some am
     refine AK f Z Tryz.call210 (Wk.k0 m a3 a5) fun a6 a7 a8 w a9 m ba a f=> ?_
     obtain⟨bb,rfl,rfl,bc⟩:=ba
     refine Ab f Z fun a f=>l_o f (Bb (f.eval Z) Z) fun a f=>l_o f (Bb (f.eval Z) Z) fun a f=>Ad f Z fun a f=>Ad f Z fun a f=>Aa (Af (Ac ?_))
     refine Ab f Z fun a f=>Ah f Z Z By fun a f=>Aa ?_
     obtain⟨bd,be,am⟩:=bind_some am
     refine AC (fun a w=>∃bf:List Int,∃bg:Int,∃bh:Int,(bf,bg,bh)=bd∧∃(bi:GH) (bj:Itm),GLe a7 bi∧Fr a 134 [(0,v0),(1,(.int .i64 ae)),(2,(.int .i64 af)),(3,(.int .i64 aP)),(8,(.bool ah)),(9,(.bool ai)),(10,(.int .i64 (IntKind.i64.wrap (af-ae)))),(11,(.int .i64 bg)),(12,(.int .i64 bh))]∧Mem W bi w (bj::H)∧Ow (RI .i64) 2 bi bj v0 bf) ?_ ?_
     ·rcases Ae be with⟨bk,be⟩|⟨bk,be⟩
      ·refine Al f Z bk ?_
       refine Ac ?_
       refine Ab f Z fun a f=>Ab f Z fun a f=>Ab f Z fun a f=> ?_
       obtain⟨bl,bm,be⟩:=bind_some be
       refine AK f Z Tryz.call211 (Wk.U0 m bc bm) fun bn bo bp w bq m br a f=> ?_
       obtain⟨bs,rfl,bt⟩:=br
       refine Aa (Ac ?_)
       refine Ab f Z fun a f=>Ah f Z Z AH fun a f=>Ab f Z fun a f=>Ab f Z fun a f=>Ah f Z Z AH fun a f=>Ah f Z Z AH fun a f=>Ad f Z fun a f=>Aa (Ak ?_)
       refine Ad f Z fun a f=>Aa ?_
       obtain rfl:=sj be
       exact⟨_,_,_,Z,_,bs,bq,f.k Z,m,bt⟩
      ·refine Ai f Z bk ?_
       refine Am ?_
       obtain rfl:=sj be
       exact⟨_,_,_,Z,_,bb,gr,f.k Z,m,bc⟩
     ·rintro a w ⟨bf,bg,bh,rfl,bi,bj,bu,f,m,bv⟩
      refine Af (Ac ?_)
      refine Ab f Z fun a f=>Ab f Z fun a f=> ?_
      refine Bz 2 (fun a w=>∃bw,GLe bi bw∧Mem W bw w (bj::H)∧Fr a 134 [(0,v0),(1,(.int .i64 ae)),(2,(.int .i64 af)),(3,(.int .i64 aP)),(8,(.bool ah)),(9,(.bool ai)),(10,(.int .i64 (IntKind.i64.wrap (af-ae)))),(11,(.int .i64 bg)),(12,(.int .i64 bh)),(61,(.bool ah)),(62,(.bool ah)),(64,(.bool (ah&&ai)))]) ?_ ?_
      ·rcases Bool.eq_false_or_eq_true ah with bx|bx
       ·refine AB f bx ?_
        refine Ab f Z fun a f=>l_o f (AO (f.eval Z) bx (f.eval Z)) fun a f=> ?_
        exact⟨_,gr,m,f.weak ⟨Z,Z,Z,Z,Z,Z,Z,Z,Z,Z,Z,by rw[bx];rfl,trivial⟩⟩
       ·refine AE f bx fun a f=> ?_
        refine l_o f (AP (f.eval Z) bx (f.eval Z)) fun a f=> ?_
        exact⟨_,gr,m,f.weak ⟨Z,Z,Z,Z,Z,Z,Z,Z,Z,Z,Z,by rw[bx];rfl,trivial⟩⟩
      ·rintro a w ⟨bw,bz,m,f⟩
       have bv:=od1 bz bv
       refine Ab f Z fun a f=> ?_
       refine Bz 3 (fun a w=>∃bA,GLe bw bA∧Mem W bA w (bj::H)∧Fr a 134 [(0,v0),(1,(.int .i64 ae)),(2,(.int .i64 af)),(3,(.int .i64 aP)),(8,(.bool ah)),(9,(.bool ai)),(10,(.int .i64 (IntKind.i64.wrap (af-ae)))),(11,(.int .i64 bg)),(12,(.int .i64 bh)),(61,(.bool ah)),(62,(.bool ah)),(64,(.bool (ah&&ai))),(65,(.bool (ah&&ai))),(68,(.bool ((ah&&ai)&&(bh==1))))]) ?_ ?_
       ·rcases Bool.eq_false_or_eq_true (ah&&ai) with bB|bB
        ·refine AB f bB ?_
         refine Ab f Z fun a f=>AB f bB ?_
         refine Ah f Z Z By fun a f=>l_o f (AO (f.eval Z) bB (f.eval Z)) fun a f=> ?_
         exact⟨_,gr,m,f.weak ⟨Z,Z,Z,Z,Z,Z,Z,Z,Z,Z,Z,Z,Z,by rw[bB];rfl,trivial⟩⟩
        ·refine AE f bB fun a f=> ?_
         refine AE f bB fun a f=>l_o f (AP (f.eval Z) bB (f.eval Z)) fun a f=> ?_
         exact⟨_,gr,m,f.weak ⟨Z,Z,Z,Z,Z,Z,Z,Z,Z,Z,Z,Z,Z,by rw[bB];rfl,trivial⟩⟩
       ·rintro a w ⟨bA,bC,m,f⟩
        have bv:=od1 bC bv
        refine Aa ?_
        obtain⟨bD,bE,am⟩:=bind_some am
        refine AC (fun a w=>∃j_513':(List Int),bD= .inl j_513'∧∃bF:List Int,bF=j_513'∧∃(bG:GH) (bH:Itm),GLe bA bG∧Fr a 134 [(0,v0),(1,(.int .i64 ae)),(2,(.int .i64 af)),(3,(.int .i64 aP)),(8,(.bool ah)),(9,(.bool ai)),(10,(.int .i64 (IntKind.i64.wrap (af-ae)))),(11,(.int .i64 bg))]∧Mem W bG w (bH::H)∧Ow (RI .i64) 2 bG bH v0 bF) ?_ ?_
        ·rcases Ae bE with⟨bI,bE⟩|⟨bI,bE⟩
         ·refine Al f Z bI ?_
          refine Ac ?_
          refine Ab f Z fun a f=>Ab f Z fun a f=>Ab f Z fun a f=> ?_
          obtain⟨bJ,bK,bE⟩:=bind_some bE
          refine AK f Z Tryz.call212 (Wk.E0 m bv bK) fun bL bM bN w bO m bP a f=> ?_
          obtain⟨bQ,rfl,rfl,bR⟩:=bP
          refine Aa ?_
          rcases Ae bE with⟨bS,bE⟩|⟨bS,bE⟩
          ·refine Al f Z bS ?_
           refine Aq ?_
           obtain rfl:=sj bE
           obtain rfl:=sj am
           obtain rfl:=an _ rfl
           obtain rfl:=sj hd
           exact⟨[],trivial,f.defers,_,[bQ],(gt ao (gt a2 (gt a9 (gt bu (gt bz (gt bC bO)))))),m,_,Z,bR⟩
          ·refine Ai f Z bS ?_
           refine Am ?_
           obtain rfl:=sj bE
           exact⟨_,Z,_,Z,_,bQ,bO,f.k Z,m,bR⟩
         ·refine Ai f Z bI ?_
          refine Am ?_
          obtain rfl:=sj bE
          exact⟨_,Z,_,Z,_,bj,gr,f.k Z,m,bv⟩
        ·rintro a w ⟨_,rfl,bF,rfl,bG,bH,bT,f,m,bU⟩
         refine Af (Af ?_)
         refine AT 15 Aw (by kernel_rfl) m ?_
         refine Ag 0 15 Z f Z fun a f=>q_p 1 15 Z f (fun _=>AD (f.eval Z) (f.eval Z) BV) fun a f=>Ag 2 15 Z f Z fun a f=> ?_
         obtain⟨bV,bW,am⟩:=bind_some am
         refine BN (fuel':=0) (listed':= #[true,true,true,true,true,true,true,true,true,true,true,true,true,true,true]) (fun a=>Fr a 134 [(0,v0),(1,(.int .i64 ae)),(2,(.int .i64 af)),(3,(.int .i64 aP)),(8,(.bool ah)),(9,(.bool ai)),(10,(.int .i64 (IntKind.i64.wrap (af-ae)))),(11,(.int .i64 bg)),(73,(.int .i64 ae)),(74,(.bool (decide ((0:Int)<ae)))),(75,(.bool (decide ((0:Int)<ae)))),(87,(.bool bV))]) ?_ ?_
         ·intro a f
          refine AI fun bX w bY m=> ?_
          have bU:=od1 bY bU
          refine Aa ?_
          rcases Ae am with⟨bZ,am⟩|⟨bZ,am⟩
          ·refine Al f Z bZ ?_
           refine Ac ?_
           refine Ab f Z fun a f=>Ab f Z fun a f=>Ab f Z fun a f=>Ab f Z fun a f=> ?_
           obtain⟨b0,b1,am⟩:=bind_some am
           refine AK f Z Tryz.call214 (Wk.x0 m bU b1) fun b2 b3 b4 w b5 m b6 a f=> ?_
           obtain⟨b7,rfl,rfl,b8⟩:=b6
           refine Ad f Z fun a f=>Aa (Ac ?_)
           refine Ab f Z fun a f=>Ad f Z fun a f=>Aa ?_
           refine Ax Z ?_
           obtain rfl:=sj am
           exact⟨_,Z,_,_,_,_,_,_,Z,_,b7,(gt ao (gt a2 (gt a9 (gt bu (gt bz (gt bC (gt bT (gt bY b5)))))))),f.k Z,m,b8⟩
          ·refine Ai f Z bZ ?_
           refine Am ?_
           refine Ac ?_
           refine Ab f Z fun a f=>Ab f Z fun a f=>Ab f Z fun a f=>Ab f Z fun a f=> ?_
           obtain⟨b9,ca,am⟩:=bind_some am
           refine AK f Z Tryz.call215 (Wk.Q0 m bU ca) fun cb cc cd w ce m cf a f=> ?_
           obtain⟨cg,rfl,rfl,ch⟩:=cf
           refine Ab f Z fun a f=>l_o f (Bb (f.eval Z) Z) fun a f=>l_o f (Bb (f.eval Z) Z) fun a f=>Ad f Z fun a f=>Ad f Z fun a f=>Aa (Ac ?_)
           refine Ab f Z fun a f=>Ad f Z fun a f=>Aa (Ac ?_)
           refine Ab f Z fun a f=>Ab f Z fun a f=>Ah f Z Z AH fun a f=>Ab f Z fun a f=>Ab f Z fun a f=>Ah f Z Z AH fun a f=>Ad f Z fun a f=>Ad f Z fun a f=>Aa (Ac ?_)
           refine Ab f Z fun a f=>Ah f Z Z (CW Z) fun a f=>Ad f Z fun a f=>Aa (Ac ?_)
           refine Ab f Z fun a f=>Ab f Z fun a f=>Ah f Z Z AJ fun a f=>Aa ?_
           rcases Ae am with⟨ci,am⟩|⟨ci,am⟩
           ·refine Al f Z ci ?_
            refine Ac ?_
            refine Ab f Z fun a f=>Ab f Z fun a f=>Ah f Z Z BM fun a f=>Ad f Z fun a f=>Aa (Ac ?_)
            refine Ab f Z fun a f=>Ab f Z fun a f=>Ab f Z fun a f=>Ab f Z fun a f=> ?_
            obtain⟨cj,ck,am⟩:=bind_some am
            refine AK f Z Tryz.call195 (ih m ch ck) fun cl cm cn w co m cp a f=> ?_
            obtain⟨cq,rfl,cr⟩:=cp
            refine Aa (Ak ?_)
            refine Ab f Z fun a f=>Ah f Z Z Ar fun a f=>Ad f Z fun a f=>Aa ?_
            obtain rfl:=sj am
            exact⟨_,Z,_,_,_,_,_,_,Z,_,cq,(gt ao (gt a2 (gt a9 (gt bu (gt bz (gt bC (gt bT (gt bY (gt ce co))))))))),f.k Z,m,cr⟩
           ·refine Ai f Z ci ?_
            refine Ac ?_
            refine Ab f Z fun a f=>Ab f Z fun a f=>Ah f Z Z BM fun a f=>Ad f Z fun a f=>Aa (Ac ?_)
            refine Ab f Z fun a f=>Ab f Z fun a f=>Ah f Z Z Ar fun a f=>Ab f Z fun a f=>Ab f Z fun a f=> ?_
            obtain⟨cs,ct,am⟩:=bind_some am
            refine AK f Z Tryz.call195 (ih m ch ct) fun cu cv cw w cx m cy a f=> ?_
            obtain⟨cz,rfl,cA⟩:=cy
            refine Aa (Ak ?_)
            refine Ab f Z fun a f=>Ad f Z fun a f=>Aa ?_
            obtain rfl:=sj am
            exact⟨_,Z,_,_,_,_,_,_,Z,_,cz,(gt ao (gt a2 (gt a9 (gt bu (gt bz (gt bC (gt bT (gt bY (gt ce cx))))))))),f.k Z,m,cA⟩
         ·intro cB
          rcases Ae bW with⟨cC,bW⟩|⟨cC,bW⟩
          ·refine Ag (hw:=wo f cC) 3 15 Z f Z fun a f=> ?_
           refine Ag (hw:=wo f cC) 4 15 Z f Z fun a f=>q_p (hw:=wo f cC) 5 15 Z f (fun _=>AD (f.eval Z) (f.eval Z) AH) fun a f=> ?_
           obtain⟨cD,cE,bW⟩:=bind_some bW
           refine Az (hw:=wo f cC) 6 15 0 m bU T42 cE Z f Z Z fun cF a cG f=>AL (hw:=wo f cC) 7 15 0 bU Pl2 cG cE Z f Z fun cH a cI f=> ?_
           subst cI
           refine Ag (hw:=wo f cC) 8 15 Z f Z fun a f=>Ag (hw:=wo f cC) 9 15 Z f Z fun a f=> ?_
           obtain⟨cJ,cK,bW⟩:=bind_some bW
           refine Az (hw:=wo f cC) 10 15 0 m bU T42 cK Z f Z Z fun cL a cM f=>AL (hw:=wo f cC) 11 15 0 bU Pl2 cM cK Z f Z fun cN a cO f=> ?_
           subst cO
           obtain⟨cP,cQ,bW⟩:=bind_some bW
           refine Bh (i:=12) 15 Z (by kernel_rfl) Z f (AQ f Z Z Z cC) Z Z Tryz.call213 (fun _ _ w cR m=>Wk.b m cQ) fun a f=>q_p (hw:=wo f cC) 13 15 Z f (fun _=>Bd (f.eval Z)) fun a f=>q_p 14 15 Z f (fun _=>AO (f.eval Z) cC (f.eval Z)) fun a f=> ?_
           obtain rfl:=sj bW
           exact cB _ (f.k Z)
          ·refine An 3 15 Z f cC fun a f=> ?_
           refine An 4 15 Z f cC fun a f=>An 5 15 Z f cC fun a f=>An 6 15 Z f cC fun a f=>An 7 15 Z f cC fun a f=>An 8 15 Z f cC fun a f=>An 9 15 Z f cC fun a f=>An 10 15 Z f cC fun a f=>An 11 15 Z f cC fun a f=>An 12 15 Z f cC fun a f=>An 13 15 Z f cC fun a f=>q_p 14 15 Z f (fun _=>AP (f.eval Z) cC (f.eval Z)) fun a f=> ?_
           obtain rfl:=sj bW
           exact cB _ (f.k Z)
theorem Wk.n {W w:World}{G:GH}{H:List Itm}{v0:Value}{it0:Itm}{x0:(List Int)}{x1:Int}{x2:Int}{x3:Int}(m:Mem W G w (it0::H))(o0:Ow (RI .i64) 2 G it0 v0 x0){y:((List Int))}(hd:D.n x0 x1 x2 x3=some y):
  Calls Tryz.prog 195 #[v0,(.int .i64 x1),(.int .i64 x2),(.int .i64 x3)] w (Res W G H (fun G' Ho _=>∃i0:Itm,Ho=[i0]∧Ow (RI .i64) 2 G' i0 v0 y)):=by
 exact Wk.I CU m o0 hd
theorem Wk.x1 {W w:World}{G:GH}{H:List Itm}{v0:Value}{it0:Itm}{x0:(List Int)}(m:Mem W G w (it0::H))(o0:Ow (RI .i64) 2 G it0 v0 x0){y:((List Int))}(hd:D.x1 x0=some y):
  Calls Tryz.prog 171 #[v0] w (Res W G H (fun G' Ho _=>∃i0:Itm,Ho=[i0]∧Ow (RI .i64) 2 G' i0 v0 y)):=by
 refine As (args:=[v0]) (N:=11) [] Tryz.func171 Z Z (Nat.le_of_ble_eq_true Z) Z fun a f=> ?_
 unfold D.x1 at hd
 refine Ac ?_
 refine Ab f Z fun a f=>BB 0 m o0 Z Tryz.underlying42 f Z Z fun a f=>Ad f Z fun a f=>Aa (Ak ?_)
 refine Ab f Z fun a f=>Ab f Z fun a f=>Ab f Z fun a f=>l_o f (CT (f.eval Z) ⟨_,Tryz.underlying3⟩ Tryz.underlying135) fun a f=> ?_
 obtain⟨aa,ab,hd⟩:=bind_some hd
 refine AK f Z Tryz.call122 (Wk.r m ab) fun ac ad ae w af m ag a f=> ?_
 obtain⟨rfl,rfl⟩:=ag
 have o0:=od1 af o0
 obtain⟨ah,ai,hd⟩:=bind_some hd
 refine AK f Z Tryz.call195 (Wk.n m o0 ai) fun aj ak al w am m an a f=> ?_
 obtain⟨ao,rfl,ap⟩:=an
 refine Aa ?_
 obtain rfl:=sj hd
 exact⟨[],trivial,f.defers,_,[ao],(gt af am),m,_,Z,ap⟩
theorem Wk.p0 {W w:World}{G:GH}{H:List Itm}{v0:Value}{b0:Nat}{x0:(List Int)}(m:Mem W G w (Itm.box b0 42 [v0]::H))(h0:RSl (RI .i64) G v0 x0){y:((List Int))}(hd:D.p0 x0=some y):
  Calls Tryz.prog 133 #[(.func (.func 172) #[] #[(.pointer (some ⟨b0,0,none⟩))])] w (Res W G H (fun G' Ho v=>∃r0:Value,∃i0:Itm,Ho=[i0]∧r0=v∧Ow (RI .i64) 2 G' i0 r0 y)):=by
 refine As (args:=[(.func (.func 172) #[] #[(.pointer (some ⟨b0,0,none⟩))])]) (N:=9) [.tmp 2] Tryz.func133 Z Z (Nat.le_of_ble_eq_true Z) Z fun a f=> ?_
 unfold D.p0 at hd
 refine Ac ?_
 refine Ad f Z fun a f=>Aa (Ac ?_)
 refine Ab f Z fun a f=> ?_
 obtain⟨aa,ab,hd⟩:=bind_some hd
 refine AK f Z Tryz.call170 (Wk.Z0 m h0 ab) fun ac ad ae w af m ag a f=> ?_
 obtain⟨ah,ai,rfl,rfl,aj⟩:=ag
 refine Ad f Z fun a f=>Aa (Ac ?_)
 refine Ab f Z fun a f=> ?_
 obtain⟨ak,al,hd⟩:=bind_some hd
 refine AK f Z Tryz.call171 (Wk.x1 m aj al) fun am an ao w ap m aq a f=> ?_
 obtain⟨ar,rfl,au⟩:=aq
 refine Aa (Ac ?_)
 refine Ab f Z fun a f=>Ad f Z fun a f=>Aa ?_
 refine Aq ?_
 obtain rfl:=sj hd
 exact⟨[ah],⟨f.get _ _ Z,trivial⟩,f.defers,_,[ar],(gt af ap),m,_,_,Z,Z,au⟩
theorem Wk.l1 {W w:World}{G:GH}{H:List Itm}{x0:Int}(hW:CP W)(m:Mem W G w (H)){y:Int}(hd:D.l1 x0=some y):
  Calls Tryz.prog 179 #[(.int .u32 x0)] w (Res W G H (fun _ Ho v=>Ho=[]∧v=(.int .i64 y))):=by
 refine As (args:=[(.int .u32 x0)]) (N:=14) [.tmp 2] Tryz.func179 Z Z (Nat.le_of_ble_eq_true Z) Z fun a f=> ?_
 unfold D.l1 at hd
 refine Ac ?_
 refine Ad f Z fun a f=>Aa (Af (Ac ?_))
 refine Ab f Z fun a f=>Ah f Z Z By fun a f=>Aa ?_
 rcases Ae hd with⟨aa,hd⟩|⟨aa,hd⟩
 ·refine Al f Z aa ?_
  refine Ac ?_
  refine Ad f Z fun a f=>Aa ?_
  refine Aq ?_
  obtain rfl:=sj hd
  exact⟨[(.int .i64 32)],⟨f.get _ _ Z,trivial⟩,f.defers,_,[],gr,m,Z,Z⟩
 ·refine Ai f Z aa ?_
  refine Am ?_
  refine Ac ?_
  refine Ab f Z fun a f=>Ab f Z fun a f=>l_o f (r_neg (f.eval Z)) fun a f=>Ah f Z Z DH fun a f=>Ah f Z Z CH fun a f=>l_o f (r_shr (f.eval Z) (f.eval Z) (by decide)) fun a f=> ?_
  obtain⟨ab,ac,hd⟩:=bind_some hd
  refine l_tab hW m Tryz.underlying202 Tryz.sizeOf5 f Z Z ac fun ad a ae f=>AG m Pl5 f Z Z ae fun a f=>l_o f (CT (f.eval Z) ⟨_,Tryz.underlying5⟩ Tryz.underlying3) fun a f=>Ad f Z fun a f=>Aa ?_
  refine Aq ?_
  obtain rfl:=sj hd
  exact⟨[(.int .i64 (IntKind.i64.wrap ab))],⟨f.get _ _ Z,trivial⟩,f.defers,_,[],gr,m,Z,Z⟩
theorem Wk.X0 {W w:World}{G:GH}{H:List Itm}{x0:Int}{x1:Int}(m:Mem W G w (H)){y:Int}(hd:D.X0 x0 x1=some y):
  Calls Tryz.prog 123 #[(.int .i64 x0),(.int .i64 x1)] w (Res W G H (fun _ Ho v=>Ho=[]∧v=(.int .i64 y))):=by
 refine As (args:=[(.int .i64 x0),(.int .i64 x1)]) (N:=20) [.tmp 4] Tryz.func123 Z Z (Nat.le_of_ble_eq_true Z) Z fun a f=> ?_
 unfold D.X0 at hd
 refine Ac ?_
 refine Ad f Z fun a f=>Aa (Ac ?_)
 refine Ab f Z fun a f=> ?_
 obtain⟨aa,ab,hd⟩:=bind_some hd
 refine Bi f Z Tryz.call164 (Wk.s m ab) fun ac w ad m a f=>Ad f Z fun a f=>Aa (Ac ?_)
 refine Ab f Z fun a f=> ?_
 obtain⟨ae,af,hd⟩:=bind_some hd
 refine Bi f Z Tryz.call164 (Wk.s m af) fun ag w ah m a f=>Ad f Z fun a f=>Aa (Af (Ac ?_))
 refine Ab f Z fun a f=>Aa ?_
 rcases Ae hd with⟨ai,hd⟩|⟨ai,hd⟩
 ·refine Al f Z ai ?_
  refine Af (Ac ?_)
  refine Ab f Z fun a f=>Aa ?_
  rcases Ae hd with⟨aj,hd⟩|⟨aj,hd⟩
  ·refine Al f Z aj ?_
   refine Ac ?_
   refine Ad f Z fun a f=>Aa ?_
   refine Aq ?_
   obtain rfl:=sj hd
   exact⟨[(.int .i64 0)],⟨f.get _ _ Z,trivial⟩,f.defers,_,[],(gt ad ah),m,Z,Z⟩
  ·refine Ai f Z aj ?_
   refine Am ?_
   refine Ac ?_
   refine Ad f Z fun a f=>Aa ?_
   refine Aq ?_
   obtain rfl:=sj hd
   exact⟨[(.int .i64 (-1))],⟨f.get _ _ Z,trivial⟩,f.defers,_,[],(gt ad ah),m,Z,Z⟩
 ·refine Ai f Z ai ?_
  refine Am ?_
  refine Af (Ac ?_)
  refine Ab f Z fun a f=>Aa ?_
  rcases Ae hd with⟨ak,hd⟩|⟨ak,hd⟩
  ·refine Al f Z ak ?_
   refine Ac ?_
   refine Ad f Z fun a f=>Aa ?_
   refine Aq ?_
   obtain rfl:=sj hd
   exact⟨[(.int .i64 1)],⟨f.get _ _ Z,trivial⟩,f.defers,_,[],(gt ad ah),m,Z,Z⟩
  ·refine Ai f Z ak ?_
   refine Am ?_
   refine Af (Ac ?_)
   refine Ab f Z fun a f=>Ab f Z fun a f=>Ah f Z Z AJ fun a f=>Aa ?_
   rcases Ae hd with⟨al,hd⟩|⟨al,hd⟩
   ·refine Al f Z al ?_
    refine Ac ?_
    refine Ad f Z fun a f=>Aa ?_
    refine Aq ?_
    obtain rfl:=sj hd
    exact⟨[(.int .i64 (-1))],⟨f.get _ _ Z,trivial⟩,f.defers,_,[],(gt ad ah),m,Z,Z⟩
   ·refine Ai f Z al ?_
    refine Am ?_
    refine Af (Ac ?_)
    refine Ab f Z fun a f=>Ab f Z fun a f=>Ah f Z Z BV fun a f=>Aa ?_
    rcases Ae hd with⟨am,hd⟩|⟨am,hd⟩
    ·refine Al f Z am ?_
     refine Ac ?_
     refine Ad f Z fun a f=>Aa ?_
     refine Aq ?_
     obtain rfl:=sj hd
     exact⟨[(.int .i64 1)],⟨f.get _ _ Z,trivial⟩,f.defers,_,[],(gt ad ah),m,Z,Z⟩
    ·refine Ai f Z am ?_
     refine Am ?_
     refine Ac ?_
     refine Ad f Z fun a f=>Aa ?_
     refine Aq ?_
     obtain rfl:=sj hd
     exact⟨[(.int .i64 0)],⟨f.get _ _ Z,trivial⟩,f.defers,_,[],(gt ad ah),m,Z,Z⟩
theorem Wk.a {W w:World}{G:GH}{H:List Itm}{v0:Value}{v1:Value}{x0:(List Int)}{x1:(List Int)}(m:Mem W G w (H))(h0:RSl (RI .i64) G v0 x0)(h1:RSl (RI .i64) G v1 x1){y:Int}(hd:D.a x0 x1=some y):
  Calls Tryz.prog 58 #[v0,v1] w (Res W G H (fun _ Ho v=>Ho=[]∧v=(.int .i64 y))):=by
 refine As (args:=[v0,v1]) (N:=36) [.tmp 4] Tryz.func58 Z Z (Nat.le_of_ble_eq_true Z) Z fun a f=> ?_
 unfold D.a at hd
 refine Ac ?_
 refine Ad f Z fun a f=>Aa (Af (Ac ?_))
 refine Ab f Z fun a f=>AZ Tryz.underlying42 f Z Z h0 fun a f=>Ab f Z fun a f=>Aa ?_
 obtain⟨aa,ab,hd⟩:=bind_some hd
 refine AC (fun a w=>∃q_47':Unit,aa= .inl q_47'∧∃(ac:GH),GLe G ac∧Fr a 36 [(0,v0),(1,v1)]∧Mem W ac w (H)) ?_ ?_
 ·refine Aj ?_
  refine AA (fun ad a w=>∃ae:Int,ae=ad∧∃(af:GH),GLe G af∧Fr a 36 [(0,v0),(1,v1),(9,v0),(10,(.int .i64 (x0.length:Int))),(11,(.int .i64 ae))]∧Mem W af w (H)) ab ⟨_,Z,_,gr,f.k Z,m⟩ ?_
  clear ab f m
  rintro ad ag ah ai a w ⟨ae,rfl,af,aj,f,m⟩
  have h0:=rd1 aj h0
  have h1:=rd1 aj h1
  refine Ac ?_
  refine Ah f Z Z AJ fun a f=>Aa (Af ?_)
  rcases Ae ah with⟨ak,ah⟩|⟨ak,ah⟩
  ·refine Al f Z ak ?_
   refine Am ?_
   refine Af (Aj (Ac ?_))
   refine Ab f Z fun a f=> ?_
   obtain⟨al,am,ah⟩:=bind_some ah
   refine Bf T42 f Z Z Z h0 am fun an ao a ap aq f=> ?_
   subst aq
   refine AG m Pl2 f Z Z ap fun a f=>Ad f Z fun a f=>Ad f Z fun a f=>Aa (Af (Ac ?_))
   refine Ab f Z fun a f=>Ab f Z fun a f=>AZ Tryz.underlying42 f Z Z h1 fun a f=>Ah f Z Z BM fun a f=>Aa ?_
   rcases Ae ah with⟨ar,ah⟩|⟨ar,ah⟩
   ·refine Al f Z ar ?_
    refine Ac ?_
    refine Ad f Z fun a f=>Aa ?_
    refine Aq ?_
    obtain rfl:=sj ah
    obtain rfl:=ai _ rfl
    obtain rfl:=sj hd
    exact⟨[(.int .i64 1)],⟨f.get _ _ Z,trivial⟩,f.defers,_,[],aj,m,Z,Z⟩
   ·refine Ai f Z ar ?_
    refine Am ?_
    refine Ac ?_
    refine Ab f Z fun a f=>Ab f Z fun a f=> ?_
    obtain⟨au,av,ah⟩:=bind_some ah
    refine Bf T42 f Z Z Z h1 av fun aw ax a ay az f=> ?_
    subst az
    refine AG m Pl2 f Z Z ay fun a f=>Ad f Z fun a f=>Aa (Ac ?_)
    refine Ab f Z fun a f=>Ab f Z fun a f=> ?_
    obtain⟨aA,aB,ah⟩:=bind_some ah
    refine Bi f Z Tryz.call123 (Wk.X0 m aB) fun aC w aD m a f=> ?_
    have h0:=rd1 aD h0
    have h1:=rd1 aD h1
    refine Ad f Z fun a f=>Aa (Ac ?_)
    refine Ab f Z fun a f=>Ah f Z Z CI fun a f=>Aa ?_
    rcases Ae ah with⟨aE,ah⟩|⟨aE,ah⟩
    ·refine Al f Z aE ?_
     refine Ac ?_
     refine Ab f Z fun a f=>Ad f Z fun a f=>Aa ?_
     refine Aq ?_
     obtain rfl:=sj ah
     obtain rfl:=ai _ rfl
     obtain rfl:=sj hd
     exact⟨[(.int .i64 aA)],⟨f.get _ _ Z,trivial⟩,f.defers,_,[],(gt aj aD),m,Z,Z⟩
    ·refine Ai f Z aE ?_
     refine Am ?_
     refine Ak ?_
     refine Ah f Z Z Ar fun a f=>Ab f Z fun a f=>Aa ?_
     obtain rfl:=sj ah
     exact⟨_,Z,_,Z,_,(gt aj aD),f.k Z,m⟩
  ·refine Ai f Z ak ?_
   refine Ax Z ?_
   obtain rfl:=sj ah
   obtain rfl:=ai _ rfl
   exact⟨_,Z,_,aj,f.k Z,m⟩
 ·rintro a w ⟨_,rfl,ac,aF,f,m⟩
  have h0:=rd1 aF h0
  have h1:=rd1 aF h1
  refine Af (Ac ?_)
  refine Ab f Z fun a f=>AZ Tryz.underlying42 f Z Z h0 fun a f=>Ab f Z fun a f=>AZ Tryz.underlying42 f Z Z h1 fun a f=>Ah f Z Z AJ fun a f=>Aa ?_
  rcases Ae hd with⟨aG,hd⟩|⟨aG,hd⟩
  ·refine Al f Z aG ?_
   refine Ac ?_
   refine Ad f Z fun a f=>Aa ?_
   refine Aq ?_
   obtain rfl:=sj hd
   exact⟨[(.int .i64 (-1))],⟨f.get _ _ Z,trivial⟩,f.defers,_,[],aF,m,Z,Z⟩
  ·refine Ai f Z aG ?_
   refine Am ?_
   refine Ac ?_
   refine Ad f Z fun a f=>Aa ?_
   refine Aq ?_
   obtain rfl:=sj hd
   exact⟨[(.int .i64 0)],⟨f.get _ _ Z,trivial⟩,f.defers,_,[],aF,m,Z,Z⟩
theorem Wk.y1 {W w:World}{G:GH}{H:List Itm}{v0:Value}{x0:(List (List Int))}(m:Mem W G w (H))(h0:RSl (RSl (RI .i64)) G v0 x0){y:((List (List Int)))}(hd:D.y1 x0=some y):
  Calls Tryz.prog 128 #[v0] w (Res W G H (fun G' Ho v=>∃r0:Value,∃i0:Itm,Ho=[i0]∧r0=v∧Ow (RSl (RI .i64)) 42 G' i0 r0 y)):=by
 refine As (args:=[v0]) (N:=8) [.tmp 2] Tryz.func128 Z Z (Nat.le_of_ble_eq_true Z) Z fun a f=> ?_
 unfold D.y1 at hd
 refine Ac ?_
 refine Ad f Z fun a f=>Aa (Af (Ac ?_))
 refine Ab f Z fun a f=>l_o f (E7 (f.eval Z) (f.eval Z) h0.hdr Tryz.underlying22 Z) fun a f=>Aa ?_
 rcases Bool.eq_false_or_eq_true (DT v0) with aa|aa
 ·have hz:=h0.nil_inv aa
  subst hz
  replace hd:some ([]:List (List Int))=some _:=hd
  refine Al f Z aa ?_
  refine Ac ?_
  refine Ad f Z fun a f=>Aa ?_
  refine Aq ?_
  obtain⟨ab,m,ac⟩:=Ow.nil (RSl (RI .i64)) 42 m
  obtain rfl:=sj hd
  exact⟨[(.slice none 0 0)],⟨f.get _ _ Z,trivial⟩,f.defers,_,[ab],gr,m,_,_,Z,Z,ac⟩
 ·refine Ai f Z aa ?_
  refine Am ?_
  refine Ac ?_
  refine A8 (R:=(RSl (RI .i64))) (xs:=([]:List (List Int))) (RSl.one _) m T22 f Z Z Z (by decide) (All2.nil _) fun ad ae w a m af f=>Ab f Z fun a f=> ?_
  obtain⟨ag,ah,hd⟩:=bind_some hd
  refine Bo (RSl.one _) 0 m af Z T22 Z (by decide) f Z Z Z (h0.src m) ah fun ai aj w a m ak f=>Ad f Z fun a f=>Aa ?_
  refine Aq ?_
  obtain rfl:=sj hd
  exact⟨[aj],⟨f.get _ _ Z,trivial⟩,f.defers,_,[ai],gr,m,_,_,Z,Z,ak⟩
theorem Wk.n1 {W w:World}{G:GH}{H:List Itm}{v0:Value}{x0:(List Int)}(m:Mem W G w (H))(h0:RSl (RI .u32) G v0 x0){y:((List Int))}(hd:D.n1 x0=some y):
  Calls Tryz.prog 167 #[v0] w (Res W G H (fun G' Ho v=>∃r0:Value,∃i0:Itm,Ho=[i0]∧r0=v∧Ow (RI .u32) 76 G' i0 r0 y)):=by
 refine As (args:=[v0]) (N:=8) [.tmp 2] Tryz.func167 Z Z (Nat.le_of_ble_eq_true Z) Z fun a f=> ?_
 unfold D.n1 at hd
 refine Ac ?_
 refine Ad f Z fun a f=>Aa (Af (Ac ?_))
 refine Ab f Z fun a f=>l_o f (E7 (f.eval Z) (f.eval Z) h0.hdr Tryz.underlying71 Z) fun a f=>Aa ?_
 rcases Bool.eq_false_or_eq_true (DT v0) with aa|aa
 ·have hz:=h0.nil_inv aa
  subst hz
  replace hd:some ([]:List Int)=some _:=hd
  refine Al f Z aa ?_
  refine Ac ?_
  refine Ad f Z fun a f=>Aa ?_
  refine Aq ?_
  obtain⟨ab,m,ac⟩:=Ow.nil (RI .u32) 76 m
  obtain rfl:=sj hd
  exact⟨[(.slice none 0 0)],⟨f.get _ _ Z,trivial⟩,f.defers,_,[ab],gr,m,_,_,Z,Z,ac⟩
 ·refine Ai f Z aa ?_
  refine Am ?_
  refine Ac ?_
  refine A8 (R:=(RI .u32)) (xs:=([]:List Int)) (RI.one _) m T71 f Z Z Z (by decide) (All2.nil _) fun ad ae w a m af f=>Ab f Z fun a f=> ?_
  obtain⟨ag,ah,hd⟩:=bind_some hd
  refine Bo (RI.one _) 0 m af Z T71 Z (by decide) f Z Z Z (h0.src m) ah fun ai aj w a m ak f=>Ad f Z fun a f=>Aa ?_
  refine Aq ?_
  obtain rfl:=sj hd
  exact⟨[aj],⟨f.get _ _ Z,trivial⟩,f.defers,_,[ai],gr,m,_,_,Z,Z,ak⟩
theorem Wk.q1 {W w:World}{G:GH}{H:List Itm}{v0:Value}{it0:Itm}{x0:(List Int)}{x1:Int}{x2:Int}(m:Mem W G w (it0::H))(o0:Ow (RI .u32) 76 G it0 v0 x0){y:(List Int)}(hd:D.q1 x0 x1 x2=some y):
  Calls Tryz.prog 166 #[v0,(.int .i64 x1),(.int .i64 x2)] w (Res W G H (fun G' Ho v=>∃r0:Value,∃i0:Itm,Ho=[i0]∧r0=v∧Ow (RI .u32) 76 G' i0 r0 y)):=by
 unfold D.q1 delD at hd
 split at hd
 next hg=>
  obtain⟨g0,g1,g2⟩:=hg
  obtain rfl:=sj hd
  obtain⟨b,c,rfl,gc⟩:=o0.block m (by omega)
  refine As (args:=[(.slice (some ⟨b,0,none⟩) x0.length c),(.int .i64 x1),(.int .i64 x2)]) (N:=33) [.tmp 6] Tryz.func166 Z Z (Nat.le_of_ble_eq_true Z) Z fun a f=>Ac ?_
  refine Ad f Z fun a f=>Aa (Ac ?_)
  refine Ab f Z fun a f=>Ab f Z fun a f=>Ab f Z fun a f=>Ab f Z fun a f=>l_o f (En (f.eval Z) Tryz.underlying71) fun a f=>l_slice3 T71 f Z Z Z Z Z g0 (Int.le_of_lt g1) g2 (Int.ofNat_le.2 gc) fun v3 a f=>Aa (Af (Ac ?_))
  refine Ab f Z fun a f=>Ab f Z fun a f=>Ah f Z Z By fun a f=>Aa ?_
  refine Ai f Z (beq_eq_false_iff_ne.2 (by omega)) ?_
  refine Am ?_
  refine Ac ?_
  refine Ab f Z fun a f=>l_o f (En (f.eval Z) Tryz.underlying71) fun a f=>Ad f Z fun a f=>Aa (Af ?_)
  refine AT 6 Aw (by kernel_rfl) m ?_
  refine Ag 0 6 Z f Z fun a f=>Ag 1 6 Z f Z fun a f=>q_p 2 6 Z f (fun _=>r_slice_lo T71 (f.eval Z) (f.eval Z) g0 (by omega)) fun a f=>Ag 3 6 Z f Z fun a f=>Ag 4 6 Z f Z fun a f=>q_p 5 6 Z f (fun _=>r_slice_hi T71 (f.eval Z) (f.eval Z) (by omega) g2 gc) fun a f=>AI fun G1 w hl m=> ?_
  have o0:=od1 hl o0
  refine l_del (RI.one _) m o0 T71 f Z g0 g1 g2 Z Z Z (fun hp=>if_neg (by omega)) fun it1 w a m o1 f=>Ad f Z fun a f=>Aa (Ac ?_)
  refine Ab f Z fun a f=>Ab f Z fun a f=>l_o f (En (f.eval Z) Tryz.underlying71) fun a f=>Ab f Z fun a f=>l_o f (r_slice_mid T71 (f.eval Z) (f.eval Z) (f.eval Z) (by rw[List.length_append,List.length_take,List.length_drop];omega) gc) fun a f=>l_wipe m o1 T71 Z Z f Z (Nat.le_refl _) (by rw[List.length_append,List.length_take,List.length_drop];omega) fun w m=>Aa (Ac ?_)
  refine Ab f Z fun a f=>Ad f Z fun a f=>Aa ?_
  refine Aq ?_
  exact⟨[_],⟨f.get _ _ Z,trivial⟩,f.defers,_,[it1],hl,m,_,_,Z,Z,o1⟩
 next=>cases hd
theorem Wk.N0 {W w:World}{G:GH}{H:List Itm}{v0:Value}{x0:(List Int)}(m:Mem W G w (H))(h0:RSl (RI .i64) G v0 x0){y:((List Int))}(hd:D.N0 x0=some y):
  Calls Tryz.prog 130 #[v0] w (Res W G H (fun G' Ho v=>∃r0:Value,∃i0:Itm,Ho=[i0]∧r0=v∧Ow (RI .i64) 2 G' i0 r0 y)):=by
 refine As (args:=[v0]) (N:=8) [.tmp 2] Tryz.func130 Z Z (Nat.le_of_ble_eq_true Z) Z fun a f=> ?_
 unfold D.N0 at hd
 refine Ac ?_
 refine Ad f Z fun a f=>Aa (Af (Ac ?_))
 refine Ab f Z fun a f=>l_o f (E7 (f.eval Z) (f.eval Z) h0.hdr Tryz.underlying42 Z) fun a f=>Aa ?_
 rcases Bool.eq_false_or_eq_true (DT v0) with aa|aa
 ·have hz:=h0.nil_inv aa
  subst hz
  replace hd:some ([]:List Int)=some _:=hd
  refine Al f Z aa ?_
  refine Ac ?_
  refine Ad f Z fun a f=>Aa ?_
  refine Aq ?_
  obtain⟨ab,m,ac⟩:=Ow.nil (RI .i64) 2 m
  obtain rfl:=sj hd
  exact⟨[(.slice none 0 0)],⟨f.get _ _ Z,trivial⟩,f.defers,_,[ab],gr,m,_,_,Z,Z,ac⟩
 ·refine Ai f Z aa ?_
  refine Am ?_
  refine Ac ?_
  refine A8 (R:=(RI .i64)) (xs:=([]:List Int)) (RI.one _) m T42 f Z Z Z (by decide) (All2.nil _) fun ad ae w a m af f=>Ab f Z fun a f=> ?_
  obtain⟨ag,ah,hd⟩:=bind_some hd
  refine Bo (RI.one _) 0 m af Z T42 Z (by decide) f Z Z Z (h0.src m) ah fun ai aj w a m ak f=>Ad f Z fun a f=>Aa ?_
  refine Aq ?_
  obtain rfl:=sj hd
  exact⟨[aj],⟨f.get _ _ Z,trivial⟩,f.defers,_,[ai],gr,m,_,_,Z,Z,ak⟩
end Go.Proofs.YtebbefpdncgoiaaGreatDoor

set_option maxRecDepth 100000
namespace Go.Proofs.YtebbefpdncgoiaaGreatDoor
open Go Go.Sx
theorem T48 :SlT Tryz.prog 48 5 1 1 (.int .u8 0):=⟨Tryz.underlying48,Tryz.t5,by kernel_rfl,by kernel_rfl,by kernel_rfl,by kernel_rfl⟩
theorem Pl58 :Cm Tryz.prog 58:=Tryz.isAgg58
theorem Pl48 :Cm Tryz.prog 48:=Tryz.isAgg48
theorem Ba :Cm Tryz.prog 22:=Tryz.isAgg22
theorem Bq :Agg Tryz.prog 30 1:=⟨Tryz.isAgg30,Tryz.sizeOf30⟩
theorem AY :Cm Tryz.prog 42:=Tryz.isAgg42
theorem T73 :SlT Tryz.prog 73 76 1 4 (.int .u32 0):=⟨Tryz.underlying73,Tryz.t76,by kernel_rfl,by kernel_rfl,by kernel_rfl,by kernel_rfl⟩
theorem T94 :SlT Tryz.prog 94 3 1 8 (.int .i64 0):=⟨Tryz.underlying94,Tryz.t3,by kernel_rfl,by kernel_rfl,by kernel_rfl,by kernel_rfl⟩
theorem Wk.c1 {W w:World}{G:GH}{H:List Itm}{v0:Value}{x0:(List Int)}(m:Mem W G w (H))(h0:RSl (RI .u8) G v0 x0){y:Bool}(hd:D.c1 x0=some y):
  Calls Tryz.prog 26 #[v0] w (Res W G H (fun _ Ho v=>Ho=[]∧v=(.bool y))):=by
 refine As (args:=[v0]) (N:=6) [.tmp 2] Tryz.func26 Z Z (Nat.le_of_ble_eq_true Z) Z fun a f=> ?_
 unfold D.c1 at hd
 refine Ac ?_
 refine Ad f Z fun a f=>Aa (Ac ?_)
 refine Ab f Z fun a f=>AZ Tryz.underlying48 f Z Z h0 fun a f=>Ah f Z Z BV fun a f=>Ad f Z fun a f=>Aa ?_
 refine Aq ?_
 obtain rfl:=sj hd
 exact⟨[(.bool (decide ((4096:Int)<(x0.length:Int))))],⟨f.get _ _ Z,trivial⟩,f.defers,_,[],gr,m,Z,Z⟩
theorem Wk.H0 {W w:World}{G:GH}{H:List Itm}{v0:Value}{x0:(List Int)}{x1:Int}(m:Mem W G w (H))(h0:RSl (RI .u8) G v0 x0){y:((List Int))×Int×Int}(hd:D.H0 x0 x1=some y):
  Calls Tryz.prog 34 #[v0,(.int .u64 x1)] w (Res W G H (fun G' Ho v=>∃r0:Value,∃c1:Nat,Ho=[Itm.box c1 109 [r0,(.int .i64 y.2.1),(.int .u64 y.2.2)]]∧v=(.pointer (some ⟨c1,0,none⟩))∧RSl (RI .u8) G' r0 y.1)):=by
 refine As (args:=[v0,(.int .u64 x1)]) (N:=38) [.tmp 4] Tryz.func34 Z Z (Nat.le_of_ble_eq_true Z) Z fun a f=> ?_
 unfold D.H0 at hd
 refine Ac ?_
 refine Ad f Z fun a f=>Aa (Ac ?_)
 refine Ab f Z fun a f=>Ab f Z fun a f=>Ah f Z Z CH fun a f=>Ab f Z fun a f=>AZ Tryz.underlying48 f Z Z h0 fun a f=>l_o f (CT (f.eval Z) ⟨_,Tryz.underlying3⟩ Tryz.underlying58) fun a f=>Ah f Z Z Ar fun a f=> ?_
 have aa:∀w,(Instr.build 109 #[(0,v0),(2,(.int .u64 (IntKind.u64.wrap ((IntKind.u64.wrap (x1*7919))+(IntKind.u64.wrap (x0.length:Int))))))]).run Tryz.prog w= .ok (.agg #[v0,(.int .i64 0),(.int .u64 (IntKind.u64.wrap ((IntKind.u64.wrap (x1*7919))+(IntKind.u64.wrap (x0.length:Int)))))]) w:=by intro w;simp[Instr.build,Instr.fill,h0.cells,CB,Cq,B8,Cg,BY,CD]
 refine C5 f Z Z aa fun a f=>Bw (cs:=[v0,(.int .i64 0),(.int .u64 (IntKind.u64.wrap ((IntKind.u64.wrap (x1*7919))+(IntKind.u64.wrap (x0.length:Int)))))]) m f Z Z Z fun ab w a m f=>Ad f Z fun a f=>Aa (Af (Ac ?_))
 refine Ad f Z fun a f=>Aa ?_
 obtain⟨ac,ad,hd⟩:=bind_some hd
 refine AC (fun a w=>∃ae:Int,ae=ac∧∃(af:GH),GLe G af∧Fr a 38 [(5,(.pointer (some ⟨ab,0,none⟩)))]∧Mem W af w (Itm.box ab 109 [v0,(.int .i64 0),(.int .u64 ae)]::H)) ?_ ?_
 ·refine Aj ?_
  refine AA (fun ag a w=>∃ah:Int,∃ai:Int,(ah,ai)=ag∧∃(aj:GH),GLe G aj∧Fr a 38 [(0,v0),(5,(.pointer (some ⟨ab,0,none⟩))),(6,(.int .i64 ah))]∧Mem W aj w (Itm.box ab 109 [v0,(.int .i64 0),(.int .u64 ai)]::H)) ad ⟨_,_,Z,_,gr,f.k Z,m⟩ ?_
  clear ad f m
  rintro ag ak al am a w ⟨ah,ai,rfl,aj,an,f,m⟩
  have h0:=rd1 an h0
  refine Af (Ac ?_)
  refine Ab f Z fun a f=>Ab f Z fun a f=>AZ Tryz.underlying48 f Z Z h0 fun a f=>Ah f Z Z AJ fun a f=>Aa ?_
  rcases Ae al with⟨ao,al⟩|⟨ao,al⟩
  ·refine Al f Z ao ?_
   refine Am ?_
   refine Af (Aj ?_)
   refine AT 15 Aw (by kernel_rfl) m ?_
   refine Ag 0 15 Z f Z fun a f=>Ag 1 15 Z f Z fun a f=>q_p 2 15 Z f (fun _=>Bj (f.eval Z)) fun a f=>B3 3 15 Tryz.underlying109 Z Tryz.sizeOf58 Z f Z fun a f=>BO 4 15 0 Pl58 Z Z Z f Z fun a f=>q_p 5 15 Z f (fun _=>AD (f.eval Z) (f.eval Z) CH) fun a f=>Ag 6 15 Z f Z fun a f=>Ag 7 15 Z f Z fun a f=> ?_
   obtain⟨ap,aq,al⟩:=bind_some al
   refine B2 8 15 T48 h0 aq Z f Z Z fun ar au a av aw f=> ?_
   subst aw
   refine BZ 9 15 Pl5 av Z f Z fun a f=>q_p 10 15 Z f (fun _=>CT (f.eval Z) ⟨_,Tryz.underlying5⟩ Tryz.underlying58) fun a f=>q_p 11 15 Z f (fun _=>AD (f.eval Z) (f.eval Z) Ar) fun a f=>q_p 12 15 Z f (fun _=>AD (f.eval Z) (f.eval Z) Ar) fun a f=>q_p 13 15 Z f (fun _=>Bj (f.eval Z)) fun a f=>B3 14 15 Tryz.underlying109 Z Tryz.sizeOf58 Z f Z fun a f=>AI fun ax w ay m=> ?_
   have h0:=rd1 ay h0
   have av:=At.mono ay av
   refine AS 0 2 (ds:=[(.int .u64 (IntKind.u64.wrap ((IntKind.u64.wrap ((IntKind.u64.wrap (ai*1099511628211))+(IntKind.u64.wrap ap)))+3)))]) m Tryz.sizeOf58 f Z Z Z (AN Z A3) Z (Nat.le_of_ble_eq_true Z) Z fun w m=>Aa (Ak ?_)
   refine Ab f Z fun a f=>Ah f Z Z Ar fun a f=>Ad f Z fun a f=>Aa ?_
   obtain rfl:=sj al
   exact⟨_,Z,_,_,Z,_,(gt an ay),f.k Z,m⟩
  ·refine Ai f Z ao ?_
   refine Ax Z ?_
   obtain rfl:=sj al
   obtain rfl:=am _ rfl
   exact⟨_,Z,_,an,f.k Z,m⟩
 ·rintro a w ⟨ae,rfl,af,az,f,m⟩
  have h0:=rd1 az h0
  refine Ac ?_
  refine Ab f Z fun a f=>Ad f Z fun a f=>Aa ?_
  refine Aq ?_
  obtain rfl:=sj hd
  exact⟨[(.pointer (some ⟨ab,0,none⟩))],⟨f.get _ _ Z,trivial⟩,f.defers,_,[Itm.box ab 109 [v0,(.int .i64 0),(.int .u64 ae)]],az,m,_,_,Z,Z,h0⟩
theorem Wk.k {W w:World}{G:GH}{H:List Itm}{v0_0:Value}{b0:Nat}{x0_0:(List Int)}{x0_1:Int}{x0_2:Int}{x1:Int}(m:Mem W G w (Itm.box b0 109 [v0_0,(.int .i64 x0_1),(.int .u64 x0_2)]::H))(h0_0:RSl (RI .u8) G v0_0 x0_0){y:Int×((List Int))×Int×Int}(hd:D.k x0_0 x0_1 x0_2 x1=some y):
  Calls Tryz.prog 91 #[(.pointer (some ⟨b0,0,none⟩)),(.int .i64 x1)] w (Res W G H (fun G' Ho v=>∃r0:Value,Ho=[Itm.box b0 109 [r0,(.int .i64 y.2.2.1),(.int .u64 y.2.2.2)]]∧v=(.int .i64 y.1)∧RSl (RI .u8) G' r0 y.2.1)):=by
 refine As (args:=[(.pointer (some ⟨b0,0,none⟩)),(.int .i64 x1)]) (N:=56) [.tmp 4] Tryz.func91 Z Z (Nat.le_of_ble_eq_true Z) Z fun a f=> ?_
 unfold D.k at hd
 refine Ac ?_
 refine Ad f Z fun a f=>Aa (Ac ?_)
 refine Ab f Z fun a f=>Ab f Z fun a f=>l_o f (Bj (f.eval Z)) fun a f=>Bn Tryz.underlying109 Z Tryz.sizeOf58 f Z fun a f=>AF 0 2 m Pl58 f Z Z Z Z fun a f=>Ah f Z Z CH fun a f=>Ah f Z Z Ar fun a f=>l_o f (Bj (f.eval Z)) fun a f=>Bn Tryz.underlying109 Z Tryz.sizeOf58 f Z fun a f=>AS 0 2 (ds:=[(.int .u64 (IntKind.u64.wrap ((IntKind.u64.wrap (x0_2*6364136223846793005))+1442695040888963407)))]) m Tryz.sizeOf58 f Z Z Z (AN Z A3) Z (Nat.le_of_ble_eq_true Z) Z fun w m=>Aa (Ac ?_)
 refine Ab f Z fun a f=>l_o f (Bj (f.eval Z)) fun a f=>Bn Tryz.underlying109 Z Tryz.sizeOf58 f Z fun a f=>AF 0 2 m Pl58 f Z Z Z Z fun a f=>l_o f (r_shr (f.eval Z) (f.eval Z) (by decide)) fun a f=>Ah f Z Z DH fun a f=>l_o f (CT (f.eval Z) ⟨_,Tryz.underlying58⟩ Tryz.underlying2) fun a f=>Ad f Z fun a f=>Aa (Af (Af ?_))
 refine AT 10 Aw (by kernel_rfl) m ?_
 refine Ag 0 10 Z f Z fun a f=>q_p 1 10 Z f (fun _=>Bj (f.eval Z)) fun a f=>B3 2 10 Tryz.underlying109 Z Tryz.sizeOf3 Z f Z fun a f=>BO 3 10 0 Pl3 Z Z Z f Z fun a f=>Ag 4 10 Z f Z fun a f=>q_p 5 10 Z f (fun _=>Bj (f.eval Z)) fun a f=>B3 6 10 Tryz.underlying109 Z Tryz.sizeOf48 Z f Z fun a f=>BO 7 10 0 Pl48 Z Z Z f Z fun a f=>Ei (i:=8) 10 Tryz.underlying48 h0_0 Z (by kernel_rfl) Z f Z Z Z fun a f=>q_p 9 10 Z f (fun _=>AD (f.eval Z) (f.eval Z) AJ) fun a f=>AI fun aa w ab m=> ?_
 have h0_0:=rd1 ab h0_0
 refine Aa ?_
 rcases Ae hd with⟨ac,hd⟩|⟨ac,hd⟩
 ·refine Al f Z ac ?_
  refine Af ?_
  refine AT 14 Aw (by kernel_rfl) m ?_
  refine Ag 0 14 Z f Z fun a f=>Ag 1 14 Z f Z fun a f=>q_p 2 14 Z f (fun _=>Bj (f.eval Z)) fun a f=>B3 3 14 Tryz.underlying109 Z Tryz.sizeOf48 Z f Z fun a f=>BO 4 14 0 Pl48 Z Z Z f Z fun a f=>Ag 5 14 Z f Z fun a f=>q_p 6 14 Z f (fun _=>Bj (f.eval Z)) fun a f=>B3 7 14 Tryz.underlying109 Z Tryz.sizeOf3 Z f Z fun a f=>BO 8 14 0 Pl3 Z Z Z f Z fun a f=> ?_
  obtain⟨ad,ae,hd⟩:=bind_some hd
  refine B2 9 14 T48 h0_0 ae Z f Z Z fun af ag a ah ai f=> ?_
  subst ai
  refine BZ 10 14 Pl5 ah Z f Z fun a f=>q_p 11 14 Z f (fun _=>CT (f.eval Z) ⟨_,Tryz.underlying5⟩ Tryz.underlying2) fun a f=>q_p 12 14 Z f (fun _=>AD (f.eval Z) (f.eval Z) Ar) fun a f=>q_p 13 14 Z f (fun _=>Bl (f.eval Z)) fun a f=>AI fun aj w ak m=> ?_
  have h0_0:=rd1 ak h0_0
  have ah:=At.mono ak ah
  refine Aa (Ak ?_)
  refine Ab f Z fun a f=>Ab f Z fun a f=>l_o f (Bj (f.eval Z)) fun a f=>Bn Tryz.underlying109 Z Tryz.sizeOf3 f Z fun a f=>AF 0 1 m Pl3 f Z Z Z Z fun a f=>Ah f Z Z Ar fun a f=>l_o f (Bj (f.eval Z)) fun a f=>Bn Tryz.underlying109 Z Tryz.sizeOf3 f Z fun a f=>AS 0 1 (ds:=[(.int .i64 (IntKind.i64.wrap (x0_1+1)))]) m Tryz.sizeOf3 f Z Z Z (AN Z A3) Z (Nat.le_of_ble_eq_true Z) Z fun w m=>Aa (Ac ?_)
  refine Ab f Z fun a f=>Ab f Z fun a f=> ?_
  obtain⟨al,hd⟩:=Do hd
  refine Ah f Z Z (b_rem al) fun a f=>Ad f Z fun a f=>Aa ?_
  refine Aq ?_
  obtain rfl:=sj hd
  exact⟨[(.int .i64 (Int.tmod (IntKind.i64.wrap ((IntKind.i64.wrap (iand .u64 (BJ .u64 (IntKind.u64.wrap ((IntKind.u64.wrap (x0_2*6364136223846793005))+1442695040888963407)) 33) 16777215))+(IntKind.i64.wrap ad))) x1))],⟨f.get _ _ Z,trivial⟩,f.defers,_,[Itm.box b0 109 [v0_0,(.int .i64 (IntKind.i64.wrap (x0_1+1))),(.int .u64 (IntKind.u64.wrap ((IntKind.u64.wrap (x0_2*6364136223846793005))+1442695040888963407)))]],(gt ab ak),m,_,Z,Z,h0_0⟩
 ·refine Ai f Z ac ?_
  refine Am ?_
  refine Ac ?_
  refine Ab f Z fun a f=>Ab f Z fun a f=> ?_
  obtain⟨am,hd⟩:=Do hd
  refine Ah f Z Z (b_rem am) fun a f=>Ad f Z fun a f=>Aa ?_
  refine Aq ?_
  obtain rfl:=sj hd
  exact⟨[(.int .i64 (Int.tmod (IntKind.i64.wrap (iand .u64 (BJ .u64 (IntKind.u64.wrap ((IntKind.u64.wrap (x0_2*6364136223846793005))+1442695040888963407)) 33) 16777215)) x1))],⟨f.get _ _ Z,trivial⟩,f.defers,_,[Itm.box b0 109 [v0_0,(.int .i64 x0_1),(.int .u64 (IntKind.u64.wrap ((IntKind.u64.wrap (x0_2*6364136223846793005))+1442695040888963407)))]],ab,m,_,Z,Z,h0_0⟩
theorem Wk.e {W w:World}{G:GH}{H:List Itm}{x0:Int}{x1:Int}{x2:Int}(m:Mem W G w (H)){y:Bool}(hd:D.e x0 x1 x2=some y):
  Calls Tryz.prog 141 #[(.int .i64 x0),(.int .i64 x1),(.int .i64 x2)] w (Res W G H (fun _ Ho v=>Ho=[]∧v=(.bool y))):=by
 refine As (args:=[(.int .i64 x0),(.int .i64 x1),(.int .i64 x2)]) (N:=15) [.tmp 6] Tryz.func141 Z Z (Nat.le_of_ble_eq_true Z) Z fun a f=> ?_
 unfold D.e at hd
 refine Ac ?_
 refine Ad f Z fun a f=>Aa (Ac ?_)
 refine Ab f Z fun a f=>Ab f Z fun a f=>Ah f Z Z BM fun a f=>Ab f Z fun a f=> ?_
 refine Bz 4 (fun a w=>∃aa,GLe G aa∧Mem W aa w (H)∧Fr a 15 [(0,(.int .i64 x0)),(1,(.int .i64 x1)),(2,(.int .i64 x2)),(7,(.int .i64 x0)),(8,(.int .i64 x1)),(9,(.bool (decide (x1≤x0)))),(10,(.bool (decide (x1≤x0)))),(14,(.bool ((decide (x1≤x0))&&(decide (x0≤x2)))))]) ?_ ?_
 ·rcases Bool.eq_false_or_eq_true (decide (x1≤x0)) with ab|ab
  ·refine AB f ab ?_
   refine Ab f Z fun a f=>AB f ab ?_
   refine Ab f Z fun a f=>AB f ab ?_
   refine Ah f Z Z B7 fun a f=>l_o f (AO (f.eval Z) ab (f.eval Z)) fun a f=> ?_
   exact⟨_,gr,m,f.weak ⟨Z,Z,Z,Z,Z,Z,Z,by rw[ab];rfl,trivial⟩⟩
  ·refine AE f ab fun a f=> ?_
   refine AE f ab fun a f=>AE f ab fun a f=>l_o f (AP (f.eval Z) ab (f.eval Z)) fun a f=> ?_
   exact⟨_,gr,m,f.weak ⟨Z,Z,Z,Z,Z,Z,Z,by rw[ab];rfl,trivial⟩⟩
 ·rintro a w ⟨aa,ac,m,f⟩
  refine Ad f Z fun a f=>Aa ?_
  refine Aq ?_
  obtain rfl:=sj hd
  exact⟨[(.bool ((decide (x1≤x0))&&(decide (x0≤x2))))],⟨f.get _ _ Z,trivial⟩,f.defers,_,[],ac,m,Z,Z⟩
theorem Wk.D0 {W w:World}{G:GH}{H:List Itm}{x0:Int}(m:Mem W G w (H)){y:((List (List Int)))}(hd:D.D0 x0=some y):
  Calls Tryz.prog 142 #[(.int .i64 x0)] w (Res W G H (fun G' Ho v=>∃r0:Value,∃i0:Itm,Ho=[i0]∧v=(.agg #[r0])∧Ow (RSl (RI .i64)) 42 G' i0 r0 y)):=by
 refine As (args:=[(.int .i64 x0)]) (N:=18) [.cell 2 30] Tryz.func142 Z Z (Nat.le_of_ble_eq_true Z) Z fun a f=> ?_
 unfold D.D0 at hd
 refine Ac ?_
 refine Bx (cs:=[(.slice none 0 0)]) Tryz.zeroValue30 m f Z Z fun aa w a m f=>Aa (Ac ?_)
 have ab:∀w,(Instr.build 30 #[]).run Tryz.prog w= .ok (.agg #[(.slice none 0 0)]) w:=by intro w;simp[Instr.build,Instr.fill,CB,Cq,B8,Cg,BY,CD]
 refine C5 f Z Z ab fun a f=>Bx (cs:=[(.slice none 0 0)]) Tryz.zeroValue30 m f Z Z fun ac w a m f=>AS 0 0 (ds:=[(.slice none 0 0)]) m Tryz.sizeOf30 f Z Z Z (AN Z A3) Z (Nat.le_of_ble_eq_true Z) Z fun w m=>Aa (Af (Ac ?_))
 refine Ad f Z fun a f=>Aa ?_
 obtain⟨ad,m,ae⟩:=Ow.nil (RSl (RI .i64)) 42 m
 obtain⟨af,ag,hd⟩:=bind_some hd
 refine AC (fun a w=>∃ah:List (List Int),ah=af∧∃(ai:GH) (aj:Value) (ak:Itm),GLe G ai∧Fr a 18 [(2,(.pointer (some ⟨aa,0,none⟩))),(3,(.pointer (some ⟨ac,0,none⟩)))]∧Mem W ai w (Itm.box aa 30 [(.slice none 0 0)]::Itm.box ac 30 [aj]::ak::H)∧Ow (RSl (RI .i64)) 42 ai ak aj ah) ?_ ?_
 ·refine Aj ?_
  have m:=m.front 1 rfl
  have m:=m.front 2 rfl
  refine AA (fun al a w=>∃am:Int,∃an:List (List Int),(am,an)=al∧∃(ao:GH) (ap:Value) (aq:Itm),GLe G ao∧Fr a 18 [(0,(.int .i64 x0)),(2,(.pointer (some ⟨aa,0,none⟩))),(3,(.pointer (some ⟨ac,0,none⟩))),(4,(.int .i64 am))]∧Mem W ao w (Itm.box aa 30 [(.slice none 0 0)]::Itm.box ac 30 [ap]::aq::H)∧Ow (RSl (RI .i64)) 42 ao aq ap an) ag ⟨_,_,Z,_,(.slice none 0 0),ad,gr,f.k Z,m,ae⟩ ?_
  clear ag f m
  rintro al ar au av a w ⟨am,an,rfl,ao,ap,aq,aw,f,m,ax⟩
  refine Af (Ac ?_)
  refine Ab f Z fun a f=>Ab f Z fun a f=>Ah f Z Z AJ fun a f=>Aa ?_
  rcases Ae au with⟨ay,au⟩|⟨ay,au⟩
  ·refine Al f Z ay ?_
   refine Am ?_
   refine Af (Aj (Ak ?_))
   refine Bn Tryz.underlying30 Z Tryz.sizeOf22 f Z fun a f=>AF 1 0 m Ba f Z Z Z Z fun a f=>A8 (R:=(RI .i64)) (xs:=([]:List Int)) (RI.one _) m T42 f Z Z Z (by decide) (All2.nil _) fun az aA w a m aB f=> ?_
   obtain⟨aC,aD,m,aE⟩:=Ow.stamp (RI.mono _) aB m
   have ax:=Ow.mono (RSl.mono (RI.mono _)) aD ax
   refine A8 (R:=(RSl (RI .i64))) (xs:=([([]:List Int)]:List (List Int))) (RSl.one _) m T22 f Z Z Z (by decide) (All2.cons aE (All2.nil _)) fun aF aG w a m aH f=> ?_
   obtain⟨aI,aJ,au⟩:=bind_some au
   refine Bo (RSl.one _) 3 m ax Z T22 Z (by decide) f Z Z Z (Ow.src (j:=0) aH m Z) aJ fun aK aL w a m aM f=>Bn Tryz.underlying30 Z Tryz.sizeOf22 f Z fun a f=>AS 2 0 (ds:=[aL]) m Tryz.sizeOf22 f Z Z (Ow.cells 3 m aM Z) (AN (Ow.one1 3 m aM Z) A3) Z (Nat.le_of_ble_eq_true Z) Z fun w m=>Aa (Ak ?_)
   refine Ab f Z fun a f=>Ah f Z Z Ar fun a f=>Ad f Z fun a f=>Aa ?_
   have m:=m.front 3 rfl
   have m:=m.front 3 rfl
   have m:Mem W aC w (Itm.box aa 30 [(.slice none 0 0)]::Itm.box ac 30 [aL]::aK::aF::H):=m.front 3 rfl
   have m:=m.eraseAt 3
   obtain rfl:=sj au
   exact⟨_,Z,_,_,Z,_,aL,aK,(gt aw aD),f.k Z,m,aM⟩
  ·refine Ai f Z ay ?_
   refine Ax Z ?_
   obtain rfl:=sj au
   obtain rfl:=av _ rfl
   exact⟨_,Z,_,ap,aq,aw,f.k Z,m,ax⟩
 ·rintro a w ⟨ah,rfl,ai,aj,ak,aN,f,m,aO⟩
  refine Ac ?_
  refine A5 1 0 (ds:=[aj]) m Bq f Z Z Z Z Z fun a f=>AS 0 0 (ds:=[aj]) m Tryz.sizeOf30 f Z Z Z (AN (Ow.one1 2 m aO Z) A3) Z (Nat.le_of_ble_eq_true Z) Z fun w m=>Aa ?_
  refine Aq ?_
  have aP:=Cu (P:=Tryz.prog) 0 m Bq f (s:=2) rfl rfl rfl
  have m:=m.front 2 rfl
  have m:=m.eraseAt 2
  have m:=m.eraseAt 1
  obtain rfl:=sj hd
  exact⟨[(.agg #[aj])],⟨aP,trivial⟩,f.defers,_,[ak],aN,m,_,_,Z,Z,aO⟩
theorem Wk.q {W w:World}{G:GH}{H:List Itm}{v0:Value}{x0:(List Int)}{x1:Int}(m:Mem W G w (H))(h0:RSl (RI .i64) G v0 x0){y:Bool}(hd:D.q x0 x1=some y):
  Calls Tryz.prog 79 #[v0,(.int .i64 x1)] w (Res W G H (fun _ Ho v=>Ho=[]∧v=(.bool y))):=by
 refine As (args:=[v0,(.int .i64 x1)]) (N:=40) [.tmp 4] Tryz.func79 Z Z (Nat.le_of_ble_eq_true Z) Z fun a f=> ?_
 unfold D.q at hd
 refine Ac ?_
 refine Ad f Z fun a f=>Aa (Af (Ac ?_))
 refine Ab f Z fun a f=>AZ Tryz.underlying42 f Z Z h0 fun a f=>Ab f Z fun a f=>Ah f Z Z BV fun a f=>Aa ?_
 rcases Ae hd with⟨aa,hd⟩|⟨aa,hd⟩
 ·refine Al f Z aa ?_
  refine Ac ?_
  refine Ad f Z fun a f=>Aa ?_
  refine Aq ?_
  obtain rfl:=sj hd
  exact⟨[(.bool false)],⟨f.get _ _ Z,trivial⟩,f.defers,_,[],gr,m,Z,Z⟩
 ·refine Ai f Z aa ?_
  refine Am ?_
  refine Af (Ac ?_)
  refine Ad f Z fun a f=>Aa ?_
  obtain⟨ab,ac,hd⟩:=bind_some hd
  refine AC (fun a w=>∃q_150':Unit,ab= .inl q_150'∧∃(ad:GH),GLe G ad∧Fr a 40 []∧Mem W ad w (H)) ?_ ?_
  ·refine Aj ?_
   refine AA (fun ae a w=>∃af:Int,af=ae∧∃(ag:GH),GLe G ag∧Fr a 40 [(0,v0),(1,(.int .i64 x1)),(5,(.int .i64 af))]∧Mem W ag w (H)) ac ⟨_,Z,_,gr,f.k Z,m⟩ ?_
   clear ac f m
   rintro ae ah ai aj a w ⟨af,rfl,ag,ak,f,m⟩
   have h0:=rd1 ak h0
   refine Af (Ac ?_)
   refine Ab f Z fun a f=>Ab f Z fun a f=>AZ Tryz.underlying42 f Z Z h0 fun a f=>Ah f Z Z AJ fun a f=>Aa ?_
   rcases Ae ai with⟨al,ai⟩|⟨al,ai⟩
   ·refine Al f Z al ?_
    refine Am ?_
    refine Af (Aj (Af ?_))
    refine AT 24 Aw (by kernel_rfl) m ?_
    refine Ag 0 24 Z f Z fun a f=>Ag 1 24 Z f Z fun a f=> ?_
    obtain⟨am,an,ai⟩:=bind_some ai
    refine B2 2 24 T42 h0 an Z f Z Z fun ao ap a aq ar f=> ?_
    subst ar
    refine BZ 3 24 Pl2 aq Z f Z fun a f=>Ag 4 24 Z f Z fun a f=>q_p 5 24 Z f (fun _=>AD (f.eval Z) (f.eval Z) AH) fun a f=> ?_
    obtain⟨au,av,ai⟩:=bind_some ai
    refine Bh (i:=6) 24 Z (by kernel_rfl) Z f Z Z Z Tryz.call141 (fun _ _ w aw m=>Wk.e m av) fun a f=>q_p 7 24 Z f (fun _=>Bd (f.eval Z)) fun a f=>Ag 8 24 Z f Z fun a f=> ?_
    obtain⟨ax,ay,ai⟩:=bind_some ai
    refine BN (fuel':=0) (listed':= #[true,true,true,true,true,true,true,true,true,true,true,true,true,true,true,true,true,true,true,true,true,true,true,true]) (fun a=>Fr a 40 [(0,v0),(1,(.int .i64 x1)),(5,(.int .i64 af)),(13,(.bool (decide (af<(x0.length:Int))))),(16,v0),(17,(.int .i64 af)),(18,ao),(19,(.int .i64 am)),(20,(.int .i64 x1)),(21,(.int .i64 (IntKind.i64.wrap (x1-1)))),(22,(.bool au)),(23,(.bool (!au))),(24,(.bool (!au))),(39,(.bool ax))]) ?_ ?_
    ·intro a f
     refine AI fun az w aA m=> ?_
     have h0:=rd1 aA h0
     have aq:=At.mono aA aq
     refine Aa ?_
     rcases Ae ai with⟨aB,ai⟩|⟨aB,ai⟩
     ·refine Al f Z aB ?_
      refine Ac ?_
      refine Ad f Z fun a f=>Aa ?_
      refine Aq ?_
      obtain rfl:=sj ai
      obtain rfl:=aj _ rfl
      obtain rfl:=sj hd
      exact⟨[(.bool false)],⟨f.get _ _ Z,trivial⟩,f.defers,_,[],(gt ak aA),m,Z,Z⟩
     ·refine Ai f Z aB ?_
      refine Am ?_
      refine Ak ?_
      refine Ab f Z fun a f=>Ah f Z Z Ar fun a f=>Ad f Z fun a f=>Aa ?_
      obtain rfl:=sj ai
      exact⟨_,Z,_,Z,_,(gt ak aA),f.k Z,m⟩
    ·intro aC
     rcases Ae ay with⟨aD,ay⟩|⟨aD,ay⟩
     ·refine An 9 24 Z f aD fun a f=> ?_
      refine An 10 24 Z f aD fun a f=>An 11 24 Z f aD fun a f=>q_nu 12 24 Z f fun a f=>q_nu 13 24 Z f fun a f=>q_nu 14 24 Z f fun a f=>q_nu 15 24 Z f fun a f=>q_nu 16 24 Z f fun a f=>q_nu 17 24 Z f fun a f=>q_nu 18 24 Z f fun a f=>q_nu 19 24 Z f fun a f=>q_nu 20 24 Z f fun a f=>q_nu 21 24 Z f fun a f=>An 22 24 Z f aD fun a f=>q_p 23 24 Z f (fun _=>AO (f.eval Z) aD (f.eval Z)) fun a f=> ?_
      obtain rfl:=sj ay
      exact aC _ (f.k Z)
     ·refine Ag (hw:=wo f aD) 9 24 Z f Z fun a f=> ?_
      refine q_p (hw:=wo f aD) 10 24 Z f (fun _=>AD (f.eval Z) (f.eval Z) BV) fun a f=>Ag (hw:=wo f aD) 11 24 Z f Z fun a f=> ?_
      obtain⟨aE,aF,ay⟩:=bind_some ay
      refine BN (fuel':=1) (listed':= #[true,true,true,true,true,true,true,true,true,true,true,true,true,true,true,true,true,true,true,true,true,true,true,false]) (fun a=>Fr a 40 [(0,v0),(1,(.int .i64 x1)),(5,(.int .i64 af)),(13,(.bool (decide (af<(x0.length:Int))))),(16,v0),(17,(.int .i64 af)),(18,ao),(19,(.int .i64 am)),(20,(.int .i64 x1)),(21,(.int .i64 (IntKind.i64.wrap (x1-1)))),(22,(.bool au)),(23,(.bool (!au))),(24,(.bool (!au))),(25,(.int .i64 af)),(26,(.bool (decide ((0:Int)<af)))),(27,(.bool (decide ((0:Int)<af)))),(38,(.bool aE))]) ?_ ?_
      ·intro a f
       refine q_p 23 24 Z f (fun _=>AP (f.eval Z) aD (f.eval Z)) fun a f=> ?_
       obtain rfl:=sj ay
       exact aC _ (f.k Z)
      ·intro aG
       rcases Ae aF with⟨aH,aF⟩|⟨aH,aF⟩
       ·refine Ag (hw:=wo f aH) 12 24 Z f Z fun a f=> ?_
        refine Ag (hw:=wo f aH) 13 24 Z f Z fun a f=> ?_
        obtain⟨aI,aJ,aF⟩:=bind_some aF
        refine B2 (hw:=wo f aH) 14 24 T42 h0 aJ Z f Z Z fun aK aL a aM aN f=> ?_
        subst aN
        refine BZ (hw:=wo f aH) 15 24 Pl2 aM Z f Z fun a f=>Ag (hw:=wo f aH) 16 24 Z f Z fun a f=>Ag (hw:=wo f aH) 17 24 Z f Z fun a f=>q_p (hw:=wo f aH) 18 24 Z f (fun _=>AD (f.eval Z) (f.eval Z) AH) fun a f=> ?_
        obtain⟨aO,aP,aF⟩:=bind_some aF
        refine B2 (hw:=wo f aH) 19 24 T42 h0 aP Z f Z Z fun aQ aR a aS aT f=> ?_
        subst aT
        refine BZ (hw:=wo f aH) 20 24 Pl2 aS Z f Z fun a f=>q_p (hw:=wo f aH) 21 24 Z f (fun _=>AD (f.eval Z) (f.eval Z) B7) fun a f=>q_p (hw:=wo f aD) 22 24 Z f (fun _=>AO (f.eval Z) aH (f.eval Z)) fun a f=> ?_
        obtain rfl:=sj aF
        exact aG _ (f.k Z)
       ·refine An 12 24 Z f aH fun a f=> ?_
        refine An 13 24 Z f aH fun a f=>An 14 24 Z f aH fun a f=>An 15 24 Z f aH fun a f=>An 16 24 Z f aH fun a f=>An 17 24 Z f aH fun a f=>An 18 24 Z f aH fun a f=>An 19 24 Z f aH fun a f=>An 20 24 Z f aH fun a f=>An 21 24 Z f aH fun a f=>q_p (hw:=wo f aD) 22 24 Z f (fun _=>AP (f.eval Z) aH (f.eval Z)) fun a f=> ?_
        obtain rfl:=sj aF
        exact aG _ (f.k Z)
   ·refine Ai f Z al ?_
    refine Ax Z ?_
    obtain rfl:=sj ai
    obtain rfl:=aj _ rfl
    exact⟨_,Z,_,ak,f.weak trivial,m⟩
  ·rintro a w ⟨_,rfl,ad,aU,f,m⟩
   refine Ac ?_
   refine Ad f Z fun a f=>Aa ?_
   refine Aq ?_
   obtain rfl:=sj hd
   exact⟨[(.bool true)],⟨f.get _ _ Z,trivial⟩,f.defers,_,[],aU,m,Z,Z⟩
theorem Wk.g {W w:World}{G:GH}{H:List Itm}{v0:Value}{x0:(List Int)}(m:Mem W G w (H))(h0:RSl (RI .i64) G v0 x0){y:((List Int))}(hd:D.g x0=some y):
  Calls Tryz.prog 69 #[v0] w (Res W G H (fun G' Ho v=>∃r0:Value,∃i0:Itm,Ho=[i0]∧r0=v∧Ow (RI .i64) 2 G' i0 r0 y)):=by
 refine As (args:=[v0]) (N:=6) [.tmp 2] Tryz.func69 Z Z (Nat.le_of_ble_eq_true Z) Z fun a f=> ?_
 unfold D.g at hd
 refine Ac ?_
 refine Ad f Z fun a f=>Aa (Ac ?_)
 refine A8 (R:=(RI .i64)) (xs:=([]:List Int)) (RI.one _) m T42 f Z Z Z (by decide) (All2.nil _) fun aa ab w a m ac f=>Ab f Z fun a f=> ?_
 obtain⟨ad,ae,hd⟩:=bind_some hd
 refine Bo (RI.one _) 0 m ac Z T42 Z (by decide) f Z Z Z (h0.src m) ae fun af ag w a m ah f=>Ad f Z fun a f=>Aa ?_
 refine Aq ?_
 obtain rfl:=sj hd
 exact⟨[ag],⟨f.get _ _ Z,trivial⟩,f.defers,_,[af],gr,m,_,_,Z,Z,ah⟩
theorem Wk.t {W w:World}{G:GH}{H:List Itm}{v0:Value}{x0:(List Int)}{x1:Int}(m:Mem W G w (H))(h0:RSl (RI .i64) G v0 x0){y:((List Int))}(hd:D.t x0 x1=some y):
  Calls Tryz.prog 68 #[v0,(.int .i64 x1)] w (Res W G H (fun G' Ho v=>∃r0:Value,Ho=[]∧r0=v∧RSl (RI .i64) G' r0 y)):=by
 refine As (args:=[v0,(.int .i64 x1)]) (N:=46) [.tmp 4] Tryz.func68 Z Z (Nat.le_of_ble_eq_true Z) Z fun a f=> ?_
 unfold D.t at hd
 refine Ac ?_
 refine Ad f Z fun a f=>Aa (Ac ?_)
 refine Ad f Z fun a f=>Aa (Af ?_)
 obtain⟨aa,ab,hd⟩:=bind_some hd
 refine AC (fun a w=>∃ac:Int,ac=aa∧∃(ad:GH),GLe G ad∧Fr a 46 [(0,v0),(1,(.int .i64 x1)),(5,(.int .i64 ac))]∧Mem W ad w (H)) ?_ ?_
 ·refine Aj ?_
  refine AA (fun ae a w=>∃af:Int,af=ae∧∃(ag:GH),GLe G ag∧Fr a 46 [(0,v0),(1,(.int .i64 x1)),(5,(.int .i64 af))]∧Mem W ag w (H)) ab ⟨_,Z,_,gr,f.k Z,m⟩ ?_
  clear ab f m
  rintro ae ah ai aj a w ⟨af,rfl,ag,ak,f,m⟩
  have h0:=rd1 ak h0
  refine Af (Ac ?_)
  refine Ab f Z fun a f=>Ab f Z fun a f=>AZ Tryz.underlying42 f Z Z h0 fun a f=>Ah f Z Z AJ fun a f=>Ab f Z fun a f=> ?_
  obtain⟨al,am,ai⟩:=bind_some ai
  refine Bz 7 (fun a w=>∃an,GLe ag an∧Mem W an w (H)∧Fr a 46 [(0,v0),(1,(.int .i64 x1)),(5,(.int .i64 af)),(7,(.int .i64 af)),(8,v0),(9,(.int .i64 (x0.length:Int))),(10,(.bool (decide (af<(x0.length:Int))))),(11,(.bool (decide (af<(x0.length:Int))))),(18,(.bool al))]) ?_ ?_
  ·rcases Ae am with⟨ao,am⟩|⟨ao,am⟩
   ·refine AB f ao ?_
    refine Ab f Z fun a f=>AB f ao ?_
    refine Ab f Z fun a f=>AB f ao ?_
    obtain⟨ap,aq,am⟩:=bind_some am
    refine Bf T42 f Z Z Z h0 aq fun ar au a av aw f=> ?_
    subst aw
    refine AB f ao ?_
    refine AG m Pl2 f Z Z av fun a f=>AB f ao ?_
    refine Ab f Z fun a f=>AB f ao ?_
    refine Ah f Z Z AJ fun a f=>l_o f (AO (f.eval Z) ao (f.eval Z)) fun a f=> ?_
    obtain rfl:=sj am
    exact⟨_,gr,m,f.k Z⟩
   ·refine AE f ao fun a f=> ?_
    refine AE f ao fun a f=>AE f ao fun a f=>AE f ao fun a f=>AE f ao fun a f=>AE f ao fun a f=>l_o f (AP (f.eval Z) ao (f.eval Z)) fun a f=> ?_
    obtain rfl:=sj am
    exact⟨_,gr,m,f.k Z⟩
  ·rintro a w ⟨an,ax,m,f⟩
   have h0:=rd1 ax h0
   refine Aa ?_
   rcases Ae ai with⟨ay,ai⟩|⟨ay,ai⟩
   ·refine Al f Z ay ?_
    refine Am ?_
    refine Aj (Ak ?_)
    refine Ab f Z fun a f=>Ah f Z Z Ar fun a f=>Ad f Z fun a f=>Aa ?_
    obtain rfl:=sj ai
    exact⟨_,Z,_,Z,_,(gt ak ax),f.k Z,m⟩
   ·refine Ai f Z ay ?_
    refine Ax Z ?_
    obtain rfl:=sj ai
    obtain rfl:=aj _ rfl
    exact⟨_,Z,_,(gt ak ax),f.k Z,m⟩
 ·rintro a w ⟨ac,rfl,ad,az,f,m⟩
  have h0:=rd1 az h0
  refine Af (Ac ?_)
  refine Ab f Z fun a f=>Ab f Z fun a f=>AZ Tryz.underlying42 f Z Z h0 fun a f=>Ah f Z Z AJ fun a f=>Ab f Z fun a f=> ?_
  obtain⟨aA,aB,hd⟩:=bind_some hd
  refine Bz 7 (fun a w=>∃aC,GLe ad aC∧Mem W aC w (H)∧Fr a 46 [(0,v0),(1,(.int .i64 x1)),(5,(.int .i64 ac)),(21,(.int .i64 ac)),(22,v0),(23,(.int .i64 (x0.length:Int))),(24,(.bool (decide (ac<(x0.length:Int))))),(25,(.bool (decide (ac<(x0.length:Int))))),(32,(.bool aA))]) ?_ ?_
  ·rcases Ae aB with⟨aD,aB⟩|⟨aD,aB⟩
   ·refine AB f aD ?_
    refine Ab f Z fun a f=>AB f aD ?_
    refine Ab f Z fun a f=>AB f aD ?_
    obtain⟨aE,aF,aB⟩:=bind_some aB
    refine Bf T42 f Z Z Z h0 aF fun aG aH a aI aJ f=> ?_
    subst aJ
    refine AB f aD ?_
    refine AG m Pl2 f Z Z aI fun a f=>AB f aD ?_
    refine Ab f Z fun a f=>AB f aD ?_
    refine Ah f Z Z By fun a f=>l_o f (AO (f.eval Z) aD (f.eval Z)) fun a f=> ?_
    obtain rfl:=sj aB
    exact⟨_,gr,m,f.k Z⟩
   ·refine AE f aD fun a f=> ?_
    refine AE f aD fun a f=>AE f aD fun a f=>AE f aD fun a f=>AE f aD fun a f=>AE f aD fun a f=>l_o f (AP (f.eval Z) aD (f.eval Z)) fun a f=> ?_
    obtain rfl:=sj aB
    exact⟨_,gr,m,f.k Z⟩
  ·rintro a w ⟨aC,aK,m,f⟩
   have h0:=rd1 aK h0
   refine Aa ?_
   rcases Ae hd with⟨aL,hd⟩|⟨aL,hd⟩
   ·refine Al f Z aL ?_
    refine Ac ?_
    refine Ab f Z fun a f=>Ad f Z fun a f=>Aa ?_
    refine Aq ?_
    obtain rfl:=sj hd
    exact⟨[v0],⟨f.get _ _ Z,trivial⟩,f.defers,_,[],(gt az aK),m,_,Z,Z,h0⟩
   ·refine Ai f Z aL ?_
    refine Am ?_
    refine Ac ?_
    refine Ab f Z fun a f=>Ab f Z fun a f=> ?_
    obtain⟨aM,aN,hd⟩:=bind_some hd
    refine l_slice T42 f Z Z h0 (.inl ⟨Z,Z⟩) (.inr ⟨_,_,Z,Z⟩) aN fun aO a aP f=> ?_
    obtain⟨aQ,aR,hd⟩:=bind_some hd
    refine AK f Z Tryz.call69 (Wk.g m aP aR) fun aS aT aU w aV m aW a f=> ?_
    obtain⟨aX,aY,rfl,rfl,aZ⟩:=aW
    have h0:=rd1 aV h0
    have aP:=rd1 aV aP
    refine Ab f Z fun a f=>A8 (R:=(RI .i64)) (xs:=([x1]:List Int)) (RI.one _) m T42 f Z Z Z (by decide) (All2.cons Z (All2.nil _)) fun a0 a1 w a m a2 f=> ?_
    obtain⟨a3,a4,hd⟩:=bind_some hd
    refine Bo (RI.one _) 1 m aZ Z T42 Z (by decide) f Z Z Z (Ow.src (j:=0) a2 m Z) a4 fun a5 a6 w a m a7 f=>Ad f Z fun a f=>Aa (Ac ?_)
    refine Ab f Z fun a f=>Ab f Z fun a f=>Ab f Z fun a f=> ?_
    obtain⟨a8,a9,hd⟩:=bind_some hd
    refine l_slice T42 f Z Z h0 (.inr ⟨_,_,Z,Z⟩) (.inl ⟨Z,Z⟩) a9 fun ba a bb f=> ?_
    obtain⟨bc,bd,hd⟩:=bind_some hd
    refine Bo (RI.one _) 1 m a7 Z T42 Z (by decide) f Z Z Z (bb.src m) bd fun be bf w a m bg f=>Ad f Z fun a f=>Aa ?_
    refine Aq ?_
    have m:=m.front 1 rfl
    obtain⟨bh,bi,m,bj⟩:=Ow.stamp (RI.mono _) bg m
    have h0:=rd1 bi h0
    have a2:=od1 bi a2
    have m:Mem W bh w H:=Mem.drop (H':=[a0]) m
    obtain rfl:=sj hd
    exact⟨[bf],⟨f.get _ _ Z,trivial⟩,f.defers,_,[],(gt az (gt aK (gt aV bi))),m,_,Z,Z,bj⟩
theorem Wk.J {W w:World}{G:GH}{H:List Itm}{v0_0:Value}{it0_0:Itm}{x0_0:(List (List Int))}{x1:Int}{x2:Int}(m:Mem W G w (it0_0::H))(o0_0:Ow (RSl (RI .i64)) 42 G it0_0 v0_0 x0_0){y:((List (List Int)))}(hd:D.J x0_0 x1 x2=some y):
  Calls Tryz.prog 143 #[(.agg #[v0_0]),(.int .i64 x1),(.int .i64 x2)] w (Res W G H (fun G' Ho v=>∃i0:Itm,Ho=[i0]∧v=(.agg #[v0_0])∧Ow (RSl (RI .i64)) 42 G' i0 v0_0 y)):=by
 refine As (args:=[(.agg #[v0_0]),(.int .i64 x1),(.int .i64 x2)]) (N:=30) [.cell 6 30] Tryz.func143 Z Z (Nat.le_of_ble_eq_true Z) Z fun a f=> ?_
 unfold D.J at hd
 refine Ac ?_
 refine Bw (cs:=[v0_0]) m f Z Z Z fun aa w a m f=>Bx (cs:=[(.slice none 0 0)]) Tryz.zeroValue30 m f Z Z fun ab w a m f=>Aa (Af ?_)
 refine AT 11 Aw (by kernel_rfl) m ?_
 refine B3 0 11 Tryz.underlying30 Z Tryz.sizeOf22 Z f Z fun a f=>BO 1 11 1 Ba Z Z Z f Z fun a f=>Ag 2 11 Z f Z fun a f=>B3 3 11 Tryz.underlying30 Z Tryz.sizeOf22 Z f Z fun a f=>BO 4 11 1 Ba Z Z Z f Z fun a f=>Ag 5 11 Z f Z fun a f=> ?_
 obtain⟨ac,ad,hd⟩:=bind_some hd
 refine Az 6 11 2 m o0_0 T22 ad Z f Z Z fun ae a af f=>AL 7 11 2 o0_0 AY af ad Z f Z fun ag a ah f=>Ag 8 11 Z f Z fun a f=>BD (i:=9) Z (by kernel_rfl) Z fun ai w aj m ak ak=> ?_
 have ah:=rd1 aj ah
 have o0_0:=Ow.mono (RSl.mono (RI.mono _)) aj o0_0
 obtain⟨al,am,hd⟩:=bind_some hd
 refine AK f Z Tryz.call68 (Wk.t m ah am) fun an ao ap w aq m ar a f=> ?_
 obtain⟨au,rfl,rfl,av⟩:=ar
 have ah:=rd1 aq ah
 have o0_0:=Ow.mono (RSl.mono (RI.mono _)) aq o0_0
 refine Aa ?_
 refine ak ao [] _ _ aq m ?_
 obtain⟨aw,ax,hd⟩:=bind_some hd
 refine Az 10 11 2 m o0_0 T22 ax Z f Z Z fun ay a az f=>AI fun aA w aB m=> ?_
 have ah:=rd1 aB ah
 have av:=rd1 aB av
 have o0_0:=Ow.mono (RSl.mono (RI.mono _)) aB o0_0
 refine Au 2 m o0_0 Z Tryz.sizeOf42 f Z Z az ax av.cells av.one1 av fun aC w m aD=>Aa (Af ?_)
 refine AT 11 Aw (by kernel_rfl) m ?_
 refine B3 0 11 Tryz.underlying30 Z Tryz.sizeOf22 Z f Z fun a f=>BO 1 11 1 Ba Z Z Z f Z fun a f=>Ag 2 11 Z f Z fun a f=>B3 3 11 Tryz.underlying30 Z Tryz.sizeOf22 Z f Z fun a f=>BO 4 11 1 Ba Z Z Z f Z fun a f=>Ag 5 11 Z f Z fun a f=> ?_
 obtain⟨aE,aF,hd⟩:=bind_some hd
 refine Az 6 11 2 m aD T22 aF Z f Z Z fun aG a aH f=>AL 7 11 2 aD AY aH aF Z f Z fun aI a aJ f=>Ag 8 11 Z f Z fun a f=>BD (i:=9) Z (by kernel_rfl) Z fun aK w aL m aM aM=> ?_
 have aJ:=rd1 aL aJ
 have aD:=Ow.mono (RSl.mono (RI.mono _)) aL aD
 obtain⟨aN,aO,hd⟩:=bind_some hd
 refine AK f Z Tryz.call68 (Wk.t m aJ aO) fun aP aQ aR w aS m aT a f=> ?_
 obtain⟨aU,rfl,rfl,aV⟩:=aT
 have aJ:=rd1 aS aJ
 have aD:=Ow.mono (RSl.mono (RI.mono _)) aS aD
 refine Aa ?_
 refine aM aQ [] _ _ aS m ?_
 obtain⟨aW,aX,hd⟩:=bind_some hd
 refine Az 10 11 2 m aD T22 aX Z f Z Z fun aY a aZ f=>AI fun a0 w a1 m=> ?_
 have aJ:=rd1 a1 aJ
 have aV:=rd1 a1 aV
 have aD:=Ow.mono (RSl.mono (RI.mono _)) a1 aD
 refine Au 2 m aD Z Tryz.sizeOf42 f Z Z aZ aX aV.cells aV.one1 aV fun a2 w m a3=>Aa (Ac ?_)
 refine A5 1 0 (ds:=[v0_0]) m Bq f Z Z Z Z Z fun a f=>AS 0 0 (ds:=[v0_0]) m Tryz.sizeOf30 f Z Z Z (AN (Ow.one1 2 m a3 Z) A3) Z (Nat.le_of_ble_eq_true Z) Z fun w m=>Aa ?_
 refine Aq ?_
 have a4:=Cu (P:=Tryz.prog) 0 m Bq f (s:=6) rfl rfl rfl
 have m:=m.front 2 rfl
 have m:=m.eraseAt 2
 have m:=m.eraseAt 1
 obtain rfl:=sj hd
 exact⟨[(.agg #[v0_0])],⟨a4,trivial⟩,f.defers,_,[a2],(gt aj (gt aq (gt aB (gt aL (gt aS a1))))),m,_,Z,Z,a3⟩
theorem Wk.i0 {W w:World}{G:GH}{H:List Itm}{v1:Value}{x0:Int}{x1:(List (List Int))}(m:Mem W G w (H))(h1:RSl (RSl (RI .i64)) G v1 x1){y:((List (List Int)))×Bool}(hd:D.i0 x0 x1=some y):
  Calls Tryz.prog 92 #[(.int .i64 x0),v1] w (Res W G H (fun G' Ho v=>∃r0:Value,∃i0:Itm,Ho=[i0]∧v= .tuple #[(.agg #[r0]),(.bool y.2)]∧Ow (RSl (RI .i64)) 42 G' i0 r0 y.1)):=by
 refine As (args:=[(.int .i64 x0),v1]) (N:=56) [.cell 4 30,.tmp 5] Tryz.func92 Z Z (Nat.le_of_ble_eq_true Z) Z fun a f=> ?_
 unfold D.i0 at hd
 refine Ac ?_
 refine Bx (cs:=[(.slice none 0 0)]) Tryz.zeroValue30 m f Z Z fun aa w a m f=>Ad f Z fun a f=>Aa (Af (Ac ?_))
 refine Ab f Z fun a f=> ?_
 obtain⟨ab,ac,hd⟩:=bind_some hd
 refine Bi f Z Tryz.call141 (Wk.e m ac) fun ad w ae m a f=> ?_
 have h1:=rd2 ae h1
 refine l_o f (Bd (f.eval Z)) fun a f=>Ab f Z fun a f=> ?_
 refine Bz 4 (fun a w=>∃af,GLe ad af∧Mem W af w (Itm.box aa 30 [(.slice none 0 0)]::H)∧Fr a 56 [(0,(.int .i64 x0)),(1,v1),(4,(.pointer (some ⟨aa,0,none⟩))),(8,(.int .i64 x0)),(9,(.bool ab)),(10,(.bool (!ab))),(11,(.bool (!ab))),(15,(.bool ((!ab)||(decide ((120:Int)<(x1.length:Int))))))]) ?_ ?_
 ·rcases Bool.eq_false_or_eq_true (!ab) with ag|ag
  ·refine AE f ag fun a f=> ?_
   refine AE f ag fun a f=>AE f ag fun a f=>l_o f (AO (f.eval Z) ag (f.eval Z)) fun a f=> ?_
   exact⟨_,gr,m,f.weak ⟨Z,Z,Z,Z,Z,Z,Z,by rw[ag];rfl,trivial⟩⟩
  ·refine AB f ag ?_
   refine Ab f Z fun a f=>AB f ag ?_
   refine AZ Tryz.underlying22 f Z Z h1 fun a f=>AB f ag ?_
   refine Ah f Z Z BV fun a f=>l_o f (AP (f.eval Z) ag (f.eval Z)) fun a f=> ?_
   exact⟨_,gr,m,f.weak ⟨Z,Z,Z,Z,Z,Z,Z,by rw[ag];rfl,trivial⟩⟩
 ·rintro a w ⟨af,ah,m,f⟩
  have h1:=rd2 ah h1
  refine Aa ?_
  rcases Ae hd with⟨ai,hd⟩|⟨ai,hd⟩
  ·refine Al f Z ai ?_
   refine Ac ?_
   have aj:∀w,(Instr.build 30 #[]).run Tryz.prog w= .ok (.agg #[(.slice none 0 0)]) w:=by intro w;simp[Instr.build,Instr.fill,CB,Cq,B8,Cg,BY,CD]
   refine C5 f Z Z aj fun a f=>AS 0 0 (ds:=[(.slice none 0 0)]) m Tryz.sizeOf30 f Z Z Z (AN Z A3) Z (Nat.le_of_ble_eq_true Z) Z fun w m=>Ad f Z fun a f=>Aa ?_
   refine Aq ?_
   obtain⟨ak,m,al⟩:=Ow.nil (RSl (RI .i64)) 42 m
   have am:=Cu (P:=Tryz.prog) 1 m Bq f (s:=4) rfl rfl rfl
   have m:=m.eraseAt 1
   obtain rfl:=sj hd
   exact⟨[(.agg #[(.slice none 0 0)]),(.bool false)],⟨am,f.get _ _ Z,trivial⟩,f.defers,_,[ak],(gt ae ah),m,_,_,Z,Z,al⟩
  ·refine Ai f Z ai ?_
   refine Am ?_
   refine Ac ?_
   refine Ab f Z fun a f=> ?_
   obtain⟨an,ao,hd⟩:=bind_some hd
   refine AK f Z Tryz.call142 (Wk.D0 m ao) fun ap aq ar w au m av a f=> ?_
   obtain⟨aw,ax,rfl,rfl,ay⟩:=av
   have h1:=rd2 au h1
   refine Bx (cs:=[(.slice none 0 0)]) Tryz.zeroValue30 m f Z Z fun az w a m f=>AS 0 0 (ds:=[aw]) m Tryz.sizeOf30 f Z Z Z (AN (Ow.one1 1 m ay Z) A3) Z (Nat.le_of_ble_eq_true Z) Z fun w m=>Aa (Af (Ac ?_))
   refine Ad f Z fun a f=>Aa ?_
   obtain⟨aA,aB,hd⟩:=bind_some hd
   refine AC (fun a w=>∃q_213':(List (List Int)),aA= .inl q_213'∧∃aC:List (List Int),aC=q_213'∧∃(aD:GH) (aE:Itm),GLe aq aD∧Fr a 56 [(4,(.pointer (some ⟨aa,0,none⟩))),(6,(.pointer (some ⟨az,0,none⟩)))]∧Mem W aD w (Itm.box aa 30 [(.slice none 0 0)]::Itm.box az 30 [aw]::aE::H)∧Ow (RSl (RI .i64)) 42 aD aE aw aC) ?_ ?_
   ·refine Aj ?_
    have m:=m.front 2 rfl
    refine AA (fun aF a w=>∃aG:Int,∃aH:List (List Int),(aG,aH)=aF∧∃(aI:GH) (aJ:Itm),GLe aq aI∧Fr a 56 [(0,(.int .i64 x0)),(1,v1),(4,(.pointer (some ⟨aa,0,none⟩))),(6,(.pointer (some ⟨az,0,none⟩))),(7,(.int .i64 aG))]∧Mem W aI w (Itm.box aa 30 [(.slice none 0 0)]::Itm.box az 30 [aw]::aJ::H)∧Ow (RSl (RI .i64)) 42 aI aJ aw aH) aB ⟨_,_,Z,_,ax,gr,f.k Z,m,ay⟩ ?_
    clear aB f m
    rintro aF aK aL aM a w ⟨aG,aH,rfl,aI,aJ,aN,f,m,aO⟩
    have h1:=rd2 aN h1
    refine Af (Ac ?_)
    refine Ab f Z fun a f=>Ab f Z fun a f=>AZ Tryz.underlying22 f Z Z h1 fun a f=>Ah f Z Z AJ fun a f=>Aa ?_
    rcases Ae aL with⟨aP,aL⟩|⟨aP,aL⟩
    ·refine Al f Z aP ?_
     refine Am ?_
     refine Af (Aj (Af (Ac ?_)))
     refine Ab f Z fun a f=>Ab f Z fun a f=> ?_
     obtain⟨aQ,aR,aL⟩:=bind_some aL
     refine Bf T22 f Z Z Z h1 aR fun aS aT a aU aV f=>AG m AY f Z Z aU fun a f=>AZ Tryz.underlying42 f Z Z aV fun a f=>Ah f Z Z CI fun a f=>Ab f Z fun a f=> ?_
     obtain⟨aW,aX,aL⟩:=bind_some aL
     refine Bz 8 (fun a w=>∃aY,GLe aI aY∧Mem W aY w (Itm.box aa 30 [(.slice none 0 0)]::Itm.box az 30 [aw]::aJ::H)∧Fr a 56 [(0,(.int .i64 x0)),(1,v1),(4,(.pointer (some ⟨aa,0,none⟩))),(6,(.pointer (some ⟨az,0,none⟩))),(7,(.int .i64 aG)),(22,(.bool (decide (aG<(x1.length:Int))))),(25,v1),(26,(.int .i64 aG)),(27,aS),(28,aT),(29,(.int .i64 (aQ.length:Int))),(30,(.bool ((aQ.length:Int) !=2))),(31,(.bool ((aQ.length:Int) !=2))),(39,(.bool aW))]) ?_ ?_
     ·rcases Ae aX with⟨aZ,aX⟩|⟨aZ,aX⟩
      ·refine AE f aZ fun a f=> ?_
       refine AE f aZ fun a f=>AE f aZ fun a f=>AE f aZ fun a f=>AE f aZ fun a f=>AE f aZ fun a f=>AE f aZ fun a f=>l_o f (AO (f.eval Z) aZ (f.eval Z)) fun a f=> ?_
       obtain rfl:=sj aX
       exact⟨_,gr,m,f.k Z⟩
      ·refine AB f aZ ?_
       refine Ab f Z fun a f=>AB f aZ ?_
       refine Ab f Z fun a f=>AB f aZ ?_
       obtain⟨a0,a1,aX⟩:=bind_some aX
       refine Bf T22 f Z Z Z h1 a1 fun a2 a3 a a4 a5 f=>AB f aZ ?_
       refine AG m AY f Z Z a4 fun a f=>AB f aZ ?_
       refine Ab f Z fun a f=>AB f aZ ?_
       obtain⟨a6,a7,aX⟩:=bind_some aX
       refine Bi f Z Tryz.call79 (Wk.q m a5 a7) fun a8 w a9 m a f=> ?_
       have h1:=rd2 a9 h1
       have aU:=At.mono a9 aU
       have aV:=rd1 a9 aV
       have a4:=At.mono a9 a4
       have a5:=rd1 a9 a5
       have aO:=Ow.mono (RSl.mono (RI.mono _)) a9 aO
       refine AB f aZ ?_
       refine l_o f (Bd (f.eval Z)) fun a f=>l_o f (AP (f.eval Z) aZ (f.eval Z)) fun a f=> ?_
       obtain rfl:=sj aX
       exact⟨_,a9,m,f.k Z⟩
     ·rintro a w ⟨aY,ba,m,f⟩
      have h1:=rd2 ba h1
      have aU:=At.mono ba aU
      have aV:=rd1 ba aV
      have aO:=Ow.mono (RSl.mono (RI.mono _)) ba aO
      refine Aa ?_
      rcases Ae aL with⟨bb,aL⟩|⟨bb,aL⟩
      ·refine Al f Z bb ?_
       refine Ac ?_
       have bc:∀w,(Instr.build 30 #[]).run Tryz.prog w= .ok (.agg #[(.slice none 0 0)]) w:=by intro w;simp[Instr.build,Instr.fill,CB,Cq,B8,Cg,BY,CD]
       refine C5 f Z Z bc fun a f=>AS 0 0 (ds:=[(.slice none 0 0)]) m Tryz.sizeOf30 f Z Z Z (AN Z A3) Z (Nat.le_of_ble_eq_true Z) Z fun w m=>Ad f Z fun a f=>Aa ?_
       refine Aq ?_
       obtain⟨bd,m,be⟩:=Ow.nil (RSl (RI .i64)) 42 m
       have bf:=Cu (P:=Tryz.prog) 1 m Bq f (s:=4) rfl rfl rfl
       have m:=m.front 3 rfl
       have m:=m.front 1 rfl
       have m:Mem W aY w (bd::aJ::Itm.box aa 30 [(.slice none 0 0)]::H):=m.eraseAt 3
       have m:=m.eraseAt 2
       have m:=m.eraseAt 1
       obtain rfl:=sj aL
       obtain rfl:=aM _ rfl
       obtain rfl:=sj hd
       exact⟨[(.agg #[(.slice none 0 0)]),(.bool false)],⟨bf,f.get _ _ Z,trivial⟩,f.defers,_,[bd],(gt ae (gt ah (gt au (gt aN ba)))),m,_,_,Z,Z,be⟩
      ·refine Ai f Z bb ?_
       refine Am ?_
       refine AT 13 Aw (by kernel_rfl) m ?_
       refine Bt (i:=0) (ds:=[aw]) 13 1 Bq Z Z Z Z (by kernel_rfl) Z f Z Z Z fun a f=>Ag 1 13 Z f Z fun a f=>Ag 2 13 Z f Z fun a f=> ?_
       obtain⟨bg,bh,aL⟩:=bind_some aL
       refine B2 3 13 T22 h1 bh Z f Z Z fun bi bj a bk bl f=>BZ 4 13 AY bk Z f Z fun a f=> ?_
       obtain⟨bm,bn,aL⟩:=bind_some aL
       refine B2 5 13 T42 bl bn Z f Z Z fun bo bp a bq br f=> ?_
       subst br
       refine BZ 6 13 Pl2 bq Z f Z fun a f=>Ag 7 13 Z f Z fun a f=>Ag 8 13 Z f Z fun a f=> ?_
       obtain⟨bs,bt,aL⟩:=bind_some aL
       refine B2 9 13 T22 h1 bt Z f Z Z fun bu bv a bw bx f=>BZ 10 13 AY bw Z f Z fun a f=> ?_
       obtain⟨bz,bA,aL⟩:=bind_some aL
       refine B2 11 13 T42 bx bA Z f Z Z fun bB bC a bD bE f=> ?_
       subst bE
       refine BZ 12 13 Pl2 bD Z f Z fun a f=>AI fun bF w bG m=> ?_
       have h1:=rd2 bG h1
       have bk:=At.mono bG bk
       have bl:=rd1 bG bl
       have bq:=At.mono bG bq
       have bw:=At.mono bG bw
       have bx:=rd1 bG bx
       have bD:=At.mono bG bD
       have aO:=Ow.mono (RSl.mono (RI.mono _)) bG aO
       have m:Mem W bF w (aJ::Itm.box aa 30 [(.slice none 0 0)]::Itm.box az 30 [aw]::H):=m.front 2 rfl
       obtain⟨bH,bI,aL⟩:=bind_some aL
       refine AK f Z Tryz.call143 (Wk.J m aO bI) fun bJ bK bL w bM m bN a f=> ?_
       obtain⟨bO,rfl,rfl,bP⟩:=bN
       have h1:=rd2 bM h1
       have bk:=At.mono bM bk
       have bl:=rd1 bM bl
       have bq:=At.mono bM bq
       have bw:=At.mono bM bw
       have bx:=rd1 bM bx
       have bD:=At.mono bM bD
       refine AS 2 0 (ds:=[aw]) m Tryz.sizeOf30 f Z Z Z (AN (Ow.one1 0 m bP Z) A3) Z (Nat.le_of_ble_eq_true Z) Z fun w m=>Aa (Ak ?_)
       refine Ab f Z fun a f=>Ah f Z Z Ar fun a f=>Ad f Z fun a f=>Aa ?_
       have m:=m.front 2 rfl
       have m:Mem W bK w (Itm.box aa 30 [(.slice none 0 0)]::Itm.box az 30 [aw]::bO::H):=m.front 2 rfl
       obtain rfl:=sj aL
       exact⟨_,Z,_,_,Z,_,bO,(gt aN (gt ba (gt bG bM))),f.k Z,m,bP⟩
    ·refine Ai f Z aP ?_
     refine Ax Z ?_
     obtain rfl:=sj aL
     obtain rfl:=aM _ rfl
     exact⟨_,Z,_,Z,_,aJ,aN,f.k Z,m,aO⟩
   ·rintro a w ⟨_,rfl,aC,rfl,aD,aE,bQ,f,m,bR⟩
    refine Ac ?_
    refine A5 1 0 (ds:=[aw]) m Bq f Z Z Z Z Z fun a f=>AS 0 0 (ds:=[aw]) m Tryz.sizeOf30 f Z Z Z (AN (Ow.one1 2 m bR Z) A3) Z (Nat.le_of_ble_eq_true Z) Z fun w m=>Ad f Z fun a f=>Aa ?_
    refine Aq ?_
    have bS:=Cu (P:=Tryz.prog) 0 m Bq f (s:=4) rfl rfl rfl
    have m:=m.front 2 rfl
    have m:=m.eraseAt 2
    have m:=m.eraseAt 1
    obtain rfl:=sj hd
    exact⟨[(.agg #[aw]),(.bool true)],⟨bS,f.get _ _ Z,trivial⟩,f.defers,_,[aE],(gt ae (gt ah (gt au bQ))),m,_,_,Z,Z,bR⟩
theorem Wk.O0 {W w:World}{G:GH}{H:List Itm}{v0_0:Value}{b0:Nat}{x0_0:(List Int)}{x0_1:Int}{x0_2:Int}{x1:Int}(m:Mem W G w (Itm.box b0 109 [v0_0,(.int .i64 x0_1),(.int .u64 x0_2)]::H))(h0_0:RSl (RI .u8) G v0_0 x0_0){y:((List (List Int)))×((List Int))×Int×Int}(hd:D.O0 x0_0 x0_1 x0_2 x1=some y):
  Calls Tryz.prog 35 #[(.pointer (some ⟨b0,0,none⟩)),(.int .i64 x1)] w (Res W G H (fun G' Ho v=>∃r0:Value,∃i0:Itm,∃r2:Value,Ho=[i0,Itm.box b0 109 [r2,(.int .i64 y.2.2.1),(.int .u64 y.2.2.2)]]∧v=(.agg #[r0])∧Ow (RSl (RI .i64)) 42 G' i0 r0 y.1∧RSl (RI .u8) G' r2 y.2.1)):=by
 refine As (args:=[(.pointer (some ⟨b0,0,none⟩)),(.int .i64 x1)]) (N:=47) [.cell 4 30] Tryz.func35 Z Z (Nat.le_of_ble_eq_true Z) Z fun a f=> ?_
 unfold D.O0 at hd
 refine Ac ?_
 refine Bx (cs:=[(.slice none 0 0)]) Tryz.zeroValue30 m f Z Z fun aa w a m f=>Aa (Ac ?_)
 refine Ab f Z fun a f=>Ab f Z fun a f=> ?_
 have m:Mem W G w (Itm.box b0 109 [v0_0,(.int .i64 x0_1),(.int .u64 x0_2)]::Itm.box aa 30 [(.slice none 0 0)]::H):=m.front 1 rfl
 obtain⟨ab,ac,hd⟩:=bind_some hd
 refine AK f Z Tryz.call91 (Wk.k m h0_0 ac) fun ad ae af w ag m ah a f=> ?_
 obtain⟨ai,rfl,rfl,aj⟩:=ah
 refine Ah f Z Z Ar fun a f=>Ad f Z fun a f=>Aa (Ac ?_)
 refine Ab f Z fun a f=> ?_
 obtain⟨ak,al,hd⟩:=bind_some hd
 refine AK f Z Tryz.call91 (Wk.k m aj al) fun am an ao w ap m aq a f=> ?_
 obtain⟨ar,rfl,rfl,au⟩:=aq
 refine Ah f Z Z Ar fun a f=>Ad f Z fun a f=>Aa (Ac ?_)
 refine A8 (R:=(RSl (RI .i64))) (xs:=([]:List (List Int))) (RSl.one _) m T22 f Z Z Z (by decide) (All2.nil _) fun av aw w a m ax f=>Ad f Z fun a f=>Aa (Af (Ac ?_))
 refine Ad f Z fun a f=>Aa ?_
 obtain⟨ay,az,hd⟩:=bind_some hd
 refine AC (fun a w=>∃aA:List (List Int),∃aB:List Int,∃aC:Int,∃aD:Int,(aA,aB,aC,aD)=ay∧∃(aE:GH) (aF:Value) (aG:Itm) (aH:Value),GLe an aE∧Fr a 47 [(4,(.pointer (some ⟨aa,0,none⟩))),(5,(.int .i64 (IntKind.i64.wrap (1+ab.1)))),(7,aF)]∧Mem W aE w (Itm.box aa 30 [(.slice none 0 0)]::Itm.box b0 109 [aH,(.int .i64 aC),(.int .u64 aD)]::aG::H)∧Ow (RSl (RI .i64)) 42 aE aG aF aA∧RSl (RI .u8) aE aH aB) ?_ ?_
 ·refine Aj ?_
  have m:=m.front 2 rfl
  have m:Mem W an w (Itm.box b0 109 [ar,(.int .i64 ak.2.2.1),(.int .u64 ak.2.2.2)]::Itm.box aa 30 [(.slice none 0 0)]::av::H):=m.front 2 rfl
  refine AA (fun aI a w=>∃aJ:List (List Int),∃aK:Int,∃aL:List Int,∃aM:Int,∃aN:Int,(aJ,aK,aL,aM,aN)=aI∧∃(aO:GH) (aP:Value) (aQ:Itm) (aR:Value),GLe an aO∧Fr a 47 [(0,(.pointer (some ⟨b0,0,none⟩))),(4,(.pointer (some ⟨aa,0,none⟩))),(5,(.int .i64 (IntKind.i64.wrap (1+ab.1)))),(6,(.int .i64 (IntKind.i64.wrap (1+ak.1)))),(7,aP),(8,(.int .i64 aK))]∧Mem W aO w (Itm.box b0 109 [aR,(.int .i64 aM),(.int .u64 aN)]::Itm.box aa 30 [(.slice none 0 0)]::aQ::H)∧Ow (RSl (RI .i64)) 42 aO aQ aP aJ∧RSl (RI .u8) aO aR aL) az ⟨_,_,_,_,_,Z,_,aw,av,ar,gr,f.k Z,m,ax,au⟩ ?_
  clear az f m
  rintro aI aS aT aU a w ⟨aJ,aK,aL,aM,aN,rfl,aO,aP,aQ,aR,aV,f,m,aW,aX⟩
  refine Af (Ac ?_)
  refine Ab f Z fun a f=>Ab f Z fun a f=>Ah f Z Z AJ fun a f=>Aa ?_
  rcases Ae aT with⟨aY,aT⟩|⟨aY,aT⟩
  ·refine Al f Z aY ?_
   refine Am ?_
   refine Af (Aj (Ac ?_))
   refine Ad f Z fun a f=>Aa ?_
   obtain⟨aZ,a0,aT⟩:=bind_some aT
   refine AC (fun a w=>∃a1:List (List Int),∃a2:List Int,∃a3:Int,∃a4:Int,(a1,a2,a3,a4)=aZ∧∃(a5:GH) (a6:Value) (a7:Itm) (a8:Value),GLe aO a5∧Fr a 47 [(0,(.pointer (some ⟨b0,0,none⟩))),(4,(.pointer (some ⟨aa,0,none⟩))),(5,(.int .i64 (IntKind.i64.wrap (1+ab.1)))),(6,(.int .i64 (IntKind.i64.wrap (1+ak.1)))),(7,a6),(8,(.int .i64 aK))]∧Mem W a5 w (Itm.box b0 109 [a8,(.int .i64 a3),(.int .u64 a4)]::Itm.box aa 30 [(.slice none 0 0)]::a7::H)∧Ow (RSl (RI .i64)) 42 a5 a7 a6 a1∧RSl (RI .u8) a5 a8 a2) ?_ ?_
   ·refine Aj ?_
    refine AA (fun a9 a w=>∃ba:List (List Int),∃bb:Int,∃bc:List Int,∃bd:Int,∃be:Int,(ba,bb,bc,bd,be)=a9∧∃(bf:GH) (bg:Value) (bh:Itm) (bi:Value),GLe aO bf∧Fr a 47 [(0,(.pointer (some ⟨b0,0,none⟩))),(4,(.pointer (some ⟨aa,0,none⟩))),(5,(.int .i64 (IntKind.i64.wrap (1+ab.1)))),(6,(.int .i64 (IntKind.i64.wrap (1+ak.1)))),(7,bg),(8,(.int .i64 aK)),(9,(.int .i64 bb))]∧Mem W bf w (Itm.box b0 109 [bi,(.int .i64 bd),(.int .u64 be)]::Itm.box aa 30 [(.slice none 0 0)]::bh::H)∧Ow (RSl (RI .i64)) 42 bf bh bg ba∧RSl (RI .u8) bf bi bc) a0 ⟨_,_,_,_,_,Z,_,aP,aQ,aR,gr,f.k Z,m,aW,aX⟩ ?_
    clear a0 f m
    rintro a9 bj bk bl a w ⟨ba,bb,bc,bd,be,rfl,bf,bg,bh,bi,bm,f,m,bn,bo⟩
    refine Af (Ac ?_)
    refine Ab f Z fun a f=>Ab f Z fun a f=>Ah f Z Z AJ fun a f=>Aa ?_
    rcases Ae bk with⟨bp,bk⟩|⟨bp,bk⟩
    ·refine Al f Z bp ?_
     refine Am ?_
     refine Af (Aj (Ac ?_))
     refine Ab f Z fun a f=> ?_
     obtain⟨bq,br,bk⟩:=bind_some bk
     refine AK f Z Tryz.call91 (Wk.k m bo br) fun bs bt bu w bv m bw a f=> ?_
     obtain⟨bx,rfl,rfl,bz⟩:=bw
     have bn:=Ow.mono (RSl.mono (RI.mono _)) bv bn
     refine Ab f Z fun a f=>Ah f Z Z AJ fun a f=>Aa ?_
     rcases Ae bk with⟨bA,bk⟩|⟨bA,bk⟩
     ·refine Al f Z bA ?_
      refine Ak ?_
      refine Ab f Z fun a f=>Ab f Z fun a f=>Ab f Z fun a f=>A8 (R:=(RI .i64)) (xs:=([bb,aK]:List Int)) (RI.one _) m T42 f Z Z Z (by decide) (All2.cons Z (All2.cons Z (All2.nil _))) fun bB bC w a m bD f=> ?_
      obtain⟨bE,bF,m,bG⟩:=Ow.stamp (RI.mono _) bD m
      have bz:=rd1 bF bz
      have bn:=Ow.mono (RSl.mono (RI.mono _)) bF bn
      refine A8 (R:=(RSl (RI .i64))) (xs:=([([bb,aK]:List Int)]:List (List Int))) (RSl.one _) m T22 f Z Z Z (by decide) (All2.cons bG (All2.nil _)) fun bH bI w a m bJ f=> ?_
      obtain⟨bK,bL,bk⟩:=bind_some bk
      refine Bo (RSl.one _) 3 m bn Z T22 Z (by decide) f Z Z Z (Ow.src (j:=0) bJ m Z) bL fun bM bN w a m bO f=>Ad f Z fun a f=>Aa (Ak ?_)
      refine Ab f Z fun a f=>Ah f Z Z Ar fun a f=>Ad f Z fun a f=>Aa ?_
      have m:=m.front 3 rfl
      have m:=m.front 3 rfl
      have m:Mem W bE w (Itm.box b0 109 [bx,(.int .i64 bq.2.2.1),(.int .u64 bq.2.2.2)]::Itm.box aa 30 [(.slice none 0 0)]::bM::bH::H):=m.front 3 rfl
      have m:Mem W bE w (Itm.box b0 109 [bx,(.int .i64 bq.2.2.1),(.int .u64 bq.2.2.2)]::Itm.box aa 30 [(.slice none 0 0)]::bM::H):=m.eraseAt 3
      obtain rfl:=sj bk
      exact⟨_,Z,_,_,_,_,_,Z,_,bN,bM,bx,(gt bm (gt bv bF)),f.k Z,m,bO,bz⟩
     ·refine Ai f Z bA ?_
      refine Am ?_
      refine Ak ?_
      refine Ab f Z fun a f=>Ah f Z Z Ar fun a f=>Ad f Z fun a f=>Aa ?_
      obtain rfl:=sj bk
      exact⟨_,Z,_,_,_,_,_,Z,_,bg,bh,bx,(gt bm bv),f.k Z,m,bn,bz⟩
    ·refine Ai f Z bp ?_
     refine Ax Z ?_
     obtain rfl:=sj bk
     obtain rfl:=bl _ rfl
     exact⟨_,_,_,_,Z,_,bg,bh,bi,bm,f.k Z,m,bn,bo⟩
   ·rintro a w ⟨a1,a2,a3,a4,rfl,a5,a6,a7,a8,bP,f,m,bQ,bR⟩
    refine Ak ?_
    refine Ab f Z fun a f=>Ah f Z Z Ar fun a f=>Ad f Z fun a f=>Aa ?_
    obtain rfl:=sj aT
    exact⟨_,Z,_,_,_,_,_,Z,_,a6,a7,a8,(gt aV bP),f.k Z,m,bQ,bR⟩
  ·refine Ai f Z aY ?_
   refine Ax Z ?_
   have m:Mem W aO w (Itm.box aa 30 [(.slice none 0 0)]::Itm.box b0 109 [aR,(.int .i64 aM),(.int .u64 aN)]::aQ::H):=m.front 1 rfl
   obtain rfl:=sj aT
   obtain rfl:=aU _ rfl
   exact⟨_,_,_,_,Z,_,aP,aQ,aR,aV,f.k Z,m,aW,aX⟩
 ·rintro a w ⟨aA,aB,aC,aD,rfl,aE,aF,aG,aH,bS,f,m,bT,bU⟩
  refine Ac ?_
  refine Ab f Z fun a f=>Ab f Z fun a f=> ?_
  have m:Mem W aE w (aG::Itm.box aa 30 [(.slice none 0 0)]::Itm.box b0 109 [aH,(.int .i64 aC),(.int .u64 aD)]::H):=m.front 2 rfl
  obtain⟨bV,bW,m,bX⟩:=Ow.stamp (RSl.mono (RI.mono _)) bT m
  have bU:=rd1 bW bU
  obtain⟨bY,bZ,hd⟩:=bind_some hd
  refine AK f Z Tryz.call92 (Wk.i0 m bX bZ) fun b1 b2 b3 w b4 m b5 a f=> ?_
  obtain⟨b6,b7,rfl,rfl,b8⟩:=b5
  have bX:=rd2 b4 bX
  have bU:=rd1 b4 bU
  refine Ab f Z fun a f=>l_o f (Bb (f.eval Z) Z) fun a f=>l_o f (Bb (f.eval Z) Z) fun a f=>Bx (cs:=[(.slice none 0 0)]) Tryz.zeroValue30 m f Z Z fun b9 w a m f=>AS 0 0 (ds:=[b6]) m Tryz.sizeOf30 f Z Z Z (AN (Ow.one1 1 m b8 Z) A3) Z (Nat.le_of_ble_eq_true Z) Z fun w m=>Ad f Z fun a f=>Aa (Ac ?_)
  refine A5 0 0 (ds:=[b6]) m Bq f Z Z Z Z Z fun a f=>AS 2 0 (ds:=[b6]) m Tryz.sizeOf30 f Z Z Z (AN (Ow.one1 1 m b8 Z) A3) Z (Nat.le_of_ble_eq_true Z) Z fun w m=>Aa ?_
  refine Aq ?_
  have ca:=Cu (P:=Tryz.prog) 2 m Bq f (s:=4) rfl rfl rfl
  have m:=m.front 3 rfl
  have m:=m.front 2 rfl
  have m:Mem W b2 w (b7::Itm.box b0 109 [aH,(.int .i64 aC),(.int .u64 aD)]::Itm.box b9 30 [b6]::H):=m.eraseAt 3
  have m:=m.eraseAt 2
  obtain rfl:=sj hd
  exact⟨[(.agg #[b6])],⟨ca,trivial⟩,f.defers,_,[b7,Itm.box b0 109 [aH,(.int .i64 aC),(.int .u64 aD)]],(gt ag (gt ap (gt bS (gt bW b4)))),m,_,_,_,Z,Z,b8,bU⟩
theorem Wk.y0 {W w:World}{G:GH}{H:List Itm}{v0_0:Value}{b0:Nat}{x0_0:(List Int)}{x0_1:Int}{x0_2:Int}{x1:Int}(m:Mem W G w (Itm.box b0 109 [v0_0,(.int .i64 x0_1),(.int .u64 x0_2)]::H))(h0_0:RSl (RI .u8) G v0_0 x0_0){y:((List Int))×((List Int))×Int×Int}(hd:D.y0 x0_0 x0_1 x0_2 x1=some y):
  Calls Tryz.prog 36 #[(.pointer (some ⟨b0,0,none⟩)),(.int .i64 x1)] w (Res W G H (fun G' Ho v=>∃r0:Value,∃i0:Itm,∃r2:Value,Ho=[i0,Itm.box b0 109 [r2,(.int .i64 y.2.2.1),(.int .u64 y.2.2.2)]]∧r0=v∧Ow (RI .i64) 2 G' i0 r0 y.1∧RSl (RI .u8) G' r2 y.2.1)):=by
 refine As (args:=[(.pointer (some ⟨b0,0,none⟩)),(.int .i64 x1)]) (N:=44) [.tmp 4] Tryz.func36 Z Z (Nat.le_of_ble_eq_true Z) Z fun a f=> ?_
 unfold D.y0 at hd
 refine Ac ?_
 refine Ad f Z fun a f=>Aa (Ac ?_)
 refine A8 (R:=(RI .i64)) (xs:=([]:List Int)) (RI.one _) m T42 f Z Z Z (by decide) (All2.nil _) fun aa ab w a m ac f=>Ad f Z fun a f=>Aa (Af (Ac ?_))
 refine Ad f Z fun a f=>Aa ?_
 obtain⟨ad,ae,hd⟩:=bind_some hd
 refine AC (fun a w=>∃af:List Int,∃ag:List Int,∃ah:Int,∃ai:Int,(af,ag,ah,ai)=ad∧∃(aj:GH) (ak:Value) (al:Itm) (am:Value),GLe G aj∧Fr a 44 [(5,ak)]∧Mem W aj w (Itm.box b0 109 [am,(.int .i64 ah),(.int .u64 ai)]::al::H)∧Ow (RI .i64) 2 aj al ak af∧RSl (RI .u8) aj am ag) ?_ ?_
 ·refine Aj ?_
  have m:=m.front 1 rfl
  refine AA (fun an a w=>∃ao:List Int,∃ap:Int,∃aq:List Int,∃ar:Int,∃au:Int,(ao,ap,aq,ar,au)=an∧∃(av:GH) (aw:Value) (ax:Itm) (ay:Value),GLe G av∧Fr a 44 [(0,(.pointer (some ⟨b0,0,none⟩))),(1,(.int .i64 x1)),(5,aw),(6,(.int .i64 ap))]∧Mem W av w (Itm.box b0 109 [ay,(.int .i64 ar),(.int .u64 au)]::ax::H)∧Ow (RI .i64) 2 av ax aw ao∧RSl (RI .u8) av ay aq) ae ⟨_,_,_,_,_,Z,_,ab,aa,v0_0,gr,f.k Z,m,ac,h0_0⟩ ?_
  clear ae f m
  rintro an az aA aB a w ⟨ao,ap,aq,ar,au,rfl,av,aw,ax,ay,aC,f,m,aD,aE⟩
  refine Af (Ac ?_)
  refine Ab f Z fun a f=>Ab f Z fun a f=>Ah f Z Z AJ fun a f=>Aa ?_
  rcases Ae aA with⟨aF,aA⟩|⟨aF,aA⟩
  ·refine Al f Z aF ?_
   refine Am ?_
   refine Af (Aj (Ac ?_))
   refine Ab f Z fun a f=>Ab f Z fun a f=>BB 1 m aD Z Tryz.underlying42 f Z Z fun a f=>Ah f Z Z Ar fun a f=> ?_
   obtain⟨aG,aH,aA⟩:=bind_some aA
   refine AK f Z Tryz.call91 (Wk.k m aE aH) fun aI aJ aK w aL m aM a f=> ?_
   obtain⟨aN,rfl,rfl,aO⟩:=aM
   have aD:=od1 aL aD
   refine Ad f Z fun a f=>Aa (Ac ?_)
   refine Ab f Z fun a f=>A8 (R:=(RI .i64)) (xs:=([0]:List Int)) (RI.one _) m T42 f Z Z Z (by decide) (All2.cons Z (All2.nil _)) fun aP aQ w a m aR f=> ?_
   obtain⟨aS,aT,aA⟩:=bind_some aA
   refine Bo (RI.one _) 2 m aD Z T42 Z (by decide) f Z Z Z (Ow.src (j:=0) aR m Z) aT fun aU aV w a m aW f=>Ad f Z fun a f=>Aa (Af (Ac ?_))
   refine Ab f Z fun a f=>BB 2 m aW Z Tryz.underlying42 f Z Z fun a f=>Ah f Z Z AH fun a f=>Ad f Z fun a f=>Aa ?_
   obtain⟨aX,aY,aA⟩:=bind_some aA
   refine AC (fun a w=>∃aZ:List Int,aZ=aX∧∃(a0:GH) (a1:Itm),GLe aJ a0∧Fr a 44 [(0,(.pointer (some ⟨b0,0,none⟩))),(1,(.int .i64 x1)),(5,aV),(6,(.int .i64 ap)),(7,(.int .i64 aG.1))]∧Mem W a0 w (Itm.box b0 109 [aN,(.int .i64 aG.2.2.1),(.int .u64 aG.2.2.2)]::a1::H)∧Ow (RI .i64) 2 a0 a1 aV aZ) ?_ ?_
   ·refine Aj ?_
    have m:=m.front 2 rfl
    have m:=m.front 2 rfl
    have m:Mem W aJ w (Itm.box b0 109 [aN,(.int .i64 aG.2.2.1),(.int .u64 aG.2.2.2)]::aU::H):=m.eraseAt 2
    refine AA (fun a2 a w=>∃a3:List Int,∃a4:Int,(a3,a4)=a2∧∃(a5:GH) (a6:Itm),GLe aJ a5∧Fr a 44 [(0,(.pointer (some ⟨b0,0,none⟩))),(1,(.int .i64 x1)),(5,aV),(6,(.int .i64 ap)),(7,(.int .i64 aG.1)),(8,(.int .i64 a4))]∧Mem W a5 w (Itm.box b0 109 [aN,(.int .i64 aG.2.2.1),(.int .u64 aG.2.2.2)]::a6::H)∧Ow (RI .i64) 2 a5 a6 aV a3) aY ⟨_,_,Z,_,aU,gr,f.k Z,m,aW⟩ ?_
    clear aY f m
    rintro a2 a7 a8 a9 a w ⟨a3,a4,rfl,a5,a6,ba,f,m,bb⟩
    have aO:=rd1 ba aO
    refine Af (Ac ?_)
    refine Ab f Z fun a f=>Ab f Z fun a f=>Ah f Z Z BV fun a f=>Aa ?_
    rcases Ae a8 with⟨bc,a8⟩|⟨bc,a8⟩
    ·refine Al f Z bc ?_
     refine Am ?_
     refine Af (Aj (Ak ?_))
     refine Ab f Z fun a f=>Ab f Z fun a f=>Ab f Z fun a f=>Ab f Z fun a f=>Ah f Z Z AH fun a f=> ?_
     obtain⟨bd,be,a8⟩:=bind_some a8
     refine AW 1 m bb Z T42 f Z Z Z be fun bf a bg f=>BL 1 m bb Z Pl2 f Z Z bg be fun bh a bi f=> ?_
     subst bi
     obtain⟨bj,bk,a8⟩:=bind_some a8
     refine AW 1 m bb Z T42 f Z Z Z bk fun bl a bm f=>Au 1 m bb Z Tryz.sizeOf2 f Z Z bm bk Z Z Z fun bn w m bo=>Aa (Ak ?_)
     refine Ab f Z fun a f=>Ah f Z Z AH fun a f=>Ad f Z fun a f=>Aa ?_
     obtain rfl:=sj a8
     exact⟨_,Z,_,_,Z,_,bn,ba,f.k Z,m,bo⟩
    ·refine Ai f Z bc ?_
     refine Ax Z ?_
     obtain rfl:=sj a8
     obtain rfl:=a9 _ rfl
     exact⟨_,Z,_,a6,ba,f.k Z,m,bb⟩
   ·rintro a w ⟨aZ,rfl,a0,a1,bp,f,m,bq⟩
    have aO:=rd1 bp aO
    refine Ak ?_
    refine Ab f Z fun a f=>Ab f Z fun a f=>Ab f Z fun a f=> ?_
    obtain⟨br,bs,aA⟩:=bind_some aA
    refine AW 1 m bq Z T42 f Z Z Z bs fun bt a bu f=>Au 1 m bq Z Tryz.sizeOf2 f Z Z bu bs Z Z Z fun bv w m bw=>Aa (Ak ?_)
    refine Ab f Z fun a f=>Ah f Z Z Ar fun a f=>Ad f Z fun a f=>Aa ?_
    obtain rfl:=sj aA
    exact⟨_,Z,_,_,_,_,_,Z,_,aV,bv,aN,(gt aC (gt aL bp)),f.k Z,m,bw,aO⟩
  ·refine Ai f Z aF ?_
   refine Ax Z ?_
   obtain rfl:=sj aA
   obtain rfl:=aB _ rfl
   exact⟨_,_,_,_,Z,_,aw,ax,ay,aC,f.k Z,m,aD,aE⟩
 ·rintro a w ⟨af,ag,ah,ai,rfl,aj,ak,al,am,bx,f,m,bz,bA⟩
  refine Ac ?_
  refine Ab f Z fun a f=>Ad f Z fun a f=>Aa ?_
  refine Aq ?_
  have m:=m.front 1 rfl
  obtain rfl:=sj hd
  exact⟨[ak],⟨f.get _ _ Z,trivial⟩,f.defers,_,[al,Itm.box b0 109 [am,(.int .i64 ah),(.int .u64 ai)]],bx,m,_,_,_,Z,Z,bz,bA⟩
theorem Wk.f1 {W w:World}{G:GH}{H:List Itm}{x0:Int}{x1:Int}{x2:Int}(m:Mem W G w (H)){y:Bool}(hd:D.f1 x0 x1 x2=some y):
  Calls Tryz.prog 146 #[(.int .i64 x0),(.int .i64 x1),(.int .i64 x2)] w (Res W G H (fun _ Ho v=>Ho=[]∧v=(.bool y))):=by
 refine As (args:=[(.int .i64 x0),(.int .i64 x1),(.int .i64 x2)]) (N:=15) [.tmp 6] Tryz.func146 Z Z (Nat.le_of_ble_eq_true Z) Z fun a f=> ?_
 unfold D.f1 at hd
 refine Ac ?_
 refine Ad f Z fun a f=>Aa (Ac ?_)
 refine Ab f Z fun a f=>Ab f Z fun a f=>Ah f Z Z B7 fun a f=>Ab f Z fun a f=> ?_
 refine Bz 4 (fun a w=>∃aa,GLe G aa∧Mem W aa w (H)∧Fr a 15 [(0,(.int .i64 x0)),(1,(.int .i64 x1)),(2,(.int .i64 x2)),(7,(.int .i64 x1)),(8,(.int .i64 x0)),(9,(.bool (decide (x1≤x0)))),(10,(.bool (decide (x1≤x0)))),(14,(.bool ((decide (x1≤x0))&&(decide (x0≤x2)))))]) ?_ ?_
 ·rcases Bool.eq_false_or_eq_true (decide (x1≤x0)) with ab|ab
  ·refine AB f ab ?_
   refine Ab f Z fun a f=>AB f ab ?_
   refine Ab f Z fun a f=>AB f ab ?_
   refine Ah f Z Z B7 fun a f=>l_o f (AO (f.eval Z) ab (f.eval Z)) fun a f=> ?_
   exact⟨_,gr,m,f.weak ⟨Z,Z,Z,Z,Z,Z,Z,by rw[ab];rfl,trivial⟩⟩
  ·refine AE f ab fun a f=> ?_
   refine AE f ab fun a f=>AE f ab fun a f=>l_o f (AP (f.eval Z) ab (f.eval Z)) fun a f=> ?_
   exact⟨_,gr,m,f.weak ⟨Z,Z,Z,Z,Z,Z,Z,by rw[ab];rfl,trivial⟩⟩
 ·rintro a w ⟨aa,ac,m,f⟩
  refine Ad f Z fun a f=>Aa ?_
  refine Aq ?_
  obtain rfl:=sj hd
  exact⟨[(.bool ((decide (x1≤x0))&&(decide (x0≤x2))))],⟨f.get _ _ Z,trivial⟩,f.defers,_,[],ac,m,Z,Z⟩
theorem Wk.w {W w:World}{G:GH}{H:List Itm}{v0:Value}{x0:(List Int)}{x1:Int}(m:Mem W G w (H))(h0:RSl (RI .i64) G v0 x0){y:Bool}(hd:D.w x0 x1=some y):
  Calls Tryz.prog 95 #[v0,(.int .i64 x1)] w (Res W G H (fun _ Ho v=>Ho=[]∧v=(.bool y))):=by
 refine As (args:=[v0,(.int .i64 x1)]) (N:=33) [.tmp 4] Tryz.func95 Z Z (Nat.le_of_ble_eq_true Z) Z fun a f=> ?_
 unfold D.w at hd
 refine Ac ?_
 refine Ad f Z fun a f=>Aa (Af (Ac ?_))
 refine Ab f Z fun a f=>AZ Tryz.underlying42 f Z Z h0 fun a f=>Ab f Z fun a f=>Aa ?_
 obtain⟨aa,ab,hd⟩:=bind_some hd
 refine AC (fun a w=>∃q_181':Unit,aa= .inl q_181'∧∃(ac:GH),GLe G ac∧Fr a 33 []∧Mem W ac w (H)) ?_ ?_
 ·refine Aj ?_
  refine AA (fun ad a w=>∃ae:Int,ae=ad∧∃(af:GH),GLe G af∧Fr a 33 [(0,v0),(1,(.int .i64 x1)),(7,v0),(8,(.int .i64 (x0.length:Int))),(9,(.int .i64 ae))]∧Mem W af w (H)) ab ⟨_,Z,_,gr,f.k Z,m⟩ ?_
  clear ab f m
  rintro ad ag ah ai a w ⟨ae,rfl,af,aj,f,m⟩
  have h0:=rd1 aj h0
  refine Ac ?_
  refine Ah f Z Z AJ fun a f=>Aa (Af ?_)
  rcases Ae ah with⟨ak,ah⟩|⟨ak,ah⟩
  ·refine Al f Z ak ?_
   refine Am ?_
   refine Af (Aj (Ac ?_))
   refine Ab f Z fun a f=> ?_
   obtain⟨al,am,ah⟩:=bind_some ah
   refine Bf T42 f Z Z Z h0 am fun an ao a ap aq f=> ?_
   subst aq
   refine AG m Pl2 f Z Z ap fun a f=>Ad f Z fun a f=>Ad f Z fun a f=>Aa (Ac ?_)
   refine Ab f Z fun a f=>Ab f Z fun a f=>Ah f Z Z AH fun a f=> ?_
   obtain⟨ar,au,ah⟩:=bind_some ah
   refine Bi f Z Tryz.call146 (Wk.f1 m au) fun av w aw m a f=> ?_
   have h0:=rd1 aw h0
   refine l_o f (Bd (f.eval Z)) fun a f=>Ab f Z fun a f=> ?_
   obtain⟨ax,ay,ah⟩:=bind_some ah
   refine Bz 12 (fun a w=>∃az,GLe av az∧Mem W az w (H)∧Fr a 33 [(0,v0),(1,(.int .i64 x1)),(5,(.int .i64 ae)),(6,(.int .i64 al)),(7,v0),(8,(.int .i64 (x0.length:Int))),(9,(.int .i64 ae)),(14,(.int .i64 al)),(15,(.int .i64 x1)),(16,(.int .i64 (IntKind.i64.wrap (x1-1)))),(17,(.bool ar)),(18,(.bool (!ar))),(19,(.bool (!ar))),(31,(.bool ax))]) ?_ ?_
   ·rcases Ae ay with⟨aA,ay⟩|⟨aA,ay⟩
    ·refine AE f aA fun a f=> ?_
     refine AE f aA fun a f=>AE f aA fun a f=>Ec f Z Z Z fun a f=>Ec f Z Z Z fun a f=>Ec f Z Z Z fun a f=>Ec f Z Z Z fun a f=>Ec f Z Z Z fun a f=>Ec f Z Z Z fun a f=>Ec f Z Z Z fun a f=>AE f aA fun a f=>l_o f (AO (f.eval Z) aA (f.eval Z)) fun a f=> ?_
     obtain rfl:=sj ay
     exact⟨_,gr,m,f.k Z⟩
    ·refine AB f aA ?_
     refine Ab f Z fun a f=>AB f aA ?_
     refine Ah f Z Z BV fun a f=>AB f aA ?_
     refine Ab f Z fun a f=> ?_
     obtain⟨aB,aC,ay⟩:=bind_some ay
     refine Bz 8 (fun a w=>∃aD,GLe av aD∧Mem W aD w (H)∧Fr a 33 [(0,v0),(1,(.int .i64 x1)),(5,(.int .i64 ae)),(6,(.int .i64 al)),(7,v0),(8,(.int .i64 (x0.length:Int))),(9,(.int .i64 ae)),(14,(.int .i64 al)),(15,(.int .i64 x1)),(16,(.int .i64 (IntKind.i64.wrap (x1-1)))),(17,(.bool ar)),(18,(.bool (!ar))),(19,(.bool (!ar))),(20,(.int .i64 ae)),(21,(.bool (decide ((0:Int)<ae)))),(22,(.bool (decide ((0:Int)<ae)))),(30,(.bool aB))]) ?_ ?_
     ·rcases Ae aC with⟨aE,aC⟩|⟨aE,aC⟩
      ·refine AB f aE ?_
       refine Ab f Z fun a f=>AB f aE ?_
       refine Ab f Z fun a f=>AB f aE ?_
       refine Ah f Z Z AH fun a f=>AB f aE ?_
       obtain⟨aF,aG,aC⟩:=bind_some aC
       refine Bf T42 f Z Z Z h0 aG fun aH aI a aJ aK f=> ?_
       subst aK
       refine AB f aE ?_
       refine AG m Pl2 f Z Z aJ fun a f=>AB f aE ?_
       refine Ab f Z fun a f=>AB f aE ?_
       refine Ah f Z Z BM fun a f=>AB f aA ?_
       refine l_o f (AO (f.eval Z) aE (f.eval Z)) fun a f=> ?_
       obtain rfl:=sj aC
       exact⟨_,gr,m,f.k Z⟩
      ·refine AE f aE fun a f=> ?_
       refine AE f aE fun a f=>AE f aE fun a f=>AE f aE fun a f=>AE f aE fun a f=>AE f aE fun a f=>AE f aE fun a f=>AB f aA ?_
       refine l_o f (AP (f.eval Z) aE (f.eval Z)) fun a f=> ?_
       obtain rfl:=sj aC
       exact⟨_,gr,m,f.k Z⟩
     ·rintro a w ⟨aD,aL,m,f⟩
      have h0:=rd1 aL h0
      refine l_o f (AP (f.eval Z) aA (f.eval Z)) fun a f=> ?_
      obtain rfl:=sj ay
      exact⟨_,aL,m,f.k Z⟩
   ·rintro a w ⟨az,aM,m,f⟩
    have h0:=rd1 aM h0
    refine Aa ?_
    rcases Ae ah with⟨aN,ah⟩|⟨aN,ah⟩
    ·refine Al f Z aN ?_
     refine Ac ?_
     refine Ad f Z fun a f=>Aa ?_
     refine Aq ?_
     obtain rfl:=sj ah
     obtain rfl:=ai _ rfl
     obtain rfl:=sj hd
     exact⟨[(.bool false)],⟨f.get _ _ Z,trivial⟩,f.defers,_,[],(gt aj (gt aw aM)),m,Z,Z⟩
    ·refine Ai f Z aN ?_
     refine Am ?_
     refine Ak ?_
     refine Ah f Z Z Ar fun a f=>Ab f Z fun a f=>Aa ?_
     obtain rfl:=sj ah
     exact⟨_,Z,_,Z,_,(gt aj (gt aw aM)),f.k Z,m⟩
  ·refine Ai f Z ak ?_
   refine Ax Z ?_
   obtain rfl:=sj ah
   obtain rfl:=ai _ rfl
   exact⟨_,Z,_,aj,f.weak trivial,m⟩
 ·rintro a w ⟨_,rfl,ac,aO,f,m⟩
  refine Ac ?_
  refine Ad f Z fun a f=>Aa ?_
  refine Aq ?_
  obtain rfl:=sj hd
  exact⟨[(.bool true)],⟨f.get _ _ Z,trivial⟩,f.defers,_,[],aO,m,Z,Z⟩
theorem Wk.F {W w:World}{G:GH}{H:List Itm}{v0_0:Value}{x0_0:(List (List Int))}(m:Mem W G w (H))(h0_0:RSl (RSl (RI .i64)) G v0_0 x0_0){y:Bool}(hd:D.F x0_0=some y):
  Calls Tryz.prog 93 #[(.agg #[v0_0])] w (Res W G H (fun _ Ho v=>Ho=[]∧v=(.bool y))):=by
 refine As (args:=[(.agg #[v0_0])]) (N:=61) [.tmp 2] Tryz.func93 Z Z (Nat.le_of_ble_eq_true Z) Z fun a f=> ?_
 unfold D.F at hd
 refine Ac ?_
 refine Bw (cs:=[v0_0]) m f Z Z Z fun aa w a m f=>Ad f Z fun a f=>Aa (Ac ?_)
 refine Bn Tryz.underlying30 Z Tryz.sizeOf22 f Z fun a f=>AF 0 0 m Ba f Z Z Z Z fun a f=>AZ Tryz.underlying22 f Z Z h0_0 fun a f=>Ad f Z fun a f=>Aa (Af (Ac ?_))
 refine Ab f Z fun a f=>Ah f Z Z AJ fun a f=>Ab f Z fun a f=> ?_
 refine Bz 3 (fun a w=>∃ab,GLe G ab∧Mem W ab w (Itm.box aa 30 [v0_0]::H)∧Fr a 61 [(0,(.agg #[v0_0])),(1,(.pointer (some ⟨aa,0,none⟩))),(3,(.int .i64 (x0_0.length:Int))),(13,(.int .i64 (x0_0.length:Int))),(14,(.bool (decide ((x0_0.length:Int)<1)))),(15,(.bool (decide ((x0_0.length:Int)<1)))),(18,(.bool ((decide ((x0_0.length:Int)<1))||(decide ((16:Int)<(x0_0.length:Int))))))]) ?_ ?_
 ·rcases Bool.eq_false_or_eq_true (decide ((x0_0.length:Int)<1)) with ac|ac
  ·refine AE f ac fun a f=> ?_
   refine AE f ac fun a f=>l_o f (AO (f.eval Z) ac (f.eval Z)) fun a f=> ?_
   exact⟨_,gr,m,f.weak ⟨Z,Z,Z,Z,Z,Z,by rw[ac];rfl,trivial⟩⟩
  ·refine AB f ac ?_
   refine Ab f Z fun a f=>AB f ac ?_
   refine Ah f Z Z BV fun a f=>l_o f (AP (f.eval Z) ac (f.eval Z)) fun a f=> ?_
   exact⟨_,gr,m,f.weak ⟨Z,Z,Z,Z,Z,Z,by rw[ac];rfl,trivial⟩⟩
 ·rintro a w ⟨ab,ad,m,f⟩
  have h0_0:=rd2 ad h0_0
  refine Aa ?_
  rcases Ae hd with⟨ae,hd⟩|⟨ae,hd⟩
  ·refine Al f Z ae ?_
   refine Ac ?_
   refine Ad f Z fun a f=>Aa ?_
   refine Aq ?_
   have m:Mem W ab w H:=Mem.drop (H':=[Itm.box aa 30 [v0_0]]) m
   obtain rfl:=sj hd
   exact⟨[(.bool false)],⟨f.get _ _ Z,trivial⟩,f.defers,_,[],ad,m,Z,Z⟩
  ·refine Ai f Z ae ?_
   refine Am ?_
   refine Af (Ac ?_)
   refine Bn Tryz.underlying30 Z Tryz.sizeOf22 f Z fun a f=>AF 0 0 m Ba f Z Z Z Z fun a f=>AZ Tryz.underlying22 f Z Z h0_0 fun a f=>Ab f Z fun a f=>Aa ?_
   obtain⟨af,ag,hd⟩:=bind_some hd
   refine AC (fun a w=>∃q_91':Unit,af= .inl q_91'∧∃(ah:GH),GLe ab ah∧Fr a 61 [(1,(.pointer (some ⟨aa,0,none⟩)))]∧Mem W ah w (Itm.box aa 30 [v0_0]::H)) ?_ ?_
   ·refine Aj ?_
    refine AA (fun ai a w=>∃aj:Int,aj=ai∧∃(ak:GH),GLe ab ak∧Fr a 61 [(1,(.pointer (some ⟨aa,0,none⟩))),(3,(.int .i64 (x0_0.length:Int))),(20,v0_0),(21,(.int .i64 (x0_0.length:Int))),(22,(.int .i64 aj))]∧Mem W ak w (Itm.box aa 30 [v0_0]::H)) ag ⟨_,Z,_,gr,f.k Z,m⟩ ?_
    clear ag f m
    rintro ai al am an a w ⟨aj,rfl,ak,ao,f,m⟩
    have h0_0:=rd2 ao h0_0
    refine Ac ?_
    refine Ah f Z Z AJ fun a f=>Aa (Af ?_)
    rcases Ae am with⟨ap,am⟩|⟨ap,am⟩
    ·refine Al f Z ap ?_
     refine Am ?_
     refine Af (Aj (Ac ?_))
     refine Ab f Z fun a f=> ?_
     obtain⟨aq,ar,am⟩:=bind_some am
     refine Bf T22 f Z Z Z h0_0 ar fun au av a aw ax f=>AG m AY f Z Z aw fun a f=>Ad f Z fun a f=>Ad f Z fun a f=>Aa (Ac ?_)
     refine Ab f Z fun a f=>Ab f Z fun a f=> ?_
     obtain⟨ay,az,am⟩:=bind_some am
     refine Bi f Z Tryz.call95 (Wk.w m ax az) fun aA w aB m a f=> ?_
     have ax:=rd1 aB ax
     have h0_0:=rd2 aB h0_0
     refine l_o f (Bd (f.eval Z)) fun a f=>Ab f Z fun a f=> ?_
     obtain⟨aC,aD,am⟩:=bind_some am
     refine Bz 4 (fun a w=>∃aE,GLe aA aE∧Mem W aE w (Itm.box aa 30 [v0_0]::H)∧Fr a 61 [(1,(.pointer (some ⟨aa,0,none⟩))),(3,(.int .i64 (x0_0.length:Int))),(4,(.int .i64 aj)),(5,av),(20,v0_0),(21,(.int .i64 (x0_0.length:Int))),(22,(.int .i64 aj)),(27,av),(28,(.int .i64 (x0_0.length:Int))),(29,(.bool ay)),(30,(.bool (!ay))),(31,(.bool (!ay))),(35,(.bool aC))]) ?_ ?_
     ·rcases Ae aD with⟨aF,aD⟩|⟨aF,aD⟩
      ·refine AE f aF fun a f=> ?_
       refine AE f aF fun a f=>AE f aF fun a f=>l_o f (AO (f.eval Z) aF (f.eval Z)) fun a f=> ?_
       obtain rfl:=sj aD
       exact⟨_,gr,m,f.k Z⟩
      ·refine AB f aF ?_
       refine Ab f Z fun a f=>AB f aF ?_
       refine Ab f Z fun a f=>AB f aF ?_
       obtain⟨aG,aH,aD⟩:=bind_some aD
       refine Bi f Z Tryz.call109 (Wk.E m ax aH) fun aI w aJ m a f=> ?_
       have ax:=rd1 aJ ax
       have h0_0:=rd2 aJ h0_0
       refine l_o f (AP (f.eval Z) aF (f.eval Z)) fun a f=> ?_
       obtain rfl:=sj aD
       exact⟨_,aJ,m,f.k Z⟩
     ·rintro a w ⟨aE,aK,m,f⟩
      have ax:=rd1 aK ax
      have h0_0:=rd2 aK h0_0
      refine Aa ?_
      rcases Ae am with⟨aL,am⟩|⟨aL,am⟩
      ·refine Al f Z aL ?_
       refine Ac ?_
       refine Ad f Z fun a f=>Aa ?_
       refine Aq ?_
       have m:Mem W aE w H:=Mem.drop (H':=[Itm.box aa 30 [v0_0]]) m
       obtain rfl:=sj am
       obtain rfl:=an _ rfl
       obtain rfl:=sj hd
       exact⟨[(.bool false)],⟨f.get _ _ Z,trivial⟩,f.defers,_,[],(gt ad (gt ao (gt aB aK))),m,Z,Z⟩
      ·refine Ai f Z aL ?_
       refine Am ?_
       refine Ak ?_
       refine Ah f Z Z Ar fun a f=>Ab f Z fun a f=>Aa ?_
       obtain rfl:=sj am
       exact⟨_,Z,_,Z,_,(gt ao (gt aB aK)),f.k Z,m⟩
    ·refine Ai f Z ap ?_
     refine Ax Z ?_
     obtain rfl:=sj am
     obtain rfl:=an _ rfl
     exact⟨_,Z,_,ao,f.k Z,m⟩
   ·rintro a w ⟨_,rfl,ah,aM,f,m⟩
    have h0_0:=rd2 aM h0_0
    refine Af (Ac ?_)
    refine Bn Tryz.underlying30 Z Tryz.sizeOf22 f Z fun a f=>AF 0 0 m Ba f Z Z Z Z fun a f=>AZ Tryz.underlying22 f Z Z h0_0 fun a f=>Ab f Z fun a f=>Aa ?_
    obtain⟨aN,aO,hd⟩:=bind_some hd
    refine AC (fun a w=>∃q_394':Unit,aN= .inl q_394'∧∃(aP:GH),GLe ah aP∧Fr a 61 []∧Mem W aP w (H)) ?_ ?_
    ·refine Aj ?_
     refine AA (fun aQ a w=>∃aR:Int,aR=aQ∧∃(aS:GH),GLe ah aS∧Fr a 61 [(1,(.pointer (some ⟨aa,0,none⟩))),(38,v0_0),(39,(.int .i64 (x0_0.length:Int))),(40,(.int .i64 aR))]∧Mem W aS w (Itm.box aa 30 [v0_0]::H)) aO ⟨_,Z,_,gr,f.k Z,m⟩ ?_
     clear aO f m
     rintro aQ aT aU aV a w ⟨aR,rfl,aS,aW,f,m⟩
     have h0_0:=rd2 aW h0_0
     refine Ac ?_
     refine Ah f Z Z AJ fun a f=>Aa (Af ?_)
     rcases Ae aU with⟨aX,aU⟩|⟨aX,aU⟩
     ·refine Al f Z aX ?_
      refine Am ?_
      refine Af (Aj (Ac ?_))
      refine Ab f Z fun a f=> ?_
      obtain⟨aY,aZ,aU⟩:=bind_some aU
      refine Bf T22 f Z Z Z h0_0 aZ fun a0 a1 a a2 a3 f=>AG m AY f Z Z a2 fun a f=>Ad f Z fun a f=>Ad f Z fun a f=>Aa (Ac ?_)
      refine Ab f Z fun a f=>AZ Tryz.underlying42 f Z Z a3 fun a f=>Ab f Z fun a f=>Aa ?_
      obtain⟨a4,a5,aU⟩:=bind_some aU
      refine AC (fun a w=>∃q_560':Unit,a4= .inl q_560'∧∃(a6:GH),GLe aS a6∧Fr a 61 [(1,(.pointer (some ⟨aa,0,none⟩))),(38,v0_0),(39,(.int .i64 (x0_0.length:Int))),(40,(.int .i64 aR))]∧Mem W a6 w (Itm.box aa 30 [v0_0]::H)) ?_ ?_
      ·refine Aj ?_
       refine AA (fun a7 a w=>∃a8:Int,a8=a7∧∃(a9:GH),GLe aS a9∧Fr a 61 [(1,(.pointer (some ⟨aa,0,none⟩))),(6,(.int .i64 aR)),(38,v0_0),(39,(.int .i64 (x0_0.length:Int))),(40,(.int .i64 aR)),(45,a1),(46,(.int .i64 (aY.length:Int))),(47,(.int .i64 a8))]∧Mem W a9 w (Itm.box aa 30 [v0_0]::H)) a5 ⟨_,Z,_,gr,f.k Z,m⟩ ?_
       clear a5 f m
       rintro a7 ba bb bc a w ⟨a8,rfl,a9,bd,f,m⟩
       have h0_0:=rd2 bd h0_0
       have a3:=rd1 bd a3
       refine Ac ?_
       refine Ah f Z Z AJ fun a f=>Aa (Af ?_)
       rcases Ae bb with⟨be,bb⟩|⟨be,bb⟩
       ·refine Al f Z be ?_
        refine Am ?_
        refine Af (Aj (Ac ?_))
        obtain⟨bf,bg,bb⟩:=bind_some bb
        refine Bf T42 f Z Z Z a3 bg fun bh bi a bj bk f=> ?_
        subst bk
        refine AG m Pl2 f Z Z bj fun a f=>Ad f Z fun a f=>Aa (Ac ?_)
        refine Bn Tryz.underlying30 Z Tryz.sizeOf22 f Z fun a f=>AF 0 0 m Ba f Z Z Z Z fun a f=>Ab f Z fun a f=> ?_
        obtain⟨bl,bm,bb⟩:=bind_some bb
        refine Bf T22 f Z Z Z h0_0 bm fun bn bo a bp bq f=>AG m AY f Z Z bp fun a f=>Ab f Z fun a f=> ?_
        obtain⟨br,bs,bb⟩:=bind_some bb
        refine Bi f Z Tryz.call109 (Wk.E m bq bs) fun bt w bu m a f=> ?_
        have h0_0:=rd2 bu h0_0
        have a3:=rd1 bu a3
        have bp:=At.mono bu bp
        have bq:=rd1 bu bq
        refine l_o f (Bd (f.eval Z)) fun a f=>Aa ?_
        rcases Ae bb with⟨bv,bb⟩|⟨bv,bb⟩
        ·refine Al f Z bv ?_
         refine Ac ?_
         refine Ad f Z fun a f=>Aa ?_
         refine Aq ?_
         have m:Mem W bt w H:=Mem.drop (H':=[Itm.box aa 30 [v0_0]]) m
         obtain rfl:=sj bb
         obtain rfl:=bc _ rfl
         obtain rfl:=sj aU
         obtain rfl:=aV _ rfl
         obtain rfl:=sj hd
         exact⟨[(.bool false)],⟨f.get _ _ Z,trivial⟩,f.defers,_,[],(gt ad (gt aM (gt aW (gt bd bu)))),m,Z,Z⟩
        ·refine Ai f Z bv ?_
         refine Am ?_
         refine Ak ?_
         refine Ah f Z Z Ar fun a f=>Ab f Z fun a f=>Aa ?_
         obtain rfl:=sj bb
         exact⟨_,Z,_,Z,_,(gt bd bu),f.k Z,m⟩
       ·refine Ai f Z be ?_
        refine Ax Z ?_
        obtain rfl:=sj bb
        obtain rfl:=bc _ rfl
        exact⟨_,Z,_,bd,f.k Z,m⟩
      ·rintro a w ⟨_,rfl,a6,bw,f,m⟩
       have h0_0:=rd2 bw h0_0
       refine Ak ?_
       refine Ah f Z Z Ar fun a f=>Ab f Z fun a f=>Aa ?_
       obtain rfl:=sj aU
       exact⟨_,Z,_,Z,_,(gt aW bw),f.k Z,m⟩
     ·refine Ai f Z aX ?_
      refine Ax Z ?_
      have m:Mem W aS w H:=Mem.drop (H':=[Itm.box aa 30 [v0_0]]) m
      obtain rfl:=sj aU
      obtain rfl:=aV _ rfl
      exact⟨_,Z,_,aW,f.weak trivial,m⟩
    ·rintro a w ⟨_,rfl,aP,bx,f,m⟩
     refine Ac ?_
     refine Ad f Z fun a f=>Aa ?_
     refine Aq ?_
     obtain rfl:=sj hd
     exact⟨[(.bool true)],⟨f.get _ _ Z,trivial⟩,f.defers,_,[],(gt ad (gt aM bx)),m,Z,Z⟩
theorem Wk.X {W w:World}{G:GH}{H:List Itm}{v0_0:Value}{v1:Value}{x0_0:(List (List Int))}{x1:(List Int)}(m:Mem W G w (H))(h0_0:RSl (RSl (RI .i64)) G v0_0 x0_0)(h1:RSl (RI .i64) G v1 x1){y:Bool}(hd:D.X x0_0 x1=some y):
  Calls Tryz.prog 71 #[(.agg #[v0_0]),v1] w (Res W G H (fun _ Ho v=>Ho=[]∧v=(.bool y))):=by
 refine As (args:=[(.agg #[v0_0]),v1]) (N:=25) [.tmp 4] Tryz.func71 Z Z (Nat.le_of_ble_eq_true Z) Z fun a f=> ?_
 unfold D.X at hd
 refine Ac ?_
 refine Bw (cs:=[v0_0]) m f Z Z Z fun aa w a m f=>Ad f Z fun a f=>Aa (Af (Ac ?_))
 refine A5 0 0 (ds:=[v0_0]) m Bq f Z Z Z Z Z fun a f=> ?_
 obtain⟨ab,ac,hd⟩:=bind_some hd
 refine Bi f Z Tryz.call93 (Wk.F m h0_0 ac) fun ad w ae m a f=> ?_
 have h0_0:=rd2 ae h0_0
 have h1:=rd1 ae h1
 refine l_o f (Bd (f.eval Z)) fun a f=>Ab f Z fun a f=> ?_
 refine Bz 7 (fun a w=>∃af,GLe ad af∧Mem W af w (Itm.box aa 30 [v0_0]::H)∧Fr a 25 [(0,(.agg #[v0_0])),(1,v1),(2,(.pointer (some ⟨aa,0,none⟩))),(6,(.agg #[v0_0])),(7,(.bool ab)),(8,(.bool (!ab))),(9,(.bool (!ab))),(16,(.bool ((!ab)||((x1.length:Int) !=(x0_0.length:Int)))))]) ?_ ?_
 ·rcases Bool.eq_false_or_eq_true (!ab) with ag|ag
  ·refine AE f ag fun a f=> ?_
   refine AE f ag fun a f=>AE f ag fun a f=>AE f ag fun a f=>AE f ag fun a f=>AE f ag fun a f=>l_o f (AO (f.eval Z) ag (f.eval Z)) fun a f=> ?_
   exact⟨_,gr,m,f.weak ⟨Z,Z,Z,Z,Z,Z,Z,by rw[ag];rfl,trivial⟩⟩
  ·refine AB f ag ?_
   refine Ab f Z fun a f=>AB f ag ?_
   refine AZ Tryz.underlying42 f Z Z h1 fun a f=>AB f ag ?_
   refine Bn Tryz.underlying30 Z Tryz.sizeOf22 f Z fun a f=>AB f ag ?_
   refine AF 0 0 m Ba f Z Z Z Z fun a f=>AB f ag ?_
   refine AZ Tryz.underlying22 f Z Z h0_0 fun a f=>AB f ag ?_
   refine Ah f Z Z CI fun a f=>l_o f (AP (f.eval Z) ag (f.eval Z)) fun a f=> ?_
   exact⟨_,gr,m,f.weak ⟨Z,Z,Z,Z,Z,Z,Z,by rw[ag];rfl,trivial⟩⟩
 ·rintro a w ⟨af,ah,m,f⟩
  have h0_0:=rd2 ah h0_0
  have h1:=rd1 ah h1
  refine Aa ?_
  rcases Ae hd with⟨ai,hd⟩|⟨ai,hd⟩
  ·refine Al f Z ai ?_
   refine Ac ?_
   refine Ad f Z fun a f=>Aa ?_
   refine Aq ?_
   have m:Mem W af w H:=Mem.drop (H':=[Itm.box aa 30 [v0_0]]) m
   obtain rfl:=sj hd
   exact⟨[(.bool false)],⟨f.get _ _ Z,trivial⟩,f.defers,_,[],(gt ae ah),m,Z,Z⟩
  ·refine Ai f Z ai ?_
   refine Am ?_
   refine Ac ?_
   refine Ab f Z fun a f=>AK f Z Tryz.call134 (Wk.O1 m h1) fun aj ak al w am m an a f=> ?_
   obtain⟨ao,rfl,rfl⟩:=an
   have h0_0:=rd2 am h0_0
   have h1:=rd1 am h1
   obtain⟨ap,aq,hd⟩:=bind_some hd
   refine AK f Z Tryz.call133 (Wk.p0 m h1 aq) fun ar au av w aw m ax a f=> ?_
   obtain⟨ay,az,rfl,rfl,aA⟩:=ax
   have h0_0:=rd2 aw h0_0
   have h1:=rd1 aw h1
   refine Ad f Z fun a f=>Aa (Ac ?_)
   refine Ab f Z fun a f=>Bn Tryz.underlying30 Z Tryz.sizeOf22 f Z fun a f=>AF 1 0 m Ba f Z Z Z Z fun a f=>AZ Tryz.underlying22 f Z Z h0_0 fun a f=> ?_
   obtain⟨aB,aC,hd⟩:=bind_some hd
   refine AK f Z Tryz.call95 (Ow.lendCall (RI.mono _) 0 aA m Z (fun aD aE m aF=>Wk.w m aF aC) (fun _ _ _ _ h=>h)) fun aG aH aI w aJ m aK a f=> ?_
   obtain⟨rfl,rfl⟩:=aK
   have h0_0:=rd2 aJ h0_0
   have h1:=rd1 aJ h1
   have aA:=od1 aJ aA
   refine Ad f Z fun a f=>Aa ?_
   refine Aq ?_
   have m:Mem W aH w H:=Mem.drop (H':=[az,Itm.box aa 30 [v0_0]]) m
   obtain rfl:=sj hd
   exact⟨[(.bool aB)],⟨f.get _ _ Z,trivial⟩,f.defers,_,[],(gt ae (gt ah (gt am (gt aw aJ)))),m,Z,Z⟩
theorem Wk.c {W w:World}{G:GH}{H:List Itm}{x0:Int}(m:Mem W G w (H)){y:Int}(hd:D.c x0=some y):
  Calls Tryz.prog 100 #[(.int .i64 x0)] w (Res W G H (fun _ Ho v=>Ho=[]∧v=(.int .u32 y))):=by
 refine As (args:=[(.int .i64 x0)]) (N:=5) [.tmp 2] Tryz.func100 Z Z (Nat.le_of_ble_eq_true Z) Z fun a f=> ?_
 unfold D.c at hd
 refine Ac ?_
 refine Ad f Z fun a f=>Aa (Ac ?_)
 refine Ab f Z fun a f=> ?_
 obtain⟨aa,hd⟩:=Do hd
 refine l_o f (r_shl (f.eval Z) (f.eval Z) aa) fun a f=>Ad f Z fun a f=>Aa ?_
 refine Aq ?_
 obtain rfl:=sj hd
 exact⟨[(.int .u32 (ishl .u32 1 x0))],⟨f.get _ _ Z,trivial⟩,f.defers,_,[],gr,m,Z,Z⟩
theorem Wk.U {W w:World}{G:GH}{H:List Itm}{v0:Value}{x0:(List Int)}(m:Mem W G w (H))(h0:RSl (RI .i64) G v0 x0){y:Int}(hd:D.U x0=some y):
  Calls Tryz.prog 118 #[v0] w (Res W G H (fun _ Ho v=>Ho=[]∧v=(.int .u32 y))):=by
 refine As (args:=[v0]) (N:=18) [.tmp 2] Tryz.func118 Z Z (Nat.le_of_ble_eq_true Z) Z fun a f=> ?_
 unfold D.U at hd
 refine Ac ?_
 refine Ad f Z fun a f=>Aa (Ac ?_)
 refine Ad f Z fun a f=>Aa (Af (Ac ?_))
 refine Ab f Z fun a f=>AZ Tryz.underlying42 f Z Z h0 fun a f=>Ab f Z fun a f=>Aa ?_
 obtain⟨aa,ab,hd⟩:=bind_some hd
 refine AC (fun a w=>∃ac:Int,ac=aa∧∃(ad:GH),GLe G ad∧Fr a 18 [(3,(.int .u32 ac))]∧Mem W ad w (H)) ?_ ?_
 ·refine Aj ?_
  refine AA (fun ae a w=>∃af:Int,∃ag:Int,(af,ag)=ae∧∃(ah:GH),GLe G ah∧Fr a 18 [(3,(.int .u32 af)),(6,v0),(7,(.int .i64 (x0.length:Int))),(8,(.int .i64 ag))]∧Mem W ah w (H)) ab ⟨_,_,Z,_,gr,f.k Z,m⟩ ?_
  clear ab f m
  rintro ae ai aj ak a w ⟨af,ag,rfl,ah,al,f,m⟩
  have h0:=rd1 al h0
  refine Ac ?_
  refine Ah f Z Z AJ fun a f=>Aa (Af ?_)
  rcases Ae aj with⟨am,aj⟩|⟨am,aj⟩
  ·refine Al f Z am ?_
   refine Am ?_
   refine Af (Aj (Ac ?_))
   obtain⟨an,ao,aj⟩:=bind_some aj
   refine Bf T42 f Z Z Z h0 ao fun ap aq a ar au f=> ?_
   subst au
   refine AG m Pl2 f Z Z ar fun a f=>Ad f Z fun a f=>Aa (Ak ?_)
   refine Ab f Z fun a f=>Ab f Z fun a f=> ?_
   obtain⟨av,aw,aj⟩:=bind_some aj
   refine Bi f Z Tryz.call100 (Wk.c m aw) fun ax w ay m a f=> ?_
   have h0:=rd1 ay h0
   refine Ah f Z Z b_or fun a f=>Ad f Z fun a f=>Aa (Ak ?_)
   refine Ah f Z Z Ar fun a f=>Ab f Z fun a f=>Aa ?_
   obtain rfl:=sj aj
   exact⟨_,Z,_,_,Z,_,(gt al ay),f.k Z,m⟩
  ·refine Ai f Z am ?_
   refine Ax Z ?_
   obtain rfl:=sj aj
   obtain rfl:=ak _ rfl
   exact⟨_,Z,_,al,f.k Z,m⟩
 ·rintro a w ⟨ac,rfl,ad,az,f,m⟩
  refine Ac ?_
  refine Ab f Z fun a f=>Ad f Z fun a f=>Aa ?_
  refine Aq ?_
  obtain rfl:=sj hd
  exact⟨[(.int .u32 ac)],⟨f.get _ _ Z,trivial⟩,f.defers,_,[],az,m,Z,Z⟩
theorem Wk.v {W w:World}{G:GH}{H:List Itm}{v0_0:Value}{x0_0:(List (List Int))}(m:Mem W G w (H))(h0_0:RSl (RSl (RI .i64)) G v0_0 x0_0){y:((List Int))}(hd:D.v x0_0=some y):
  Calls Tryz.prog 50 #[(.agg #[v0_0])] w (Res W G H (fun G' Ho v=>∃r0:Value,∃i0:Itm,Ho=[i0]∧r0=v∧Ow (RI .u32) 76 G' i0 r0 y)):=by
 refine As (args:=[(.agg #[v0_0])]) (N:=21) [.tmp 2] Tryz.func50 Z Z (Nat.le_of_ble_eq_true Z) Z fun a f=> ?_
 unfold D.v at hd
 refine Ac ?_
 refine Bw (cs:=[v0_0]) m f Z Z Z fun aa w a m f=>Ad f Z fun a f=>Aa (Ac ?_)
 refine A8 (R:=(RI .u32)) (xs:=([]:List Int)) (RI.one _) m T73 f Z Z Z (by decide) (All2.nil _) fun ab ac w a m ad f=>Ad f Z fun a f=>Aa (Af (Ac ?_))
 refine Bn Tryz.underlying30 Z Tryz.sizeOf22 f Z fun a f=>AF 1 0 m Ba f Z Z Z Z fun a f=>AZ Tryz.underlying22 f Z Z h0_0 fun a f=>Ab f Z fun a f=>Aa ?_
 obtain⟨ae,af,hd⟩:=bind_some hd
 refine AC (fun a w=>∃ag:List Int,ag=ae∧∃(ah:GH) (ai:Value) (aj:Itm),GLe G ah∧Fr a 21 [(3,ai)]∧Mem W ah w (aj::H)∧Ow (RI .u32) 76 ah aj ai ag) ?_ ?_
 ·refine Aj ?_
  have m:=m.eraseAt 1
  refine AA (fun ak a w=>∃al:List Int,∃am:Int,(al,am)=ak∧∃(an:GH) (ao:Value) (ap:Itm),GLe G an∧Fr a 21 [(3,ao),(8,v0_0),(9,(.int .i64 (x0_0.length:Int))),(10,(.int .i64 am))]∧Mem W an w (ap::H)∧Ow (RI .u32) 76 an ap ao al) af ⟨_,_,Z,_,ac,ab,gr,f.k Z,m,ad⟩ ?_
  clear af f m
  rintro ak aq ar au a w ⟨al,am,rfl,an,ao,ap,av,f,m,aw⟩
  have h0_0:=rd2 av h0_0
  refine Ac ?_
  refine Ah f Z Z AJ fun a f=>Aa (Af ?_)
  rcases Ae ar with⟨ax,ar⟩|⟨ax,ar⟩
  ·refine Al f Z ax ?_
   refine Am ?_
   refine Af (Aj (Ac ?_))
   obtain⟨ay,az,ar⟩:=bind_some ar
   refine Bf T22 f Z Z Z h0_0 az fun aA aB a aC aD f=>AG m AY f Z Z aC fun a f=>Ad f Z fun a f=>Aa (Ak ?_)
   refine Ab f Z fun a f=>Ab f Z fun a f=> ?_
   obtain⟨aE,aF,ar⟩:=bind_some ar
   refine Bi f Z Tryz.call118 (Wk.U m aD aF) fun aG w aH m a f=> ?_
   have aD:=rd1 aH aD
   have h0_0:=rd2 aH h0_0
   have aw:=od1 aH aw
   refine A8 (R:=(RI .u32)) (xs:=([aE]:List Int)) (RI.one _) m T73 f Z Z Z (by decide) (All2.cons Z (All2.nil _)) fun aI aJ w a m aK f=> ?_
   obtain⟨aL,aM,ar⟩:=bind_some ar
   refine Bo (RI.one _) 1 m aw Z T73 Z (by decide) f Z Z Z (Ow.src (j:=0) aK m Z) aM fun aN aO w a m aP f=>Ad f Z fun a f=>Aa (Ak ?_)
   refine Ah f Z Z Ar fun a f=>Ab f Z fun a f=>Aa ?_
   have m:=m.front 1 rfl
   have m:=m.eraseAt 1
   obtain rfl:=sj ar
   exact⟨_,Z,_,_,Z,_,aO,aN,(gt av aH),f.k Z,m,aP⟩
  ·refine Ai f Z ax ?_
   refine Ax Z ?_
   obtain rfl:=sj ar
   obtain rfl:=au _ rfl
   exact⟨_,Z,_,ao,ap,av,f.k Z,m,aw⟩
 ·rintro a w ⟨ag,rfl,ah,ai,aj,aQ,f,m,aR⟩
  refine Ac ?_
  refine Ab f Z fun a f=>Ad f Z fun a f=>Aa ?_
  refine Aq ?_
  obtain rfl:=sj hd
  exact⟨[ai],⟨f.get _ _ Z,trivial⟩,f.defers,_,[aj],aQ,m,_,_,Z,Z,aR⟩
theorem Wk.g0 {W w:World}{G:GH}{H:List Itm}{v0:Value}{x0:(List Int)}(m:Mem W G w (H))(h0:RSl (RI .i64) G v0 x0){y:((List Int))}(hd:D.g0 x0=some y):
  Calls Tryz.prog 73 #[v0] w (Res W G H (fun G' Ho v=>∃r0:Value,∃i0:Itm,Ho=[i0]∧r0=v∧Ow (RI .i64) 3 G' i0 r0 y)):=by
 refine As (args:=[v0]) (N:=21) [.tmp 2] Tryz.func73 Z Z (Nat.le_of_ble_eq_true Z) Z fun a f=> ?_
 unfold D.g0 at hd
 refine Ac ?_
 refine Ad f Z fun a f=>Aa (Ac ?_)
 refine Ab f Z fun a f=>AZ Tryz.underlying42 f Z Z h0 fun a f=> ?_
 obtain⟨aa,ab,hd⟩:=bind_some hd
 refine Da (R:=(RI .i64)) m T94 Z (by decide) Z f Z Z Z ab fun ac ad w a m ae f=>Ad f Z fun a f=>Aa (Af (Ac ?_))
 refine Ab f Z fun a f=>AZ Tryz.underlying42 f Z Z h0 fun a f=>Ab f Z fun a f=>Aa ?_
 obtain⟨af,ag,hd⟩:=bind_some hd
 refine AC (fun a w=>∃ah:List Int,ah=af∧∃(ai:GH) (aj:Value) (ak:Itm),GLe G ai∧Fr a 21 [(3,aj)]∧Mem W ai w (ak::H)∧Ow (RI .i64) 3 ai ak aj ah) ?_ ?_
 ·refine Aj ?_
  refine AA (fun al a w=>∃am:List Int,∃an:Int,(am,an)=al∧∃(ao:GH) (ap:Value) (aq:Itm),GLe G ao∧Fr a 21 [(3,ap),(9,v0),(10,(.int .i64 (x0.length:Int))),(11,(.int .i64 an))]∧Mem W ao w (aq::H)∧Ow (RI .i64) 3 ao aq ap am) ag ⟨_,_,Z,_,ad,ac,gr,f.k Z,m,ae⟩ ?_
  clear ag f m
  rintro al ar au av a w ⟨am,an,rfl,ao,ap,aq,aw,f,m,ax⟩
  have h0:=rd1 aw h0
  refine Ac ?_
  refine Ah f Z Z AJ fun a f=>Aa (Af ?_)
  rcases Ae au with⟨ay,au⟩|⟨ay,au⟩
  ·refine Al f Z ay ?_
   refine Am ?_
   refine Af (Aj (Ac ?_))
   obtain⟨az,aA,au⟩:=bind_some au
   refine Bf T42 f Z Z Z h0 aA fun aB aC a aD aE f=> ?_
   subst aE
   refine AG m Pl2 f Z Z aD fun a f=>Ad f Z fun a f=>Aa (Ak ?_)
   refine Ab f Z fun a f=>Ab f Z fun a f=>A8 (R:=(RI .i64)) (xs:=([az]:List Int)) (RI.one _) m T94 f Z Z Z (by decide) (All2.cons Z (All2.nil _)) fun aF aG w a m aH f=> ?_
   obtain⟨aI,aJ,au⟩:=bind_some au
   refine Bo (RI.one _) 1 m ax Z T94 Z (by decide) f Z Z Z (Ow.src (j:=0) aH m Z) aJ fun aK aL w a m aM f=>Ad f Z fun a f=>Aa (Ak ?_)
   refine Ah f Z Z Ar fun a f=>Ab f Z fun a f=>Aa ?_
   have m:=m.front 1 rfl
   have m:=m.eraseAt 1
   obtain rfl:=sj au
   exact⟨_,Z,_,_,Z,_,aL,aK,aw,f.k Z,m,aM⟩
  ·refine Ai f Z ay ?_
   refine Ax Z ?_
   obtain rfl:=sj au
   obtain rfl:=av _ rfl
   exact⟨_,Z,_,ap,aq,aw,f.k Z,m,ax⟩
 ·rintro a w ⟨ah,rfl,ai,aj,ak,aN,f,m,aO⟩
  refine Ac ?_
  refine Ab f Z fun a f=>Ad f Z fun a f=>Aa ?_
  refine Aq ?_
  obtain rfl:=sj hd
  exact⟨[aj],⟨f.get _ _ Z,trivial⟩,f.defers,_,[ak],aN,m,_,_,Z,Z,aO⟩
theorem Wk.o0 {W w:World}{G:GH}{H:List Itm}{x0:Int}(m:Mem W G w (H)){y:Int}(hd:D.o0 x0=some y):
  Calls Tryz.prog 120 #[(.int .i64 x0)] w (Res W G H (fun _ Ho v=>Ho=[]∧v=(.int .u32 y))):=by
 refine As (args:=[(.int .i64 x0)]) (N:=6) [.tmp 2] Tryz.func120 Z Z (Nat.le_of_ble_eq_true Z) Z fun a f=> ?_
 unfold D.o0 at hd
 refine Ac ?_
 refine Ad f Z fun a f=>Aa (Ac ?_)
 refine Ab f Z fun a f=> ?_
 obtain⟨aa,hd⟩:=Do hd
 refine l_o f (r_shl (f.eval Z) (f.eval Z) aa) fun a f=>Ah f Z Z AH fun a f=>Ad f Z fun a f=>Aa ?_
 refine Aq ?_
 obtain rfl:=sj hd
 exact⟨[(.int .u32 (IntKind.u32.wrap ((ishl .u32 1 x0)-1)))],⟨f.get _ _ Z,trivial⟩,f.defers,_,[],gr,m,Z,Z⟩
theorem Wk.p {W w:World}{G:GH}{H:List Itm}{v0:Value}{x0:(List Int)}(m:Mem W G w (H))(h0:RSl (RI .u32) G v0 x0){y:Int}(hd:D.p x0=some y):
  Calls Tryz.prog 53 #[v0] w (Res W G H (fun _ Ho v=>Ho=[]∧v=(.int .u32 y))):=by
 refine As (args:=[v0]) (N:=6) [.tmp 2] Tryz.func53 Z Z (Nat.le_of_ble_eq_true Z) Z fun a f=> ?_
 unfold D.p at hd
 refine Ac ?_
 refine Ad f Z fun a f=>Aa (Ac ?_)
 refine Ab f Z fun a f=>AZ Tryz.underlying73 f Z Z h0 fun a f=> ?_
 obtain⟨aa,ab,hd⟩:=bind_some hd
 refine Bi f Z Tryz.call120 (Wk.o0 m ab) fun ac w ad m a f=> ?_
 have h0:=rd1 ad h0
 refine Ad f Z fun a f=>Aa ?_
 refine Aq ?_
 obtain rfl:=sj hd
 exact⟨[(.int .u32 aa)],⟨f.get _ _ Z,trivial⟩,f.defers,_,[],ad,m,Z,Z⟩
end Go.Proofs.YtebbefpdncgoiaaGreatDoor
