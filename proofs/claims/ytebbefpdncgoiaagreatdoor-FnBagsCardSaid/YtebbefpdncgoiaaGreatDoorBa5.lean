/- Parts of the proof: BDW, BEW, Qb, Pf, Pg, T1D, Qc, Qd, Qe, V1D. -/
import Derived.Test.YtebbefpdncgoiaaGreatDoorBa4
import Derived.Test.YtebbefpdncgoiaaGreatDoorProg
import Derived.KernelRfl
import Derived.Lib.TrailingZeros
set_option linter.unusedVariables false
set_option linter.unusedSimpArgs false
set_option linter.unusedSectionVars false
set_option maxRecDepth 100000
namespace Go.Proofs.YtebbefpdncgoiaaGreatDoor
open Go Go.Sx
theorem Pl4 :Cm Tryz.prog 4:=Tryz.isAgg4
theorem T142 :SlT Tryz.prog 142 4 1 1 (.bool false):=⟨Tryz.underlying142,Tryz.t4,by kernel_rfl,by kernel_rfl,by kernel_rfl,by kernel_rfl⟩
theorem Wk.K0 {W w:World}{G:GH}{H:List Itm}{v0:Value}{b1:Nat}{x0:(List Int)}{x1_0:Int}(m:Mem W G w (Itm.box b1 3 [(.int .i64 x1_0)]::H))(h0:RSl (RI .i64) G v0 x0){y:Bool}(hd:D.K0 x0 x1_0=some y):
  Calls Tryz.prog 145 #[v0,(.pointer (some ⟨b1,0,none⟩))] w (Res W G H (fun _ Ho v=>Ho=[Itm.box b1 3 [(.int .i64 x1_0)]]∧v=(.bool y))):=by
 refine As (args:=[v0,(.pointer (some ⟨b1,0,none⟩))]) (N:=13) [.tmp 3] Tryz.func145 Z Z (Nat.le_of_ble_eq_true Z) Z fun a f=> ?_
 unfold D.K0 at hd
 refine Ac ?_
 refine Ad f Z fun a f=>Aa (Ac ?_)
 refine Ab f Z fun a f=>AZ Tryz.underlying42 f Z Z h0 fun a f=>Ah f Z Z CI fun a f=>Ab f Z fun a f=> ?_
 obtain⟨aa,ab,hd⟩:=bind_some hd
 refine Bz 5 (fun a w=>∃ac,GLe G ac∧Mem W ac w (Itm.box b1 3 [(.int .i64 x1_0)]::H)∧Fr a 13 [(0,v0),(1,(.pointer (some ⟨b1,0,none⟩))),(4,v0),(5,(.int .i64 (x0.length:Int))),(6,(.bool ((x0.length:Int) !=2))),(7,(.bool ((x0.length:Int) !=2))),(12,(.bool aa))]) ?_ ?_
 ·rcases Ae ab with⟨ad,ab⟩|⟨ad,ab⟩
  ·refine AE f ad fun a f=> ?_
   refine AE f ad fun a f=>AE f ad fun a f=>AE f ad fun a f=>l_o f (AO (f.eval Z) ad (f.eval Z)) fun a f=> ?_
   obtain rfl:=sj ab
   exact⟨_,gr,m,f.k Z⟩
  ·refine AB f ad ?_
   refine Ab f Z fun a f=>AB f ad ?_
   refine AF 0 0 m Pl3 f Z Z Z Z fun a f=>AB f ad ?_
   obtain⟨ae,af,ab⟩:=bind_some ab
   refine Bi f Z Tryz.call95 (Wk.w m h0 af) fun ag w ah m a f=> ?_
   have h0:=rd1 ah h0
   refine AB f ad ?_
   refine l_o f (Bd (f.eval Z)) fun a f=>l_o f (AP (f.eval Z) ad (f.eval Z)) fun a f=> ?_
   obtain rfl:=sj ab
   exact⟨_,ah,m,f.k Z⟩
 ·rintro a w ⟨ac,ai,m,f⟩
  have h0:=rd1 ai h0
  refine Ad f Z fun a f=>Aa ?_
  refine Aq ?_
  obtain rfl:=sj hd
  exact⟨[(.bool aa)],⟨f.get _ _ Z,trivial⟩,f.defers,_,[Itm.box b1 3 [(.int .i64 x1_0)]],ai,m,Z,Z⟩
theorem Wk.p1 {W w:World}{G:GH}{H:List Itm}{v0:Value}{b1c0:Nat}{x0:(List (List Int))}{x1c0_0:Int}(m:Mem W G w (Itm.box b1c0 3 [(.int .i64 x1c0_0)]::H))(h0:RSl (RSl (RI .i64)) G v0 x0){y:Int}(hd:D.p1 x0 x1c0_0=some y):
  Calls Tryz.prog 178 #[v0,(.func (.func 145) #[] #[(.pointer (some ⟨b1c0,0,none⟩))])] w (Res W G H (fun _ Ho v=>Ho=[Itm.box b1c0 3 [(.int .i64 x1c0_0)]]∧v=(.int .i64 y))):=by
 refine As (args:=[v0,(.func (.func 145) #[] #[(.pointer (some ⟨b1c0,0,none⟩))])]) (N:=19) [.tmp 4] Tryz.func178 Z Z (Nat.le_of_ble_eq_true Z) Z fun a f=> ?_
 unfold D.p1 at hd
 refine Ac ?_
 refine Ad f Z fun a f=>Aa (Af (Ac ?_))
 refine Ab f Z fun a f=>AZ Tryz.underlying22 f Z Z h0 fun a f=>Ab f Z fun a f=>Aa ?_
 obtain⟨aa,ab,hd⟩:=bind_some hd
 refine AC (fun a w=>∃q_33':Unit,aa= .inl q_33'∧∃(ac:GH),GLe G ac∧Fr a 19 []∧Mem W ac w (Itm.box b1c0 3 [(.int .i64 x1c0_0)]::H)) ?_ ?_
 ·refine Aj ?_
  refine AA (fun ad a w=>∃ae:Int,ae=ad∧∃(af:GH),GLe G af∧Fr a 19 [(0,v0),(1,(.func (.func 145) #[] #[(.pointer (some ⟨b1c0,0,none⟩))])),(7,(.int .i64 (x0.length:Int))),(8,(.int .i64 ae))]∧Mem W af w (Itm.box b1c0 3 [(.int .i64 x1c0_0)]::H)) ab ⟨_,Z,_,gr,f.k Z,m⟩ ?_
  clear ab f m
  rintro ad ag ah ai a w ⟨ae,rfl,af,aj,f,m⟩
  have h0:=rd2 aj h0
  refine Ac ?_
  refine Ah f Z Z AJ fun a f=>Aa (Af ?_)
  rcases Ae ah with⟨ak,ah⟩|⟨ak,ah⟩
  ·refine Al f Z ak ?_
   refine Am ?_
   refine Af (Aj (Ac ?_))
   refine Ab f Z fun a f=>Ad f Z fun a f=>Aa (Ac ?_)
   refine Ab f Z fun a f=>Ab f Z fun a f=>Ab f Z fun a f=> ?_
   obtain⟨al,am,ah⟩:=bind_some ah
   refine Bf T22 f Z Z Z h0 am fun an ao a ap aq f=>AG m AY f Z Z ap fun a f=> ?_
   obtain⟨ar,au,ah⟩:=bind_some ah
   refine Fl f Z Z Z Tryz.call145 (Wk.K0 m aq au) fun av aw ax w ay m az a f=> ?_
   obtain⟨rfl,rfl⟩:=az
   have h0:=rd2 ay h0
   have ap:=At.mono ay ap
   have aq:=rd1 ay aq
   refine Aa ?_
   rcases Ae ah with⟨aA,ah⟩|⟨aA,ah⟩
   ·refine Al f Z aA ?_
    refine Ac ?_
    refine Ab f Z fun a f=>Ad f Z fun a f=>Aa ?_
    refine Aq ?_
    obtain rfl:=sj ah
    obtain rfl:=ai _ rfl
    obtain rfl:=sj hd
    exact⟨[(.int .i64 ae)],⟨f.get _ _ Z,trivial⟩,f.defers,_,[Itm.box b1c0 3 [(.int .i64 x1c0_0)]],(gt aj ay),m,Z,Z⟩
   ·refine Ai f Z aA ?_
    refine Am ?_
    refine Ak ?_
    refine Ah f Z Z Ar fun a f=>Ab f Z fun a f=>Aa ?_
    obtain rfl:=sj ah
    exact⟨_,Z,_,Z,_,(gt aj ay),f.k Z,m⟩
  ·refine Ai f Z ak ?_
   refine Ax Z ?_
   obtain rfl:=sj ah
   obtain rfl:=ai _ rfl
   exact⟨_,Z,_,aj,f.weak trivial,m⟩
 ·rintro a w ⟨_,rfl,ac,aB,f,m⟩
  refine Ac ?_
  refine Ad f Z fun a f=>Aa ?_
  refine Aq ?_
  obtain rfl:=sj hd
  exact⟨[(.int .i64 (-1))],⟨f.get _ _ Z,trivial⟩,f.defers,_,[Itm.box b1c0 3 [(.int .i64 x1c0_0)]],aB,m,Z,Z⟩
theorem Wk.r1 {W w:World}{G:GH}{H:List Itm}{v0:Value}{b1c0:Nat}{x0:(List (List Int))}{x1c0_0:Int}(m:Mem W G w (Itm.box b1c0 3 [(.int .i64 x1c0_0)]::H))(h0:RSl (RSl (RI .i64)) G v0 x0){y:Bool}(hd:D.r1 x0 x1c0_0=some y):
  Calls Tryz.prog 144 #[v0,(.func (.func 145) #[] #[(.pointer (some ⟨b1c0,0,none⟩))])] w (Res W G H (fun _ Ho v=>Ho=[Itm.box b1c0 3 [(.int .i64 x1c0_0)]]∧v=(.bool y))):=by
 refine As (args:=[v0,(.func (.func 145) #[] #[(.pointer (some ⟨b1c0,0,none⟩))])]) (N:=9) [.tmp 4] Tryz.func144 Z Z (Nat.le_of_ble_eq_true Z) Z fun a f=> ?_
 unfold D.r1 at hd
 refine Ac ?_
 refine Ad f Z fun a f=>Aa (Ac ?_)
 refine Ab f Z fun a f=>Ab f Z fun a f=> ?_
 obtain⟨aa,ab,hd⟩:=bind_some hd
 refine AK f Z Tryz.call178 (Wk.p1 m h0 ab) fun ac ad ae w af m ag a f=> ?_
 obtain⟨rfl,rfl⟩:=ag
 have h0:=rd2 af h0
 refine Ah f Z Z BM fun a f=>Ad f Z fun a f=>Aa ?_
 refine Aq ?_
 obtain rfl:=sj hd
 exact⟨[(.bool (decide ((0:Int)≤aa)))],⟨f.get _ _ Z,trivial⟩,f.defers,_,[Itm.box b1c0 3 [(.int .i64 x1c0_0)]],af,m,Z,Z⟩
theorem Wk.l {W w:World}{G:GH}{H:List Itm}{v0:Value}{x0:(List (List Int))}{x1:Int}(m:Mem W G w (H))(h0:RSl (RSl (RI .i64)) G v0 x0){y:Bool}(hd:D.l x0 x1=some y):
  Calls Tryz.prog 94 #[v0,(.int .i64 x1)] w (Res W G H (fun _ Ho v=>Ho=[]∧v=(.bool y))):=by
 refine As (args:=[v0,(.int .i64 x1)]) (N:=9) [.tmp 4] Tryz.func94 Z Z (Nat.le_of_ble_eq_true Z) Z fun a f=> ?_
 unfold D.l at hd
 refine Ac ?_
 refine Bw (cs:=[(.int .i64 x1)]) m f Z Z Z fun aa w a m f=>Ad f Z fun a f=>Aa (Ac ?_)
 refine Ab f Z fun a f=>EK f Z Z Z fun a f=> ?_
 obtain⟨ab,ac,hd⟩:=bind_some hd
 refine AK f Z Tryz.call144 (Wk.r1 m h0 ac) fun ad ae af w ag m ah a f=> ?_
 obtain⟨rfl,rfl⟩:=ah
 have h0:=rd2 ag h0
 refine l_o f (Bd (f.eval Z)) fun a f=>Ad f Z fun a f=>Aa ?_
 refine Aq ?_
 have m:Mem W ae w H:=Mem.drop (H':=[Itm.box aa 3 [(.int .i64 x1)]]) m
 obtain rfl:=sj hd
 exact⟨[(.bool (!ab))],⟨f.get _ _ Z,trivial⟩,f.defers,_,[],ag,m,Z,Z⟩
theorem Wk.n0 {W w:World}{G:GH}{H:List Itm}{v0:Value}{it0:Itm}{x0:(List Int)}{x1:Int}{x2:Int}(m:Mem W G w (it0::H))(o0:Ow (RI .u32) 76 G it0 v0 x0){y:((List Int))}(hd:D.n0 x0 x1 x2=some y):
  Calls Tryz.prog 55 #[v0,(.int .i64 x1),(.int .i64 x2)] w (Res W G H (fun G' Ho _=>∃i0:Itm,Ho=[i0]∧Ow (RI .u32) 76 G' i0 v0 y)):=by
 refine As (args:=[v0,(.int .i64 x1),(.int .i64 x2)]) (N:=22) [] Tryz.func55 Z Z (Nat.le_of_ble_eq_true Z) Z fun a f=> ?_
 unfold D.n0 at hd
 refine Af ?_
 refine AT 8 Aw (by kernel_rfl) m ?_
 refine Ag 0 8 Z f Z fun a f=>Ag 1 8 Z f Z fun a f=> ?_
 obtain⟨aa,ab,hd⟩:=bind_some hd
 refine Az 2 8 0 m o0 T73 ab Z f Z Z fun ac a ad f=>AL 3 8 0 o0 Cw ad ab Z f Z fun ae a af f=> ?_
 subst af
 refine Ag 4 8 Z f Z fun a f=> ?_
 obtain⟨ag,ah,hd⟩:=bind_some hd
 refine Bh (i:=5) 8 Z (by kernel_rfl) Z f Z Z Z Tryz.call100 (fun _ _ w ai m=>Wk.c m ah) fun a f=>q_p 6 8 Z f (fun _=>AD (f.eval Z) (f.eval Z) b_or) fun a f=> ?_
 obtain⟨aj,ak,hd⟩:=bind_some hd
 refine Az 7 8 0 m o0 T73 ak Z f Z Z fun al a am f=>AI fun an w ao m=> ?_
 have o0:=od1 ao o0
 refine Au 0 m o0 Z Tryz.sizeOf76 f Z Z am ak Z Z Z fun ap w m aq=>Aa ?_
 refine AT 8 Aw (by kernel_rfl) m ?_
 refine Ag 0 8 Z f Z fun a f=>Ag 1 8 Z f Z fun a f=> ?_
 obtain⟨ar,au,hd⟩:=bind_some hd
 refine Az 2 8 0 m aq T73 au Z f Z Z fun av a aw f=>AL 3 8 0 aq Cw aw au Z f Z fun ax a ay f=> ?_
 subst ay
 refine Ag 4 8 Z f Z fun a f=> ?_
 obtain⟨az,aA,hd⟩:=bind_some hd
 refine Bh (i:=5) 8 Z (by kernel_rfl) Z f Z Z Z Tryz.call100 (fun _ _ w aB m=>Wk.c m aA) fun a f=>q_p 6 8 Z f (fun _=>AD (f.eval Z) (f.eval Z) b_or) fun a f=> ?_
 obtain⟨aC,aD,hd⟩:=bind_some hd
 refine Az 7 8 0 m aq T73 aD Z f Z Z fun aE a aF f=>AI fun aG w aH m=> ?_
 have aq:=od1 aH aq
 refine Au 0 m aq Z Tryz.sizeOf76 f Z Z aF aD Z Z Z fun aI w m aJ=>Aa ?_
 obtain rfl:=sj hd
 exact⟨[],trivial,f.defers,_,[aI],(gt ao aH),m,_,Z,aJ⟩
theorem Wk.S0 {W w:World}{G:GH}{H:List Itm}{v0_0:Value}{v0_1:Value}{x0_0:(List (List Int))}{x0_1:(List (List Int))}(m:Mem W G w (H))(h0_0:RSl (RSl (RI .i64)) G v0_0 x0_0)(h0_1:RSl (RSl (RI .i64)) G v0_1 x0_1){y:((List Int))}(hd:D.S0 x0_0 x0_1=some y):
  Calls Tryz.prog 96 #[(.agg #[v0_0,v0_1])] w (Res W G H (fun G' Ho v=>∃r0:Value,∃i0:Itm,Ho=[i0]∧r0=v∧Ow (RI .u32) 76 G' i0 r0 y)):=by
 refine As (args:=[(.agg #[v0_0,v0_1])]) (N:=27) [.tmp 2] Tryz.func96 Z Z (Nat.le_of_ble_eq_true Z) Z fun a f=> ?_
 unfold D.S0 at hd
 refine Ac ?_
 refine Bw (cs:=[v0_0,v0_1]) m f Z Z Z fun aa w a m f=>Ad f Z fun a f=>Aa (Ac ?_)
 refine Bn Tryz.underlying27 Z Tryz.sizeOf22 f Z fun a f=>AF 0 0 m Ba f Z Z Z Z fun a f=>AZ Tryz.underlying22 f Z Z h0_0 fun a f=> ?_
 obtain⟨ab,ac,hd⟩:=bind_some hd
 refine Da (R:=(RI .u32)) m T73 Z (by decide) Z f Z Z Z ac fun ad ae w a m af f=>Ad f Z fun a f=>Aa (Af (Ac ?_))
 refine Bn Tryz.underlying27 Z Tryz.sizeOf22 f Z fun a f=>AF 1 1 m Ba f Z Z Z Z fun a f=>AZ Tryz.underlying22 f Z Z h0_1 fun a f=>Ab f Z fun a f=>Aa ?_
 obtain⟨ag,ah,hd⟩:=bind_some hd
 refine AC (fun a w=>∃ai:List Int,ai=ag∧∃(aj:GH) (ak:Itm),GLe G aj∧Fr a 27 [(3,ae)]∧Mem W aj w (ak::H)∧Ow (RI .u32) 76 aj ak ae ai) ?_ ?_
 ·refine Aj ?_
  have m:=m.eraseAt 1
  refine AA (fun al a w=>∃am:List Int,∃an:Int,(am,an)=al∧∃(ao:GH) (ap:Itm),GLe G ao∧Fr a 27 [(3,ae),(11,v0_1),(12,(.int .i64 (x0_1.length:Int))),(13,(.int .i64 an))]∧Mem W ao w (ap::H)∧Ow (RI .u32) 76 ao ap ae am) ah ⟨_,_,Z,_,ad,gr,f.k Z,m,af⟩ ?_
  clear ah f m
  rintro al aq ar au a w ⟨am,an,rfl,ao,ap,av,f,m,aw⟩
  have h0_1:=rd2 av h0_1
  refine Ac ?_
  refine Ah f Z Z AJ fun a f=>Aa (Af ?_)
  rcases Ae ar with⟨ax,ar⟩|⟨ax,ar⟩
  ·refine Al f Z ax ?_
   refine Am ?_
   refine Af (Aj (Ac ?_))
   obtain⟨ay,az,ar⟩:=bind_some ar
   refine Bf T22 f Z Z Z h0_1 az fun aA aB a aC aD f=>AG m AY f Z Z aC fun a f=>Ad f Z fun a f=>Aa ?_
   refine AT 7 Aw (by kernel_rfl) m ?_
   refine Ag 0 7 Z f Z fun a f=>Ag 1 7 Z f Z fun a f=> ?_
   obtain⟨aE,aF,ar⟩:=bind_some ar
   refine B2 2 7 T42 aD aF Z f Z Z fun aG aH a aI aJ f=> ?_
   subst aJ
   refine BZ 3 7 Pl2 aI Z f Z fun a f=>Ag 4 7 Z f Z fun a f=> ?_
   obtain⟨aK,aL,ar⟩:=bind_some ar
   refine B2 5 7 T42 aD aL Z f Z Z fun aM aN a aO aP f=> ?_
   subst aP
   refine BZ 6 7 Pl2 aO Z f Z fun a f=>AI fun aQ w aR m=> ?_
   have aD:=rd1 aR aD
   have h0_1:=rd2 aR h0_1
   have aI:=At.mono aR aI
   have aO:=At.mono aR aO
   have aw:=od1 aR aw
   obtain⟨aS,aT,ar⟩:=bind_some ar
   refine AK f Z Tryz.call55 (Wk.n0 m aw aT) fun aU aV aW w aX m aY a f=> ?_
   obtain⟨aZ,rfl,a0⟩:=aY
   have aD:=rd1 aX aD
   have h0_1:=rd2 aX h0_1
   have aI:=At.mono aX aI
   have aO:=At.mono aX aO
   refine Aa (Ak ?_)
   refine Ah f Z Z Ar fun a f=>Ab f Z fun a f=>Aa ?_
   obtain rfl:=sj ar
   exact⟨_,Z,_,_,Z,_,aZ,(gt av (gt aR aX)),f.k Z,m,a0⟩
  ·refine Ai f Z ax ?_
   refine Ax Z ?_
   obtain rfl:=sj ar
   obtain rfl:=au _ rfl
   exact⟨_,Z,_,ap,av,f.k Z,m,aw⟩
 ·rintro a w ⟨ai,rfl,aj,ak,a1,f,m,a2⟩
  refine Ac ?_
  refine Ab f Z fun a f=>Ad f Z fun a f=>Aa ?_
  refine Aq ?_
  obtain rfl:=sj hd
  exact⟨[ae],⟨f.get _ _ Z,trivial⟩,f.defers,_,[ak],a1,m,_,_,Z,Z,a2⟩
theorem Wk.x {W w:World}{G:GH}{H:List Itm}{v0:Value}{x0:(List (List Int))}(m:Mem W G w (H))(h0:RSl (RSl (RI .i64)) G v0 x0){y:((List Int))}(hd:D.x x0=some y):
  Calls Tryz.prog 97 #[v0] w (Res W G H (fun G' Ho v=>∃r0:Value,∃i0:Itm,Ho=[i0]∧r0=v∧Ow (RI .u32) 76 G' i0 r0 y)):=by
 refine As (args:=[v0]) (N:=20) [.tmp 2] Tryz.func97 Z Z (Nat.le_of_ble_eq_true Z) Z fun a f=> ?_
 unfold D.x at hd
 refine Ac ?_
 refine Ad f Z fun a f=>Aa (Ac ?_)
 refine A8 (R:=(RI .u32)) (xs:=([]:List Int)) (RI.one _) m T71 f Z Z Z (by decide) (All2.nil _) fun aa ab w a m ac f=>Ad f Z fun a f=>Aa (Af (Ac ?_))
 refine Ab f Z fun a f=>AZ Tryz.underlying22 f Z Z h0 fun a f=>Ab f Z fun a f=>Aa ?_
 obtain⟨ad,ae,hd⟩:=bind_some hd
 refine AC (fun a w=>∃af:List Int,af=ad∧∃(ag:GH) (ah:Value) (ai:Itm),GLe G ag∧Fr a 20 [(3,ah)]∧Mem W ag w (ai::H)∧Ow (RI .u32) 76 ag ai ah af) ?_ ?_
 ·refine Aj ?_
  refine AA (fun aj a w=>∃ak:List Int,∃al:Int,(ak,al)=aj∧∃(am:GH) (an:Value) (ao:Itm),GLe G am∧Fr a 20 [(3,an),(7,v0),(8,(.int .i64 (x0.length:Int))),(9,(.int .i64 al))]∧Mem W am w (ao::H)∧Ow (RI .u32) 76 am ao an ak) ae ⟨_,_,Z,_,ab,aa,gr,f.k Z,m,ac⟩ ?_
  clear ae f m
  rintro aj ap aq ar a w ⟨ak,al,rfl,am,an,ao,au,f,m,av⟩
  have h0:=rd2 au h0
  refine Ac ?_
  refine Ah f Z Z AJ fun a f=>Aa (Af ?_)
  rcases Ae aq with⟨aw,aq⟩|⟨aw,aq⟩
  ·refine Al f Z aw ?_
   refine Am ?_
   refine Af (Aj (Ac ?_))
   obtain⟨ax,ay,aq⟩:=bind_some aq
   refine Bf T22 f Z Z Z h0 ay fun az aA a aB aC f=>AG m AY f Z Z aB fun a f=>Ad f Z fun a f=>Aa (Ak ?_)
   refine Ab f Z fun a f=>Ab f Z fun a f=> ?_
   obtain⟨aD,aE,aq⟩:=bind_some aq
   refine Bi f Z Tryz.call118 (Wk.U m aC aE) fun aF w aG m a f=> ?_
   have aC:=rd1 aG aC
   have h0:=rd2 aG h0
   have av:=od1 aG av
   refine A8 (R:=(RI .u32)) (xs:=([aD]:List Int)) (RI.one _) m T71 f Z Z Z (by decide) (All2.cons Z (All2.nil _)) fun aH aI w a m aJ f=> ?_
   obtain⟨aK,aL,aq⟩:=bind_some aq
   refine Bo (RI.one _) 1 m av Z T71 Z (by decide) f Z Z Z (Ow.src (j:=0) aJ m Z) aL fun aM aN w a m aO f=>Ad f Z fun a f=>Aa (Ak ?_)
   refine Ah f Z Z Ar fun a f=>Ab f Z fun a f=>Aa ?_
   have m:=m.front 1 rfl
   have m:=m.eraseAt 1
   obtain rfl:=sj aq
   exact⟨_,Z,_,_,Z,_,aN,aM,(gt au aG),f.k Z,m,aO⟩
  ·refine Ai f Z aw ?_
   refine Ax Z ?_
   obtain rfl:=sj aq
   obtain rfl:=ar _ rfl
   exact⟨_,Z,_,an,ao,au,f.k Z,m,av⟩
 ·rintro a w ⟨af,rfl,ag,ah,ai,aP,f,m,aQ⟩
  refine Ac ?_
  refine Ab f Z fun a f=>Ad f Z fun a f=>Aa ?_
  refine Aq ?_
  obtain rfl:=sj hd
  exact⟨[ah],⟨f.get _ _ Z,trivial⟩,f.defers,_,[ai],aP,m,_,_,Z,Z,aQ⟩
theorem Wk.h0 {W w:World}{G:GH}{H:List Itm}{v0:Value}{x0:(List Int)}{x1:Int}{x2:Int}(hW:CP W)(m:Mem W G w (H))(h0:RSl (RI .u32) G v0 x0){y:Int}(hd:D.h0 x0 x1 x2=some y):
  Calls Tryz.prog 52 #[v0,(.int .i64 x1),(.int .u32 x2)] w (Res W G H (fun _ Ho v=>Ho=[]∧v=(.int .u32 y))):=by
 refine As (args:=[v0,(.int .i64 x1),(.int .u32 x2)]) (N:=35) [.tmp 6] Tryz.func52 Z Z (Nat.le_of_ble_eq_true Z) Z fun a f=> ?_
 unfold D.h0 at hd
 refine Ac ?_
 refine Ad f Z fun a f=>Aa (Ac ?_)
 refine Ab f Z fun a f=> ?_
 obtain⟨aa,ab,hd⟩:=bind_some hd
 refine Bi f Z Tryz.call100 (Wk.c m ab) fun ac w ad m a f=> ?_
 have h0:=rd1 ad h0
 refine Ad f Z fun a f=>Aa ?_
 obtain⟨ae,af,hd⟩:=bind_some hd
 refine Aj ?_
 refine AA (fun ag a w=>∃ah:Int,ah=ag∧∃(ai:GH),GLe ac ai∧Fr a 35 [(0,v0),(2,(.int .u32 x2)),(7,(.int .u32 ah))]∧Mem W ai w (H)) af ⟨_,Z,_,gr,f.k Z,m⟩ ?_
 clear af f m
 rintro ag aj ak al a w ⟨ah,rfl,ai,am,f,m⟩
 have h0:=rd1 am h0
 refine Aj (Ac ?_)
 refine Ab f Z fun a f=>Ad f Z fun a f=>Aa (Af (Ac ?_))
 refine Ab f Z fun a f=> ?_
 obtain⟨an,ao,ak⟩:=bind_some ak
 refine AK f Z Tryz.call103 (Wk.i hW m ao) fun ap aq ar w au m av a f=> ?_
 obtain⟨aw,ax,rfl,rfl,ay⟩:=av
 have h0:=rd1 au h0
 refine BB 0 m ay Z Tryz.underlying94 f Z Z fun a f=>Ab f Z fun a f=>Aa ?_
 obtain⟨az,aA,ak⟩:=bind_some ak
 refine AC (fun a w=>∃aB:Int,aB=az∧∃(aC:GH),GLe aq aC∧Fr a 35 [(0,v0),(2,(.int .u32 x2)),(7,(.int .u32 ah)),(8,(.int .u32 aB))]∧Mem W aC w (H)) ?_ ?_
 ·refine Aj ?_
  refine AA (fun aD a w=>∃aE:Int,∃aF:Int,(aE,aF)=aD∧∃(aG:GH),GLe aq aG∧Fr a 35 [(0,v0),(2,(.int .u32 x2)),(7,(.int .u32 ah)),(8,(.int .u32 aE)),(15,aw),(16,(.int .i64 (an.length:Int))),(17,(.int .i64 aF))]∧Mem W aG w (ax::H)) aA ⟨_,_,Z,_,gr,f.k Z,m⟩ ?_
  clear aA f m
  rintro aD aH aI aJ a w ⟨aE,aF,rfl,aG,aK,f,m⟩
  have h0:=rd1 aK h0
  have ay:=od1 aK ay
  refine Ac ?_
  refine Ah f Z Z AJ fun a f=>Aa (Af ?_)
  rcases Ae aI with⟨aL,aI⟩|⟨aL,aI⟩
  ·refine Al f Z aL ?_
   refine Am ?_
   refine Af (Aj (Ac ?_))
   obtain⟨aM,aN,aI⟩:=bind_some aI
   refine AW 0 m ay Z T94 f Z Z Z aN fun aO a aP f=>BL 0 m ay Z Pl3 f Z Z aP aN fun aQ a aR f=> ?_
   subst aR
   refine Ad f Z fun a f=>Aa (Ak ?_)
   refine Ab f Z fun a f=>Ab f Z fun a f=>Ab f Z fun a f=> ?_
   obtain⟨aS,aT,aI⟩:=bind_some aI
   refine Bf T73 f Z Z Z h0 aT fun aU aV a aW aX f=> ?_
   subst aX
   refine AG m Cw f Z Z aW fun a f=>Ab f Z fun a f=>Ah f Z Z DH fun a f=>Ah f Z Z b_or fun a f=>Ad f Z fun a f=>Aa (Ak ?_)
   refine Ah f Z Z Ar fun a f=>Ab f Z fun a f=>Aa ?_
   obtain rfl:=sj aI
   exact⟨_,Z,_,_,Z,_,aK,f.k Z,m⟩
  ·refine Ai f Z aL ?_
   refine Ax Z ?_
   have m:Mem W aG w H:=Mem.drop (H':=[ax]) m
   obtain rfl:=sj aI
   obtain rfl:=aJ _ rfl
   exact⟨_,Z,_,aK,f.k Z,m⟩
 ·rintro a w ⟨aB,rfl,aC,aY,f,m⟩
  have h0:=rd1 aY h0
  refine Af (Ac ?_)
  refine Ab f Z fun a f=>Ab f Z fun a f=>Ah f Z Z By fun a f=>Aa ?_
  rcases Ae ak with⟨aZ,ak⟩|⟨aZ,ak⟩
  ·refine Al f Z aZ ?_
   refine Ac ?_
   refine Ab f Z fun a f=>Ad f Z fun a f=>Aa ?_
   refine Aq ?_
   obtain rfl:=sj ak
   obtain rfl:=al _ rfl
   obtain rfl:=sj hd
   exact⟨[(.int .u32 ah)],⟨f.get _ _ Z,trivial⟩,f.defers,_,[],(gt ad (gt am (gt au aY))),m,Z,Z⟩
  ·refine Ai f Z aZ ?_
   refine Am ?_
   refine Ak ?_
   refine Ab f Z fun a f=>Ad f Z fun a f=>Aa ?_
   obtain rfl:=sj ak
   exact⟨_,Z,_,Z,_,(gt am (gt au aY)),f.k Z,m⟩
theorem Wk.T {W w:World}{G:GH}{H:List Itm}{v0:Value}{x0:(List Int)}{x1:Int}(hW:CP W)(m:Mem W G w (H))(h0:RSl (RI .u32) G v0 x0){y:Bool}(hd:D.T x0 x1=some y):
  Calls Tryz.prog 98 #[v0,(.int .u32 x1)] w (Res W G H (fun _ Ho v=>Ho=[]∧v=(.bool y))):=by
 refine As (args:=[v0,(.int .u32 x1)]) (N:=16) [.tmp 4] Tryz.func98 Z Z (Nat.le_of_ble_eq_true Z) Z fun a f=> ?_
 unfold D.T at hd
 refine Ac ?_
 refine Ad f Z fun a f=>Aa (Ac ?_)
 refine Ab f Z fun a f=>Ah f Z Z CI fun a f=>Ab f Z fun a f=> ?_
 obtain⟨aa,ab,hd⟩:=bind_some hd
 refine Bz 8 (fun a w=>∃ac,GLe G ac∧Mem W ac w (H)∧Fr a 16 [(0,v0),(1,(.int .u32 x1)),(5,(.int .u32 x1)),(6,(.bool (x1 !=0))),(7,(.bool (x1 !=0))),(15,(.bool aa))]) ?_ ?_
 ·rcases Ae ab with⟨ad,ab⟩|⟨ad,ab⟩
  ·refine AB f ad ?_
   refine Ab f Z fun a f=>AB f ad ?_
   refine Ab f Z fun a f=>AB f ad ?_
   obtain⟨ae,af,ab⟩:=bind_some ab
   refine Bi f Z Tryz.call147 (Wk.G hW m af) fun ag w ah m a f=> ?_
   have h0:=rd1 ah h0
   refine AB f ad ?_
   refine Ab f Z fun a f=>AB f ad ?_
   obtain⟨ai,aj,ab⟩:=bind_some ab
   refine Bi f Z Tryz.call52 (Wk.h0 hW m h0 aj) fun ak w al m a f=> ?_
   have h0:=rd1 al h0
   refine AB f ad ?_
   refine Ab f Z fun a f=>AB f ad ?_
   refine Ah f Z Z By fun a f=>l_o f (AO (f.eval Z) ad (f.eval Z)) fun a f=> ?_
   obtain rfl:=sj ab
   exact⟨_,(gt ah al),m,f.k Z⟩
  ·refine AE f ad fun a f=> ?_
   refine AE f ad fun a f=>AE f ad fun a f=>AE f ad fun a f=>AE f ad fun a f=>AE f ad fun a f=>AE f ad fun a f=>l_o f (AP (f.eval Z) ad (f.eval Z)) fun a f=> ?_
   obtain rfl:=sj ab
   exact⟨_,gr,m,f.k Z⟩
 ·rintro a w ⟨ac,am,m,f⟩
  have h0:=rd1 am h0
  refine Ad f Z fun a f=>Aa ?_
  refine Aq ?_
  obtain rfl:=sj hd
  exact⟨[(.bool aa)],⟨f.get _ _ Z,trivial⟩,f.defers,_,[],am,m,Z,Z⟩
theorem Wk.j {W w:World}{G:GH}{H:List Itm}{x0:Int}{x1:Int}(m:Mem W G w (H)){y:Bool}(hd:D.j x0 x1=some y):
  Calls Tryz.prog 54 #[(.int .u32 x0),(.int .i64 x1)] w (Res W G H (fun _ Ho v=>Ho=[]∧v=(.bool y))):=by
 refine As (args:=[(.int .u32 x0),(.int .i64 x1)]) (N:=10) [.tmp 4] Tryz.func54 Z Z (Nat.le_of_ble_eq_true Z) Z fun a f=> ?_
 unfold D.j at hd
 refine Ac ?_
 refine Ad f Z fun a f=>Aa (Ac ?_)
 refine Ab f Z fun a f=>Ab f Z fun a f=> ?_
 obtain⟨aa,hd⟩:=Do hd
 refine l_o f (r_shr (f.eval Z) (f.eval Z) aa) fun a f=>Ah f Z Z DH fun a f=>Ah f Z Z By fun a f=>Ad f Z fun a f=>Aa ?_
 refine Aq ?_
 obtain rfl:=sj hd
 exact⟨[(.bool ((iand .u32 (BJ .u32 x0 x1) 1)==1))],⟨f.get _ _ Z,trivial⟩,f.defers,_,[],gr,m,Z,Z⟩
theorem Wk.m0 {W w:World}{G:GH}{H:List Itm}{v0:Value}{v1:Value}{x0:(List Int)}{x1:(List Int)}(m:Mem W G w (H))(h0:RSl (RI .u32) G v0 x0)(h1:RSl (RI .u32) G v1 x1){y:Bool}(hd:D.m0 x0 x1=some y):
  Calls Tryz.prog 99 #[v0,v1] w (Res W G H (fun _ Ho v=>Ho=[]∧v=(.bool y))):=by
 refine As (args:=[v0,v1]) (N:=41) [.tmp 4] Tryz.func99 Z Z (Nat.le_of_ble_eq_true Z) Z fun a f=> ?_
 unfold D.m0 at hd
 refine Ac ?_
 refine Ad f Z fun a f=>Aa (Af (Ac ?_))
 refine Ab f Z fun a f=>AZ Tryz.underlying73 f Z Z h0 fun a f=>Ab f Z fun a f=>Aa ?_
 obtain⟨aa,ab,hd⟩:=bind_some hd
 refine AC (fun a w=>∃q_191':Unit,aa= .inl q_191'∧∃(ac:GH),GLe G ac∧Fr a 41 []∧Mem W ac w (H)) ?_ ?_
 ·refine Aj ?_
  refine AA (fun ad a w=>∃ae:Int,ae=ad∧∃(af:GH),GLe G af∧Fr a 41 [(1,v1),(10,v0),(11,(.int .i64 (x0.length:Int))),(12,(.int .i64 ae))]∧Mem W af w (H)) ab ⟨_,Z,_,gr,f.k Z,m⟩ ?_
  clear ab f m
  rintro ad ag ah ai a w ⟨ae,rfl,af,aj,f,m⟩
  have h1:=rd1 aj h1
  have h0:=rd1 aj h0
  refine Ac ?_
  refine Ah f Z Z AJ fun a f=>Aa (Af ?_)
  rcases Ae ah with⟨ak,ah⟩|⟨ak,ah⟩
  ·refine Al f Z ak ?_
   refine Am ?_
   refine Af (Aj (Ac ?_))
   refine Ab f Z fun a f=> ?_
   obtain⟨al,am,ah⟩:=bind_some ah
   refine Bf T73 f Z Z Z h0 am fun an ao a ap aq f=> ?_
   subst aq
   refine AG m Cw f Z Z ap fun a f=>Ad f Z fun a f=>Ad f Z fun a f=>Aa (Ac ?_)
   refine Ad f Z fun a f=>Aa (Af (Ac ?_))
   refine Ab f Z fun a f=>AZ Tryz.underlying71 f Z Z h1 fun a f=>Ab f Z fun a f=>Aa ?_
   obtain⟨ar,au,ah⟩:=bind_some ah
   refine AC (fun a w=>∃av:Int,av=ar∧∃(aw:GH),GLe af aw∧Fr a 41 [(1,v1),(5,(.int .i64 ae)),(6,(.int .u32 al)),(7,(.int .u32 av)),(10,v0),(11,(.int .i64 (x0.length:Int))),(12,(.int .i64 ae))]∧Mem W aw w (H)) ?_ ?_
   ·refine Aj ?_
    refine AA (fun ax a w=>∃ay:Int,∃az:Int,(ay,az)=ax∧∃(aA:GH),GLe af aA∧Fr a 41 [(1,v1),(5,(.int .i64 ae)),(6,(.int .u32 al)),(7,(.int .u32 ay)),(10,v0),(11,(.int .i64 (x0.length:Int))),(12,(.int .i64 ae)),(17,v1),(18,(.int .i64 (x1.length:Int))),(19,(.int .i64 az))]∧Mem W aA w (H)) au ⟨_,_,Z,_,gr,f.k Z,m⟩ ?_
    clear au f m
    rintro ax aB aC aD a w ⟨ay,az,rfl,aA,aE,f,m⟩
    have h1:=rd1 aE h1
    have h0:=rd1 aE h0
    refine Ac ?_
    refine Ah f Z Z AJ fun a f=>Aa (Af ?_)
    rcases Ae aC with⟨aF,aC⟩|⟨aF,aC⟩
    ·refine Al f Z aF ?_
     refine Am ?_
     refine Af (Aj (Ac ?_))
     obtain⟨aG,aH,aC⟩:=bind_some aC
     refine Bf T71 f Z Z Z h1 aH fun aI aJ a aK aL f=> ?_
     subst aL
     refine AG m Cw f Z Z aK fun a f=>Ad f Z fun a f=>Aa (Ac ?_)
     refine Ab f Z fun a f=>Ab f Z fun a f=> ?_
     obtain⟨aM,aN,aC⟩:=bind_some aC
     refine Bi f Z Tryz.call54 (Wk.j m aN) fun aO w aP m a f=> ?_
     have h1:=rd1 aP h1
     have h0:=rd1 aP h0
     refine Aa ?_
     rcases Ae aC with⟨aQ,aC⟩|⟨aQ,aC⟩
     ·refine Al f Z aQ ?_
      refine Ak ?_
      refine Ab f Z fun a f=>Ab f Z fun a f=>Ah f Z Z b_or fun a f=>Ad f Z fun a f=>Aa (Ak ?_)
      refine Ah f Z Z Ar fun a f=>Ab f Z fun a f=>Aa ?_
      obtain rfl:=sj aC
      exact⟨_,Z,_,_,Z,_,(gt aE aP),f.k Z,m⟩
     ·refine Ai f Z aQ ?_
      refine Am ?_
      refine Ak ?_
      refine Ah f Z Z Ar fun a f=>Ab f Z fun a f=>Aa ?_
      obtain rfl:=sj aC
      exact⟨_,Z,_,_,Z,_,(gt aE aP),f.k Z,m⟩
    ·refine Ai f Z aF ?_
     refine Ax Z ?_
     obtain rfl:=sj aC
     obtain rfl:=aD _ rfl
     exact⟨_,Z,_,aE,f.k Z,m⟩
   ·rintro a w ⟨av,rfl,aw,aR,f,m⟩
    have h1:=rd1 aR h1
    have h0:=rd1 aR h0
    refine Ac ?_
    refine Ab f Z fun a f=>Ab f Z fun a f=> ?_
    obtain⟨aS,aT,ah⟩:=bind_some ah
    refine Bi f Z Tryz.call54 (Wk.j m aT) fun aU w aV m a f=> ?_
    have h1:=rd1 aV h1
    have h0:=rd1 aV h0
    refine l_o f (Bd (f.eval Z)) fun a f=>Ab f Z fun a f=> ?_
    refine Bz 5 (fun a w=>∃aW,GLe aU aW∧Mem W aW w (H)∧Fr a 41 [(1,v1),(5,(.int .i64 ae)),(6,(.int .u32 al)),(7,(.int .u32 av)),(10,v0),(11,(.int .i64 (x0.length:Int))),(12,(.int .i64 ae)),(30,(.int .u32 av)),(31,(.int .i64 ae)),(32,(.bool aS)),(33,(.bool (!aS))),(34,(.bool (!aS))),(39,(.bool ((!aS)||((iandNot .u32 al av) !=0))))]) ?_ ?_
    ·rcases Bool.eq_false_or_eq_true (!aS) with aX|aX
     ·refine AE f aX fun a f=> ?_
      refine AE f aX fun a f=>AE f aX fun a f=>AE f aX fun a f=>l_o f (AO (f.eval Z) aX (f.eval Z)) fun a f=> ?_
      exact⟨_,gr,m,f.weak ⟨Z,Z,Z,Z,Z,Z,Z,Z,Z,Z,Z,Z,by rw[aX];rfl,trivial⟩⟩
     ·refine AB f aX ?_
      refine Ab f Z fun a f=>AB f aX ?_
      refine Ab f Z fun a f=>AB f aX ?_
      refine Ah f Z Z CN fun a f=>AB f aX ?_
      refine Ah f Z Z CI fun a f=>l_o f (AP (f.eval Z) aX (f.eval Z)) fun a f=> ?_
      exact⟨_,gr,m,f.weak ⟨Z,Z,Z,Z,Z,Z,Z,Z,Z,Z,Z,Z,by rw[aX];rfl,trivial⟩⟩
    ·rintro a w ⟨aW,aY,m,f⟩
     have h1:=rd1 aY h1
     have h0:=rd1 aY h0
     refine Aa ?_
     rcases Ae ah with⟨aZ,ah⟩|⟨aZ,ah⟩
     ·refine Al f Z aZ ?_
      refine Ac ?_
      refine Ad f Z fun a f=>Aa ?_
      refine Aq ?_
      obtain rfl:=sj ah
      obtain rfl:=ai _ rfl
      obtain rfl:=sj hd
      exact⟨[(.bool false)],⟨f.get _ _ Z,trivial⟩,f.defers,_,[],(gt aj (gt aR (gt aV aY))),m,Z,Z⟩
     ·refine Ai f Z aZ ?_
      refine Am ?_
      refine Ak ?_
      refine Ah f Z Z Ar fun a f=>Ab f Z fun a f=>Aa ?_
      obtain rfl:=sj ah
      exact⟨_,Z,_,Z,_,(gt aj (gt aR (gt aV aY))),f.k Z,m⟩
  ·refine Ai f Z ak ?_
   refine Ax Z ?_
   obtain rfl:=sj ah
   obtain rfl:=ai _ rfl
   exact⟨_,Z,_,aj,f.weak trivial,m⟩
 ·rintro a w ⟨_,rfl,ac,a0,f,m⟩
  refine Ac ?_
  refine Ad f Z fun a f=>Aa ?_
  refine Aq ?_
  obtain rfl:=sj hd
  exact⟨[(.bool true)],⟨f.get _ _ Z,trivial⟩,f.defers,_,[],a0,m,Z,Z⟩
theorem Wk.C {W w:World}{G:GH}{H:List Itm}{v0_0:Value}{v1_0:Value}{v1_1:Value}{x0_0:(List (List Int))}{x1_0:(List (List Int))}{x1_1:(List (List Int))}(hW:CP W)(m:Mem W G w (H))(h0_0:RSl (RSl (RI .i64)) G v0_0 x0_0)(h1_0:RSl (RSl (RI .i64)) G v1_0 x1_0)(h1_1:RSl (RSl (RI .i64)) G v1_1 x1_1){y:Bool}(hd:D.C x0_0 x1_0 x1_1=some y):
  Calls Tryz.prog 37 #[(.agg #[v0_0]),(.agg #[v1_0,v1_1])] w (Res W G H (fun _ Ho v=>Ho=[]∧v=(.bool y))):=by
 refine As (args:=[(.agg #[v0_0]),(.agg #[v1_0,v1_1])]) (N:=100) [.tmp 4] Tryz.func37 Z Z (Nat.le_of_ble_eq_true Z) Z fun a f=> ?_
 unfold D.C at hd
 refine Ac ?_
 refine Bw (cs:=[v0_0]) m f Z Z Z fun aa w a m f=>Bw (cs:=[v1_0,v1_1]) m f Z Z Z fun ab w a m f=>Ad f Z fun a f=>Aa (Ac ?_)
 refine Bn Tryz.underlying27 Z Tryz.sizeOf22 f Z fun a f=>AF 0 0 m Ba f Z Z Z Z fun a f=>AZ Tryz.underlying22 f Z Z h1_0 fun a f=>Ad f Z fun a f=>Aa (Af (Ac ?_))
 refine A5 1 0 (ds:=[v0_0]) m Bq f Z Z Z Z Z fun a f=> ?_
 obtain⟨ac,ad,hd⟩:=bind_some hd
 refine Bi f Z Tryz.call93 (Wk.F m h0_0 ad) fun ae w af m a f=> ?_
 have h0_0:=rd2 af h0_0
 have h1_0:=rd2 af h1_0
 have h1_1:=rd2 af h1_1
 refine l_o f (Bd (f.eval Z)) fun a f=>Ab f Z fun a f=> ?_
 refine Bz 3 (fun a w=>∃ag,GLe ae ag∧Mem W ag w (Itm.box ab 27 [v1_0,v1_1]::Itm.box aa 30 [v0_0]::H)∧Fr a 100 [(0,(.agg #[v0_0])),(1,(.agg #[v1_0,v1_1])),(2,(.pointer (some ⟨aa,0,none⟩))),(3,(.pointer (some ⟨ab,0,none⟩))),(5,(.int .i64 (x1_0.length:Int))),(17,(.agg #[v0_0])),(18,(.bool ac)),(19,(.bool (!ac))),(20,(.bool (!ac))),(23,(.bool ((!ac)||(decide ((x1_0.length:Int)<1)))))]) ?_ ?_
 ·rcases Bool.eq_false_or_eq_true (!ac) with ah|ah
  ·refine AE f ah fun a f=> ?_
   refine AE f ah fun a f=>l_o f (AO (f.eval Z) ah (f.eval Z)) fun a f=> ?_
   exact⟨_,gr,m,f.weak ⟨Z,Z,Z,Z,Z,Z,Z,Z,Z,by rw[ah];rfl,trivial⟩⟩
  ·refine AB f ah ?_
   refine Ab f Z fun a f=>AB f ah ?_
   refine Ah f Z Z AJ fun a f=>l_o f (AP (f.eval Z) ah (f.eval Z)) fun a f=> ?_
   exact⟨_,gr,m,f.weak ⟨Z,Z,Z,Z,Z,Z,Z,Z,Z,by rw[ah];rfl,trivial⟩⟩
 ·rintro a w ⟨ag,ai,m,f⟩
  have h0_0:=rd2 ai h0_0
  have h1_0:=rd2 ai h1_0
  have h1_1:=rd2 ai h1_1
  refine Ab f Z fun a f=> ?_
  refine Bz 3 (fun a w=>∃aj,GLe ag aj∧Mem W aj w (Itm.box ab 27 [v1_0,v1_1]::Itm.box aa 30 [v0_0]::H)∧Fr a 100 [(0,(.agg #[v0_0])),(1,(.agg #[v1_0,v1_1])),(2,(.pointer (some ⟨aa,0,none⟩))),(3,(.pointer (some ⟨ab,0,none⟩))),(5,(.int .i64 (x1_0.length:Int))),(17,(.agg #[v0_0])),(18,(.bool ac)),(19,(.bool (!ac))),(20,(.bool (!ac))),(23,(.bool ((!ac)||(decide ((x1_0.length:Int)<1))))),(24,(.bool ((!ac)||(decide ((x1_0.length:Int)<1))))),(27,(.bool (((!ac)||(decide ((x1_0.length:Int)<1)))||(decide ((16:Int)<(x1_0.length:Int))))))]) ?_ ?_
  ·rcases Bool.eq_false_or_eq_true ((!ac)||(decide ((x1_0.length:Int)<1))) with ak|ak
   ·refine AE f ak fun a f=> ?_
    refine AE f ak fun a f=>l_o f (AO (f.eval Z) ak (f.eval Z)) fun a f=> ?_
    exact⟨_,gr,m,f.weak ⟨Z,Z,Z,Z,Z,Z,Z,Z,Z,Z,Z,by rw[ak];rfl,trivial⟩⟩
   ·refine AB f ak ?_
    refine Ab f Z fun a f=>AB f ak ?_
    refine Ah f Z Z BV fun a f=>l_o f (AP (f.eval Z) ak (f.eval Z)) fun a f=> ?_
    exact⟨_,gr,m,f.weak ⟨Z,Z,Z,Z,Z,Z,Z,Z,Z,Z,Z,by rw[ak];rfl,trivial⟩⟩
  ·rintro a w ⟨aj,al,m,f⟩
   have h0_0:=rd2 al h0_0
   have h1_0:=rd2 al h1_0
   have h1_1:=rd2 al h1_1
   refine Ab f Z fun a f=> ?_
   refine Bz 7 (fun a w=>∃am,GLe aj am∧Mem W am w (Itm.box ab 27 [v1_0,v1_1]::Itm.box aa 30 [v0_0]::H)∧Fr a 100 [(0,(.agg #[v0_0])),(1,(.agg #[v1_0,v1_1])),(2,(.pointer (some ⟨aa,0,none⟩))),(3,(.pointer (some ⟨ab,0,none⟩))),(5,(.int .i64 (x1_0.length:Int))),(17,(.agg #[v0_0])),(18,(.bool ac)),(19,(.bool (!ac))),(20,(.bool (!ac))),(23,(.bool ((!ac)||(decide ((x1_0.length:Int)<1))))),(24,(.bool ((!ac)||(decide ((x1_0.length:Int)<1))))),(27,(.bool (((!ac)||(decide ((x1_0.length:Int)<1)))||(decide ((16:Int)<(x1_0.length:Int)))))),(28,(.bool (((!ac)||(decide ((x1_0.length:Int)<1)))||(decide ((16:Int)<(x1_0.length:Int)))))),(35,(.bool ((((!ac)||(decide ((x1_0.length:Int)<1)))||(decide ((16:Int)<(x1_0.length:Int))))||((x1_1.length:Int) !=(IntKind.i64.wrap ((x1_0.length:Int)-1))))))]) ?_ ?_
   ·rcases Bool.eq_false_or_eq_true (((!ac)||(decide ((x1_0.length:Int)<1)))||(decide ((16:Int)<(x1_0.length:Int)))) with an|an
    ·refine AE f an fun a f=> ?_
     refine AE f an fun a f=>AE f an fun a f=>AE f an fun a f=>AE f an fun a f=>AE f an fun a f=>l_o f (AO (f.eval Z) an (f.eval Z)) fun a f=> ?_
     exact⟨_,gr,m,f.weak ⟨Z,Z,Z,Z,Z,Z,Z,Z,Z,Z,Z,Z,Z,by rw[an];rfl,trivial⟩⟩
    ·refine AB f an ?_
     refine Bn Tryz.underlying27 Z Tryz.sizeOf22 f Z fun a f=>AB f an ?_
     refine AF 0 1 m Ba f Z Z Z Z fun a f=>AB f an ?_
     refine AZ Tryz.underlying22 f Z Z h1_1 fun a f=>AB f an ?_
     refine Ab f Z fun a f=>AB f an ?_
     refine Ah f Z Z AH fun a f=>AB f an ?_
     refine Ah f Z Z CI fun a f=>l_o f (AP (f.eval Z) an (f.eval Z)) fun a f=> ?_
     exact⟨_,gr,m,f.weak ⟨Z,Z,Z,Z,Z,Z,Z,Z,Z,Z,Z,Z,Z,by rw[an];rfl,trivial⟩⟩
   ·rintro a w ⟨am,ao,m,f⟩
    have h0_0:=rd2 ao h0_0
    have h1_0:=rd2 ao h1_0
    have h1_1:=rd2 ao h1_1
    refine Ab f Z fun a f=> ?_
    obtain⟨ap,aq,hd⟩:=bind_some hd
    refine Bz 6 (fun a w=>∃ar,GLe am ar∧Mem W ar w (Itm.box ab 27 [v1_0,v1_1]::Itm.box aa 30 [v0_0]::H)∧Fr a 100 [(0,(.agg #[v0_0])),(1,(.agg #[v1_0,v1_1])),(2,(.pointer (some ⟨aa,0,none⟩))),(3,(.pointer (some ⟨ab,0,none⟩))),(5,(.int .i64 (x1_0.length:Int))),(17,(.agg #[v0_0])),(18,(.bool ac)),(19,(.bool (!ac))),(20,(.bool (!ac))),(23,(.bool ((!ac)||(decide ((x1_0.length:Int)<1))))),(24,(.bool ((!ac)||(decide ((x1_0.length:Int)<1))))),(27,(.bool (((!ac)||(decide ((x1_0.length:Int)<1)))||(decide ((16:Int)<(x1_0.length:Int)))))),(28,(.bool (((!ac)||(decide ((x1_0.length:Int)<1)))||(decide ((16:Int)<(x1_0.length:Int)))))),(35,(.bool ((((!ac)||(decide ((x1_0.length:Int)<1)))||(decide ((16:Int)<(x1_0.length:Int))))||((x1_1.length:Int) !=(IntKind.i64.wrap ((x1_0.length:Int)-1)))))),(36,(.bool ((((!ac)||(decide ((x1_0.length:Int)<1)))||(decide ((16:Int)<(x1_0.length:Int))))||((x1_1.length:Int) !=(IntKind.i64.wrap ((x1_0.length:Int)-1)))))),(42,(.bool ap))]) ?_ ?_
    ·rcases Ae aq with⟨au,aq⟩|⟨au,aq⟩
     ·refine AE f au fun a f=> ?_
      refine AE f au fun a f=>AE f au fun a f=>AE f au fun a f=>AE f au fun a f=>l_o f (AO (f.eval Z) au (f.eval Z)) fun a f=> ?_
      obtain rfl:=sj aq
      exact⟨_,gr,m,f.k Z⟩
     ·refine AB f au ?_
      refine Bn Tryz.underlying27 Z Tryz.sizeOf22 f Z fun a f=>AB f au ?_
      refine AF 0 1 m Ba f Z Z Z Z fun a f=>AB f au ?_
      refine Ab f Z fun a f=>AB f au ?_
      obtain⟨av,aw,aq⟩:=bind_some aq
      refine Bi f Z Tryz.call94 (Wk.l m h1_1 aw) fun ax w ay m a f=> ?_
      have h0_0:=rd2 ay h0_0
      have h1_0:=rd2 ay h1_0
      have h1_1:=rd2 ay h1_1
      refine AB f au ?_
      refine l_o f (Bd (f.eval Z)) fun a f=>l_o f (AP (f.eval Z) au (f.eval Z)) fun a f=> ?_
      obtain rfl:=sj aq
      exact⟨_,ay,m,f.k Z⟩
    ·rintro a w ⟨ar,az,m,f⟩
     have h0_0:=rd2 az h0_0
     have h1_0:=rd2 az h1_0
     have h1_1:=rd2 az h1_1
     refine Aa ?_
     rcases Ae hd with⟨aA,hd⟩|⟨aA,hd⟩
     ·refine Al f Z aA ?_
      refine Ac ?_
      refine Ad f Z fun a f=>Aa ?_
      refine Aq ?_
      have m:Mem W ar w H:=Mem.drop (H':=[Itm.box ab 27 [v1_0,v1_1],Itm.box aa 30 [v0_0]]) m
      obtain rfl:=sj hd
      exact⟨[(.bool false)],⟨f.get _ _ Z,trivial⟩,f.defers,_,[],(gt af (gt ai (gt al (gt ao az)))),m,Z,Z⟩
     ·refine Ai f Z aA ?_
      refine Am ?_
      refine Af (Ac ?_)
      refine Bn Tryz.underlying27 Z Tryz.sizeOf22 f Z fun a f=>AF 0 0 m Ba f Z Z Z Z fun a f=>AZ Tryz.underlying22 f Z Z h1_0 fun a f=>Ab f Z fun a f=>Aa ?_
      obtain⟨aB,aC,hd⟩:=bind_some hd
      refine AC (fun a w=>∃q_80':Unit,aB= .inl q_80'∧∃(aD:GH),GLe ar aD∧Fr a 100 [(2,(.pointer (some ⟨aa,0,none⟩))),(3,(.pointer (some ⟨ab,0,none⟩)))]∧Mem W aD w (Itm.box aa 30 [v0_0]::Itm.box ab 27 [v1_0,v1_1]::H)) ?_ ?_
      ·refine Aj ?_
       have m:=m.front 1 rfl
       refine AA (fun aE a w=>∃aF:Int,aF=aE∧∃(aG:GH),GLe ar aG∧Fr a 100 [(2,(.pointer (some ⟨aa,0,none⟩))),(3,(.pointer (some ⟨ab,0,none⟩))),(44,v1_0),(45,(.int .i64 (x1_0.length:Int))),(46,(.int .i64 aF))]∧Mem W aG w (Itm.box aa 30 [v0_0]::Itm.box ab 27 [v1_0,v1_1]::H)) aC ⟨_,Z,_,gr,f.k Z,m⟩ ?_
       clear aC f m
       rintro aE aH aI aJ a w ⟨aF,rfl,aG,aK,f,m⟩
       have h1_0:=rd2 aK h1_0
       have h0_0:=rd2 aK h0_0
       have h1_1:=rd2 aK h1_1
       refine Ac ?_
       refine Ah f Z Z AJ fun a f=>Aa (Af ?_)
       rcases Ae aI with⟨aL,aI⟩|⟨aL,aI⟩
       ·refine Al f Z aL ?_
        refine Am ?_
        refine Af (Aj (Ac ?_))
        obtain⟨aM,aN,aI⟩:=bind_some aI
        refine Bf T22 f Z Z Z h1_0 aN fun aO aP a aQ aR f=>AG m AY f Z Z aQ fun a f=>Ad f Z fun a f=>Aa (Ac ?_)
        refine Ab f Z fun a f=>Bn Tryz.underlying30 Z Tryz.sizeOf22 f Z fun a f=>AF 0 0 m Ba f Z Z Z Z fun a f=>AZ Tryz.underlying22 f Z Z h0_0 fun a f=> ?_
        obtain⟨aS,aT,aI⟩:=bind_some aI
        refine Bi f Z Tryz.call95 (Wk.w m aR aT) fun aU w aV m a f=> ?_
        have aR:=rd1 aV aR
        have h1_0:=rd2 aV h1_0
        have h0_0:=rd2 aV h0_0
        have h1_1:=rd2 aV h1_1
        refine l_o f (Bd (f.eval Z)) fun a f=>Aa ?_
        rcases Ae aI with⟨aW,aI⟩|⟨aW,aI⟩
        ·refine Al f Z aW ?_
         refine Ac ?_
         refine Ad f Z fun a f=>Aa ?_
         refine Aq ?_
         have m:Mem W aU w H:=Mem.drop (H':=[Itm.box aa 30 [v0_0],Itm.box ab 27 [v1_0,v1_1]]) m
         obtain rfl:=sj aI
         obtain rfl:=aJ _ rfl
         obtain rfl:=sj hd
         exact⟨[(.bool false)],⟨f.get _ _ Z,trivial⟩,f.defers,_,[],(gt af (gt ai (gt al (gt ao (gt az (gt aK aV)))))),m,Z,Z⟩
        ·refine Ai f Z aW ?_
         refine Am ?_
         refine Ak ?_
         refine Ah f Z Z Ar fun a f=>Ab f Z fun a f=>Aa ?_
         obtain rfl:=sj aI
         exact⟨_,Z,_,Z,_,(gt aK aV),f.k Z,m⟩
       ·refine Ai f Z aL ?_
        refine Ax Z ?_
        obtain rfl:=sj aI
        obtain rfl:=aJ _ rfl
        exact⟨_,Z,_,aK,f.k Z,m⟩
      ·rintro a w ⟨_,rfl,aD,aX,f,m⟩
       have h0_0:=rd2 aX h0_0
       have h1_0:=rd2 aX h1_0
       have h1_1:=rd2 aX h1_1
       refine Af ?_
       refine AT 7 Aw (by kernel_rfl) m ?_
       refine Bt (i:=0) (ds:=[v1_0,v1_1]) 7 1 B5 Z Z Z Z (by kernel_rfl) Z f Z Z Z fun a f=>B3 2 7 Tryz.underlying27 Z Tryz.sizeOf22 Z f Z fun a f=>BO 3 7 1 Ba Z Z Z f Z fun a f=>BD (i:=1) Z (by kernel_rfl) Z fun aY w aZ m a0 a0=> ?_
       have h1_0:=rd2 aZ h1_0
       have h1_1:=rd2 aZ h1_1
       have h0_0:=rd2 aZ h0_0
       obtain⟨a1,a2,hd⟩:=bind_some hd
       refine AK f Z Tryz.call96 (Wk.S0 m h1_0 h1_1 a2) fun a3 a4 a5 w a6 m a7 a f=> ?_
       obtain⟨a8,a9,rfl,rfl,ba⟩:=a7
       have h1_0:=rd2 a6 h1_0
       have h1_1:=rd2 a6 h1_1
       have h0_0:=rd2 a6 h0_0
       refine Aa ?_
       refine a0 a4 [a9] _ _ a6 m ?_
       refine BD (i:=4) Z (by kernel_rfl) Z fun bb w bc m bd bd=> ?_
       have h1_0:=rd2 bc h1_0
       have h1_1:=rd2 bc h1_1
       have ba:=od1 bc ba
       have h0_0:=rd2 bc h0_0
       obtain⟨be,bf,hd⟩:=bind_some hd
       refine AK f Z Tryz.call97 (Wk.x m h1_0 bf) fun bg bh bi w bj m bk a f=> ?_
       obtain⟨bl,bm,rfl,rfl,bn⟩:=bk
       have h1_0:=rd2 bj h1_0
       have h1_1:=rd2 bj h1_1
       have ba:=od1 bj ba
       have h0_0:=rd2 bj h0_0
       refine Aa ?_
       refine bd bh [bm,a9] _ _ bj m ?_
       refine q_p 5 7 Z f (fun _=>Bl (f.eval Z)) fun a f=>q_p 6 7 Z f (fun _=>Bl (f.eval Z)) fun a f=>AI fun bo w bp m=> ?_
       have h1_0:=rd2 bp h1_0
       have h1_1:=rd2 bp h1_1
       have bn:=od1 bp bn
       have ba:=od1 bp ba
       have h0_0:=rd2 bp h0_0
       refine Aa (Af (Ac ?_))
       refine Ab f Z fun a f=>Ab f Z fun a f=> ?_
       obtain⟨bq,br,hd⟩:=bind_some hd
       refine AK f Z Tryz.call53 (Ow.lendCall (RI.mono _) 1 ba m Z (fun bs bt m bu=>Wk.p m bu br) (fun _ _ _ _ h=>h)) fun bv bw bx w bz m bA a f=> ?_
       obtain⟨rfl,rfl⟩:=bA
       have bn:=od1 bz bn
       have ba:=od1 bz ba
       have h0_0:=rd2 bz h0_0
       have h1_0:=rd2 bz h1_0
       have h1_1:=rd2 bz h1_1
       obtain⟨bB,bC,hd⟩:=bind_some hd
       refine AK f Z Tryz.call98 (Ow.lendCall (RI.mono _) 1 ba m Z (fun bD bE m bF=>Wk.T hW m bF bC) (fun _ _ _ _ h=>h)) fun bG bH bI w bJ m bK a f=> ?_
       obtain⟨rfl,rfl⟩:=bK
       have bn:=od1 bJ bn
       have ba:=od1 bJ ba
       have h0_0:=rd2 bJ h0_0
       have h1_0:=rd2 bJ h1_0
       have h1_1:=rd2 bJ h1_1
       refine l_o f (Bd (f.eval Z)) fun a f=>Ab f Z fun a f=> ?_
       obtain⟨bL,bM,hd⟩:=bind_some hd
       refine Bz 6 (fun a w=>∃bN,GLe bH bN∧Mem W bN w (bm::a9::Itm.box aa 30 [v0_0]::Itm.box ab 27 [v1_0,v1_1]::H)∧Fr a 100 [(2,(.pointer (some ⟨aa,0,none⟩))),(3,(.pointer (some ⟨ab,0,none⟩))),(8,a8),(9,bl),(62,a8),(63,a8),(64,(.int .u32 bq)),(65,(.bool bB)),(66,(.bool (!bB))),(67,(.bool (!bB))),(73,(.bool bL))]) ?_ ?_
       ·rcases Ae bM with⟨bO,bM⟩|⟨bO,bM⟩
        ·refine AE f bO fun a f=> ?_
         refine AE f bO fun a f=>AE f bO fun a f=>AE f bO fun a f=>AE f bO fun a f=>l_o f (AO (f.eval Z) bO (f.eval Z)) fun a f=> ?_
         obtain rfl:=sj bM
         exact⟨_,gr,m,f.k Z⟩
        ·refine AB f bO ?_
         refine A5 2 0 (ds:=[v0_0]) m Bq f Z Z Z Z Z fun a f=>AB f bO ?_
         obtain⟨bP,bQ,bM⟩:=bind_some bM
         refine AK f Z Tryz.call50 (Wk.v m h0_0 bQ) fun bR bS bT w bU m bV a f=> ?_
         obtain⟨bW,bX,rfl,rfl,bY⟩:=bV
         have h0_0:=rd2 bU h0_0
         have bn:=od1 bU bn
         have ba:=od1 bU ba
         have h1_0:=rd2 bU h1_0
         have h1_1:=rd2 bU h1_1
         refine AB f bO ?_
         refine Ab f Z fun a f=>AB f bO ?_
         obtain⟨bZ,b0,bM⟩:=bind_some bM
         refine AK f Z Tryz.call99 (Ow.lendCall (RI.mono _) 0 bY m Z (fun b1 b2 m b3=>(Ow.lendCall (RI.mono _) 0 (od1 b2 bn) m Z (fun b4 b5 m b6=>Wk.m0 m (rd1 b5 b3) b6 b0) (fun _ _ _ _ h=>h))) (fun _ _ _ _ h=>h)) fun b7 b8 b9 w ca m cb a f=> ?_
         obtain⟨rfl,rfl⟩:=cb
         have h0_0:=rd2 ca h0_0
         have bY:=od1 ca bY
         have bn:=od1 ca bn
         have ba:=od1 ca ba
         have h1_0:=rd2 ca h1_0
         have h1_1:=rd2 ca h1_1
         refine AB f bO ?_
         refine l_o f (Bd (f.eval Z)) fun a f=>l_o f (AP (f.eval Z) bO (f.eval Z)) fun a f=> ?_
         obtain rfl:=sj bM
         have m:=m.front 4 rfl
         have m:=m.front 4 rfl
         have m:Mem W b8 w (a9::Itm.box aa 30 [v0_0]::Itm.box ab 27 [v1_0,v1_1]::bX::bm::H):=m.front 4 rfl
         have m:=m.front 4 rfl
         have m:Mem W b8 w (bm::a9::Itm.box aa 30 [v0_0]::Itm.box ab 27 [v1_0,v1_1]::H):=m.eraseAt 4
         exact⟨_,(gt bU ca),m,f.k Z⟩
       ·rintro a w ⟨bN,cc,m,f⟩
        have bn:=od1 cc bn
        have ba:=od1 cc ba
        have h0_0:=rd2 cc h0_0
        have h1_0:=rd2 cc h1_0
        have h1_1:=rd2 cc h1_1
        refine Aa ?_
        rcases Ae hd with⟨cd,hd⟩|⟨cd,hd⟩
        ·refine Al f Z cd ?_
         refine Ac ?_
         refine Ad f Z fun a f=>Aa ?_
         refine Aq ?_
         have m:Mem W bN w H:=Mem.drop (H':=[bm,a9,Itm.box aa 30 [v0_0],Itm.box ab 27 [v1_0,v1_1]]) m
         obtain rfl:=sj hd
         exact⟨[(.bool false)],⟨f.get _ _ Z,trivial⟩,f.defers,_,[],(gt af (gt ai (gt al (gt ao (gt az (gt aX (gt aZ (gt a6 (gt bc (gt bj (gt bp (gt bz (gt bJ cc))))))))))))),m,Z,Z⟩
        ·refine Ai f Z cd ?_
         refine Am ?_
         refine Af (Ac ?_)
         refine Bn Tryz.underlying30 Z Tryz.sizeOf22 f Z fun a f=>AF 2 0 m Ba f Z Z Z Z fun a f=>AZ Tryz.underlying22 f Z Z h0_0 fun a f=>Ab f Z fun a f=>Aa ?_
         obtain⟨ce,cf,hd⟩:=bind_some hd
         refine AC (fun a w=>∃q_483':Unit,ce= .inl q_483'∧∃(cg:GH),GLe bN cg∧Fr a 100 []∧Mem W cg w (H)) ?_ ?_
         ·refine Aj ?_
          have m:=m.front 1 rfl
          have m:=m.eraseAt 3
          have m:=m.eraseAt 2
          refine AA (fun ch a w=>∃ci:Int,ci=ch∧∃(cj:GH),GLe bN cj∧Fr a 100 [(8,a8),(9,bl),(76,(.int .i64 (x0_0.length:Int))),(77,(.int .i64 ci))]∧Mem W cj w (a9::bm::H)) cf ⟨_,Z,_,gr,f.k Z,m⟩ ?_
          clear cf f m
          rintro ch ck cl cm a w ⟨ci,rfl,cj,cn,f,m⟩
          have ba:=od1 cn ba
          have bn:=od1 cn bn
          refine Ac ?_
          refine Ah f Z Z AJ fun a f=>Aa (Af ?_)
          rcases Ae cl with⟨co,cl⟩|⟨co,cl⟩
          ·refine Al f Z co ?_
           refine Am ?_
           refine Af (Aj (Ac ?_))
           refine Ab f Z fun a f=>Ad f Z fun a f=>Aa (Ac ?_)
           refine Ad f Z fun a f=>Aa (Af (Ac ?_))
           refine Ab f Z fun a f=>BB 1 m bn Z Tryz.underlying71 f Z Z fun a f=>Ab f Z fun a f=>Aa ?_
           obtain⟨cp,cq,cl⟩:=bind_some cl
           refine AC (fun a w=>∃cr:Int,cr=cp∧∃(ct:GH),GLe cj ct∧Fr a 100 [(8,a8),(9,bl),(11,(.int .u32 cr)),(76,(.int .i64 (x0_0.length:Int))),(77,(.int .i64 ci))]∧Mem W ct w (a9::bm::H)) ?_ ?_
           ·refine Aj ?_
            refine AA (fun cu a w=>∃cv:Int,∃cw:Int,(cv,cw)=cu∧∃(cx:GH),GLe cj cx∧Fr a 100 [(8,a8),(9,bl),(10,(.int .i64 ci)),(11,(.int .u32 cv)),(76,(.int .i64 (x0_0.length:Int))),(77,(.int .i64 ci)),(80,bl),(81,(.int .i64 (be.length:Int))),(82,(.int .i64 cw))]∧Mem W cx w (a9::bm::H)) cq ⟨_,_,Z,_,gr,f.k Z,m⟩ ?_
            clear cq f m
            rintro cu cy cz cA a w ⟨cv,cw,rfl,cx,cB,f,m⟩
            have ba:=od1 cB ba
            have bn:=od1 cB bn
            refine Ac ?_
            refine Ah f Z Z AJ fun a f=>Aa (Af ?_)
            rcases Ae cz with⟨cC,cz⟩|⟨cC,cz⟩
            ·refine Al f Z cC ?_
             refine Am ?_
             refine Af (Aj (Ac ?_))
             refine Ab f Z fun a f=> ?_
             obtain⟨cD,cE,cz⟩:=bind_some cz
             refine AW 1 m bn Z T71 f Z Z Z cE fun cF a cG f=>BL 1 m bn Z Cw f Z Z cG cE fun cH a cI f=> ?_
             subst cI
             refine Ad f Z fun a f=>Ad f Z fun a f=>Aa (Ac ?_)
             refine Ab f Z fun a f=>Ab f Z fun a f=> ?_
             obtain⟨cJ,cK,cz⟩:=bind_some cz
             refine Bi f Z Tryz.call54 (Wk.j m cK) fun cL w cM m a f=> ?_
             have ba:=od1 cM ba
             have bn:=od1 cM bn
             refine Aa ?_
             rcases Ae cz with⟨cN,cz⟩|⟨cN,cz⟩
             ·refine Al f Z cN ?_
              refine Ak ?_
              refine Ab f Z fun a f=>Ab f Z fun a f=> ?_
              obtain⟨cO,cP,cz⟩:=bind_some cz
              refine Bi f Z Tryz.call100 (Wk.c m cP) fun cQ w cR m a f=> ?_
              have ba:=od1 cR ba
              have bn:=od1 cR bn
              refine Ah f Z Z b_or fun a f=>Ad f Z fun a f=>Aa (Ak ?_)
              refine Ah f Z Z Ar fun a f=>Ab f Z fun a f=>Aa ?_
              obtain rfl:=sj cz
              exact⟨_,Z,_,_,Z,_,(gt cB (gt cM cR)),f.k Z,m⟩
             ·refine Ai f Z cN ?_
              refine Am ?_
              refine Ak ?_
              refine Ah f Z Z Ar fun a f=>Ab f Z fun a f=>Aa ?_
              obtain rfl:=sj cz
              exact⟨_,Z,_,_,Z,_,(gt cB cM),f.k Z,m⟩
            ·refine Ai f Z cC ?_
             refine Ax Z ?_
             obtain rfl:=sj cz
             obtain rfl:=cA _ rfl
             exact⟨_,Z,_,cB,f.k Z,m⟩
           ·rintro a w ⟨cr,rfl,ct,cS,f,m⟩
            have ba:=od1 cS ba
            have bn:=od1 cS bn
            refine Ac ?_
            refine Ab f Z fun a f=>Ab f Z fun a f=> ?_
            obtain⟨cT,cU,cl⟩:=bind_some cl
            refine AK f Z Tryz.call98 (Ow.lendCall (RI.mono _) 0 ba m Z (fun cV cW m cX=>Wk.T hW m cX cU) (fun _ _ _ _ h=>h)) fun cY cZ c0 w c1 m c2 a f=> ?_
            obtain⟨rfl,rfl⟩:=c2
            have ba:=od1 c1 ba
            have bn:=od1 c1 bn
            refine l_o f (Bd (f.eval Z)) fun a f=>Aa ?_
            rcases Ae cl with⟨c3,cl⟩|⟨c3,cl⟩
            ·refine Al f Z c3 ?_
             refine Ac ?_
             refine Ad f Z fun a f=>Aa ?_
             refine Aq ?_
             have m:Mem W cZ w H:=Mem.drop (H':=[a9,bm]) m
             obtain rfl:=sj cl
             obtain rfl:=cm _ rfl
             obtain rfl:=sj hd
             exact⟨[(.bool false)],⟨f.get _ _ Z,trivial⟩,f.defers,_,[],(gt af (gt ai (gt al (gt ao (gt az (gt aX (gt aZ (gt a6 (gt bc (gt bj (gt bp (gt bz (gt bJ (gt cc (gt cn (gt cS c1)))))))))))))))),m,Z,Z⟩
            ·refine Ai f Z c3 ?_
             refine Am ?_
             refine Ak ?_
             refine Ah f Z Z Ar fun a f=>Ab f Z fun a f=>Aa ?_
             obtain rfl:=sj cl
             exact⟨_,Z,_,Z,_,(gt cn (gt cS c1)),f.k Z,m⟩
          ·refine Ai f Z co ?_
           refine Ax Z ?_
           have m:Mem W cj w H:=Mem.drop (H':=[a9,bm]) m
           obtain rfl:=sj cl
           obtain rfl:=cm _ rfl
           exact⟨_,Z,_,cn,f.weak trivial,m⟩
         ·rintro a w ⟨_,rfl,cg,c4,f,m⟩
          refine Ac ?_
          refine Ad f Z fun a f=>Aa ?_
          refine Aq ?_
          obtain rfl:=sj hd
          exact⟨[(.bool true)],⟨f.get _ _ Z,trivial⟩,f.defers,_,[],(gt af (gt ai (gt al (gt ao (gt az (gt aX (gt aZ (gt a6 (gt bc (gt bj (gt bp (gt bz (gt bJ (gt cc c4)))))))))))))),m,Z,Z⟩
theorem Wk.V0 {W w:World}{G:GH}{H:List Itm}{v0:Value}{x0:(List (List Int))}(m:Mem W G w (H))(h0:RSl (RSl (RI .i64)) G v0 x0){y:Int}(hd:D.V0 x0=some y):
  Calls Tryz.prog 101 #[v0] w (Res W G H (fun _ Ho v=>Ho=[]∧v=(.int .i64 y))):=by
 refine As (args:=[v0]) (N:=27) [.tmp 2] Tryz.func101 Z Z (Nat.le_of_ble_eq_true Z) Z fun a f=> ?_
 unfold D.V0 at hd
 refine Ac ?_
 refine Ad f Z fun a f=>Aa (Af (Ac ?_))
 refine Ab f Z fun a f=>AZ Tryz.underlying22 f Z Z h0 fun a f=>Ah f Z Z AJ fun a f=>Ab f Z fun a f=> ?_
 refine Bz 4 (fun a w=>∃aa,GLe G aa∧Mem W aa w (H)∧Fr a 27 [(0,v0),(6,v0),(7,(.int .i64 (x0.length:Int))),(8,(.bool (decide ((x0.length:Int)<1)))),(9,(.bool (decide ((x0.length:Int)<1)))),(13,(.bool ((decide ((x0.length:Int)<1))||(decide ((16:Int)<(x0.length:Int))))))]) ?_ ?_
 ·rcases Bool.eq_false_or_eq_true (decide ((x0.length:Int)<1)) with ab|ab
  ·refine AE f ab fun a f=> ?_
   refine AE f ab fun a f=>AE f ab fun a f=>l_o f (AO (f.eval Z) ab (f.eval Z)) fun a f=> ?_
   exact⟨_,gr,m,f.weak ⟨Z,Z,Z,Z,Z,by rw[ab];rfl,trivial⟩⟩
  ·refine AB f ab ?_
   refine Ab f Z fun a f=>AB f ab ?_
   refine AZ Tryz.underlying22 f Z Z h0 fun a f=>AB f ab ?_
   refine Ah f Z Z BV fun a f=>l_o f (AP (f.eval Z) ab (f.eval Z)) fun a f=> ?_
   exact⟨_,gr,m,f.weak ⟨Z,Z,Z,Z,Z,by rw[ab];rfl,trivial⟩⟩
 ·rintro a w ⟨aa,ac,m,f⟩
  have h0:=rd2 ac h0
  refine Aa ?_
  rcases Ae hd with⟨ad,hd⟩|⟨ad,hd⟩
  ·refine Al f Z ad ?_
   refine Ac ?_
   refine Ad f Z fun a f=>Aa ?_
   refine Aq ?_
   obtain rfl:=sj hd
   exact⟨[(.int .i64 (-1))],⟨f.get _ _ Z,trivial⟩,f.defers,_,[],ac,m,Z,Z⟩
  ·refine Ai f Z ad ?_
   refine Am ?_
   refine Ac ?_
   refine Ad f Z fun a f=>Aa (Af (Ac ?_))
   refine Ab f Z fun a f=>AZ Tryz.underlying22 f Z Z h0 fun a f=>Ab f Z fun a f=>Aa ?_
   obtain⟨ae,af,hd⟩:=bind_some hd
   refine AC (fun a w=>∃ag:Int,ag=ae∧∃(ah:GH),GLe aa ah∧Fr a 27 [(3,(.int .i64 ag))]∧Mem W ah w (H)) ?_ ?_
   ·refine Aj ?_
    refine AA (fun ai a w=>∃aj:Int,∃ak:Int,(aj,ak)=ai∧∃(al:GH),GLe aa al∧Fr a 27 [(3,(.int .i64 aj)),(14,v0),(15,(.int .i64 (x0.length:Int))),(16,(.int .i64 ak))]∧Mem W al w (H)) af ⟨_,_,Z,_,gr,f.k Z,m⟩ ?_
    clear af f m
    rintro ai am an ao a w ⟨aj,ak,rfl,al,ap,f,m⟩
    have h0:=rd2 ap h0
    refine Ac ?_
    refine Ah f Z Z AJ fun a f=>Aa (Af ?_)
    rcases Ae an with⟨aq,an⟩|⟨aq,an⟩
    ·refine Al f Z aq ?_
     refine Am ?_
     refine Af (Aj (Ac ?_))
     obtain⟨ar,au,an⟩:=bind_some an
     refine Bf T22 f Z Z Z h0 au fun av aw a ax ay f=>AG m AY f Z Z ax fun a f=>Ad f Z fun a f=>Aa (Ak ?_)
     refine Ab f Z fun a f=>Ab f Z fun a f=>AZ Tryz.underlying42 f Z Z ay fun a f=>l_o f (r_max2 (f.eval Z) (f.eval Z)) fun a f=>Ad f Z fun a f=>Aa (Ak ?_)
     refine Ah f Z Z Ar fun a f=>Ab f Z fun a f=>Aa ?_
     obtain rfl:=sj an
     exact⟨_,Z,_,_,Z,_,ap,f.k Z,m⟩
    ·refine Ai f Z aq ?_
     refine Ax Z ?_
     obtain rfl:=sj an
     obtain rfl:=ao _ rfl
     exact⟨_,Z,_,ap,f.k Z,m⟩
   ·rintro a w ⟨ag,rfl,ah,az,f,m⟩
    refine Ac ?_
    refine Ab f Z fun a f=>Ah f Z Z AH fun a f=>Ad f Z fun a f=>Aa ?_
    refine Aq ?_
    obtain rfl:=sj hd
    exact⟨[(.int .i64 (IntKind.i64.wrap (ag-1)))],⟨f.get _ _ Z,trivial⟩,f.defers,_,[],(gt ac az),m,Z,Z⟩
theorem Wk.u {W w:World}{G:GH}{H:List Itm}{v0_0:Value}{v0_1:Value}{x0_0:(List (List Int))}{x0_1:(List (List Int))}(m:Mem W G w (H))(h0_0:RSl (RSl (RI .i64)) G v0_0 x0_0)(h0_1:RSl (RSl (RI .i64)) G v0_1 x0_1){y:Int}(hd:D.u x0_0 x0_1=some y):
  Calls Tryz.prog 38 #[(.agg #[v0_0,v0_1])] w (Res W G H (fun _ Ho v=>Ho=[]∧v=(.int .i64 y))):=by
 refine As (args:=[(.agg #[v0_0,v0_1])]) (N:=6) [.tmp 2] Tryz.func38 Z Z (Nat.le_of_ble_eq_true Z) Z fun a f=> ?_
 unfold D.u at hd
 refine Ac ?_
 refine Bw (cs:=[v0_0,v0_1]) m f Z Z Z fun aa w a m f=>Ad f Z fun a f=>Aa (Ac ?_)
 refine Bn Tryz.underlying27 Z Tryz.sizeOf22 f Z fun a f=>AF 0 0 m Ba f Z Z Z Z fun a f=> ?_
 obtain⟨ab,ac,hd⟩:=bind_some hd
 refine Bi f Z Tryz.call101 (Wk.V0 m h0_0 ac) fun ad w ae m a f=> ?_
 have h0_0:=rd2 ae h0_0
 have h0_1:=rd2 ae h0_1
 refine Ad f Z fun a f=>Aa ?_
 refine Aq ?_
 have m:Mem W ad w H:=Mem.drop (H':=[Itm.box aa 27 [v0_0,v0_1]]) m
 obtain rfl:=sj hd
 exact⟨[(.int .i64 ab)],⟨f.get _ _ Z,trivial⟩,f.defers,_,[],ae,m,Z,Z⟩
theorem Wk.i1 {W w:World}{G:GH}{H:List Itm}{v0_0:Value}{x0_0:(List (List Int))}{x1:Int}(m:Mem W G w (H))(h0_0:RSl (RSl (RI .i64)) G v0_0 x0_0){y:Bool}(hd:D.i1 x0_0 x1=some y):
  Calls Tryz.prog 149 #[(.agg #[v0_0]),(.int .i64 x1)] w (Res W G H (fun _ Ho v=>Ho=[]∧v=(.bool y))):=by
 refine As (args:=[(.agg #[v0_0]),(.int .i64 x1)]) (N:=10) [.tmp 4] Tryz.func149 Z Z (Nat.le_of_ble_eq_true Z) Z fun a f=> ?_
 unfold D.i1 at hd
 refine Ac ?_
 refine Bw (cs:=[v0_0]) m f Z Z Z fun aa w a m f=>Ad f Z fun a f=>Aa (Ac ?_)
 refine Ab f Z fun a f=>A5 0 0 (ds:=[v0_0]) m Bq f Z Z Z Z Z fun a f=> ?_
 obtain⟨ab,ac,hd⟩:=bind_some hd
 refine Bi f Z Tryz.call80 (Wk.d m h0_0 ac) fun ad w ae m a f=> ?_
 have h0_0:=rd2 ae h0_0
 refine Ah f Z Z AH fun a f=> ?_
 obtain⟨af,ag,hd⟩:=bind_some hd
 refine Bi f Z Tryz.call141 (Wk.e m ag) fun ah w ai m a f=> ?_
 have h0_0:=rd2 ai h0_0
 refine Ad f Z fun a f=>Aa ?_
 refine Aq ?_
 have m:Mem W ah w H:=Mem.drop (H':=[Itm.box aa 30 [v0_0]]) m
 obtain rfl:=sj hd
 exact⟨[(.bool af)],⟨f.get _ _ Z,trivial⟩,f.defers,_,[],(gt ae ai),m,Z,Z⟩
theorem Wk.u1 {W w:World}{G:GH}{H:List Itm}{v0_0:Value}{v1:Value}{x0_0:(List (List Int))}{x1:(List Int)}(m:Mem W G w (H))(h0_0:RSl (RSl (RI .i64)) G v0_0 x0_0)(h1:RSl (RI .i64) G v1 x1){y:Bool}(hd:D.u1 x0_0 x1=some y):
  Calls Tryz.prog 108 #[(.agg #[v0_0]),v1] w (Res W G H (fun _ Ho v=>Ho=[]∧v=(.bool y))):=by
 refine As (args:=[(.agg #[v0_0]),v1]) (N:=34) [.tmp 4] Tryz.func108 Z Z (Nat.le_of_ble_eq_true Z) Z fun a f=> ?_
 unfold D.u1 at hd
 refine Ac ?_
 refine Bw (cs:=[v0_0]) m f Z Z Z fun aa w a m f=>Ad f Z fun a f=>Aa (Af (Ac ?_))
 refine Ab f Z fun a f=>AZ Tryz.underlying42 f Z Z h1 fun a f=>A5 0 0 (ds:=[v0_0]) m Bq f Z Z Z Z Z fun a f=> ?_
 obtain⟨ab,ac,hd⟩:=bind_some hd
 refine Bi f Z Tryz.call80 (Wk.d m h0_0 ac) fun ad w ae m a f=> ?_
 have h0_0:=rd2 ae h0_0
 have h1:=rd1 ae h1
 refine Ah f Z Z CI fun a f=>Aa ?_
 rcases Ae hd with⟨af,hd⟩|⟨af,hd⟩
 ·refine Al f Z af ?_
  refine Ac ?_
  refine Ad f Z fun a f=>Aa ?_
  refine Aq ?_
  have m:Mem W ad w H:=Mem.drop (H':=[Itm.box aa 30 [v0_0]]) m
  obtain rfl:=sj hd
  exact⟨[(.bool false)],⟨f.get _ _ Z,trivial⟩,f.defers,_,[],ae,m,Z,Z⟩
 ·refine Ai f Z af ?_
  refine Am ?_
  refine Af (Ac ?_)
  refine Ad f Z fun a f=>Aa ?_
  obtain⟨ag,ah,hd⟩:=bind_some hd
  refine AC (fun a w=>∃q_99':Unit,ag= .inl q_99'∧∃(ai:GH),GLe ad ai∧Fr a 34 []∧Mem W ai w (H)) ?_ ?_
  ·refine Aj ?_
   refine AA (fun aj a w=>∃ak:Int,ak=aj∧∃(al:GH),GLe ad al∧Fr a 34 [(1,v1),(2,(.pointer (some ⟨aa,0,none⟩))),(5,(.int .i64 ak))]∧Mem W al w (Itm.box aa 30 [v0_0]::H)) ah ⟨_,Z,_,gr,f.k Z,m⟩ ?_
   clear ah f m
   rintro aj am an ao a w ⟨ak,rfl,al,ap,f,m⟩
   have h1:=rd1 ap h1
   have h0_0:=rd2 ap h0_0
   refine Af (Ac ?_)
   refine Ab f Z fun a f=>Ab f Z fun a f=>AZ Tryz.underlying42 f Z Z h1 fun a f=>Ah f Z Z AJ fun a f=>Aa ?_
   rcases Ae an with⟨aq,an⟩|⟨aq,an⟩
   ·refine Al f Z aq ?_
    refine Am ?_
    refine Af (Aj (Af ?_))
    refine AT 17 Aw (by kernel_rfl) m ?_
    refine Bt (i:=0) (ds:=[v0_0]) 17 0 Bq Z Z Z Z (by kernel_rfl) Z f Z Z Z fun a f=>Ag 1 17 Z f Z fun a f=>Ag 2 17 Z f Z fun a f=> ?_
    obtain⟨ar,au,an⟩:=bind_some an
    refine B2 3 17 T42 h1 au Z f Z Z fun av aw a ax ay f=> ?_
    subst ay
    refine BZ 4 17 Pl2 ax Z f Z fun a f=> ?_
    obtain⟨az,aA,an⟩:=bind_some an
    refine Bh (i:=5) 17 Z (by kernel_rfl) Z f Z Z Z Tryz.call149 (fun _ _ w aB m=>Wk.i1 m (rd2 aB h0_0) aA) fun a f=>q_p 6 17 Z f (fun _=>Bd (f.eval Z)) fun a f=>Ag 7 17 Z f Z fun a f=> ?_
    obtain⟨aC,aD,an⟩:=bind_some an
    refine BN (fuel':=0) (listed':= #[true,true,true,true,true,true,true,true,true,true,true,true,true,true,true,true,true]) (fun a=>Fr a 34 [(1,v1),(2,(.pointer (some ⟨aa,0,none⟩))),(5,(.int .i64 ak)),(14,(.bool (decide (ak<(x1.length:Int))))),(17,(.agg #[v0_0])),(18,v1),(19,(.int .i64 ak)),(20,av),(21,(.int .i64 ar)),(22,(.bool az)),(23,(.bool (!az))),(24,(.bool (!az))),(33,(.bool aC))]) ?_ ?_
    ·intro a f
     refine AI fun aE w aF m=> ?_
     have h1:=rd1 aF h1
     have h0_0:=rd2 aF h0_0
     have ax:=At.mono aF ax
     refine Aa ?_
     rcases Ae an with⟨aG,an⟩|⟨aG,an⟩
     ·refine Al f Z aG ?_
      refine Ac ?_
      refine Ad f Z fun a f=>Aa ?_
      refine Aq ?_
      have m:Mem W aE w H:=Mem.drop (H':=[Itm.box aa 30 [v0_0]]) m
      obtain rfl:=sj an
      obtain rfl:=ao _ rfl
      obtain rfl:=sj hd
      exact⟨[(.bool false)],⟨f.get _ _ Z,trivial⟩,f.defers,_,[],(gt ae (gt ap aF)),m,Z,Z⟩
     ·refine Ai f Z aG ?_
      refine Am ?_
      refine Ak ?_
      refine Ab f Z fun a f=>Ah f Z Z Ar fun a f=>Ad f Z fun a f=>Aa ?_
      obtain rfl:=sj an
      exact⟨_,Z,_,Z,_,(gt ap aF),f.k Z,m⟩
    ·intro aH
     rcases Ae aD with⟨aI,aD⟩|⟨aI,aD⟩
     ·refine An 8 17 Z f aI fun a f=> ?_
      refine An 9 17 Z f aI fun a f=>An 10 17 Z f aI fun a f=>An 11 17 Z f aI fun a f=>An 12 17 Z f aI fun a f=>An 13 17 Z f aI fun a f=>An 14 17 Z f aI fun a f=>An 15 17 Z f aI fun a f=>q_p 16 17 Z f (fun _=>AO (f.eval Z) aI (f.eval Z)) fun a f=> ?_
      obtain rfl:=sj aD
      exact aH _ (f.k Z)
     ·refine Ag (hw:=wo f aI) 8 17 Z f Z fun a f=> ?_
      refine Ag (hw:=wo f aI) 9 17 Z f Z fun a f=> ?_
      obtain⟨aJ,aK,aD⟩:=bind_some aD
      refine q_slice (i:=10) 17 T42 h1 aK Z (by kernel_rfl) Z f (AQ f Z Z Z aI) Z Z (.inl ⟨Z,Z⟩) (.inr ⟨_,_,Z,Z⟩) fun aL a aM f=>Ag (hw:=wo f aI) 11 17 Z f Z fun a f=>Ag (hw:=wo f aI) 12 17 Z f Z fun a f=> ?_
      obtain⟨aN,aO,aD⟩:=bind_some aD
      refine B2 (hw:=wo f aI) 13 17 T42 h1 aO Z f Z Z fun aP aQ a aR aS f=> ?_
      subst aS
      refine BZ (hw:=wo f aI) 14 17 Pl2 aR Z f Z fun a f=> ?_
      obtain⟨aT,aU,aD⟩:=bind_some aD
      refine Bh (i:=15) 17 Z (by kernel_rfl) Z f (AQ f Z Z Z aI) Z Z Tryz.call70 (fun _ _ w aV m=>Wk.h m (rd1 aV aM) aU) fun a f=>q_p 16 17 Z f (fun _=>AP (f.eval Z) aI (f.eval Z)) fun a f=> ?_
      obtain rfl:=sj aD
      exact aH _ (f.k Z)
   ·refine Ai f Z aq ?_
    refine Ax Z ?_
    have m:Mem W al w H:=Mem.drop (H':=[Itm.box aa 30 [v0_0]]) m
    obtain rfl:=sj an
    obtain rfl:=ao _ rfl
    exact⟨_,Z,_,ap,f.weak trivial,m⟩
  ·rintro a w ⟨_,rfl,ai,aW,f,m⟩
   refine Ac ?_
   refine Ad f Z fun a f=>Aa ?_
   refine Aq ?_
   obtain rfl:=sj hd
   exact⟨[(.bool true)],⟨f.get _ _ Z,trivial⟩,f.defers,_,[],(gt ae aW),m,Z,Z⟩
theorem Wk.f0 {W w:World}{G:GH}{H:List Itm}{v0_0:Value}{v1:Value}{x0_0:(List (List Int))}{x1:(List Int)}(m:Mem W G w (H))(h0_0:RSl (RSl (RI .i64)) G v0_0 x0_0)(h1:RSl (RI .i64) G v1 x1){y:Bool}(hd:D.f0 x0_0 x1=some y):
  Calls Tryz.prog 41 #[(.agg #[v0_0]),v1] w (Res W G H (fun _ Ho v=>Ho=[]∧v=(.bool y))):=by
 refine As (args:=[(.agg #[v0_0]),v1]) (N:=12) [.tmp 4] Tryz.func41 Z Z (Nat.le_of_ble_eq_true Z) Z fun a f=> ?_
 unfold D.f0 at hd
 refine Ac ?_
 refine Bw (cs:=[v0_0]) m f Z Z Z fun aa w a m f=>Ad f Z fun a f=>Aa (Ac ?_)
 refine A5 0 0 (ds:=[v0_0]) m Bq f Z Z Z Z Z fun a f=> ?_
 obtain⟨ab,ac,hd⟩:=bind_some hd
 refine Bi f Z Tryz.call77 (Wk.W m h0_0 ac) fun ad w ae m a f=> ?_
 have h0_0:=rd2 ae h0_0
 have h1:=rd1 ae h1
 refine Ab f Z fun a f=> ?_
 obtain⟨af,ag,hd⟩:=bind_some hd
 refine Bz 4 (fun a w=>∃ah,GLe ad ah∧Mem W ah w (Itm.box aa 30 [v0_0]::H)∧Fr a 12 [(0,(.agg #[v0_0])),(1,v1),(2,(.pointer (some ⟨aa,0,none⟩))),(5,(.agg #[v0_0])),(6,(.bool ab)),(7,(.bool ab)),(11,(.bool af))]) ?_ ?_
 ·rcases Ae ag with⟨ai,ag⟩|⟨ai,ag⟩
  ·refine AB f ai ?_
   refine A5 0 0 (ds:=[v0_0]) m Bq f Z Z Z Z Z fun a f=>AB f ai ?_
   refine Ab f Z fun a f=>AB f ai ?_
   obtain⟨aj,ak,ag⟩:=bind_some ag
   refine Bi f Z Tryz.call108 (Wk.u1 m h0_0 h1 ak) fun al w am m a f=> ?_
   have h0_0:=rd2 am h0_0
   have h1:=rd1 am h1
   refine l_o f (AO (f.eval Z) ai (f.eval Z)) fun a f=> ?_
   obtain rfl:=sj ag
   exact⟨_,am,m,f.k Z⟩
  ·refine AE f ai fun a f=> ?_
   refine AE f ai fun a f=>AE f ai fun a f=>l_o f (AP (f.eval Z) ai (f.eval Z)) fun a f=> ?_
   obtain rfl:=sj ag
   exact⟨_,gr,m,f.k Z⟩
 ·rintro a w ⟨ah,an,m,f⟩
  have h0_0:=rd2 an h0_0
  have h1:=rd1 an h1
  refine Ad f Z fun a f=>Aa ?_
  refine Aq ?_
  have m:Mem W ah w H:=Mem.drop (H':=[Itm.box aa 30 [v0_0]]) m
  obtain rfl:=sj hd
  exact⟨[(.bool af)],⟨f.get _ _ Z,trivial⟩,f.defers,_,[],(gt ae an),m,Z,Z⟩
theorem Wk.w0 {W w:World}{G:GH}{H:List Itm}{v0_0:Value}{x0_0:(List (List Int))}(m:Mem W G w (H))(h0_0:RSl (RSl (RI .i64)) G v0_0 x0_0){y:((List (List Int)))}(hd:D.w0 x0_0=some y):
  Calls Tryz.prog 168 #[(.agg #[v0_0])] w (Res W G H (fun G' Ho v=>∃r0:Value,∃i0:Itm,Ho=[i0]∧v=(.agg #[r0])∧Ow (RSl (RI .i64)) 42 G' i0 r0 y)):=by
 refine As (args:=[(.agg #[v0_0])]) (N:=25) [.cell 2 30] Tryz.func168 Z Z (Nat.le_of_ble_eq_true Z) Z fun a f=> ?_
 unfold D.w0 at hd
 refine Ac ?_
 refine Bw (cs:=[v0_0]) m f Z Z Z fun aa w a m f=>Bx (cs:=[(.slice none 0 0)]) Tryz.zeroValue30 m f Z Z fun ab w a m f=>Aa (Ac ?_)
 have ac:∀w,(Instr.build 30 #[]).run Tryz.prog w= .ok (.agg #[(.slice none 0 0)]) w:=by intro w;simp[Instr.build,Instr.fill,CB,Cq,B8,Cg,BY,CD]
 refine C5 f Z Z ac fun a f=>Bx (cs:=[(.slice none 0 0)]) Tryz.zeroValue30 m f Z Z fun ad w a m f=>AS 0 0 (ds:=[(.slice none 0 0)]) m Tryz.sizeOf30 f Z Z Z (AN Z A3) Z (Nat.le_of_ble_eq_true Z) Z fun w m=>Aa (Af (Ac ?_))
 refine Ad f Z fun a f=>Aa ?_
 obtain⟨ae,m,af⟩:=Ow.nil (RSl (RI .i64)) 42 m
 obtain⟨ag,ah,hd⟩:=bind_some hd
 refine AC (fun a w=>∃ai:List (List Int),ai=ag∧∃(aj:GH) (ak:Value) (al:Itm),GLe G aj∧Fr a 25 [(2,(.pointer (some ⟨ab,0,none⟩))),(3,(.pointer (some ⟨ad,0,none⟩)))]∧Mem W aj w (Itm.box ab 30 [(.slice none 0 0)]::Itm.box ad 30 [ak]::al::H)∧Ow (RSl (RI .i64)) 42 aj al ak ai) ?_ ?_
 ·refine Aj ?_
  have m:=m.front 1 rfl
  have m:=m.front 2 rfl
  have m:Mem W G w (Itm.box aa 30 [v0_0]::Itm.box ab 30 [(.slice none 0 0)]::Itm.box ad 30 [(.slice none 0 0)]::ae::H):=m.front 3 rfl
  refine AA (fun am a w=>∃an:Int,∃ao:List (List Int),(an,ao)=am∧∃(ap:GH) (aq:Value) (ar:Itm),GLe G ap∧Fr a 25 [(1,(.pointer (some ⟨aa,0,none⟩))),(2,(.pointer (some ⟨ab,0,none⟩))),(3,(.pointer (some ⟨ad,0,none⟩))),(4,(.int .i64 an))]∧Mem W ap w (Itm.box aa 30 [v0_0]::Itm.box ab 30 [(.slice none 0 0)]::Itm.box ad 30 [aq]::ar::H)∧Ow (RSl (RI .i64)) 42 ap ar aq ao) ah ⟨_,_,Z,_,(.slice none 0 0),ae,gr,f.k Z,m,af⟩ ?_
  clear ah f m
  rintro am au av aw a w ⟨an,ao,rfl,ap,aq,ar,ax,f,m,ay⟩
  have h0_0:=rd2 ax h0_0
  refine Af (Ac ?_)
  refine Ab f Z fun a f=>Bn Tryz.underlying30 Z Tryz.sizeOf22 f Z fun a f=>AF 0 0 m Ba f Z Z Z Z fun a f=>AZ Tryz.underlying22 f Z Z h0_0 fun a f=>Ah f Z Z AJ fun a f=>Aa ?_
  rcases Ae av with⟨az,av⟩|⟨az,av⟩
  ·refine Al f Z az ?_
   refine Am ?_
   refine Af (Aj ?_)
   refine AT 9 Aw (by kernel_rfl) m ?_
   refine B3 0 9 Tryz.underlying30 Z Tryz.sizeOf22 Z f Z fun a f=>BO 1 9 2 Ba Z Z Z f Z fun a f=>B3 2 9 Tryz.underlying30 Z Tryz.sizeOf22 Z f Z fun a f=>BO 3 9 0 Ba Z Z Z f Z fun a f=>Ag 4 9 Z f Z fun a f=> ?_
   obtain⟨aA,aB,av⟩:=bind_some av
   refine B2 5 9 T22 h0_0 aB Z f Z Z fun aC aD a aE aF f=>BZ 6 9 AY aE Z f Z fun a f=>BD (i:=7) Z (by kernel_rfl) Z fun aG w aH m aI aI=> ?_
   have h0_0:=rd2 aH h0_0
   have aE:=At.mono aH aE
   have aF:=rd1 aH aF
   have ay:=Ow.mono (RSl.mono (RI.mono _)) aH ay
   obtain⟨aJ,aK,av⟩:=bind_some av
   refine AK f Z Tryz.call69 (Wk.g m aF aK) fun aL aM aN w aO m aP a f=> ?_
   obtain⟨aQ,aR,rfl,rfl,aS⟩:=aP
   have h0_0:=rd2 aO h0_0
   have aE:=At.mono aO aE
   have aF:=rd1 aO aF
   have ay:=Ow.mono (RSl.mono (RI.mono _)) aO ay
   refine Aa ?_
   refine aI aM [aR] _ _ aO m ?_
   refine BD (i:=8) Z (by kernel_rfl) Z fun aT w aU m aV aV=> ?_
   have h0_0:=rd2 aU h0_0
   have aE:=At.mono aU aE
   have aF:=rd1 aU aF
   have aS:=od1 aU aS
   have ay:=Ow.mono (RSl.mono (RI.mono _)) aU ay
   obtain⟨aW,aX,m,aY⟩:=Ow.stamp (RI.mono _) aS m
   have h0_0:=rd2 aX h0_0
   have aE:=At.mono aX aE
   have aF:=rd1 aX aF
   have ay:=Ow.mono (RSl.mono (RI.mono _)) aX ay
   refine A8 (R:=(RSl (RI .i64))) (xs:=([aJ]:List (List Int))) (RSl.one _) m T22 f Z Z Z (by decide) (All2.cons aY (All2.nil _)) fun aZ a0 w a m a1 f=>Aa ?_
   refine aV aW [aZ] _ _ aX m ?_
   refine AI fun a2 w a3 m=> ?_
   have h0_0:=rd2 a3 h0_0
   have aE:=At.mono a3 aE
   have aF:=rd1 a3 aF
   have aY:=rd1 a3 aY
   have a1:=Ow.mono (RSl.mono (RI.mono _)) a3 a1
   have ay:=Ow.mono (RSl.mono (RI.mono _)) a3 ay
   obtain⟨a4,a5,av⟩:=bind_some av
   refine Bo (RSl.one _) 4 m ay Z T22 Z (by decide) f Z Z Z (Ow.src (j:=0) a1 m Z) a5 fun a6 a7 w a m a8 f=>Bn Tryz.underlying30 Z Tryz.sizeOf22 f Z fun a f=>AS 3 0 (ds:=[a7]) m Tryz.sizeOf22 f Z Z (Ow.cells 4 m a8 Z) (AN (Ow.one1 4 m a8 Z) A3) Z (Nat.le_of_ble_eq_true Z) Z fun w m=>Aa (Ak ?_)
   refine Ab f Z fun a f=>Ah f Z Z Ar fun a f=>Ad f Z fun a f=>Aa ?_
   have m:=m.front 4 rfl
   have m:=m.front 4 rfl
   have m:Mem W a2 w (Itm.box ab 30 [(.slice none 0 0)]::Itm.box ad 30 [a7]::a6::aZ::Itm.box aa 30 [v0_0]::H):=m.front 4 rfl
   have m:=m.front 4 rfl
   have m:Mem W a2 w (Itm.box aa 30 [v0_0]::Itm.box ab 30 [(.slice none 0 0)]::Itm.box ad 30 [a7]::a6::H):=m.eraseAt 4
   obtain rfl:=sj av
   exact⟨_,Z,_,_,Z,_,a7,a6,(gt ax (gt aH (gt aO (gt aU (gt aX a3))))),f.k Z,m,a8⟩
  ·refine Ai f Z az ?_
   refine Ax Z ?_
   have m:=m.front 3 rfl
   have m:=m.front 3 rfl
   have m:Mem W ap w (Itm.box ab 30 [(.slice none 0 0)]::Itm.box ad 30 [aq]::ar::Itm.box aa 30 [v0_0]::H):=m.front 3 rfl
   have m:=m.eraseAt 3
   obtain rfl:=sj av
   obtain rfl:=aw _ rfl
   exact⟨_,Z,_,aq,ar,ax,f.k Z,m,ay⟩
 ·rintro a w ⟨ai,rfl,aj,ak,al,a9,f,m,ba⟩
  refine Ac ?_
  refine A5 1 0 (ds:=[ak]) m Bq f Z Z Z Z Z fun a f=>AS 0 0 (ds:=[ak]) m Tryz.sizeOf30 f Z Z Z (AN (Ow.one1 2 m ba Z) A3) Z (Nat.le_of_ble_eq_true Z) Z fun w m=>Aa ?_
  refine Aq ?_
  have bb:=Cu (P:=Tryz.prog) 0 m Bq f (s:=2) rfl rfl rfl
  have m:=m.front 2 rfl
  have m:=m.eraseAt 2
  have m:=m.eraseAt 1
  obtain rfl:=sj hd
  exact⟨[(.agg #[ak])],⟨bb,trivial⟩,f.defers,_,[al],a9,m,_,_,Z,Z,ba⟩
theorem Wk.d0 {W w:World}{G:GH}{H:List Itm}{v0_0:Value}{v2:Value}{x0_0:(List (List Int))}{x1:Int}{x2:(List Bool)}(m:Mem W G w (H))(h0_0:RSl (RSl (RI .i64)) G v0_0 x0_0)(h2:RSl RB G v2 x2){y:((List Int))}(hd:D.d0 x0_0 x1 x2=some y):
  Calls Tryz.prog 132 #[(.agg #[v0_0]),(.int .i64 x1),v2] w (Res W G H (fun G' Ho v=>∃r0:Value,∃i0:Itm,Ho=[i0]∧r0=v∧Ow (RI .i64) 2 G' i0 r0 y)):=by
 refine As (args:=[(.agg #[v0_0]),(.int .i64 x1),v2]) (N:=44) [.tmp 6] Tryz.func132 Z Z (Nat.le_of_ble_eq_true Z) Z fun a f=> ?_
 unfold D.d0 at hd
 refine Ac ?_
 refine Bw (cs:=[v0_0]) m f Z Z Z fun aa w a m f=>Ad f Z fun a f=>Aa (Ac ?_)
 refine A8 (R:=(RI .i64)) (xs:=([]:List Int)) (RI.one _) m T42 f Z Z Z (by decide) (All2.nil _) fun ab ac w a m ad f=>Ad f Z fun a f=>Aa (Af (Ac ?_))
 refine Ad f Z fun a f=>Aa ?_
 obtain⟨ae,af,hd⟩:=bind_some hd
 refine AC (fun a w=>∃ag:List Int,ag=ae∧∃(ah:GH) (ai:Value) (aj:Itm),GLe G ah∧Fr a 44 [(7,ai)]∧Mem W ah w (aj::H)∧Ow (RI .i64) 2 ah aj ai ag) ?_ ?_
 ·refine Aj ?_
  have m:=m.front 1 rfl
  refine AA (fun ak a w=>∃al:List Int,∃am:Int,(al,am)=ak∧∃(an:GH) (ao:Value) (ap:Itm),GLe G an∧Fr a 44 [(1,(.int .i64 x1)),(2,v2),(3,(.pointer (some ⟨aa,0,none⟩))),(7,ao),(8,(.int .i64 am))]∧Mem W an w (Itm.box aa 30 [v0_0]::ap::H)∧Ow (RI .i64) 2 an ap ao al) af ⟨_,_,Z,_,ac,ab,gr,f.k Z,m,ad⟩ ?_
  clear af f m
  rintro ak aq ar au a w ⟨al,am,rfl,an,ao,ap,av,f,m,aw⟩
  have h2:=RSl.mono RB.mono _ _ _ _ av h2
  have h0_0:=rd2 av h0_0
  refine Af (Ac ?_)
  refine Ab f Z fun a f=>Bn Tryz.underlying30 Z Tryz.sizeOf22 f Z fun a f=>AF 0 0 m Ba f Z Z Z Z fun a f=>Ab f Z fun a f=> ?_
  obtain⟨ax,ay,ar⟩:=bind_some ar
  refine Bf T22 f Z Z Z h0_0 ay fun az aA a aB aC f=>AG m AY f Z Z aB fun a f=>AZ Tryz.underlying42 f Z Z aC fun a f=>Ah f Z Z AJ fun a f=>Aa ?_
  rcases Ae ar with⟨aD,ar⟩|⟨aD,ar⟩
  ·refine Al f Z aD ?_
   refine Am ?_
   refine Af (Aj (Ac ?_))
   refine Ab f Z fun a f=>Bn Tryz.underlying30 Z Tryz.sizeOf22 f Z fun a f=>AF 0 0 m Ba f Z Z Z Z fun a f=>Ab f Z fun a f=> ?_
   obtain⟨aE,aF,ar⟩:=bind_some ar
   refine Bf T22 f Z Z Z h0_0 aF fun aG aH a aI aJ f=>AG m AY f Z Z aI fun a f=>Ab f Z fun a f=> ?_
   obtain⟨aK,aL,ar⟩:=bind_some ar
   refine Bf T42 f Z Z Z aJ aL fun aM aN a aO aP f=> ?_
   subst aP
   refine AG m Pl2 f Z Z aO fun a f=> ?_
   obtain⟨aQ,aR,ar⟩:=bind_some ar
   refine Bf T142 f Z Z Z h2 aR fun aS aT a aU aV f=> ?_
   subst aV
   refine AG m Pl4 f Z Z aU fun a f=>l_o f (Bd (f.eval Z)) fun a f=>Aa ?_
   rcases Ae ar with⟨aW,ar⟩|⟨aW,ar⟩
   ·refine Al f Z aW ?_
    refine Ak ?_
    refine Ab f Z fun a f=>Bn Tryz.underlying30 Z Tryz.sizeOf22 f Z fun a f=>AF 0 0 m Ba f Z Z Z Z fun a f=>Ab f Z fun a f=> ?_
    obtain⟨aX,aY,ar⟩:=bind_some ar
    refine Bf T22 f Z Z Z h0_0 aY fun aZ a0 a a1 a2 f=>AG m AY f Z Z a1 fun a f=>Ab f Z fun a f=> ?_
    obtain⟨a3,a4,ar⟩:=bind_some ar
    refine Bf T42 f Z Z Z a2 a4 fun a5 a6 a a7 a8 f=> ?_
    subst a8
    refine AG m Pl2 f Z Z a7 fun a f=>A8 (R:=(RI .i64)) (xs:=([a3]:List Int)) (RI.one _) m T42 f Z Z Z (by decide) (All2.cons Z (All2.nil _)) fun a9 ba w a m bb f=> ?_
    obtain⟨bc,bd,ar⟩:=bind_some ar
    refine Bo (RI.one _) 2 m aw Z T42 Z (by decide) f Z Z Z (Ow.src (j:=0) bb m Z) bd fun be bf w a m bg f=>Ad f Z fun a f=>Aa (Ak ?_)
    refine Ab f Z fun a f=>Ah f Z Z Ar fun a f=>Ad f Z fun a f=>Aa ?_
    have m:=m.front 2 rfl
    have m:=m.front 2 rfl
    have m:=m.eraseAt 2
    obtain rfl:=sj ar
    exact⟨_,Z,_,_,Z,_,bf,be,av,f.k Z,m,bg⟩
   ·refine Ai f Z aW ?_
    refine Am ?_
    refine Ak ?_
    refine Ab f Z fun a f=>Ah f Z Z Ar fun a f=>Ad f Z fun a f=>Aa ?_
    obtain rfl:=sj ar
    exact⟨_,Z,_,_,Z,_,ao,ap,av,f.k Z,m,aw⟩
  ·refine Ai f Z aD ?_
   refine Ax Z ?_
   have m:=m.front 1 rfl
   have m:=m.eraseAt 1
   obtain rfl:=sj ar
   obtain rfl:=au _ rfl
   exact⟨_,Z,_,ao,ap,av,f.k Z,m,aw⟩
 ·rintro a w ⟨ag,rfl,ah,ai,aj,bh,f,m,bi⟩
  refine Ac ?_
  refine Ab f Z fun a f=>Ad f Z fun a f=>Aa ?_
  refine Aq ?_
  obtain rfl:=sj hd
  exact⟨[ai],⟨f.get _ _ Z,trivial⟩,f.defers,_,[aj],bh,m,_,_,Z,Z,bi⟩
theorem Wk.j0 {W w:World}{G:GH}{H:List Itm}{v0_0:Value}{it0_0:Itm}{v1:Value}{x0_0:(List (List Int))}{x1:(List Int)}(m:Mem W G w (it0_0::H))(o0_0:Ow (RSl (RI .i64)) 42 G it0_0 v0_0 x0_0)(h1:RSl (RI .i64) G v1 x1){y:((List (List Int)))}(hd:D.j0 x0_0 x1=some y):
  Calls Tryz.prog 169 #[(.agg #[v0_0]),v1] w (Res W G H (fun G' Ho v=>∃i0:Itm,Ho=[i0]∧v=(.agg #[v0_0])∧Ow (RSl (RI .i64)) 42 G' i0 v0_0 y)):=by
 refine As (args:=[(.agg #[v0_0]),v1]) (N:=29) [.cell 4 30] Tryz.func169 Z Z (Nat.le_of_ble_eq_true Z) Z fun a f=> ?_
 unfold D.j0 at hd
 refine Ac ?_
 refine Bw (cs:=[v0_0]) m f Z Z Z fun aa w a m f=>Bx (cs:=[(.slice none 0 0)]) Tryz.zeroValue30 m f Z Z fun ab w a m f=>Aa (Af (Ac ?_))
 refine Ad f Z fun a f=>Aa ?_
 obtain⟨ac,ad,hd⟩:=bind_some hd
 refine AC (fun a w=>∃ae:List (List Int),ae=ac∧∃(af:GH) (ag:Itm),GLe G af∧Fr a 29 [(2,(.pointer (some ⟨aa,0,none⟩))),(4,(.pointer (some ⟨ab,0,none⟩)))]∧Mem W af w (Itm.box aa 30 [v0_0]::Itm.box ab 30 [(.slice none 0 0)]::ag::H)∧Ow (RSl (RI .i64)) 42 af ag v0_0 ae) ?_ ?_
 ·refine Aj ?_
  have m:=m.front 1 rfl
  refine AA (fun ah a w=>∃ai:List (List Int),∃aj:Int,(ai,aj)=ah∧∃(ak:GH) (al:Itm),GLe G ak∧Fr a 29 [(1,v1),(2,(.pointer (some ⟨aa,0,none⟩))),(4,(.pointer (some ⟨ab,0,none⟩))),(5,(.int .i64 aj))]∧Mem W ak w (Itm.box aa 30 [v0_0]::Itm.box ab 30 [(.slice none 0 0)]::al::H)∧Ow (RSl (RI .i64)) 42 ak al v0_0 ai) ad ⟨_,_,Z,_,it0_0,gr,f.k Z,m,o0_0⟩ ?_
  clear ad f m
  rintro ah am an ao a w ⟨ai,aj,rfl,ak,al,ap,f,m,aq⟩
  have h1:=rd1 ap h1
  refine Af (Ac ?_)
  refine Ab f Z fun a f=>Ab f Z fun a f=>AZ Tryz.underlying42 f Z Z h1 fun a f=>Ah f Z Z AJ fun a f=>Aa ?_
  rcases Ae an with⟨ar,an⟩|⟨ar,an⟩
  ·refine Al f Z ar ?_
   refine Am ?_
   refine Af (Aj (Ac ?_))
   refine Ad f Z fun a f=>Aa ?_
   obtain⟨au,av,an⟩:=bind_some an
   refine AC (fun a w=>∃aw:List (List Int),aw=au∧∃(ax:GH) (ay:Itm),GLe ak ax∧Fr a 29 [(1,v1),(2,(.pointer (some ⟨aa,0,none⟩))),(4,(.pointer (some ⟨ab,0,none⟩))),(5,(.int .i64 aj))]∧Mem W ax w (Itm.box aa 30 [v0_0]::Itm.box ab 30 [(.slice none 0 0)]::ay::H)∧Ow (RSl (RI .i64)) 42 ax ay v0_0 aw) ?_ ?_
   ·refine Aj ?_
    refine AA (fun az a w=>∃aA:List (List Int),∃aB:Int,(aA,aB)=az∧∃(aC:GH) (aD:Itm),GLe ak aC∧Fr a 29 [(1,v1),(2,(.pointer (some ⟨aa,0,none⟩))),(4,(.pointer (some ⟨ab,0,none⟩))),(5,(.int .i64 aj)),(6,(.int .i64 aB))]∧Mem W aC w (Itm.box aa 30 [v0_0]::Itm.box ab 30 [(.slice none 0 0)]::aD::H)∧Ow (RSl (RI .i64)) 42 aC aD v0_0 aA) av ⟨_,_,Z,_,al,gr,f.k Z,m,aq⟩ ?_
    clear av f m
    rintro az aE aF aG a w ⟨aA,aB,rfl,aC,aD,aH,f,m,aI⟩
    have h1:=rd1 aH h1
    refine Af (Ac ?_)
    refine Ab f Z fun a f=>Ab f Z fun a f=>Ah f Z Z AJ fun a f=>Aa ?_
    rcases Ae aF with⟨aJ,aF⟩|⟨aJ,aF⟩
    ·refine Al f Z aJ ?_
     refine Am ?_
     refine Af (Aj ?_)
     refine AT 9 Aw (by kernel_rfl) m ?_
     refine Bt (i:=0) (ds:=[v0_0]) 9 0 Bq Z Z Z Z (by kernel_rfl) Z f Z Z Z fun a f=>Ag 1 9 Z f Z fun a f=>Ag 2 9 Z f Z fun a f=> ?_
     obtain⟨aK,aL,aF⟩:=bind_some aF
     refine B2 3 9 T42 h1 aL Z f Z Z fun aM aN a aO aP f=> ?_
     subst aP
     refine BZ 4 9 Pl2 aO Z f Z fun a f=>Ag 5 9 Z f Z fun a f=>Ag 6 9 Z f Z fun a f=> ?_
     obtain⟨aQ,aR,aF⟩:=bind_some aF
     refine B2 7 9 T42 h1 aR Z f Z Z fun aS aT a aU aV f=> ?_
     subst aV
     refine BZ 8 9 Pl2 aU Z f Z fun a f=>AI fun aW w aX m=> ?_
     have h1:=rd1 aX h1
     have aO:=At.mono aX aO
     have aU:=At.mono aX aU
     have aI:=Ow.mono (RSl.mono (RI.mono _)) aX aI
     have m:=m.front 2 rfl
     obtain⟨aY,aZ,aF⟩:=bind_some aF
     refine AK f Z Tryz.call143 (Wk.J m aI aZ) fun a0 a1 a2 w a3 m a4 a f=> ?_
     obtain⟨a5,rfl,rfl,a6⟩:=a4
     have h1:=rd1 a3 h1
     have aO:=At.mono a3 aO
     have aU:=At.mono a3 aU
     refine AS 1 0 (ds:=[v0_0]) m Tryz.sizeOf30 f Z Z Z (AN (Ow.one1 0 m a6 Z) A3) Z (Nat.le_of_ble_eq_true Z) Z fun w m=>Aa (Ak ?_)
     refine Ab f Z fun a f=>Ah f Z Z Ar fun a f=>Ad f Z fun a f=>Aa ?_
     have m:=m.front 2 rfl
     have m:=m.front 2 rfl
     obtain rfl:=sj aF
     exact⟨_,Z,_,_,Z,_,a5,(gt aH (gt aX a3)),f.k Z,m,a6⟩
    ·refine Ai f Z aJ ?_
     refine Ax Z ?_
     obtain rfl:=sj aF
     obtain rfl:=aG _ rfl
     exact⟨_,Z,_,aD,aH,f.k Z,m,aI⟩
   ·rintro a w ⟨aw,rfl,ax,ay,a7,f,m,a8⟩
    have h1:=rd1 a7 h1
    refine Ak ?_
    refine Ab f Z fun a f=>Ah f Z Z Ar fun a f=>Ad f Z fun a f=>Aa ?_
    obtain rfl:=sj an
    exact⟨_,Z,_,_,Z,_,ay,(gt ap a7),f.k Z,m,a8⟩
  ·refine Ai f Z ar ?_
   refine Ax Z ?_
   obtain rfl:=sj an
   obtain rfl:=ao _ rfl
   exact⟨_,Z,_,al,ap,f.k Z,m,aq⟩
 ·rintro a w ⟨ae,rfl,af,ag,a9,f,m,ba⟩
  refine Ac ?_
  refine A5 0 0 (ds:=[v0_0]) m Bq f Z Z Z Z Z fun a f=>AS 1 0 (ds:=[v0_0]) m Tryz.sizeOf30 f Z Z Z (AN (Ow.one1 2 m ba Z) A3) Z (Nat.le_of_ble_eq_true Z) Z fun w m=>Aa ?_
  refine Aq ?_
  have bb:=Cu (P:=Tryz.prog) 1 m Bq f (s:=4) rfl rfl rfl
  have m:=m.front 2 rfl
  have m:=m.eraseAt 2
  have m:=m.eraseAt 1
  obtain rfl:=sj hd
  exact⟨[(.agg #[v0_0])],⟨bb,trivial⟩,f.defers,_,[ag],a9,m,_,Z,Z,ba⟩
theorem Wk.l0 {W w:World}{G:GH}{H:List Itm}{v0_0:Value}{v1:Value}{x0_0:(List (List Int))}{x1:(List Int)}(m:Mem W G w (H))(h0_0:RSl (RSl (RI .i64)) G v0_0 x0_0)(h1:RSl (RI .i64) G v1 x1){y:((List (List Int)))}(hd:D.l0 x0_0 x1=some y):
  Calls Tryz.prog 131 #[(.agg #[v0_0]),v1] w (Res W G H (fun G' Ho v=>∃r0:Value,∃i0:Itm,Ho=[i0]∧v=(.agg #[r0])∧Ow (RSl (RI .i64)) 42 G' i0 r0 y)):=by
 refine As (args:=[(.agg #[v0_0]),v1]) (N:=35) [.cell 4 30] Tryz.func131 Z Z (Nat.le_of_ble_eq_true Z) Z fun a f=> ?_
 unfold D.l0 at hd
 refine Ac ?_
 refine Bw (cs:=[v0_0]) m f Z Z Z fun aa w a m f=>Bx (cs:=[(.slice none 0 0)]) Tryz.zeroValue30 m f Z Z fun ab w a m f=>Aa (Ac ?_)
 refine A5 1 0 (ds:=[v0_0]) m Bq f Z Z Z Z Z fun a f=> ?_
 obtain⟨ac,ad,hd⟩:=bind_some hd
 refine AK f Z Tryz.call168 (Wk.w0 m h0_0 ad) fun ae af ag w ah m ai a f=> ?_
 obtain⟨aj,ak,rfl,rfl,al⟩:=ai
 have h0_0:=rd2 ah h0_0
 have h1:=rd1 ah h1
 refine Bx (cs:=[(.slice none 0 0)]) Tryz.zeroValue30 m f Z Z fun am w a m f=>AS 0 0 (ds:=[aj]) m Tryz.sizeOf30 f Z Z Z (AN (Ow.one1 1 m al Z) A3) Z (Nat.le_of_ble_eq_true Z) Z fun w m=>Aa (Ac ?_)
 refine A5 3 0 (ds:=[v0_0]) m Bq f Z Z Z Z Z fun a f=> ?_
 obtain⟨an,ao,hd⟩:=bind_some hd
 refine Bi f Z Tryz.call80 (Wk.d m h0_0 ao) fun ap w aq m a f=> ?_
 have h0_0:=rd2 aq h0_0
 have h1:=rd1 aq h1
 have al:=Ow.mono (RSl.mono (RI.mono _)) aq al
 obtain⟨ar,au,hd⟩:=bind_some hd
 refine Da (R:=RB) m T142 Z (by decide) Z f Z Z Z au fun av aw w a m ax f=>Ad f Z fun a f=>Aa (Af (Ac ?_))
 refine Ad f Z fun a f=>Aa ?_
 obtain⟨ay,az,hd⟩:=bind_some hd
 refine AC (fun a w=>∃aA:List (List Int),aA=ay∧∃(aB:GH) (aC:Itm),GLe ap aB∧Fr a 35 [(4,(.pointer (some ⟨ab,0,none⟩))),(5,(.pointer (some ⟨am,0,none⟩)))]∧Mem W aB w (Itm.box ab 30 [(.slice none 0 0)]::Itm.box am 30 [aj]::aC::H)∧Ow (RSl (RI .i64)) 42 aB aC aj aA) ?_ ?_
 ·refine Aj ?_
  have m:=m.front 1 rfl
  have m:=m.front 3 rfl
  have m:=m.eraseAt 4
  refine AA (fun aD a w=>∃aE:List Bool,∃aF:Int,∃aG:List (List Int),(aE,aF,aG)=aD∧∃(aH:GH) (aI:Itm) (aJ:Itm),GLe ap aH∧Fr a 35 [(1,v1),(4,(.pointer (some ⟨ab,0,none⟩))),(5,(.pointer (some ⟨am,0,none⟩))),(6,aw),(7,(.int .i64 aF))]∧Mem W aH w (Itm.box ab 30 [(.slice none 0 0)]::Itm.box am 30 [aj]::aI::aJ::H)∧Ow RB 4 aH aI aw aE∧Ow (RSl (RI .i64)) 42 aH aJ aj aG) az ⟨_,_,_,Z,_,av,ak,gr,f.k Z,m,ax,al⟩ ?_
  clear az f m
  rintro aD aK aL aM a w ⟨aE,aF,aG,rfl,aH,aI,aJ,aN,f,m,aO,aP⟩
  have h1:=rd1 aN h1
  refine Af (Ac ?_)
  refine Ab f Z fun a f=>Ab f Z fun a f=>AZ Tryz.underlying42 f Z Z h1 fun a f=>Ah f Z Z AJ fun a f=>Aa ?_
  rcases Ae aL with⟨aQ,aL⟩|⟨aQ,aL⟩
  ·refine Al f Z aQ ?_
   refine Am ?_
   refine Af (Aj (Ac ?_))
   refine Ab f Z fun a f=>Ab f Z fun a f=>Ab f Z fun a f=> ?_
   obtain⟨aR,aS,aL⟩:=bind_some aL
   refine Bf T42 f Z Z Z h1 aS fun aT aU a aV aW f=> ?_
   subst aW
   refine AG m Pl2 f Z Z aV fun a f=> ?_
   obtain⟨aX,aY,aL⟩:=bind_some aL
   refine AW 2 m aO Z T142 f Z Z Z aY fun aZ a a2 f=>Au 2 m aO Z Tryz.sizeOf4 f Z Z a2 aY Z Z Z fun a3 w m a4=>Aa ?_
   refine AT 8 Aw (by kernel_rfl) m ?_
   refine Bt (i:=0) (ds:=[aj]) 8 1 Bq Z Z Z Z (by kernel_rfl) Z f Z Z Z fun a f=>Bt (i:=1) (ds:=[aj]) 8 1 Bq Z Z Z Z (by kernel_rfl) Z f Z Z Z fun a f=>Ag 2 8 Z f Z fun a f=>Ag 3 8 Z f Z fun a f=> ?_
   obtain⟨a5,a6,aL⟩:=bind_some aL
   refine B2 4 8 T42 h1 a6 Z f Z Z fun a7 a8 a a9 ba f=> ?_
   subst ba
   refine BZ 5 8 Pl2 a9 Z f Z fun a f=>Ag 6 8 Z f Z fun a f=>BD (i:=7) Z (by kernel_rfl) Z fun bb w bc m bd bd=> ?_
   have h1:=rd1 bc h1
   have a9:=At.mono bc a9
   have a4:=Ow.mono RB.mono bc a4
   have aP:=Ow.mono (RSl.mono (RI.mono _)) bc aP
   obtain⟨be,bf,aL⟩:=bind_some aL
   refine AK f Z Tryz.call132 (Ow.lendCall (RSl.mono (RI.mono _)) 3 aP m Z (fun bg bh m bi=>(Ow.lendCall RB.mono 2 (Ow.mono RB.mono bh a4) m Z (fun bj bk m bl=>Wk.d0 m (rd2 bk bi) bl bf) (fun _ G' _ _ ⟨a0,a1,e1,e2,o0⟩=>⟨a0,a1,e1,e2,Ow.free (RI.free _) G' o0⟩))) (fun _ G' _ _ ⟨a0,a1,e1,e2,o0⟩=>⟨a0,a1,e1,e2,Ow.free (RI.free _) G' o0⟩)) fun bm bn bo w bp m bq a f=> ?_
   obtain⟨br,bs,rfl,rfl,bt⟩:=bq
   have h1:=rd1 bp h1
   have a9:=At.mono bp a9
   have a4:=Ow.mono RB.mono bp a4
   have aP:=Ow.mono (RSl.mono (RI.mono _)) bp aP
   refine Aa ?_
   refine bd bn [bs] _ _ bp m ?_
   refine AI fun bu w bv m=> ?_
   have h1:=rd1 bv h1
   have a9:=At.mono bv a9
   have bt:=od1 bv bt
   have a4:=Ow.mono RB.mono bv a4
   have aP:=Ow.mono (RSl.mono (RI.mono _)) bv aP
   obtain⟨bw,bx,m,bz⟩:=Ow.stamp (RI.mono _) bt m
   have h1:=rd1 bx h1
   have a9:=At.mono bx a9
   have a4:=Ow.mono RB.mono bx a4
   have aP:=Ow.mono (RSl.mono (RI.mono _)) bx aP
   have m:Mem W bw w (aJ::Itm.box ab 30 [(.slice none 0 0)]::Itm.box am 30 [aj]::a3::H):=m.front 3 rfl
   obtain⟨bA,bB,aL⟩:=bind_some aL
   refine AK f Z Tryz.call169 (Wk.j0 m aP bz bB) fun bC bD bE w bF m bG a f=> ?_
   obtain⟨bH,rfl,rfl,bI⟩:=bG
   have h1:=rd1 bF h1
   have a9:=At.mono bF a9
   have bz:=rd1 bF bz
   have a4:=Ow.mono RB.mono bF a4
   refine AS 2 0 (ds:=[aj]) m Tryz.sizeOf30 f Z Z Z (AN (Ow.one1 0 m bI Z) A3) Z (Nat.le_of_ble_eq_true Z) Z fun w m=>Aa (Ak ?_)
   refine Ab f Z fun a f=>Ah f Z Z Ar fun a f=>Ad f Z fun a f=>Aa ?_
   have m:=m.front 3 rfl
   have m:=m.front 3 rfl
   have m:Mem W bD w (Itm.box ab 30 [(.slice none 0 0)]::Itm.box am 30 [aj]::a3::bH::H):=m.front 3 rfl
   obtain rfl:=sj aL
   exact⟨_,Z,_,_,_,Z,_,a3,bH,(gt aN (gt bc (gt bp (gt bv (gt bx bF))))),f.k Z,m,a4,bI⟩
  ·refine Ai f Z aQ ?_
   refine Ax Z ?_
   have m:=m.front 3 rfl
   have m:=m.front 2 rfl
   have m:Mem W aH w (Itm.box ab 30 [(.slice none 0 0)]::Itm.box am 30 [aj]::aJ::aI::H):=m.front 2 rfl
   have m:=m.eraseAt 3
   obtain rfl:=sj aL
   obtain rfl:=aM _ rfl
   exact⟨_,Z,_,aJ,aN,f.k Z,m,aP⟩
 ·rintro a w ⟨aA,rfl,aB,aC,bJ,f,m,bK⟩
  refine Ac ?_
  refine A5 1 0 (ds:=[aj]) m Bq f Z Z Z Z Z fun a f=>AS 0 0 (ds:=[aj]) m Tryz.sizeOf30 f Z Z Z (AN (Ow.one1 2 m bK Z) A3) Z (Nat.le_of_ble_eq_true Z) Z fun w m=>Aa ?_
  refine Aq ?_
  have bL:=Cu (P:=Tryz.prog) 0 m Bq f (s:=4) rfl rfl rfl
  have m:=m.front 2 rfl
  have m:=m.eraseAt 2
  have m:=m.eraseAt 1
  obtain rfl:=sj hd
  exact⟨[(.agg #[aj])],⟨bL,trivial⟩,f.defers,_,[aC],(gt ah (gt aq bJ)),m,_,_,Z,Z,bK⟩
theorem Wk.P0 {W w:World}{G:GH}{H:List Itm}{v0_0:Value}{v1:Value}{x0_0:(List (List Int))}{x1:(List Int)}(m:Mem W G w (H))(h0_0:RSl (RSl (RI .i64)) G v0_0 x0_0)(h1:RSl (RI .i64) G v1 x1){y:((List (List Int)))}(hd:D.P0 x0_0 x1=some y):
  Calls Tryz.prog 67 #[(.agg #[v0_0]),v1] w (Res W G H (fun G' Ho v=>∃r0:Value,∃i0:Itm,Ho=[i0]∧r0=v∧Ow (RSl (RI .i64)) 42 G' i0 r0 y)):=by
 refine As (args:=[(.agg #[v0_0]),v1]) (N:=44) [.tmp 4] Tryz.func67 Z Z (Nat.le_of_ble_eq_true Z) Z fun a f=> ?_
 unfold D.P0 at hd
 refine Ac ?_
 refine Bw (cs:=[v0_0]) m f Z Z Z fun aa w a m f=>Ad f Z fun a f=>Aa (Ac ?_)
 refine A5 0 0 (ds:=[v0_0]) m Bq f Z Z Z Z Z fun a f=>Ab f Z fun a f=> ?_
 obtain⟨ab,ac,hd⟩:=bind_some hd
 refine AK f Z Tryz.call131 (Wk.l0 m h0_0 h1 ac) fun ad ae af w ag m ah a f=> ?_
 obtain⟨ai,aj,rfl,rfl,ak⟩:=ah
 have h0_0:=rd2 ag h0_0
 have h1:=rd1 ag h1
 refine Bx (cs:=[(.slice none 0 0)]) Tryz.zeroValue30 m f Z Z fun al w a m f=>AS 0 0 (ds:=[ai]) m Tryz.sizeOf30 f Z Z Z (AN (Ow.one1 1 m ak Z) A3) Z (Nat.le_of_ble_eq_true Z) Z fun w m=>Aa (Ac ?_)
 refine A5 2 0 (ds:=[v0_0]) m Bq f Z Z Z Z Z fun a f=> ?_
 obtain⟨am,an,hd⟩:=bind_some hd
 refine Bi f Z Tryz.call80 (Wk.d m h0_0 an) fun ao w ap m a f=> ?_
 have h0_0:=rd2 ap h0_0
 have h1:=rd1 ap h1
 have ak:=Ow.mono (RSl.mono (RI.mono _)) ap ak
 obtain⟨aq,ar,hd⟩:=bind_some hd
 refine Da (R:=RB) m T142 Z (by decide) Z f Z Z Z ar fun au av w a m aw f=>Ad f Z fun a f=>Aa (Ac ?_)
 refine A5 3 0 (ds:=[v0_0]) m Bq f Z Z Z Z Z fun a f=> ?_
 obtain⟨ax,ay,hd⟩:=bind_some hd
 refine Bi f Z Tryz.call80 (Wk.d m h0_0 ay) fun az w aA m a f=> ?_
 have h0_0:=rd2 aA h0_0
 have h1:=rd1 aA h1
 have aw:=Ow.mono RB.mono aA aw
 have ak:=Ow.mono (RSl.mono (RI.mono _)) aA ak
 obtain⟨aB,aC,hd⟩:=bind_some hd
 refine Da (R:=(RSl (RI .i64))) m T22 Z (by decide) (RSl.nil (RI .i64) az) f Z Z Z aC fun aD aE w a m aF f=>Ad f Z fun a f=>Aa (Af (Ac ?_))
 refine Ad f Z fun a f=>Aa ?_
 obtain⟨aG,aH,hd⟩:=bind_some hd
 refine AC (fun a w=>∃aI:List (List Int),aI=aG∧∃(aJ:GH) (aK:Itm),GLe az aJ∧Fr a 44 [(7,aE)]∧Mem W aJ w (aK::H)∧Ow (RSl (RI .i64)) 42 aJ aK aE aI) ?_ ?_
 ·refine Aj ?_
  have m:=m.front 1 rfl
  have m:=m.front 2 rfl
  have m:=m.eraseAt 4
  refine AA (fun aL a w=>∃aM:List Bool,∃aN:List (List Int),∃aO:Int,(aM,aN,aO)=aL∧∃(aP:GH) (aQ:Itm) (aR:Itm),GLe az aP∧Fr a 44 [(1,v1),(5,(.pointer (some ⟨al,0,none⟩))),(6,av),(7,aE),(8,(.int .i64 aO))]∧Mem W aP w (Itm.box al 30 [ai]::aQ::aR::aj::H)∧Ow RB 4 aP aQ av aM∧Ow (RSl (RI .i64)) 42 aP aR aE aN) aH ⟨_,_,_,Z,_,au,aD,gr,f.k Z,m,aw,aF⟩ ?_
  clear aH f m
  rintro aL aS aT aU a w ⟨aM,aN,aO,rfl,aP,aQ,aR,aV,f,m,aW,aX⟩
  have h1:=rd1 aV h1
  have ak:=Ow.mono (RSl.mono (RI.mono _)) aV ak
  refine Af (Ac ?_)
  refine Ab f Z fun a f=>Ab f Z fun a f=>AZ Tryz.underlying42 f Z Z h1 fun a f=>Ah f Z Z AJ fun a f=>Aa ?_
  rcases Ae aT with⟨aY,aT⟩|⟨aY,aT⟩
  ·refine Al f Z aY ?_
   refine Am ?_
   refine Af (Aj (Ac ?_))
   refine Ab f Z fun a f=>Ab f Z fun a f=>Ab f Z fun a f=> ?_
   obtain⟨aZ,a2,aT⟩:=bind_some aT
   refine Bf T42 f Z Z Z h1 a2 fun a3 a4 a a5 a6 f=> ?_
   subst a6
   refine AG m Pl2 f Z Z a5 fun a f=> ?_
   obtain⟨a7,a8,aT⟩:=bind_some aT
   refine AW 1 m aW Z T142 f Z Z Z a8 fun a9 a ba f=>Au 1 m aW Z Tryz.sizeOf4 f Z Z ba a8 Z Z Z fun bb w m bc=>Aa ?_
   refine AT 13 Aw (by kernel_rfl) m ?_
   refine Ag 0 13 Z f Z fun a f=>Ag 1 13 Z f Z fun a f=>Ag 2 13 Z f Z fun a f=> ?_
   obtain⟨bd,be,aT⟩:=bind_some aT
   refine B2 3 13 T42 h1 be Z f Z Z fun bf bg a bh bi f=> ?_
   subst bi
   refine BZ 4 13 Pl2 bh Z f Z fun a f=>Bt (i:=5) (ds:=[ai]) 13 0 Bq Z Z Z Z (by kernel_rfl) Z f Z Z Z fun a f=>Ag 6 13 Z f Z fun a f=>Ag 7 13 Z f Z fun a f=> ?_
   obtain⟨bj,bk,aT⟩:=bind_some aT
   refine B2 8 13 T42 h1 bk Z f Z Z fun bl bm a bn bo f=> ?_
   subst bo
   refine BZ 9 13 Pl2 bn Z f Z fun a f=>Ag 10 13 Z f Z fun a f=>BD (i:=11) Z (by kernel_rfl) Z fun bp w bq m br br=> ?_
   have h1:=rd1 bq h1
   have bh:=At.mono bq bh
   have bn:=At.mono bq bn
   have bc:=Ow.mono RB.mono bq bc
   have aX:=Ow.mono (RSl.mono (RI.mono _)) bq aX
   have ak:=Ow.mono (RSl.mono (RI.mono _)) bq ak
   obtain⟨bs,bt,aT⟩:=bind_some aT
   refine AK f Z Tryz.call132 (Ow.lendCall (RSl.mono (RI.mono _)) 3 ak m Z (fun bu bv m bw=>(Ow.lendCall RB.mono 1 (Ow.mono RB.mono bv bc) m Z (fun bx bz m bA=>Wk.d0 m (rd2 bz bw) bA bt) (fun _ G' _ _ ⟨a0,a1,e1,e2,o0⟩=>⟨a0,a1,e1,e2,Ow.free (RI.free _) G' o0⟩))) (fun _ G' _ _ ⟨a0,a1,e1,e2,o0⟩=>⟨a0,a1,e1,e2,Ow.free (RI.free _) G' o0⟩)) fun bB bC bD w bE m bF a f=> ?_
   obtain⟨bG,bH,rfl,rfl,bI⟩:=bF
   have h1:=rd1 bE h1
   have bh:=At.mono bE bh
   have bn:=At.mono bE bn
   have bc:=Ow.mono RB.mono bE bc
   have aX:=Ow.mono (RSl.mono (RI.mono _)) bE aX
   have ak:=Ow.mono (RSl.mono (RI.mono _)) bE ak
   refine Aa ?_
   refine br bC [bH] _ _ bE m ?_
   obtain⟨bJ,bK,aT⟩:=bind_some aT
   refine Az 12 13 3 m aX T22 bK Z f Z Z fun bL a bM f=>AI fun bN w bO m=> ?_
   have h1:=rd1 bO h1
   have bh:=At.mono bO bh
   have bn:=At.mono bO bn
   have bI:=od1 bO bI
   have bc:=Ow.mono RB.mono bO bc
   have aX:=Ow.mono (RSl.mono (RI.mono _)) bO aX
   have ak:=Ow.mono (RSl.mono (RI.mono _)) bO ak
   obtain⟨bP,bQ,m,bR⟩:=Ow.stamp (RI.mono _) bI m
   have h1:=rd1 bQ h1
   have bh:=At.mono bQ bh
   have bn:=At.mono bQ bn
   have bc:=Ow.mono RB.mono bQ bc
   have aX:=Ow.mono (RSl.mono (RI.mono _)) bQ aX
   have ak:=Ow.mono (RSl.mono (RI.mono _)) bQ ak
   refine Au 2 m aX Z Tryz.sizeOf42 f Z Z bM bK bR.cells bR.one1 bR fun bS w m bT=>Aa (Ak ?_)
   refine Ab f Z fun a f=>Ah f Z Z Ar fun a f=>Ad f Z fun a f=>Aa ?_
   obtain rfl:=sj aT
   exact⟨_,Z,_,_,_,Z,_,bb,bS,(gt aV (gt bq (gt bE (gt bO bQ)))),f.k Z,m,bc,bT⟩
  ·refine Ai f Z aY ?_
   refine Ax Z ?_
   have m:=m.front 2 rfl
   have m:=m.front 3 rfl
   have m:Mem W aP w (aQ::aj::aR::Itm.box al 30 [ai]::H):=m.front 3 rfl
   have m:=m.front 2 rfl
   have m:=m.eraseAt 3
   have m:Mem W aP w (aR::aQ::H):=m.eraseAt 2
   have m:=m.eraseAt 1
   obtain rfl:=sj aT
   obtain rfl:=aU _ rfl
   exact⟨_,Z,_,aR,aV,f.k Z,m,aX⟩
 ·rintro a w ⟨aI,rfl,aJ,aK,bU,f,m,bV⟩
  refine Ac ?_
  refine Ab f Z fun a f=>Ad f Z fun a f=>Aa ?_
  refine Aq ?_
  obtain rfl:=sj hd
  exact⟨[aE],⟨f.get _ _ Z,trivial⟩,f.defers,_,[aK],(gt ag (gt ap (gt aA bU))),m,_,_,Z,Z,bV⟩
theorem Wk.L {W w:World}{G:GH}{H:List Itm}{x0:Int}{x1:Int}(m:Mem W G w (H)){y:Int}(hd:D.L x0 x1=some y):
  Calls Tryz.prog 102 #[(.int .i64 x0),(.int .i64 x1)] w (Res W G H (fun _ Ho v=>Ho=[]∧v=(.int .i64 y))):=by
 refine As (args:=[(.int .i64 x0),(.int .i64 x1)]) (N:=10) [.tmp 4] Tryz.func102 Z Z (Nat.le_of_ble_eq_true Z) Z fun a f=> ?_
 unfold D.L at hd
 refine Ac ?_
 refine Ad f Z fun a f=>Aa (Af (Ac ?_))
 refine Ab f Z fun a f=>Ab f Z fun a f=>Ah f Z Z BV fun a f=>Aa ?_
 rcases Ae hd with⟨aa,hd⟩|⟨aa,hd⟩
 ·refine Al f Z aa ?_
  refine Ac ?_
  refine Ab f Z fun a f=>Ad f Z fun a f=>Aa ?_
  refine Aq ?_
  obtain rfl:=sj hd
  exact⟨[(.int .i64 x0)],⟨f.get _ _ Z,trivial⟩,f.defers,_,[],gr,m,Z,Z⟩
 ·refine Ai f Z aa ?_
  refine Am ?_
  refine Ac ?_
  refine Ab f Z fun a f=>Ad f Z fun a f=>Aa ?_
  refine Aq ?_
  obtain rfl:=sj hd
  exact⟨[(.int .i64 x1)],⟨f.get _ _ Z,trivial⟩,f.defers,_,[],gr,m,Z,Z⟩
theorem Wk.Y {W w:World}{G:GH}{H:List Itm}{v0_0:Value}{v1:Value}{x0_0:(List (List Int))}{x1:(List Int)}(m:Mem W G w (H))(h0_0:RSl (RSl (RI .i64)) G v0_0 x0_0)(h1:RSl (RI .i64) G v1 x1){y:Int}(hd:D.Y x0_0 x1=some y):
  Calls Tryz.prog 39 #[(.agg #[v0_0]),v1] w (Res W G H (fun _ Ho v=>Ho=[]∧v=(.int .i64 y))):=by
 refine As (args:=[(.agg #[v0_0]),v1]) (N:=29) [.tmp 4] Tryz.func39 Z Z (Nat.le_of_ble_eq_true Z) Z fun a f=> ?_
 unfold D.Y at hd
 refine Ac ?_
 refine Bw (cs:=[v0_0]) m f Z Z Z fun aa w a m f=>Ad f Z fun a f=>Aa (Af (Ac ?_))
 refine A5 0 0 (ds:=[v0_0]) m Bq f Z Z Z Z Z fun a f=>Ab f Z fun a f=> ?_
 obtain⟨ab,ac,hd⟩:=bind_some hd
 refine Bi f Z Tryz.call41 (Wk.f0 m h0_0 h1 ac) fun ad w ae m a f=> ?_
 have h0_0:=rd2 ae h0_0
 have h1:=rd1 ae h1
 refine l_o f (Bd (f.eval Z)) fun a f=>Aa ?_
 rcases Ae hd with⟨af,hd⟩|⟨af,hd⟩
 ·refine Al f Z af ?_
  refine Ac ?_
  refine Ad f Z fun a f=>Aa ?_
  refine Aq ?_
  have m:Mem W ad w H:=Mem.drop (H':=[Itm.box aa 30 [v0_0]]) m
  obtain rfl:=sj hd
  exact⟨[(.int .i64 (-1))],⟨f.get _ _ Z,trivial⟩,f.defers,_,[],ae,m,Z,Z⟩
 ·refine Ai f Z af ?_
  refine Am ?_
  refine Ac ?_
  refine A5 0 0 (ds:=[v0_0]) m Bq f Z Z Z Z Z fun a f=>Ab f Z fun a f=> ?_
  obtain⟨ag,ah,hd⟩:=bind_some hd
  refine AK f Z Tryz.call67 (Wk.P0 m h0_0 h1 ah) fun ai aj ak w al m am a f=> ?_
  obtain⟨an,ao,rfl,rfl,ap⟩:=am
  have h0_0:=rd2 al h0_0
  have h1:=rd1 al h1
  refine Ad f Z fun a f=>Aa (Ac ?_)
  refine Ad f Z fun a f=>Aa (Af (Ac ?_))
  refine Ad f Z fun a f=>Aa ?_
  obtain⟨aq,ar,hd⟩:=bind_some hd
  refine AC (fun a w=>∃au:Int,au=aq∧∃(av:GH),GLe aj av∧Fr a 29 [(6,(.int .i64 au))]∧Mem W av w (H)) ?_ ?_
  ·refine Aj ?_
   have m:=m.eraseAt 1
   refine AA (fun aw a w=>∃ax:Int,∃ay:Int,(ax,ay)=aw∧∃(az:GH),GLe aj az∧Fr a 29 [(5,an),(6,(.int .i64 ax)),(7,(.int .i64 ay))]∧Mem W az w (ao::H)) ar ⟨_,_,Z,_,gr,f.k Z,m⟩ ?_
   clear ar f m
   rintro aw aA aB aC a w ⟨ax,ay,rfl,az,aD,f,m⟩
   have ap:=Ow.mono (RSl.mono (RI.mono _)) aD ap
   refine Af (Ac ?_)
   refine Ab f Z fun a f=>Ab f Z fun a f=>BB 0 m ap Z Tryz.underlying22 f Z Z fun a f=>Ah f Z Z AJ fun a f=>Aa ?_
   rcases Ae aB with⟨aE,aB⟩|⟨aE,aB⟩
   ·refine Al f Z aE ?_
    refine Am ?_
    refine Af (Aj (Ak ?_))
    refine Ab f Z fun a f=>Ab f Z fun a f=>Ab f Z fun a f=> ?_
    obtain⟨aF,aG,aB⟩:=bind_some aB
    refine AW 0 m ap Z T22 f Z Z Z aG fun aH a aI f=>BL 0 m ap Z AY f Z Z aI aG fun aJ a aK f=>AZ Tryz.underlying42 f Z Z aK fun a f=> ?_
    obtain⟨aL,aM,aB⟩:=bind_some aB
    refine Bi f Z Tryz.call102 (Wk.L m aM) fun aN w aO m a f=> ?_
    have aK:=rd1 aO aK
    have ap:=Ow.mono (RSl.mono (RI.mono _)) aO ap
    refine Ad f Z fun a f=>Aa (Ak ?_)
    refine Ab f Z fun a f=>Ah f Z Z Ar fun a f=>Ad f Z fun a f=>Aa ?_
    obtain rfl:=sj aB
    exact⟨_,Z,_,_,Z,_,(gt aD aO),f.k Z,m⟩
   ·refine Ai f Z aE ?_
    refine Ax Z ?_
    have m:Mem W az w H:=Mem.drop (H':=[ao]) m
    obtain rfl:=sj aB
    obtain rfl:=aC _ rfl
    exact⟨_,Z,_,aD,f.k Z,m⟩
  ·rintro a w ⟨au,rfl,av,aP,f,m⟩
   refine Ac ?_
   refine Ab f Z fun a f=>Ad f Z fun a f=>Aa ?_
   refine Aq ?_
   obtain rfl:=sj hd
   exact⟨[(.int .i64 au)],⟨f.get _ _ Z,trivial⟩,f.defers,_,[],(gt ae (gt al aP)),m,Z,Z⟩
end Go.Proofs.YtebbefpdncgoiaaGreatDoor

set_option maxRecDepth 100000
namespace Go.Proofs.YtebbefpdncgoiaaGreatDoor
open Go Go.Sx
theorem Wk.b0 {W w:World}{G:GH}{H:List Itm}{b1:Nat}{b2:Nat}{x0:Int}{x1_0:Int}{x2_0:Int}(m:Mem W G w (Itm.box b1 3 [(.int .i64 x1_0)]::Itm.box b2 3 [(.int .i64 x2_0)]::H)){y:Int}(hd:D.b0 x0 x1_0 x2_0=some y):
  Calls Tryz.prog 165 #[(.int .i64 x0),(.pointer (some ⟨b1,0,none⟩)),(.pointer (some ⟨b2,0,none⟩))] w (Res W G H (fun _ Ho v=>Ho=[Itm.box b1 3 [(.int .i64 x1_0)],Itm.box b2 3 [(.int .i64 x2_0)]]∧v=(.int .i64 y))):=by
 refine As (args:=[(.int .i64 x0),(.pointer (some ⟨b1,0,none⟩)),(.pointer (some ⟨b2,0,none⟩))]) (N:=15) [.tmp 4] Tryz.func165 Z Z (Nat.le_of_ble_eq_true Z) Z fun a f=> ?_
 unfold D.b0 at hd
 refine Ac ?_
 refine Ad f Z fun a f=>Aa (Af (Ac ?_))
 refine Ab f Z fun a f=>AF 0 0 m Pl3 f Z Z Z Z fun a f=>Ah f Z Z By fun a f=>Aa ?_
 rcases Ae hd with⟨aa,hd⟩|⟨aa,hd⟩
 ·refine Al f Z aa ?_
  refine Ak ?_
  refine AF 1 0 m Pl3 f Z Z Z Z fun a f=>Ad f Z fun a f=>Aa (Af (Ac ?_))
  refine Ab f Z fun a f=>AF 0 0 m Pl3 f Z Z Z Z fun a f=>Ah f Z Z BV fun a f=>Aa ?_
  rcases Ae hd with⟨ab,hd⟩|⟨ab,hd⟩
  ·refine Al f Z ab ?_
   refine Ak ?_
   refine Ab f Z fun a f=>Ah f Z Z AH fun a f=>Ad f Z fun a f=>Aa (Ac ?_)
   refine Ab f Z fun a f=>Ad f Z fun a f=>Aa ?_
   refine Aq ?_
   obtain rfl:=sj hd
   exact⟨[(.int .i64 (IntKind.i64.wrap (x2_0-1)))],⟨f.get _ _ Z,trivial⟩,f.defers,_,[Itm.box b1 3 [(.int .i64 x1_0)],Itm.box b2 3 [(.int .i64 x2_0)]],gr,m,Z,Z⟩
  ·refine Ai f Z ab ?_
   refine Am ?_
   refine Ac ?_
   refine Ab f Z fun a f=>Ad f Z fun a f=>Aa ?_
   refine Aq ?_
   obtain rfl:=sj hd
   exact⟨[(.int .i64 x2_0)],⟨f.get _ _ Z,trivial⟩,f.defers,_,[Itm.box b1 3 [(.int .i64 x1_0)],Itm.box b2 3 [(.int .i64 x2_0)]],gr,m,Z,Z⟩
 ·refine Ai f Z aa ?_
  refine Am ?_
  refine Af (Ac ?_)
  refine Ab f Z fun a f=>AF 0 0 m Pl3 f Z Z Z Z fun a f=>Ah f Z Z BV fun a f=>Aa ?_
  rcases Ae hd with⟨ac,hd⟩|⟨ac,hd⟩
  ·refine Al f Z ac ?_
   refine Ak ?_
   refine Ab f Z fun a f=>Ah f Z Z AH fun a f=>Ad f Z fun a f=>Aa (Ac ?_)
   refine Ab f Z fun a f=>Ad f Z fun a f=>Aa ?_
   refine Aq ?_
   obtain rfl:=sj hd
   exact⟨[(.int .i64 (IntKind.i64.wrap (x0-1)))],⟨f.get _ _ Z,trivial⟩,f.defers,_,[Itm.box b1 3 [(.int .i64 x1_0)],Itm.box b2 3 [(.int .i64 x2_0)]],gr,m,Z,Z⟩
  ·refine Ai f Z ac ?_
   refine Am ?_
   refine Ac ?_
   refine Ab f Z fun a f=>Ad f Z fun a f=>Aa ?_
   refine Aq ?_
   obtain rfl:=sj hd
   exact⟨[(.int .i64 x0)],⟨f.get _ _ Z,trivial⟩,f.defers,_,[Itm.box b1 3 [(.int .i64 x1_0)],Itm.box b2 3 [(.int .i64 x2_0)]],gr,m,Z,Z⟩
theorem Wk.f {W w:World}{G:GH}{H:List Itm}{v0:Value}{v1:Value}{x0:(List Int)}{x1:(List (List Int))}{x2:Int}{x3:Int}(m:Mem W G w (H))(h0:RSl (RI .u32) G v0 x0)(h1:RSl (RSl (RI .i64)) G v1 x1){y:((List Int))×((List (List Int)))}(hd:D.f x0 x1 x2 x3=some y):
  Calls Tryz.prog 129 #[v0,v1,(.int .i64 x2),(.int .i64 x3)] w (Res W G H (fun G' Ho v=>∃r0:Value,∃i0:Itm,∃r2:Value,∃i2:Itm,Ho=[i0,i2]∧v= .tuple #[r0,r2]∧Ow (RI .u32) 76 G' i0 r0 y.1∧Ow (RSl (RI .i64)) 42 G' i2 r2 y.2)):=by
 refine As (args:=[v0,v1,(.int .i64 x2),(.int .i64 x3)]) (N:=53) [.tmp 8,.tmp 9] Tryz.func129 Z Z (Nat.le_of_ble_eq_true Z) Z fun a f=> ?_
 unfold D.f at hd
 refine Ac ?_
 refine Bw (cs:=[(.int .i64 x2)]) m f Z Z Z fun aa w a m f=>Bw (cs:=[(.int .i64 x3)]) m f Z Z Z fun ab w a m f=>Ad f Z fun a f=>Ad f Z fun a f=>Aa (Ac ?_)
 refine EK f Z Z Z fun a f=>Ad f Z fun a f=>Aa (Ac ?_)
 refine A8 (R:=(RSl (RI .i64))) (xs:=([]:List (List Int))) (RSl.one _) m T22 f Z Z Z (by decide) (All2.nil _) fun ac ad w a m ae f=>Ad f Z fun a f=>Aa (Af (Ac ?_))
 refine Ab f Z fun a f=>AZ Tryz.underlying22 f Z Z h1 fun a f=>Ab f Z fun a f=>Aa ?_
 obtain⟨af,ag,hd⟩:=bind_some hd
 refine AC (fun a w=>∃ah:List (List Int),ah=af∧∃(ai:GH) (aj:Value) (ak:Itm),GLe G ai∧Fr a 53 [(0,v0),(6,(.pointer (some ⟨aa,0,none⟩))),(11,aj)]∧Mem W ai w (Itm.box aa 3 [(.int .i64 x2)]::ak::H)∧Ow (RSl (RI .i64)) 42 ai ak aj ah) ?_ ?_
 ·refine Aj ?_
  have m:=m.front 1 rfl
  have m:=m.front 2 rfl
  refine AA (fun al a w=>∃am:List (List Int),∃an:Int,(am,an)=al∧∃(ao:GH) (ap:Value) (aq:Itm),GLe G ao∧Fr a 53 [(0,v0),(6,(.pointer (some ⟨aa,0,none⟩))),(10,(.func (.func 165) #[] #[(.pointer (some ⟨aa,0,none⟩)),(.pointer (some ⟨ab,0,none⟩))])),(11,ap),(18,v1),(19,(.int .i64 (x1.length:Int))),(20,(.int .i64 an))]∧Mem W ao w (Itm.box aa 3 [(.int .i64 x2)]::Itm.box ab 3 [(.int .i64 x3)]::aq::H)∧Ow (RSl (RI .i64)) 42 ao aq ap am) ag ⟨_,_,Z,_,ad,ac,gr,f.k Z,m,ae⟩ ?_
  clear ag f m
  rintro al ar au av a w ⟨am,an,rfl,ao,ap,aq,aw,f,m,ax⟩
  have h0:=rd1 aw h0
  have h1:=rd2 aw h1
  refine Ac ?_
  refine Ah f Z Z AJ fun a f=>Aa (Af ?_)
  rcases Ae au with⟨ay,au⟩|⟨ay,au⟩
  ·refine Al f Z ay ?_
   refine Am ?_
   refine Af (Aj (Ac ?_))
   obtain⟨az,aA,au⟩:=bind_some au
   refine Bf T22 f Z Z Z h1 aA fun aB aC a aD aE f=>AG m AY f Z Z aD fun a f=>Ad f Z fun a f=>Aa (Af ?_)
   refine AT 12 Aw (by kernel_rfl) m ?_
   refine Ag 0 12 Z f Z fun a f=>Ag 1 12 Z f Z fun a f=> ?_
   obtain⟨aF,aG,au⟩:=bind_some au
   refine B2 2 12 T42 aE aG Z f Z Z fun aH aI a aJ aK f=> ?_
   subst aK
   refine BZ 3 12 Pl2 aJ Z f Z fun a f=>Ag 5 12 Z f Z fun a f=>Ag 6 12 Z f Z fun a f=> ?_
   obtain⟨aL,aM,au⟩:=bind_some au
   refine B2 7 12 T42 aE aM Z f Z Z fun aN aO a aP aQ f=> ?_
   subst aQ
   refine BZ 8 12 Pl2 aP Z f Z fun a f=>BD (i:=4) Z (by kernel_rfl) Z fun aR w aS m aT aT=> ?_
   have h0:=rd1 aS h0
   have aE:=rd1 aS aE
   have h1:=rd2 aS h1
   have aJ:=At.mono aS aJ
   have aP:=At.mono aS aP
   have ax:=Ow.mono (RSl.mono (RI.mono _)) aS ax
   obtain⟨aU,aV,au⟩:=bind_some au
   refine Fl f Z Z Z Tryz.call165 (Wk.b0 m aV) fun aW aX aY w aZ m a0 a f=> ?_
   obtain⟨rfl,rfl⟩:=a0
   have h0:=rd1 aZ h0
   have aE:=rd1 aZ aE
   have h1:=rd2 aZ h1
   have aJ:=At.mono aZ aJ
   have aP:=At.mono aZ aP
   have ax:=Ow.mono (RSl.mono (RI.mono _)) aZ ax
   refine Aa ?_
   refine aT aX [] _ _ aZ m ?_
   refine BD (i:=9) Z (by kernel_rfl) Z fun a1 w a2 m a3 a3=> ?_
   have h0:=rd1 a2 h0
   have aE:=rd1 a2 aE
   have h1:=rd2 a2 h1
   have aJ:=At.mono a2 aJ
   have aP:=At.mono a2 aP
   have ax:=Ow.mono (RSl.mono (RI.mono _)) a2 ax
   obtain⟨a4,a5,au⟩:=bind_some au
   refine Fl f Z Z Z Tryz.call165 (Wk.b0 m a5) fun a6 a7 a8 w a9 m ba a f=> ?_
   obtain⟨rfl,rfl⟩:=ba
   have h0:=rd1 a9 h0
   have aE:=rd1 a9 aE
   have h1:=rd2 a9 h1
   have aJ:=At.mono a9 aJ
   have aP:=At.mono a9 aP
   have ax:=Ow.mono (RSl.mono (RI.mono _)) a9 ax
   refine Aa ?_
   refine a3 a7 [] _ _ a9 m ?_
   refine q_p 10 12 Z f (fun _=>Bl (f.eval Z)) fun a f=>q_p 11 12 Z f (fun _=>Bl (f.eval Z)) fun a f=>AI fun bb w bc m=> ?_
   have h0:=rd1 bc h0
   have aE:=rd1 bc aE
   have h1:=rd2 bc h1
   have aJ:=At.mono bc aJ
   have aP:=At.mono bc aP
   have ax:=Ow.mono (RSl.mono (RI.mono _)) bc ax
   refine Aa (Ac ?_)
   refine Ab f Z fun a f=>Ab f Z fun a f=>Ah f Z Z CI fun a f=>Aa ?_
   rcases Ae au with⟨bd,au⟩|⟨bd,au⟩
   ·refine Al f Z bd ?_
    refine Ak ?_
    refine Ab f Z fun a f=>Ab f Z fun a f=>Ab f Z fun a f=> ?_
    obtain⟨be,bf,au⟩:=bind_some au
    refine AK f Z Tryz.call56 (Wk.R m bf) fun bg bh bi w bj m bk a f=> ?_
    obtain⟨bl,bm,rfl,rfl,bn⟩:=bk
    have h0:=rd1 bj h0
    have aE:=rd1 bj aE
    have h1:=rd2 bj h1
    have ax:=Ow.mono (RSl.mono (RI.mono _)) bj ax
    obtain⟨bo,bp,m,bq⟩:=Ow.stamp (RI.mono _) bn m
    have h0:=rd1 bp h0
    have aE:=rd1 bp aE
    have h1:=rd2 bp h1
    have ax:=Ow.mono (RSl.mono (RI.mono _)) bp ax
    refine A8 (R:=(RSl (RI .i64))) (xs:=([be]:List (List Int))) (RSl.one _) m T22 f Z Z Z (by decide) (All2.cons bq (All2.nil _)) fun br bs w a m bt f=> ?_
    obtain⟨bu,bv,au⟩:=bind_some au
    refine Bo (RSl.one _) 3 m ax Z T22 Z (by decide) f Z Z Z (Ow.src (j:=0) bt m Z) bv fun bw bx w a m bz f=>Ad f Z fun a f=>Aa (Ak ?_)
    refine Ah f Z Z Ar fun a f=>Ab f Z fun a f=>Aa ?_
    have m:=m.front 3 rfl
    have m:=m.front 3 rfl
    have m:Mem W bo w (Itm.box aa 3 [(.int .i64 x2)]::Itm.box ab 3 [(.int .i64 x3)]::bw::br::H):=m.front 3 rfl
    have m:=m.eraseAt 3
    obtain rfl:=sj au
    exact⟨_,Z,_,_,Z,_,bx,bw,(gt aw (gt aS (gt aZ (gt a2 (gt a9 (gt bc (gt bj bp))))))),f.k Z,m,bz⟩
   ·refine Ai f Z bd ?_
    refine Am ?_
    refine Ak ?_
    refine Ah f Z Z Ar fun a f=>Ab f Z fun a f=>Aa ?_
    obtain rfl:=sj au
    exact⟨_,Z,_,_,Z,_,ap,aq,(gt aw (gt aS (gt aZ (gt a2 (gt a9 bc))))),f.k Z,m,ax⟩
  ·refine Ai f Z ay ?_
   refine Ax Z ?_
   have m:=m.front 2 rfl
   have m:=m.front 1 rfl
   have m:=m.eraseAt 2
   obtain rfl:=sj au
   obtain rfl:=av _ rfl
   exact⟨_,Z,_,ap,aq,aw,f.k Z,m,ax⟩
 ·rintro a w ⟨ah,rfl,ai,aj,ak,bA,f,m,bB⟩
  have h0:=rd1 bA h0
  refine Ac ?_
  refine Ab f Z fun a f=> ?_
  have m:=m.front 1 rfl
  obtain⟨bC,bD,hd⟩:=bind_some hd
  refine AK f Z Tryz.call57 (Ow.sortCall bB m (fun Z hZ=>(Bm bD hZ).imp (fun zs h=>⟨h.2.1,h.2.2,fun _ _ m o=>Wk.S m o h.1⟩))) fun bE bF bG w bH m bI a f=> ?_
  obtain⟨bJ,rfl,bK⟩:=bI
  have h0:=rd1 bH h0
  refine Aa (Af ?_)
  refine AT 8 Aw (by kernel_rfl) m ?_
  refine Ag 0 8 Z f Z fun a f=>BO 2 8 1 Pl3 Z Z Z f Z fun a f=>BO 3 8 1 Pl3 Z Z Z f Z fun a f=>q_p 4 8 Z f (fun _=>AD (f.eval Z) (f.eval Z) Ar) fun a f=>Ag 6 8 Z f Z fun a f=>BD (i:=1) Z (by kernel_rfl) Z fun bL w bM m bN bN=> ?_
  have h0:=rd1 bM h0
  have bK:=Ow.mono (RSl.mono (RI.mono _)) bM bK
  obtain⟨bO,bP,hd⟩:=bind_some hd
  refine AK f Z Tryz.call167 (Wk.n1 m h0 bP) fun bQ bR bS w bT m bU a f=> ?_
  obtain⟨bV,bW,rfl,rfl,bX⟩:=bU
  have h0:=rd1 bT h0
  have bK:=Ow.mono (RSl.mono (RI.mono _)) bT bK
  refine Aa ?_
  refine bN bR [bW] _ _ bT m ?_
  refine BD (i:=5) Z (by kernel_rfl) Z fun bY w bZ m b0 b0=> ?_
  have h0:=rd1 bZ h0
  have bX:=od1 bZ bX
  have bK:=Ow.mono (RSl.mono (RI.mono _)) bZ bK
  obtain⟨b1,b2,hd⟩:=bind_some hd
  refine AK f Z Tryz.call166 (Wk.q1 m bX b2) fun b3 b4 b5 w b6 m b7 a f=> ?_
  obtain⟨b8,b9,rfl,rfl,ca⟩:=b7
  have h0:=rd1 b6 h0
  have bK:=Ow.mono (RSl.mono (RI.mono _)) b6 bK
  refine Aa ?_
  refine b0 b4 [b9] _ _ b6 m ?_
  refine q_p 7 8 Z f (fun _=>Bl (f.eval Z)) fun a f=>AI fun cb w cc m=> ?_
  have h0:=rd1 cc h0
  have ca:=od1 cc ca
  have bK:=Ow.mono (RSl.mono (RI.mono _)) cc bK
  refine Ad f Z fun a f=>Aa ?_
  refine Aq ?_
  have m:=m.eraseAt 2
  obtain rfl:=sj hd
  exact⟨[b8,aj],⟨f.get _ _ Z,f.get _ _ Z,trivial⟩,f.defers,_,[b9,bJ],(gt bA (gt bH (gt bM (gt bT (gt bZ (gt b6 cc)))))),m,_,_,_,_,Z,Z,ca,bK⟩
theorem Wk.J0 {W w:World}{G:GH}{H:List Itm}{v0:Value}{x0:(List Int)}(hW:CP W)(m:Mem W G w (H))(h0:RSl (RI .u32) G v0 x0){y:((List (List Int)))}(hd:D.J0 x0=some y):
  Calls Tryz.prog 59 #[v0] w (Res W G H (fun G' Ho v=>∃r0:Value,∃i0:Itm,Ho=[i0]∧r0=v∧Ow2 (RI .i64) 42 2 G' i0 r0 y)):=by
 refine As (args:=[v0]) (N:=20) [.tmp 2] Tryz.func59 Z Z (Nat.le_of_ble_eq_true Z) Z fun a f=> ?_
 unfold D.J0 at hd
 refine Ac ?_
 refine Ad f Z fun a f=>Aa (Ac ?_)
 refine A8 (R:=RawS) (xs:=[]) RawS.one m T22 f Z Z Z (by decide) (All2.nil _) fun aa ab w a m ac f=> ?_
 obtain⟨ad,m,ae⟩:=Ow2.of_empty (RI .i64) 2 m ac
 refine Ad f Z fun a f=>Aa (Af (Ac ?_))
 refine Ab f Z fun a f=>AZ Tryz.underlying71 f Z Z h0 fun a f=>Ab f Z fun a f=>Aa ?_
 obtain⟨af,ag,hd⟩:=bind_some hd
 refine AC (fun a w=>∃ah:List (List Int),ah=af∧∃(ai:GH) (aj:Value) (ak:Itm),GLe G ai∧Fr a 20 [(3,aj)]∧Mem W ai w (ak::H)∧Ow2 (RI .i64) 42 2 ai ak aj ah) ?_ ?_
 ·refine Aj ?_
  refine AA (fun al a w=>∃am:List (List Int),∃an:Int,(am,an)=al∧∃(ao:GH) (ap:Value) (aq:Itm),GLe G ao∧Fr a 20 [(3,ap),(7,v0),(8,(.int .i64 (x0.length:Int))),(9,(.int .i64 an))]∧Mem W ao w (aq::H)∧Ow2 (RI .i64) 42 2 ao aq ap am) ag ⟨_,_,Z,_,ab,ad,gr,f.k Z,m,ae⟩ ?_
  clear ag f m
  rintro al ar au av a w ⟨am,an,rfl,ao,ap,aq,aw,f,m,ax⟩
  have h0:=rd1 aw h0
  refine Ac ?_
  refine Ah f Z Z AJ fun a f=>Aa (Af ?_)
  rcases Ae au with⟨ay,au⟩|⟨ay,au⟩
  ·refine Al f Z ay ?_
   refine Am ?_
   refine Af (Aj (Ac ?_))
   obtain⟨az,aA,au⟩:=bind_some au
   refine Bf T71 f Z Z Z h0 aA fun aB aC a aD aE f=> ?_
   subst aE
   refine AG m Cw f Z Z aD fun a f=>Ad f Z fun a f=>Aa (Ak ?_)
   refine Ab f Z fun a f=>Ab f Z fun a f=> ?_
   obtain⟨aF,aG,au⟩:=bind_some au
   refine AK f Z Tryz.call124 (Wk.H hW m aG) fun aH aI aJ w aK m aL a f=> ?_
   obtain⟨aM,aN,rfl,rfl,aO⟩:=aL
   have h0:=rd1 aK h0
   have ax:=od2 aK ax
   refine A8 (R:=RawS) (xs:=[aM]) RawS.one m T22 f Z Z Z (by decide) (All2.cons ⟨Z,Ow.one1 0 m aO Z,Ow.cells 0 m aO Z⟩ (All2.nil _)) fun aP aQ w a m aR f=> ?_
   have m:=m.front 1 rfl
   have m:=m.front 2 rfl
   obtain⟨aS,aT,au⟩:=bind_some au
   refine El m ax aO aR T22 Z (by decide) f Z Z Z aT fun aU aV w a m aW f=>Ad f Z fun a f=>Aa (Ak ?_)
   refine Ah f Z Z Ar fun a f=>Ab f Z fun a f=>Aa ?_
   obtain rfl:=sj au
   exact⟨_,Z,_,_,Z,_,aV,aU,(gt aw aK),f.k Z,m,aW⟩
  ·refine Ai f Z ay ?_
   refine Ax Z ?_
   obtain rfl:=sj au
   obtain rfl:=av _ rfl
   exact⟨_,Z,_,ap,aq,aw,f.k Z,m,ax⟩
 ·rintro a w ⟨ah,rfl,ai,aj,ak,aX,f,m,aY⟩
  refine Ac ?_
  refine Ab f Z fun a f=>Ad f Z fun a f=>Aa ?_
  refine Aq ?_
  obtain rfl:=sj hd
  exact⟨[aj],⟨f.get _ _ Z,trivial⟩,f.defers,_,[ak],aX,m,_,_,Z,Z,aY⟩
theorem Wk.I0 {W w:World}{G:GH}{H:List Itm}{v0_0:Value}{v0_1:Value}{x0_0:(List (List Int))}{x0_1:(List (List Int))}(hW:CP W)(m:Mem W G w (H))(h0_0:RSl (RSl (RI .i64)) G v0_0 x0_0)(h0_1:RSl (RSl (RI .i64)) G v0_1 x0_1){y:((List (List Int)))×((List (List Int)))}(hd:D.I0 x0_0 x0_1=some y):
  Calls Tryz.prog 66 #[(.agg #[v0_0,v0_1])] w (Res W G H (fun G' Ho v=>∃r0:Value,∃i0:Itm,∃r2:Value,∃i2:Itm,Ho=[i0,i2]∧v=(.agg #[r0,r2])∧Ow2 (RI .i64) 42 2 G' i0 r0 y.1∧Ow2 (RI .i64) 42 2 G' i2 r2 y.2)):=by
 refine As (args:=[(.agg #[v0_0,v0_1])]) (N:=91) [.cell 2 27] Tryz.func66 Z Z (Nat.le_of_ble_eq_true Z) Z fun a f=> ?_
 unfold D.I0 at hd
 refine Ac ?_
 refine Bw (cs:=[v0_0,v0_1]) m f Z Z Z fun aa w a m f=>Bx (cs:=[(.slice none 0 0),(.slice none 0 0)]) Tryz.zeroValue27 m f Z Z fun ab w a m f=>Aa (Af ?_)
 refine AT 8 Aw (by kernel_rfl) m ?_
 refine B3 0 8 Tryz.underlying27 Z Tryz.sizeOf22 Z f Z fun a f=>BO 1 8 1 Ba Z Z Z f Z fun a f=>B3 3 8 Tryz.underlying27 Z Tryz.sizeOf22 Z f Z fun a f=>BO 4 8 1 Ba Z Z Z f Z fun a f=>BD (i:=2) Z (by kernel_rfl) Z fun ac w ad m ae ae=> ?_
 have h0_0:=rd2 ad h0_0
 have h0_1:=rd2 ad h0_1
 obtain⟨af,ag,hd⟩:=bind_some hd
 refine AK f Z Tryz.call97 (Wk.x m h0_0 ag) fun ah ai aj w ak m al a f=> ?_
 obtain⟨am,an,rfl,rfl,ao⟩:=al
 have h0_0:=rd2 ak h0_0
 have h0_1:=rd2 ak h0_1
 refine Aa ?_
 refine ae ai [an] _ _ ak m ?_
 refine BD (i:=5) Z (by kernel_rfl) Z fun ap w aq m ar ar=> ?_
 have h0_0:=rd2 aq h0_0
 have h0_1:=rd2 aq h0_1
 have ao:=od1 aq ao
 obtain⟨au,av,hd⟩:=bind_some hd
 refine AK f Z Tryz.call128 (Wk.y1 m h0_1 av) fun aw ax ay w az m aA a f=> ?_
 obtain⟨aB,aC,rfl,rfl,aD⟩:=aA
 have h0_0:=rd2 az h0_0
 have h0_1:=rd2 az h0_1
 have ao:=od1 az ao
 refine Aa ?_
 refine ar ax [aC,an] _ _ az m ?_
 refine q_p 6 8 Z f (fun _=>Bl (f.eval Z)) fun a f=>q_p 7 8 Z f (fun _=>Bl (f.eval Z)) fun a f=>AI fun aE w aF m=> ?_
 have h0_0:=rd2 aF h0_0
 have h0_1:=rd2 aF h0_1
 have aD:=Ow.mono (RSl.mono (RI.mono _)) aF aD
 have ao:=od1 aF ao
 refine Aa (Ac ?_)
 refine Ab f Z fun a f=> ?_
 obtain⟨aG,aH,hd⟩:=bind_some hd
 refine AK f Z Tryz.call57 (Ow.sortCall aD m (fun Z hZ=>(Bm aH hZ).imp (fun zs h=>⟨h.2.1,h.2.2,fun _ _ m o=>Wk.S m o h.1⟩))) fun aI aJ aK w aL m aM a f=> ?_
 obtain⟨aN,rfl,aO⟩:=aM
 have h0_0:=rd2 aL h0_0
 have h0_1:=rd2 aL h0_1
 have ao:=od1 aL ao
 refine Aa (Af (Ac ?_))
 refine Ad f Z fun a f=>Aa ?_
 obtain⟨aP,aQ,hd⟩:=bind_some hd
 refine AC (fun a w=>∃aR:List Int,∃aS:List (List Int),(aR,aS)=aP∧∃(aT:GH) (aU:Value) (aV:Itm) (aW:Value) (aX:Itm),GLe aJ aT∧Fr a 91 [(2,(.pointer (some ⟨ab,0,none⟩))),(3,aU),(4,aW)]∧Mem W aT w (Itm.box ab 27 [(.slice none 0 0),(.slice none 0 0)]::aV::aX::H)∧Ow (RI .u32) 76 aT aV aU aR∧Ow (RSl (RI .i64)) 42 aT aX aW aS) ?_ ?_
 ·refine Aj ?_
  have m:=m.front 1 rfl
  have m:=m.front 2 rfl
  have m:=m.eraseAt 3
  refine AA (fun aY a w=>∃aZ:List Int,∃a2:List (List Int),∃a3:Bool,(aZ,a2,a3)=aY∧∃(a4:GH) (a5:Value) (a6:Itm) (a7:Value) (a8:Itm),GLe aJ a4∧Fr a 91 [(2,(.pointer (some ⟨ab,0,none⟩))),(3,a5),(4,a7),(5,(.bool a3))]∧Mem W a4 w (Itm.box ab 27 [(.slice none 0 0),(.slice none 0 0)]::a6::a8::H)∧Ow (RI .u32) 76 a4 a6 a5 aZ∧Ow (RSl (RI .i64)) 42 a4 a8 a7 a2) aQ ⟨_,_,_,Z,_,am,an,aB,aN,gr,f.k Z,m,ao,aO⟩ ?_
  clear aQ f m
  rintro aY a9 ba bb a w ⟨aZ,a2,a3,rfl,a4,a5,a6,a7,a8,bc,f,m,bd,be⟩
  refine Af (Ac ?_)
  refine Ab f Z fun a f=>Aa ?_
  rcases Ae ba with⟨bf,ba⟩|⟨bf,ba⟩
  ·refine Al f Z bf ?_
   refine Am ?_
   refine Aj (Ac ?_)
   refine Ad f Z fun a f=>Aa (Ac ?_)
   refine Ab f Z fun a f=>BB 2 m be Z Tryz.underlying22 f Z Z fun a f=>Ab f Z fun a f=>Aa ?_
   obtain⟨bg,bh,ba⟩:=bind_some ba
   refine AC (fun a w=>∃bi:List Int,∃bj:List (List Int),∃bk:Bool,(bi,bj,bk)=bg∧∃(bl:GH) (bm:Value) (bn:Itm) (bo:Value) (bp:Itm),GLe a4 bl∧Fr a 91 [(2,(.pointer (some ⟨ab,0,none⟩))),(3,bm),(4,bo),(5,(.bool bk))]∧Mem W bl w (Itm.box ab 27 [(.slice none 0 0),(.slice none 0 0)]::bn::bp::H)∧Ow (RI .u32) 76 bl bn bm bi∧Ow (RSl (RI .i64)) 42 bl bp bo bj) ?_ ?_
   ·refine Aj ?_
    refine AA (fun bq a w=>∃br:Int,br=bq∧∃(bs:GH),GLe a4 bs∧Fr a 91 [(2,(.pointer (some ⟨ab,0,none⟩))),(3,a5),(4,a7),(5,(.bool false)),(22,a7),(23,(.int .i64 (a2.length:Int))),(24,(.int .i64 br))]∧Mem W bs w (Itm.box ab 27 [(.slice none 0 0),(.slice none 0 0)]::a6::a8::H)) bh ⟨_,Z,_,gr,f.k Z,m⟩ ?_
    clear bh f m
    rintro bq bt bu bv a w ⟨br,rfl,bs,bw,f,m⟩
    have bd:=od1 bw bd
    have be:=Ow.mono (RSl.mono (RI.mono _)) bw be
    refine Ac ?_
    refine Ah f Z Z AJ fun a f=>Aa (Af ?_)
    rcases Ae bu with⟨bx,bu⟩|⟨bx,bu⟩
    ·refine Al f Z bx ?_
     refine Am ?_
     refine Af (Aj (Ac ?_))
     obtain⟨bz,bA,bu⟩:=bind_some bu
     refine AW 2 m be Z T22 f Z Z Z bA fun bB a bC f=>BL 2 m be Z AY f Z Z bC bA fun bD a bE f=>Ad f Z fun a f=>Aa (Af ?_)
     refine AT 8 Aw (by kernel_rfl) m ?_
     refine Ag 0 8 Z f Z fun a f=> ?_
     obtain⟨bF,bG,bu⟩:=bind_some bu
     refine B2 1 8 T42 bE bG Z f Z Z fun bH bI a bJ bK f=> ?_
     subst bK
     refine BZ 2 8 Pl2 bJ Z f Z fun a f=>Ag 3 8 Z f Z fun a f=> ?_
     obtain⟨bL,bM,bu⟩:=bind_some bu
     refine B2 4 8 T42 bE bM Z f Z Z fun bN bO a bP bQ f=> ?_
     subst bQ
     refine BZ 5 8 Pl2 bP Z f Z fun a f=>q_p 6 8 Z f (fun _=>Bl (f.eval Z)) fun a f=>q_p 7 8 Z f (fun _=>Bl (f.eval Z)) fun a f=>AI fun bR w bS m=> ?_
     have bE:=rd1 bS bE
     have bJ:=At.mono bS bJ
     have bP:=At.mono bS bP
     have bd:=od1 bS bd
     have be:=Ow.mono (RSl.mono (RI.mono _)) bS be
     refine Aa (Af (Aj (Af ?_)))
     refine AT 11 Aw (by kernel_rfl) m ?_
     refine Ag 0 11 Z f Z fun a f=>Ag 1 11 Z f Z fun a f=> ?_
     obtain⟨bT,bU,bu⟩:=bind_some bu
     refine Az 2 11 1 m bd T71 bU Z f Z Z fun bV a bW f=>AL 3 11 1 bd Cw bW bU Z f Z fun bX a bY f=> ?_
     subst bY
     refine Ag 4 11 Z f Z fun a f=>Ag 5 11 Z f Z fun a f=> ?_
     obtain⟨bZ,b0,bu⟩:=bind_some bu
     refine Az 6 11 1 m bd T71 b0 Z f Z Z fun b1 a b2 f=>AL 7 11 1 bd Cw b2 b0 Z f Z fun b3 a b4 f=> ?_
     subst b4
     refine q_p 8 11 Z f (fun _=>AD (f.eval Z) (f.eval Z) CN) fun a f=>q_p 9 11 Z f (fun _=>AD (f.eval Z) (f.eval Z) By) fun a f=>q_p 10 11 Z f (fun _=>Bl (f.eval Z)) fun a f=>AI fun b5 w b6 m=> ?_
     have bE:=rd1 b6 bE
     have bd:=od1 b6 bd
     have be:=Ow.mono (RSl.mono (RI.mono _)) b6 be
     refine Aa ?_
     rcases Ae bu with⟨b7,bu⟩|⟨b7,bu⟩
     ·refine Al f Z b7 ?_
      refine Ak ?_
      refine Ab f Z fun a f=>Ab f Z fun a f=>Ab f Z fun a f=>Ab f Z fun a f=> ?_
      have m:Mem W b5 w (a6::Itm.box ab 27 [(.slice none 0 0),(.slice none 0 0)]::a8::H):=m.front 1 rfl
      obtain⟨b8,b9,m,ca⟩:=Ow.stamp (RI.mono _) bd m
      have bE:=rd1 b9 bE
      have be:=Ow.mono (RSl.mono (RI.mono _)) b9 be
      have m:=m.front 1 rfl
      obtain⟨cb,cc,m,cd⟩:=Ow.stamp (RSl.mono (RI.mono _)) be m
      have ca:=rd1 cc ca
      have bE:=rd1 cc bE
      obtain⟨ce,cf,bu⟩:=bind_some bu
      refine AK f Z Tryz.call129 (Wk.f m ca cd cf) fun cg ch ci w cj m ck a f=> ?_
      obtain⟨cl,cm,cn,co,rfl,rfl,cp,cq⟩:=ck
      have ca:=rd1 cj ca
      have cd:=rd2 cj cd
      have bE:=rd1 cj bE
      refine Ab f Z fun a f=>l_o f (Bb (f.eval Z) Z) fun a f=>l_o f (Bb (f.eval Z) Z) fun a f=>Ad f Z fun a f=>Ad f Z fun a f=>Aa (Ac ?_)
      refine Ad f Z fun a f=>Aa ?_
      refine Ax Z ?_
      have m:Mem W ch w (Itm.box ab 27 [(.slice none 0 0),(.slice none 0 0)]::cm::co::H):=m.front 2 rfl
      obtain rfl:=sj bu
      obtain rfl:=bv _ rfl
      exact⟨_,_,_,Z,_,cl,cm,cn,co,(gt bw (gt bS (gt b6 (gt b9 (gt cc cj))))),f.k Z,m,cp,cq⟩
     ·refine Ai f Z b7 ?_
      refine Af ?_
      refine AT 11 Aw (by kernel_rfl) m ?_
      refine Ag 0 11 Z f Z fun a f=>Ag 1 11 Z f Z fun a f=> ?_
      obtain⟨cr,ct,bu⟩:=bind_some bu
      refine Az 2 11 1 m bd T71 ct Z f Z Z fun cu a cv f=>AL 3 11 1 bd Cw cv ct Z f Z fun cw a cx f=> ?_
      subst cx
      refine Ag 4 11 Z f Z fun a f=>Ag 5 11 Z f Z fun a f=> ?_
      obtain⟨cy,cz,bu⟩:=bind_some bu
      refine Az 6 11 1 m bd T71 cz Z f Z Z fun cA a cB f=>AL 7 11 1 bd Cw cB cz Z f Z fun cC a cD f=> ?_
      subst cD
      refine q_p 8 11 Z f (fun _=>AD (f.eval Z) (f.eval Z) CN) fun a f=>q_p 9 11 Z f (fun _=>AD (f.eval Z) (f.eval Z) By) fun a f=>q_p 10 11 Z f (fun _=>Bl (f.eval Z)) fun a f=>AI fun cE w cF m=> ?_
      have bE:=rd1 cF bE
      have bd:=od1 cF bd
      have be:=Ow.mono (RSl.mono (RI.mono _)) cF be
      refine Aa ?_
      rcases Ae bu with⟨cG,bu⟩|⟨cG,bu⟩
      ·refine Al f Z cG ?_
       refine Ak ?_
       refine Ab f Z fun a f=>Ab f Z fun a f=>Ab f Z fun a f=>Ab f Z fun a f=> ?_
       have m:Mem W cE w (a6::Itm.box ab 27 [(.slice none 0 0),(.slice none 0 0)]::a8::H):=m.front 1 rfl
       obtain⟨cH,cI,m,cJ⟩:=Ow.stamp (RI.mono _) bd m
       have bE:=rd1 cI bE
       have be:=Ow.mono (RSl.mono (RI.mono _)) cI be
       have m:=m.front 1 rfl
       obtain⟨cK,cL,m,cM⟩:=Ow.stamp (RSl.mono (RI.mono _)) be m
       have cJ:=rd1 cL cJ
       have bE:=rd1 cL bE
       obtain⟨cN,cO,bu⟩:=bind_some bu
       refine AK f Z Tryz.call129 (Wk.f m cJ cM cO) fun cP cQ cR w cS m cT a f=> ?_
       obtain⟨cU,cV,cW,cX,rfl,rfl,cY,cZ⟩:=cT
       have cJ:=rd1 cS cJ
       have cM:=rd2 cS cM
       have bE:=rd1 cS bE
       refine Ab f Z fun a f=>l_o f (Bb (f.eval Z) Z) fun a f=>l_o f (Bb (f.eval Z) Z) fun a f=>Ad f Z fun a f=>Ad f Z fun a f=>Aa (Ac ?_)
       refine Ad f Z fun a f=>Aa ?_
       refine Ax Z ?_
       have m:Mem W cQ w (Itm.box ab 27 [(.slice none 0 0),(.slice none 0 0)]::cV::cX::H):=m.front 2 rfl
       obtain rfl:=sj bu
       obtain rfl:=bv _ rfl
       exact⟨_,_,_,Z,_,cU,cV,cW,cX,(gt bw (gt bS (gt b6 (gt cF (gt cI (gt cL cS)))))),f.k Z,m,cY,cZ⟩
      ·refine Ai f Z cG ?_
       refine Ax Z ?_
       refine Ak ?_
       refine Ah f Z Z Ar fun a f=>Ab f Z fun a f=>Aa ?_
       obtain rfl:=sj bu
       exact⟨_,Z,_,Z,_,(gt bw (gt bS (gt b6 cF))),f.k Z,m⟩
    ·refine Ai f Z bx ?_
     refine Ax Z ?_
     obtain rfl:=sj bu
     obtain rfl:=bv _ rfl
     exact⟨_,_,_,Z,_,a5,a6,a7,a8,bw,f.k Z,m,bd,be⟩
   ·rintro a w ⟨bi,bj,bk,rfl,bl,bm,bn,bo,bp,c0,f,m,c1,c2⟩
    obtain rfl:=sj ba
    exact⟨_,Z,_,_,_,Z,_,bm,bn,bo,bp,(gt bc c0),f.k Z,m,c1,c2⟩
  ·refine Ai f Z bf ?_
   refine Ax Z ?_
   obtain rfl:=sj ba
   obtain rfl:=bb _ rfl
   exact⟨_,_,Z,_,a5,a6,a7,a8,bc,f.k Z,m,bd,be⟩
 ·rintro a w ⟨aR,aS,rfl,aT,aU,aV,aW,aX,c3,f,m,c4,c5⟩
  refine Ac ?_
  refine Ab f Z fun a f=> ?_
  obtain⟨c6,c7,hd⟩:=bind_some hd
  refine AK f Z Tryz.call59 (Ow.lendCall (RI.mono _) 1 c4 m Z (fun c8 c9 m da=>Wk.J0 hW m da c7) (fun _ G' _ _ ⟨a0,a1,e1,e2,o0⟩=>⟨a0,a1,e1,e2,Ow2.free (RI.free _) G' o0⟩)) fun db dc dd w de m df a f=> ?_
  obtain⟨dg,dh,rfl,rfl,di⟩:=df
  have c4:=od1 de c4
  have c5:=Ow.mono (RSl.mono (RI.mono _)) de c5
  have dj:∀w,(Instr.build 27 #[(0,dg)]).run Tryz.prog w= .ok (.agg #[dg,(.slice none 0 0)]) w:=by intro w;simp[Instr.build,Instr.fill,(Ow2.cells 0 m di rfl),CB,Cq,B8,Cg,BY,CD]
  refine C5 f Z Z dj fun a f=>Bx (cs:=[(.slice none 0 0),(.slice none 0 0)]) Tryz.zeroValue27 m f Z Z fun dk w a m f=>AS 0 0 (ds:=[dg,(.slice none 0 0)]) m Tryz.sizeOf27 f Z Z Z (AN (Ow2.one1 1 m di Z) (AN Z A3)) Z (Nat.le_of_ble_eq_true Z) Z fun w m=>Aa (Af (Ac ?_))
  refine Ab f Z fun a f=>BB 4 m c5 Z Tryz.underlying22 f Z Z fun a f=>Ab f Z fun a f=>Aa ?_
  obtain⟨dl,m,dm⟩:=Ow2.nil (RI .i64) 42 2 m
  obtain⟨dn,dp,hd⟩:=bind_some hd
  refine AC (fun a w=>∃dq:List (List Int),dq=dn∧∃(dr:GH) (dt:Value) (du:Itm),GLe dc dr∧Fr a 91 [(2,(.pointer (some ⟨ab,0,none⟩))),(10,(.pointer (some ⟨dk,0,none⟩)))]∧Mem W dr w (Itm.box ab 27 [(.slice none 0 0),(.slice none 0 0)]::Itm.box dk 27 [dg,dt]::dh::du::H)∧Ow2 (RI .i64) 42 2 dr du dt dq) ?_ ?_
  ·refine Aj ?_
   have m:=m.front 2 rfl
   have m:=m.front 5 rfl
   have m:Mem W dc w (Itm.box dk 27 [dg,(.slice none 0 0)]::aX::dh::dl::Itm.box ab 27 [(.slice none 0 0),(.slice none 0 0)]::aV::H):=m.front 3 rfl
   have m:=m.front 4 rfl
   have m:Mem W dc w (Itm.box ab 27 [(.slice none 0 0),(.slice none 0 0)]::Itm.box dk 27 [dg,(.slice none 0 0)]::aX::dh::dl::H):=m.eraseAt 5
   refine AA (fun dv a w=>∃dw:Int,∃dx:List (List Int),(dw,dx)=dv∧∃(dy:GH) (dz:Value) (dA:Itm),GLe dc dy∧Fr a 91 [(2,(.pointer (some ⟨ab,0,none⟩))),(10,(.pointer (some ⟨dk,0,none⟩))),(76,aW),(77,(.int .i64 (aS.length:Int))),(78,(.int .i64 dw))]∧Mem W dy w (Itm.box ab 27 [(.slice none 0 0),(.slice none 0 0)]::Itm.box dk 27 [dg,dz]::aX::dh::dA::H)∧Ow2 (RI .i64) 42 2 dy dA dz dx) dp ⟨_,_,Z,_,(.slice none 0 0),dl,gr,f.k Z,m,dm⟩ ?_
   clear dp f m
   rintro dv dB dC dD a w ⟨dw,dx,rfl,dy,dz,dA,dE,f,m,dF⟩
   have c5:=Ow.mono (RSl.mono (RI.mono _)) dE c5
   have di:=od2 dE di
   refine Ac ?_
   refine Ah f Z Z AJ fun a f=>Aa (Af ?_)
   rcases Ae dC with⟨dG,dC⟩|⟨dG,dC⟩
   ·refine Al f Z dG ?_
    refine Am ?_
    refine Af (Aj (Ac ?_))
    obtain⟨dH,dI,dC⟩:=bind_some dC
    refine AW 2 m c5 Z T22 f Z Z Z dI fun dJ a dK f=>BL 2 m c5 Z AY f Z Z dK dI fun dL a dM f=>Ad f Z fun a f=>Aa ?_
    refine AT 5 Aw (by kernel_rfl) m ?_
    refine B3 0 5 Tryz.underlying27 Z Tryz.sizeOf22 Z f Z fun a f=>BO 1 5 1 Ba Z Z Z f Z fun a f=>Ag 2 5 Z f Z fun a f=>BD (i:=3) Z (by kernel_rfl) Z fun dN w dO m dP dP=> ?_
    have dM:=rd1 dO dM
    have c5:=Ow.mono (RSl.mono (RI.mono _)) dO c5
    have di:=od2 dO di
    have dF:=od2 dO dF
    obtain⟨dQ,dR,dC⟩:=bind_some dC
    refine AK f Z Tryz.call130 (Wk.N0 m dM dR) fun dS dT dU w dV m dW a f=> ?_
    obtain⟨dX,dY,rfl,rfl,dZ⟩:=dW
    have dM:=rd1 dV dM
    have c5:=Ow.mono (RSl.mono (RI.mono _)) dV c5
    have di:=od2 dV di
    have dF:=od2 dV dF
    refine Aa ?_
    refine dP dT [dY] _ _ dV m ?_
    refine BD (i:=4) Z (by kernel_rfl) Z fun d0 w d1 m d2 d2=> ?_
    have dM:=rd1 d1 dM
    have dZ:=od1 d1 dZ
    have c5:=Ow.mono (RSl.mono (RI.mono _)) d1 c5
    have di:=od2 d1 di
    have dF:=od2 d1 dF
    refine A8 (R:=RawS) (xs:=[dX]) RawS.one m T22 f Z Z Z (by decide) (All2.cons ⟨Z,Ow.one1 0 m dZ Z,Ow.cells 0 m dZ Z⟩ (All2.nil _)) fun d3 d4 w a m d5 f=>Aa ?_
    refine d2 d0 [d3,dY] _ _ gr m ?_
    refine AI fun d6 w d7 m=> ?_
    have dM:=rd1 d7 dM
    have d5:=Ow.mono RawS.mono d7 d5
    have dZ:=od1 d7 dZ
    have c5:=Ow.mono (RSl.mono (RI.mono _)) d7 c5
    have di:=od2 d7 di
    have dF:=od2 d7 dF
    have m:=m.front 1 rfl
    have m:Mem W d6 w (dA::dY::d3::Itm.box ab 27 [(.slice none 0 0),(.slice none 0 0)]::Itm.box dk 27 [dg,dz]::aX::dh::H):=m.front 6 rfl
    obtain⟨d8,d9,dC⟩:=bind_some dC
    refine El m dF dZ d5 T22 Z (by decide) f Z Z Z d9 fun ea eb w a m ec f=>Bn Tryz.underlying27 Z Tryz.sizeOf22 f Z fun a f=>AS 2 1 (ds:=[eb]) m Tryz.sizeOf22 f Z Z (Ow2.cells 0 m ec Z) (AN (Ow2.one1 0 m ec Z) A3) Z (Nat.le_of_ble_eq_true Z) Z fun w m=>Aa (Ak ?_)
    refine Ah f Z Z Ar fun a f=>Ab f Z fun a f=>Aa ?_
    have m:=m.front 4 rfl
    have m:=m.front 4 rfl
    have m:Mem W d6 w (Itm.box dk 27 [dg,eb]::aX::dh::ea::Itm.box ab 27 [(.slice none 0 0),(.slice none 0 0)]::H):=m.front 4 rfl
    have m:Mem W d6 w (Itm.box ab 27 [(.slice none 0 0),(.slice none 0 0)]::Itm.box dk 27 [dg,eb]::aX::dh::ea::H):=m.front 4 rfl
    obtain rfl:=sj dC
    exact⟨_,Z,_,_,Z,_,eb,ea,(gt dE (gt dO (gt dV (gt d1 d7)))),f.k Z,m,ec⟩
   ·refine Ai f Z dG ?_
    refine Ax Z ?_
    have m:=m.front 4 rfl
    have m:=m.front 4 rfl
    have m:Mem W dy w (Itm.box dk 27 [dg,dz]::dh::dA::Itm.box ab 27 [(.slice none 0 0),(.slice none 0 0)]::aX::H):=m.front 3 rfl
    have m:=m.front 3 rfl
    have m:Mem W dy w (Itm.box ab 27 [(.slice none 0 0),(.slice none 0 0)]::Itm.box dk 27 [dg,dz]::dh::dA::H):=m.eraseAt 4
    obtain rfl:=sj dC
    obtain rfl:=dD _ rfl
    exact⟨_,Z,_,dz,dA,dE,f.k Z,m,dF⟩
  ·rintro a w ⟨dq,rfl,dr,dt,du,ed,f,m,ee⟩
   have di:=od2 ed di
   refine Ac ?_
   refine A5 1 0 (ds:=[dg,dt]) m B5 f Z Z Z Z Z fun a f=>AS 0 0 (ds:=[dg,dt]) m Tryz.sizeOf27 f Z Z Z (AN (Ow2.one1 2 m di Z) (AN (Ow2.one1 3 m ee Z) A3)) Z (Nat.le_of_ble_eq_true Z) Z fun w m=>Aa ?_
   refine Aq ?_
   have ef:=Cu (P:=Tryz.prog) 0 m B5 f (s:=2) rfl rfl rfl
   have m:=m.front 3 rfl
   have m:=m.front 3 rfl
   have m:Mem W dr w (dh::du::Itm.box ab 27 [dg,dt]::H):=m.eraseAt 3
   have m:=m.eraseAt 2
   obtain rfl:=sj hd
   exact⟨[(.agg #[dg,dt])],⟨ef,trivial⟩,f.defers,_,[dh,du],(gt ad (gt ak (gt aq (gt az (gt aF (gt aL (gt c3 (gt de ed)))))))),m,_,_,_,_,Z,Z,di,ee⟩
theorem Wk.A0 {W w:World}{G:GH}{H:List Itm}{v0_0:Value}{v1_0:Value}{v1_1:Value}{x0_0:(List (List Int))}{x1_0:(List (List Int))}{x1_1:(List (List Int))}(hW:CP W)(m:Mem W G w (H))(h0_0:RSl (RSl (RI .i64)) G v0_0 x0_0)(h1_0:RSl (RSl (RI .i64)) G v1_0 x1_0)(h1_1:RSl (RSl (RI .i64)) G v1_1 x1_1){y:((List (List Int)))×((List (List Int)))×Bool}(hd:D.A0 x0_0 x1_0 x1_1=some y):
  Calls Tryz.prog 20 #[(.agg #[v0_0]),(.agg #[v1_0,v1_1])] w (Res W G H (fun G' Ho v=>∃r0:Value,∃i0:Itm,∃r2:Value,∃i2:Itm,Ho=[i0,i2]∧v= .tuple #[(.agg #[r0,r2]),(.bool y.2.2)]∧Ow2 (RI .i64) 42 2 G' i0 r0 y.1∧Ow2 (RI .i64) 42 2 G' i2 r2 y.2.1)):=by
 refine As (args:=[(.agg #[v0_0]),(.agg #[v1_0,v1_1])]) (N:=13) [.cell 4 27,.tmp 5] Tryz.func20 Z Z (Nat.le_of_ble_eq_true Z) Z fun a f=> ?_
 unfold D.A0 at hd
 refine Ac ?_
 refine Bw (cs:=[v0_0]) m f Z Z Z fun aa w a m f=>Bw (cs:=[v1_0,v1_1]) m f Z Z Z fun ab w a m f=>Bx (cs:=[(.slice none 0 0),(.slice none 0 0)]) Tryz.zeroValue27 m f Z Z fun ac w a m f=>Ad f Z fun a f=>Aa (Af (Ac ?_))
 refine A5 2 0 (ds:=[v0_0]) m Bq f Z Z Z Z Z fun a f=>A5 1 0 (ds:=[v1_0,v1_1]) m B5 f Z Z Z Z Z fun a f=> ?_
 obtain⟨ad,ae,hd⟩:=bind_some hd
 refine Bi f Z Tryz.call37 (Wk.C hW m h0_0 h1_0 h1_1 ae) fun af w ag m a f=> ?_
 have h0_0:=rd2 ag h0_0
 have h1_0:=rd2 ag h1_0
 have h1_1:=rd2 ag h1_1
 refine l_o f (Bd (f.eval Z)) fun a f=>Aa ?_
 rcases Ae hd with⟨ah,hd⟩|⟨ah,hd⟩
 ·refine Al f Z ah ?_
  refine Ac ?_
  have ai:∀w,(Instr.build 27 #[]).run Tryz.prog w= .ok (.agg #[(.slice none 0 0),(.slice none 0 0)]) w:=by intro w;simp[Instr.build,Instr.fill,CB,Cq,B8,Cg,BY,CD]
  refine C5 f Z Z ai fun a f=>AS 0 0 (ds:=[(.slice none 0 0),(.slice none 0 0)]) m Tryz.sizeOf27 f Z Z Z (AN Z (AN Z A3)) Z (Nat.le_of_ble_eq_true Z) Z fun w m=>Ad f Z fun a f=>Aa ?_
  refine Aq ?_
  obtain⟨aj,m,ak⟩:=Ow2.nil (RI .i64) 42 2 m
  obtain⟨al,m,am⟩:=Ow2.nil (RI .i64) 42 2 m
  have an:=Cu (P:=Tryz.prog) 2 m B5 f (s:=4) rfl rfl rfl
  have m:=m.front 1 rfl
  have m:=m.eraseAt 4
  have m:Mem W af w (aj::al::Itm.box ac 27 [(.slice none 0 0),(.slice none 0 0)]::H):=m.eraseAt 3
  have m:=m.eraseAt 2
  obtain rfl:=sj hd
  exact⟨[(.agg #[(.slice none 0 0),(.slice none 0 0)]),(.bool false)],⟨an,f.get _ _ Z,trivial⟩,f.defers,_,[aj,al],ag,m,_,_,_,_,Z,Z,ak,am⟩
 ·refine Ai f Z ah ?_
  refine Am ?_
  refine Ac ?_
  refine A5 1 0 (ds:=[v1_0,v1_1]) m B5 f Z Z Z Z Z fun a f=> ?_
  obtain⟨ao,ap,hd⟩:=bind_some hd
  refine AK f Z Tryz.call66 (Wk.I0 hW m h1_0 h1_1 ap) fun aq ar au w av m aw a f=> ?_
  obtain⟨ax,ay,az,aA,rfl,rfl,aB,aC⟩:=aw
  have h0_0:=rd2 av h0_0
  have h1_0:=rd2 av h1_0
  have h1_1:=rd2 av h1_1
  refine AS 2 0 (ds:=[ax,az]) m Tryz.sizeOf27 f Z Z Z (AN (Ow2.one1 0 m aB Z) (AN (Ow2.one1 1 m aC Z) A3)) Z (Nat.le_of_ble_eq_true Z) Z fun w m=>Ad f Z fun a f=>Aa ?_
  refine Aq ?_
  have aD:=Cu (P:=Tryz.prog) 2 m B5 f (s:=4) rfl rfl rfl
  have m:=m.eraseAt 4
  have m:=m.eraseAt 3
  have m:=m.eraseAt 2
  obtain rfl:=sj hd
  exact⟨[(.agg #[ax,az]),(.bool true)],⟨aD,f.get _ _ Z,trivial⟩,f.defers,_,[ay,aA],(gt ag av),m,_,_,_,_,Z,Z,aB,aC⟩
theorem Wk.a0 {W w:World}{G:GH}{H:List Itm}{v0:Value}{it0:Itm}{x0:(List Int)}{x1:Int}{x2:Int}(hW:CP W)(m:Mem W G w (it0::H))(o0:Ow (RI .u32) 76 G it0 v0 x0){y:((List Int))}(hd:D.a0 x0 x1 x2=some y):
  Calls Tryz.prog 106 #[v0,(.int .u32 x1),(.int .i64 x2)] w (Res W G H (fun G' Ho _=>∃i0:Itm,Ho=[i0]∧Ow (RI .u32) 76 G' i0 v0 y)):=by
 refine As (args:=[v0,(.int .u32 x1),(.int .i64 x2)]) (N:=36) [] Tryz.func106 Z Z (Nat.le_of_ble_eq_true Z) Z fun a f=> ?_
 unfold D.a0 at hd
 refine Af ?_
 refine AT 10 Aw (by kernel_rfl) m ?_
 refine Ag 0 10 Z f Z fun a f=>Ag 1 10 Z f Z fun a f=> ?_
 obtain⟨aa,ab,hd⟩:=bind_some hd
 refine Az 2 10 0 m o0 T73 ab Z f Z Z fun ac a ad f=>AL 3 10 0 o0 Cw ad ab Z f Z fun ae a af f=> ?_
 subst af
 refine Ag 4 10 Z f Z fun a f=>q_p 5 10 Z f (fun _=>AD (f.eval Z) (f.eval Z) DH) fun a f=>Ag 6 10 Z f Z fun a f=> ?_
 obtain⟨ag,ah,hd⟩:=bind_some hd
 refine Bh (i:=7) 10 Z (by kernel_rfl) Z f Z Z Z Tryz.call100 (fun _ _ w ai m=>Wk.c m ah) fun a f=>q_p 8 10 Z f (fun _=>AD (f.eval Z) (f.eval Z) CN) fun a f=>q_p 9 10 Z f (fun _=>Bl (f.eval Z)) fun a f=>AI fun aj w ak m=> ?_
 have o0:=od1 ak o0
 refine Aa (Ac ?_)
 refine Ab f Z fun a f=> ?_
 obtain⟨al,am,hd⟩:=bind_some hd
 refine AK f Z Tryz.call103 (Wk.i hW m am) fun an ao ap w aq m ar a f=> ?_
 obtain⟨au,av,rfl,rfl,aw⟩:=ar
 have o0:=od1 aq o0
 refine BB 0 m aw Z Tryz.underlying94 f Z Z fun a f=>Ab f Z fun a f=>Aa ?_
 obtain⟨ax,ay,hd⟩:=bind_some hd
 refine AC (fun a w=>∃az:List Int,az=ax∧∃(aA:GH) (aB:Itm),GLe ao aA∧Fr a 36 []∧Mem W aA w (aB::H)∧Ow (RI .u32) 76 aA aB v0 az) ?_ ?_
 ·refine Aj ?_
  have m:=m.front 1 rfl
  refine AA (fun aC a w=>∃aD:List Int,∃aE:Int,(aD,aE)=aC∧∃(aF:GH) (aG:Itm),GLe ao aF∧Fr a 36 [(0,v0),(6,(.int .u32 (iandNot .u32 (iand .u32 aa x1) ag))),(19,au),(20,(.int .i64 (al.length:Int))),(21,(.int .i64 aE))]∧Mem W aF w (aG::av::H)∧Ow (RI .u32) 76 aF aG v0 aD) ay ⟨_,_,Z,_,it0,gr,f.k Z,m,o0⟩ ?_
  clear ay f m
  rintro aC aH aI aJ a w ⟨aD,aE,rfl,aF,aG,aK,f,m,aL⟩
  have aw:=od1 aK aw
  refine Ac ?_
  refine Ah f Z Z AJ fun a f=>Aa (Af ?_)
  rcases Ae aI with⟨aM,aI⟩|⟨aM,aI⟩
  ·refine Al f Z aM ?_
   refine Am ?_
   refine Af (Aj (Ac ?_))
   obtain⟨aN,aO,aI⟩:=bind_some aI
   refine AW 1 m aw Z T94 f Z Z Z aO fun aP a aQ f=>BL 1 m aw Z Pl3 f Z Z aQ aO fun aR a aS f=> ?_
   subst aS
   refine Ad f Z fun a f=>Aa ?_
   refine AT 10 Aw (by kernel_rfl) m ?_
   refine Ag 0 10 Z f Z fun a f=>Ag 1 10 Z f Z fun a f=> ?_
   obtain⟨aT,aU,aI⟩:=bind_some aI
   refine Az 2 10 0 m aL T73 aU Z f Z Z fun aV a aW f=>AL 3 10 0 aL Cw aW aU Z f Z fun aX a aY f=> ?_
   subst aY
   refine Ag 4 10 Z f Z fun a f=>Ag 5 10 Z f Z fun a f=> ?_
   obtain⟨aZ,a0,aI⟩:=bind_some aI
   refine Bh (i:=6) 10 Z (by kernel_rfl) Z f Z Z Z Tryz.call100 (fun _ _ w a1 m=>Wk.c m a0) fun a f=>q_p 7 10 Z f (fun _=>AD (f.eval Z) (f.eval Z) CN) fun a f=>q_p 8 10 Z f (fun _=>AD (f.eval Z) (f.eval Z) b_or) fun a f=> ?_
   obtain⟨a2,a3,aI⟩:=bind_some aI
   refine Az 9 10 0 m aL T73 a3 Z f Z Z fun a4 a a5 f=>AI fun a6 w a7 m=> ?_
   have aL:=od1 a7 aL
   have aw:=od1 a7 aw
   refine Au 0 m aL Z Tryz.sizeOf76 f Z Z a5 a3 Z Z Z fun a8 w m a9=>Aa (Ak ?_)
   refine Ah f Z Z Ar fun a f=>Ab f Z fun a f=>Aa ?_
   obtain rfl:=sj aI
   exact⟨_,Z,_,_,Z,_,a8,(gt aK a7),f.k Z,m,a9⟩
  ·refine Ai f Z aM ?_
   refine Ax Z ?_
   have m:=m.eraseAt 1
   obtain rfl:=sj aI
   obtain rfl:=aJ _ rfl
   exact⟨_,Z,_,aG,aK,f.weak trivial,m,aL⟩
 ·rintro a w ⟨az,rfl,aA,aB,ba,f,m,bb⟩
  obtain rfl:=sj hd
  exact⟨[],trivial,f.defers,_,[aB],(gt ak (gt aq ba)),m,_,Z,bb⟩
theorem Wk.z0 {W w:World}{G:GH}{H:List Itm}{b1:Nat}{x0:Int}{x1_0:Int}(m:Mem W G w (Itm.box b1 76 [(.int .u32 x1_0)]::H)){y:Bool}(hd:D.z0 x0 x1_0=some y):
  Calls Tryz.prog 105 #[(.int .u32 x0),(.pointer (some ⟨b1,0,none⟩))] w (Res W G H (fun _ Ho v=>Ho=[Itm.box b1 76 [(.int .u32 x1_0)]]∧v=(.bool y))):=by
 refine As (args:=[(.int .u32 x0),(.pointer (some ⟨b1,0,none⟩))]) (N:=8) [.tmp 3] Tryz.func105 Z Z (Nat.le_of_ble_eq_true Z) Z fun a f=> ?_
 unfold D.z0 at hd
 refine Ac ?_
 refine Ad f Z fun a f=>Aa (Ac ?_)
 refine AF 0 0 m Cw f Z Z Z Z fun a f=>Ab f Z fun a f=>Ah f Z Z CN fun a f=>Ah f Z Z By fun a f=>Ad f Z fun a f=>Aa ?_
 refine Aq ?_
 obtain rfl:=sj hd
 exact⟨[(.bool ((iandNot .u32 x1_0 x0)==0))],⟨f.get _ _ Z,trivial⟩,f.defers,_,[Itm.box b1 76 [(.int .u32 x1_0)]],gr,m,Z,Z⟩
theorem Wk.b1 {W w:World}{G:GH}{H:List Itm}{v0:Value}{b1c0:Nat}{x0:(List Int)}{x1c0_0:Int}(m:Mem W G w (Itm.box b1c0 76 [(.int .u32 x1c0_0)]::H))(h0:RSl (RI .u32) G v0 x0){y:Int}(hd:D.b1 x0 x1c0_0=some y):
  Calls Tryz.prog 148 #[v0,(.func (.func 105) #[] #[(.pointer (some ⟨b1c0,0,none⟩))])] w (Res W G H (fun _ Ho v=>Ho=[Itm.box b1c0 76 [(.int .u32 x1c0_0)]]∧v=(.int .i64 y))):=by
 refine As (args:=[v0,(.func (.func 105) #[] #[(.pointer (some ⟨b1c0,0,none⟩))])]) (N:=19) [.tmp 4] Tryz.func148 Z Z (Nat.le_of_ble_eq_true Z) Z fun a f=> ?_
 unfold D.b1 at hd
 refine Ac ?_
 refine Ad f Z fun a f=>Aa (Af (Ac ?_))
 refine Ab f Z fun a f=>AZ Tryz.underlying71 f Z Z h0 fun a f=>Ab f Z fun a f=>Aa ?_
 obtain⟨aa,ab,hd⟩:=bind_some hd
 refine AC (fun a w=>∃q_33':Unit,aa= .inl q_33'∧∃(ac:GH),GLe G ac∧Fr a 19 []∧Mem W ac w (Itm.box b1c0 76 [(.int .u32 x1c0_0)]::H)) ?_ ?_
 ·refine Aj ?_
  refine AA (fun ad a w=>∃ae:Int,ae=ad∧∃(af:GH),GLe G af∧Fr a 19 [(0,v0),(1,(.func (.func 105) #[] #[(.pointer (some ⟨b1c0,0,none⟩))])),(7,(.int .i64 (x0.length:Int))),(8,(.int .i64 ae))]∧Mem W af w (Itm.box b1c0 76 [(.int .u32 x1c0_0)]::H)) ab ⟨_,Z,_,gr,f.k Z,m⟩ ?_
  clear ab f m
  rintro ad ag ah ai a w ⟨ae,rfl,af,aj,f,m⟩
  have h0:=rd1 aj h0
  refine Ac ?_
  refine Ah f Z Z AJ fun a f=>Aa (Af ?_)
  rcases Ae ah with⟨ak,ah⟩|⟨ak,ah⟩
  ·refine Al f Z ak ?_
   refine Am ?_
   refine Af (Aj (Ac ?_))
   refine Ab f Z fun a f=>Ad f Z fun a f=>Aa (Ac ?_)
   refine Ab f Z fun a f=>Ab f Z fun a f=>Ab f Z fun a f=> ?_
   obtain⟨al,am,ah⟩:=bind_some ah
   refine Bf T71 f Z Z Z h0 am fun an ao a ap aq f=> ?_
   subst aq
   refine AG m Cw f Z Z ap fun a f=> ?_
   obtain⟨ar,au,ah⟩:=bind_some ah
   refine Fl f Z Z Z Tryz.call105 (Wk.z0 m au) fun av aw ax w ay m az a f=> ?_
   obtain⟨rfl,rfl⟩:=az
   have h0:=rd1 ay h0
   have ap:=At.mono ay ap
   refine Aa ?_
   rcases Ae ah with⟨aA,ah⟩|⟨aA,ah⟩
   ·refine Al f Z aA ?_
    refine Ac ?_
    refine Ab f Z fun a f=>Ad f Z fun a f=>Aa ?_
    refine Aq ?_
    obtain rfl:=sj ah
    obtain rfl:=ai _ rfl
    obtain rfl:=sj hd
    exact⟨[(.int .i64 ae)],⟨f.get _ _ Z,trivial⟩,f.defers,_,[Itm.box b1c0 76 [(.int .u32 x1c0_0)]],(gt aj ay),m,Z,Z⟩
   ·refine Ai f Z aA ?_
    refine Am ?_
    refine Ak ?_
    refine Ah f Z Z Ar fun a f=>Ab f Z fun a f=>Aa ?_
    obtain rfl:=sj ah
    exact⟨_,Z,_,Z,_,(gt aj ay),f.k Z,m⟩
  ·refine Ai f Z ak ?_
   refine Ax Z ?_
   obtain rfl:=sj ah
   obtain rfl:=ai _ rfl
   exact⟨_,Z,_,aj,f.weak trivial,m⟩
 ·rintro a w ⟨_,rfl,ac,aB,f,m⟩
  refine Ac ?_
  refine Ad f Z fun a f=>Aa ?_
  refine Aq ?_
  obtain rfl:=sj hd
  exact⟨[(.int .i64 (-1))],⟨f.get _ _ Z,trivial⟩,f.defers,_,[Itm.box b1c0 76 [(.int .u32 x1c0_0)]],aB,m,Z,Z⟩
theorem Wk.W0 {W w:World}{G:GH}{H:List Itm}{v0:Value}{b1c0:Nat}{x0:(List Int)}{x1c0_0:Int}(m:Mem W G w (Itm.box b1c0 76 [(.int .u32 x1c0_0)]::H))(h0:RSl (RI .u32) G v0 x0){y:Bool}(hd:D.W0 x0 x1c0_0=some y):
  Calls Tryz.prog 104 #[v0,(.func (.func 105) #[] #[(.pointer (some ⟨b1c0,0,none⟩))])] w (Res W G H (fun _ Ho v=>Ho=[Itm.box b1c0 76 [(.int .u32 x1c0_0)]]∧v=(.bool y))):=by
 refine As (args:=[v0,(.func (.func 105) #[] #[(.pointer (some ⟨b1c0,0,none⟩))])]) (N:=9) [.tmp 4] Tryz.func104 Z Z (Nat.le_of_ble_eq_true Z) Z fun a f=> ?_
 unfold D.W0 at hd
 refine Ac ?_
 refine Ad f Z fun a f=>Aa (Ac ?_)
 refine Ab f Z fun a f=>Ab f Z fun a f=> ?_
 obtain⟨aa,ab,hd⟩:=bind_some hd
 refine AK f Z Tryz.call148 (Wk.b1 m h0 ab) fun ac ad ae w af m ag a f=> ?_
 obtain⟨rfl,rfl⟩:=ag
 have h0:=rd1 af h0
 refine Ah f Z Z BM fun a f=>Ad f Z fun a f=>Aa ?_
 refine Aq ?_
 obtain rfl:=sj hd
 exact⟨[(.bool (decide ((0:Int)≤aa)))],⟨f.get _ _ Z,trivial⟩,f.defers,_,[Itm.box b1c0 76 [(.int .u32 x1c0_0)]],af,m,Z,Z⟩
theorem Wk.o {W w:World}{G:GH}{H:List Itm}{v0_0:Value}{v1_0:Value}{v1_1:Value}{x0_0:(List (List Int))}{x1_0:(List (List Int))}{x1_1:(List (List Int))}(hW:CP W)(m:Mem W G w (H))(h0_0:RSl (RSl (RI .i64)) G v0_0 x0_0)(h1_0:RSl (RSl (RI .i64)) G v1_0 x1_0)(h1_1:RSl (RSl (RI .i64)) G v1_1 x1_1){y:((List Int))}(hd:D.o x0_0 x1_0 x1_1=some y):
  Calls Tryz.prog 40 #[(.agg #[v0_0]),(.agg #[v1_0,v1_1])] w (Res W G H (fun G' Ho v=>∃r0:Value,∃i0:Itm,Ho=[i0]∧r0=v∧Ow (RI .i64) 2 G' i0 r0 y)):=by
 refine As (args:=[(.agg #[v0_0]),(.agg #[v1_0,v1_1])]) (N:=64) [.tmp 4] Tryz.func40 Z Z (Nat.le_of_ble_eq_true Z) Z fun a f=> ?_
 unfold D.o at hd
 refine Ac ?_
 refine Bw (cs:=[v0_0]) m f Z Z Z fun aa w a m f=>Bw (cs:=[v1_0,v1_1]) m f Z Z Z fun ab w a m f=>Ad f Z fun a f=>Aa (Af (Ac ?_))
 refine A5 1 0 (ds:=[v0_0]) m Bq f Z Z Z Z Z fun a f=>A5 0 0 (ds:=[v1_0,v1_1]) m B5 f Z Z Z Z Z fun a f=> ?_
 obtain⟨ac,ad,hd⟩:=bind_some hd
 refine Bi f Z Tryz.call37 (Wk.C hW m h0_0 h1_0 h1_1 ad) fun ae w af m a f=> ?_
 have h0_0:=rd2 af h0_0
 have h1_0:=rd2 af h1_0
 have h1_1:=rd2 af h1_1
 refine l_o f (Bd (f.eval Z)) fun a f=>Aa ?_
 rcases Ae hd with⟨ag,hd⟩|⟨ag,hd⟩
 ·refine Al f Z ag ?_
  refine Ac ?_
  refine Ad f Z fun a f=>Aa ?_
  refine Aq ?_
  obtain⟨ah,m,ai⟩:=Ow.nil (RI .i64) 2 m
  have m:=m.eraseAt 2
  have m:=m.eraseAt 1
  obtain rfl:=sj hd
  exact⟨[(.slice none 0 0)],⟨f.get _ _ Z,trivial⟩,f.defers,_,[ah],af,m,_,_,Z,Z,ai⟩
 ·refine Ai f Z ag ?_
  refine Am ?_
  refine Af ?_
  obtain⟨aj,ak,hd⟩:=bind_some hd
  refine AC (fun a w=>∃al:List Int,∃am:List Int,∃an:List Int,(al,am,an)=aj∧∃(ao:GH) (ap:Value) (aq:Itm) (ar:Value) (au:Itm) (av:Value) (aw:Itm),GLe ae ao∧Fr a 64 [(5,ap),(6,ar),(7,av)]∧Mem W ao w (aq::au::aw::H)∧Ow (RI .u32) 76 ao aq ap al∧Ow (RI .u32) 76 ao au ar am∧Ow (RI .i64) 3 ao aw av an) ?_ ?_
  ·refine AT 9 Aw (by kernel_rfl) m ?_
   refine Bt (i:=0) (ds:=[v0_0]) 9 1 Bq Z Z Z Z (by kernel_rfl) Z f Z Z Z fun a f=>B3 2 9 Tryz.underlying27 Z Tryz.sizeOf22 Z f Z fun a f=>BO 3 9 0 Ba Z Z Z f Z fun a f=>q_two (i:=1) (j:=5) (l1:= #[true,true,true,true,false,false,false,false,false]) (l2:= #[true,false,true,true,false,true,false,false,false]) Z Z (by kernel_rfl) Z Z ?_ ?_
   ·intro ax w ay m az az
    have h0_0:=rd2 ay h0_0
    have h1_0:=rd2 ay h1_0
    have h1_1:=rd2 ay h1_1
    obtain⟨aA,aB,ak⟩:=bind_some ak
    refine AK f Z Tryz.call50 (Wk.v m h0_0 aB) fun aC aD aE w aF m aG a f=> ?_
    obtain⟨aH,aI,rfl,rfl,aJ⟩:=aG
    have h0_0:=rd2 aF h0_0
    have h1_0:=rd2 aF h1_0
    have h1_1:=rd2 aF h1_1
    refine Aa ?_
    refine az aD [aI] _ _ aF m ?_
    refine q_two (i:=4) (j:=5) (l1:= #[true,true,true,true,true,false,false,false,false]) (l2:= #[true,true,true,true,false,true,false,false,false]) Z Z (by kernel_rfl) Z Z ?_ ?_
    ·intro aK w aL m aM aM
     have h0_0:=rd2 aL h0_0
     have h1_0:=rd2 aL h1_0
     have h1_1:=rd2 aL h1_1
     have aJ:=od1 aL aJ
     obtain⟨aN,aO,ak⟩:=bind_some ak
     refine AK f Z Tryz.call97 (Wk.x m h1_0 aO) fun aP aQ aR w aS m aT a f=> ?_
     obtain⟨aU,aV,rfl,rfl,aW⟩:=aT
     have h0_0:=rd2 aS h0_0
     have h1_0:=rd2 aS h1_0
     have h1_1:=rd2 aS h1_1
     have aJ:=od1 aS aJ
     refine Aa ?_
     refine aM aQ [aV,aI] _ _ aS m ?_
     refine q_p 6 9 Z f (fun _=>Bl (f.eval Z)) fun a f=>q_p 7 9 Z f (fun _=>Bl (f.eval Z)) fun a f=>BD (i:=5) Z (by kernel_rfl) Z fun aX w aY m aZ aZ=> ?_
     have h0_0:=rd2 aY h0_0
     have h1_0:=rd2 aY h1_0
     have h1_1:=rd2 aY h1_1
     have aW:=od1 aY aW
     have aJ:=od1 aY aJ
     refine A8 (R:=(RI .i64)) (xs:=([]:List Int)) (RI.one _) m T94 f Z Z Z (by decide) (All2.nil _) fun a2 a3 w a m a4 f=>Aa ?_
     refine aZ aX [a2,aV,aI] _ _ gr m ?_
     refine q_p 8 9 Z f (fun _=>Bl (f.eval Z)) fun a f=>AI fun a5 w a6 m=> ?_
     have h0_0:=rd2 a6 h0_0
     have h1_0:=rd2 a6 h1_0
     have h1_1:=rd2 a6 h1_1
     have a4:=od1 a6 a4
     have aW:=od1 a6 aW
     have aJ:=od1 a6 aJ
     refine Aa ?_
     have m:=m.front 1 rfl
     have m:=m.front 2 rfl
     have m:Mem W a5 w (aI::aV::a2::Itm.box ab 27 [v1_0,v1_1]::H):=m.eraseAt 4
     have m:=m.eraseAt 3
     obtain rfl:=sj ak
     exact⟨_,_,_,Z,_,aH,aI,aU,aV,a3,a2,(gt ay (gt aF (gt aL (gt aS (gt aY a6))))),f.k Z,m,aJ,aW,a4⟩
    ·intro aX w aY m aZ aZ
     obtain⟨aN,aO,ak⟩:=bind_some ak
     have h0_0:=rd2 aY h0_0
     have h1_0:=rd2 aY h1_0
     have h1_1:=rd2 aY h1_1
     have aJ:=od1 aY aJ
     refine A8 (R:=(RI .i64)) (xs:=([]:List Int)) (RI.one _) m T94 f Z Z Z (by decide) (All2.nil _) fun a2 a3 w a m a4 f=>Aa ?_
     refine aZ aX [a2,aI] _ _ gr m ?_
     refine BD (i:=4) Z (by kernel_rfl) Z fun aK w aL m aM aM=> ?_
     have h0_0:=rd2 aL h0_0
     have h1_0:=rd2 aL h1_0
     have h1_1:=rd2 aL h1_1
     have a4:=od1 aL a4
     have aJ:=od1 aL aJ
     refine AK f Z Tryz.call97 (Wk.x m h1_0 aO) fun aP aQ aR w aS m aT a f=> ?_
     obtain⟨aU,aV,rfl,rfl,aW⟩:=aT
     have h0_0:=rd2 aS h0_0
     have h1_0:=rd2 aS h1_0
     have h1_1:=rd2 aS h1_1
     have a4:=od1 aS a4
     have aJ:=od1 aS aJ
     refine Aa ?_
     refine aM aQ [aV,a2,aI] _ _ aS m ?_
     refine q_p 6 9 Z f (fun _=>Bl (f.eval Z)) fun a f=>q_p 7 9 Z f (fun _=>Bl (f.eval Z)) fun a f=>q_p 8 9 Z f (fun _=>Bl (f.eval Z)) fun a f=>AI fun a5 w a6 m=> ?_
     have h0_0:=rd2 a6 h0_0
     have h1_0:=rd2 a6 h1_0
     have h1_1:=rd2 a6 h1_1
     have aW:=od1 a6 aW
     have a4:=od1 a6 a4
     have aJ:=od1 a6 aJ
     refine Aa ?_
     have m:=m.front 2 rfl
     have m:=m.eraseAt 4
     have m:=m.eraseAt 3
     obtain rfl:=sj ak
     exact⟨_,_,_,Z,_,aH,aI,aU,aV,a3,a2,(gt ay (gt aF (gt aY (gt aL (gt aS a6))))),f.k Z,m,aJ,aW,a4⟩
   ·intro aX w aY m aZ aZ
    obtain⟨aA,aB,ak⟩:=bind_some ak
    obtain⟨aN,aO,ak⟩:=bind_some ak
    have h0_0:=rd2 aY h0_0
    have h1_0:=rd2 aY h1_0
    have h1_1:=rd2 aY h1_1
    refine A8 (R:=(RI .i64)) (xs:=([]:List Int)) (RI.one _) m T94 f Z Z Z (by decide) (All2.nil _) fun a2 a3 w a m a4 f=>Aa ?_
    refine aZ aX [a2] _ _ gr m ?_
    refine BD (i:=1) Z (by kernel_rfl) Z fun ax w ay m az az=> ?_
    have h0_0:=rd2 ay h0_0
    have h1_0:=rd2 ay h1_0
    have h1_1:=rd2 ay h1_1
    have a4:=od1 ay a4
    refine AK f Z Tryz.call50 (Wk.v m h0_0 aB) fun aC aD aE w aF m aG a f=> ?_
    obtain⟨aH,aI,rfl,rfl,aJ⟩:=aG
    have h0_0:=rd2 aF h0_0
    have h1_0:=rd2 aF h1_0
    have h1_1:=rd2 aF h1_1
    have a4:=od1 aF a4
    refine Aa ?_
    refine az aD [aI,a2] _ _ aF m ?_
    refine BD (i:=4) Z (by kernel_rfl) Z fun aK w aL m aM aM=> ?_
    have h0_0:=rd2 aL h0_0
    have h1_0:=rd2 aL h1_0
    have h1_1:=rd2 aL h1_1
    have aJ:=od1 aL aJ
    have a4:=od1 aL a4
    refine AK f Z Tryz.call97 (Wk.x m h1_0 aO) fun aP aQ aR w aS m aT a f=> ?_
    obtain⟨aU,aV,rfl,rfl,aW⟩:=aT
    have h0_0:=rd2 aS h0_0
    have h1_0:=rd2 aS h1_0
    have h1_1:=rd2 aS h1_1
    have aJ:=od1 aS aJ
    have a4:=od1 aS a4
    refine Aa ?_
    refine aM aQ [aV,aI,a2] _ _ aS m ?_
    refine q_p 6 9 Z f (fun _=>Bl (f.eval Z)) fun a f=>q_p 7 9 Z f (fun _=>Bl (f.eval Z)) fun a f=>q_p 8 9 Z f (fun _=>Bl (f.eval Z)) fun a f=>AI fun a5 w a6 m=> ?_
    have h0_0:=rd2 a6 h0_0
    have h1_0:=rd2 a6 h1_0
    have h1_1:=rd2 a6 h1_1
    have aW:=od1 a6 aW
    have aJ:=od1 a6 aJ
    have a4:=od1 a6 a4
    refine Aa ?_
    have m:=m.front 1 rfl
    have m:=m.eraseAt 4
    have m:=m.eraseAt 3
    obtain rfl:=sj ak
    exact⟨_,_,_,Z,_,aH,aI,aU,aV,a3,a2,(gt aY (gt ay (gt aF (gt aL (gt aS a6))))),f.k Z,m,aJ,aW,a4⟩
  ·rintro a w ⟨al,am,an,rfl,ao,ap,aq,ar,au,av,aw,a7,f,m,a8,a9,ba⟩
   refine Af (Ac ?_)
   refine Ab f Z fun a f=> ?_
   obtain⟨bb,bc,hd⟩:=bind_some hd
   refine AK f Z Tryz.call53 (Ow.lendCall (RI.mono _) 0 a8 m Z (fun bd be m bf=>Wk.p m bf bc) (fun _ _ _ _ h=>h)) fun bg bh bi w bj m bk a f=> ?_
   obtain⟨rfl,rfl⟩:=bk
   have a8:=od1 bj a8
   have a9:=od1 bj a9
   have ba:=od1 bj ba
   refine Ad f Z fun a f=>Aa ?_
   have m:=m.front 1 rfl
   obtain⟨bl,bm,m,bn⟩:=Ow.stamp (RI.mono _) a9 m
   have a8:=od1 bm a8
   have ba:=od1 bm ba
   obtain⟨bo,bp,hd⟩:=bind_some hd
   refine AC (fun a w=>∃q_501':(List Int),bo= .inl q_501'∧∃bq:List Int,bq=q_501'∧∃(br:GH) (bs:Value) (bt:Itm),GLe bl br∧Fr a 64 [(7,bs)]∧Mem W br w (bt::H)∧Ow (RI .i64) 3 br bt bs bq) ?_ ?_
   ·refine Aj ?_
    refine AA (fun bu a w=>∃bv:List Int,∃bw:List Int,∃bx:List Int,∃bz:Int,(bv,bw,bx,bz)=bu∧∃(bA:GH) (bB:Itm) (bC:Value) (bD:Value) (bE:Itm),GLe bl bA∧Fr a 64 [(5,ap),(6,bC),(7,bD),(8,(.int .u32 bz))]∧Mem W bA w (bB::bE::H)∧Ow (RI .u32) 76 bA bB ap bv∧RSl (RI .u32) bA bC bw∧Ow (RI .i64) 3 bA bE bD bx) bp ⟨_,_,_,_,Z,_,aq,ar,av,aw,gr,f.k Z,m,a8,bn,ba⟩ ?_
    clear bp f m
    rintro bu bF bG bH a w ⟨bv,bw,bx,bz,rfl,bA,bB,bC,bD,bE,bI,f,m,bJ,bK,bL⟩
    refine Af (Ac ?_)
    refine Ab f Z fun a f=>Ah f Z Z CI fun a f=>Aa ?_
    rcases Ae bG with⟨bM,bG⟩|⟨bM,bG⟩
    ·refine Al f Z bM ?_
     refine Am ?_
     refine Aj (Ac ?_)
     refine Ad f Z fun a f=>Aa (Af (Ac ?_))
     refine Ab f Z fun a f=> ?_
     obtain⟨bN,bO,bG⟩:=bind_some bG
     refine AK f Z Tryz.call103 (Wk.i hW m bO) fun bP bQ bR w bS m bT a f=> ?_
     obtain⟨bU,bV,rfl,rfl,bW⟩:=bT
     have bK:=rd1 bS bK
     have bJ:=od1 bS bJ
     have bL:=od1 bS bL
     refine BB 0 m bW Z Tryz.underlying94 f Z Z fun a f=>Ab f Z fun a f=>Aa ?_
     obtain⟨bX,bY,bG⟩:=bind_some bG
     refine AC (fun a w=>∃bZ:Int,bZ=bX∧∃(b0:GH),GLe bQ b0∧Fr a 64 [(5,ap),(6,bC),(7,bD),(8,(.int .u32 bz)),(9,(.int .i64 bZ))]∧Mem W b0 w (bB::bE::H)) ?_ ?_
     ·refine Aj ?_
      have m:=m.front 2 rfl
      have m:=m.front 2 rfl
      refine AA (fun b1 a w=>∃b2:Int,b2=b1∧∃(b3:GH),GLe bQ b3∧Fr a 64 [(5,ap),(6,bC),(7,bD),(8,(.int .u32 bz)),(9,(.int .i64 (-1))),(28,bU),(29,(.int .i64 (bN.length:Int))),(30,(.int .i64 b2))]∧Mem W b3 w (bB::bE::bV::H)) bY ⟨_,Z,_,gr,f.k Z,m⟩ ?_
      clear bY f m
      rintro b1 b4 b5 b6 a w ⟨b2,rfl,b3,b7,f,m⟩
      have bK:=rd1 b7 bK
      have bJ:=od1 b7 bJ
      have bL:=od1 b7 bL
      have bW:=od1 b7 bW
      refine Ac ?_
      refine Ah f Z Z AJ fun a f=>Aa (Af ?_)
      rcases Ae b5 with⟨b8,b5⟩|⟨b8,b5⟩
      ·refine Al f Z b8 ?_
       refine Am ?_
       refine Af (Aj (Ac ?_))
       obtain⟨b9,ca,b5⟩:=bind_some b5
       refine AW 2 m bW Z T94 f Z Z Z ca fun cb a cc f=>BL 2 m bW Z Pl3 f Z Z cc ca fun cd a ce f=> ?_
       subst ce
       refine Ad f Z fun a f=>Aa (Af ?_)
       refine AT 10 Aw (by kernel_rfl) m ?_
       refine Ag 0 10 Z f Z fun a f=>Ag 1 10 Z f Z fun a f=> ?_
       obtain⟨cf,cg,b5⟩:=bind_some b5
       refine Az 2 10 0 m bJ T73 cg Z f Z Z fun ch a ci f=>AL 3 10 0 bJ Cw ci cg Z f Z fun cj a ck f=> ?_
       subst ck
       refine Ag 4 10 Z f Z fun a f=>q_p 5 10 Z f (fun _=>AD (f.eval Z) (f.eval Z) DH) fun a f=>Ag 6 10 Z f Z fun a f=> ?_
       obtain⟨cl,cm,b5⟩:=bind_some b5
       refine Bh (i:=7) 10 Z (by kernel_rfl) Z f Z Z Z Tryz.call100 (fun _ _ w cn m=>Wk.c m cm) fun a f=>q_p 8 10 Z f (fun _=>AD (f.eval Z) (f.eval Z) b_or) fun a f=>BD (i:=9) Z (by kernel_rfl) Z fun co w cp m cq cq=> ?_
       have bK:=rd1 cp bK
       have bJ:=od1 cp bJ
       have bL:=od1 cp bL
       have bW:=od1 cp bW
       refine Bx (cs:=[(.int .u32 0)]) Tryz.zeroValue76 m f Z Z fun cr w a m f=>Aa ?_
       refine cq co [Itm.box cr 76 [(.int .u32 0)]] _ _ gr m ?_
       refine AI fun ct w cu m=> ?_
       have bK:=rd1 cu bK
       have bJ:=od1 cu bJ
       have bL:=od1 cu bL
       have bW:=od1 cu bW
       refine AS 0 0 (ds:=[(.int .u32 (ior .u32 (iand .u32 cf bz) cl))]) m Tryz.sizeOf76 f Z Z Z (AN Z A3) Z (Nat.le_of_ble_eq_true Z) Z fun w m=>Aa (Ac ?_)
       refine Ab f Z fun a f=>EK f Z Z Z fun a f=> ?_
       obtain⟨cv,cw,b5⟩:=bind_some b5
       refine AK f Z Tryz.call104 (Wk.W0 m bK cw) fun cx cy cz w cA m cB a f=> ?_
       obtain⟨rfl,rfl⟩:=cB
       have bK:=rd1 cA bK
       have bJ:=od1 cA bJ
       have bL:=od1 cA bL
       have bW:=od1 cA bW
       refine Aa ?_
       rcases Ae b5 with⟨cC,b5⟩|⟨cC,b5⟩
       ·refine Al f Z cC ?_
        refine Ac ?_
        refine Ab f Z fun a f=>Ad f Z fun a f=>Aa ?_
        refine Ax Z ?_
        have m:=m.front 2 rfl
        have m:=m.front 2 rfl
        have m:Mem W cy w (bB::bE::Itm.box cr 76 [(.int .u32 (ior .u32 (iand .u32 cf bz) cl))]::H):=m.eraseAt 3
        have m:=m.eraseAt 2
        obtain rfl:=sj b5
        obtain rfl:=b6 _ rfl
        exact⟨_,Z,_,(gt b7 (gt cp (gt cu cA))),f.k Z,m⟩
       ·refine Ai f Z cC ?_
        refine Am ?_
        refine Ak ?_
        refine Ah f Z Z Ar fun a f=>Ab f Z fun a f=>Aa ?_
        have m:=m.front 3 rfl
        have m:=m.front 3 rfl
        have m:Mem W cy w (bB::bE::bV::Itm.box cr 76 [(.int .u32 (ior .u32 (iand .u32 cf bz) cl))]::H):=m.front 3 rfl
        have m:=m.eraseAt 3
        obtain rfl:=sj b5
        exact⟨_,Z,_,Z,_,(gt b7 (gt cp (gt cu cA))),f.k Z,m⟩
      ·refine Ai f Z b8 ?_
       refine Ax Z ?_
       have m:=m.eraseAt 2
       obtain rfl:=sj b5
       obtain rfl:=b6 _ rfl
       exact⟨_,Z,_,b7,f.k Z,m⟩
     ·rintro a w ⟨bZ,rfl,b0,cD,f,m⟩
      have bK:=rd1 cD bK
      have bJ:=od1 cD bJ
      have bL:=od1 cD bL
      refine Af (Ac ?_)
      refine Ab f Z fun a f=>Ah f Z Z AJ fun a f=>Aa ?_
      rcases Ae bG with⟨cE,bG⟩|⟨cE,bG⟩
      ·refine Al f Z cE ?_
       refine Ac ?_
       refine Ad f Z fun a f=>Aa ?_
       refine Aq ?_
       obtain⟨cF,m,cG⟩:=Ow.nil (RI .i64) 2 m
       have m:=m.eraseAt 2
       have m:=m.eraseAt 1
       obtain rfl:=sj bG
       obtain rfl:=bH _ rfl
       obtain rfl:=sj hd
       exact⟨[(.slice none 0 0)],⟨f.get _ _ Z,trivial⟩,f.defers,_,[cF],(gt af (gt a7 (gt bj (gt bm (gt bI (gt bS cD)))))),m,_,_,Z,Z,cG⟩
      ·refine Ai f Z cE ?_
       refine Am ?_
       refine Ac ?_
       refine Ab f Z fun a f=>Ab f Z fun a f=>Ab f Z fun a f=> ?_
       obtain⟨cH,cI,bG⟩:=bind_some bG
       refine AK f Z Tryz.call106 (Wk.a0 hW m bJ cI) fun cJ cK cL w cM m cN a f=> ?_
       obtain⟨cO,rfl,cP⟩:=cN
       have bK:=rd1 cM bK
       have bL:=od1 cM bL
       refine Aa (Ac ?_)
       refine Ab f Z fun a f=>Ab f Z fun a f=> ?_
       obtain⟨cQ,cR,bG⟩:=bind_some bG
       refine Bi f Z Tryz.call100 (Wk.c m cR) fun cS w cT m a f=> ?_
       have bK:=rd1 cT bK
       have cP:=od1 cT cP
       have bL:=od1 cT bL
       refine Ah f Z Z CN fun a f=>Ad f Z fun a f=>Aa (Ak ?_)
       refine Ab f Z fun a f=>Ab f Z fun a f=>A8 (R:=(RI .i64)) (xs:=([bZ]:List Int)) (RI.one _) m T94 f Z Z Z (by decide) (All2.cons Z (All2.nil _)) fun cU cV w a m cW f=> ?_
       obtain⟨cX,cY,bG⟩:=bind_some bG
       refine Bo (RI.one _) 2 m bL Z T94 Z (by decide) f Z Z Z (Ow.src (j:=0) cW m Z) cY fun cZ c0 w a m c1 f=>Ad f Z fun a f=>Aa ?_
       have m:=m.front 2 rfl
       have m:=m.front 2 rfl
       have m:=m.eraseAt 2
       obtain rfl:=sj bG
       exact⟨_,Z,_,_,_,_,Z,_,cO,bC,c0,cZ,(gt bI (gt bS (gt cD (gt cM cT)))),f.k Z,m,cP,bK,c1⟩
    ·refine Ai f Z bM ?_
     refine Ax Z ?_
     have m:=m.front 1 rfl
     have m:=m.eraseAt 1
     obtain rfl:=sj bG
     obtain rfl:=bH _ rfl
     exact⟨_,Z,_,Z,_,bD,bE,bI,f.k Z,m,bL⟩
   ·rintro a w ⟨_,rfl,bq,rfl,br,bs,bt,c2,f,m,c3⟩
    refine Ac ?_
    refine Ab f Z fun a f=> ?_
    obtain⟨c4,c5,hd⟩:=bind_some hd
    refine AK f Z Tryz.call107 (Ow.lendCall (RI.mono _) 0 c3 m Z (fun c6 c7 m c8=>Wk.Q m c8 c5) (fun _ G' _ _ ⟨a0,a1,e1,e2,o0⟩=>⟨a0,a1,e1,e2,Ow.free (RI.free _) G' o0⟩)) fun c9 da db w dc m dd a f=> ?_
    obtain⟨de,df,rfl,rfl,dg⟩:=dd
    have c3:=od1 dc c3
    refine Ad f Z fun a f=>Aa ?_
    refine Aq ?_
    have m:=m.eraseAt 1
    obtain rfl:=sj hd
    exact⟨[de],⟨f.get _ _ Z,trivial⟩,f.defers,_,[df],(gt af (gt a7 (gt bj (gt bm (gt c2 dc))))),m,_,_,Z,Z,dg⟩
theorem Wk.u0 {W w:World}{G:GH}{H:List Itm}{v0_0:Value}{v0_1:Value}{x0_0:(List (List Int))}{x0_1:(List (List Int))}(m:Mem W G w (H))(h0_0:RSl (RSl (RI .i64)) G v0_0 x0_0)(h0_1:RSl (RSl (RI .i64)) G v0_1 x0_1){y:Bool}(hd:D.u0 x0_0 x0_1=some y):
  Calls Tryz.prog 88 #[(.agg #[v0_0,v0_1])] w (Res W G H (fun _ Ho v=>Ho=[]∧v=(.bool y))):=by
 refine As (args:=[(.agg #[v0_0,v0_1])]) (N:=25) [.tmp 2] Tryz.func88 Z Z (Nat.le_of_ble_eq_true Z) Z fun a f=> ?_
 unfold D.u0 at hd
 refine Ac ?_
 refine Bw (cs:=[v0_0,v0_1]) m f Z Z Z fun aa w a m f=>Ad f Z fun a f=>Aa (Ac ?_)
 refine Bn Tryz.underlying27 Z Tryz.sizeOf22 f Z fun a f=>AF 0 0 m Ba f Z Z Z Z fun a f=>AZ Tryz.underlying22 f Z Z h0_0 fun a f=>Ad f Z fun a f=>Aa (Ac ?_)
 refine Ab f Z fun a f=>Ah f Z Z BM fun a f=>Ab f Z fun a f=> ?_
 refine Bz 3 (fun a w=>∃ab,GLe G ab∧Mem W ab w (Itm.box aa 27 [v0_0,v0_1]::H)∧Fr a 25 [(0,(.agg #[v0_0,v0_1])),(1,(.pointer (some ⟨aa,0,none⟩))),(3,(.int .i64 (x0_0.length:Int))),(7,(.int .i64 (x0_0.length:Int))),(8,(.bool (decide ((1:Int)≤(x0_0.length:Int))))),(9,(.bool (decide ((1:Int)≤(x0_0.length:Int))))),(12,(.bool ((decide ((1:Int)≤(x0_0.length:Int)))&&(decide ((x0_0.length:Int)≤16)))))]) ?_ ?_
 ·rcases Bool.eq_false_or_eq_true (decide ((1:Int)≤(x0_0.length:Int))) with ac|ac
  ·refine AB f ac ?_
   refine Ab f Z fun a f=>AB f ac ?_
   refine Ah f Z Z B7 fun a f=>l_o f (AO (f.eval Z) ac (f.eval Z)) fun a f=> ?_
   exact⟨_,gr,m,f.weak ⟨Z,Z,Z,Z,Z,Z,by rw[ac];rfl,trivial⟩⟩
  ·refine AE f ac fun a f=> ?_
   refine AE f ac fun a f=>l_o f (AP (f.eval Z) ac (f.eval Z)) fun a f=> ?_
   exact⟨_,gr,m,f.weak ⟨Z,Z,Z,Z,Z,Z,by rw[ac];rfl,trivial⟩⟩
 ·rintro a w ⟨ab,ad,m,f⟩
  have h0_0:=rd2 ad h0_0
  have h0_1:=rd2 ad h0_1
  refine Ab f Z fun a f=> ?_
  refine Bz 5 (fun a w=>∃ae,GLe ab ae∧Mem W ae w (Itm.box aa 27 [v0_0,v0_1]::H)∧Fr a 25 [(0,(.agg #[v0_0,v0_1])),(1,(.pointer (some ⟨aa,0,none⟩))),(3,(.int .i64 (x0_0.length:Int))),(7,(.int .i64 (x0_0.length:Int))),(8,(.bool (decide ((1:Int)≤(x0_0.length:Int))))),(9,(.bool (decide ((1:Int)≤(x0_0.length:Int))))),(12,(.bool ((decide ((1:Int)≤(x0_0.length:Int)))&&(decide ((x0_0.length:Int)≤16))))),(13,(.bool ((decide ((1:Int)≤(x0_0.length:Int)))&&(decide ((x0_0.length:Int)≤16))))),(18,(.bool (((decide ((1:Int)≤(x0_0.length:Int)))&&(decide ((x0_0.length:Int)≤16)))&&(decide ((x0_1.length:Int)≤16)))))]) ?_ ?_
  ·rcases Bool.eq_false_or_eq_true ((decide ((1:Int)≤(x0_0.length:Int)))&&(decide ((x0_0.length:Int)≤16))) with af|af
   ·refine AB f af ?_
    refine Bn Tryz.underlying27 Z Tryz.sizeOf22 f Z fun a f=>AB f af ?_
    refine AF 0 1 m Ba f Z Z Z Z fun a f=>AB f af ?_
    refine AZ Tryz.underlying22 f Z Z h0_1 fun a f=>AB f af ?_
    refine Ah f Z Z B7 fun a f=>l_o f (AO (f.eval Z) af (f.eval Z)) fun a f=> ?_
    exact⟨_,gr,m,f.weak ⟨Z,Z,Z,Z,Z,Z,Z,Z,by rw[af];rfl,trivial⟩⟩
   ·refine AE f af fun a f=> ?_
    refine AE f af fun a f=>AE f af fun a f=>AE f af fun a f=>l_o f (AP (f.eval Z) af (f.eval Z)) fun a f=> ?_
    exact⟨_,gr,m,f.weak ⟨Z,Z,Z,Z,Z,Z,Z,Z,by rw[af];rfl,trivial⟩⟩
  ·rintro a w ⟨ae,ag,m,f⟩
   have h0_0:=rd2 ag h0_0
   have h0_1:=rd2 ag h0_1
   refine Ab f Z fun a f=> ?_
   obtain⟨ah,ai,hd⟩:=bind_some hd
   refine Bz 5 (fun a w=>∃aj,GLe ae aj∧Mem W aj w (Itm.box aa 27 [v0_0,v0_1]::H)∧Fr a 25 [(0,(.agg #[v0_0,v0_1])),(1,(.pointer (some ⟨aa,0,none⟩))),(3,(.int .i64 (x0_0.length:Int))),(7,(.int .i64 (x0_0.length:Int))),(8,(.bool (decide ((1:Int)≤(x0_0.length:Int))))),(9,(.bool (decide ((1:Int)≤(x0_0.length:Int))))),(12,(.bool ((decide ((1:Int)≤(x0_0.length:Int)))&&(decide ((x0_0.length:Int)≤16))))),(13,(.bool ((decide ((1:Int)≤(x0_0.length:Int)))&&(decide ((x0_0.length:Int)≤16))))),(18,(.bool (((decide ((1:Int)≤(x0_0.length:Int)))&&(decide ((x0_0.length:Int)≤16)))&&(decide ((x0_1.length:Int)≤16))))),(19,(.bool (((decide ((1:Int)≤(x0_0.length:Int)))&&(decide ((x0_0.length:Int)≤16)))&&(decide ((x0_1.length:Int)≤16))))),(24,(.bool ah))]) ?_ ?_
   ·rcases Ae ai with⟨ak,ai⟩|⟨ak,ai⟩
    ·refine AB f ak ?_
     refine Bn Tryz.underlying27 Z Tryz.sizeOf22 f Z fun a f=>AB f ak ?_
     refine AF 0 1 m Ba f Z Z Z Z fun a f=>AB f ak ?_
     refine Ab f Z fun a f=>AB f ak ?_
     obtain⟨al,am,ai⟩:=bind_some ai
     refine Bi f Z Tryz.call94 (Wk.l m h0_1 am) fun an w ao m a f=> ?_
     have h0_0:=rd2 ao h0_0
     have h0_1:=rd2 ao h0_1
     refine l_o f (AO (f.eval Z) ak (f.eval Z)) fun a f=> ?_
     obtain rfl:=sj ai
     exact⟨_,ao,m,f.k Z⟩
    ·refine AE f ak fun a f=> ?_
     refine AE f ak fun a f=>AE f ak fun a f=>AE f ak fun a f=>l_o f (AP (f.eval Z) ak (f.eval Z)) fun a f=> ?_
     obtain rfl:=sj ai
     exact⟨_,gr,m,f.k Z⟩
   ·rintro a w ⟨aj,ap,m,f⟩
    have h0_0:=rd2 ap h0_0
    have h0_1:=rd2 ap h0_1
    refine Ad f Z fun a f=>Aa ?_
    refine Aq ?_
    have m:Mem W aj w H:=Mem.drop (H':=[Itm.box aa 27 [v0_0,v0_1]]) m
    obtain rfl:=sj hd
    exact⟨[(.bool ah)],⟨f.get _ _ Z,trivial⟩,f.defers,_,[],(gt ad (gt ag ap)),m,Z,Z⟩
theorem Wk.R0 {W w:World}{G:GH}{H:List Itm}{v0_0:Value}{v0_1:Value}{x0_0:(List (List Int))}{x0_1:(List (List Int))}(m:Mem W G w (H))(h0_0:RSl (RSl (RI .i64)) G v0_0 x0_0)(h0_1:RSl (RSl (RI .i64)) G v0_1 x0_1){y:((List (List Int)))}(hd:D.R0 x0_0 x0_1=some y):
  Calls Tryz.prog 42 #[(.agg #[v0_0,v0_1])] w (Res W G H (fun G' Ho v=>∃r0:Value,∃i0:Itm,Ho=[i0]∧r0=v∧Ow (RSl (RI .i64)) 42 G' i0 r0 y)):=by
 refine As (args:=[(.agg #[v0_0,v0_1])]) (N:=53) [.tmp 2] Tryz.func42 Z Z (Nat.le_of_ble_eq_true Z) Z fun a f=> ?_
 unfold D.R0 at hd
 refine Ac ?_
 refine Bw (cs:=[v0_0,v0_1]) m f Z Z Z fun aa w a m f=>Ad f Z fun a f=>Aa (Af (Ac ?_))
 refine A5 0 0 (ds:=[v0_0,v0_1]) m B5 f Z Z Z Z Z fun a f=> ?_
 obtain⟨ab,ac,hd⟩:=bind_some hd
 refine Bi f Z Tryz.call88 (Wk.u0 m h0_0 h0_1 ac) fun ad w ae m a f=> ?_
 have h0_0:=rd2 ae h0_0
 have h0_1:=rd2 ae h0_1
 refine l_o f (Bd (f.eval Z)) fun a f=>Aa ?_
 rcases Ae hd with⟨af,hd⟩|⟨af,hd⟩
 ·refine Al f Z af ?_
  refine Ac ?_
  refine Ad f Z fun a f=>Aa ?_
  refine Aq ?_
  obtain⟨ag,m,ah⟩:=Ow.nil (RSl (RI .i64)) 42 m
  have m:=m.eraseAt 1
  obtain rfl:=sj hd
  exact⟨[(.slice none 0 0)],⟨f.get _ _ Z,trivial⟩,f.defers,_,[ag],ae,m,_,_,Z,Z,ah⟩
 ·refine Ai f Z af ?_
  refine Am ?_
  refine Ac ?_
  refine A8 (R:=(RSl (RI .i64))) (xs:=([]:List (List Int))) (RSl.one _) m T22 f Z Z Z (by decide) (All2.nil _) fun ai aj w a m ak f=>Ad f Z fun a f=>Aa (Af (Ac ?_))
  refine Bn Tryz.underlying27 Z Tryz.sizeOf22 f Z fun a f=>AF 1 1 m Ba f Z Z Z Z fun a f=>AZ Tryz.underlying22 f Z Z h0_1 fun a f=>Ab f Z fun a f=>Aa ?_
  obtain⟨al,am,hd⟩:=bind_some hd
  refine AC (fun a w=>∃an:List (List Int),an=al∧∃(ao:GH) (ap:Value) (aq:Itm),GLe ad ao∧Fr a 53 [(3,ap)]∧Mem W ao w (aq::H)∧Ow (RSl (RI .i64)) 42 ao aq ap an) ?_ ?_
  ·refine Aj ?_
   have m:=m.front 1 rfl
   refine AA (fun ar a w=>∃au:List (List Int),∃av:Int,(au,av)=ar∧∃(aw:GH) (ax:Value) (ay:Itm),GLe ad aw∧Fr a 53 [(1,(.pointer (some ⟨aa,0,none⟩))),(3,ax),(14,v0_1),(15,(.int .i64 (x0_1.length:Int))),(16,(.int .i64 av))]∧Mem W aw w (Itm.box aa 27 [v0_0,v0_1]::ay::H)∧Ow (RSl (RI .i64)) 42 aw ay ax au) am ⟨_,_,Z,_,aj,ai,gr,f.k Z,m,ak⟩ ?_
   clear am f m
   rintro ar az aA aB a w ⟨au,av,rfl,aw,ax,ay,aC,f,m,aD⟩
   have h0_1:=rd2 aC h0_1
   have h0_0:=rd2 aC h0_0
   refine Ac ?_
   refine Ah f Z Z AJ fun a f=>Aa (Af ?_)
   rcases Ae aA with⟨aE,aA⟩|⟨aE,aA⟩
   ·refine Al f Z aE ?_
    refine Am ?_
    refine Af (Aj (Ac ?_))
    obtain⟨aF,aG,aA⟩:=bind_some aA
    refine Bf T22 f Z Z Z h0_1 aG fun aH aI a aJ aK f=>AG m AY f Z Z aJ fun a f=>Ad f Z fun a f=>Aa (Ac ?_)
    refine A8 (R:=(RI .i64)) (xs:=([]:List Int)) (RI.one _) m T42 f Z Z Z (by decide) (All2.nil _) fun aL aM w a m aN f=>Ad f Z fun a f=>Aa (Af (Af ?_))
    refine AT 9 Aw (by kernel_rfl) m ?_
    refine B3 0 9 Tryz.underlying27 Z Tryz.sizeOf22 Z f Z fun a f=>BO 1 9 1 Ba Z Z Z f Z fun a f=>Ag 2 9 Z f Z fun a f=> ?_
    obtain⟨aO,aP,aA⟩:=bind_some aA
    refine B2 3 9 T42 aK aP Z f Z Z fun aQ aR a aS aT f=> ?_
    subst aT
    refine BZ 4 9 Pl2 aS Z f Z fun a f=> ?_
    obtain⟨aU,aV,aA⟩:=bind_some aA
    refine B2 5 9 T22 h0_0 aV Z f Z Z fun aW aX a aY aZ f=>BZ 6 9 AY aY Z f Z fun a f=>Ei (i:=7) 9 Tryz.underlying42 aZ Z (by kernel_rfl) Z f Z Z Z fun a f=>Ag 8 9 Z f Z fun a f=>AI fun a0 w a1 m=> ?_
    have aK:=rd1 a1 aK
    have h0_1:=rd2 a1 h0_1
    have h0_0:=rd2 a1 h0_0
    have aS:=At.mono a1 aS
    have aY:=At.mono a1 aY
    have aZ:=rd1 a1 aZ
    have aN:=od1 a1 aN
    have aD:=Ow.mono (RSl.mono (RI.mono _)) a1 aD
    refine Aa ?_
    obtain⟨a2,a3,aA⟩:=bind_some aA
    refine AC (fun a w=>∃a4:List Int,a4=a2∧∃(a5:GH) (a6:Value) (a7:Itm),GLe a0 a5∧Fr a 53 [(1,(.pointer (some ⟨aa,0,none⟩))),(3,ax),(6,a6),(14,v0_1),(15,(.int .i64 (x0_1.length:Int))),(16,(.int .i64 av))]∧Mem W a5 w (Itm.box aa 27 [v0_0,v0_1]::ay::a7::H)∧Ow (RI .i64) 2 a5 a7 a6 a4) ?_ ?_
    ·refine Aj ?_
     have m:=m.front 2 rfl
     have m:=m.front 2 rfl
     refine AA (fun a8 a w=>∃a9:List Int,∃ba:Int,(a9,ba)=a8∧∃(bb:GH) (bc:Value) (bd:Itm),GLe a0 bb∧Fr a 53 [(1,(.pointer (some ⟨aa,0,none⟩))),(3,ax),(5,aI),(6,bc),(14,v0_1),(15,(.int .i64 (x0_1.length:Int))),(16,(.int .i64 av)),(27,aX),(28,(.int .i64 (aU.length:Int))),(29,(.int .i64 ba))]∧Mem W bb w (Itm.box aa 27 [v0_0,v0_1]::ay::bd::H)∧Ow (RI .i64) 2 bb bd bc a9) a3 ⟨_,_,Z,_,aM,aL,gr,f.k Z,m,aN⟩ ?_
     clear a3 f m
     rintro a8 be bf bg a w ⟨a9,ba,rfl,bb,bc,bd,bh,f,m,bi⟩
     have aK:=rd1 bh aK
     have h0_1:=rd2 bh h0_1
     have aZ:=rd1 bh aZ
     have h0_0:=rd2 bh h0_0
     have aD:=Ow.mono (RSl.mono (RI.mono _)) bh aD
     refine Ac ?_
     refine Ah f Z Z AJ fun a f=>Aa (Af ?_)
     rcases Ae bf with⟨bj,bf⟩|⟨bj,bf⟩
     ·refine Al f Z bj ?_
      refine Am ?_
      refine Af (Aj (Ac ?_))
      obtain⟨bk,bl,bf⟩:=bind_some bf
      refine Bf T42 f Z Z Z aZ bl fun bm bn a bo bp f=> ?_
      subst bp
      refine AG m Pl2 f Z Z bo fun a f=>Ad f Z fun a f=>Aa (Af ?_)
      refine AT 9 Aw (by kernel_rfl) m ?_
      refine B3 0 9 Tryz.underlying27 Z Tryz.sizeOf22 Z f Z fun a f=>BO 1 9 0 Ba Z Z Z f Z fun a f=>Ag 2 9 Z f Z fun a f=> ?_
      obtain⟨bq,br,bf⟩:=bind_some bf
      refine B2 3 9 T42 aK br Z f Z Z fun bs bt a bu bv f=> ?_
      subst bv
      refine BZ 4 9 Pl2 bu Z f Z fun a f=> ?_
      obtain⟨bw,bx,bf⟩:=bind_some bf
      refine B2 5 9 T22 h0_0 bx Z f Z Z fun bz bA a bB bC f=>BZ 6 9 AY bB Z f Z fun a f=>Ag 7 9 Z f Z fun a f=> ?_
      obtain⟨bD,bE,bf⟩:=bind_some bf
      refine Bh (i:=8) 9 Z (by kernel_rfl) Z f Z Z Z Tryz.call109 (fun _ _ w bF m=>Wk.E m (rd1 bF bC) bE) fun a f=>AI fun bG w bH m=> ?_
      have aK:=rd1 bH aK
      have h0_1:=rd2 bH h0_1
      have aZ:=rd1 bH aZ
      have h0_0:=rd2 bH h0_0
      have bu:=At.mono bH bu
      have bB:=At.mono bH bB
      have bC:=rd1 bH bC
      have aD:=Ow.mono (RSl.mono (RI.mono _)) bH aD
      have bi:=od1 bH bi
      refine Aa ?_
      rcases Ae bf with⟨bI,bf⟩|⟨bI,bf⟩
      ·refine Al f Z bI ?_
       refine Ak ?_
       refine Ab f Z fun a f=>Ab f Z fun a f=>A8 (R:=(RI .i64)) (xs:=([bk]:List Int)) (RI.one _) m T42 f Z Z Z (by decide) (All2.cons Z (All2.nil _)) fun bJ bK w a m bL f=> ?_
       obtain⟨bM,bN,bf⟩:=bind_some bf
       refine Bo (RI.one _) 3 m bi Z T42 Z (by decide) f Z Z Z (Ow.src (j:=0) bL m Z) bN fun bO bP w a m bQ f=>Ad f Z fun a f=>Aa (Ak ?_)
       refine Ah f Z Z Ar fun a f=>Ab f Z fun a f=>Aa ?_
       have m:=m.front 3 rfl
       have m:=m.front 3 rfl
       have m:Mem W bG w (Itm.box aa 27 [v0_0,v0_1]::ay::bO::bJ::H):=m.front 3 rfl
       have m:=m.eraseAt 3
       obtain rfl:=sj bf
       exact⟨_,Z,_,_,Z,_,bP,bO,(gt bh bH),f.k Z,m,bQ⟩
      ·refine Ai f Z bI ?_
       refine Am ?_
       refine Ak ?_
       refine Ah f Z Z Ar fun a f=>Ab f Z fun a f=>Aa ?_
       obtain rfl:=sj bf
       exact⟨_,Z,_,_,Z,_,bc,bd,(gt bh bH),f.k Z,m,bi⟩
     ·refine Ai f Z bj ?_
      refine Ax Z ?_
      obtain rfl:=sj bf
      obtain rfl:=bg _ rfl
      exact⟨_,Z,_,bc,bd,bh,f.k Z,m,bi⟩
    ·rintro a w ⟨a4,rfl,a5,a6,a7,bR,f,m,bS⟩
     have h0_1:=rd2 bR h0_1
     have h0_0:=rd2 bR h0_0
     have aD:=Ow.mono (RSl.mono (RI.mono _)) bR aD
     refine Ak ?_
     refine Ab f Z fun a f=>Ab f Z fun a f=> ?_
     have m:=m.front 2 rfl
     obtain⟨bT,bU,m,bV⟩:=Ow.stamp (RI.mono _) bS m
     have h0_1:=rd2 bU h0_1
     have h0_0:=rd2 bU h0_0
     have aD:=Ow.mono (RSl.mono (RI.mono _)) bU aD
     refine A8 (R:=(RSl (RI .i64))) (xs:=([a4]:List (List Int))) (RSl.one _) m T22 f Z Z Z (by decide) (All2.cons bV (All2.nil _)) fun bW bX w a m bY f=> ?_
     obtain⟨bZ,b0,aA⟩:=bind_some aA
     refine Bo (RSl.one _) 2 m aD Z T22 Z (by decide) f Z Z Z (Ow.src (j:=0) bY m Z) b0 fun b1 b2 w a m b3 f=>Ad f Z fun a f=>Aa (Ak ?_)
     refine Ah f Z Z Ar fun a f=>Ab f Z fun a f=>Aa ?_
     have m:=m.front 2 rfl
     have m:=m.front 2 rfl
     have m:=m.eraseAt 2
     obtain rfl:=sj aA
     exact⟨_,Z,_,_,Z,_,b2,b1,(gt aC (gt a1 (gt bR bU))),f.k Z,m,b3⟩
   ·refine Ai f Z aE ?_
    refine Ax Z ?_
    have m:=m.front 1 rfl
    have m:=m.eraseAt 1
    obtain rfl:=sj aA
    obtain rfl:=aB _ rfl
    exact⟨_,Z,_,ax,ay,aC,f.k Z,m,aD⟩
  ·rintro a w ⟨an,rfl,ao,ap,aq,b4,f,m,b5⟩
   refine Ac ?_
   refine Ab f Z fun a f=>Ad f Z fun a f=>Aa ?_
   refine Aq ?_
   obtain rfl:=sj hd
   exact⟨[ap],⟨f.get _ _ Z,trivial⟩,f.defers,_,[aq],(gt ae b4),m,_,_,Z,Z,b5⟩
set_option maxHeartbeats 1000000 in
theorem Wk.t1 {W w:World}{G:GH}{H:List Itm}{v0:Value}{x0:(List Int)}(hW:CP W)(m:Mem W G w (H))(h0:RSl (RI .u8) G v0 x0){y:Bool}(hd:D.t1 x0=some y):
  Calls Tryz.prog 7 #[v0] w (Res W G H (fun _ Ho v=>Ho=[]∧v=(.bool y))):=by
 refine As (args:=[v0]) (N:=104) [.tmp 2] Tryz.func7 Z Z (Nat.le_of_ble_eq_true Z) Z fun a f=> ?_
 unfold D.t1 at hd
 refine Ac ?_
 refine Ad f Z fun a f=>Aa (Af (Ac ?_))
 refine Ab f Z fun a f=> ?_
 obtain⟨aa,ab,hd⟩:=bind_some hd
 refine Bi f Z Tryz.call26 (Wk.c1 m h0 ab) fun ac w ad m a f=> ?_
 have h0:=rd1 ad h0
 refine Aa ?_
 rcases Ae hd with⟨ae,hd⟩|⟨ae,hd⟩
 ·refine Al f Z ae ?_
  refine Ac ?_
  refine Ad f Z fun a f=>Aa ?_
  refine Aq ?_
  obtain rfl:=sj hd
  exact⟨[(.bool true)],⟨f.get _ _ Z,trivial⟩,f.defers,_,[],ad,m,Z,Z⟩
 ·refine Ai f Z ae ?_
  refine Am ?_
  refine Ac ?_
  refine Ab f Z fun a f=> ?_
  obtain⟨af,ag,hd⟩:=bind_some hd
  refine AK f Z Tryz.call34 (Wk.H0 m h0 ag) fun ah ai aj w ak m al a f=> ?_
  obtain⟨am,an,rfl,rfl,ao⟩:=al
  have h0:=rd1 ak h0
  refine Ad f Z fun a f=>Aa (Ac ?_)
  refine Ab f Z fun a f=> ?_
  obtain⟨ap,aq,hd⟩:=bind_some hd
  refine AK f Z Tryz.call35 (Wk.O0 m ao aq) fun ar au av w aw m ax a f=> ?_
  obtain⟨ay,az,aA,rfl,rfl,aB,aC⟩:=ax
  have h0:=rd1 aw h0
  refine Bx (cs:=[(.slice none 0 0)]) Tryz.zeroValue30 m f Z Z fun aD w a m f=>AS 0 0 (ds:=[ay]) m Tryz.sizeOf30 f Z Z Z (AN (Ow.one1 1 m aB Z) A3) Z (Nat.le_of_ble_eq_true Z) Z fun w m=>Aa (Ac ?_)
  refine Ab f Z fun a f=>Bn Tryz.underlying30 Z Tryz.sizeOf22 f Z fun a f=>AF 0 0 m Ba f Z Z Z Z fun a f=>BB 1 m aB Z Tryz.underlying22 f Z Z fun a f=> ?_
  have m:Mem W au w (Itm.box an 109 [aA,(.int .i64 ap.2.2.1),(.int .u64 ap.2.2.2)]::Itm.box aD 30 [ay]::az::H):=m.front 2 rfl
  obtain⟨aE,aF,hd⟩:=bind_some hd
  refine AK f Z Tryz.call36 (Wk.y0 m aC aF) fun aG aH aI w aJ m aK a f=> ?_
  obtain⟨aL,aM,aN,rfl,rfl,aO,aP⟩:=aK
  have h0:=rd1 aJ h0
  have aB:=Ow.mono (RSl.mono (RI.mono _)) aJ aB
  refine Ad f Z fun a f=>Aa (Ac ?_)
  refine A5 2 0 (ds:=[ay]) m Bq f Z Z Z Z Z fun a f=>Ab f Z fun a f=> ?_
  obtain⟨aQ,aR,hd⟩:=bind_some hd
  refine AK f Z Tryz.call23 (Ow.lendCall (RSl.mono (RI.mono _)) 3 aB m Z (fun aS aT m aU=>(Ow.lendCall (RI.mono _) 0 (od1 aT aO) m Z (fun aV aW m aX=>Wk.F0 hW m (rd2 aW aU) aX aR) (fun _ G' _ _ ⟨a0,a1,a2,a3,e1,e2,o0,o1⟩=>⟨a0,a1,a2,a3,e1,e2,Ow2.free (RI.free _) G' o0,Ow2.free (RI.free _) G' o1⟩))) (fun _ G' _ _ ⟨a0,a1,a2,a3,e1,e2,o0,o1⟩=>⟨a0,a1,a2,a3,e1,e2,Ow2.free (RI.free _) G' o0,Ow2.free (RI.free _) G' o1⟩)) fun aY aZ a4 w a5 m a6 a f=> ?_
  obtain⟨a7,a8,a9,ba,rfl,rfl,bb,bc⟩:=a6
  have h0:=rd1 a5 h0
  have aO:=od1 a5 aO
  have aP:=rd1 a5 aP
  have aB:=Ow.mono (RSl.mono (RI.mono _)) a5 aB
  refine Ab f Z fun a f=>l_o f (Bb (f.eval Z) Z) fun a f=>l_o f (Bb (f.eval Z) Z) fun a f=>Bx (cs:=[(.slice none 0 0),(.slice none 0 0)]) Tryz.zeroValue27 m f Z Z fun bd w a m f=>AS 0 0 (ds:=[a7,a9]) m Tryz.sizeOf27 f Z Z Z (AN (Ow2.one1 1 m bb Z) (AN (Ow2.one1 2 m bc Z) A3)) Z (Nat.le_of_ble_eq_true Z) Z fun w m=>Ad f Z fun a f=>Aa (Af (Af ?_))
  refine AT 22 Aw (by kernel_rfl) m ?_
  refine Ag 0 22 Z f Z fun a f=>q_p 1 22 Z f (fun _=>Bd (f.eval Z)) fun a f=>Ag 2 22 Z f Z fun a f=> ?_
  obtain⟨be,bf,hd⟩:=bind_some hd
  refine BN (fuel':=14) (listed':= #[true,true,true,true,true,true,true,true,false,false,false,false,false,false,false,false,false,false,false,false,false,false]) (fun a=>Fr a 104 [(0,v0),(3,(.pointer (some ⟨an,0,none⟩))),(4,(.pointer (some ⟨aD,0,none⟩))),(5,aL),(6,(.pointer (some ⟨bd,0,none⟩))),(7,(.bool aQ.2.2)),(28,(.bool aQ.2.2)),(29,(.bool (!aQ.2.2))),(30,(.bool (!aQ.2.2))),(35,(.bool be))]) ?_ ?_
  ·intro a f
   refine Ag 8 22 Z f Z fun a f=> ?_
   obtain⟨bg,bh,hd⟩:=bind_some hd
   refine BN (fuel':=8) (listed':= #[true,true,true,true,true,true,true,true,true,true,true,true,true,true,false,false,false,false,false,false,false,false]) (fun a=>Fr a 104 [(0,v0),(3,(.pointer (some ⟨an,0,none⟩))),(4,(.pointer (some ⟨aD,0,none⟩))),(5,aL),(6,(.pointer (some ⟨bd,0,none⟩))),(7,(.bool aQ.2.2)),(28,(.bool aQ.2.2)),(29,(.bool (!aQ.2.2))),(30,(.bool (!aQ.2.2))),(35,(.bool be)),(36,(.bool be)),(41,(.bool bg))]) ?_ ?_
   ·intro a f
    refine Ag 14 22 Z f Z fun a f=> ?_
    obtain⟨bi,bj,hd⟩:=bind_some hd
    refine BN (fuel':=0) (listed':= #[true,true,true,true,true,true,true,true,true,true,true,true,true,true,true,true,true,true,true,true,true,true]) (fun a=>Fr a 104 [(0,v0),(3,(.pointer (some ⟨an,0,none⟩))),(4,(.pointer (some ⟨aD,0,none⟩))),(5,aL),(6,(.pointer (some ⟨bd,0,none⟩))),(7,(.bool aQ.2.2)),(28,(.bool aQ.2.2)),(29,(.bool (!aQ.2.2))),(30,(.bool (!aQ.2.2))),(35,(.bool be)),(36,(.bool be)),(41,(.bool bg)),(42,(.bool bg)),(49,(.bool bi))]) ?_ ?_
    ·intro a f
     refine AI fun bk w bl m=> ?_
     have h0:=rd1 bl h0
     have bb:=od2 bl bb
     have bc:=od2 bl bc
     have aO:=od1 bl aO
     have aP:=rd1 bl aP
     have aB:=Ow.mono (RSl.mono (RI.mono _)) bl aB
     refine Aa ?_
     rcases Ae hd with⟨bm,hd⟩|⟨bm,hd⟩
     ·refine Al f Z bm ?_
      refine Ac ?_
      refine Ad f Z fun a f=>Aa ?_
      refine Aq ?_
      have m:Mem W bk w H:=Mem.drop (H':=[Itm.box bd 27 [a7,a9],a8,ba,aM,Itm.box an 109 [aN,(.int .i64 aE.2.2.1),(.int .u64 aE.2.2.2)],Itm.box aD 30 [ay],az]) m
      obtain rfl:=sj hd
      exact⟨[(.bool false)],⟨f.get _ _ Z,trivial⟩,f.defers,_,[],(gt ad (gt ak (gt aw (gt aJ (gt a5 bl))))),m,Z,Z⟩
     ·refine Ai f Z bm ?_
      refine Am ?_
      refine Ac ?_
      refine A5 5 0 (ds:=[ay]) m Bq f Z Z Z Z Z fun a f=>A5 0 0 (ds:=[a7,a9]) m B5 f Z Z Z Z Z fun a f=> ?_
      obtain⟨bn,bo,hd⟩:=bind_some hd
      refine AK f Z Tryz.call20 (Ow.lendCall (RSl.mono (RI.mono _)) 6 aB m Z (fun bp bq m br=>(Ow2.lendCall (RI.mono _) 1 (od2 bq bb) m Z (fun bs bt m bu=>(Ow2.lendCall (RI.mono _) 1 (od2 bt (od2 bq bc)) m Z (fun bv bw m bx=>Wk.A0 hW m (rd2 bw (rd2 bt br)) (rd2 bw bu) bx bo) (fun _ G' _ _ ⟨a0,a1,a2,a3,e1,e2,o0,o1⟩=>⟨a0,a1,a2,a3,e1,e2,Ow2.free (RI.free _) G' o0,Ow2.free (RI.free _) G' o1⟩))) (fun _ G' _ _ ⟨a0,a1,a2,a3,e1,e2,o0,o1⟩=>⟨a0,a1,a2,a3,e1,e2,Ow2.free (RI.free _) G' o0,Ow2.free (RI.free _) G' o1⟩))) (fun _ G' _ _ ⟨a0,a1,a2,a3,e1,e2,o0,o1⟩=>⟨a0,a1,a2,a3,e1,e2,Ow2.free (RI.free _) G' o0,Ow2.free (RI.free _) G' o1⟩)) fun bz bA bB w bC m bD a f=> ?_
      obtain⟨bE,bF,bG,bH,rfl,rfl,bI,bJ⟩:=bD
      have h0:=rd1 bC h0
      have bb:=od2 bC bb
      have bc:=od2 bC bc
      have aO:=od1 bC aO
      have aP:=rd1 bC aP
      have aB:=Ow.mono (RSl.mono (RI.mono _)) bC aB
      refine Ab f Z fun a f=>l_o f (Bb (f.eval Z) Z) fun a f=>l_o f (Bb (f.eval Z) Z) fun a f=>Bx (cs:=[(.slice none 0 0),(.slice none 0 0)]) Tryz.zeroValue27 m f Z Z fun bK w a m f=>AS 0 0 (ds:=[bE,bG]) m Tryz.sizeOf27 f Z Z Z (AN (Ow2.one1 1 m bI Z) (AN (Ow2.one1 2 m bJ Z) A3)) Z (Nat.le_of_ble_eq_true Z) Z fun w m=>Ad f Z fun a f=>Aa (Af (Af ?_))
      refine AT 24 Aw (by kernel_rfl) m ?_
      refine Ag 0 24 Z f Z fun a f=>q_p 1 24 Z f (fun _=>Bd (f.eval Z)) fun a f=>Ag 2 24 Z f Z fun a f=> ?_
      obtain⟨bL,bM,hd⟩:=bind_some hd
      refine BN (fuel':=16) (listed':= #[true,true,true,true,true,true,true,true,false,false,false,false,false,false,false,false,false,false,false,false,false,false,false,false]) (fun a=>Fr a 104 [(0,v0),(3,(.pointer (some ⟨an,0,none⟩))),(4,(.pointer (some ⟨aD,0,none⟩))),(5,aL),(6,(.pointer (some ⟨bd,0,none⟩))),(7,(.bool aQ.2.2)),(8,(.pointer (some ⟨bK,0,none⟩))),(9,(.bool bn.2.2)),(56,(.bool bn.2.2)),(57,(.bool (!bn.2.2))),(58,(.bool (!bn.2.2))),(63,(.bool bL))]) ?_ ?_
      ·intro a f
       refine Ag 8 24 Z f Z fun a f=> ?_
       obtain⟨bN,bO,hd⟩:=bind_some hd
       refine BN (fuel':=9) (listed':= #[true,true,true,true,true,true,true,true,true,true,true,true,true,true,true,false,false,false,false,false,false,false,false,false]) (fun a=>Fr a 104 [(0,v0),(3,(.pointer (some ⟨an,0,none⟩))),(4,(.pointer (some ⟨aD,0,none⟩))),(5,aL),(6,(.pointer (some ⟨bd,0,none⟩))),(7,(.bool aQ.2.2)),(8,(.pointer (some ⟨bK,0,none⟩))),(9,(.bool bn.2.2)),(56,(.bool bn.2.2)),(57,(.bool (!bn.2.2))),(58,(.bool (!bn.2.2))),(63,(.bool bL)),(64,(.bool bL)),(70,(.bool bN))]) ?_ ?_
       ·intro a f
        refine Ag 15 24 Z f Z fun a f=>BN (fuel':=0) (listed':= #[true,true,true,true,true,true,true,true,true,true,true,true,true,true,true,true,true,true,true,true,true,true,true,true]) (fun a=>Fr a 104 [(0,v0),(3,(.pointer (some ⟨an,0,none⟩))),(4,(.pointer (some ⟨aD,0,none⟩))),(5,aL),(6,(.pointer (some ⟨bd,0,none⟩))),(7,(.bool aQ.2.2)),(8,(.pointer (some ⟨bK,0,none⟩))),(9,(.bool bn.2.2)),(56,(.bool bn.2.2)),(57,(.bool (!bn.2.2))),(58,(.bool (!bn.2.2))),(63,(.bool bL)),(64,(.bool bL)),(70,(.bool bN)),(71,(.bool bN)),(79,(.bool (bN||(decide ((aQ.1.length:Int)<(bn.1.length:Int))))))]) ?_ ?_
        ·intro a f
         refine AI fun bP w bQ m=> ?_
         have h0:=rd1 bQ h0
         have bI:=od2 bQ bI
         have bJ:=od2 bQ bJ
         have bb:=od2 bQ bb
         have bc:=od2 bQ bc
         have aO:=od1 bQ aO
         have aP:=rd1 bQ aP
         have aB:=Ow.mono (RSl.mono (RI.mono _)) bQ aB
         refine Aa ?_
         rcases Ae hd with⟨bR,hd⟩|⟨bR,hd⟩
         ·refine Al f Z bR ?_
          refine Ac ?_
          refine Ad f Z fun a f=>Aa ?_
          refine Aq ?_
          have m:Mem W bP w H:=Mem.drop (H':=[Itm.box bK 27 [bE,bG],bF,bH,Itm.box bd 27 [a7,a9],a8,ba,aM,Itm.box an 109 [aN,(.int .i64 aE.2.2.1),(.int .u64 aE.2.2.2)],Itm.box aD 30 [ay],az]) m
          obtain rfl:=sj hd
          exact⟨[(.bool false)],⟨f.get _ _ Z,trivial⟩,f.defers,_,[],(gt ad (gt ak (gt aw (gt aJ (gt a5 (gt bl (gt bC bQ))))))),m,Z,Z⟩
         ·refine Ai f Z bR ?_
          refine Am ?_
          refine Ac ?_
          refine A5 8 0 (ds:=[ay]) m Bq f Z Z Z Z Z fun a f=>A5 0 0 (ds:=[bE,bG]) m B5 f Z Z Z Z Z fun a f=> ?_
          obtain⟨bS,bT,hd⟩:=bind_some hd
          refine AK f Z Tryz.call40 (Ow.lendCall (RSl.mono (RI.mono _)) 9 aB m Z (fun bU bV m bW=>(Ow2.lendCall (RI.mono _) 1 (od2 bV bI) m Z (fun bX bY m bZ=>(Ow2.lendCall (RI.mono _) 1 (od2 bY (od2 bV bJ)) m Z (fun b0 b1 m b2=>Wk.o hW m (rd2 b1 (rd2 bY bW)) (rd2 b1 bZ) b2 bT) (fun _ G' _ _ ⟨a0,a1,e1,e2,o0⟩=>⟨a0,a1,e1,e2,Ow.free (RI.free _) G' o0⟩))) (fun _ G' _ _ ⟨a0,a1,e1,e2,o0⟩=>⟨a0,a1,e1,e2,Ow.free (RI.free _) G' o0⟩))) (fun _ G' _ _ ⟨a0,a1,e1,e2,o0⟩=>⟨a0,a1,e1,e2,Ow.free (RI.free _) G' o0⟩)) fun b3 b4 b5 w b6 m b7 a f=> ?_
          obtain⟨b8,b9,rfl,rfl,ca⟩:=b7
          have h0:=rd1 b6 h0
          have bI:=od2 b6 bI
          have bJ:=od2 b6 bJ
          have bb:=od2 b6 bb
          have bc:=od2 b6 bc
          have aO:=od1 b6 aO
          have aP:=rd1 b6 aP
          have aB:=Ow.mono (RSl.mono (RI.mono _)) b6 aB
          refine Ad f Z fun a f=>Aa (Af ?_)
          have m:Mem W b4 w (bF::b9::Itm.box bK 27 [bE,bG]::bH::Itm.box bd 27 [a7,a9]::a8::ba::aM::Itm.box an 109 [aN,(.int .i64 aE.2.2.1),(.int .u64 aE.2.2.2)]::Itm.box aD 30 [ay]::az::H):=m.front 2 rfl
          obtain⟨cb,cc,m,cd⟩:=Ow2.stamp (RI.mono _) bI m
          have h0:=rd1 cc h0
          have ca:=od1 cc ca
          have bJ:=od2 cc bJ
          have bb:=od2 cc bb
          have bc:=od2 cc bc
          have aO:=od1 cc aO
          have aP:=rd1 cc aP
          have aB:=Ow.mono (RSl.mono (RI.mono _)) cc aB
          have m:Mem W cb w (bH::b9::Itm.box bK 27 [bE,bG]::Itm.box bd 27 [a7,a9]::a8::ba::aM::Itm.box an 109 [aN,(.int .i64 aE.2.2.1),(.int .u64 aE.2.2.2)]::Itm.box aD 30 [ay]::az::H):=m.front 2 rfl
          obtain⟨ce,cf,m,cg⟩:=Ow2.stamp (RI.mono _) bJ m
          have h0:=rd1 cf h0
          have ca:=od1 cf ca
          have cd:=rd2 cf cd
          have bb:=od2 cf bb
          have bc:=od2 cf bc
          have aO:=od1 cf aO
          have aP:=rd1 cf aP
          have aB:=Ow.mono (RSl.mono (RI.mono _)) cf aB
          refine AT 22 Aw (by kernel_rfl) m ?_
          refine Bt (i:=0) (ds:=[ay]) 22 7 Bq Z Z Z Z (by kernel_rfl) Z f Z Z Z fun a f=>Ag 1 22 Z f Z fun a f=> ?_
          obtain⟨ch,ci,hd⟩:=bind_some hd
          refine Bh (i:=2) 22 Z (by kernel_rfl) Z f Z Z Z Tryz.call41 (fun _ _ w cj m=>(Ow.lendCallR (RSl.mono (RI.mono _)) 8 (Ow.mono (RSl.mono (RI.mono _)) cj aB) m Z (fun ck cl m cm=>(Ow.lendCallR (RI.mono _) 0 (od1 cl (od1 cj ca)) m Z (fun cn co m cp=>Wk.f0 m (rd2 co cm) cp ci) (fun _ _ _ _ h=>h))) (fun _ _ _ _ h=>h))) fun a f=>Ag 3 22 Z f Z fun a f=> ?_
          obtain⟨cq,cr,hd⟩:=bind_some hd
          refine BN (fuel':=11) (listed':= #[true,true,true,true,true,true,true,true,true,true,true,false,false,false,false,false,false,false,false,false,false,false]) (fun a=>Fr a 104 [(0,v0),(3,(.pointer (some ⟨an,0,none⟩))),(4,(.pointer (some ⟨aD,0,none⟩))),(5,aL),(6,(.pointer (some ⟨bd,0,none⟩))),(7,(.bool aQ.2.2)),(8,(.pointer (some ⟨bK,0,none⟩))),(9,(.bool bn.2.2)),(10,b8),(83,(.agg #[ay])),(84,b8),(85,(.bool ch)),(86,(.bool ch)),(93,(.bool cq))]) ?_ ?_
          ·intro a f
           refine Ag 11 22 Z f Z fun a f=> ?_
           rcases Ae hd with⟨ct,hd⟩|⟨ct,hd⟩
           ·refine Bt (i:=12) (ds:=[bE,bG]) 22 1 B5 Z Z Z Z (by kernel_rfl) Z f (AQ f Z Z Z ct) Z Z fun a f=> ?_
            refine B3 (hw:=wo f ct) 15 22 Tryz.underlying27 Z Tryz.sizeOf22 Z f Z fun a f=>BO (hw:=wo f ct) 16 22 1 Ba Z Z Z f Z fun a f=>Ei (i:=17) 22 Tryz.underlying22 cd Z (by kernel_rfl) Z f (AQ f Z Z Z ct) Z Z fun a f=>q_p (hw:=wo f ct) 18 22 Z f (fun _=>AD (f.eval Z) (f.eval Z) AH) fun a f=>BD (i:=13) Z (by kernel_rfl) Z fun cu w cv m cw cw=> ?_
            have h0:=rd1 cv h0
            have cd:=rd2 cv cd
            have cg:=rd2 cv cg
            have ca:=od1 cv ca
            have bb:=od2 cv bb
            have bc:=od2 cv bc
            have aO:=od1 cv aO
            have aP:=rd1 cv aP
            have aB:=Ow.mono (RSl.mono (RI.mono _)) cv aB
            refine AB f ct ?_
            obtain⟨cx,cy,hd⟩:=bind_some hd
            refine AK f Z Tryz.call42 (Wk.R0 m cd cg cy) fun cz cA cB w cC m cD a f=> ?_
            obtain⟨cE,cF,rfl,rfl,cG⟩:=cD
            have h0:=rd1 cC h0
            have cd:=rd2 cC cd
            have cg:=rd2 cC cg
            have ca:=od1 cC ca
            have bb:=od2 cC bb
            have bc:=od2 cC bc
            have aO:=od1 cC aO
            have aP:=rd1 cC aP
            have aB:=Ow.mono (RSl.mono (RI.mono _)) cC aB
            refine Aa ?_
            refine cw cA [cF] _ _ cC m ?_
            refine q_own_len (i:=14) 22 0 m cG Z Tryz.underlying22 Z (by kernel_rfl) Z f (AQ f Z Z Z ct) Z Z fun a f=>q_p (hw:=wo f ct) 19 22 Z f (fun _=>AD (f.eval Z) (f.eval Z) By) fun a f=>q_p 20 22 Z f (fun _=>AO (f.eval Z) ct (f.eval Z)) fun a f=>q_p 21 22 Z f (fun _=>Bl (f.eval Z)) fun a f=>AI fun cH w cI m=> ?_
            have h0:=rd1 cI h0
            have cd:=rd2 cI cd
            have cg:=rd2 cI cg
            have cG:=Ow.mono (RSl.mono (RI.mono _)) cI cG
            have ca:=od1 cI ca
            have bb:=od2 cI bb
            have bc:=od2 cI bc
            have aO:=od1 cI aO
            have aP:=rd1 cI aP
            have aB:=Ow.mono (RSl.mono (RI.mono _)) cI aB
            refine Aa ?_
            refine Aq ?_
            have m:Mem W cH w H:=Mem.drop (H':=[cF,b9,Itm.box bK 27 [bE,bG],Itm.box bd 27 [a7,a9],a8,ba,aM,Itm.box an 109 [aN,(.int .i64 aE.2.2.1),(.int .u64 aE.2.2.2)],Itm.box aD 30 [ay],az]) m
            obtain rfl:=sj hd
            exact⟨[(.bool ((cx.length:Int)==(IntKind.i64.wrap ((bn.1.length:Int)-1))))],⟨f.get _ _ Z,trivial⟩,f.defers,_,[],(gt ad (gt ak (gt aw (gt aJ (gt a5 (gt bl (gt bC (gt bQ (gt b6 (gt cc (gt cf (gt cv (gt cC cI))))))))))))),m,Z,Z⟩
           ·refine An 12 22 Z f ct fun a f=> ?_
            refine An 13 22 Z f ct fun a f=>An 14 22 Z f ct fun a f=>An 15 22 Z f ct fun a f=>An 16 22 Z f ct fun a f=>An 17 22 Z f ct fun a f=>An 18 22 Z f ct fun a f=>An 19 22 Z f ct fun a f=>q_p 20 22 Z f (fun _=>AP (f.eval Z) ct (f.eval Z)) fun a f=>q_p 21 22 Z f (fun _=>Bl (f.eval Z)) fun a f=>AI fun cJ w cK m=> ?_
            have h0:=rd1 cK h0
            have ca:=od1 cK ca
            have cd:=rd2 cK cd
            have cg:=rd2 cK cg
            have bb:=od2 cK bb
            have bc:=od2 cK bc
            have aO:=od1 cK aO
            have aP:=rd1 cK aP
            have aB:=Ow.mono (RSl.mono (RI.mono _)) cK aB
            refine Aa ?_
            refine Aq ?_
            have m:Mem W cJ w H:=Mem.drop (H':=[b9,Itm.box bK 27 [bE,bG],Itm.box bd 27 [a7,a9],a8,ba,aM,Itm.box an 109 [aN,(.int .i64 aE.2.2.1),(.int .u64 aE.2.2.2)],Itm.box aD 30 [ay],az]) m
            obtain rfl:=sj hd
            exact⟨[(.bool false)],⟨f.get _ _ Z,trivial⟩,f.defers,_,[],(gt ad (gt ak (gt aw (gt aJ (gt a5 (gt bl (gt bC (gt bQ (gt b6 (gt cc (gt cf cK))))))))))),m,Z,Z⟩
          ·intro cL
           rcases Ae cr with⟨cM,cr⟩|⟨cM,cr⟩
           ·refine Bt (i:=4) (ds:=[ay]) 22 7 Bq Z Z Z Z (by kernel_rfl) Z f (AQ f Z Z Z cM) Z Z fun a f=> ?_
            refine Ag (hw:=wo f cM) 5 22 Z f Z fun a f=> ?_
            obtain⟨cN,cO,cr⟩:=bind_some cr
            refine Bh (i:=6) 22 Z (by kernel_rfl) Z f (AQ f Z Z Z cM) Z Z Tryz.call39 (fun _ _ w cP m=>(Ow.lendCallR (RSl.mono (RI.mono _)) 8 (Ow.mono (RSl.mono (RI.mono _)) cP aB) m Z (fun cQ cR m cS=>(Ow.lendCallR (RI.mono _) 0 (od1 cR (od1 cP ca)) m Z (fun cT cU m cV=>Wk.Y m (rd2 cU cS) cV cO) (fun _ _ _ _ h=>h))) (fun _ _ _ _ h=>h))) fun a f=>Bt (i:=7) (ds:=[bE,bG]) 22 1 B5 Z Z Z Z (by kernel_rfl) Z f (AQ f Z Z Z cM) Z Z fun a f=> ?_
            obtain⟨cW,cX,cr⟩:=bind_some cr
            refine Bh (i:=8) 22 Z (by kernel_rfl) Z f (AQ f Z Z Z cM) Z Z Tryz.call38 (fun _ _ w cY m=>Wk.u m (rd2 cY cd) (rd2 cY cg) cX) fun a f=>q_p (hw:=wo f cM) 9 22 Z f (fun _=>AD (f.eval Z) (f.eval Z) B7) fun a f=>q_p 10 22 Z f (fun _=>AO (f.eval Z) cM (f.eval Z)) fun a f=> ?_
            obtain rfl:=sj cr
            exact cL _ (f.k Z)
           ·refine An 4 22 Z f cM fun a f=> ?_
            refine An 5 22 Z f cM fun a f=>An 6 22 Z f cM fun a f=>An 7 22 Z f cM fun a f=>An 8 22 Z f cM fun a f=>An 9 22 Z f cM fun a f=>q_p 10 22 Z f (fun _=>AP (f.eval Z) cM (f.eval Z)) fun a f=> ?_
            obtain rfl:=sj cr
            exact cL _ (f.k Z)
        ·intro cZ
         rcases Bool.eq_false_or_eq_true bN with c0|c0
         ·refine An 16 24 Z f c0 fun a f=> ?_
          refine An 17 24 Z f c0 fun a f=>An 18 24 Z f c0 fun a f=>An 19 24 Z f c0 fun a f=>An 20 24 Z f c0 fun a f=>An 21 24 Z f c0 fun a f=>An 22 24 Z f c0 fun a f=>q_p 23 24 Z f (fun _=>AO (f.eval Z) c0 (f.eval Z)) fun a f=> ?_
          exact cZ _ (f.weak ⟨Z,Z,Z,Z,Z,Z,Z,Z,Z,Z,Z,Z,Z,Z,Z,by rw[c0];rfl,trivial⟩)
         ·refine B3 (hw:=wo f c0) 16 24 Tryz.underlying27 Z Tryz.sizeOf22 Z f Z fun a f=> ?_
          refine BO (hw:=wo f c0) 17 24 0 Ba Z Z Z f Z fun a f=>q_own2_len (i:=18) (listed':= #[true,true,true,true,true,true,true,true,true,true,true,true,true,true,true,true,true,true,true,false,false,false,false,false]) 24 1 m bI Z Tryz.underlying22 Z (by kernel_rfl) Z f (AQ f Z Z Z c0) Z Z fun a f=>B3 (hw:=wo f c0) 19 24 Tryz.underlying27 Z Tryz.sizeOf22 Z f Z fun a f=>BO (hw:=wo f c0) 20 24 3 Ba Z Z Z f Z fun a f=>q_own2_len (i:=21) (listed':= #[true,true,true,true,true,true,true,true,true,true,true,true,true,true,true,true,true,true,true,true,true,true,false,false]) 24 4 m bb Z Tryz.underlying22 Z (by kernel_rfl) Z f (AQ f Z Z Z c0) Z Z fun a f=>q_p (hw:=wo f c0) 22 24 Z f (fun _=>AD (f.eval Z) (f.eval Z) BV) fun a f=>q_p 23 24 Z f (fun _=>AP (f.eval Z) c0 (f.eval Z)) fun a f=> ?_
          exact cZ _ (f.weak ⟨Z,Z,Z,Z,Z,Z,Z,Z,Z,Z,Z,Z,Z,Z,Z,by rw[c0];rfl,trivial⟩)
       ·intro c1
        rcases Ae bO with⟨c2,bO⟩|⟨c2,bO⟩
        ·refine An 9 24 Z f c2 fun a f=> ?_
         refine An 10 24 Z f c2 fun a f=>An 11 24 Z f c2 fun a f=>An 12 24 Z f c2 fun a f=>An 13 24 Z f c2 fun a f=>q_p 14 24 Z f (fun _=>AO (f.eval Z) c2 (f.eval Z)) fun a f=> ?_
         obtain rfl:=sj bO
         exact c1 _ (f.k Z)
        ·refine Bt (i:=9) (ds:=[bE,bG]) 24 0 B5 Z Z Z Z (by kernel_rfl) Z f (AQ f Z Z Z c2) Z Z fun a f=> ?_
         obtain⟨c3,c4,bO⟩:=bind_some bO
         refine Bh (i:=10) 24 Z (by kernel_rfl) Z f (AQ f Z Z Z c2) Z Z Tryz.call38 (fun _ _ w c5 m=>(Ow2.lendCallR (RI.mono _) 1 (od2 c5 bI) m Z (fun c6 c7 m c8=>(Ow2.lendCallR (RI.mono _) 1 (od2 c7 (od2 c5 bJ)) m Z (fun c9 da m db=>Wk.u m (rd2 da c8) db c4) (fun _ _ _ _ h=>h))) (fun _ _ _ _ h=>h))) fun a f=>Bt (i:=11) (ds:=[a7,a9]) 24 3 B5 Z Z Z Z (by kernel_rfl) Z f (AQ f Z Z Z c2) Z Z fun a f=> ?_
         obtain⟨dc,dd,bO⟩:=bind_some bO
         refine Bh (i:=12) 24 Z (by kernel_rfl) Z f (AQ f Z Z Z c2) Z Z Tryz.call38 (fun _ _ w de m=>(Ow2.lendCallR (RI.mono _) 4 (od2 de bb) m Z (fun df dg m dh=>(Ow2.lendCallR (RI.mono _) 4 (od2 dg (od2 de bc)) m Z (fun di dj m dk=>Wk.u m (rd2 dj dh) dk dd) (fun _ _ _ _ h=>h))) (fun _ _ _ _ h=>h))) fun a f=>q_p (hw:=wo f c2) 13 24 Z f (fun _=>AD (f.eval Z) (f.eval Z) CI) fun a f=>q_p 14 24 Z f (fun _=>AP (f.eval Z) c2 (f.eval Z)) fun a f=> ?_
         obtain rfl:=sj bO
         exact c1 _ (f.k Z)
      ·intro dl
       rcases Ae bM with⟨dm,bM⟩|⟨dm,bM⟩
       ·refine An 3 24 Z f dm fun a f=> ?_
        refine An 4 24 Z f dm fun a f=>An 5 24 Z f dm fun a f=>An 6 24 Z f dm fun a f=>q_p 7 24 Z f (fun _=>AO (f.eval Z) dm (f.eval Z)) fun a f=> ?_
        obtain rfl:=sj bM
        exact dl _ (f.k Z)
       ·refine Bt (i:=3) (ds:=[ay]) 24 8 Bq Z Z Z Z (by kernel_rfl) Z f (AQ f Z Z Z dm) Z Z fun a f=> ?_
        refine Bt (i:=4) (ds:=[bE,bG]) 24 0 B5 Z Z Z Z (by kernel_rfl) Z f (AQ f Z Z Z dm) Z Z fun a f=> ?_
        obtain⟨dn,dp,bM⟩:=bind_some bM
        refine Bh (i:=5) 24 Z (by kernel_rfl) Z f (AQ f Z Z Z dm) Z Z Tryz.call29 (fun _ _ w dq m=>(Ow.lendCallR (RSl.mono (RI.mono _)) 9 (Ow.mono (RSl.mono (RI.mono _)) dq aB) m Z (fun dr dt m du=>(Ow2.lendCallR (RI.mono _) 1 (od2 dt (od2 dq bI)) m Z (fun dv dw m dx=>(Ow2.lendCallR (RI.mono _) 1 (od2 dw (od2 dt (od2 dq bJ))) m Z (fun dy dz m dA=>Wk.P m (rd2 dz (rd2 dw du)) (rd2 dz dx) dA dp) (fun _ _ _ _ h=>h))) (fun _ _ _ _ h=>h))) (fun _ _ _ _ h=>h))) fun a f=>q_p (hw:=wo f dm) 6 24 Z f (fun _=>Bd (f.eval Z)) fun a f=>q_p 7 24 Z f (fun _=>AP (f.eval Z) dm (f.eval Z)) fun a f=> ?_
        obtain rfl:=sj bM
        exact dl _ (f.k Z)
    ·intro dB
     rcases Ae bj with⟨dC,bj⟩|⟨dC,bj⟩
     ·refine An 15 22 Z f dC fun a f=> ?_
      refine An 16 22 Z f dC fun a f=>An 17 22 Z f dC fun a f=>An 18 22 Z f dC fun a f=>An 19 22 Z f dC fun a f=>An 20 22 Z f dC fun a f=>q_p 21 22 Z f (fun _=>AO (f.eval Z) dC (f.eval Z)) fun a f=> ?_
      obtain rfl:=sj bj
      exact dB _ (f.k Z)
     ·refine Bt (i:=15) (ds:=[a7,a9]) 22 0 B5 Z Z Z Z (by kernel_rfl) Z f (AQ f Z Z Z dC) Z Z fun a f=> ?_
      obtain⟨dD,dE,bj⟩:=bind_some bj
      refine Bh (i:=16) 22 Z (by kernel_rfl) Z f (AQ f Z Z Z dC) Z Z Tryz.call38 (fun _ _ w dF m=>(Ow2.lendCallR (RI.mono _) 1 (od2 dF bb) m Z (fun dG dH m dI=>(Ow2.lendCallR (RI.mono _) 1 (od2 dH (od2 dF bc)) m Z (fun dJ dK m dL=>Wk.u m (rd2 dK dI) dL dE) (fun _ _ _ _ h=>h))) (fun _ _ _ _ h=>h))) fun a f=>Bt (i:=17) (ds:=[ay]) 22 5 Bq Z Z Z Z (by kernel_rfl) Z f (AQ f Z Z Z dC) Z Z fun a f=>Ag (hw:=wo f dC) 18 22 Z f Z fun a f=> ?_
      obtain⟨dM,dN,bj⟩:=bind_some bj
      refine Bh (i:=19) 22 Z (by kernel_rfl) Z f (AQ f Z Z Z dC) Z Z Tryz.call39 (fun _ _ w dO m=>(Ow.lendCallR (RSl.mono (RI.mono _)) 6 (Ow.mono (RSl.mono (RI.mono _)) dO aB) m Z (fun dP dQ m dR=>(Ow.lendCallR (RI.mono _) 3 (od1 dQ (od1 dO aO)) m Z (fun dS dT m dU=>Wk.Y m (rd2 dT dR) dU dN) (fun _ _ _ _ h=>h))) (fun _ _ _ _ h=>h))) fun a f=>q_p (hw:=wo f dC) 20 22 Z f (fun _=>AD (f.eval Z) (f.eval Z) CI) fun a f=>q_p 21 22 Z f (fun _=>AP (f.eval Z) dC (f.eval Z)) fun a f=> ?_
      obtain rfl:=sj bj
      exact dB _ (f.k Z)
   ·intro dV
    rcases Ae bh with⟨dW,bh⟩|⟨dW,bh⟩
    ·refine An 9 22 Z f dW fun a f=> ?_
     refine An 10 22 Z f dW fun a f=>An 11 22 Z f dW fun a f=>An 12 22 Z f dW fun a f=>q_p 13 22 Z f (fun _=>AO (f.eval Z) dW (f.eval Z)) fun a f=> ?_
     obtain rfl:=sj bh
     exact dV _ (f.k Z)
    ·refine Bt (i:=9) (ds:=[ay]) 22 5 Bq Z Z Z Z (by kernel_rfl) Z f (AQ f Z Z Z dW) Z Z fun a f=> ?_
     refine Bt (i:=10) (ds:=[a7,a9]) 22 0 B5 Z Z Z Z (by kernel_rfl) Z f (AQ f Z Z Z dW) Z Z fun a f=> ?_
     obtain⟨dX,dY,bh⟩:=bind_some bh
     refine Bh (i:=11) 22 Z (by kernel_rfl) Z f (AQ f Z Z Z dW) Z Z Tryz.call37 (fun _ _ w dZ m=>(Ow.lendCallR (RSl.mono (RI.mono _)) 6 (Ow.mono (RSl.mono (RI.mono _)) dZ aB) m Z (fun d0 d1 m d2=>(Ow2.lendCallR (RI.mono _) 1 (od2 d1 (od2 dZ bb)) m Z (fun d3 d4 m d5=>(Ow2.lendCallR (RI.mono _) 1 (od2 d4 (od2 d1 (od2 dZ bc))) m Z (fun d6 d7 m d8=>Wk.C hW m (rd2 d7 (rd2 d4 d2)) (rd2 d7 d5) d8 dY) (fun _ _ _ _ h=>h))) (fun _ _ _ _ h=>h))) (fun _ _ _ _ h=>h))) fun a f=>q_p (hw:=wo f dW) 12 22 Z f (fun _=>Bd (f.eval Z)) fun a f=>q_p 13 22 Z f (fun _=>AP (f.eval Z) dW (f.eval Z)) fun a f=> ?_
     obtain rfl:=sj bh
     exact dV _ (f.k Z)
  ·intro d9
   rcases Ae bf with⟨ea,bf⟩|⟨ea,bf⟩
   ·refine An 3 22 Z f ea fun a f=> ?_
    refine An 4 22 Z f ea fun a f=>An 5 22 Z f ea fun a f=>An 6 22 Z f ea fun a f=>q_p 7 22 Z f (fun _=>AO (f.eval Z) ea (f.eval Z)) fun a f=> ?_
    obtain rfl:=sj bf
    exact d9 _ (f.k Z)
   ·refine Bt (i:=3) (ds:=[ay]) 22 5 Bq Z Z Z Z (by kernel_rfl) Z f (AQ f Z Z Z ea) Z Z fun a f=> ?_
    refine Bt (i:=4) (ds:=[a7,a9]) 22 0 B5 Z Z Z Z (by kernel_rfl) Z f (AQ f Z Z Z ea) Z Z fun a f=> ?_
    obtain⟨eb,ec,bf⟩:=bind_some bf
    refine Bh (i:=5) 22 Z (by kernel_rfl) Z f (AQ f Z Z Z ea) Z Z Tryz.call29 (fun _ _ w ed m=>(Ow.lendCallR (RSl.mono (RI.mono _)) 6 (Ow.mono (RSl.mono (RI.mono _)) ed aB) m Z (fun ee ef m eg=>(Ow2.lendCallR (RI.mono _) 1 (od2 ef (od2 ed bb)) m Z (fun eh ei m ej=>(Ow2.lendCallR (RI.mono _) 1 (od2 ei (od2 ef (od2 ed bc))) m Z (fun ek el m em=>Wk.P m (rd2 el (rd2 ei eg)) (rd2 el ej) em ec) (fun _ _ _ _ h=>h))) (fun _ _ _ _ h=>h))) (fun _ _ _ _ h=>h))) fun a f=>q_p (hw:=wo f ea) 6 22 Z f (fun _=>Bd (f.eval Z)) fun a f=>q_p 7 22 Z f (fun _=>AP (f.eval Z) ea (f.eval Z)) fun a f=> ?_
    obtain rfl:=sj bf
    exact d9 _ (f.k Z)
end Go.Proofs.YtebbefpdncgoiaaGreatDoor

namespace Go.Sx
theorem D9 (n:Int):IntKind.u32.wrap n=n%4294967296:=by simp[IntKind.wrap,IntKind.signed,IntKind.bits]
def VS (s:Int):Prop:=0≤s∧s<4294967296
def has (s:Int)(v:Nat):Bool:=s.toNat.testBit v
theorem VS.nat {s:Int}(h:VS s):∃n:Nat,s=n∧n<4294967296:=⟨s.toNat,by have:=h.1;omega,by have:=h.1;have:=h.2;omega⟩
theorem VS.zero :VS 0:=⟨by omega,by omega⟩
theorem VS.wrap (n:Int):VS (IntKind.u32.wrap n):=by rw[D9];exact⟨by omega,by omega⟩
theorem VS.ofNat {n:Nat}(h:n<4294967296):VS (n:Int):=⟨by omega,by omega⟩
theorem Cn (n v:Nat):has (n:Int) v=n.testBit v:=by simp[has]
theorem B4 (v:Nat):has 0 v=false:=by simp[has]
theorem Dp (n:Nat)(h:n<4294967296):(BitVec.ofInt 32 (n:Int)).toNat=n:=by
 rw[BitVec.toNat_ofInt]
 omega
theorem ior_nat {a b:Nat}(ha:a<4294967296)(hb:b<4294967296):ior .u32 (a:Int) (b:Int)=((a|||b:Nat):Int):=by
 have hw:a|||b<4294967296:=Nat.or_lt_two_pow (n:=32) ha hb
 show IntKind.u32.wrap (((BitVec.ofInt 32 (a:Int)|||BitVec.ofInt 32 (b:Int)).toNat:Nat):Int)=_
 rw[BitVec.toNat_or,Dp a ha,Dp b hb,D9];omega
theorem EH {a b:Nat}(ha:a<4294967296)(hb:b<4294967296):iand .u32 (a:Int) (b:Int)=((a&&&b:Nat):Int):=by
 have hw:a&&&b<4294967296:=Nat.and_lt_two_pow (n:=32) _ hb
 show IntKind.u32.wrap (((BitVec.ofInt 32 (a:Int)&&&BitVec.ofInt 32 (b:Int)).toNat:Nat):Int)=_
 rw[BitVec.toNat_and,Dp a ha,Dp b hb,D9];omega
theorem VS.ior (a b:Int):VS (ior .u32 a b):=VS.wrap _
theorem VS.iand (a b:Int):VS (iand .u32 a b):=VS.wrap _
theorem VS.iandNot (a b:Int):VS (iandNot .u32 a b):=VS.wrap _
theorem VS.ishl (a b:Int):VS (ishl .u32 a b):=VS.wrap _
theorem Ca {a b:Int}(ha:VS a)(hb:VS b)(v:Nat):has (ior .u32 a b) v=(has a v||has b v):=by
 obtain⟨m,rfl,hm⟩:=ha.nat;obtain⟨n,rfl,hn⟩:=hb.nat
 rw[ior_nat hm hn];simp only[Cn,Nat.testBit_or]
theorem B6 {a b:Int}(ha:VS a)(hb:VS b)(v:Nat):has (iand .u32 a b) v=(has a v&&has b v):=by
 obtain⟨m,rfl,hm⟩:=ha.nat;obtain⟨n,rfl,hn⟩:=hb.nat
 rw[EH hm hn];simp only[Cn,Nat.testBit_and]
theorem A6 {a b:Int}(ha:VS a)(hb:VS b)(v:Nat):has (iandNot .u32 a b) v=(has a v&& !has b v):=by
 obtain⟨m,rfl,hm⟩:=ha.nat;obtain⟨n,rfl,hn⟩:=hb.nat
 have e:iandNot .u32 (m:Int) (n:Int)=(((BitVec.ofInt 32 (m:Int)&&& ~~~(BitVec.ofInt 32 (n:Int))).toNat:Nat):Int):=by
  have hw:=(BitVec.ofInt 32 (m:Int)&&& ~~~(BitVec.ofInt 32 (n:Int))).isLt
  show IntKind.u32.wrap (((BitVec.ofInt 32 (m:Int)&&& ~~~(BitVec.ofInt 32 (n:Int))).toNat:Nat):Int)=_
  rw[D9];omega
 rw[e,Cn,Cn,Cn]
 have h1:∀i,(BitVec.ofInt 32 (m:Int)).getLsbD i=m.testBit i:=fun i=>by rw[BitVec.getLsbD,Dp m hm]
 have h2:∀i,(BitVec.ofInt 32 (n:Int)).getLsbD i=n.testBit i:=fun i=>by rw[BitVec.getLsbD,Dp n hn]
 rw[←BitVec.getLsbD,BitVec.getLsbD_and,BitVec.getLsbD_not,h1,h2]
 by_cases hv:v<32
 ·simp[hv]
 ·have:m.testBit v=false:=Nat.testBit_lt_two_pow (Nat.lt_of_lt_of_le hm (Nat.pow_le_pow_right (n:=2) (by omega) (show 32≤v by omega)))
  simp[this]
theorem D5 {a:Int}(ha:VS a){v:Nat}(hv:32≤v):has a v=false:=by
 obtain⟨m,rfl,hm⟩:=ha.nat
 rw[Cn]
 exact Nat.testBit_lt_two_pow (Nat.lt_of_lt_of_le hm (Nat.pow_le_pow_right (n:=2) (by omega) hv))
theorem VS.ext {a b:Int}(ha:VS a)(hb:VS b)(h:∀v,v<32→has a v=has b v):a=b:=by
 have:∀v,has a v=has b v:=fun v=>by
  by_cases hv:v<32
  ·exact h v hv
  ·rw[D5 ha (by omega),D5 hb (by omega)]
 obtain⟨m,rfl,hm⟩:=ha.nat;obtain⟨n,rfl,hn⟩:=hb.nat
 congr 1
 apply Nat.eq_of_testBit_eq
 intro v
 have:=this v
 rwa [Cn,Cn] at this
theorem VS.eq_zero {a:Int}(ha:VS a):a=0↔∀v,v<32→has a v=false:=
 ⟨fun h v _=>by rw[h,B4],fun h=>ha.ext VS.zero (fun v hv=>by rw[h v hv,B4])⟩
theorem one_eq {v:Nat}(hv:v<32):ishl .u32 1 (v:Int)=((2^v:Nat):Int):=by
 have h:(2:Nat)^v<2^32:=Nat.pow_lt_pow_right (by omega) hv
 have h':(2:Nat)^32=4294967296:=by decide
 rw[h'] at h
 show IntKind.u32.wrap (1*2^(min ((v:Int)).toNat 32))=_
 rw[D9,show min ((v:Int)).toNat 32=v by simp;omega,Int.one_mul]
 have e:((2^v:Nat):Int)=(2:Int)^v:=by simp
 rw[←e]
 generalize 2^v=p at h ⊢
 omega
theorem BA {v:Nat}(hv:v<32)(u:Nat):has (ishl .u32 1 (v:Int)) u=decide (u=v):=by
 rw[one_eq hv,Cn,Nat.testBit_two_pow]
 simp[eq_comm]
theorem shr_eq (s:Int)(v:Nat)(h:VS s)(hv:v<32):BJ .u32 s (v:Int)=((s.toNat>>>v:Nat):Int):=by
 obtain⟨m,rfl,hm⟩:=h.nat
 show Int.fdiv (m:Int) (2^(min ((v:Int)).toNat 32))=_
 rw[show min ((v:Int)).toNat 32=v by simp;omega]
 have e:((2^v:Nat):Int)=(2:Int)^v:=by simp
 rw[←e,Int.fdiv_eq_ediv_of_nonneg _ (Int.natCast_nonneg _),Nat.shiftRight_eq_div_pow]
 simp
theorem bitAt_eq {s:Int}{v:Nat}(h:VS s)(hv:v<32):(iand .u32 (BJ .u32 s (v:Int)) 1==1)=has s v:=by
 rw[shr_eq s v h hv]
 have hs:s.toNat>>>v<4294967296:=by
  obtain⟨m,rfl,hm⟩:=h.nat
  rw[Nat.shiftRight_eq_div_pow]
  exact Nat.lt_of_le_of_lt (Nat.div_le_self _ _) hm
 have:=EH hs (show (1:Nat)<4294967296 by omega)
 rw[show (1:Int)=((1:Nat):Int) from rfl,this,has,Nat.testBit]
 rw[Nat.and_comm]
 have h1:1&&&(s.toNat>>>v)=0∨1&&&(s.toNat>>>v)=1:=by
  rw[Nat.and_comm,Nat.and_one_is_mod];omega
 rcases h1 with e|e<;>rw[e]<;>rfl
def Ao (s:Int):List Int:=((List.range 32).filter (has s)).map Int.ofNat
theorem mem_elems {s:Int}{x:Int}:x∈Ao s↔∃v:Nat,v<32∧has s v=true∧x=v:=by
 unfold Ao
 rw[List.mem_map]
 constructor
 ·rintro⟨v,hv,rfl⟩
  rw[List.mem_filter,List.mem_range] at hv
  exact⟨v,hv.1,hv.2,rfl⟩
 ·rintro⟨v,h1,h2,rfl⟩
  exact⟨v,List.mem_filter.2 ⟨List.mem_range.2 h1,h2⟩,rfl⟩
theorem AU {s:Int}(h:VS s){v:Nat}:(v:Int)∈Ao s↔has s v=true:=by
 rw[mem_elems]
 constructor
 ·rintro⟨u,_,h2,h3⟩;obtain rfl:v=u:=by omega
  exact h2
 ·intro h2
  refine⟨v,?_,h2,rfl⟩
  by_cases hv:v<32
  ·exact hv
  ·rw[D5 h (by omega)] at h2;cases h2
theorem Cc (s:Int):(Ao s).length≤32:=by
 unfold Ao
 rw[List.length_map]
 exact Nat.le_trans (List.length_filter_le _ _) (by simp)
def Inc (l:List Int):Prop:=l.Pairwise (·<·)
theorem BH (s:Int):Inc (Ao s):=by
 unfold Ao Inc
 rw[List.pairwise_map]
 refine List.Pairwise.filter _ ?_
 refine List.Pairwise.imp ?_ (List.pairwise_lt_range (n:=32))
 intro a b h
 show (a:Int)<(b:Int)
 omega
theorem Inc.ext :∀{l l':List Int},Inc l→Inc l'→(∀x,x∈l↔x∈l')→l=l'
 |[],[],_,_,_=>rfl
 |[],y::l',_,_,h=>by have:=(h y).2 (by simp);simp at this
 |x::l,[],_,_,h=>by have:=(h x).1 (by simp);simp at this
 |x::l,y::l',h1,h2,h=>by
  have h1':=List.pairwise_cons.1 h1;have h2':=List.pairwise_cons.1 h2
  have e:x=y:=by
   rcases List.mem_cons.1 ((h x).1 (by simp)) with e|e
   ·exact e
   ·rcases List.mem_cons.1 ((h y).2 (by simp)) with e'|e'
    ·exact e'.symm
    ·have:=h2'.1 x e;have:=h1'.1 y e';omega
  subst e
  have:l=l':=by
   refine Inc.ext h1'.2 h2'.2 (fun z=> ?_)
   constructor
   ·intro hz
    rcases List.mem_cons.1 ((h z).1 (List.mem_cons_of_mem _ hz)) with e|e
    ·have:=h1'.1 z hz;omega
    ·exact e
   ·intro hz
    rcases List.mem_cons.1 ((h z).2 (List.mem_cons_of_mem _ hz)) with e|e
    ·have:=h2'.1 z hz;omega
    ·exact e
  rw[this]
theorem least_spec {s:Int}(h:VS s)(h0:s≠0):∃k:Nat,k<32∧has s k=true∧(∀v,v<k→has s v=false)∧
  iand .u32 s (IntKind.u32.wrap (0-s))=((2^k:Nat):Int)∧(∀v,has (iand .u32 s (IntKind.u32.wrap (s-1))) v=(has s v&& !decide (v=k))):=by
 obtain⟨m,rfl,hm⟩:=h.nat
 have hm0:m≠0:=by omega
 obtain⟨q,hq,hk⟩:=Lib.ctzFrom_spec 32 m (by omega) hm
 have hc:Lib.ctz 32 m=Lib.ctzFrom 32 m:=by unfold Lib.ctz;rw[if_neg hm0]
 obtain⟨hl,_⟩:=Lib.lowest_bit 32 m hm0 hm
 rw[hc] at hl
 generalize Lib.ctzFrom 32 m=k at*
 have hpos:0<2^k:=Nat.pow_pos (by omega)
 have hb:∀v,m.testBit v=(decide (v≥k)&&(2*q+1).testBit (v-k)):=fun v=>by rw[hq,Nat.mul_comm,Nat.testBit_mul_two_pow,Bool.and_comm]
 refine⟨k,hk,?_,fun v hv=> ?_,?_,fun v=> ?_⟩
 ·rw[Cn,hb];simp
 ·rw[Cn,hb];simp;intro hc;omega
 ·have e:IntKind.u32.wrap (0-(m:Int))=((4294967296-m:Nat):Int):=by rw[D9];omega
  rw[e,EH hm (by omega)]
  rw[←hl]
 ·have e:IntKind.u32.wrap ((m:Int)-1)=((m-1:Nat):Int):=by rw[D9];omega
  rw[e,EH hm (by omega),Cn,Cn,Nat.testBit_and]
  have hm1:m-1=2^k*(2*q)+(2^k-1):=by rw[hq,Nat.mul_add];omega
  have hb1:(m-1).testBit v=if v<k then true else(2*q).testBit (v-k):=by
   rw[hm1,Nat.testBit_two_pow_mul_add _ (by omega)]
   split
   ·rename_i hv;rw[Nat.testBit_two_pow_sub_one];simp[hv]
   ·rfl
  rw[hb1,hb]
  by_cases hv:v<k
  ·simp[hv];intro hc;omega
  ·rw[if_neg hv]
   by_cases hvk:v=k
   ·subst hvk;simp
   ·obtain⟨t,ht⟩:∃t,v-k=t+1:=⟨v-k-1,by omega⟩
    rw[ht,Nat.testBit_succ,Nat.testBit_succ]
    have e1:(2*q+1)/2=q:=by omega
    have e2:2*q/2=q:=by omega
    rw[e1,e2]
    simp[hvk]
theorem elems_least {s t:Int}{k:Nat}(hk:k<32)(h1:has s k=true)(h2:∀v,v<k→has s v=false)(h3:∀v,has t v=(has s v&& !decide (v=k))):
  Ao s=(k:Int)::Ao t:=by
 refine Inc.ext (BH s) ?_ (fun x=> ?_)
 ·refine List.pairwise_cons.2 ⟨fun x hx=> ?_,BH t⟩
  obtain⟨v,hv,h4,rfl⟩:=mem_elems.1 hx
  rw[h3] at h4
  simp at h4
  by_cases hc:v<k
  ·rw[h2 v hc] at h4;simp at h4
  ·omega
 ·rw[List.mem_cons,mem_elems,mem_elems]
  constructor
  ·rintro⟨v,hv,h4,rfl⟩
   by_cases e:v=k
   ·left;omega
   ·right;exact⟨v,hv,by rw[h3,h4];simp[e],rfl⟩
  ·rintro(rfl|⟨v,hv,h4,rfl⟩)
   ·exact⟨k,hk,h1,rfl⟩
   ·rw[h3] at h4;simp at h4
    exact⟨v,hv,h4.1,rfl⟩
theorem DY :Ao 0=[]:=by
 unfold Ao
 rw[List.filter_eq_nil_iff.2 (fun v _=>by simp[B4])];rfl
theorem tz_table :∀k:Nat,k<32→idx tab32 (BJ .u32 (IntKind.u32.wrap (((2^k:Nat):Int)*125613361)) 27)=some (k:Int):=by decide+kernel
end Go.Sx

namespace Go.Sx
def Out (l:List Int)(a0 b0 a b:Int):Prop:=∀i j,a0≤i→i<j→j<b0→¬(a≤i∧j<b)→at' l i≤at' l j
theorem Out.keep {a0 a b b0:Int}{l l':List Int}(h:Rg a b l l')(h0:0≤a0)(ha:a0≤a)(hb:b≤b0)(c:Out l a0 b0 a b):Out l' a0 b0 a b:=by
 intro i j h1 h2 h3 h4
 by_cases hi:a≤i∧i<b
 ·rw[h.out j (by omega) (by omega)]
  exact h.all (fun x=>x≤at' l j) (fun k k1 k2=>c k j (by omega) (by omega) h3 (by omega)) i hi.1 hi.2
 ·rw[h.out i (by omega) (by omega)]
  by_cases hj:a≤j∧j<b
  ·exact h.all (fun x=>at' l i≤x) (fun k k1 k2=>c i k (by omega) (by omega) (by omega) (by omega)) j hj.1 hj.2
  ·rw[h.out j (by omega) (by omega)];exact c i j h1 h2 h3 h4
theorem Ee :∀(n:Nat) (l0:List Int) (a0 b0 lim:Int),0≤a0→a0≤b0→b0≤l0.length→l0.length≤1000000→b0-a0≤16→b0-a0≤12+lim→0≤lim→lim≤64→
  (0<a0→∀k,a0≤k→k<b0→at' l0 (a0-1)≤at' l0 k)→b0-a0<n→∃l',D.I n l0 a0 b0 lim=some l'∧Rg a0 b0 l0 l'∧Srt l' a0 b0:=by
 intro n
 induction n with
 |zero=>intro l0 a0 b0 lim h1 h2 h3 h4 h5 h6 h7 h8 h9 h10;omega
 |succ n ih=>
  intro l0 a0 b0 lim h1 h2 h3 h4 h5 h6 h7 h8 h9 h10
  unfold D.I
  refine AM (fun s=>Rg a0 b0 l0 s.1∧Out s.1 a0 b0 s.2.1 s.2.2.1∧a0≤s.2.1∧s.2.1≤s.2.2.1∧s.2.2.1≤b0∧s.2.2.1-s.2.1≤12+s.2.2.2.1∧0≤s.2.2.2.1∧s.2.2.2.1≤64∧(0<s.2.1→∀k,s.2.1≤k→k<s.2.2.1→at' s.1 (s.2.1-1)≤at' s.1 k))
   (fun s=>(s.2.2.1-s.2.1).toNat) (fun r=>Rg a0 b0 l0 r∧Srt r a0 b0) ?_ ?_ ?_
  ·rintro⟨l,a,b,lm,bal,par⟩ ⟨hR,hO,g1,g2,g3,g4,g5,g6,g7⟩
   dsimp only at hR hO g1 g2 g3 g4 g5 g6 g7 ⊢
   have hll:=hR.len
   have fin:∀l',Rg a b l l'→Srt l' a b→Rg a0 b0 l0 l'∧Srt l' a0 b0:=fun l' hr hs=>
    ⟨hR.trans (hr.widen g1 g3 h1),fun i j k1 k2 k3=>by
     by_cases hc:a≤i∧j<b
     ·exact hs i j hc.1 k2 hc.2
     ·exact(hO.keep hr h1 g1 g3) i j k1 k2 k3 hc⟩
   rw[w64 (show-9223372036854775808≤b-a by omega) (by omega)]
   by_cases hs:b-a≤12
   ·obtain⟨l',e,r1,r2⟩:=C3 l a b (by omega) g2 (by omega) (by omega)
    refine⟨.inr l',?_,fin l' r1 r2⟩
    simp only[hs,decide_true,cond_true,e,Option.bind_some]
   ·have hl0:(lm==0)=false:=by simp;omega
    simp only[hs,decide_false,cond_false,hl0]
    refine BI (fun q:List Int×Int=>Rg a b l q.1∧b-a≤13+q.2∧0≤q.2∧q.2≤64) ?_ ?_
    ·cases bal
     ·obtain⟨l1,e,r1⟩:=CZ l a b (by omega) (by omega) (by omega) (by omega) (by omega)
      refine⟨(l1,lm-1),?_,r1,by dsimp only;omega,by dsimp only;omega,by dsimp only;omega⟩
      simp only[Bool.not_false,cond_true,e,Option.bind_some]
      rw[w64 (by omega) (by omega)]
     ·exact⟨(l,lm),rfl,Rg.refl _ _ _,by dsimp only;omega,by dsimp only;omega,by dsimp only;omega⟩
    rintro⟨l1,lm1⟩ ⟨hr1,k1,k2,k3⟩
    dsimp only at hr1 k1 k2 k3 ⊢
    have hl1:=hr1.len
    obtain⟨y,ey,c1,c2,c3⟩:=Dj l1 a b (by omega) (by omega) (by omega) (by omega) (by omega)
    rw[ey,Option.bind_some]
    refine BI (fun q:List Int×Int×Int=>Rg a b l q.1∧a≤q.2.1∧q.2.1<b) ?_ ?_
    ·cases (y.2.1==2)
     ·exact⟨_,rfl,by dsimp only;rw[c1];exact hr1,c2,c3⟩
     ·obtain⟨l2,e2,r2⟩:=C8 l1 a b (by omega) (by omega) (by omega) (by omega)
      rw[c1]
      simp only[cond_true,e2,Option.bind_some]
      rw[w64 (show-9223372036854775808≤b-1 by omega) (by omega),w64 (show-9223372036854775808≤y.1-a by omega) (by omega),w64 (show-9223372036854775808≤b-1-(y.1-a) by omega) (by omega)]
      exact⟨_,rfl,hr1.trans r2,by dsimp only;omega,by dsimp only;omega⟩
    rintro⟨l2,p,hint⟩ ⟨hr2,p1,p2⟩
    dsimp only at hr2 p1 p2 ⊢
    have hl2:=hr2.len
    refine BI (fun q:List Int ⊕ List Int=>match q with| .inl q=>q=l2| .inr q=>q=l2∧Srt l2 a b) ?_ ?_
    ·cases ((bal&&par)&&(hint==1))
     ·exact⟨.inl l2,rfl,rfl⟩
     ·obtain⟨y2,e2,d1,d2⟩:=CK l2 a b (by omega) (by omega) (by omega) (by omega) (by omega)
      simp only[cond_true,e2,Option.bind_some,d1]
      cases hy:y2.1
      ·exact⟨.inl l2,rfl,rfl⟩
      ·exact⟨.inr l2,rfl,rfl,d2 hy⟩
    rintro(q|q) hq
    case inr=>
     obtain⟨rfl,hq⟩:=hq
     exact⟨.inr q,rfl,fin q hr2 hq⟩
    dsimp only at hq ⊢
    subst hq
    have hO2:=hO.keep hr2 h1 g1 g3
    have g7':0<a→∀k,a≤k→k<b→at' q (a-1)≤at' q k:=fun ha k m1 m2=>by
     rw[hr2.out (a-1) (by omega) (.inl (by omega))]
     exact hr2.all (fun x=>at' l (a-1)≤x) (g7 ha) k m1 m2
    refine BI (fun c:Bool=>c=true→0<a∧at' q p≤at' q (a-1)) ?_ ?_
    ·by_cases ha:0<a
     ·have r1:idx q (a-1)=some (at' q (a-1)):=AR (by omega) (by omega)
      have r2:idx q p=some (at' q p):=AR (by omega) (by omega)
      rw[w64 (show-9223372036854775808≤a-1 by omega) (by omega)]
      simp only[ha,decide_true,cond_true,r1,r2,Cj,Option.bind_some]
      exact⟨_,rfl,fun h=>⟨by trivial,by simpa using h⟩⟩
     ·simp only[ha,decide_false,cond_false]
      exact⟨_,rfl,fun h=>by cases h⟩
    intro c hc
    cases c
    ·
     simp only[cond_false]
     obtain⟨⟨mid,par',l3⟩,e3,P⟩:=DE q a b p (by omega) (by omega) (by omega) p1 p2
     rw[e3,Option.bind_some]
     obtain⟨hr3,m1,m2,m3,m4⟩:=P
     dsimp only at hr3 m1 m2 m3 m4 ⊢
     have hl3:=hr3.len
     have hO3:=hO2.keep hr3 h1 g1 g3
     have g7'':0<a→∀k,a≤k→k<b→at' l3 (a-1)≤at' l3 k:=fun ha k n1 n2=>by
      rw[hr3.out (a-1) (by omega) (.inl (by omega))]
      exact hr3.all (fun x=>at' q (a-1)≤x) (g7' ha) k n1 n2
     have hR3:Rg a0 b0 l0 l3:=hR.trans ((hr2.trans hr3).widen g1 g3 h1)
     rw[w64 (show-9223372036854775808≤mid-a by omega) (by omega),w64 (show-9223372036854775808≤b-mid by omega) (by omega),w64 (show-9223372036854775808≤mid+1 by omega) (by omega)]
     by_cases hside:mid-a<b-mid
     ·simp only[hside,decide_true,cond_true]
      obtain⟨l4,e4,r4,s4⟩:=ih l3 a mid lm1 (by omega) m1 (by omega) (by omega) (by omega) (by omega) k2 k3 (fun ha k n1 n2=>g7'' ha k n1 (by omega)) (by omega)
      rw[e4,Option.bind_some]
      have hl4:=r4.len
      have em:∀k,mid≤k→at' l4 k=at' l3 k:=fun k hk=>r4.out k (by omega) (.inr hk)
      have lf:∀k,a≤k→k<mid→at' l4 k≤at' l4 mid:=fun k n1 n2=>by
       rw[em mid (Int.le_refl _)];exact r4.all (fun x=>x≤at' l3 mid) m3 k n1 n2
      refine⟨.inl _,rfl,⟨hR3.trans (r4.widen g1 (by omega) h1),?_,by dsimp only;omega,by dsimp only;omega,g3,by dsimp only;omega,k2,k3,?_⟩,by dsimp only;omega⟩
      ·have hO4:=hO3.keep (r4.widen (Int.le_refl a) (by omega) (by omega)) h1 g1 g3
       intro i j n1 n2 n3 n4
       dsimp only at n4 ⊢
       by_cases hin:a≤i∧j<b
       ·by_cases hj:j<mid
        ·exact s4 i j hin.1 n2 hj
        ·have hi:i≤mid:=by omega
         have e1:at' l4 i≤at' l4 mid:=by
          by_cases e:i=mid
          ·rw[e];exact Int.le_refl _
          ·exact lf i hin.1 (by omega)
         have e2:at' l4 mid≤at' l4 j:=by
          by_cases e:j=mid
          ·rw[e];exact Int.le_refl _
          ·rw[em mid (Int.le_refl _),em j (by omega)];exact m4 j (by omega) hin.2
         omega
       ·exact hO4 i j n1 n2 n3 hin
      ·intro _ k n1 n2
       dsimp only at n1 n2 ⊢
       rw[show mid+1-1=mid by omega,em mid (Int.le_refl _),em k (by omega)]
       exact m4 k (by omega) n2
     ·simp only[hside,decide_false,cond_false]
      obtain⟨l4,e4,r4,s4⟩:=ih l3 (mid+1) b lm1 (by omega) (by omega) (by omega) (by omega) (by omega) (by omega) k2 k3 (fun _ k n1 n2=>by rw[show mid+1-1=mid by omega];exact m4 k (by omega) n2) (by omega)
      rw[e4,Option.bind_some]
      have hl4:=r4.len
      have em:∀k,0≤k→k≤mid→at' l4 k=at' l3 k:=fun k h0 hk=>r4.out k h0 (.inl (by omega))
      have rt:∀k,mid<k→k<b→at' l4 mid≤at' l4 k:=fun k n1 n2=>by
       rw[em mid (by omega) (Int.le_refl _)];exact r4.all (fun x=>at' l3 mid≤x) (fun k q1 q2=>m4 k (by omega) q2) k (by omega) n2
      refine⟨.inl _,rfl,⟨hR3.trans (r4.widen (by omega) g3 h1),?_,g1,m1,by dsimp only;omega,by dsimp only;omega,k2,k3,?_⟩,by dsimp only;omega⟩
      ·have hO4:=hO3.keep (r4.widen (by omega) (Int.le_refl b) (by omega)) h1 g1 g3
       intro i j n1 n2 n3 n4
       dsimp only at n4 ⊢
       by_cases hin:a≤i∧j<b
       ·by_cases hi:mid<i
        ·exact s4 i j (by omega) n2 hin.2
        ·have hj:mid≤j:=by omega
         have e1:at' l4 i≤at' l4 mid:=by
          by_cases e:i=mid
          ·rw[e];exact Int.le_refl _
          ·rw[em i (by omega) (by omega),em mid (by omega) (Int.le_refl _)];exact m3 i hin.1 (by omega)
         have e2:at' l4 mid≤at' l4 j:=by
          by_cases e:j=mid
          ·rw[e];exact Int.le_refl _
          ·exact rt j (by omega) hin.2
         omega
       ·exact hO4 i j n1 n2 n3 hin
      ·intro ha k n1 n2
       dsimp only at ha n1 n2 ⊢
       rw[em (a-1) (by omega) (by omega),em k (by omega) (by omega)]
       exact g7'' ha k n1 (by omega)
    ·
     simp only[cond_true]
     obtain⟨hc1,hc2⟩:=hc rfl
     obtain⟨⟨mid,l3⟩,e3,hr3,m1,m2,m3,m4⟩:=CV q a b p (by omega) (by omega) (by omega) p1 p2
     rw[e3,Option.bind_some]
     dsimp only at hr3 m1 m2 m3 m4 ⊢
     have hl3:=hr3.len
     have hO3:=hO2.keep hr3 h1 g1 g3
     have lw:∀k,a≤k→k<b→at' q p≤at' l3 k:=fun k n1 n2=>
      hr3.all (fun x=>at' q p≤x) (fun k q1 q2=>Int.le_trans hc2 (g7' hc1 k q1 q2)) k n1 n2
     refine⟨.inl _,rfl,⟨hR.trans ((hr2.trans hr3).widen g1 g3 h1),?_,by dsimp only;omega,m2,g3,by dsimp only;omega,k2,k3,?_⟩,by dsimp only;omega⟩
     ·intro i j n1 n2 n3 n4
      dsimp only at n4 ⊢
      by_cases hin:a≤i∧j<b
      ·have:=m3 i hin.1 (by omega)
       have:=lw j (by omega) hin.2
       omega
      ·exact hO3 i j n1 n2 n3 hin
     ·intro _ k n1 n2
      dsimp only at n1 n2 ⊢
      have:=m3 (mid-1) (by omega) (by omega)
      have:=m4 k n1 n2
      omega
  ·exact⟨Rg.refl _ _ _,fun i j n1 n2 n3 n4=>by dsimp only at n4;omega,Int.le_refl _,h2,Int.le_refl _,h6,h7,h8,h9⟩
  ·rintro r hr
   exact⟨r,rfl,hr⟩
end Go.Sx

namespace Go.Sx
theorem sorted_spec (l:List Int)(hl:l.length≤16):∃y,D.p0 l=some y∧List.Perm y l∧Srt y 0 y.length:=by
 unfold D.p0 D.Z0 D.w1 D.x1 D.n D.r
 rw[if_pos (show l.length≤1000000 by omega)]
 simp only[Option.bind_some]
 rw[wu64 (by omega) (by omega),if_pos (by omega)]
 simp only[Option.bind_some]
 have hk:∀k:Nat,k≤16→k≤12+Lib.bitLen k∧Lib.bitLen k≤64:=by decide
 obtain⟨k1,k2⟩:=hk l.length hl
 have e:((l.length:Int)).toNat=l.length:=by omega
 have hb:=Ft
 obtain⟨y,hy,hr,hs⟩:=Ee CU l 0 l.length (Lib.bitLen l.length:Nat) (by omega) (by omega) (by omega) (by omega) (by omega) (by omega) (by omega) (by omega) (fun h=>absurd h (by omega)) (by omega)
 rw[e,hy]
 refine⟨y,rfl,hr.perm,?_⟩
 rw[hr.len];exact hs
end Go.Sx



namespace Go.Sx
def Sh {α:Type}(xs:List α):Prop:=xs.length≤4294967296
theorem EC (a b c:Int):D.e a b c=some (decide (b≤a)&&decide (a≤c)):=rfl
theorem inRange_eq (a b c:Int):D.f1 a b c=some (decide (b≤a)&&decide (a≤c)):=rfl
theorem any_beq (xs:List Int)(n:Int):xs.any (fun x=>x==n)=decide (n∈xs):=by
 rw[Bool.eq_iff_iff,List.any_eq_true];simp
theorem Dk (xs:List Int)(n:Int)(h:Sh xs):D.h xs n=some (decide (n∈xs)):=by
 unfold Sh at h
 unfold D.h
 refine(loop_anyb xs.length (fun i=>xs.getD i 0==n) true (fun i hi=> ?_) ?_ rfl rfl).trans ?_
 ·simp only[dlt hi,cond_true,Ay hi,Option.bind_some,wi' hi (by omega),Av hi]
  cases xs[i]==n<;>rfl
 ·simp only[A9,cond_false]
 ·rw[Ex xs (fun x=>x==n) _ (fun i hi=>by rw[Av hi]),any_beq]
theorem Eu (xs:List Int)(n:Int)(h:Sh xs):D.E xs n=some (decide (n∈xs)):=by
 unfold Sh at h
 unfold D.E D.v1
 have e:Ap (σ:=Int) (ρ:=(Unit) ⊕ (Int)) (fun(x_26:Int)=>cond (decide (x_26<(xs.length:Int))) ((idx xs x_26).bind fun e_39=>cond (n==e_39) (some (.inr (.inr x_26))) (some (.inl (IntKind.i64.wrap (x_26+1))))) (some (.inr (.inl ())))) 0=
   some (((List.range xs.length).findSome? (fun i=>if xs.getD i 0==n then some (Sum.inr (i:Int)) else none)).getD (.inl ())):=by
  refine CM xs.length _ _ (fun i hi=> ?_) ?_
  ·simp only[dlt hi,cond_true,Ay hi,Option.bind_some,wi' hi (by omega),Av hi]
   rw[show (n==xs[i])=(xs[i]==n) from Bool.beq_comm ..]
   cases xs[i]==n<;>rfl
  ·simp only[A9,cond_false]
 rw[e,Option.bind_some]
 cases hf:(List.range xs.length).findSome? (fun i=>if xs.getD i 0==n then some (Sum.inr (i:Int):Unit ⊕ Int) else none) with
 |none=>
  have:n∉xs:=fun hm=>by
   obtain⟨i,hi,e⟩:=List.getElem_of_mem hm
   have:=(List.findSome?_eq_none_iff.1 hf) i (List.mem_range.2 hi)
   rw[Av hi,e] at this
   simp at this
  simp[this]
 |some r=>
  obtain⟨i,hi,hr⟩:=List.exists_of_findSome?_eq_some hf
  have hi':=List.mem_range.1 hi
  rw[Av hi'] at hr
  split at hr
  ·rename_i hc
   cases hr
   have:n∈xs:=by rw[←(beq_iff_eq.1 hc)];exact List.getElem_mem _
   simp[this]
  ·cases hr
def SetOf (xs:List Int)(n:Int):Prop:=Inc xs∧∀x∈xs,0≤x∧x<n
theorem SetOf.len :∀{xs:List Int} {n a:Int},Inc xs→(∀x∈xs,a≤x∧x<n)→xs=[]∨(xs.length:Int)≤n-a
 |[],_,_,_,_=> .inl rfl
 |x::xs,n,a,h,hr=>by
  right
  have h':=List.pairwise_cons.1 h
  have hx:=hr x (by simp)
  rcases SetOf.len (a:=x+1) (n:=n) h'.2 (fun y hy=>⟨by have:=h'.1 y hy;omega,(hr y (by simp[hy])).2⟩) with e|e
  ·subst e;simp;omega
  ·simp;omega
theorem SetOf.length_le {xs:List Int}{n:Int}(h:SetOf xs n)(hn:0≤n):(xs.length:Int)≤n:=by
 rcases SetOf.len h.1 h.2 with e|e
 ·subst e;simpa using hn
 ·omega
theorem inc_iff (xs:List Int):Inc xs↔∀i (hi:i+1<xs.length),xs[i]<xs[i+1]:=by
 unfold Inc
 constructor
 ·intro h i hi
  exact List.pairwise_iff_getElem.1 h i (i+1) (by omega) hi (by omega)
 ·intro h
  rw[List.pairwise_iff_getElem]
  intro i j hi hj hij
  have key:∀k,∀hk:i+k+1<xs.length,xs[i]<xs[i+k+1]:=by
   intro k
   induction k with
   |zero=>intro hk;exact h i hk
   |succ k ih=>intro hk;have:=ih (by omega);have:=h (i+k+1) hk;exact Int.lt_trans (ih (by omega)) this
  obtain⟨k,rfl⟩:∃k,j=i+k+1:=⟨j-i-1,by omega⟩
  exact key k hj
def Cf (xs:List Int)(n:Int):Bool:=(List.range xs.length).all fun i=>(decide (0≤xs.getD i 0)&&decide (xs.getD i 0≤n-1))&& !(decide (0<i)&&decide (xs.getD i 0≤xs.getD (i-1) 0))
theorem Cs (xs:List Int)(n:Int):Cf xs n=true↔SetOf xs n:=by
 unfold Cf SetOf
 rw[CR,inc_iff]
 constructor
 ·intro h
  refine⟨fun i hi=> ?_,fun x hx=> ?_⟩
  ·have:=h (i+1) hi
   simp[hi,show i<xs.length by omega] at this
   omega
  ·obtain⟨i,hi,rfl⟩:=List.getElem_of_mem hx
   have:=h i hi
   simp[hi] at this
   omega
 ·rintro⟨h1,h2⟩ i hi
  have h3:=h2 _ (List.getElem_mem hi)
  simp[hi]
  refine⟨by omega,?_⟩
  rcases Nat.eq_zero_or_pos i with h0|h0
  ·exact .inl h0
  ·right
   have:=h1 (i-1) (by omega)
   have e:i-1+1=i:=by omega
   simp only[e] at this
   have e2:xs[i-1]?.getD 0=xs[i-1]:=by rw[List.getElem?_eq_getElem (by omega)];rfl
   rw[e2];exact this
theorem Dd (xs:List Int)(n:Int)(h:Sh xs)(h0:0≤n)(hn:n≤4294967296):D.w xs n=some (Cf xs n):=by
 unfold Sh at h
 unfold D.w
 refine CA xs.length _ false (fun i hi=> ?_) ?_ rfl rfl
 ·simp only[dlt hi,cond_true,Ay hi,Option.bind_some,wi' hi (by omega),Av hi,inRange_eq]
  rw[w64 (x:=n-1) (by omega) (by omega)]
  cases (decide (0≤xs[i])&&decide (xs[i]≤n-1))
  ·simp
  ·by_cases h0:0<i
   ·have e1:IntKind.i64.wrap ((i:Int)-1)=((i-1:Nat):Int):=by rw[w64 (by omega) (by omega)];omega
    have hd:decide ((0:Int)<(i:Int))=true:=by simp;omega
    simp only[Bool.not_true,cond_false,hd,cond_true,e1,Ay (show i-1<xs.length by omega),Option.bind_some,Av (show i-1<xs.length by omega),h0,decide_true,Bool.true_and]
    cases decide (xs[i]≤xs[i-1])<;>rfl
   ·have hd:decide ((0:Int)<(i:Int))=false:=by simp;omega
    simp only[Bool.not_true,cond_false,hd,Option.bind_some,h0,decide_false,Bool.false_and,Bool.not_false,Bool.and_true,if_true]
 ·simp only[A9,cond_false]
theorem EP (xs:List Int)(n:Int)(h:Sh xs)(h0:0≤n)(hn:n≤4294967296):D.q xs n=some (Cf xs n):=by
 have hh:=h
 unfold Sh at h
 unfold D.q
 by_cases hl:n<xs.length
 ·have:Cf xs n=false:=by
   cases hb:Cf xs n
   ·rfl
   ·have:=((Cs xs n).1 hb).length_le h0;omega
  simp[hl,this]
 ·simp only[hl,decide_false,cond_false]
  refine CA xs.length _ false (fun i hi=> ?_) ?_ rfl rfl
  ·simp only[dlt hi,cond_true,Ay hi,Option.bind_some,wi' hi (by omega),Av hi,EC]
   rw[w64 (x:=n-1) (by omega) (by omega)]
   cases (decide (0≤xs[i])&&decide (xs[i]≤n-1))
   ·simp
   ·by_cases h0:0<i
    ·have e1:IntKind.i64.wrap ((i:Int)-1)=((i-1:Nat):Int):=by rw[w64 (by omega) (by omega)];omega
     have hd:decide ((0:Int)<(i:Int))=true:=by simp;omega
     simp only[Bool.not_true,cond_false,hd,cond_true,e1,Ay (show i-1<xs.length by omega),Option.bind_some,Av (show i-1<xs.length by omega),h0,decide_true,Bool.true_and]
     cases decide (xs[i]≤xs[i-1])<;>rfl
    ·have hd:decide ((0:Int)<(i:Int))=false:=by simp;omega
     simp only[Bool.not_true,cond_false,hd,Option.bind_some,h0,decide_false,Bool.false_and,Bool.not_false,Bool.and_true,if_true]
  ·simp only[A9,cond_false]
def row (g:List (List Int))(v:Nat):List Int:=g.getD v []
theorem DL {g:List (List Int)}{v:Nat}(h:v<g.length):row g v=g[v]:=Av h _
def adj (g:List (List Int))(u v:Nat):Prop:=(v:Int)∈row g u
structure GOk (g:List (List Int)):Prop where
 n1:1≤g.length
 n16:g.length≤16
 rows:∀v,v<g.length→SetOf (row g v) g.length
 irr:∀v,v<g.length→¬adj g v v
 sym:∀u v,u<g.length→adj g u v→adj g v u
theorem GOk.mem {g:List (List Int)}(h:GOk g){u:Nat}(hu:u<g.length){x:Int}(hx:x∈row g u):∃v:Nat,x=v∧v<g.length∧adj g u v:=by
 have:=(h.rows u hu).2 x hx
 refine⟨x.toNat,by omega,by omega,?_⟩
 unfold adj
 rw[show ((x.toNat:Nat):Int)=x by omega];exact hx
theorem GOk.row_len {g:List (List Int)}(h:GOk g){u:Nat}(hu:u<g.length):(row g u).length≤16:=by
 have:=(h.rows u hu).length_le (by omega)
 have:=h.n16
 omega
theorem GOk.lt {g:List (List Int)}(h:GOk g){u v:Nat}(hu:u<g.length)(ha:adj g u v):v<g.length:=by
 obtain⟨w,h1,h2,_⟩:=h.mem hu ha
 omega
def Sh2 (g:List (List Int)):Prop:=Sh g∧∀r∈g,Sh r
theorem Sh2.row {g:List (List Int)}(h:Sh2 g){v:Nat}(hv:v<g.length):Sh (row g v):=by
 rw[DL hv];exact h.2 _ (List.getElem_mem hv)
theorem Cd {g:List (List Int)}{v:Nat}(h:v<g.length):idx g (v:Int)=some (row g v):=by rw[DL h,Ay h]
def gB1 (g:List (List Int)):Bool:=(List.range g.length).all fun v=>Cf (row g v) g.length&& !decide ((v:Int)∈row g v)
def gB2 (g:List (List Int)):Bool:=(List.range g.length).all fun v=>(row g v).all fun x=>decide ((v:Int)∈row g x.toNat)
def gB (g:List (List Int)):Bool:=decide (1≤g.length)&&decide (g.length≤16)&&gB1 g&&gB2 g
theorem gB_iff (g:List (List Int)):gB g=true↔GOk g:=by
 unfold gB gB1 gB2
 simp only[Bool.and_eq_true,decide_eq_true_eq,Cs,Bool.not_eq_true',decide_eq_false_iff_not,List.all_eq_true,List.mem_range]
 constructor
 ·rintro⟨⟨⟨h1,h2⟩,h3⟩,h4⟩
  refine⟨h1,h2,fun v hv=>(h3 v hv).1,fun v hv=>(h3 v hv).2,fun u v hu ha=> ?_⟩
  have:=h4 u hu v ha
  unfold adj
  simpa using this
 ·intro h
  refine⟨⟨⟨h.n1,h.n16⟩,fun v hv=>⟨h.rows v hv,h.irr v hv⟩⟩,fun v hv x hx=> ?_⟩
  obtain⟨u,rfl,hu,ha⟩:=h.mem hv hx
  have:=h.sym v u hv ha
  simpa [adj] using this
theorem Et (g:List (List Int))(h:Sh2 g):D.W g=some (gB g):=by
 have hl:g.length≤4294967296:=h.1
 unfold D.W D.d
 simp only[Option.bind_some,EC]
 by_cases hn:1≤g.length∧g.length≤16
 ·have e:(decide ((1:Int)≤(g.length:Int))&&decide ((g.length:Int)≤16))=true:=by simp;omega
  simp only[e,Bool.not_true,cond_false]
  refine(DD g.length (fun v=>Cf (row g v) g.length&& !decide ((v:Int)∈row g v)) (.inl ()) (.inr false) (fun v hv=> ?_) ?_).trans ?_
  rotate_left
  ·simp only[A9,cond_false]
  ·show cond (gB1 g) _ _=_
   have e4:gB g=(gB1 g&&gB2 g):=by unfold gB;simp[hn.1,hn.2]
   rw[e4]
   cases hc:gB1 g with
   |false=>rfl
   |true=>
    rw[cond_true,Bool.true_and]
    refine CA g.length _ false (fun v hv=> ?_) ?_ rfl rfl
    ·have hset:SetOf (row g v) g.length:=by
      have:=(CR _ _).1 hc v hv
      simp only[Bool.and_eq_true] at this
      exact(Cs _ _).1 this.1
     simp only[dlt hv,cond_true]
     refine(DD (row g v).length (fun i=>decide ((v:Int)∈row g ((row g v).getD i 0).toNat)) (.inl ()) (.inr false) (fun i hi=> ?_) ?_).trans ?_
     ·have hx:=hset.2 _ (List.getElem_mem hi)
      have e5:idx g (row g v)[i]=some (row g ((row g v)[i]).toNat):=by
       have:=Cd (g:=g) (v:=((row g v)[i]).toNat) (by omega)
       rwa [show ((((row g v)[i]).toNat:Nat):Int)=(row g v)[i] by omega] at this
      have hs:=h.row (v:=((row g v)[i]).toNat) (by omega)
      simp only[Cd hv,Option.bind_some,dlt hi,cond_true,Ay hi,e5,Dk _ _ hs,wi (show i<4611686018427387904 by have:=h.row hv;unfold Sh at this;omega),Av hi]
      cases decide ((v:Int)∈row g ((row g v)[i]).toNat)<;>rfl
     ·simp only[Cd hv,Option.bind_some,A9,cond_false]
     ·rw[Cr (row g v) (fun x=>decide ((v:Int)∈row g x.toNat)) _ (fun i hi=>by rw[Av hi]),wi' hv (by omega)]
      cases (row g v).all fun x=>decide ((v:Int)∈row g x.toNat)<;>rfl
    ·simp only[A9,cond_false]
  ·simp only[dlt hv,cond_true,Cd hv,Option.bind_some,EP _ _ (h.row hv) (show (0:Int)≤(g.length:Int) by omega) (by omega),Dk _ _ (h.row hv),wi' hv (by omega)]
   cases Cf (row g v) g.length
   ·rfl
   ·cases decide ((v:Int)∈row g v)<;>rfl
 ·have e:(decide ((1:Int)≤(g.length:Int))&&decide ((g.length:Int)≤16))=false:=by
   rw[Bool.eq_false_iff];simp;omega
  simp only[e,Bool.not_false,cond_true]
  unfold gB
  congr 1
  symm
  rw[Bool.eq_false_iff]
  simp
  omega
theorem Dy (g:List (List Int))(h:Sh2 g):D.F g=some (gB g):=by
 have hl:g.length≤4294967296:=h.1
 unfold D.F
 by_cases hn:1≤g.length∧g.length≤16
 ·have e:(decide ((g.length:Int)<(1:Int))||decide ((16:Int)<(g.length:Int)))=false:=by simp;omega
  simp only[e,cond_false]
  refine(DD g.length (fun v=>Cf (row g v) g.length&& !decide ((v:Int)∈row g v)) (.inl ()) (.inr false) (fun v hv=> ?_) ?_).trans ?_
  rotate_left
  ·simp only[A9,cond_false]
  ·show cond (gB1 g) _ _=_
   have e4:gB g=(gB1 g&&gB2 g):=by unfold gB;simp[hn.1,hn.2]
   rw[e4]
   cases hc:gB1 g with
   |false=>rfl
   |true=>
    rw[cond_true,Bool.true_and]
    refine CA g.length _ false (fun v hv=> ?_) ?_ rfl rfl
    ·have hset:SetOf (row g v) g.length:=by
      have:=(CR _ _).1 hc v hv
      simp only[Bool.and_eq_true] at this
      exact(Cs _ _).1 this.1
     simp only[dlt hv,cond_true,Cd hv,Option.bind_some]
     refine(DD (row g v).length (fun i=>decide ((v:Int)∈row g ((row g v).getD i 0).toNat)) (.inl ()) (.inr false) (fun i hi=> ?_) ?_).trans ?_
     ·have hx:=hset.2 _ (List.getElem_mem hi)
      have e5:idx g (row g v)[i]=some (row g ((row g v)[i]).toNat):=by
       have:=Cd (g:=g) (v:=((row g v)[i]).toNat) (by omega)
       rwa [show ((((row g v)[i]).toNat:Nat):Int)=(row g v)[i] by omega] at this
      have hs:=h.row (v:=((row g v)[i]).toNat) (by omega)
      simp only[Option.bind_some,dlt hi,cond_true,Ay hi,e5,Eu _ _ hs,wi (show i<4611686018427387904 by have:=h.row hv;unfold Sh at this;omega),Av hi]
      cases decide ((v:Int)∈row g ((row g v)[i]).toNat)<;>rfl
     ·simp only[A9,cond_false]
     ·rw[Cr (row g v) (fun x=>decide ((v:Int)∈row g x.toNat)) _ (fun i hi=>by rw[Av hi]),wi' hv (by omega)]
      cases (row g v).all fun x=>decide ((v:Int)∈row g x.toNat)<;>rfl
    ·simp only[A9,cond_false]
  ·simp only[dlt hv,cond_true,Cd hv,Option.bind_some,Dd _ _ (h.row hv) (show (0:Int)≤(g.length:Int) by omega) (by omega),Eu _ _ (h.row hv),wi' hv (by omega)]
   cases Cf (row g v) g.length
   ·rfl
   ·cases decide ((v:Int)∈row g v)<;>rfl
 ·have e:(decide ((g.length:Int)<(1:Int))||decide ((16:Int)<(g.length:Int)))=true:=by
   simp;omega
  simp only[e,cond_true]
  unfold gB
  congr 1
  symm
  rw[Bool.eq_false_iff]
  simp
  omega
end Go.Sx

namespace Go.Sx
structure OOk (g:List (List Int))(o:List Int):Prop where
 len:o.length=g.length
 rng:∀x∈o,0≤x∧x<g.length
 nd:o.Nodup
def oB (g:List (List Int))(o:List Int):Bool:=(List.range o.length).all fun i=>(decide (0≤o.getD i 0)&&decide (o.getD i 0≤(g.length:Int)-1))&& !decide (o.getD i 0∈o.take i)
theorem mem_take_iff {α:Type}{l:List α}{i:Nat}{x:α}:x∈l.take i↔∃j,∃h:j<l.length,j<i∧l[j]=x:=by
 rw[List.mem_take_iff_getElem]
 constructor
 ·rintro⟨j,h,e⟩;exact⟨j,by omega,by omega,e⟩
 ·rintro⟨j,h,h2,e⟩;exact⟨j,by omega,e⟩
theorem nodup_iff {l:List Int}:l.Nodup↔∀i (hi:i<l.length),l[i]∉l.take i:=by
 constructor
 ·intro h i hi hm
  obtain⟨j,hj,hji,e⟩:=mem_take_iff.1 hm
  have:=(List.pairwise_iff_getElem.1 h) j i hj hi hji
  exact this e
 ·intro h
  refine List.pairwise_iff_getElem.2 (fun i j hi hj hij e=>h j hj (mem_take_iff.2 ⟨i,hi,hij,e⟩))
theorem oB_iff (g:List (List Int))(o:List Int)(hl:o.length=g.length):oB g o=true↔OOk g o:=by
 unfold oB
 rw[CR]
 constructor
 ·intro h
  refine⟨hl,fun x hx=> ?_,nodup_iff.2 fun i hi=> ?_⟩
  ·obtain⟨i,hi,rfl⟩:=List.getElem_of_mem hx
   have:=h i hi
   rw[Av hi] at this
   simp at this;omega
  ·have:=h i hi
   rw[Av hi] at this
   simp at this;exact this.2
 ·intro h i hi
  have h1:=h.rng _ (List.getElem_mem hi)
  have h2:=nodup_iff.1 h.nd i hi
  rw[Av hi]
  simp[h2];omega
def ordB (g:List (List Int))(o:List Int):Bool:=decide (o.length=g.length)&&oB g o
theorem ordB_iff (g:List (List Int))(o:List Int):ordB g o=true↔OOk g o:=by
 unfold ordB
 by_cases hl:o.length=g.length
 ·simp[hl,oB_iff g o hl]
 ·simp[hl];intro h;exact hl h.len
theorem Em (g:List (List Int))(o:List Int)(h:Sh2 g)(ho:Sh o):D.f0 g o=some (gB g&&ordB g o):=by
 have hl:g.length≤4294967296:=h.1
 have hol:o.length≤4294967296:=ho
 unfold D.f0
 rw[Et g h,Option.bind_some]
 cases hg:gB g
 ·rfl
 ·have hg':=(gB_iff g).1 hg
  simp only[cond_true]
  unfold D.u1 D.d ordB
  simp only[Option.bind_some]
  by_cases hl:o.length=g.length
  ·have e:((o.length:Int) !=(g.length:Int))=false:=by simp[hl]
   simp only[e,cond_false]
   simp only[Option.bind_fun_some,hl,decide_true,Bool.true_and]
   unfold oB
   rw[←hl]
   refine CA o.length _ false (fun i hi=> ?_) ?_ rfl rfl
   ·have hsh:Sh (o.take i):=by unfold Sh;rw[List.length_take];omega
    simp only[dlt hi,cond_true,Ay hi,Option.bind_some,wi' hi (by omega),Av hi,←hl,D.i1,D.d,EC,sliceD_pre (show i≤o.length by omega),Dk _ _ hsh]
    rw[w64 (x:=(o.length:Int)-1) (by omega) (by omega)]
    cases (decide (0≤o[i])&&decide (o[i]≤(o.length:Int)-1))
    ·rfl
    ·cases decide (o[i]∈o.take i)<;>rfl
   ·simp only[A9,cond_false]
  ·have e:((o.length:Int) !=(g.length:Int))=true:=by simp;omega
   simp[e,hl]
theorem sorted_inc {y:List Int}(hs:Srt y 0 y.length)(hn:y.Nodup):Inc y:=by
 unfold Inc
 rw[List.pairwise_iff_getElem]
 intro i j hi hj hij
 have h1:=hs i j (by omega) (by omega) (by omega)
 have h2:=(List.pairwise_iff_getElem.1 hn) i j hi hj hij
 simp[at',hi,hj] at h1
 have:y[i]≠y[j]:=h2
 omega
theorem FG (g:List (List Int))(o:List Int)(h:Sh2 g)(ho:Sh o):D.X g o=some (gB g&&ordB g o):=by
 unfold D.X
 rw[Dy g h,Option.bind_some]
 cases hg:gB g
 ·rfl
 ·have hg':=(gB_iff g).1 hg
  by_cases hl:o.length=g.length
  ·have e:((o.length:Int) !=(g.length:Int))=false:=by simp[hl]
   have h16:=hg'.n16
   obtain⟨y,h1,h2,h3⟩:=sorted_spec o (by omega)
   have hyl:=h2.length_eq
   simp only[Bool.not_true,e,Bool.or_false,cond_false,h1,Option.bind_some,Bool.true_and]
   rw[Dd y _ (by unfold Sh;omega) (by omega) (by omega),Option.bind_some]
   congr 1
   unfold ordB
   simp only[hl,decide_true,Bool.true_and]
   rw[Bool.eq_iff_iff,Cs,oB_iff g o hl]
   constructor
   ·rintro⟨k1,k2⟩
    refine⟨hl,fun x hx=>k2 x (h2.mem_iff.2 hx),h2.nodup_iff.1 ?_⟩
    exact List.Pairwise.imp (fun h e=>by omega) k1
   ·intro k
    exact⟨sorted_inc h3 (h2.nodup_iff.2 k.nd),fun x hx=>k.rng x (h2.mem_iff.1 hx)⟩
  ·have e:((o.length:Int) !=(g.length:Int))=true:=by simp;omega
   simp[e,ordB,hl]
theorem BG (v:Nat):D.c (v:Int)=some (ishl .u32 1 (v:Int)):=by
 unfold D.c
 have:decide ((v:Int)<0)=false:=by simp
 rw[this];rfl
theorem impl_one_eq' {x:Int}(h:0≤x):D.c x=some (ishl .u32 1 x):=by
 have:=BG x.toNat
 rwa [show ((x.toNat:Nat):Int)=x by omega] at this
def mk (xs:List Int):Int:=xs.foldl (fun s v=>ior .u32 s (ishl .u32 1 v)) 0
theorem maskOf_eq (xs:List Int)(h:Sh xs)(h0:∀x∈xs,0≤x):D.U xs=some (mk xs):=by
 unfold Sh at h
 unfold D.U
 refine(D2 xs (fun s i=>(s,i)) (fun s v=>ior .u32 s (ishl .u32 1 v)) (fun s=>s) (fun _=>True) 0 trivial (fun s i hi _=>⟨?_,trivial⟩) (fun s _=> ?_)).trans rfl
 ·simp only[dlt hi,cond_true,Ay hi,Option.bind_some,wi' hi (by omega),impl_one_eq' (h0 _ (List.getElem_mem hi))]
 ·simp only[A9,cond_false]
theorem Fc :∀(xs:List Int) (s:Int),VS s→VS (xs.foldl (fun s v=>ior .u32 s (ishl .u32 1 v)) s)
 |[],s,h=>h
 |x::xs,s,_=>Fc xs _ (VS.ior _ _)
theorem VS.mk (xs:List Int):VS (mk xs):=Fc xs 0 VS.zero
theorem ET (u:Nat):∀(xs:List Int) (s:Int),VS s→(∀x∈xs,0≤x∧x<32)→has (xs.foldl (fun s v=>ior .u32 s (ishl .u32 1 v)) s) u=(has s u||decide ((u:Int)∈xs))
 |[],s,_,_=>by simp
 |x::xs,s,hs,h=>by
  have hx:=h x (by simp)
  rw[List.foldl_cons,ET u xs _ (VS.ior _ _) (fun y hy=>h y (by simp[hy])),Ca hs (VS.ishl _ _)]
  obtain⟨k,rfl⟩:∃k:Nat,x=k:=⟨x.toNat,by omega⟩
  rw[BA (by omega)]
  by_cases hu:u=k
  ·subst hu;simp
  ·have:¬(u:Int)=(k:Int):=by omega
   simp[hu,this]
theorem Dc {xs:List Int}(h:∀x∈xs,0≤x∧x<32)(u:Nat):has (mk xs) u=decide ((u:Int)∈xs):=by
 unfold mk;rw[ET u xs 0 VS.zero h,B4,Bool.false_or]
theorem GOk.mem0 {g:List (List Int)}(hg:GOk g){r:List Int}(hr:r∈g):r.length≤16∧∀x∈r,0≤x∧x<g.length:=by
 obtain⟨v,hv,rfl⟩:=List.getElem_of_mem hr
 rw[←DL hv]
 exact⟨hg.row_len hv,(hg.rows v hv).2⟩
theorem Eo (g:List (List Int))(hg:GOk g):D.v g=some (g.map mk):=by
 have h16:=hg.n16
 unfold D.v
 refine(Dm g (fun s i=>(s,i)) mk (by omega) (fun s i hi _=> ?_) (fun s=> ?_)).trans rfl
 ·obtain⟨h1,h2⟩:=hg.mem0 (List.getElem_mem hi)
  simp only[dlt hi,cond_true,Ay hi,Option.bind_some,wi' hi (by omega),maskOf_eq g[i] (by unfold Sh;omega) (fun x hx=>(h2 x hx).1)]
 ·simp only[A9,cond_false]
theorem narrow_eq (xs:List Int)(h:Sh xs):D.g0 xs=some xs:=by
 unfold Sh at h
 unfold D.g0
 rw[makeD_zero (by omega) (by omega),Option.bind_some]
 refine(Dm xs (fun s i=>(s,i)) (fun x=>x) h (fun s i hi _=> ?_) (fun s=> ?_)).trans (by simp)
 ·simp only[dlt hi,cond_true,Ay hi,Option.bind_some,wi' hi (by omega)]
 ·simp only[A9,cond_false]
theorem wide_eq (xs:List Int)(h:Sh xs):D.Q xs=some xs:=by
 unfold Sh at h
 unfold D.Q
 rw[makeD_zero (by omega) (by omega),Option.bind_some]
 refine(Dm xs (fun s i=>(s,i)) (fun x=>x) h (fun s i hi _=> ?_) (fun s=> ?_)).trans (by simp)
 ·simp only[dlt hi,cond_true,Ay hi,Option.bind_some,wi' hi (by omega)]
 ·simp only[A9,cond_false]
theorem least_eq {s:Int}(h:VS s)(h0:s≠0):∃k:Nat,k<32∧D.G s=some (k:Int)∧has s k=true∧(∀v,v<k→has s v=false)∧
  (∀v,has (iand .u32 s (IntKind.u32.wrap (s-1))) v=(has s v&& !decide (v=k))):=by
 obtain⟨k,h1,h2,h3,h4,h5⟩:=least_spec h h0
 refine⟨k,h1,?_,h2,h3,h5⟩
 unfold D.G D.l1
 have e:(s==0)=false:=by simpa using h0
 simp only[e,cond_false,h4,tz_table k h1,Option.bind_some]
 rw[w64 (by omega) (by omega)]
theorem Dq (s:Int)(h:VS s):D.i s=some (Ao s):=by
 unfold D.i
 have key:∀(n:Nat) (x:Int) (l:List Int),VS x→(Ao x).length=n→l.length+n≤32→
   Ap (σ:=Int×(List Int)) (ρ:=((List Int))) (fun(s_52:Int×(List Int))=>match s_52 with|(x_55,l_56)=>cond (x_55 !=0) ((D.G x_55).bind fun y_88=>(AV l_56 ([y_88]:List Int)).bind fun l_99=>some (.inl ((iand .u32 x_55 (IntKind.u32.wrap (x_55-1))),l_99))) (some (.inr l_56))) (x,l)=some (l++Ao x):=by
  intro n
  induction n with
  |zero=>
   intro x l hx hn _
   have e:Ao x=[]:=List.eq_nil_of_length_eq_zero hn
   have e0:x=0:=hx.eq_zero.2 fun v hv=>by
    cases hc:has x v
    ·rfl
    ·have:=mem_elems.2 ⟨v,hv,hc,rfl⟩;rw[e] at this;simp at this
   rw[e]
   refine Bp ?_
   have:(x !=0)=false:=by simp[e0]
   simp only[this,cond_false,List.append_nil]
  |succ n ih=>
   intro x l hx hn hl
   have h0:x≠0:=by rintro rfl;rw[DY] at hn;simp at hn
   obtain⟨k,h1,h2,h3,h4,h5⟩:=least_eq hx h0
   have e:=elems_least h1 h3 h4 h5
   have en:(Ao (iand .u32 x (IntKind.u32.wrap (x-1)))).length=n:=by rw[e] at hn;simpa using hn
   have hstep:=ih (iand .u32 x (IntKind.u32.wrap (x-1))) (l++[(k:Int)]) (VS.iand _ _) en (by simp;omega)
   have e1:(x !=0)=true:=by simpa using h0
   rw[BC (s':=(iand .u32 x (IntKind.u32.wrap (x-1)),l++[(k:Int)]))]
   ·rw[hstep,e];simp
   ·simp only[e1,cond_true,h2,Option.bind_some,A4 (xs:=l) (ys:=[(k:Int)]) (by simp;omega)]
 have:=key (Ao s).length s [] h rfl (by simpa using Cc s)
 rw[this];simp
theorem elems_sh (s:Int):Sh (Ao s):=by have:=Cc s;unfold Sh;omega
theorem DW (s:Int)(h:VS s):D.H s=some (Ao s):=by
 unfold D.H
 rw[Dq s h,Option.bind_some,wide_eq _ (elems_sh s)];rfl
theorem results_eq (xs:List Int)(h:Sh xs)(hv:∀s∈xs,VS s):D.J0 xs=some (xs.map Ao):=by
 unfold Sh at h
 unfold D.J0
 refine(Dm xs (fun s i=>(s,i)) Ao h (fun s i hi _=> ?_) (fun s=> ?_)).trans rfl
 ·simp only[dlt hi,cond_true,Ay hi,Option.bind_some,wi' hi (by omega),DW _ (hv _ (List.getElem_mem hi))]
 ·simp only[A9,cond_false]
theorem Ek (xs:List Int)(h:Sh xs):D.g xs=some xs:=by
 unfold Sh at h
 unfold D.g
 rw[A4 (by simpa using h)];rfl
def into (xs:List Int)(n:Int):List Int:=if n∈xs then xs else xs.takeWhile (fun x=>decide (x<n))++n::xs.dropWhile (fun x=>decide (x<n))
theorem mem_into {xs:List Int}{n x:Int}:x∈into xs n↔x=n∨x∈xs:=by
 unfold into
 split
 ·constructor
  ·intro h;exact .inr h
  ·rintro(rfl|h)
   ·assumption
   ·exact h
 ·have e:x∈xs↔x∈xs.takeWhile (fun x=>decide (x<n))++xs.dropWhile (fun x=>decide (x<n)):=by rw[List.takeWhile_append_dropWhile]
  rw[e];simp only[List.mem_append,List.mem_cons]
  constructor
  ·rintro(h|h|h)<;>simp[h]
  ·rintro(h|h|h)<;>simp[h]
theorem ER {xs:List Int}{n:Int}(h:Inc xs):∀y∈xs.dropWhile (fun x=>decide (x<n)),n≤y:=by
 induction xs with
 |nil=>simp
 |cons x xs ih=>
  have h':=List.pairwise_cons.1 h
  intro y hy
  rw[List.dropWhile_cons] at hy
  split at hy
  ·exact ih h'.2 y hy
  ·rename_i hc
   simp at hc
   rcases List.mem_cons.1 hy with rfl|hy
   ·exact hc
   ·have:=h'.1 y hy;omega
theorem inc_takeWhile {xs:List Int}{n:Int}:∀y∈xs.takeWhile (fun x=>decide (x<n)),y<n:=by
 intro y hy
 induction xs with
 |nil=>simp at hy
 |cons x xs ih=>
  rw[List.takeWhile_cons] at hy
  split at hy
  ·rename_i hc
   rcases List.mem_cons.1 hy with rfl|hy
   ·simpa using hc
   ·exact ih hy
  ·simp at hy
theorem Inc.into {xs:List Int}(h:Inc xs)(n:Int):Inc (into xs n):=by
 unfold Sx.into
 split
 ·exact h
 ·rename_i hn
  unfold Inc
  rw[List.pairwise_append]
  refine⟨List.Pairwise.sublist (List.takeWhile_sublist _) h,List.pairwise_cons.2 ⟨fun y hy=> ?_,List.Pairwise.sublist (List.dropWhile_sublist _) h⟩,fun a ha b hb=> ?_⟩
  ·have h1:=ER h y hy
   have h2:y≠n:=fun e=>hn (e▸(List.dropWhile_sublist _).mem hy)
   omega
  ·have h1:=inc_takeWhile a ha
   rcases List.mem_cons.1 hb with rfl|hb
   ·exact h1
   ·have:=ER h b hb;omega
end Go.Sx

namespace Go.Sx
theorem into_len (xs:List Int)(n:Int):(into xs n).length≤xs.length+1:=by
 unfold into
 split
 ·omega
 ·have:(xs.takeWhile (fun x=>decide (x<n))++xs.dropWhile (fun x=>decide (x<n))).length=xs.length:=by rw[List.takeWhile_append_dropWhile]
  simp only[List.length_append,List.length_cons] at this ⊢;omega
theorem C7 {α:Type}(p:α→Bool):∀(xs:List α),xs.takeWhile p=xs.take (xs.takeWhile p).length∧xs.dropWhile p=xs.drop (xs.takeWhile p).length
 |[]=>by simp
 |x::xs=>by
  rw[List.takeWhile_cons,List.dropWhile_cons]
  cases p x
  ·simp
  ·have:=C7 p xs
   simp only[if_true,List.length_cons,List.take_succ_cons,List.drop_succ_cons,←this.1,←this.2,and_self]
theorem De {α:Type}(p:α→Bool):∀(xs:List α) (i:Nat) (h:i<(xs.takeWhile p).length) (h':i<xs.length),p xs[i]=true
 |x::xs,i,h,h'=>by
  rw[List.takeWhile_cons] at h
  cases hp:p x
  ·rw[hp] at h;simp at h
  ·rw[hp] at h
   cases i with
   |zero=>simpa using hp
   |succ i=>simp only[if_true,List.length_cons] at h;simpa using De p xs i (by omega) (by simpa using h')
theorem DA {α:Type}(p:α→Bool):∀(xs:List α) (h:(xs.takeWhile p).length<xs.length),p (xs[(xs.takeWhile p).length])=false
 |x::xs,h=>by
  cases hp:p x
  ·simp[List.takeWhile_cons,hp]
  ·have h2:(xs.takeWhile p).length<xs.length:=by simpa [List.takeWhile_cons,hp] using h
   simpa [List.takeWhile_cons,hp] using DA p xs h2
theorem FC {α:Type}(p:α→Bool)(xs:List α):(xs.takeWhile p).length≤xs.length:=(List.takeWhile_sublist _).length_le
theorem Eh (xs:List Int)(n:Int)(h:Inc xs)(hl:xs.length≤4294967295):D.t xs n=some (into xs n):=by
 unfold D.t
 generalize hk:(xs.takeWhile (fun x=>decide (x<n))).length=k
 have hkl:k≤xs.length:=by rw[←hk];exact FC _ _
 have htk:xs.takeWhile (fun x=>decide (x<n))=xs.take k:=by rw[←hk];exact(C7 _ xs).1
 have hdk:xs.dropWhile (fun x=>decide (x<n))=xs.drop k:=by rw[←hk];exact(C7 _ xs).2
 refine(B9 (fun i=>((i:Nat):Int)) k (k:Int) rfl (fun i hi=> ?_) ?_).trans ?_
 ·have hi':i<xs.length:=by omega
  have hp:decide (xs[i]<n)=true:=De (fun x=>decide (x<n)) xs i (by omega) hi'
  simp only[dlt hi',cond_true,Ay hi',Option.bind_some,hp,wi (show i<4611686018427387904 by omega)]
 ·by_cases hlt:k<xs.length
  ·have hp:decide (xs[k]<n)=false:=by
    have:=DA (fun x=>decide (x<n)) xs (by omega)
    simp only[hk] at this;exact this
   simp only[dlt hlt,cond_true,Ay hlt,Option.bind_some,hp,cond_false]
  ·obtain rfl:k=xs.length:=by omega
   simp only[A9,cond_false,Option.bind_some]
 ·have hS1:Sh (xs.take k):=by unfold Sh;rw[List.length_take];omega
  have hrest:((CC xs 0 (k:Int)).bind fun l_135=>(D.g l_135).bind fun y_139=>(AV y_139 ([n]:List Int)).bind fun l_154=>(CC xs (k:Int) (xs.length:Int)).bind fun l_160=>(AV l_154 l_160).bind fun l_164=>some l_164)=some (xs.take k++n::xs.drop k):=by
   simp only[sliceD_pre hkl,sliceD_post hkl,Option.bind_some,Ek _ hS1]
   rw[A4 (by simp;omega),Option.bind_some,A4 (by simp;omega),Option.bind_some]
   simp
  by_cases hlt:k<xs.length
  ·simp only[dlt hlt,cond_true,Ay hlt,Option.bind_some]
   by_cases he:xs[k]=n
   ·have hm:n∈xs:=by rw[←he];exact List.getElem_mem _
    have:(xs[k]==n)=true:=by simp[he]
    simp only[this,cond_true]
    unfold into;rw[if_pos hm]
   ·have:(xs[k]==n)=false:=by simpa using he
    simp only[this,cond_false,hrest]
    unfold into
    rw[htk,hdk,if_neg]
    intro hm
    obtain⟨j,hj,e⟩:=List.getElem_of_mem hm
    have hst:decide (xs[k]<n)=false:=by
     have:=DA (fun x=>decide (x<n)) xs (by omega)
     simp only[hk] at this;exact this
    simp at hst
    rcases Nat.lt_trichotomy j k with h1|h1|h1
    ·have:=De (fun x=>decide (x<n)) xs j (by omega) hj
     simp at this;omega
    ·subst h1;exact he e
    ·have:=(List.pairwise_iff_getElem.1 h) k j hlt hj h1
     omega
  ·obtain rfl:k=xs.length:=by omega
   simp only[A9,cond_false,Option.bind_some,hrest]
   unfold into
   rw[htk,hdk,if_neg]
   intro hm
   obtain⟨j,hj,e⟩:=List.getElem_of_mem hm
   have:=De (fun x=>decide (x<n)) xs j (by omega) hj
   simp at this;omega
theorem Inc.short {s:List Int}{n:Nat}(h:Inc s)(hr:∀x∈s,0≤x∧x<n):s.length≤n:=by
 rcases SetOf.len h hr with e|e
 ·subst e;simp
 ·omega
end Go.Sx


