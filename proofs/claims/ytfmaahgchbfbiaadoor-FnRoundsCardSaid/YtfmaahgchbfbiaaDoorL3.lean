/- Parts. -/
import Derived.Test.YtfmaahgchbfbiaaDoorL2
import Derived.Test.YtfmaahgchbfbiaaDoorProg
import Derived.KernelRfl
set_option linter.unusedVariables false
set_option linter.unusedSimpArgs false
set_option maxRecDepth 100000
namespace Go.Proofs.YtfmaahgchbfbiaaDoor
open Go Go.Sx
open Go.Proofs.Tryd Go.Proofs.YtfmaahgchbfbiaaDoor.Tryd IntKind
variable {W w : World} {G : GH} {H : List Itm}
theorem T35 :SlT prog 35 5 1 1 (.int .u8 0):=⟨underlying35,Tryd.t5,by kernel_rfl,by kernel_rfl,by kernel_rfl,by kernel_rfl⟩
theorem Pl39 :BO prog 39:=isAgg39
theorem Pl35 :BO prog 35:=isAgg35
theorem T22 :SlT prog 22 43 1 24 sn:=⟨underlying22,Tryd.t43,by kernel_rfl,by kernel_rfl,by kernel_rfl,by kernel_rfl⟩
theorem BU :BO prog 22:=isAgg22
theorem AX :Agg prog 28 1:=⟨isAgg28,sizeOf28⟩
theorem Cf :BO prog 43:=isAgg43
theorem T60 :SlT prog 60 71 1 4 (.int .u32 0):=⟨underlying60,Tryd.t71,by kernel_rfl,by kernel_rfl,by kernel_rfl,by kernel_rfl⟩
theorem T72 :SlT prog 72 3 1 8 (iv 0):=⟨underlying72,Tryd.t3,by kernel_rfl,by kernel_rfl,by kernel_rfl,by kernel_rfl⟩
theorem Wk.X0 {v0:Value}{x0:LI}(m:Mem W G w (H))(h0:RSl (RI .u8) G v0 x0){y:Bool}(hd:D.X0 x0=some y):
  Calls prog 16 #[v0] w (Res W G H (λ_ Ho v=>Ho=[]∧v=(.bool y))):=by
 refine Au (args:=[v0]) (N:=6) [.tmp 2] func16 Z Z (lb Z) Z λa f=> ?_
 unfold D.X0 at hd
 refine Af ?_
 refine Ac f Z λa f=>Ay ?_
 refine Ab f Z λa f=>Bd underlying35 f Z Z h0 λa f=>Ah f Z Z Cc λa f=>Ac f Z λa f=>Aa ?_
 refine Ap ?_
 obtain rfl:=sj hd
 exact⟨[(.bool (decide ((4096:Int)<(x0.length:Int))))],f.g Z,f.d,_,[],gr,m,Z,Z⟩
theorem Wk.f0 {v0:Value}{x0:LI}{x1:Int}(m:Mem W G w (H))(h0:RSl (RI .u8) G v0 x0){y:(LI)×Int×Int}(hd:D.f0 x0 x1=some y):
  Calls prog 17 #[v0,(.int .u64 x1)] w (Res W G H (λG' Ho v=>∃r0:Value,∃c1:Nat,Ho=[ib c1 67 [r0,(iv y.2.1),(.int .u64 y.2.2)]]∧v=(pb c1)∧RSl (RI .u8) G' r0 y.1)):=by
 refine Au (args:=[v0,(.int .u64 x1)]) (N:=38) [.tmp 4] func17 Z Z (lb Z) Z λa f=> ?_
 unfold D.f0 at hd
 refine Af ?_
 refine Ac f Z λa f=>Ay ?_
 refine Ab f Z λa f=>Ab f Z λa f=>Ah f Z Z Dj λa f=>Ab f Z λa f=>Bd underlying35 f Z Z h0 λa f=>l_o f (BP (f.e Z) ⟨_,underlying3⟩ underlying39) λa f=>Ah f Z Z Ax λa f=> ?_
 have aa:∀w,(Instr.build 67 #[(0,v0),(2,(.int .u64 (IntKind.u64.wrap ((IntKind.u64.wrap (x1*7919))+(IntKind.u64.wrap (x0.length:Int))))))]).run prog w= .ok (.agg #[v0,(iv 0),(.int .u64 (IntKind.u64.wrap ((IntKind.u64.wrap (x1*7919))+(IntKind.u64.wrap (x0.length:Int)))))]) w:=by intro w;simp[Instr.build,Instr.fill,h0.cells,Dq,Dc,CD,CN,Cw,Dp]
 refine Ec f Z Z aa λa f=>Bu (cs:=[v0,(iv 0),(.int .u64 (IntKind.u64.wrap ((IntKind.u64.wrap (x1*7919))+(IntKind.u64.wrap (x0.length:Int)))))]) m f Z Z Z λab w a m f=>Ac f Z λa f=>Aa (Ag (Af ?_))
 refine Ac f Z λa f=>Aa ?_
 have⟨ac,ad,hd⟩:=bind_some hd
 refine AJ (λa w=>∃ae:Int,ae=ac∧∃(af:GH),GLe G af∧Fr a 38 [(5,(pb ab))]∧Mem W af w (ib ab 67 [v0,(iv 0),(.int .u64 ae)]::H)) ?_ ?_
 ·refine Al ?_
  refine AE (λag a w=>∃ah:Int,∃ai:Int,(ah,ai)=ag∧∃(aj:GH),GLe G aj∧Fr a 38 [(0,v0),(5,(pb ab)),(6,(iv ah))]∧Mem W aj w (ib ab 67 [v0,(iv 0),(.int .u64 ai)]::H)) ad ⟨_,_,Z,_,gr,f.k Z,m⟩ ?_
  clear ad f m
  rintro ag ak al am a w ⟨ah,ai,rfl,aj,an,f,m⟩
  have h0:=rd1 an h0
  refine Ag (Af ?_)
  refine Ab f Z λa f=>Ab f Z λa f=>Bd underlying35 f Z Z h0 λa f=>Ah f Z Z AQ λa f=>Aa ?_
  rcases Ae al with⟨ao,al⟩|⟨ao,al⟩
  ·refine Am f Z ao ?_
   refine An ?_
   refine Ag (Al ?_)
   refine A7 15 AI (by kernel_rfl) m ?_
   refine Ai 0 15 Z f Z λa f=>Ai 1 15 Z f Z λa f=>q_p 2 15 Z f (λ_=>Be (f.e Z)) λa f=>CK 3 15 underlying67 Z sizeOf39 Z f Z λa f=>Ci 4 15 0 Pl39 Z Z Z f Z λa f=>q_p 5 15 Z f (λ_=>AK (f.e Z) (f.e Z) Dj) λa f=>Ai 6 15 Z f Z λa f=>Ai 7 15 Z f Z λa f=> ?_
   have⟨ap,aq,al⟩:=bind_some al
   refine BM 8 15 T35 h0 aq Z f Z Z λar au a av aw f=> ?_
   subst aw
   refine BL 9 15 Pl5 av Z f Z λa f=>q_p 10 15 Z f (λ_=>BP (f.e Z) ⟨_,underlying5⟩ underlying39) λa f=>q_p 11 15 Z f (λ_=>AK (f.e Z) (f.e Z) Ax) λa f=>q_p 12 15 Z f (λ_=>AK (f.e Z) (f.e Z) Ax) λa f=>q_p 13 15 Z f (λ_=>Be (f.e Z)) λa f=>CK 14 15 underlying67 Z sizeOf39 Z f Z λa f=>AW λax w ay m=>AV 0 2 (ds:=[(.int .u64 (IntKind.u64.wrap ((IntKind.u64.wrap ((IntKind.u64.wrap (ai*1099511628211))+(IntKind.u64.wrap ap)))+3)))]) m sizeOf39 f Z Z Z (A1 Z A8) Z (lb Z) Z λw m=>Aa (Ak ?_)
   refine Ab f Z λa f=>Ah f Z Z Ax λa f=>Ac f Z λa f=>Aa ?_
   obtain rfl:=sj al
   exact⟨_,Z,_,_,Z,_,(gt an ay),f.k Z,m⟩
  ·refine Aj f Z ao ?_
   refine AB Z ?_
   obtain rfl:=sj al
   obtain rfl:=am _ rfl
   exact⟨_,Z,_,an,f.k Z,m⟩
 ·rintro a w ⟨ae,rfl,af,az,f,m⟩
  have h0:=rd1 az h0
  refine Af ?_
  refine Ab f Z λa f=>Ac f Z λa f=>Aa ?_
  refine Ap ?_
  obtain rfl:=sj hd
  exact⟨[(pb ab)],f.g Z,f.d,_,[ib ab 67 [v0,(iv 0),(.int .u64 ae)]],az,m,_,_,Z,Z,h0⟩
theorem Wk.n {aa:Value}{b0:Nat}{ab:LI}{ac ad x1:Int}(m:Mem W G w (ib b0 67 [aa,(iv ac),(.int .u64 ad)]::H))(ae:RSl (RI .u8) G aa ab){y:Int×(LI)×Int×Int}(hd:D.n ab ac ad x1=some y):
  Calls prog 59 #[(pb b0),(iv x1)] w (Res W G H (λG' Ho v=>∃r0:Value,Ho=[ib b0 67 [r0,(iv y.2.2.1),(.int .u64 y.2.2.2)]]∧v=(iv y.1)∧RSl (RI .u8) G' r0 y.2.1)):=by
 refine Au (args:=[(pb b0),(iv x1)]) (N:=56) [.tmp 4] func59 Z Z (lb Z) Z λa f=> ?_
 unfold D.n at hd
 refine Af ?_
 refine Ac f Z λa f=>Ay ?_
 refine Ab f Z λa f=>Ab f Z λa f=>l_o f (Be (f.e Z)) λa f=>Cb underlying67 Z sizeOf39 f Z λa f=>A5 0 2 m Pl39 f Z Z Z Z λa f=>Ah f Z Z Dj λa f=>Ah f Z Z Ax λa f=>l_o f (Be (f.e Z)) λa f=>Cb underlying67 Z sizeOf39 f Z λa f=>AV 0 2 (ds:=[(.int .u64 (IntKind.u64.wrap ((IntKind.u64.wrap (ad*6364136223846793005))+1442695040888963407)))]) m sizeOf39 f Z Z Z (A1 Z A8) Z (lb Z) Z λw m=>Ay ?_
 refine Ab f Z λa f=>l_o f (Be (f.e Z)) λa f=>Cb underlying67 Z sizeOf39 f Z λa f=>A5 0 2 m Pl39 f Z Z Z Z λa f=>l_o f (Dv (f.e Z) (f.e Z) (by decide)) λa f=>Ah f Z Z CB λa f=>l_o f (BP (f.e Z) ⟨_,underlying39⟩ underlying2) λa f=>Ac f Z λa f=>Aa (Ag (Ag ?_))
 refine A7 10 AI (by kernel_rfl) m ?_
 refine Ai 0 10 Z f Z λa f=>q_p 1 10 Z f (λ_=>Be (f.e Z)) λa f=>CK 2 10 underlying67 Z sizeOf3 Z f Z λa f=>Ci 3 10 0 Pl3 Z Z Z f Z λa f=>Ai 4 10 Z f Z λa f=>q_p 5 10 Z f (λ_=>Be (f.e Z)) λa f=>CK 6 10 underlying67 Z sizeOf35 Z f Z λa f=>Ci 7 10 0 Pl35 Z Z Z f Z λa f=>q_len (i:=8) 10 underlying35 ae Z (by kernel_rfl) Z f Z Z Z λa f=>q_p 9 10 Z f (λ_=>AK (f.e Z) (f.e Z) AQ) λa f=>AW λaf w ag m=> ?_
 have ae:=rd1 ag ae
 refine Aa ?_
 rcases Ae hd with⟨ah,hd⟩|⟨ah,hd⟩
 ·refine Am f Z ah ?_
  refine Ag ?_
  refine A7 14 AI (by kernel_rfl) m ?_
  refine Ai 0 14 Z f Z λa f=>Ai 1 14 Z f Z λa f=>q_p 2 14 Z f (λ_=>Be (f.e Z)) λa f=>CK 3 14 underlying67 Z sizeOf35 Z f Z λa f=>Ci 4 14 0 Pl35 Z Z Z f Z λa f=>Ai 5 14 Z f Z λa f=>q_p 6 14 Z f (λ_=>Be (f.e Z)) λa f=>CK 7 14 underlying67 Z sizeOf3 Z f Z λa f=>Ci 8 14 0 Pl3 Z Z Z f Z λa f=> ?_
  have⟨ai,aj,hd⟩:=bind_some hd
  refine BM 9 14 T35 ae aj Z f Z Z λak al a am an f=> ?_
  subst an
  refine BL 10 14 Pl5 am Z f Z λa f=>q_p 11 14 Z f (λ_=>BP (f.e Z) ⟨_,underlying5⟩ underlying2) λa f=>q_p 12 14 Z f (λ_=>AK (f.e Z) (f.e Z) Ax) λa f=>q_p 13 14 Z f (λ_=>A9 (f.e Z)) λa f=>AW λao w ap m=> ?_
  have ae:=rd1 ap ae
  refine Aa (Ak ?_)
  refine Ab f Z λa f=>Ab f Z λa f=>l_o f (Be (f.e Z)) λa f=>Cb underlying67 Z sizeOf3 f Z λa f=>A5 0 1 m Pl3 f Z Z Z Z λa f=>Ah f Z Z Ax λa f=>l_o f (Be (f.e Z)) λa f=>Cb underlying67 Z sizeOf3 f Z λa f=>AV 0 1 (ds:=[(iv (i64.wrap (ac+1)))]) m sizeOf3 f Z Z Z (A1 Z A8) Z (lb Z) Z λw m=>Ay ?_
  refine Ab f Z λa f=>Ab f Z λa f=> ?_
  obtain⟨aq,hd⟩:=BZ hd
  refine Ah f Z Z (b_rem aq) λa f=>Ac f Z λa f=>Aa ?_
  refine Ap ?_
  obtain rfl:=sj hd
  exact⟨[(iv (Int.tmod (i64.wrap ((i64.wrap (iand .u64 (Bp .u64 (IntKind.u64.wrap ((IntKind.u64.wrap (ad*6364136223846793005))+1442695040888963407)) 33) 16777215))+(i64.wrap ai))) x1))],f.g Z,f.d,_,[ib b0 67 [aa,(iv (i64.wrap (ac+1))),(.int .u64 (IntKind.u64.wrap ((IntKind.u64.wrap (ad*6364136223846793005))+1442695040888963407)))]],(gt ag ap),m,_,Z,Z,ae⟩
 ·refine Aj f Z ah ?_
  refine An ?_
  refine Af ?_
  refine Ab f Z λa f=>Ab f Z λa f=> ?_
  obtain⟨ar,hd⟩:=BZ hd
  refine Ah f Z Z (b_rem ar) λa f=>Ac f Z λa f=>Aa ?_
  refine Ap ?_
  obtain rfl:=sj hd
  exact⟨[(iv (Int.tmod (i64.wrap (iand .u64 (Bp .u64 (IntKind.u64.wrap ((IntKind.u64.wrap (ad*6364136223846793005))+1442695040888963407)) 33) 16777215)) x1))],f.g Z,f.d,_,[ib b0 67 [aa,(iv ac),(.int .u64 (IntKind.u64.wrap ((IntKind.u64.wrap (ad*6364136223846793005))+1442695040888963407)))]],ag,m,_,Z,Z,ae⟩
theorem Wk.e {x0 x1 x2:Int}(m:Mem W G w (H)){y:Bool}(hd:D.e x0 x1 x2=some y):
  Calls prog 69 #[(iv x0),(iv x1),(iv x2)] w (Res W G H (λ_ Ho v=>Ho=[]∧v=(.bool y))):=by
 refine Au (args:=[(iv x0),(iv x1),(iv x2)]) (N:=15) [.tmp 6] func69 Z Z (lb Z) Z λa f=> ?_
 unfold D.e at hd
 refine Af ?_
 refine Ac f Z λa f=>Ay ?_
 refine Ab f Z λa f=>Ab f Z λa f=>Ah f Z Z Cj λa f=>Ab f Z λa f=> ?_
 refine Bj 4 (λa w=>∃aa,GLe G aa∧Mem W aa w (H)∧Fr a 15 [(0,(iv x0)),(1,(iv x1)),(2,(iv x2)),(7,(iv x0)),(8,(iv x1)),(9,(.bool (decide (x1≤x0)))),(10,(.bool (decide (x1≤x0)))),(14,(.bool ((decide (x1≤x0))&&(decide (x0≤x2)))))]) ?_ ?_
 ·rcases Bool.eq_false_or_eq_true (decide (x1≤x0)) with ab|ab
  ·refine As f ab ?_
   refine Ab f Z λa f=>As f ab ?_
   refine Ab f Z λa f=>As f ab ?_
   refine Ah f Z Z CC λa f=>l_o f (AD (f.e Z) ab (f.e Z)) λa f=> ?_
   exact⟨_,gr,m,f.weak ⟨Z,Z,Z,Z,Z,Z,Z,by rw[ab];rfl,trivial⟩⟩
  ·refine Aw f ab λa f=> ?_
   refine Aw f ab λa f=>Aw f ab λa f=>l_o f (AC (f.e Z) ab (f.e Z)) λa f=> ?_
   exact⟨_,gr,m,f.weak ⟨Z,Z,Z,Z,Z,Z,Z,by rw[ab];rfl,trivial⟩⟩
 ·rintro a w ⟨aa,ac,m,f⟩
  refine Ac f Z λa f=>Aa ?_
  refine Ap ?_
  obtain rfl:=sj hd
  exact⟨[(.bool ((decide (x1≤x0))&&(decide (x0≤x2))))],f.g Z,f.d,_,[],ac,m,Z,Z⟩
theorem Wk.F {x0:Int}(m:Mem W G w (H)){y:(LL)}(hd:D.F x0=some y):
  Calls prog 125 #[(iv x0)] w (Res W G H (λG' Ho v=>∃r0:Value,∃i0:Itm,Ho=[i0]∧v=(.agg #[r0])∧Ow R1 43 G' i0 r0 y)):=by
 refine Au (args:=[(iv x0)]) (N:=18) [.cell 2 28] func125 Z Z (lb Z) Z λa f=> ?_
 unfold D.F at hd
 refine Af ?_
 refine BX (cs:=[sn]) zeroValue28 m f Z Z λaa w a m f=>Ay ?_
 have ab:∀w,(Instr.build 28 #[]).run prog w= .ok (.agg #[sn]) w:=by intro w;simp[Instr.build,Instr.fill,Dq,Dc,CD,CN,Cw,Dp]
 refine Ec f Z Z ab λa f=>BX (cs:=[sn]) zeroValue28 m f Z Z λac w a m f=>AV 0 0 (ds:=[sn]) m sizeOf28 f Z Z Z (A1 Z A8) Z (lb Z) Z λw m=>Aa (Ag (Af ?_))
 refine Ac f Z λa f=>Aa ?_
 obtain⟨ad,m,ae⟩:=Ow.nil R1 43 m
 have⟨af,ag,hd⟩:=bind_some hd
 refine AJ (λa w=>∃ah:LL,ah=af∧∃(ai:GH) (aj:Value) (ak:Itm),GLe G ai∧Fr a 18 [(2,(pb aa)),(3,(pb ac))]∧Mem W ai w (ib aa 28 [sn]::ib ac 28 [aj]::ak::H)∧Ow R1 43 ai ak aj ah) ?_ ?_
 ·refine Al ?_
  have m:=m.fr 1
  have m:=m.fr 2
  refine AE (λal a w=>∃am:Int,∃an:LL,(am,an)=al∧∃(ao:GH) (ap:Value) (aq:Itm),GLe G ao∧Fr a 18 [(0,(iv x0)),(2,(pb aa)),(3,(pb ac)),(4,(iv am))]∧Mem W ao w (ib aa 28 [sn]::ib ac 28 [ap]::aq::H)∧Ow R1 43 ao aq ap an) ag ⟨_,_,Z,_,sn,ad,gr,f.k Z,m,ae⟩ ?_
  clear ag f m
  rintro al ar au av a w ⟨am,an,rfl,ao,ap,aq,aw,f,m,ax⟩
  refine Ag (Af ?_)
  refine Ab f Z λa f=>Ab f Z λa f=>Ah f Z Z AQ λa f=>Aa ?_
  rcases Ae au with⟨ay,au⟩|⟨ay,au⟩
  ·refine Am f Z ay ?_
   refine An ?_
   refine Ag (Al (Ak ?_))
   refine Cb underlying28 Z sizeOf22 f Z λa f=>A5 1 0 m BU f Z Z Z Z λa f=>Bo (R:=R0) (xs:=([]:LI)) (RI.one _) m T43 f Z Z Z (by decide) (All2.nil _) λaz aA w a m aB f=> ?_
   obtain⟨aC,aD,m,aE⟩:=Ow.stamp (RI.mono _) aB m
   have ax:=Ow.mono (RSl.mono (RI.mono _)) aD ax
   refine Bo (R:=R1) (xs:=([([]:LI)]:LL)) (RSl.one _) m T22 f Z Z Z (by decide) (All2.cons aE (All2.nil _)) λaF aG w a m aH f=> ?_
   have⟨aI,aJ,au⟩:=bind_some au
   refine Bz (RSl.one _) 3 m ax Z T22 Z (by decide) f Z Z Z (Ow.src (j:=0) aH m Z) aJ λaK aL w a m aM f=>Cb underlying28 Z sizeOf22 f Z λa f=>AV 2 0 (ds:=[aL]) m sizeOf22 f Z Z (Ow.cells 3 m aM Z) (A1 (Ow.one1 3 m aM Z) A8) Z (lb Z) Z λw m=>Aa (Ak ?_)
   refine Ab f Z λa f=>Ah f Z Z Ax λa f=>Ac f Z λa f=>Aa ?_
   have m:=m.fr 3
   have m:=m.fr 3
   have m:Mem W aC w (ib aa 28 [sn]::ib ac 28 [aL]::aK::aF::H):=m.fr 3
   have m:=m.eraseAt 3
   obtain rfl:=sj au
   exact⟨_,Z,_,_,Z,_,aL,aK,(gt aw aD),f.k Z,m,aM⟩
  ·refine Aj f Z ay ?_
   refine AB Z ?_
   obtain rfl:=sj au
   obtain rfl:=av _ rfl
   exact⟨_,Z,_,ap,aq,aw,f.k Z,m,ax⟩
 ·rintro a w ⟨ah,rfl,ai,aj,ak,aN,f,m,aO⟩
  refine Af ?_
  refine AG 1 0 (ds:=[aj]) m AX f Z Z Z Z Z λa f=>AV 0 0 (ds:=[aj]) m sizeOf28 f Z Z Z (A1 (Ow.one1 2 m aO Z) A8) Z (lb Z) Z λw m=>Aa ?_
  refine Ap ?_
  have aP:=C6 (P:=prog) 0 m AX f (s:=2) rfl rfl rfl
  have m:=m.fr 2
  have m:=m.eraseAt 2
  have m:=m.eraseAt 1
  obtain rfl:=sj hd
  exact⟨[(.agg #[aj])],⟨aP,trivial⟩,f.d,_,[ak],aN,m,_,_,Z,Z,aO⟩
theorem Wk.s {v0:Value}{x0:LI}{x1:Int}(m:Mem W G w (H))(h0:R1 G v0 x0){y:Bool}(hd:D.s x0 x1=some y):
  Calls prog 113 #[v0,(iv x1)] w (Res W G H (λ_ Ho v=>Ho=[]∧v=(.bool y))):=by
 refine Au (args:=[v0,(iv x1)]) (N:=40) [.tmp 4] func113 Z Z (lb Z) Z λa f=> ?_
 unfold D.s at hd
 refine Af ?_
 refine Ac f Z λa f=>Aa (Ag (Af ?_))
 refine Ab f Z λa f=>Bd underlying43 f Z Z h0 λa f=>Ab f Z λa f=>Ah f Z Z Cc λa f=>Aa ?_
 rcases Ae hd with⟨aa,hd⟩|⟨aa,hd⟩
 ·refine Am f Z aa ?_
  refine Af ?_
  refine Ac f Z λa f=>Aa ?_
  refine Ap ?_
  obtain rfl:=sj hd
  exact⟨[(.bool false)],f.g Z,f.d,_,[],gr,m,Z,Z⟩
 ·refine Aj f Z aa ?_
  refine An ?_
  refine Ag (Af ?_)
  refine Ac f Z λa f=>Aa ?_
  have⟨ab,ac,hd⟩:=bind_some hd
  refine AJ (λa w=>∃q_150':Unit,ab= .inl q_150'∧∃(ad:GH),GLe G ad∧Fr a 40 []∧Mem W ad w (H)) ?_ ?_
  ·refine Al ?_
   refine AE (λae a w=>∃af:Int,af=ae∧∃(ag:GH),GLe G ag∧Fr a 40 [(0,v0),(1,(iv x1)),(5,(iv af))]∧Mem W ag w (H)) ac ⟨_,Z,_,gr,f.k Z,m⟩ ?_
   clear ac f m
   rintro ae ah ai aj a w ⟨af,rfl,ag,ak,f,m⟩
   have h0:=rd1 ak h0
   refine Ag (Af ?_)
   refine Ab f Z λa f=>Ab f Z λa f=>Bd underlying43 f Z Z h0 λa f=>Ah f Z Z AQ λa f=>Aa ?_
   rcases Ae ai with⟨al,ai⟩|⟨al,ai⟩
   ·refine Am f Z al ?_
    refine An ?_
    refine Ag (Al (Ag ?_))
    refine A7 24 AI (by kernel_rfl) m ?_
    refine Ai 0 24 Z f Z λa f=>Ai 1 24 Z f Z λa f=> ?_
    have⟨am,an,ai⟩:=bind_some ai
    refine BM 2 24 T43 h0 an Z f Z Z λao ap a aq ar f=> ?_
    subst ar
    refine BL 3 24 Pl2 aq Z f Z λa f=>Ai 4 24 Z f Z λa f=>q_p 5 24 Z f (λ_=>AK (f.e Z) (f.e Z) AR) λa f=> ?_
    have⟨au,av,ai⟩:=bind_some ai
    refine Bi (i:=6) 24 Z (by kernel_rfl) Z f Z Z Z call69 (λ_ _ w aw m=>Wk.e m av) λa f=>q_p 7 24 Z f (λ_=>Bg (f.e Z)) λa f=>Ai 8 24 Z f Z λa f=> ?_
    have⟨ax,ay,ai⟩:=bind_some ai
    refine B1 (fuel':=0) (listed':= #[true,true,true,true,true,true,true,true,true,true,true,true,true,true,true,true,true,true,true,true,true,true,true,true]) (λa=>Fr a 40 [(0,v0),(1,(iv x1)),(5,(iv af)),(13,(.bool (decide (af<(x0.length:Int))))),(16,v0),(17,(iv af)),(18,ao),(19,(iv am)),(20,(iv x1)),(21,(iv (i64.wrap (x1-1)))),(22,(.bool au)),(23,(.bool (!au))),(24,(.bool (!au))),(39,(.bool ax))]) ?_ ?_
    ·intro a f
     refine AW λaz w aA m=>Aa ?_
     rcases Ae ai with⟨aB,ai⟩|⟨aB,ai⟩
     ·refine Am f Z aB ?_
      refine Af ?_
      refine Ac f Z λa f=>Aa ?_
      refine Ap ?_
      obtain rfl:=sj ai
      obtain rfl:=aj _ rfl
      obtain rfl:=sj hd
      exact⟨[(.bool false)],f.g Z,f.d,_,[],(gt ak aA),m,Z,Z⟩
     ·refine Aj f Z aB ?_
      refine An ?_
      refine Ak ?_
      refine Ab f Z λa f=>Ah f Z Z Ax λa f=>Ac f Z λa f=>Aa ?_
      obtain rfl:=sj ai
      exact⟨_,Z,_,Z,_,(gt ak aA),f.k Z,m⟩
    ·intro aC
     rcases Ae ay with⟨aD,ay⟩|⟨aD,ay⟩
     ·refine Ao 9 24 Z f aD λa f=> ?_
      refine Ao 10 24 Z f aD λa f=>Ao 11 24 Z f aD λa f=>BH 12 24 Z f λa f=>BH 13 24 Z f λa f=>BH 14 24 Z f λa f=>BH 15 24 Z f λa f=>BH 16 24 Z f λa f=>BH 17 24 Z f λa f=>BH 18 24 Z f λa f=>BH 19 24 Z f λa f=>BH 20 24 Z f λa f=>BH 21 24 Z f λa f=>Ao 22 24 Z f aD λa f=>q_p 23 24 Z f (λ_=>AD (f.e Z) aD (f.e Z)) λa f=> ?_
      obtain rfl:=sj ay
      exact aC _ (f.k Z)
     ·refine Ai (hw:=wo f aD) 9 24 Z f Z λa f=> ?_
      refine q_p (hw:=wo f aD) 10 24 Z f (λ_=>AK (f.e Z) (f.e Z) Cc) λa f=>Ai (hw:=wo f aD) 11 24 Z f Z λa f=> ?_
      have⟨aE,aF,ay⟩:=bind_some ay
      refine B1 (fuel':=1) (listed':= #[true,true,true,true,true,true,true,true,true,true,true,true,true,true,true,true,true,true,true,true,true,true,true,false]) (λa=>Fr a 40 [(0,v0),(1,(iv x1)),(5,(iv af)),(13,(.bool (decide (af<(x0.length:Int))))),(16,v0),(17,(iv af)),(18,ao),(19,(iv am)),(20,(iv x1)),(21,(iv (i64.wrap (x1-1)))),(22,(.bool au)),(23,(.bool (!au))),(24,(.bool (!au))),(25,(iv af)),(26,(.bool (decide ((0:Int)<af)))),(27,(.bool (decide ((0:Int)<af)))),(38,(.bool aE))]) ?_ ?_
      ·intro a f
       refine q_p 23 24 Z f (λ_=>AC (f.e Z) aD (f.e Z)) λa f=> ?_
       obtain rfl:=sj ay
       exact aC _ (f.k Z)
      ·intro aG
       rcases Ae aF with⟨aH,aF⟩|⟨aH,aF⟩
       ·refine Ai (hw:=wo f aH) 12 24 Z f Z λa f=> ?_
        refine Ai (hw:=wo f aH) 13 24 Z f Z λa f=> ?_
        have⟨aI,aJ,aF⟩:=bind_some aF
        refine BM (hw:=wo f aH) 14 24 T43 h0 aJ Z f Z Z λaK aL a aM aN f=> ?_
        subst aN
        refine BL (hw:=wo f aH) 15 24 Pl2 aM Z f Z λa f=>Ai (hw:=wo f aH) 16 24 Z f Z λa f=>Ai (hw:=wo f aH) 17 24 Z f Z λa f=>q_p (hw:=wo f aH) 18 24 Z f (λ_=>AK (f.e Z) (f.e Z) AR) λa f=> ?_
        have⟨aO,aP,aF⟩:=bind_some aF
        refine BM (hw:=wo f aH) 19 24 T43 h0 aP Z f Z Z λaQ aR a aS aT f=> ?_
        subst aT
        refine BL (hw:=wo f aH) 20 24 Pl2 aS Z f Z λa f=>q_p (hw:=wo f aH) 21 24 Z f (λ_=>AK (f.e Z) (f.e Z) CC) λa f=>q_p (hw:=wo f aD) 22 24 Z f (λ_=>AD (f.e Z) aH (f.e Z)) λa f=> ?_
        obtain rfl:=sj aF
        exact aG _ (f.k Z)
       ·refine Ao 12 24 Z f aH λa f=> ?_
        refine Ao 13 24 Z f aH λa f=>Ao 14 24 Z f aH λa f=>Ao 15 24 Z f aH λa f=>Ao 16 24 Z f aH λa f=>Ao 17 24 Z f aH λa f=>Ao 18 24 Z f aH λa f=>Ao 19 24 Z f aH λa f=>Ao 20 24 Z f aH λa f=>Ao 21 24 Z f aH λa f=>q_p (hw:=wo f aD) 22 24 Z f (λ_=>AC (f.e Z) aH (f.e Z)) λa f=> ?_
        obtain rfl:=sj aF
        exact aG _ (f.k Z)
   ·refine Aj f Z al ?_
    refine AB Z ?_
    obtain rfl:=sj ai
    obtain rfl:=aj _ rfl
    exact⟨_,Z,_,ak,f.weak trivial,m⟩
  ·rintro a w ⟨_,rfl,ad,aU,f,m⟩
   refine Af ?_
   refine Ac f Z λa f=>Aa ?_
   refine Ap ?_
   obtain rfl:=sj hd
   exact⟨[(.bool true)],f.g Z,f.d,_,[],aU,m,Z,Z⟩
theorem Wk.R {v0:Value}{x0:LI}(m:Mem W G w (H))(h0:R1 G v0 x0){y:(LI)}(hd:D.R x0=some y):
  Calls prog 116 #[v0] w (Res W G H (λG' Ho v=>∃r0:Value,∃i0:Itm,Ho=[i0]∧r0=v∧Ow R0 2 G' i0 r0 y)):=by
 refine Au (args:=[v0]) (N:=6) [.tmp 2] func116 Z Z (lb Z) Z λa f=> ?_
 unfold D.R at hd
 refine Af ?_
 refine Ac f Z λa f=>Ay ?_
 refine Bo (R:=R0) (xs:=([]:LI)) (RI.one _) m T43 f Z Z Z (by decide) (All2.nil _) λaa ab w a m ac f=>Ab f Z λa f=> ?_
 have⟨ad,ae,hd⟩:=bind_some hd
 refine Bz (RI.one _) 0 m ac Z T43 Z (by decide) f Z Z Z (h0.src m) ae λaf ag w a m ah f=>Ac f Z λa f=>Aa ?_
 refine Ap ?_
 obtain rfl:=sj hd
 exact⟨[ag],f.g Z,f.d,_,[af],gr,m,_,_,Z,Z,ah⟩
theorem Wk.O {v0:Value}{x0:LI}{x1:Int}(m:Mem W G w (H))(h0:R1 G v0 x0){y:(LI)}(hd:D.O x0 x1=some y):
  Calls prog 49 #[v0,(iv x1)] w (Res W G H (λG' Ho v=>∃r0:Value,Ho=[]∧r0=v∧R1 G' r0 y)):=by
 refine Au (args:=[v0,(iv x1)]) (N:=46) [.tmp 4] func49 Z Z (lb Z) Z λa f=> ?_
 unfold D.O at hd
 refine Af ?_
 refine Ac f Z λa f=>Ay ?_
 refine Ac f Z λa f=>Aa (Ag ?_)
 have⟨aa,ab,hd⟩:=bind_some hd
 refine AJ (λa w=>∃ac:Int,ac=aa∧∃(ad:GH),GLe G ad∧Fr a 46 [(0,v0),(1,(iv x1)),(5,(iv ac))]∧Mem W ad w (H)) ?_ ?_
 ·refine Al ?_
  refine AE (λae a w=>∃af:Int,af=ae∧∃(ag:GH),GLe G ag∧Fr a 46 [(0,v0),(1,(iv x1)),(5,(iv af))]∧Mem W ag w (H)) ab ⟨_,Z,_,gr,f.k Z,m⟩ ?_
  clear ab f m
  rintro ae ah ai aj a w ⟨af,rfl,ag,ak,f,m⟩
  have h0:=rd1 ak h0
  refine Ag (Af ?_)
  refine Ab f Z λa f=>Ab f Z λa f=>Bd underlying43 f Z Z h0 λa f=>Ah f Z Z AQ λa f=>Ab f Z λa f=> ?_
  have⟨al,am,ai⟩:=bind_some ai
  refine Bj 7 (λa w=>∃an,GLe ag an∧Mem W an w (H)∧Fr a 46 [(0,v0),(1,(iv x1)),(5,(iv af)),(7,(iv af)),(8,v0),(9,(iv (x0.length:Int))),(10,(.bool (decide (af<(x0.length:Int))))),(11,(.bool (decide (af<(x0.length:Int))))),(18,(.bool al))]) ?_ ?_
  ·rcases Ae am with⟨ao,am⟩|⟨ao,am⟩
   ·refine As f ao ?_
    refine Ab f Z λa f=>As f ao ?_
    refine Ab f Z λa f=>As f ao ?_
    have⟨ap,aq,am⟩:=bind_some am
    refine By T43 f Z Z Z h0 aq λar au a av aw f=> ?_
    subst aw
    refine As f ao ?_
    refine AU m Pl2 f Z Z av λa f=>As f ao ?_
    refine Ab f Z λa f=>As f ao ?_
    refine Ah f Z Z AQ λa f=>l_o f (AD (f.e Z) ao (f.e Z)) λa f=> ?_
    obtain rfl:=sj am
    exact⟨_,gr,m,f.k Z⟩
   ·refine Aw f ao λa f=> ?_
    refine Aw f ao λa f=>Aw f ao λa f=>Aw f ao λa f=>Aw f ao λa f=>Aw f ao λa f=>l_o f (AC (f.e Z) ao (f.e Z)) λa f=> ?_
    obtain rfl:=sj am
    exact⟨_,gr,m,f.k Z⟩
  ·rintro a w ⟨an,ax,m,f⟩
   refine Aa ?_
   rcases Ae ai with⟨ay,ai⟩|⟨ay,ai⟩
   ·refine Am f Z ay ?_
    refine An ?_
    refine Al (Ak ?_)
    refine Ab f Z λa f=>Ah f Z Z Ax λa f=>Ac f Z λa f=>Aa ?_
    obtain rfl:=sj ai
    exact⟨_,Z,_,Z,_,(gt ak ax),f.k Z,m⟩
   ·refine Aj f Z ay ?_
    refine AB Z ?_
    obtain rfl:=sj ai
    obtain rfl:=aj _ rfl
    exact⟨_,Z,_,(gt ak ax),f.k Z,m⟩
 ·rintro a w ⟨ac,rfl,ad,az,f,m⟩
  have h0:=rd1 az h0
  refine Ag (Af ?_)
  refine Ab f Z λa f=>Ab f Z λa f=>Bd underlying43 f Z Z h0 λa f=>Ah f Z Z AQ λa f=>Ab f Z λa f=> ?_
  have⟨aA,aB,hd⟩:=bind_some hd
  refine Bj 7 (λa w=>∃aC,GLe ad aC∧Mem W aC w (H)∧Fr a 46 [(0,v0),(1,(iv x1)),(5,(iv ac)),(21,(iv ac)),(22,v0),(23,(iv (x0.length:Int))),(24,(.bool (decide (ac<(x0.length:Int))))),(25,(.bool (decide (ac<(x0.length:Int))))),(32,(.bool aA))]) ?_ ?_
  ·rcases Ae aB with⟨aD,aB⟩|⟨aD,aB⟩
   ·refine As f aD ?_
    refine Ab f Z λa f=>As f aD ?_
    refine Ab f Z λa f=>As f aD ?_
    have⟨aE,aF,aB⟩:=bind_some aB
    refine By T43 f Z Z Z h0 aF λaG aH a aI aJ f=> ?_
    subst aJ
    refine As f aD ?_
    refine AU m Pl2 f Z Z aI λa f=>As f aD ?_
    refine Ab f Z λa f=>As f aD ?_
    refine Ah f Z Z BF λa f=>l_o f (AD (f.e Z) aD (f.e Z)) λa f=> ?_
    obtain rfl:=sj aB
    exact⟨_,gr,m,f.k Z⟩
   ·refine Aw f aD λa f=> ?_
    refine Aw f aD λa f=>Aw f aD λa f=>Aw f aD λa f=>Aw f aD λa f=>Aw f aD λa f=>l_o f (AC (f.e Z) aD (f.e Z)) λa f=> ?_
    obtain rfl:=sj aB
    exact⟨_,gr,m,f.k Z⟩
  ·rintro a w ⟨aC,aK,m,f⟩
   have h0:=rd1 aK h0
   refine Aa ?_
   rcases Ae hd with⟨aL,hd⟩|⟨aL,hd⟩
   ·refine Am f Z aL ?_
    refine Af ?_
    refine Ab f Z λa f=>Ac f Z λa f=>Aa ?_
    refine Ap ?_
    obtain rfl:=sj hd
    exact⟨[v0],f.g Z,f.d,_,[],(gt az aK),m,_,Z,Z,h0⟩
   ·refine Aj f Z aL ?_
    refine An ?_
    refine Af ?_
    refine Ab f Z λa f=>Ab f Z λa f=> ?_
    have⟨aM,aN,hd⟩:=bind_some hd
    refine l_slice T43 f Z Z h0 (.inl ⟨Z,Z⟩) (.inr ⟨_,_,Z,Z⟩) aN λaO a aP f=> ?_
    have⟨aQ,aR,hd⟩:=bind_some hd
    refine AO f Z call116 (Wk.R m aP aR) λaS aT aU w aV m aW a f=> ?_
    obtain⟨aX,aY,rfl,rfl,aZ⟩:=aW
    have h0:=rd1 aV h0
    refine Ab f Z λa f=>Bo (R:=R0) (xs:=([x1]:LI)) (RI.one _) m T43 f Z Z Z (by decide) (All2.cons Z (All2.nil _)) λa0 a1 w a m a2 f=> ?_
    have⟨a3,a4,hd⟩:=bind_some hd
    refine Bz (RI.one _) 1 m aZ Z T43 Z (by decide) f Z Z Z (Ow.src (j:=0) a2 m Z) a4 λa5 a6 w a m a7 f=>Ac f Z λa f=>Ay ?_
    refine Ab f Z λa f=>Ab f Z λa f=>Ab f Z λa f=> ?_
    have⟨a8,a9,hd⟩:=bind_some hd
    refine l_slice T43 f Z Z h0 (.inr ⟨_,_,Z,Z⟩) (.inl ⟨Z,Z⟩) a9 λba a bb f=> ?_
    have⟨bc,bd,hd⟩:=bind_some hd
    refine Bz (RI.one _) 1 m a7 Z T43 Z (by decide) f Z Z Z (bb.src m) bd λbe bf w a m bg f=>Ac f Z λa f=>Aa ?_
    refine Ap ?_
    have m:=m.fr 1
    obtain⟨bh,bi,m,bj⟩:=Ow.stamp (RI.mono _) bg m
    have m:Mem W bh w H:=Mem.drop (H':=[a0]) m
    obtain rfl:=sj hd
    exact⟨[bf],f.g Z,f.d,_,[],(gt az (gt aK (gt aV bi))),m,_,Z,Z,bj⟩
theorem Wk.B {aa:Value}{ab:Itm}{ac:LL}{x1 x2:Int}(m:Mem W G w (ab::H))(ad:Ow R1 43 G ab aa ac){y:(LL)}(hd:D.B ac x1 x2=some y):
  Calls prog 126 #[(.agg #[aa]),(iv x1),(iv x2)] w (Res W G H (λG' Ho v=>∃i0:Itm,Ho=[i0]∧v=(.agg #[aa])∧Ow R1 43 G' i0 aa y)):=by
 refine Au (args:=[(.agg #[aa]),(iv x1),(iv x2)]) (N:=30) [.cell 6 28] func126 Z Z (lb Z) Z λa f=> ?_
 unfold D.B at hd
 refine Af ?_
 refine Bu (cs:=[aa]) m f Z Z Z λae w a m f=>BX (cs:=[sn]) zeroValue28 m f Z Z λaf w a m f=>Aa (Ag ?_)
 refine A7 11 AI (by kernel_rfl) m ?_
 refine CK 0 11 underlying28 Z sizeOf22 Z f Z λa f=>Ci 1 11 1 BU Z Z Z f Z λa f=>Ai 2 11 Z f Z λa f=>CK 3 11 underlying28 Z sizeOf22 Z f Z λa f=>Ci 4 11 1 BU Z Z Z f Z λa f=>Ai 5 11 Z f Z λa f=> ?_
 have⟨ag,ah,hd⟩:=bind_some hd
 refine AL 6 11 2 m ad T22 ah Z f Z Z λai a aj f=>A4 7 11 2 ad Cf aj ah Z f Z λak a al f=>Ai 8 11 Z f Z λa f=>q_on 9 Z λam w an m ao ao=> ?_
 have al:=rd1 an al
 have ad:=Ow.mono (RSl.mono (RI.mono _)) an ad
 have⟨ap,aq,hd⟩:=bind_some hd
 refine AO f Z call49 (Wk.O m al aq) λar au av w aw m ax a f=> ?_
 obtain⟨ay,rfl,rfl,az⟩:=ax
 have ad:=Ow.mono (RSl.mono (RI.mono _)) aw ad
 refine Aa ?_
 refine ao au [] _ _ aw m ?_
 have⟨aA,aB,hd⟩:=bind_some hd
 refine AL 10 11 2 m ad T22 aB Z f Z Z λaC a aD f=>AW λaE w aF m=> ?_
 have az:=rd1 aF az
 have ad:=Ow.mono (RSl.mono (RI.mono _)) aF ad
 refine AF 2 m ad Z sizeOf43 f Z Z aD aB az.cells az.one1 az λaG w m aH=>Aa (Ag ?_)
 refine A7 11 AI (by kernel_rfl) m ?_
 refine CK 0 11 underlying28 Z sizeOf22 Z f Z λa f=>Ci 1 11 1 BU Z Z Z f Z λa f=>Ai 2 11 Z f Z λa f=>CK 3 11 underlying28 Z sizeOf22 Z f Z λa f=>Ci 4 11 1 BU Z Z Z f Z λa f=>Ai 5 11 Z f Z λa f=> ?_
 have⟨aI,aJ,hd⟩:=bind_some hd
 refine AL 6 11 2 m aH T22 aJ Z f Z Z λaK a aL f=>A4 7 11 2 aH Cf aL aJ Z f Z λaM a aN f=>Ai 8 11 Z f Z λa f=>q_on 9 Z λaO w aP m aQ aQ=> ?_
 have aN:=rd1 aP aN
 have aH:=Ow.mono (RSl.mono (RI.mono _)) aP aH
 have⟨aR,aS,hd⟩:=bind_some hd
 refine AO f Z call49 (Wk.O m aN aS) λaT aU aV w aW m aX a f=> ?_
 obtain⟨aY,rfl,rfl,aZ⟩:=aX
 have aH:=Ow.mono (RSl.mono (RI.mono _)) aW aH
 refine Aa ?_
 refine aQ aU [] _ _ aW m ?_
 have⟨a0,a1,hd⟩:=bind_some hd
 refine AL 10 11 2 m aH T22 a1 Z f Z Z λa2 a a3 f=>AW λa4 w a5 m=> ?_
 have aZ:=rd1 a5 aZ
 have aH:=Ow.mono (RSl.mono (RI.mono _)) a5 aH
 refine AF 2 m aH Z sizeOf43 f Z Z a3 a1 aZ.cells aZ.one1 aZ λa6 w m a7=>Ay ?_
 refine AG 1 0 (ds:=[aa]) m AX f Z Z Z Z Z λa f=>AV 0 0 (ds:=[aa]) m sizeOf28 f Z Z Z (A1 (Ow.one1 2 m a7 Z) A8) Z (lb Z) Z λw m=>Aa ?_
 refine Ap ?_
 have a8:=C6 (P:=prog) 0 m AX f (s:=6) rfl rfl rfl
 have m:=m.fr 2
 have m:=m.eraseAt 2
 have m:=m.eraseAt 1
 obtain rfl:=sj hd
 exact⟨[(.agg #[aa])],⟨a8,trivial⟩,f.d,_,[a6],(gt an (gt aw (gt aF (gt aP (gt aW a5))))),m,_,Z,Z,a7⟩
theorem Wk.Y {v1:Value}{x0:Int}{x1:LL}(m:Mem W G w (H))(h1:R2 G v1 x1){y:(LL)×Bool}(hd:D.Y x0 x1=some y):
  Calls prog 60 #[(iv x0),v1] w (Res W G H (λG' Ho v=>∃r0:Value,∃i0:Itm,Ho=[i0]∧v= .tuple #[(.agg #[r0]),(.bool y.2)]∧Ow R1 43 G' i0 r0 y.1)):=by
 refine Au (args:=[(iv x0),v1]) (N:=56) [.cell 4 28,.tmp 5] func60 Z Z (lb Z) Z λa f=> ?_
 unfold D.Y at hd
 refine Af ?_
 refine BX (cs:=[sn]) zeroValue28 m f Z Z λaa w a m f=>Ac f Z λa f=>Aa (Ag (Af ?_))
 refine Ab f Z λa f=> ?_
 have⟨ab,ac,hd⟩:=bind_some hd
 refine A3 f Z call69 (Wk.e m ac) λad w ae m a f=> ?_
 have h1:=rd2 ae h1
 refine l_o f (Bg (f.e Z)) λa f=>Ab f Z λa f=> ?_
 refine Bj 4 (λa w=>∃af,GLe ad af∧Mem W af w (ib aa 28 [sn]::H)∧Fr a 56 [(0,(iv x0)),(1,v1),(4,(pb aa)),(8,(iv x0)),(9,(.bool ab)),(10,(.bool (!ab))),(11,(.bool (!ab))),(15,(.bool ((!ab)||(decide ((120:Int)<(x1.length:Int))))))]) ?_ ?_
 ·rcases Bool.eq_false_or_eq_true (!ab) with ag|ag
  ·refine Aw f ag λa f=> ?_
   refine Aw f ag λa f=>Aw f ag λa f=>l_o f (AD (f.e Z) ag (f.e Z)) λa f=> ?_
   exact⟨_,gr,m,f.weak ⟨Z,Z,Z,Z,Z,Z,Z,by rw[ag];rfl,trivial⟩⟩
  ·refine As f ag ?_
   refine Ab f Z λa f=>As f ag ?_
   refine Bd underlying22 f Z Z h1 λa f=>As f ag ?_
   refine Ah f Z Z Cc λa f=>l_o f (AC (f.e Z) ag (f.e Z)) λa f=> ?_
   exact⟨_,gr,m,f.weak ⟨Z,Z,Z,Z,Z,Z,Z,by rw[ag];rfl,trivial⟩⟩
 ·rintro a w ⟨af,ah,m,f⟩
  have h1:=rd2 ah h1
  refine Aa ?_
  rcases Ae hd with⟨ai,hd⟩|⟨ai,hd⟩
  ·refine Am f Z ai ?_
   refine Af ?_
   have aj:∀w,(Instr.build 28 #[]).run prog w= .ok (.agg #[sn]) w:=by intro w;simp[Instr.build,Instr.fill,Dq,Dc,CD,CN,Cw,Dp]
   refine Ec f Z Z aj λa f=>AV 0 0 (ds:=[sn]) m sizeOf28 f Z Z Z (A1 Z A8) Z (lb Z) Z λw m=>Ac f Z λa f=>Aa ?_
   refine Ap ?_
   obtain⟨ak,m,al⟩:=Ow.nil R1 43 m
   have am:=C6 (P:=prog) 1 m AX f (s:=4) rfl rfl rfl
   have m:=m.eraseAt 1
   obtain rfl:=sj hd
   exact⟨[(.agg #[sn]),(.bool false)],⟨am,f.get _ _ Z,trivial⟩,f.d,_,[ak],(gt ae ah),m,_,_,Z,Z,al⟩
  ·refine Aj f Z ai ?_
   refine An ?_
   refine Af ?_
   refine Ab f Z λa f=> ?_
   have⟨an,ao,hd⟩:=bind_some hd
   refine AO f Z call125 (Wk.F m ao) λap aq ar w au m av a f=> ?_
   obtain⟨aw,ax,rfl,rfl,ay⟩:=av
   have h1:=rd2 au h1
   refine BX (cs:=[sn]) zeroValue28 m f Z Z λaz w a m f=>AV 0 0 (ds:=[aw]) m sizeOf28 f Z Z Z (A1 (Ow.one1 1 m ay Z) A8) Z (lb Z) Z λw m=>Aa (Ag (Af ?_))
   refine Ac f Z λa f=>Aa ?_
   have⟨aA,aB,hd⟩:=bind_some hd
   refine AJ (λa w=>∃q_213':LL,aA= .inl q_213'∧∃aC:LL,aC=q_213'∧∃(aD:GH) (aE:Itm),GLe aq aD∧Fr a 56 [(4,(pb aa)),(6,(pb az))]∧Mem W aD w (ib aa 28 [sn]::ib az 28 [aw]::aE::H)∧Ow R1 43 aD aE aw aC) ?_ ?_
   ·refine Al ?_
    have m:=m.fr 2
    refine AE (λaF a w=>∃aG:Int,∃aH:LL,(aG,aH)=aF∧∃(aI:GH) (aJ:Itm),GLe aq aI∧Fr a 56 [(0,(iv x0)),(1,v1),(4,(pb aa)),(6,(pb az)),(7,(iv aG))]∧Mem W aI w (ib aa 28 [sn]::ib az 28 [aw]::aJ::H)∧Ow R1 43 aI aJ aw aH) aB ⟨_,_,Z,_,ax,gr,f.k Z,m,ay⟩ ?_
    clear aB f m
    rintro aF aK aL aM a w ⟨aG,aH,rfl,aI,aJ,aN,f,m,aO⟩
    have h1:=rd2 aN h1
    refine Ag (Af ?_)
    refine Ab f Z λa f=>Ab f Z λa f=>Bd underlying22 f Z Z h1 λa f=>Ah f Z Z AQ λa f=>Aa ?_
    rcases Ae aL with⟨aP,aL⟩|⟨aP,aL⟩
    ·refine Am f Z aP ?_
     refine An ?_
     refine Ag (Al (Ag (Af ?_)))
     refine Ab f Z λa f=>Ab f Z λa f=> ?_
     have⟨aQ,aR,aL⟩:=bind_some aL
     refine By T22 f Z Z Z h1 aR λaS aT a aU aV f=>AU m Cf f Z Z aU λa f=>Bd underlying43 f Z Z aV λa f=>Ah f Z Z Dz λa f=>Ab f Z λa f=> ?_
     have⟨aW,aX,aL⟩:=bind_some aL
     refine Bj 8 (λa w=>∃aY,GLe aI aY∧Mem W aY w (ib aa 28 [sn]::ib az 28 [aw]::aJ::H)∧Fr a 56 [(0,(iv x0)),(1,v1),(4,(pb aa)),(6,(pb az)),(7,(iv aG)),(22,(.bool (decide (aG<(x1.length:Int))))),(25,v1),(26,(iv aG)),(27,aS),(28,aT),(29,(iv (aQ.length:Int))),(30,(.bool ((aQ.length:Int) !=2))),(31,(.bool ((aQ.length:Int) !=2))),(39,(.bool aW))]) ?_ ?_
     ·rcases Ae aX with⟨aZ,aX⟩|⟨aZ,aX⟩
      ·refine Aw f aZ λa f=> ?_
       refine Aw f aZ λa f=>Aw f aZ λa f=>Aw f aZ λa f=>Aw f aZ λa f=>Aw f aZ λa f=>Aw f aZ λa f=>l_o f (AD (f.e Z) aZ (f.e Z)) λa f=> ?_
       obtain rfl:=sj aX
       exact⟨_,gr,m,f.k Z⟩
      ·refine As f aZ ?_
       refine Ab f Z λa f=>As f aZ ?_
       refine Ab f Z λa f=>As f aZ ?_
       have⟨a0,a1,aX⟩:=bind_some aX
       refine By T22 f Z Z Z h1 a1 λa2 a3 a a4 a5 f=>As f aZ ?_
       refine AU m Cf f Z Z a4 λa f=>As f aZ ?_
       refine Ab f Z λa f=>As f aZ ?_
       have⟨a6,a7,aX⟩:=bind_some aX
       refine A3 f Z call113 (Wk.s m a5 a7) λa8 w a9 m a f=>As f aZ ?_
       refine l_o f (Bg (f.e Z)) λa f=>l_o f (AC (f.e Z) aZ (f.e Z)) λa f=> ?_
       obtain rfl:=sj aX
       exact⟨_,a9,m,f.k Z⟩
     ·rintro a w ⟨aY,ba,m,f⟩
      have h1:=rd2 ba h1
      have aO:=Ow.mono (RSl.mono (RI.mono _)) ba aO
      refine Aa ?_
      rcases Ae aL with⟨bb,aL⟩|⟨bb,aL⟩
      ·refine Am f Z bb ?_
       refine Af ?_
       have bc:∀w,(Instr.build 28 #[]).run prog w= .ok (.agg #[sn]) w:=by intro w;simp[Instr.build,Instr.fill,Dq,Dc,CD,CN,Cw,Dp]
       refine Ec f Z Z bc λa f=>AV 0 0 (ds:=[sn]) m sizeOf28 f Z Z Z (A1 Z A8) Z (lb Z) Z λw m=>Ac f Z λa f=>Aa ?_
       refine Ap ?_
       obtain⟨bd,m,be⟩:=Ow.nil R1 43 m
       have bf:=C6 (P:=prog) 1 m AX f (s:=4) rfl rfl rfl
       have m:=m.fr 3
       have m:=m.fr 1
       have m:Mem W aY w (bd::aJ::ib aa 28 [sn]::H):=m.eraseAt 3
       have m:=m.eraseAt 2
       have m:=m.eraseAt 1
       obtain rfl:=sj aL
       obtain rfl:=aM _ rfl
       obtain rfl:=sj hd
       exact⟨[(.agg #[sn]),(.bool false)],⟨bf,f.get _ _ Z,trivial⟩,f.d,_,[bd],(gt ae (gt ah (gt au (gt aN ba)))),m,_,_,Z,Z,be⟩
      ·refine Aj f Z bb ?_
       refine An ?_
       refine A7 13 AI (by kernel_rfl) m ?_
       refine BW (i:=0) (ds:=[aw]) 13 1 AX Z Z Z Z (by kernel_rfl) Z f Z Z Z λa f=>Ai 1 13 Z f Z λa f=>Ai 2 13 Z f Z λa f=> ?_
       have⟨bg,bh,aL⟩:=bind_some aL
       refine BM 3 13 T22 h1 bh Z f Z Z λbi bj a bk bl f=>BL 4 13 Cf bk Z f Z λa f=> ?_
       have⟨bm,bn,aL⟩:=bind_some aL
       refine BM 5 13 T43 bl bn Z f Z Z λbo bp a bq br f=> ?_
       subst br
       refine BL 6 13 Pl2 bq Z f Z λa f=>Ai 7 13 Z f Z λa f=>Ai 8 13 Z f Z λa f=> ?_
       have⟨bs,bt,aL⟩:=bind_some aL
       refine BM 9 13 T22 h1 bt Z f Z Z λbu bv a bw bx f=>BL 10 13 Cf bw Z f Z λa f=> ?_
       have⟨bz,bA,aL⟩:=bind_some aL
       refine BM 11 13 T43 bx bA Z f Z Z λbB bC a bD bE f=> ?_
       subst bE
       refine BL 12 13 Pl2 bD Z f Z λa f=>AW λbF w bG m=> ?_
       have aO:=Ow.mono (RSl.mono (RI.mono _)) bG aO
       have m:Mem W bF w (aJ::ib aa 28 [sn]::ib az 28 [aw]::H):=m.fr 2
       have⟨bH,bI,aL⟩:=bind_some aL
       refine AO f Z call126 (Wk.B m aO bI) λbJ bK bL w bM m bN a f=> ?_
       obtain⟨bO,rfl,rfl,bP⟩:=bN
       refine AV 2 0 (ds:=[aw]) m sizeOf28 f Z Z Z (A1 (Ow.one1 0 m bP Z) A8) Z (lb Z) Z λw m=>Aa (Ak ?_)
       refine Ab f Z λa f=>Ah f Z Z Ax λa f=>Ac f Z λa f=>Aa ?_
       have m:=m.fr 2
       have m:Mem W bK w (ib aa 28 [sn]::ib az 28 [aw]::bO::H):=m.fr 2
       obtain rfl:=sj aL
       exact⟨_,Z,_,_,Z,_,bO,(gt aN (gt ba (gt bG bM))),f.k Z,m,bP⟩
    ·refine Aj f Z aP ?_
     refine AB Z ?_
     obtain rfl:=sj aL
     obtain rfl:=aM _ rfl
     exact⟨_,Z,_,Z,_,aJ,aN,f.k Z,m,aO⟩
   ·rintro a w ⟨_,rfl,aC,rfl,aD,aE,bQ,f,m,bR⟩
    refine Af ?_
    refine AG 1 0 (ds:=[aw]) m AX f Z Z Z Z Z λa f=>AV 0 0 (ds:=[aw]) m sizeOf28 f Z Z Z (A1 (Ow.one1 2 m bR Z) A8) Z (lb Z) Z λw m=>Ac f Z λa f=>Aa ?_
    refine Ap ?_
    have bS:=C6 (P:=prog) 0 m AX f (s:=4) rfl rfl rfl
    have m:=m.fr 2
    have m:=m.eraseAt 2
    have m:=m.eraseAt 1
    obtain rfl:=sj hd
    exact⟨[(.agg #[aw]),(.bool true)],⟨bS,f.get _ _ Z,trivial⟩,f.d,_,[aE],(gt ae (gt ah (gt au bQ))),m,_,_,Z,Z,bR⟩
theorem Wk.B0 {aa:Value}{b0:Nat}{ab:LI}{ac ad x1:Int}(m:Mem W G w (ib b0 67 [aa,(iv ac),(.int .u64 ad)]::H))(ae:RSl (RI .u8) G aa ab){y:(LL)×(LI)×Int×Int}(hd:D.B0 ab ac ad x1=some y):
  Calls prog 33 #[(pb b0),(iv x1)] w (Res W G H (λG' Ho v=>∃r0:Value,∃i0:Itm,∃r2:Value,Ho=[i0,ib b0 67 [r2,(iv y.2.2.1),(.int .u64 y.2.2.2)]]∧v=(.agg #[r0])∧Ow R1 43 G' i0 r0 y.1∧RSl (RI .u8) G' r2 y.2.1)):=by
 refine Au (args:=[(pb b0),(iv x1)]) (N:=47) [.cell 4 28] func33 Z Z (lb Z) Z λa f=> ?_
 unfold D.B0 at hd
 refine Af ?_
 refine BX (cs:=[sn]) zeroValue28 m f Z Z λaf w a m f=>Ay ?_
 refine Ab f Z λa f=>Ab f Z λa f=> ?_
 have m:Mem W G w (ib b0 67 [aa,(iv ac),(.int .u64 ad)]::ib af 28 [sn]::H):=m.fr 1
 have⟨ag,ah,hd⟩:=bind_some hd
 refine AO f Z call59 (Wk.n m ae ah) λai aj ak w al m am a f=> ?_
 obtain⟨an,rfl,rfl,ao⟩:=am
 refine Ah f Z Z Ax λa f=>Ac f Z λa f=>Ay ?_
 refine Ab f Z λa f=> ?_
 have⟨ap,aq,hd⟩:=bind_some hd
 refine AO f Z call59 (Wk.n m ao aq) λar au av w aw m ax a f=> ?_
 obtain⟨ay,rfl,rfl,az⟩:=ax
 refine Ah f Z Z Ax λa f=>Ac f Z λa f=>Ay ?_
 refine Bo (R:=R1) (xs:=([]:LL)) (RSl.one _) m T22 f Z Z Z (by decide) (All2.nil _) λaA aB w a m aC f=>Ac f Z λa f=>Aa (Ag (Af ?_))
 refine Ac f Z λa f=>Aa ?_
 have⟨aD,aE,hd⟩:=bind_some hd
 refine AJ (λa w=>∃aF:LL,∃aG:LI,∃aH:Int,∃aI:Int,(aF,aG,aH,aI)=aD∧∃(aJ:GH) (aK:Value) (aL:Itm) (aM:Value),GLe au aJ∧Fr a 47 [(4,(pb af)),(5,(iv (i64.wrap (1+ag.1)))),(7,aK)]∧Mem W aJ w (ib af 28 [sn]::ib b0 67 [aM,(iv aH),(.int .u64 aI)]::aL::H)∧Ow R1 43 aJ aL aK aF∧RSl (RI .u8) aJ aM aG) ?_ ?_
 ·refine Al ?_
  have m:=m.fr 2
  have m:Mem W au w (ib b0 67 [ay,(iv ap.2.2.1),(.int .u64 ap.2.2.2)]::ib af 28 [sn]::aA::H):=m.fr 2
  refine AE (λaN a w=>∃aO:LL,∃aP:Int,∃aQ:LI,∃aR:Int,∃aS:Int,(aO,aP,aQ,aR,aS)=aN∧∃(aT:GH) (aU:Value) (aV:Itm) (aW:Value),GLe au aT∧Fr a 47 [(0,(pb b0)),(4,(pb af)),(5,(iv (i64.wrap (1+ag.1)))),(6,(iv (i64.wrap (1+ap.1)))),(7,aU),(8,(iv aP))]∧Mem W aT w (ib b0 67 [aW,(iv aR),(.int .u64 aS)]::ib af 28 [sn]::aV::H)∧Ow R1 43 aT aV aU aO∧RSl (RI .u8) aT aW aQ) aE ⟨_,_,_,_,_,Z,_,aB,aA,ay,gr,f.k Z,m,aC,az⟩ ?_
  clear aE f m
  rintro aN aX aY aZ a w ⟨aO,aP,aQ,aR,aS,rfl,aT,aU,aV,aW,a0,f,m,a1,a2⟩
  refine Ag (Af ?_)
  refine Ab f Z λa f=>Ab f Z λa f=>Ah f Z Z AQ λa f=>Aa ?_
  rcases Ae aY with⟨a3,aY⟩|⟨a3,aY⟩
  ·refine Am f Z a3 ?_
   refine An ?_
   refine Ag (Al (Af ?_))
   refine Ac f Z λa f=>Aa ?_
   have⟨a4,a5,aY⟩:=bind_some aY
   refine AJ (λa w=>∃a6:LL,∃a7:LI,∃a8:Int,∃a9:Int,(a6,a7,a8,a9)=a4∧∃(ba:GH) (bb:Value) (bc:Itm) (bd:Value),GLe aT ba∧Fr a 47 [(0,(pb b0)),(4,(pb af)),(5,(iv (i64.wrap (1+ag.1)))),(6,(iv (i64.wrap (1+ap.1)))),(7,bb),(8,(iv aP))]∧Mem W ba w (ib b0 67 [bd,(iv a8),(.int .u64 a9)]::ib af 28 [sn]::bc::H)∧Ow R1 43 ba bc bb a6∧RSl (RI .u8) ba bd a7) ?_ ?_
   ·refine Al ?_
    refine AE (λbe a w=>∃bf:LL,∃bg:Int,∃bh:LI,∃bi:Int,∃bj:Int,(bf,bg,bh,bi,bj)=be∧∃(bk:GH) (bl:Value) (bm:Itm) (bn:Value),GLe aT bk∧Fr a 47 [(0,(pb b0)),(4,(pb af)),(5,(iv (i64.wrap (1+ag.1)))),(6,(iv (i64.wrap (1+ap.1)))),(7,bl),(8,(iv aP)),(9,(iv bg))]∧Mem W bk w (ib b0 67 [bn,(iv bi),(.int .u64 bj)]::ib af 28 [sn]::bm::H)∧Ow R1 43 bk bm bl bf∧RSl (RI .u8) bk bn bh) a5 ⟨_,_,_,_,_,Z,_,aU,aV,aW,gr,f.k Z,m,a1,a2⟩ ?_
    clear a5 f m
    rintro be bo bp bq a w ⟨bf,bg,bh,bi,bj,rfl,bk,bl,bm,bn,br,f,m,bs,bt⟩
    refine Ag (Af ?_)
    refine Ab f Z λa f=>Ab f Z λa f=>Ah f Z Z AQ λa f=>Aa ?_
    rcases Ae bp with⟨bu,bp⟩|⟨bu,bp⟩
    ·refine Am f Z bu ?_
     refine An ?_
     refine Ag (Al (Af ?_))
     refine Ab f Z λa f=> ?_
     have⟨bv,bw,bp⟩:=bind_some bp
     refine AO f Z call59 (Wk.n m bt bw) λbx bz bA w bB m bC a f=> ?_
     obtain⟨bD,rfl,rfl,bE⟩:=bC
     have bs:=Ow.mono (RSl.mono (RI.mono _)) bB bs
     refine Ab f Z λa f=>Ah f Z Z AQ λa f=>Aa ?_
     rcases Ae bp with⟨bF,bp⟩|⟨bF,bp⟩
     ·refine Am f Z bF ?_
      refine Ak ?_
      refine Ab f Z λa f=>Ab f Z λa f=>Ab f Z λa f=>Bo (R:=R0) (xs:=([bg,aP]:LI)) (RI.one _) m T43 f Z Z Z (by decide) (All2.cons Z (All2.cons Z (All2.nil _))) λbG bH w a m bI f=> ?_
      obtain⟨bJ,bK,m,bL⟩:=Ow.stamp (RI.mono _) bI m
      have bE:=rd1 bK bE
      have bs:=Ow.mono (RSl.mono (RI.mono _)) bK bs
      refine Bo (R:=R1) (xs:=([([bg,aP]:LI)]:LL)) (RSl.one _) m T22 f Z Z Z (by decide) (All2.cons bL (All2.nil _)) λbM bN w a m bO f=> ?_
      have⟨bP,bQ,bp⟩:=bind_some bp
      refine Bz (RSl.one _) 3 m bs Z T22 Z (by decide) f Z Z Z (Ow.src (j:=0) bO m Z) bQ λbR bS w a m bT f=>Ac f Z λa f=>Aa (Ak ?_)
      refine Ab f Z λa f=>Ah f Z Z Ax λa f=>Ac f Z λa f=>Aa ?_
      have m:=m.fr 3
      have m:=m.fr 3
      have m:Mem W bJ w (ib b0 67 [bD,(iv bv.2.2.1),(.int .u64 bv.2.2.2)]::ib af 28 [sn]::bR::bM::H):=m.fr 3
      have m:Mem W bJ w (ib b0 67 [bD,(iv bv.2.2.1),(.int .u64 bv.2.2.2)]::ib af 28 [sn]::bR::H):=m.eraseAt 3
      obtain rfl:=sj bp
      exact⟨_,Z,_,_,_,_,_,Z,_,bS,bR,bD,(gt br (gt bB bK)),f.k Z,m,bT,bE⟩
     ·refine Aj f Z bF ?_
      refine An ?_
      refine Ak ?_
      refine Ab f Z λa f=>Ah f Z Z Ax λa f=>Ac f Z λa f=>Aa ?_
      obtain rfl:=sj bp
      exact⟨_,Z,_,_,_,_,_,Z,_,bl,bm,bD,(gt br bB),f.k Z,m,bs,bE⟩
    ·refine Aj f Z bu ?_
     refine AB Z ?_
     obtain rfl:=sj bp
     obtain rfl:=bq _ rfl
     exact⟨_,_,_,_,Z,_,bl,bm,bn,br,f.k Z,m,bs,bt⟩
   ·rintro a w ⟨a6,a7,a8,a9,rfl,ba,bb,bc,bd,bU,f,m,bV,bW⟩
    refine Ak ?_
    refine Ab f Z λa f=>Ah f Z Z Ax λa f=>Ac f Z λa f=>Aa ?_
    obtain rfl:=sj aY
    exact⟨_,Z,_,_,_,_,_,Z,_,bb,bc,bd,(gt a0 bU),f.k Z,m,bV,bW⟩
  ·refine Aj f Z a3 ?_
   refine AB Z ?_
   have m:Mem W aT w (ib af 28 [sn]::ib b0 67 [aW,(iv aR),(.int .u64 aS)]::aV::H):=m.fr 1
   obtain rfl:=sj aY
   obtain rfl:=aZ _ rfl
   exact⟨_,_,_,_,Z,_,aU,aV,aW,a0,f.k Z,m,a1,a2⟩
 ·rintro a w ⟨aF,aG,aH,aI,rfl,aJ,aK,aL,aM,bX,f,m,bY,bZ⟩
  refine Af ?_
  refine Ab f Z λa f=>Ab f Z λa f=> ?_
  have m:Mem W aJ w (aL::ib af 28 [sn]::ib b0 67 [aM,(iv aH),(.int .u64 aI)]::H):=m.fr 2
  obtain⟨b1,b2,m,b3⟩:=Ow.stamp (RSl.mono (RI.mono _)) bY m
  have bZ:=rd1 b2 bZ
  have⟨b4,b5,hd⟩:=bind_some hd
  refine AO f Z call60 (Wk.Y m b3 b5) λb6 b7 b8 w b9 m ca a f=> ?_
  obtain⟨cb,cc,rfl,rfl,cd⟩:=ca
  have bZ:=rd1 b9 bZ
  refine Ab f Z λa f=>l_o f (Bn (f.e Z) Z) λa f=>l_o f (Bn (f.e Z) Z) λa f=>BX (cs:=[sn]) zeroValue28 m f Z Z λce w a m f=>AV 0 0 (ds:=[cb]) m sizeOf28 f Z Z Z (A1 (Ow.one1 1 m cd Z) A8) Z (lb Z) Z λw m=>Ac f Z λa f=>Ay ?_
  refine AG 0 0 (ds:=[cb]) m AX f Z Z Z Z Z λa f=>AV 2 0 (ds:=[cb]) m sizeOf28 f Z Z Z (A1 (Ow.one1 1 m cd Z) A8) Z (lb Z) Z λw m=>Aa ?_
  refine Ap ?_
  have cf:=C6 (P:=prog) 2 m AX f (s:=4) rfl rfl rfl
  have m:=m.fr 3
  have m:=m.fr 2
  have m:Mem W b7 w (cc::ib b0 67 [aM,(iv aH),(.int .u64 aI)]::ib ce 28 [cb]::H):=m.eraseAt 3
  have m:=m.eraseAt 2
  obtain rfl:=sj hd
  exact⟨[(.agg #[cb])],⟨cf,trivial⟩,f.d,_,[cc,ib b0 67 [aM,(iv aH),(.int .u64 aI)]],(gt al (gt aw (gt bX (gt b2 b9)))),m,_,_,_,Z,Z,cd,bZ⟩
theorem Wk.M {x0 x1 x2:Int}(m:Mem W G w (H)){y:Bool}(hd:D.M x0 x1 x2=some y):
  Calls prog 129 #[(iv x0),(iv x1),(iv x2)] w (Res W G H (λ_ Ho v=>Ho=[]∧v=(.bool y))):=by
 refine Au (args:=[(iv x0),(iv x1),(iv x2)]) (N:=15) [.tmp 6] func129 Z Z (lb Z) Z λa f=> ?_
 unfold D.M at hd
 refine Af ?_
 refine Ac f Z λa f=>Ay ?_
 refine Ab f Z λa f=>Ab f Z λa f=>Ah f Z Z CC λa f=>Ab f Z λa f=> ?_
 refine Bj 4 (λa w=>∃aa,GLe G aa∧Mem W aa w (H)∧Fr a 15 [(0,(iv x0)),(1,(iv x1)),(2,(iv x2)),(7,(iv x1)),(8,(iv x0)),(9,(.bool (decide (x1≤x0)))),(10,(.bool (decide (x1≤x0)))),(14,(.bool ((decide (x1≤x0))&&(decide (x0≤x2)))))]) ?_ ?_
 ·rcases Bool.eq_false_or_eq_true (decide (x1≤x0)) with ab|ab
  ·refine As f ab ?_
   refine Ab f Z λa f=>As f ab ?_
   refine Ab f Z λa f=>As f ab ?_
   refine Ah f Z Z CC λa f=>l_o f (AD (f.e Z) ab (f.e Z)) λa f=> ?_
   exact⟨_,gr,m,f.weak ⟨Z,Z,Z,Z,Z,Z,Z,by rw[ab];rfl,trivial⟩⟩
  ·refine Aw f ab λa f=> ?_
   refine Aw f ab λa f=>Aw f ab λa f=>l_o f (AC (f.e Z) ab (f.e Z)) λa f=> ?_
   exact⟨_,gr,m,f.weak ⟨Z,Z,Z,Z,Z,Z,Z,by rw[ab];rfl,trivial⟩⟩
 ·rintro a w ⟨aa,ac,m,f⟩
  refine Ac f Z λa f=>Aa ?_
  refine Ap ?_
  obtain rfl:=sj hd
  exact⟨[(.bool ((decide (x1≤x0))&&(decide (x0≤x2))))],f.g Z,f.d,_,[],ac,m,Z,Z⟩
theorem Wk.K {v0:Value}{x0:LI}{x1:Int}(m:Mem W G w (H))(h0:R1 G v0 x0){y:Bool}(hd:D.K x0 x1=some y):
  Calls prog 67 #[v0,(iv x1)] w (Res W G H (λ_ Ho v=>Ho=[]∧v=(.bool y))):=by
 refine Au (args:=[v0,(iv x1)]) (N:=33) [.tmp 4] func67 Z Z (lb Z) Z λa f=> ?_
 unfold D.K at hd
 refine Af ?_
 refine Ac f Z λa f=>Aa (Ag (Af ?_))
 refine Ab f Z λa f=>Bd underlying43 f Z Z h0 λa f=>Ab f Z λa f=>Aa ?_
 have⟨aa,ab,hd⟩:=bind_some hd
 refine AJ (λa w=>∃q_181':Unit,aa= .inl q_181'∧∃(ac:GH),GLe G ac∧Fr a 33 []∧Mem W ac w (H)) ?_ ?_
 ·refine Al ?_
  refine AE (λad a w=>∃ae:Int,ae=ad∧∃(af:GH),GLe G af∧Fr a 33 [(0,v0),(1,(iv x1)),(7,v0),(8,(iv (x0.length:Int))),(9,(iv ae))]∧Mem W af w (H)) ab ⟨_,Z,_,gr,f.k Z,m⟩ ?_
  clear ab f m
  rintro ad ag ah ai a w ⟨ae,rfl,af,aj,f,m⟩
  have h0:=rd1 aj h0
  refine Af ?_
  refine Ah f Z Z AQ λa f=>Aa (Ag ?_)
  rcases Ae ah with⟨ak,ah⟩|⟨ak,ah⟩
  ·refine Am f Z ak ?_
   refine An ?_
   refine Ag (Al (Af ?_))
   refine Ab f Z λa f=> ?_
   have⟨al,am,ah⟩:=bind_some ah
   refine By T43 f Z Z Z h0 am λan ao a ap aq f=> ?_
   subst aq
   refine AU m Pl2 f Z Z ap λa f=>Ac f Z λa f=>Ac f Z λa f=>Ay ?_
   refine Ab f Z λa f=>Ab f Z λa f=>Ah f Z Z AR λa f=> ?_
   have⟨ar,au,ah⟩:=bind_some ah
   refine A3 f Z call129 (Wk.M m au) λav w aw m a f=> ?_
   have h0:=rd1 aw h0
   refine l_o f (Bg (f.e Z)) λa f=>Ab f Z λa f=> ?_
   have⟨ax,ay,ah⟩:=bind_some ah
   refine Bj 12 (λa w=>∃az,GLe av az∧Mem W az w (H)∧Fr a 33 [(0,v0),(1,(iv x1)),(5,(iv ae)),(6,(iv al)),(7,v0),(8,(iv (x0.length:Int))),(9,(iv ae)),(14,(iv al)),(15,(iv x1)),(16,(iv (i64.wrap (x1-1)))),(17,(.bool ar)),(18,(.bool (!ar))),(19,(.bool (!ar))),(31,(.bool ax))]) ?_ ?_
   ·rcases Ae ay with⟨aA,ay⟩|⟨aA,ay⟩
    ·refine Aw f aA λa f=> ?_
     refine Aw f aA λa f=>Aw f aA λa f=>BC f Z Z Z λa f=>BC f Z Z Z λa f=>BC f Z Z Z λa f=>BC f Z Z Z λa f=>BC f Z Z Z λa f=>BC f Z Z Z λa f=>BC f Z Z Z λa f=>Aw f aA λa f=>l_o f (AD (f.e Z) aA (f.e Z)) λa f=> ?_
     obtain rfl:=sj ay
     exact⟨_,gr,m,f.k Z⟩
    ·refine As f aA ?_
     refine Ab f Z λa f=>As f aA ?_
     refine Ah f Z Z Cc λa f=>As f aA ?_
     refine Ab f Z λa f=> ?_
     have⟨aB,aC,ay⟩:=bind_some ay
     refine Bj 8 (λa w=>∃aD,GLe av aD∧Mem W aD w (H)∧Fr a 33 [(0,v0),(1,(iv x1)),(5,(iv ae)),(6,(iv al)),(7,v0),(8,(iv (x0.length:Int))),(9,(iv ae)),(14,(iv al)),(15,(iv x1)),(16,(iv (i64.wrap (x1-1)))),(17,(.bool ar)),(18,(.bool (!ar))),(19,(.bool (!ar))),(20,(iv ae)),(21,(.bool (decide ((0:Int)<ae)))),(22,(.bool (decide ((0:Int)<ae)))),(30,(.bool aB))]) ?_ ?_
     ·rcases Ae aC with⟨aE,aC⟩|⟨aE,aC⟩
      ·refine As f aE ?_
       refine Ab f Z λa f=>As f aE ?_
       refine Ab f Z λa f=>As f aE ?_
       refine Ah f Z Z AR λa f=>As f aE ?_
       have⟨aF,aG,aC⟩:=bind_some aC
       refine By T43 f Z Z Z h0 aG λaH aI a aJ aK f=> ?_
       subst aK
       refine As f aE ?_
       refine AU m Pl2 f Z Z aJ λa f=>As f aE ?_
       refine Ab f Z λa f=>As f aE ?_
       refine Ah f Z Z Cj λa f=>As f aA ?_
       refine l_o f (AD (f.e Z) aE (f.e Z)) λa f=> ?_
       obtain rfl:=sj aC
       exact⟨_,gr,m,f.k Z⟩
      ·refine Aw f aE λa f=> ?_
       refine Aw f aE λa f=>Aw f aE λa f=>Aw f aE λa f=>Aw f aE λa f=>Aw f aE λa f=>Aw f aE λa f=>As f aA ?_
       refine l_o f (AC (f.e Z) aE (f.e Z)) λa f=> ?_
       obtain rfl:=sj aC
       exact⟨_,gr,m,f.k Z⟩
     ·rintro a w ⟨aD,aL,m,f⟩
      refine l_o f (AC (f.e Z) aA (f.e Z)) λa f=> ?_
      obtain rfl:=sj ay
      exact⟨_,aL,m,f.k Z⟩
   ·rintro a w ⟨az,aM,m,f⟩
    refine Aa ?_
    rcases Ae ah with⟨aN,ah⟩|⟨aN,ah⟩
    ·refine Am f Z aN ?_
     refine Af ?_
     refine Ac f Z λa f=>Aa ?_
     refine Ap ?_
     obtain rfl:=sj ah
     obtain rfl:=ai _ rfl
     obtain rfl:=sj hd
     exact⟨[(.bool false)],f.g Z,f.d,_,[],(gt aj (gt aw aM)),m,Z,Z⟩
    ·refine Aj f Z aN ?_
     refine An ?_
     refine Ak ?_
     refine Ah f Z Z Ax λa f=>Ab f Z λa f=>Aa ?_
     obtain rfl:=sj ah
     exact⟨_,Z,_,Z,_,(gt aj (gt aw aM)),f.k Z,m⟩
  ·refine Aj f Z ak ?_
   refine AB Z ?_
   obtain rfl:=sj ah
   obtain rfl:=ai _ rfl
   exact⟨_,Z,_,aj,f.weak trivial,m⟩
 ·rintro a w ⟨_,rfl,ac,aO,f,m⟩
  refine Af ?_
  refine Ac f Z λa f=>Aa ?_
  refine Ap ?_
  obtain rfl:=sj hd
  exact⟨[(.bool true)],f.g Z,f.d,_,[],aO,m,Z,Z⟩
theorem Wk.i {aa:Value}{ab:LL}(m:Mem W G w (H))(ac:R2 G aa ab){y:Bool}(hd:D.i ab=some y):
  Calls prog 52 #[(.agg #[aa])] w (Res W G H (λ_ Ho v=>Ho=[]∧v=(.bool y))):=by
 refine Au (args:=[(.agg #[aa])]) (N:=61) [.tmp 2] func52 Z Z (lb Z) Z λa f=> ?_
 unfold D.i at hd
 refine Af ?_
 refine Bu (cs:=[aa]) m f Z Z Z λad w a m f=>Ac f Z λa f=>Ay ?_
 refine Cb underlying28 Z sizeOf22 f Z λa f=>A5 0 0 m BU f Z Z Z Z λa f=>Bd underlying22 f Z Z ac λa f=>Ac f Z λa f=>Aa (Ag (Af ?_))
 refine Ab f Z λa f=>Ah f Z Z AQ λa f=>Ab f Z λa f=> ?_
 refine Bj 3 (λa w=>∃ae,GLe G ae∧Mem W ae w (ib ad 28 [aa]::H)∧Fr a 61 [(0,(.agg #[aa])),(1,(pb ad)),(3,(iv (ab.length:Int))),(13,(iv (ab.length:Int))),(14,(.bool (decide ((ab.length:Int)<1)))),(15,(.bool (decide ((ab.length:Int)<1)))),(18,(.bool ((decide ((ab.length:Int)<1))||(decide ((16:Int)<(ab.length:Int))))))]) ?_ ?_
 ·rcases Bool.eq_false_or_eq_true (decide ((ab.length:Int)<1)) with af|af
  ·refine Aw f af λa f=> ?_
   refine Aw f af λa f=>l_o f (AD (f.e Z) af (f.e Z)) λa f=> ?_
   exact⟨_,gr,m,f.weak ⟨Z,Z,Z,Z,Z,Z,by rw[af];rfl,trivial⟩⟩
  ·refine As f af ?_
   refine Ab f Z λa f=>As f af ?_
   refine Ah f Z Z Cc λa f=>l_o f (AC (f.e Z) af (f.e Z)) λa f=> ?_
   exact⟨_,gr,m,f.weak ⟨Z,Z,Z,Z,Z,Z,by rw[af];rfl,trivial⟩⟩
 ·rintro a w ⟨ae,ag,m,f⟩
  have ac:=rd2 ag ac
  refine Aa ?_
  rcases Ae hd with⟨ah,hd⟩|⟨ah,hd⟩
  ·refine Am f Z ah ?_
   refine Af ?_
   refine Ac f Z λa f=>Aa ?_
   refine Ap ?_
   have m:Mem W ae w H:=Mem.drop (H':=[ib ad 28 [aa]]) m
   obtain rfl:=sj hd
   exact⟨[(.bool false)],f.g Z,f.d,_,[],ag,m,Z,Z⟩
  ·refine Aj f Z ah ?_
   refine An ?_
   refine Ag (Af ?_)
   refine Cb underlying28 Z sizeOf22 f Z λa f=>A5 0 0 m BU f Z Z Z Z λa f=>Bd underlying22 f Z Z ac λa f=>Ab f Z λa f=>Aa ?_
   have⟨ai,aj,hd⟩:=bind_some hd
   refine AJ (λa w=>∃q_91':Unit,ai= .inl q_91'∧∃(ak:GH),GLe ae ak∧Fr a 61 [(1,(pb ad))]∧Mem W ak w (ib ad 28 [aa]::H)) ?_ ?_
   ·refine Al ?_
    refine AE (λal a w=>∃am:Int,am=al∧∃(an:GH),GLe ae an∧Fr a 61 [(1,(pb ad)),(3,(iv (ab.length:Int))),(20,aa),(21,(iv (ab.length:Int))),(22,(iv am))]∧Mem W an w (ib ad 28 [aa]::H)) aj ⟨_,Z,_,gr,f.k Z,m⟩ ?_
    clear aj f m
    rintro al ao ap aq a w ⟨am,rfl,an,ar,f,m⟩
    have ac:=rd2 ar ac
    refine Af ?_
    refine Ah f Z Z AQ λa f=>Aa (Ag ?_)
    rcases Ae ap with⟨au,ap⟩|⟨au,ap⟩
    ·refine Am f Z au ?_
     refine An ?_
     refine Ag (Al (Af ?_))
     refine Ab f Z λa f=> ?_
     have⟨av,aw,ap⟩:=bind_some ap
     refine By T22 f Z Z Z ac aw λax ay a az aA f=>AU m Cf f Z Z az λa f=>Ac f Z λa f=>Ac f Z λa f=>Ay ?_
     refine Ab f Z λa f=>Ab f Z λa f=> ?_
     have⟨aB,aC,ap⟩:=bind_some ap
     refine A3 f Z call67 (Wk.K m aA aC) λaD w aE m a f=> ?_
     have aA:=rd1 aE aA
     refine l_o f (Bg (f.e Z)) λa f=>Ab f Z λa f=> ?_
     have⟨aF,aG,ap⟩:=bind_some ap
     refine Bj 4 (λa w=>∃aH,GLe aD aH∧Mem W aH w (ib ad 28 [aa]::H)∧Fr a 61 [(1,(pb ad)),(3,(iv (ab.length:Int))),(4,(iv am)),(5,ay),(20,aa),(21,(iv (ab.length:Int))),(22,(iv am)),(27,ay),(28,(iv (ab.length:Int))),(29,(.bool aB)),(30,(.bool (!aB))),(31,(.bool (!aB))),(35,(.bool aF))]) ?_ ?_
     ·rcases Ae aG with⟨aI,aG⟩|⟨aI,aG⟩
      ·refine Aw f aI λa f=> ?_
       refine Aw f aI λa f=>Aw f aI λa f=>l_o f (AD (f.e Z) aI (f.e Z)) λa f=> ?_
       obtain rfl:=sj aG
       exact⟨_,gr,m,f.k Z⟩
      ·refine As f aI ?_
       refine Ab f Z λa f=>As f aI ?_
       refine Ab f Z λa f=>As f aI ?_
       have⟨aJ,aK,aG⟩:=bind_some aG
       refine A3 f Z call119 (Wk.q m aA aK) λaL w aM m a f=>l_o f (AC (f.e Z) aI (f.e Z)) λa f=> ?_
       obtain rfl:=sj aG
       exact⟨_,aM,m,f.k Z⟩
     ·rintro a w ⟨aH,aN,m,f⟩
      refine Aa ?_
      rcases Ae ap with⟨aO,ap⟩|⟨aO,ap⟩
      ·refine Am f Z aO ?_
       refine Af ?_
       refine Ac f Z λa f=>Aa ?_
       refine Ap ?_
       have m:Mem W aH w H:=Mem.drop (H':=[ib ad 28 [aa]]) m
       obtain rfl:=sj ap
       obtain rfl:=aq _ rfl
       obtain rfl:=sj hd
       exact⟨[(.bool false)],f.g Z,f.d,_,[],(gt ag (gt ar (gt aE aN))),m,Z,Z⟩
      ·refine Aj f Z aO ?_
       refine An ?_
       refine Ak ?_
       refine Ah f Z Z Ax λa f=>Ab f Z λa f=>Aa ?_
       obtain rfl:=sj ap
       exact⟨_,Z,_,Z,_,(gt ar (gt aE aN)),f.k Z,m⟩
    ·refine Aj f Z au ?_
     refine AB Z ?_
     obtain rfl:=sj ap
     obtain rfl:=aq _ rfl
     exact⟨_,Z,_,ar,f.k Z,m⟩
   ·rintro a w ⟨_,rfl,ak,aP,f,m⟩
    have ac:=rd2 aP ac
    refine Ag (Af ?_)
    refine Cb underlying28 Z sizeOf22 f Z λa f=>A5 0 0 m BU f Z Z Z Z λa f=>Bd underlying22 f Z Z ac λa f=>Ab f Z λa f=>Aa ?_
    have⟨aQ,aR,hd⟩:=bind_some hd
    refine AJ (λa w=>∃q_394':Unit,aQ= .inl q_394'∧∃(aS:GH),GLe ak aS∧Fr a 61 []∧Mem W aS w (H)) ?_ ?_
    ·refine Al ?_
     refine AE (λaT a w=>∃aU:Int,aU=aT∧∃(aV:GH),GLe ak aV∧Fr a 61 [(1,(pb ad)),(38,aa),(39,(iv (ab.length:Int))),(40,(iv aU))]∧Mem W aV w (ib ad 28 [aa]::H)) aR ⟨_,Z,_,gr,f.k Z,m⟩ ?_
     clear aR f m
     rintro aT aW aX aY a w ⟨aU,rfl,aV,aZ,f,m⟩
     have ac:=rd2 aZ ac
     refine Af ?_
     refine Ah f Z Z AQ λa f=>Aa (Ag ?_)
     rcases Ae aX with⟨a0,aX⟩|⟨a0,aX⟩
     ·refine Am f Z a0 ?_
      refine An ?_
      refine Ag (Al (Af ?_))
      refine Ab f Z λa f=> ?_
      have⟨a1,a2,aX⟩:=bind_some aX
      refine By T22 f Z Z Z ac a2 λa3 a4 a a5 a6 f=>AU m Cf f Z Z a5 λa f=>Ac f Z λa f=>Ac f Z λa f=>Ay ?_
      refine Ab f Z λa f=>Bd underlying43 f Z Z a6 λa f=>Ab f Z λa f=>Aa ?_
      have⟨a7,a8,aX⟩:=bind_some aX
      refine AJ (λa w=>∃q_560':Unit,a7= .inl q_560'∧∃(a9:GH),GLe aV a9∧Fr a 61 [(1,(pb ad)),(38,aa),(39,(iv (ab.length:Int))),(40,(iv aU))]∧Mem W a9 w (ib ad 28 [aa]::H)) ?_ ?_
      ·refine Al ?_
       refine AE (λba a w=>∃bb:Int,bb=ba∧∃(bc:GH),GLe aV bc∧Fr a 61 [(1,(pb ad)),(6,(iv aU)),(38,aa),(39,(iv (ab.length:Int))),(40,(iv aU)),(45,a4),(46,(iv (a1.length:Int))),(47,(iv bb))]∧Mem W bc w (ib ad 28 [aa]::H)) a8 ⟨_,Z,_,gr,f.k Z,m⟩ ?_
       clear a8 f m
       rintro ba bd be bf a w ⟨bb,rfl,bc,bg,f,m⟩
       have ac:=rd2 bg ac
       have a6:=rd1 bg a6
       refine Af ?_
       refine Ah f Z Z AQ λa f=>Aa (Ag ?_)
       rcases Ae be with⟨bh,be⟩|⟨bh,be⟩
       ·refine Am f Z bh ?_
        refine An ?_
        refine Ag (Al (Af ?_))
        have⟨bi,bj,be⟩:=bind_some be
        refine By T43 f Z Z Z a6 bj λbk bl a bm bn f=> ?_
        subst bn
        refine AU m Pl2 f Z Z bm λa f=>Ac f Z λa f=>Ay ?_
        refine Cb underlying28 Z sizeOf22 f Z λa f=>A5 0 0 m BU f Z Z Z Z λa f=>Ab f Z λa f=> ?_
        have⟨bo,bp,be⟩:=bind_some be
        refine By T22 f Z Z Z ac bp λbq br a bs bt f=>AU m Cf f Z Z bs λa f=>Ab f Z λa f=> ?_
        have⟨bu,bv,be⟩:=bind_some be
        refine A3 f Z call119 (Wk.q m bt bv) λbw w bx m a f=>l_o f (Bg (f.e Z)) λa f=>Aa ?_
        rcases Ae be with⟨bz,be⟩|⟨bz,be⟩
        ·refine Am f Z bz ?_
         refine Af ?_
         refine Ac f Z λa f=>Aa ?_
         refine Ap ?_
         have m:Mem W bw w H:=Mem.drop (H':=[ib ad 28 [aa]]) m
         obtain rfl:=sj be
         obtain rfl:=bf _ rfl
         obtain rfl:=sj aX
         obtain rfl:=aY _ rfl
         obtain rfl:=sj hd
         exact⟨[(.bool false)],f.g Z,f.d,_,[],(gt ag (gt aP (gt aZ (gt bg bx)))),m,Z,Z⟩
        ·refine Aj f Z bz ?_
         refine An ?_
         refine Ak ?_
         refine Ah f Z Z Ax λa f=>Ab f Z λa f=>Aa ?_
         obtain rfl:=sj be
         exact⟨_,Z,_,Z,_,(gt bg bx),f.k Z,m⟩
       ·refine Aj f Z bh ?_
        refine AB Z ?_
        obtain rfl:=sj be
        obtain rfl:=bf _ rfl
        exact⟨_,Z,_,bg,f.k Z,m⟩
      ·rintro a w ⟨_,rfl,a9,bA,f,m⟩
       refine Ak ?_
       refine Ah f Z Z Ax λa f=>Ab f Z λa f=>Aa ?_
       obtain rfl:=sj aX
       exact⟨_,Z,_,Z,_,(gt aZ bA),f.k Z,m⟩
     ·refine Aj f Z a0 ?_
      refine AB Z ?_
      have m:Mem W aV w H:=Mem.drop (H':=[ib ad 28 [aa]]) m
      obtain rfl:=sj aX
      obtain rfl:=aY _ rfl
      exact⟨_,Z,_,aZ,f.weak trivial,m⟩
    ·rintro a w ⟨_,rfl,aS,bB,f,m⟩
     refine Af ?_
     refine Ac f Z λa f=>Aa ?_
     refine Ap ?_
     obtain rfl:=sj hd
     exact⟨[(.bool true)],f.g Z,f.d,_,[],(gt ag (gt aP bB)),m,Z,Z⟩
theorem Wk.b {x0:Int}(m:Mem W G w (H)){y:Int}(hd:D.b x0=some y):
  Calls prog 99 #[(iv x0)] w (Res W G H (λ_ Ho v=>Ho=[]∧v=(.int .u32 y))):=by
 refine Au (args:=[(iv x0)]) (N:=5) [.tmp 2] func99 Z Z (lb Z) Z λa f=> ?_
 unfold D.b at hd
 refine Af ?_
 refine Ac f Z λa f=>Ay ?_
 refine Ab f Z λa f=> ?_
 obtain⟨aa,hd⟩:=BZ hd
 refine l_o f (Dy (f.e Z) (f.e Z) aa) λa f=>Ac f Z λa f=>Aa ?_
 refine Ap ?_
 obtain rfl:=sj hd
 exact⟨[(.int .u32 (ishl .u32 1 x0))],f.g Z,f.d,_,[],gr,m,Z,Z⟩
theorem Wk.M0 {v0:Value}{x0:LI}(m:Mem W G w (H))(h0:R1 G v0 x0){y:Int}(hd:D.M0 x0=some y):
  Calls prog 124 #[v0] w (Res W G H (λ_ Ho v=>Ho=[]∧v=(.int .u32 y))):=by
 refine Au (args:=[v0]) (N:=18) [.tmp 2] func124 Z Z (lb Z) Z λa f=> ?_
 unfold D.M0 at hd
 refine Af ?_
 refine Ac f Z λa f=>Ay ?_
 refine Ac f Z λa f=>Aa (Ag (Af ?_))
 refine Ab f Z λa f=>Bd underlying43 f Z Z h0 λa f=>Ab f Z λa f=>Aa ?_
 have⟨aa,ab,hd⟩:=bind_some hd
 refine AJ (λa w=>∃ac:Int,ac=aa∧∃(ad:GH),GLe G ad∧Fr a 18 [(3,(.int .u32 ac))]∧Mem W ad w (H)) ?_ ?_
 ·refine Al ?_
  refine AE (λae a w=>∃af:Int,∃ag:Int,(af,ag)=ae∧∃(ah:GH),GLe G ah∧Fr a 18 [(3,(.int .u32 af)),(6,v0),(7,(iv (x0.length:Int))),(8,(iv ag))]∧Mem W ah w (H)) ab ⟨_,_,Z,_,gr,f.k Z,m⟩ ?_
  clear ab f m
  rintro ae ai aj ak a w ⟨af,ag,rfl,ah,al,f,m⟩
  have h0:=rd1 al h0
  refine Af ?_
  refine Ah f Z Z AQ λa f=>Aa (Ag ?_)
  rcases Ae aj with⟨am,aj⟩|⟨am,aj⟩
  ·refine Am f Z am ?_
   refine An ?_
   refine Ag (Al (Af ?_))
   have⟨an,ao,aj⟩:=bind_some aj
   refine By T43 f Z Z Z h0 ao λap aq a ar au f=> ?_
   subst au
   refine AU m Pl2 f Z Z ar λa f=>Ac f Z λa f=>Aa (Ak ?_)
   refine Ab f Z λa f=>Ab f Z λa f=> ?_
   have⟨av,aw,aj⟩:=bind_some aj
   refine A3 f Z call99 (Wk.b m aw) λax w ay m a f=>Ah f Z Z b_or λa f=>Ac f Z λa f=>Aa (Ak ?_)
   refine Ah f Z Z Ax λa f=>Ab f Z λa f=>Aa ?_
   obtain rfl:=sj aj
   exact⟨_,Z,_,_,Z,_,(gt al ay),f.k Z,m⟩
  ·refine Aj f Z am ?_
   refine AB Z ?_
   obtain rfl:=sj aj
   obtain rfl:=ak _ rfl
   exact⟨_,Z,_,al,f.k Z,m⟩
 ·rintro a w ⟨ac,rfl,ad,az,f,m⟩
  refine Af ?_
  refine Ab f Z λa f=>Ac f Z λa f=>Aa ?_
  refine Ap ?_
  obtain rfl:=sj hd
  exact⟨[(.int .u32 ac)],f.g Z,f.d,_,[],az,m,Z,Z⟩
theorem Wk.p {aa:Value}{ab:LL}(m:Mem W G w (H))(ac:R2 G aa ab){y:(LI)}(hd:D.p ab=some y):
  Calls prog 54 #[(.agg #[aa])] w (Res W G H (λG' Ho v=>∃r0:Value,∃i0:Itm,Ho=[i0]∧r0=v∧Ow (RI .u32) 71 G' i0 r0 y)):=by
 refine Au (args:=[(.agg #[aa])]) (N:=21) [.tmp 2] func54 Z Z (lb Z) Z λa f=> ?_
 unfold D.p at hd
 refine Af ?_
 refine Bu (cs:=[aa]) m f Z Z Z λad w a m f=>Ac f Z λa f=>Ay ?_
 refine Bo (R:=(RI .u32)) (xs:=([]:LI)) (RI.one _) m T60 f Z Z Z (by decide) (All2.nil _) λae af w a m ag f=>Ac f Z λa f=>Aa (Ag (Af ?_))
 refine Cb underlying28 Z sizeOf22 f Z λa f=>A5 1 0 m BU f Z Z Z Z λa f=>Bd underlying22 f Z Z ac λa f=>Ab f Z λa f=>Aa ?_
 have⟨ah,ai,hd⟩:=bind_some hd
 refine AJ (λa w=>∃aj:LI,aj=ah∧∃(ak:GH) (al:Value) (am:Itm),GLe G ak∧Fr a 21 [(3,al)]∧Mem W ak w (am::H)∧Ow (RI .u32) 71 ak am al aj) ?_ ?_
 ·refine Al ?_
  have m:=m.eraseAt 1
  refine AE (λan a w=>∃ao:LI,∃ap:Int,(ao,ap)=an∧∃(aq:GH) (ar:Value) (au:Itm),GLe G aq∧Fr a 21 [(3,ar),(8,aa),(9,(iv (ab.length:Int))),(10,(iv ap))]∧Mem W aq w (au::H)∧Ow (RI .u32) 71 aq au ar ao) ai ⟨_,_,Z,_,af,ae,gr,f.k Z,m,ag⟩ ?_
  clear ai f m
  rintro an av aw ax a w ⟨ao,ap,rfl,aq,ar,au,ay,f,m,az⟩
  have ac:=rd2 ay ac
  refine Af ?_
  refine Ah f Z Z AQ λa f=>Aa (Ag ?_)
  rcases Ae aw with⟨aA,aw⟩|⟨aA,aw⟩
  ·refine Am f Z aA ?_
   refine An ?_
   refine Ag (Al (Af ?_))
   have⟨aB,aC,aw⟩:=bind_some aw
   refine By T22 f Z Z Z ac aC λaD aE a aF aG f=>AU m Cf f Z Z aF λa f=>Ac f Z λa f=>Aa (Ak ?_)
   refine Ab f Z λa f=>Ab f Z λa f=> ?_
   have⟨aH,aI,aw⟩:=bind_some aw
   refine A3 f Z call124 (Wk.M0 m aG aI) λaJ w aK m a f=> ?_
   have az:=od1 aK az
   refine Bo (R:=(RI .u32)) (xs:=([aH]:LI)) (RI.one _) m T60 f Z Z Z (by decide) (All2.cons Z (All2.nil _)) λaL aM w a m aN f=> ?_
   have⟨aO,aP,aw⟩:=bind_some aw
   refine Bz (RI.one _) 1 m az Z T60 Z (by decide) f Z Z Z (Ow.src (j:=0) aN m Z) aP λaQ aR w a m aS f=>Ac f Z λa f=>Aa (Ak ?_)
   refine Ah f Z Z Ax λa f=>Ab f Z λa f=>Aa ?_
   have m:=m.fr 1
   have m:=m.eraseAt 1
   obtain rfl:=sj aw
   exact⟨_,Z,_,_,Z,_,aR,aQ,(gt ay aK),f.k Z,m,aS⟩
  ·refine Aj f Z aA ?_
   refine AB Z ?_
   obtain rfl:=sj aw
   obtain rfl:=ax _ rfl
   exact⟨_,Z,_,ar,au,ay,f.k Z,m,az⟩
 ·rintro a w ⟨aj,rfl,ak,al,am,aT,f,m,aU⟩
  refine Af ?_
  refine Ab f Z λa f=>Ac f Z λa f=>Aa ?_
  refine Ap ?_
  obtain rfl:=sj hd
  exact⟨[al],f.g Z,f.d,_,[am],aT,m,_,_,Z,Z,aU⟩
theorem Wk.P0 {x0:Int}(m:Mem W G w (H)){y:Int}(hd:D.P0 x0=some y):
  Calls prog 137 #[(iv x0)] w (Res W G H (λ_ Ho v=>Ho=[]∧v=(.int .u32 y))):=by
 refine Au (args:=[(iv x0)]) (N:=6) [.tmp 2] func137 Z Z (lb Z) Z λa f=> ?_
 unfold D.P0 at hd
 refine Af ?_
 refine Ac f Z λa f=>Ay ?_
 refine Ab f Z λa f=> ?_
 obtain⟨aa,hd⟩:=BZ hd
 refine l_o f (Dy (f.e Z) (f.e Z) aa) λa f=>Ah f Z Z AR λa f=>Ac f Z λa f=>Aa ?_
 refine Ap ?_
 obtain rfl:=sj hd
 exact⟨[(.int .u32 (IntKind.u32.wrap ((ishl .u32 1 x0)-1)))],f.g Z,f.d,_,[],gr,m,Z,Z⟩
theorem Wk.g {v0:Value}{x0:LI}(m:Mem W G w (H))(h0:RSl (RI .u32) G v0 x0){y:Int}(hd:D.g x0=some y):
  Calls prog 94 #[v0] w (Res W G H (λ_ Ho v=>Ho=[]∧v=(.int .u32 y))):=by
 refine Au (args:=[v0]) (N:=6) [.tmp 2] func94 Z Z (lb Z) Z λa f=> ?_
 unfold D.g at hd
 refine Af ?_
 refine Ac f Z λa f=>Ay ?_
 refine Ab f Z λa f=>Bd underlying60 f Z Z h0 λa f=> ?_
 have⟨aa,ab,hd⟩:=bind_some hd
 refine A3 f Z call137 (Wk.P0 m ab) λac w ad m a f=>Ac f Z λa f=>Aa ?_
 refine Ap ?_
 obtain rfl:=sj hd
 exact⟨[(.int .u32 aa)],f.g Z,f.d,_,[],ad,m,Z,Z⟩
theorem Wk.u {x0:Int}(hW:Ct W)(m:Mem W G w (H)){y:Int}(hd:D.u x0=some y):
  Calls prog 122 #[(.int .u32 x0)] w (Res W G H (λ_ Ho v=>Ho=[]∧v=(iv y))):=by
 refine Au (args:=[(.int .u32 x0)]) (N:=5) [.tmp 2] func122 Z Z (lb Z) Z λa f=> ?_
 unfold D.u at hd
 refine Af ?_
 refine Ac f Z λa f=>Ay ?_
 refine Ab f Z λa f=> ?_
 have⟨aa,ab,hd⟩:=bind_some hd
 refine A3 f Z call151 (Wk.Q0 hW m ab) λac w ad m a f=>Ac f Z λa f=>Aa ?_
 refine Ap ?_
 obtain rfl:=sj hd
 exact⟨[(iv aa)],f.g Z,f.d,_,[],ad,m,Z,Z⟩
theorem Wk.d {x0:Int}(hW:Ct W)(m:Mem W G w (H)){y:(LI)}(hd:D.d x0=some y):
  Calls prog 61 #[(.int .u32 x0)] w (Res W G H (λG' Ho v=>∃r0:Value,∃i0:Itm,Ho=[i0]∧r0=v∧Ow R0 3 G' i0 r0 y)):=by
 refine Au (args:=[(.int .u32 x0)]) (N:=17) [.tmp 2] func61 Z Z (lb Z) Z λa f=> ?_
 unfold D.d at hd
 refine Af ?_
 refine Ac f Z λa f=>Ay ?_
 refine Bo (R:=R0) (xs:=([]:LI)) (RI.one _) m T72 f Z Z Z (by decide) (All2.nil _) λaa ab w a m ac f=>Ac f Z λa f=>Aa (Ag ?_)
 have⟨ad,ae,hd⟩:=bind_some hd
 refine AJ (λa w=>∃af:LI,af=ad∧∃(ag:GH) (ah:Value) (ai:Itm),GLe G ag∧Fr a 17 [(3,ah)]∧Mem W ag w (ai::H)∧Ow R0 3 ag ai ah af) ?_ ?_
 ·refine Al ?_
  refine AE (λaj a w=>∃ak:Int,∃al:LI,(ak,al)=aj∧∃(am:GH) (an:Value) (ao:Itm),GLe G am∧Fr a 17 [(0,(.int .u32 ak)),(3,an)]∧Mem W am w (ao::H)∧Ow R0 3 am ao an al) ae ⟨_,_,Z,_,ab,aa,gr,f.k Z,m,ac⟩ ?_
  clear ae f m
  rintro aj ap aq ar a w ⟨ak,al,rfl,am,an,ao,au,f,m,av⟩
  refine Ag (Af ?_)
  refine Ab f Z λa f=>Ah f Z Z Dz λa f=>Aa ?_
  rcases Ae aq with⟨aw,aq⟩|⟨aw,aq⟩
  ·refine Am f Z aw ?_
   refine An ?_
   refine Ag (Al (Ak ?_))
   refine Ab f Z λa f=>Ab f Z λa f=> ?_
   have⟨ax,ay,aq⟩:=bind_some aq
   refine A3 f Z call122 (Wk.u hW m ay) λaz w aA m a f=> ?_
   have av:=od1 aA av
   refine Bo (R:=R0) (xs:=([ax]:LI)) (RI.one _) m T72 f Z Z Z (by decide) (All2.cons Z (All2.nil _)) λaB aC w a m aD f=> ?_
   have⟨aE,aF,aq⟩:=bind_some aq
   refine Bz (RI.one _) 1 m av Z T72 Z (by decide) f Z Z Z (Ow.src (j:=0) aD m Z) aF λaG aH w a m aI f=>Ac f Z λa f=>Aa (Ak ?_)
   refine Ab f Z λa f=>Ab f Z λa f=>Ah f Z Z AR λa f=>Ah f Z Z CB λa f=>Ac f Z λa f=>Aa ?_
   have m:=m.fr 1
   have m:=m.eraseAt 1
   obtain rfl:=sj aq
   exact⟨_,Z,_,_,Z,_,aH,aG,(gt au aA),f.k Z,m,aI⟩
  ·refine Aj f Z aw ?_
   refine AB Z ?_
   obtain rfl:=sj aq
   obtain rfl:=ar _ rfl
   exact⟨_,Z,_,an,ao,au,f.k Z,m,av⟩
 ·rintro a w ⟨af,rfl,ag,ah,ai,aJ,f,m,aK⟩
  refine Af ?_
  refine Ab f Z λa f=>Ac f Z λa f=>Aa ?_
  refine Ap ?_
  obtain rfl:=sj hd
  exact⟨[ah],f.g Z,f.d,_,[ai],aJ,m,_,_,Z,Z,aK⟩
theorem Wk.k {x0 x1:Int}(m:Mem W G w (H)){y:Bool}(hd:D.k x0 x1=some y):
  Calls prog 68 #[(.int .u32 x0),(iv x1)] w (Res W G H (λ_ Ho v=>Ho=[]∧v=(.bool y))):=by
 refine Au (args:=[(.int .u32 x0),(iv x1)]) (N:=10) [.tmp 4] func68 Z Z (lb Z) Z λa f=> ?_
 unfold D.k at hd
 refine Af ?_
 refine Ac f Z λa f=>Ay ?_
 refine Ab f Z λa f=>Ab f Z λa f=> ?_
 obtain⟨aa,hd⟩:=BZ hd
 refine l_o f (Dv (f.e Z) (f.e Z) aa) λa f=>Ah f Z Z CB λa f=>Ah f Z Z BF λa f=>Ac f Z λa f=>Aa ?_
 refine Ap ?_
 obtain rfl:=sj hd
 exact⟨[(.bool ((iand .u32 (Bp .u32 x0 x1) 1)==1))],f.g Z,f.d,_,[],gr,m,Z,Z⟩
end Go.Proofs.YtfmaahgchbfbiaaDoor

set_option maxRecDepth 100000
namespace Go.Proofs.YtfmaahgchbfbiaaDoor
open Go Go.Sx
open Go.Proofs.Tryd Go.Proofs.YtfmaahgchbfbiaaDoor.Tryd IntKind
variable {W w : World} {G : GH} {H : List Itm}
theorem T59 :SlT prog 59 71 1 4 (.int .u32 0):=⟨underlying59,Tryd.t71,by kernel_rfl,by kernel_rfl,by kernel_rfl,by kernel_rfl⟩
theorem Pl71 :BO prog 71:=isAgg71
theorem Pl60 :BO prog 60:=isAgg60
theorem Wk.P {v0:Value}{x0:LI}{x1:Int}(hW:Ct W)(m:Mem W G w (H))(h0:RSl (RI .u32) G v0 x0){y:(LI)}(hd:D.P x0 x1=some y):
  Calls prog 92 #[v0,(.int .u32 x1)] w (Res W G H (λG' Ho v=>∃r0:Value,∃i0:Itm,Ho=[i0]∧r0=v∧Ow (RI .u32) 71 G' i0 r0 y)):=by
 refine Au (args:=[v0,(.int .u32 x1)]) (N:=70) [.tmp 4] func92 Z Z (lb Z) Z λa f=> ?_
 unfold D.P at hd
 refine Af ?_
 refine Ac f Z λa f=>Ay ?_
 refine Ab f Z λa f=> ?_
 have⟨aa,ab,hd⟩:=bind_some hd
 refine A3 f Z call94 (Wk.g m h0 ab) λac w ad m a f=> ?_
 have h0:=rd1 ad h0
 refine Ac f Z λa f=>Ay ?_
 refine Ab f Z λa f=>Ah f Z Z Ax λa f=> ?_
 have⟨ae,af,hd⟩:=bind_some hd
 refine l_make (R:=(RI .u32)) m T59 Z (by decide) Z f Z Z Z af λag ah w a m ai f=>Ac f Z λa f=>Ay ?_
 refine Ab f Z λa f=>Ab f Z λa f=>Ab f Z λa f=> ?_
 have⟨aj,ak,hd⟩:=bind_some hd
 refine A6 0 m ai Z T59 f Z Z Z ak λal a am f=>AF 0 m ai Z sizeOf71 f Z Z am ak Z Z Z λan w m ao=>Aa (Ag (Af ?_))
 refine Ab f Z λa f=>l_o f (BP (f.e Z) ⟨_,underlying71⟩ underlying3) λa f=>Ah f Z Z AR λa f=>Ac f Z λa f=>Aa ?_
 have⟨ap,aq,hd⟩:=bind_some hd
 refine AJ (λa w=>∃ar:LI,ar=ap∧∃(au:GH) (av:Itm),GLe ac au∧Fr a 70 [(6,ah)]∧Mem W au w (av::H)∧Ow (RI .u32) 71 au av ah ar) ?_ ?_
 ·refine Al ?_
  refine AE (λaw a w=>∃ax:LI,∃ay:Int,(ax,ay)=aw∧∃(az:GH) (aA:Itm),GLe ac az∧Fr a 70 [(0,v0),(6,ah),(7,(iv ay))]∧Mem W az w (aA::H)∧Ow (RI .u32) 71 az aA ah ax) aq ⟨_,_,Z,_,an,gr,f.k Z,m,ao⟩ ?_
  clear aq f m
  rintro aw aB aC aD a w ⟨ax,ay,rfl,az,aA,aE,f,m,aF⟩
  have h0:=rd1 aE h0
  refine Ag (Af ?_)
  refine Ab f Z λa f=>Ah f Z Z Cc λa f=>Aa ?_
  rcases Ae aC with⟨aG,aC⟩|⟨aG,aC⟩
  ·refine Am f Z aG ?_
   refine An ?_
   refine Ag (Al (Af ?_))
   refine Ab f Z λa f=>l_o f (BP (f.e Z) ⟨_,underlying3⟩ underlying71) λa f=> ?_
   have⟨aH,aI,aC⟩:=bind_some aC
   refine AO f Z call61 (Wk.d hW m aI) λaJ aK aL w aM m aN a f=> ?_
   obtain⟨aO,aP,rfl,rfl,aQ⟩:=aN
   have h0:=rd1 aM h0
   have aF:=od1 aM aF
   refine Br 0 m aQ Z underlying72 f Z Z λa f=>Ab f Z λa f=>Aa ?_
   have⟨aR,aS,aC⟩:=bind_some aC
   refine AJ (λa w=>∃aT:LI,aT=aR∧∃(aU:GH) (aV:Itm),GLe aK aU∧Fr a 70 [(0,v0),(6,ah),(7,(iv ay))]∧Mem W aU w (aV::H)∧Ow (RI .u32) 71 aU aV ah aT) ?_ ?_
   ·refine Al ?_
    have m:=m.fr 1
    refine AE (λaW a w=>∃aX:LI,∃aY:Int,(aX,aY)=aW∧∃(aZ:GH) (a0:Itm),GLe aK aZ∧Fr a 70 [(0,v0),(6,ah),(7,(iv ay)),(30,aO),(31,(iv (aH.length:Int))),(32,(iv aY))]∧Mem W aZ w (a0::aP::H)∧Ow (RI .u32) 71 aZ a0 ah aX) aS ⟨_,_,Z,_,aA,gr,f.k Z,m,aF⟩ ?_
    clear aS f m
    rintro aW a1 a2 a3 a w ⟨aX,aY,rfl,aZ,a0,a4,f,m,a5⟩
    have h0:=rd1 a4 h0
    have aQ:=od1 a4 aQ
    refine Af ?_
    refine Ah f Z Z AQ λa f=>Aa (Ag ?_)
    rcases Ae a2 with⟨a6,a2⟩|⟨a6,a2⟩
    ·refine Am f Z a6 ?_
     refine An ?_
     refine Ag (Al (Af ?_))
     have⟨a7,a8,a2⟩:=bind_some a2
     refine A6 1 m aQ Z T72 f Z Z Z a8 λa9 a ba f=>BB 1 m aQ Z Pl3 f Z Z ba a8 λbb a bc f=> ?_
     subst bc
     refine Ac f Z λa f=>Ay ?_
     refine Ab f Z λa f=>Ab f Z λa f=> ?_
     have⟨bd,be,a2⟩:=bind_some a2
     refine By T60 f Z Z Z h0 be λbf bg a bh bi f=> ?_
     subst bi
     refine AU m Pl71 f Z Z bh λa f=>Ab f Z λa f=>l_o f (BP (f.e Z) ⟨_,underlying3⟩ underlying71) λa f=>Ah f Z Z Dh λa f=> ?_
     have⟨bj,bk,a2⟩:=bind_some a2
     refine AO f Z call61 (Wk.d hW m bk) λbl bm bn w bo m bp a f=> ?_
     obtain⟨bq,br,rfl,rfl,bs⟩:=bp
     have a5:=od1 bo a5
     refine Br 0 m bs Z underlying72 f Z Z λa f=>Ab f Z λa f=>Aa ?_
     have⟨bt,bu,a2⟩:=bind_some a2
     refine AJ (λa w=>∃bv:LI,bv=bt∧∃(bw:GH) (bx:Itm),GLe bm bw∧Fr a 70 [(0,v0),(6,ah),(7,(iv ay)),(30,aO),(31,(iv (aH.length:Int))),(32,(iv aY))]∧Mem W bw w (bx::aP::H)∧Ow (RI .u32) 71 bw bx ah bv) ?_ ?_
     ·refine Al ?_
      have m:=m.fr 2
      have m:=m.fr 2
      refine AE (λbz a w=>∃bA:Int,bA=bz∧∃(bB:GH),GLe bm bB∧Fr a 70 [(0,v0),(6,ah),(7,(iv ay)),(9,(iv a7)),(30,aO),(31,(iv (aH.length:Int))),(32,(iv aY)),(43,bq),(44,(iv (bj.length:Int))),(45,(iv bA))]∧Mem W bB w (a0::aP::br::H)) bu ⟨_,Z,_,gr,f.k Z,m⟩ ?_
      clear bu f m
      rintro bz bC bD bE a w ⟨bA,rfl,bB,bF,f,m⟩
      have a5:=od1 bF a5
      have bs:=od1 bF bs
      refine Af ?_
      refine Ah f Z Z AQ λa f=>Aa (Ag ?_)
      rcases Ae bD with⟨bG,bD⟩|⟨bG,bD⟩
      ·refine Am f Z bG ?_
       refine An ?_
       refine Ag (Al (Af ?_))
       have⟨bH,bI,bD⟩:=bind_some bD
       refine A6 2 m bs Z T72 f Z Z Z bI λbJ a bK f=>BB 2 m bs Z Pl3 f Z Z bK bI λbL a bM f=> ?_
       subst bM
       refine Ac f Z λa f=>Ay ?_
       refine Ab f Z λa f=>Ab f Z λa f=>l_o f (BP (f.e Z) ⟨_,underlying3⟩ underlying71) λa f=>Ab f Z λa f=> ?_
       have⟨bN,bO,bD⟩:=bind_some bD
       refine A3 f Z call99 (Wk.b m bO) λbP w bQ m a f=> ?_
       have a5:=od1 bQ a5
       refine Ah f Z Z b_or λa f=> ?_
       have⟨bR,bS,bD⟩:=bind_some bD
       refine A6 0 m a5 Z T59 f Z Z Z bS λbT a bU f=>BB 0 m a5 Z Pl71 f Z Z bU bS λbV a bW f=> ?_
       subst bW
       refine Ab f Z λa f=> ?_
       have⟨bX,bY,bD⟩:=bind_some bD
       refine A3 f Z call68 (Wk.k m bY) λbZ w b0 m a f=> ?_
       have a5:=od1 b0 a5
       refine Aa ?_
       rcases Ae bD with⟨b1,bD⟩|⟨b1,bD⟩
       ·refine Am f Z b1 ?_
        refine Ag ?_
        refine A7 8 AI (by kernel_rfl) m ?_
        refine Ai 0 8 Z f Z λa f=>Ai 1 8 Z f Z λa f=> ?_
        have⟨b2,b3,bD⟩:=bind_some bD
        refine AL 2 8 0 m a5 T59 b3 Z f Z Z λb4 a b5 f=>A4 3 8 0 a5 Pl71 b5 b3 Z f Z λb6 a b7 f=> ?_
        subst b7
        refine Ai 4 8 Z f Z λa f=> ?_
        have⟨b8,b9,bD⟩:=bind_some bD
        refine Bi (i:=5) 8 Z (by kernel_rfl) Z f Z Z Z call99 (λ_ _ w ca m=>Wk.b m b9) λa f=>q_p 6 8 Z f (λ_=>AK (f.e Z) (f.e Z) b_or) λa f=> ?_
        have⟨cb,cc,bD⟩:=bind_some bD
        refine AL 7 8 0 m a5 T59 cc Z f Z Z λcd a ce f=>AW λcf w cg m=> ?_
        have a5:=od1 cg a5
        refine AF 0 m a5 Z sizeOf71 f Z Z ce cc Z Z Z λch w m ci=>Aa ?_
        refine AB Z ?_
        have m:=m.eraseAt 2
        obtain rfl:=sj bD
        obtain rfl:=bE _ rfl
        exact⟨_,Z,_,ch,(gt bF (gt bQ (gt b0 cg))),f.k Z,m,ci⟩
       ·refine Aj f Z b1 ?_
        refine An ?_
        refine Ak ?_
        refine Ah f Z Z Ax λa f=>Ab f Z λa f=>Aa ?_
        obtain rfl:=sj bD
        exact⟨_,Z,_,Z,_,(gt bF (gt bQ b0)),f.k Z,m⟩
      ·refine Aj f Z bG ?_
       refine AB Z ?_
       have m:=m.eraseAt 2
       obtain rfl:=sj bD
       obtain rfl:=bE _ rfl
       exact⟨_,Z,_,a0,bF,f.k Z,m,a5⟩
     ·rintro a w ⟨bv,rfl,bw,bx,cj,f,m,ck⟩
      refine Ak ?_
      refine Ah f Z Z Ax λa f=>Ab f Z λa f=>Aa ?_
      obtain rfl:=sj a2
      exact⟨_,Z,_,_,Z,_,bx,(gt a4 (gt bo cj)),f.k Z,m,ck⟩
    ·refine Aj f Z a6 ?_
     refine AB Z ?_
     have m:=m.eraseAt 1
     obtain rfl:=sj a2
     obtain rfl:=a3 _ rfl
     exact⟨_,Z,_,a0,a4,f.k Z,m,a5⟩
   ·rintro a w ⟨aT,rfl,aU,aV,cl,f,m,cm⟩
    refine Ak ?_
    refine Ab f Z λa f=>Ah f Z Z AR λa f=>Ac f Z λa f=>Aa ?_
    obtain rfl:=sj aC
    exact⟨_,Z,_,_,Z,_,aV,(gt aE (gt aM cl)),f.k Z,m,cm⟩
  ·refine Aj f Z aG ?_
   refine AB Z ?_
   obtain rfl:=sj aC
   obtain rfl:=aD _ rfl
   exact⟨_,Z,_,aA,aE,f.k Z,m,aF⟩
 ·rintro a w ⟨ar,rfl,au,av,cn,f,m,co⟩
  refine Af ?_
  refine Ab f Z λa f=>Ac f Z λa f=>Aa ?_
  refine Ap ?_
  obtain rfl:=sj hd
  exact⟨[ah],f.g Z,f.d,_,[av],(gt ad cn),m,_,_,Z,Z,co⟩
theorem Wk.A {v0 v2:Value}{x0:LI}{x1:Int}{x2:LI}(hW:Ct W)(m:Mem W G w (H))(h0:RSl (RI .u32) G v0 x0)(h2:RSl (RI .u32) G v2 x2){y:(LI)}(hd:D.A x0 x1 x2=some y):
  Calls prog 91 #[v0,(iv x1),v2] w (Res W G H (λG' Ho v=>∃r0:Value,∃i0:Itm,Ho=[i0]∧r0=v∧Ow R0 3 G' i0 r0 y∧isNil r0=y.isEmpty)):=by
 refine Au (args:=[v0,(iv x1),v2]) (N:=58) [.tmp 6] func91 Z Z (lb Z) Z λa f=> ?_
 unfold D.A at hd
 refine Af ?_
 refine Ac f Z λa f=>Ay ?_
 refine Ab f Z λa f=> ?_
 have⟨aa,ab,hd⟩:=bind_some hd
 refine A3 f Z call99 (Wk.b m ab) λac w ad m a f=> ?_
 have h0:=rd1 ad h0
 have h2:=rd1 ad h2
 refine Ab f Z λa f=>Bo (R:=R0) (xs:=([x1]:LI)) (RI.one _) m T72 f Z Z Z (by decide) (All2.cons Z (All2.nil _)) λae af w a m ag f=>Ac f Z λa f=>Ac f Z λa f=>Aa (Ag (Af ?_))
 refine Ab f Z λa f=>Ab f Z λa f=> ?_
 have⟨ah,ai,hd⟩:=bind_some hd
 refine By T59 f Z Z Z h2 ai λaj ak a al am f=> ?_
 subst am
 refine AU m Pl71 f Z Z al λa f=>Ab f Z λa f=> ?_
 have⟨an,ao,hd⟩:=bind_some hd
 refine A3 f Z call68 (Wk.k m ao) λap w aq m a f=> ?_
 have h0:=rd1 aq h0
 have h2:=rd1 aq h2
 have ag:=od1 aq ag
 refine l_o f (Bg (f.e Z)) λa f=>Aa ?_
 rcases Ae hd with⟨ar,hd⟩|⟨ar,hd⟩
 ·refine Am f Z ar ?_
  refine Af ?_
  refine Ac f Z λa f=>Aa ?_
  refine Ap ?_
  obtain⟨au,m,av⟩:=Ow.nil R0 3 m
  have m:=m.eraseAt 1
  obtain rfl:=sj hd
  exact⟨[sn],f.g Z,f.d,_,[au],(gt ad aq),m,_,_,Z,Z,av,Z⟩
 ·refine Aj f Z ar ?_
  refine An ?_
  refine Ag ?_
  have⟨aw,ax,hd⟩:=bind_some hd
  refine AJ (λa w=>∃ay:LI,ay=aw∧∃(az:GH) (aA:Value) (aB:Itm),GLe ap az∧Fr a 58 [(8,aA)]∧Mem W az w (aB::H)∧Ow R0 3 az aB aA ay) ?_ ?_
  ·refine Al ?_
   refine AE (λaC a w=>∃aD:Int,∃aE:Int,∃aF:LI,(aD,aE,aF)=aC∧∃(aG:GH) (aH:Value) (aI:Itm),GLe ap aG∧Fr a 58 [(0,v0),(1,(iv aD)),(2,v2),(7,(.int .u32 aE)),(8,aH)]∧Mem W aG w (aI::H)∧Ow R0 3 aG aI aH aF) ax ⟨_,_,_,Z,_,af,ae,gr,f.k Z,m,ag⟩ ?_
   clear ax f m
   rintro aC aJ aK aL a w ⟨aD,aE,aF,rfl,aG,aH,aI,aM,f,m,aN⟩
   have h0:=rd1 aM h0
   have h2:=rd1 aM h2
   refine Ag (Af ?_)
   refine Ab f Z λa f=>Ab f Z λa f=> ?_
   have⟨aO,aP,aK⟩:=bind_some aK
   refine A3 f Z call94 (Wk.g m h0 aP) λaQ w aR m a f=> ?_
   have h0:=rd1 aR h0
   have h2:=rd1 aR h2
   have aN:=od1 aR aN
   refine Ah f Z Z Dz λa f=>Aa ?_
   rcases Ae aK with⟨aS,aK⟩|⟨aS,aK⟩
   ·refine Am f Z aS ?_
    refine An ?_
    refine Al (Ag (Af ?_))
    refine Ab f Z λa f=>Ab f Z λa f=> ?_
    have⟨aT,aU,aK⟩:=bind_some aK
    refine By T60 f Z Z Z h0 aU λaV aW a aX aY f=> ?_
    subst aY
    refine AU m Pl71 f Z Z aX λa f=>Ab f Z λa f=>Ah f Z Z Dh λa f=> ?_
    have⟨aZ,a0,aK⟩:=bind_some aK
    refine AO f Z call61 (Wk.d hW m a0) λa1 a2 a3 w a4 m a5 a f=> ?_
    obtain⟨a6,a7,rfl,rfl,a8⟩:=a5
    have h2:=rd1 a4 h2
    have aN:=od1 a4 aN
    refine Br 0 m a8 Z underlying72 f Z Z λa f=>Ab f Z λa f=>Aa ?_
    have⟨a9,ba,aK⟩:=bind_some aK
    refine AJ (λa w=>∃bb:Int,bb=a9∧∃(bc:GH),GLe a2 bc∧Fr a 58 [(0,v0),(1,(iv bb)),(2,v2),(7,(.int .u32 aE)),(8,aH)]∧Mem W bc w (aI::H)) ?_ ?_
    ·refine Al ?_
     have m:=m.fr 1
     refine AE (λbd a w=>∃be:Int,be=bd∧∃(bf:GH),GLe a2 bf∧Fr a 58 [(0,v0),(1,(iv aD)),(2,v2),(7,(.int .u32 aE)),(8,aH),(32,a6),(33,(iv (aZ.length:Int))),(34,(iv be))]∧Mem W bf w (aI::a7::H)) ba ⟨_,Z,_,gr,f.k Z,m⟩ ?_
     clear ba f m
     rintro bd bg bh bi a w ⟨be,rfl,bf,bj,f,m⟩
     have h2:=rd1 bj h2
     have a8:=od1 bj a8
     refine Af ?_
     refine Ah f Z Z AQ λa f=>Aa (Ag ?_)
     rcases Ae bh with⟨bk,bh⟩|⟨bk,bh⟩
     ·refine Am f Z bk ?_
      refine An ?_
      refine Ag (Al (Af ?_))
      have⟨bl,bm,bh⟩:=bind_some bh
      refine A6 1 m a8 Z T72 f Z Z Z bm λbn a bo f=>BB 1 m a8 Z Pl3 f Z Z bo bm λbp a bq f=> ?_
      subst bq
      refine Ac f Z λa f=>Ay ?_
      refine Ab f Z λa f=>Ab f Z λa f=>Ab f Z λa f=> ?_
      have⟨br,bs,bh⟩:=bind_some bh
      refine A3 f Z call99 (Wk.b m bs) λbt w bu m a f=> ?_
      have h2:=rd1 bu h2
      refine Ah f Z Z b_or λa f=> ?_
      have⟨bv,bw,bh⟩:=bind_some bh
      refine By T59 f Z Z Z h2 bw λbx bz a bA bB f=> ?_
      subst bB
      refine AU m Pl71 f Z Z bA λa f=>Ab f Z λa f=> ?_
      have⟨bC,bD,bh⟩:=bind_some bh
      refine A3 f Z call68 (Wk.k m bD) λbE w bF m a f=>Aa ?_
      rcases Ae bh with⟨bG,bh⟩|⟨bG,bh⟩
      ·refine Am f Z bG ?_
       refine Af ?_
       refine Ab f Z λa f=>Ac f Z λa f=>Aa ?_
       refine AB Z ?_
       have m:=m.eraseAt 1
       obtain rfl:=sj bh
       obtain rfl:=bi _ rfl
       exact⟨_,Z,_,(gt bj (gt bu bF)),f.k Z,m⟩
      ·refine Aj f Z bG ?_
       refine An ?_
       refine Ak ?_
       refine Ah f Z Z Ax λa f=>Ab f Z λa f=>Aa ?_
       obtain rfl:=sj bh
       exact⟨_,Z,_,Z,_,(gt bj (gt bu bF)),f.k Z,m⟩
     ·refine Aj f Z bk ?_
      refine AB Z ?_
      have m:=m.eraseAt 1
      obtain rfl:=sj bh
      obtain rfl:=bi _ rfl
      exact⟨_,Z,_,bj,f.k Z,m⟩
    ·rintro a w ⟨bb,rfl,bc,bH,f,m⟩
     have aN:=od1 bH aN
     refine Af ?_
     refine Ab f Z λa f=>Ab f Z λa f=> ?_
     have⟨bI,bJ,aK⟩:=bind_some aK
     refine A3 f Z call99 (Wk.b m bJ) λbK w bL m a f=> ?_
     have aN:=od1 bL aN
     refine Ah f Z Z b_or λa f=>Ac f Z λa f=>Aa (Ak ?_)
     refine Ab f Z λa f=>Ab f Z λa f=>Bo (R:=R0) (xs:=([bb]:LI)) (RI.one _) m T72 f Z Z Z (by decide) (All2.cons Z (All2.nil _)) λbM bN w a m bO f=> ?_
     have⟨bP,bQ,aK⟩:=bind_some aK
     refine Bz (RI.one _) 1 m aN Z T72 Z (by decide) f Z Z Z (Ow.src (j:=0) bO m Z) bQ λbR bS w a m bT f=>Ac f Z λa f=>Aa ?_
     have m:=m.fr 1
     have m:=m.eraseAt 1
     obtain rfl:=sj aK
     exact⟨_,Z,_,_,_,Z,_,bS,bR,(gt aM (gt aR (gt a4 (gt bH bL)))),f.k Z,m,bT⟩
   ·refine Aj f Z aS ?_
    refine AB Z ?_
    obtain rfl:=sj aK
    obtain rfl:=aL _ rfl
    exact⟨_,Z,_,aH,aI,(gt aM aR),f.k Z,m,aN⟩
  ·rintro a w ⟨ay,rfl,az,aA,aB,bU,f,m,bV⟩
   refine Af ?_
   refine Ab f Z λa f=>Ac f Z λa f=>Aa ?_
   refine Ap ?_
   have⟨_,bW,hd⟩:=bind_some hd
   have hx_731':=Ow.notNil 0 m bV rfl bW
   obtain rfl:=sj hd
   exact⟨[aA],f.g Z,f.d,_,[aB],(gt ad (gt aq bU)),m,_,_,Z,Z,bV,hx_731'⟩
theorem Wk.t {v0:Value}{x0:LI}(m:Mem W G w (H))(h0:R1 G v0 x0){y:(LI)}(hd:D.t x0=some y):
  Calls prog 93 #[v0] w (Res W G H (λG' Ho v=>∃r0:Value,∃i0:Itm,Ho=[i0]∧r0=v∧Ow R0 2 G' i0 r0 y)):=by
 refine Au (args:=[v0]) (N:=21) [.tmp 2] func93 Z Z (lb Z) Z λa f=> ?_
 unfold D.t at hd
 refine Af ?_
 refine Ac f Z λa f=>Ay ?_
 refine Ab f Z λa f=>Bd underlying72 f Z Z h0 λa f=> ?_
 have⟨aa,ab,hd⟩:=bind_some hd
 refine l_make (R:=R0) m T43 Z (by decide) Z f Z Z Z ab λac ad w a m ae f=>Ac f Z λa f=>Aa (Ag (Af ?_))
 refine Ab f Z λa f=>Bd underlying72 f Z Z h0 λa f=>Ab f Z λa f=>Aa ?_
 have⟨af,ag,hd⟩:=bind_some hd
 refine AJ (λa w=>∃ah:LI,ah=af∧∃(ai:GH) (aj:Value) (ak:Itm),GLe G ai∧Fr a 21 [(3,aj)]∧Mem W ai w (ak::H)∧Ow R0 2 ai ak aj ah) ?_ ?_
 ·refine Al ?_
  refine AE (λal a w=>∃am:LI,∃an:Int,(am,an)=al∧∃(ao:GH) (ap:Value) (aq:Itm),GLe G ao∧Fr a 21 [(3,ap),(9,v0),(10,(iv (x0.length:Int))),(11,(iv an))]∧Mem W ao w (aq::H)∧Ow R0 2 ao aq ap am) ag ⟨_,_,Z,_,ad,ac,gr,f.k Z,m,ae⟩ ?_
  clear ag f m
  rintro al ar au av a w ⟨am,an,rfl,ao,ap,aq,aw,f,m,ax⟩
  have h0:=rd1 aw h0
  refine Af ?_
  refine Ah f Z Z AQ λa f=>Aa (Ag ?_)
  rcases Ae au with⟨ay,au⟩|⟨ay,au⟩
  ·refine Am f Z ay ?_
   refine An ?_
   refine Ag (Al (Af ?_))
   have⟨az,aA,au⟩:=bind_some au
   refine By T72 f Z Z Z h0 aA λaB aC a aD aE f=> ?_
   subst aE
   refine AU m Pl3 f Z Z aD λa f=>Ac f Z λa f=>Aa (Ak ?_)
   refine Ab f Z λa f=>Ab f Z λa f=>Bo (R:=R0) (xs:=([az]:LI)) (RI.one _) m T43 f Z Z Z (by decide) (All2.cons Z (All2.nil _)) λaF aG w a m aH f=> ?_
   have⟨aI,aJ,au⟩:=bind_some au
   refine Bz (RI.one _) 1 m ax Z T43 Z (by decide) f Z Z Z (Ow.src (j:=0) aH m Z) aJ λaK aL w a m aM f=>Ac f Z λa f=>Aa (Ak ?_)
   refine Ah f Z Z Ax λa f=>Ab f Z λa f=>Aa ?_
   have m:=m.fr 1
   have m:=m.eraseAt 1
   obtain rfl:=sj au
   exact⟨_,Z,_,_,Z,_,aL,aK,aw,f.k Z,m,aM⟩
  ·refine Aj f Z ay ?_
   refine AB Z ?_
   obtain rfl:=sj au
   obtain rfl:=av _ rfl
   exact⟨_,Z,_,ap,aq,aw,f.k Z,m,ax⟩
 ·rintro a w ⟨ah,rfl,ai,aj,ak,aN,f,m,aO⟩
  refine Af ?_
  refine Ab f Z λa f=>Ac f Z λa f=>Aa ?_
  refine Ap ?_
  obtain rfl:=sj hd
  exact⟨[aj],f.g Z,f.d,_,[ak],aN,m,_,_,Z,Z,aO⟩
theorem Wk.j0 {aa:Value}{ab:LL}(hW:Ct W)(m:Mem W G w (H))(ac:R2 G aa ab){y:(LI)×Bool}(hd:D.j0 ab=some y):
  Calls prog 34 #[(.agg #[aa])] w (Res W G H (λG' Ho v=>∃r0:Value,∃i0:Itm,Ho=[i0]∧v= .tuple #[r0,(.bool y.2)]∧Ow R0 2 G' i0 r0 y.1)):=by
 refine Au (args:=[(.agg #[aa])]) (N:=28) [.tmp 2,.tmp 3] func34 Z Z (lb Z) Z λa f=> ?_
 unfold D.j0 at hd
 refine Af ?_
 refine Bu (cs:=[aa]) m f Z Z Z λad w a m f=>Ac f Z λa f=>Ac f Z λa f=>Aa (Ag (Af ?_))
 refine AG 0 0 (ds:=[aa]) m AX f Z Z Z Z Z λa f=> ?_
 have⟨ae,af,hd⟩:=bind_some hd
 refine A3 f Z call52 (Wk.i m ac af) λag w ah m a f=> ?_
 have ac:=rd2 ah ac
 refine l_o f (Bg (f.e Z)) λa f=>Ab f Z λa f=> ?_
 refine Bj 5 (λa w=>∃ai,GLe ag ai∧Mem W ai w (ib ad 28 [aa]::H)∧Fr a 28 [(0,(.agg #[aa])),(1,(pb ad)),(6,(.agg #[aa])),(7,(.bool ae)),(8,(.bool (!ae))),(9,(.bool (!ae))),(14,(.bool ((!ae)||(decide ((ab.length:Int)<3)))))]) ?_ ?_
 ·rcases Bool.eq_false_or_eq_true (!ae) with aj|aj
  ·refine Aw f aj λa f=> ?_
   refine Aw f aj λa f=>Aw f aj λa f=>Aw f aj λa f=>l_o f (AD (f.e Z) aj (f.e Z)) λa f=> ?_
   exact⟨_,gr,m,f.weak ⟨Z,Z,Z,Z,Z,Z,by rw[aj];rfl,trivial⟩⟩
  ·refine As f aj ?_
   refine Cb underlying28 Z sizeOf22 f Z λa f=>As f aj ?_
   refine A5 0 0 m BU f Z Z Z Z λa f=>As f aj ?_
   refine Bd underlying22 f Z Z ac λa f=>As f aj ?_
   refine Ah f Z Z AQ λa f=>l_o f (AC (f.e Z) aj (f.e Z)) λa f=> ?_
   exact⟨_,gr,m,f.weak ⟨Z,Z,Z,Z,Z,Z,by rw[aj];rfl,trivial⟩⟩
 ·rintro a w ⟨ai,ak,m,f⟩
  have ac:=rd2 ak ac
  refine Aa ?_
  rcases Ae hd with⟨al,hd⟩|⟨al,hd⟩
  ·refine Am f Z al ?_
   refine Af ?_
   refine Ac f Z λa f=>Ac f Z λa f=>Aa ?_
   refine Ap ?_
   obtain⟨am,m,an⟩:=Ow.nil R0 2 m
   have m:=m.eraseAt 1
   obtain rfl:=sj hd
   exact⟨[sn,(.bool false)],⟨f.get _ _ Z,f.get _ _ Z,trivial⟩,f.d,_,[am],(gt ah ak),m,_,_,Z,Z,an⟩
  ·refine Aj f Z al ?_
   refine An ?_
   refine Af ?_
   refine AG 0 0 (ds:=[aa]) m AX f Z Z Z Z Z λa f=> ?_
   have⟨ao,ap,hd⟩:=bind_some hd
   refine AO f Z call54 (Wk.p m ac ap) λaq ar au w av m aw a f=> ?_
   obtain⟨ax,ay,rfl,rfl,az⟩:=aw
   refine Ac f Z λa f=>Ay ?_
   refine Ab f Z λa f=>Ab f Z λa f=>Ab f Z λa f=> ?_
   have⟨aA,aB,hd⟩:=bind_some hd
   refine A6 0 m az Z T60 f Z Z Z aB λaC a aD f=>BB 0 m az Z Pl71 f Z Z aD aB λaE a aF f=> ?_
   subst aF
   have⟨aG,aH,hd⟩:=bind_some hd
   refine AO f Z call92 (Ow.lendCall (RI.mono _) 0 az m Z (λaI aJ m aK=>Wk.P hW m aK aH) (λ_ G' _ _ ⟨a0,a1,e1,e2,o0⟩=>⟨a0,a1,e1,e2,Ow.free (RI.free _) G' o0⟩)) λaL aM aN w aO m aP a f=> ?_
   obtain⟨aQ,aR,rfl,rfl,aS⟩:=aP
   have az:=od1 aO az
   have m:=m.fr 1
   obtain⟨aT,aU,m,aV⟩:=Ow.stamp (RI.mono _) az m
   have aS:=od1 aU aS
   obtain⟨aW,aX,m,aY⟩:=Ow.stamp (RI.mono _) aS m
   have aV:=rd1 aX aV
   have⟨aZ,a2,hd⟩:=bind_some hd
   refine AO f Z call91 (Wk.A hW m aV aY a2) λa3 a4 a5 w a6 m a7 a f=> ?_
   obtain⟨a8,a9,rfl,rfl,ba,bb⟩:=a7
   refine Ac f Z λa f=>Aa (Ag (Af ?_))
   refine Ab f Z λa f=>l_o f (r_nil_eql (f.e Z) (f.e Z) (Ow.hdr 0 m ba Z) underlying72 bb) λa f=>Aa ?_
   rcases Ae hd with⟨bc,hd⟩|⟨bc,hd⟩
   ·refine Am f Z bc ?_
    refine Af ?_
    refine Ac f Z λa f=>Ac f Z λa f=>Aa ?_
    refine Ap ?_
    obtain⟨bd,m,be⟩:=Ow.nil R0 2 m
    have m:=m.eraseAt 2
    have m:=m.eraseAt 1
    obtain rfl:=sj hd
    exact⟨[sn,(.bool false)],⟨f.get _ _ Z,f.get _ _ Z,trivial⟩,f.d,_,[bd],(gt ah (gt ak (gt av (gt aO (gt aU (gt aX a6)))))),m,_,_,Z,Z,be⟩
   ·refine Aj f Z bc ?_
    refine An ?_
    refine Af ?_
    refine Ab f Z λa f=> ?_
    have⟨bf,bg,hd⟩:=bind_some hd
    refine AO f Z call93 (Ow.lendCall (RI.mono _) 0 ba m Z (λbh bi m bj=>Wk.t m bj bg) (λ_ G' _ _ ⟨a0,a1,e1,e2,o0⟩=>⟨a0,a1,e1,e2,Ow.free (RI.free _) G' o0⟩)) λbk bl bm w bn m bo a f=> ?_
    obtain⟨bp,bq,rfl,rfl,br⟩:=bo
    refine Ac f Z λa f=>Ac f Z λa f=>Aa ?_
    refine Ap ?_
    have m:=m.eraseAt 2
    have m:=m.eraseAt 1
    obtain rfl:=sj hd
    exact⟨[bp,(.bool true)],⟨f.get _ _ Z,f.get _ _ Z,trivial⟩,f.d,_,[bq],(gt ah (gt ak (gt av (gt aO (gt aU (gt aX (gt a6 bn))))))),m,_,_,Z,Z,br⟩
theorem Wk.l0 {aa:Value}{ab:LL}(hW:Ct W)(m:Mem W G w (H))(ac:R2 G aa ab){y:(LI)×Bool}(hd:D.l0 ab=some y):
  Calls prog 35 #[(.agg #[aa])] w (Res W G H (λG' Ho v=>∃r0:Value,∃i0:Itm,Ho=[i0]∧v= .tuple #[r0,(.bool y.2)]∧Ow R0 2 G' i0 r0 y.1)):=by
 refine Au (args:=[(.agg #[aa])]) (N:=31) [.tmp 2,.tmp 3] func35 Z Z (lb Z) Z λa f=> ?_
 unfold D.l0 at hd
 refine Af ?_
 refine Bu (cs:=[aa]) m f Z Z Z λad w a m f=>Ac f Z λa f=>Ac f Z λa f=>Aa (Ag (Af ?_))
 refine AG 0 0 (ds:=[aa]) m AX f Z Z Z Z Z λa f=> ?_
 have⟨ae,af,hd⟩:=bind_some hd
 refine A3 f Z call52 (Wk.i m ac af) λag w ah m a f=> ?_
 have ac:=rd2 ah ac
 refine l_o f (Bg (f.e Z)) λa f=>Aa ?_
 rcases Ae hd with⟨ai,hd⟩|⟨ai,hd⟩
 ·refine Am f Z ai ?_
  refine Af ?_
  refine Ac f Z λa f=>Ac f Z λa f=>Aa ?_
  refine Ap ?_
  obtain⟨aj,m,ak⟩:=Ow.nil R0 2 m
  have m:=m.eraseAt 1
  obtain rfl:=sj hd
  exact⟨[sn,(.bool false)],⟨f.get _ _ Z,f.get _ _ Z,trivial⟩,f.d,_,[aj],ah,m,_,_,Z,Z,ak⟩
 ·refine Aj f Z ai ?_
  refine An ?_
  refine Af ?_
  refine AG 0 0 (ds:=[aa]) m AX f Z Z Z Z Z λa f=> ?_
  have⟨al,am,hd⟩:=bind_some hd
  refine AO f Z call54 (Wk.p m ac am) λan ao ap w aq m ar a f=> ?_
  obtain⟨au,av,rfl,rfl,aw⟩:=ar
  refine Ac f Z λa f=>Ay ?_
  refine Ab f Z λa f=>Ab f Z λa f=> ?_
  have⟨ax,ay,hd⟩:=bind_some hd
  refine AO f Z call94 (Ow.lendCall (RI.mono _) 0 aw m Z (λaz aA m aB=>Wk.g m aB ay) (λ_ _ _ _ h=>h)) λaC aD aE w aF m aG a f=> ?_
  obtain⟨rfl,rfl⟩:=aG
  have aw:=od1 aF aw
  have⟨aH,aI,hd⟩:=bind_some hd
  refine AO f Z call92 (Ow.lendCall (RI.mono _) 0 aw m Z (λaJ aK m aL=>Wk.P hW m aL aI) (λ_ G' _ _ ⟨a0,a1,e1,e2,o0⟩=>⟨a0,a1,e1,e2,Ow.free (RI.free _) G' o0⟩)) λaM aN aO w aP m aQ a f=> ?_
  obtain⟨aR,aS,rfl,rfl,aT⟩:=aQ
  have aw:=od1 aP aw
  refine Ac f Z λa f=>Aa (Ag (Af ?_))
  refine Ab f Z λa f=>Br 1 m aw Z underlying60 f Z Z λa f=>Ab f Z λa f=>Aa ?_
  have m:=m.fr 1
  obtain⟨aU,aV,m,aW⟩:=Ow.stamp (RI.mono _) aw m
  have aT:=od1 aV aT
  obtain⟨aX,aY,m,aZ⟩:=Ow.stamp (RI.mono _) aT m
  have aW:=rd1 aY aW
  have⟨a2,a3,hd⟩:=bind_some hd
  refine AJ (λa w=>∃q_119':Unit,a2= .inl q_119'∧∃(a4:GH),GLe aX a4∧Fr a 31 []∧Mem W a4 w (H)) ?_ ?_
  ·refine Al ?_
   have m:Mem W aX w H:=Mem.drop (H':=[ib ad 28 [aa]]) m
   refine AE (λa5 a w=>∃a6:LI,∃a7:LI,∃a8:Int,(a6,a7,a8)=a5∧∃(a9:GH) (ba:Value) (bb:Value),GLe aX a9∧Fr a 31 [(4,ba),(5,bb),(18,(iv (al.length:Int))),(19,(iv a8))]∧Mem W a9 w (H)∧RSl (RI .u32) a9 ba a6∧RSl (RI .u32) a9 bb a7) a3 ⟨_,_,_,Z,_,au,aR,gr,f.k Z,m,aW,aZ⟩ ?_
   clear a3 f m
   rintro a5 bc bd be a w ⟨a6,a7,a8,rfl,a9,ba,bb,bf,f,m,bg,bh⟩
   refine Af ?_
   refine Ah f Z Z AQ λa f=>Aa (Ag ?_)
   rcases Ae bd with⟨bi,bd⟩|⟨bi,bd⟩
   ·refine Am f Z bi ?_
    refine An ?_
    refine Ag (Al (Af ?_))
    refine Ab f Z λa f=>Ac f Z λa f=>Ay ?_
    refine Ab f Z λa f=>Ab f Z λa f=>Ab f Z λa f=> ?_
    have⟨bj,bk,bd⟩:=bind_some bd
    refine AO f Z call91 (Wk.A hW m bg bh bk) λbl bm bn w bo m bp a f=> ?_
    obtain⟨bq,br,rfl,rfl,bs,bt⟩:=bp
    have bg:=rd1 bo bg
    have bh:=rd1 bo bh
    refine Ac f Z λa f=>Ay ?_
    refine Ab f Z λa f=>l_o f (r_nil_neq (f.e Z) (f.e Z) (Ow.hdr 0 m bs Z) underlying72 bt) λa f=>Aa ?_
    rcases Ae bd with⟨bu,bd⟩|⟨bu,bd⟩
    ·refine Am f Z bu ?_
     refine Af ?_
     refine Ab f Z λa f=> ?_
     have⟨bv,bw,bd⟩:=bind_some bd
     refine AO f Z call93 (Ow.lendCall (RI.mono _) 0 bs m Z (λbx bz m bA=>Wk.t m bA bw) (λ_ G' _ _ ⟨a0,a1,e1,e2,o0⟩=>⟨a0,a1,e1,e2,Ow.free (RI.free _) G' o0⟩)) λbB bC bD w bE m bF a f=> ?_
     obtain⟨bG,bH,rfl,rfl,bI⟩:=bF
     refine Ac f Z λa f=>Ac f Z λa f=>Aa ?_
     refine Ap ?_
     have m:=m.eraseAt 1
     obtain rfl:=sj bd
     obtain rfl:=be _ rfl
     obtain rfl:=sj hd
     exact⟨[bG,(.bool true)],⟨f.get _ _ Z,f.get _ _ Z,trivial⟩,f.d,_,[bH],(gt ah (gt aq (gt aF (gt aP (gt aV (gt aY (gt bf (gt bo bE)))))))),m,_,_,Z,Z,bI⟩
    ·refine Aj f Z bu ?_
     refine An ?_
     refine Ak ?_
     refine Ah f Z Z Ax λa f=>Ab f Z λa f=>Aa ?_
     have m:Mem W bm w H:=Mem.drop (H':=[br]) m
     obtain rfl:=sj bd
     exact⟨_,Z,_,_,_,Z,_,ba,bb,(gt bf bo),f.k Z,m,bg,bh⟩
   ·refine Aj f Z bi ?_
    refine AB Z ?_
    obtain rfl:=sj bd
    obtain rfl:=be _ rfl
    exact⟨_,Z,_,bf,f.weak trivial,m⟩
  ·rintro a w ⟨_,rfl,a4,bJ,f,m⟩
   refine Af ?_
   refine Ac f Z λa f=>Ac f Z λa f=>Aa ?_
   refine Ap ?_
   obtain⟨bK,m,bL⟩:=Ow.nil R0 2 m
   obtain rfl:=sj hd
   exact⟨[sn,(.bool false)],⟨f.get _ _ Z,f.get _ _ Z,trivial⟩,f.d,_,[bK],(gt ah (gt aq (gt aF (gt aP (gt aV (gt aY bJ)))))),m,_,_,Z,Z,bL⟩
theorem Wk.V {v0:Value}{x0:LI}{x1 x2:Int}(hW:Ct W)(m:Mem W G w (H))(h0:RSl (RI .u32) G v0 x0){y:Int}(hd:D.V x0 x1 x2=some y):
  Calls prog 139 #[v0,(iv x1),(.int .u32 x2)] w (Res W G H (λ_ Ho v=>Ho=[]∧v=(.int .u32 y))):=by
 refine Au (args:=[v0,(iv x1),(.int .u32 x2)]) (N:=35) [.tmp 6] func139 Z Z (lb Z) Z λa f=> ?_
 unfold D.V at hd
 refine Af ?_
 refine Ac f Z λa f=>Ay ?_
 refine Ab f Z λa f=> ?_
 have⟨aa,ab,hd⟩:=bind_some hd
 refine A3 f Z call99 (Wk.b m ab) λac w ad m a f=> ?_
 have h0:=rd1 ad h0
 refine Ac f Z λa f=>Aa ?_
 have⟨ae,af,hd⟩:=bind_some hd
 refine Al ?_
 refine AE (λag a w=>∃ah:Int,ah=ag∧∃(ai:GH),GLe ac ai∧Fr a 35 [(0,v0),(2,(.int .u32 x2)),(7,(.int .u32 ah))]∧Mem W ai w (H)) af ⟨_,Z,_,gr,f.k Z,m⟩ ?_
 clear af f m
 rintro ag aj ak al a w ⟨ah,rfl,ai,am,f,m⟩
 have h0:=rd1 am h0
 refine Al (Af ?_)
 refine Ab f Z λa f=>Ac f Z λa f=>Aa (Ag (Af ?_))
 refine Ab f Z λa f=> ?_
 have⟨an,ao,ak⟩:=bind_some ak
 refine AO f Z call61 (Wk.d hW m ao) λap aq ar w au m av a f=> ?_
 obtain⟨aw,ax,rfl,rfl,ay⟩:=av
 have h0:=rd1 au h0
 refine Br 0 m ay Z underlying72 f Z Z λa f=>Ab f Z λa f=>Aa ?_
 have⟨az,aA,ak⟩:=bind_some ak
 refine AJ (λa w=>∃aB:Int,aB=az∧∃(aC:GH),GLe aq aC∧Fr a 35 [(0,v0),(2,(.int .u32 x2)),(7,(.int .u32 ah)),(8,(.int .u32 aB))]∧Mem W aC w (H)) ?_ ?_
 ·refine Al ?_
  refine AE (λaD a w=>∃aE:Int,∃aF:Int,(aE,aF)=aD∧∃(aG:GH),GLe aq aG∧Fr a 35 [(0,v0),(2,(.int .u32 x2)),(7,(.int .u32 ah)),(8,(.int .u32 aE)),(15,aw),(16,(iv (an.length:Int))),(17,(iv aF))]∧Mem W aG w (ax::H)) aA ⟨_,_,Z,_,gr,f.k Z,m⟩ ?_
  clear aA f m
  rintro aD aH aI aJ a w ⟨aE,aF,rfl,aG,aK,f,m⟩
  have h0:=rd1 aK h0
  have ay:=od1 aK ay
  refine Af ?_
  refine Ah f Z Z AQ λa f=>Aa (Ag ?_)
  rcases Ae aI with⟨aL,aI⟩|⟨aL,aI⟩
  ·refine Am f Z aL ?_
   refine An ?_
   refine Ag (Al (Af ?_))
   have⟨aM,aN,aI⟩:=bind_some aI
   refine A6 0 m ay Z T72 f Z Z Z aN λaO a aP f=>BB 0 m ay Z Pl3 f Z Z aP aN λaQ a aR f=> ?_
   subst aR
   refine Ac f Z λa f=>Aa (Ak ?_)
   refine Ab f Z λa f=>Ab f Z λa f=>Ab f Z λa f=> ?_
   have⟨aS,aT,aI⟩:=bind_some aI
   refine By T60 f Z Z Z h0 aT λaU aV a aW aX f=> ?_
   subst aX
   refine AU m Pl71 f Z Z aW λa f=>Ab f Z λa f=>Ah f Z Z CB λa f=>Ah f Z Z b_or λa f=>Ac f Z λa f=>Aa (Ak ?_)
   refine Ah f Z Z Ax λa f=>Ab f Z λa f=>Aa ?_
   obtain rfl:=sj aI
   exact⟨_,Z,_,_,Z,_,aK,f.k Z,m⟩
  ·refine Aj f Z aL ?_
   refine AB Z ?_
   have m:Mem W aG w H:=Mem.drop (H':=[ax]) m
   obtain rfl:=sj aI
   obtain rfl:=aJ _ rfl
   exact⟨_,Z,_,aK,f.k Z,m⟩
 ·rintro a w ⟨aB,rfl,aC,aY,f,m⟩
  refine Ag (Af ?_)
  refine Ab f Z λa f=>Ab f Z λa f=>Ah f Z Z BF λa f=>Aa ?_
  rcases Ae ak with⟨aZ,ak⟩|⟨aZ,ak⟩
  ·refine Am f Z aZ ?_
   refine Af ?_
   refine Ab f Z λa f=>Ac f Z λa f=>Aa ?_
   refine Ap ?_
   obtain rfl:=sj ak
   obtain rfl:=al _ rfl
   obtain rfl:=sj hd
   exact⟨[(.int .u32 ah)],f.g Z,f.d,_,[],(gt ad (gt am (gt au aY))),m,Z,Z⟩
  ·refine Aj f Z aZ ?_
   refine An ?_
   refine Ak ?_
   refine Ab f Z λa f=>Ac f Z λa f=>Aa ?_
   obtain rfl:=sj ak
   exact⟨_,Z,_,Z,_,(gt am (gt au aY)),f.k Z,m⟩
theorem Wk.z0 {v0:Value}{x0:LI}{x1:Int}(hW:Ct W)(m:Mem W G w (H))(h0:RSl (RI .u32) G v0 x0){y:(LI)}(hd:D.z0 x0 x1=some y):
  Calls prog 97 #[v0,(.int .u32 x1)] w (Res W G H (λG' Ho v=>∃r0:Value,∃i0:Itm,Ho=[i0]∧r0=v∧Ow (RI .u32) 71 G' i0 r0 y)):=by
 refine Au (args:=[v0,(.int .u32 x1)]) (N:=23) [.tmp 4] func97 Z Z (lb Z) Z λa f=> ?_
 unfold D.z0 at hd
 refine Af ?_
 refine Ac f Z λa f=>Ay ?_
 refine Bo (R:=(RI .u32)) (xs:=([]:LI)) (RI.one _) m T59 f Z Z Z (by decide) (All2.nil _) λaa ab w a m ac f=>Ac f Z λa f=>Aa (Ag ?_)
 have⟨ad,ae,hd⟩:=bind_some hd
 refine AJ (λa w=>∃af:LI,af=ad∧∃(ag:GH) (ah:Value) (ai:Itm),GLe G ag∧Fr a 23 [(5,ah)]∧Mem W ag w (ai::H)∧Ow (RI .u32) 71 ag ai ah af) ?_ ?_
 ·refine Al ?_
  refine AE (λaj a w=>∃ak:Int,∃al:LI,(ak,al)=aj∧∃(am:GH) (an:Value) (ao:Itm),GLe G am∧Fr a 23 [(0,v0),(1,(.int .u32 ak)),(5,an)]∧Mem W am w (ao::H)∧Ow (RI .u32) 71 am ao an al) ae ⟨_,_,Z,_,ab,aa,gr,f.k Z,m,ac⟩ ?_
  clear ae f m
  rintro aj ap aq ar a w ⟨ak,al,rfl,am,an,ao,au,f,m,av⟩
  have h0:=rd1 au h0
  refine Ag (Af ?_)
  refine Ab f Z λa f=>Ah f Z Z Dz λa f=>Aa ?_
  rcases Ae aq with⟨aw,aq⟩|⟨aw,aq⟩
  ·refine Am f Z aw ?_
   refine An ?_
   refine Al (Af ?_)
   refine Ab f Z λa f=>Ab f Z λa f=> ?_
   have⟨ax,ay,aq⟩:=bind_some aq
   refine A3 f Z call122 (Wk.u hW m ay) λaz w aA m a f=> ?_
   have h0:=rd1 aA h0
   have av:=od1 aA av
   refine Ab f Z λa f=> ?_
   have⟨aB,aC,aq⟩:=bind_some aq
   refine A3 f Z call139 (Wk.V hW m h0 aC) λaD w aE m a f=> ?_
   have av:=od1 aE av
   refine Ac f Z λa f=>Ay ?_
   refine Ab f Z λa f=>Ab f Z λa f=>Bo (R:=(RI .u32)) (xs:=([aB]:LI)) (RI.one _) m T59 f Z Z Z (by decide) (All2.cons Z (All2.nil _)) λaF aG w a m aH f=> ?_
   have⟨aI,aJ,aq⟩:=bind_some aq
   refine Bz (RI.one _) 1 m av Z T59 Z (by decide) f Z Z Z (Ow.src (j:=0) aH m Z) aJ λaK aL w a m aM f=>Ac f Z λa f=>Aa (Ak ?_)
   refine Ab f Z λa f=>Ab f Z λa f=>Ah f Z Z Dh λa f=>Ac f Z λa f=>Aa ?_
   have m:=m.fr 1
   have m:=m.eraseAt 1
   obtain rfl:=sj aq
   exact⟨_,Z,_,_,Z,_,aL,aK,(gt au (gt aA aE)),f.k Z,m,aM⟩
  ·refine Aj f Z aw ?_
   refine AB Z ?_
   obtain rfl:=sj aq
   obtain rfl:=ar _ rfl
   exact⟨_,Z,_,an,ao,au,f.k Z,m,av⟩
 ·rintro a w ⟨af,rfl,ag,ah,ai,aN,f,m,aO⟩
  refine Af ?_
  refine Ab f Z λa f=>Ac f Z λa f=>Aa ?_
  refine Ap ?_
  obtain rfl:=sj hd
  exact⟨[ah],f.g Z,f.d,_,[ai],aN,m,_,_,Z,Z,aO⟩
theorem Wk.v0 {x0:Int}(m:Mem W G w (H)){y:Int}(hd:D.v0 x0=some y):
  Calls prog 98 #[(.int .u32 x0)] w (Res W G H (λ_ Ho v=>Ho=[]∧v=(iv y))):=by
 refine Au (args:=[(.int .u32 x0)]) (N:=5) [.tmp 2] func98 Z Z (lb Z) Z λa f=> ?_
 unfold D.v0 at hd
 refine Af ?_
 refine Ac f Z λa f=>Ay ?_
 refine Ab f Z λa f=> ?_
 have⟨aa,ab,hd⟩:=bind_some hd
 refine A3 f Z call140 (Wk.n0 m ab) λac w ad m a f=>Ac f Z λa f=>Aa ?_
 refine Ap ?_
 obtain rfl:=sj hd
 exact⟨[(iv aa)],f.g Z,f.d,_,[],ad,m,Z,Z⟩
theorem Wk.z {aa:Value}{b1:Nat}{x0:Int}{ab:LI}(hW:Ct W)(m:Mem W G w (ib b1 60 [aa]::H))(ac:RSl (RI .u32) G aa ab){y:Bool}(hd:D.z x0 ab=some y):
  Calls prog 96 #[(.int .u32 x0),(pb b1)] w (Res W G H (λ_ Ho v=>Ho=[ib b1 60 [aa]]∧v=(.bool y))):=by
 refine Au (args:=[(.int .u32 x0),(pb b1)]) (N:=18) [.tmp 3] func96 Z Z (lb Z) Z λa f=> ?_
 unfold D.z at hd
 refine Af ?_
 refine Ac f Z λa f=>Aa (Ag ?_)
 refine A7 15 AI (by kernel_rfl) m ?_
 refine Ai 0 15 Z f Z λa f=>q_p 1 15 Z f (λ_=>AK (f.e Z) (f.e Z) Dz) λa f=>Ai 2 15 Z f Z λa f=> ?_
 rcases Ae hd with⟨ad,hd⟩|⟨ad,hd⟩
 ·refine Ci (hw:=wo f ad) 3 15 0 Pl60 Z Z Z f Z λa f=> ?_
  refine Ci (hw:=wo f ad) 4 15 0 Pl60 Z Z Z f Z λa f=> ?_
  have⟨ae,af,hd⟩:=bind_some hd
  refine Bi (i:=5) 15 Z (by kernel_rfl) Z f (Bh f Z Z Z ad) Z Z call94 (λ_ _ w ag m=>Wk.g m (rd1 ag ac) af) λa f=>Ai (hw:=wo f ad) 6 15 Z f Z λa f=>q_p (hw:=wo f ad) 7 15 Z f (λ_=>AK (f.e Z) (f.e Z) Dh) λa f=>Ai (hw:=wo f ad) 10 15 Z f Z λa f=>q_on 8 Z λah w ai m aj aj=> ?_
  have ac:=rd1 ai ac
  refine As f ad ?_
  have⟨ak,al,hd⟩:=bind_some hd
  refine AO f Z call97 (Wk.z0 hW m ac al) λam an ao w ap m aq a f=> ?_
  obtain⟨ar,au,rfl,rfl,av⟩:=aq
  refine Aa ?_
  refine aj an [au] _ _ ap m ?_
  refine q_own_len (i:=9) 15 0 m av Z underlying59 Z (by kernel_rfl) Z f (Bh f Z Z Z ad) Z Z λa f=> ?_
  have⟨aw,ax,hd⟩:=bind_some hd
  refine Bi (i:=11) 15 Z (by kernel_rfl) Z f (Bh f Z Z Z ad) Z Z call98 (λ_ _ w ay m=>Wk.v0 m ax) λa f=>q_p (hw:=wo f ad) 12 15 Z f (λ_=>AK (f.e Z) (f.e Z) Cc) λa f=>q_p 13 15 Z f (λ_=>AD (f.e Z) ad (f.e Z)) λa f=>q_p 14 15 Z f (λ_=>A9 (f.e Z)) λa f=>AW λaz w aA m=>Aa ?_
  refine Ap ?_
  have m:=m.fr 1
  have m:=m.eraseAt 1
  obtain rfl:=sj hd
  exact⟨[(.bool (decide (aw<(ak.length:Int))))],f.g Z,f.d,_,[ib b1 60 [aa]],(gt ai (gt ap aA)),m,Z,Z⟩
 ·refine Ao 3 15 Z f ad λa f=> ?_
  refine Ao 4 15 Z f ad λa f=>Ao 5 15 Z f ad λa f=>Ao 6 15 Z f ad λa f=>Ao 7 15 Z f ad λa f=>Ao 8 15 Z f ad λa f=>Ao 9 15 Z f ad λa f=>Ao 10 15 Z f ad λa f=>Ao 11 15 Z f ad λa f=>Ao 12 15 Z f ad λa f=>q_p 13 15 Z f (λ_=>AC (f.e Z) ad (f.e Z)) λa f=>q_p 14 15 Z f (λ_=>A9 (f.e Z)) λa f=>AW λaB w aC m=>Aa ?_
  refine Ap ?_
  obtain rfl:=sj hd
  exact⟨[(.bool false)],f.g Z,f.d,_,[ib b1 60 [aa]],aC,m,Z,Z⟩
end Go.Proofs.YtfmaahgchbfbiaaDoor

set_option maxRecDepth 100000
namespace Go.Proofs.YtfmaahgchbfbiaaDoor
open Go Go.Sx
open Go.Proofs.Tryd Go.Proofs.YtfmaahgchbfbiaaDoor.Tryd IntKind
variable {W w : World} {G : GH} {H : List Itm}
set_option maxHeartbeats 1000000 in
theorem Wk.o1 {W:World}{σ:Type}{f0:Int→σ→Option (Bool×σ)}{its:σ→List Itm}{g:FuncId}{cs:List Value}{G0:GH}
  (hg:∀(ars:Array Value) (w:World),(callFunc g ars).run prog w= .ok (.enter g ars) w)
  (hcl:∀(w:World) (G:GH) (H:List Itm) (c:Int) (s:σ) (y:Bool×σ),GLe G0 G→Mem W G w (its s++H)→f0 c s=some y→Calls prog g ((.int .u32 c)::cs).toArray w (Res W G H (λ_ Ho v=>Ho=its y.2∧v= .bool y.1))) (n:Nat):
  ∀(w:World) (G:GH) (H:List Itm) (nn frm many chosen:Int) (s:σ) (y:Bool×σ),GLe G0 G→Mem W G w (its s++H)→D.C f0 n nn frm many chosen s=some y→
   Calls prog 78 #[(iv nn),(iv frm),(iv many),(.int .u32 chosen),(.func (.func g) #[] cs.toArray)] w (Res W G H (λ_ Ho v=>Ho=its y.2∧v= .bool y.1)):=by
 induction n with
 |zero=>intro w G H nn frm many chosen s y h0 m hd;simp[D.C] at hd
 |succ n ih=>
  intro w G H nn frm many chosen s y h0 m hd
  refine Au (args:=[(iv nn),(iv frm),(iv many),(.int .u32 chosen),(.func (.func g) #[] cs.toArray)]) (N:=36) [.tmp 10] func78 Z Z (lb Z) Z λa f=> ?_
  unfold D.C at hd
  refine Af ?_
  refine Ac f Z λa f=>Aa (Ag (Af ?_))
  refine Ab f Z λa f=>Ah f Z Z BF λa f=>Aa ?_
  rcases Ae hd with⟨hc1,hd⟩|⟨hc1,hd⟩
  ·refine Am f Z hc1 ?_
   refine Af ?_
   refine Ab f Z λa f=>Ab f Z λa f=>l_resv0 f Z Z Z hg (hcl _ _ _ _ _ _ h0 m hd) λv1 G1 Ho1 w hl1 m hQ1 a f=> ?_
   obtain⟨rfl,rfl⟩:=hQ1
   refine Ac f Z λa f=>Aa ?_
   refine Ap ?_
   exact⟨[.bool y.1],f.g Z,f.d,G1,its y.2,hl1,m,Z,Z⟩
  ·refine Aj f Z hc1 ?_
   refine An ?_
   refine Ag (Af ?_)
   refine Ab f Z λa f=>Ac f Z λa f=>Aa ?_
   refine AJ (λa w=>∃(G':GH),GLe G G'∧y.1=false∧Fr a 36 []∧Mem W G' w (its y.2++H)) ?_ ?_
   ·refine Al ?_
    refine AE (fun(q:σ×Int) a w=>∃(G':GH),GLe G G'∧Fr a 36 [(0,(iv nn)),(2,(iv many)),(3,(.int .u32 chosen)),(4,(.func (.func g) #[] cs.toArray)),(11,(iv q.2))]∧Mem W G' w (its q.1++H)) hd ⟨_,gr,f.k Z,m⟩ ?_
    clear hd f m
    rintro⟨s,v⟩ o hs hqq a w ⟨G1,hl1,f,m⟩
    dsimp only at f m
    unfold D.h0 at hs
    dsimp only at hs
    refine Ag (Af ?_)
    refine Ab f Z λa f=>Ab f Z λa f=>Ah f Z Z Ax λa f=>Ab f Z λa f=>Ah f Z Z CC λa f=>Aa ?_
    rcases Ae hs with⟨hc2,hs⟩|⟨hc2,hs⟩
    ·refine Am f Z hc2 ?_
     refine An ?_
     have⟨oo,ho,hs⟩:=bind_some hs
     have⟨r,hr,hs⟩:=bind_some hs
     refine Ag (Al (Af ?_))
     refine Ab f Z λa f=>Ab f Z λa f=>Ah f Z Z Ax λa f=>Ab f Z λa f=>Ah f Z Z AR λa f=>Ab f Z λa f=>Ab f Z λa f=>A3 f Z call99 (Wk.b m ho) λG2 w hl2 m a f=>Ah f Z Z b_or λa f=>Ab f Z λa f=>AO f Z call78 (ih _ _ _ _ _ _ _ _ _ (gt h0 (gt hl1 hl2)) m hr) λv3 G3 Ho3 w hl3 m hQ3 a f=> ?_
     obtain⟨rfl,rfl⟩:=hQ3
     refine Aa ?_
     have hle:GLe G G3:=gt hl1 (gt hl2 hl3)
     rcases Ae hs with⟨hc3,hs⟩|⟨hc3,hs⟩
     ·refine Am f Z hc3 ?_
      obtain rfl:=sj hs
      obtain rfl:=hqq _ rfl
      refine Af ?_
      refine Ac f Z λa f=>Aa ?_
      refine Ap ?_
      exact⟨[.bool true],f.g Z,f.d,G3,its r.2,hle,m,Z,Z⟩
     ·refine Aj f Z hc3 ?_
      obtain rfl:=sj hs
      refine An ?_
      refine Ak ?_
      refine Ab f Z λa f=>Ah f Z Z Ax λa f=>Ac f Z λa f=>Aa ?_
      exact⟨_,Z,G3,hle,f.k Z,m⟩
    ·refine Aj f Z hc2 ?_
     refine AB Z ?_
     obtain rfl:=sj hs
     obtain rfl:=hqq _ rfl
     exact⟨G1,hl1,Z,f.weak trivial,m⟩
   ·clear hd f m
    rintro a w ⟨G1,hl1,hy,f,m⟩
    refine Af ?_
    refine Ac f Z λa f=>Aa ?_
    refine Ap ?_
    exact⟨[.bool false],f.g Z,f.d,G1,its y.2,hl1,m,Z,congrArg Value.bool hy.symm⟩
end Go.Proofs.YtfmaahgchbfbiaaDoor

set_option maxRecDepth 100000
namespace Go.Proofs.YtfmaahgchbfbiaaDoor
open Go Go.Sx
open Go.Proofs.Tryd Go.Proofs.YtfmaahgchbfbiaaDoor.Tryd IntKind
variable {W w : World} {G : GH} {H : List Itm}
theorem Wk.S {x0:Int}(hW:Ct W)(m:Mem W G w (H)){y:(LI)}(hd:D.S x0=some y):
  Calls prog 81 #[(.int .u32 x0)] w (Res W G H (λG' Ho v=>∃r0:Value,∃i0:Itm,Ho=[i0]∧r0=v∧Ow R0 2 G' i0 r0 y)):=by
 refine Au (args:=[(.int .u32 x0)]) (N:=6) [.tmp 2] func81 Z Z (lb Z) Z λa f=> ?_
 unfold D.S at hd
 refine Af ?_
 refine Ac f Z λa f=>Ay ?_
 refine Ab f Z λa f=> ?_
 have⟨aa,ab,hd⟩:=bind_some hd
 refine AO f Z call61 (Wk.d hW m ab) λac ad ae w af m ag a f=> ?_
 obtain⟨ah,ai,rfl,rfl,aj⟩:=ag
 have⟨ak,al,hd⟩:=bind_some hd
 refine AO f Z call93 (Ow.lendCall (RI.mono _) 0 aj m Z (λam an m ao=>Wk.t m ao al) (λ_ G' _ _ ⟨a0,a1,e1,e2,o0⟩=>⟨a0,a1,e1,e2,Ow.free (RI.free _) G' o0⟩)) λap aq ar w au m av a f=> ?_
 obtain⟨aw,ax,rfl,rfl,ay⟩:=av
 refine Ac f Z λa f=>Aa ?_
 refine Ap ?_
 have m:=m.eraseAt 1
 obtain rfl:=sj hd
 exact⟨[aw],f.g Z,f.d,_,[ax],(gt af au),m,_,_,Z,Z,ay⟩
end Go.Proofs.YtfmaahgchbfbiaaDoor

set_option maxRecDepth 100000
namespace Go.Proofs.YtfmaahgchbfbiaaDoor
open Go Go.Sx
theorem bPl :BO Tryd.prog 90:=Tryd.isAgg90
theorem bPn :BO Tryd.prog 60:=Tryd.isAgg60
theorem bPv :BO Tryd.prog 71:=Tryd.isAgg71
theorem bAg :Agg Tryd.prog 28 1:=⟨Tryd.isAgg28,Tryd.sizeOf28⟩
abbrev bsV (ba:Nat):Value:= .func (.func 96) #[] ([(.pointer (some ⟨ba,0,none⟩))]:List Value).toArray
abbrev bsIts (bf bt ba:Nat)(v0:Value)(s:Int):List Itm:=[Itm.box bf 71 [(.int .u32 s)],Itm.box bt 90 [bsV ba],Itm.box ba 60 [v0]]
theorem Wk.p1 {W:World}(hW:Ct W){F:List Int}{v0:Value}{bf bt ba:Nat}{G0:GH}(h0:RSl (RI .u32) G0 v0 F)(w:World)(G:GH)(H:List Itm)(c s:Int)(y:Bool×Int)(hG:GLe G0 G)
  (m:Mem W G w (bsIts bf bt ba v0 s++H)) (hd:D.T0 F c s=some y):
  Calls Tryd.prog 138 ((.int .u32 c)::[(.pointer (some ⟨bf,0,none⟩)),(.pointer (some ⟨bt,0,none⟩))]).toArray w (Res W G H (λ_ Ho v=>Ho=bsIts bf bt ba v0 y.2∧v= .bool y.1)):=by
 refine Au (args:=[(.int .u32 c),(.pointer (some ⟨bf,0,none⟩)),(.pointer (some ⟨bt,0,none⟩))]) (N:=9) [.tmp 4] Tryd.func138 rfl rfl (Nat.le_of_ble_eq_true rfl) rfl (λa f=> ?_)
 unfold D.T0 at hd
 have h0:=RSl.mono (RI.mono _) _ _ _ _ hG h0
 obtain⟨b,hb,hd⟩:=bind_some hd
 obtain rfl:=Option.some.inj hd
 refine Ag ?_
 refine Ak ?_
 refine Bb f rfl rfl rfl (A9 (f.eval rfl)) (λa f=> ?_)
 refine Aa ?_
 refine Ag ?_
 refine Ak ?_
 refine Bb f rfl rfl rfl (A2 (f.eval rfl)) (λa f=> ?_)
 refine AV 0 0 (ds:=[(.int .u32 c)]) m Tryd.sizeOf71 f rfl rfl rfl (A1 rfl A8) rfl (Nat.le_of_ble_eq_true rfl) rfl (λw m=> ?_)
 have m:Mem W G w (Itm.box bf 71 [(.int .u32 c)]::Itm.box bt 90 [bsV ba]::Itm.box ba 60 [v0]::H):=m
 refine Aa ?_
 refine Ag ?_
 refine Ak ?_
 refine A5 1 0 m bPl f rfl rfl rfl rfl (λa f=> ?_)
 refine Bb f rfl rfl rfl (A2 (f.eval rfl)) (λa f=> ?_)
 have m':Mem W G w (Itm.box ba 60 [v0]::Itm.box bf 71 [(.int .u32 c)]::Itm.box bt 90 [bsV ba]::H):=m.front 2 rfl
 refine l_resv0 f rfl rfl rfl Tryd.call96 ((Wk.z hW m' h0 hb).mono λe w' hr=>hr) (λv1 G1 Ho1 w hl1 m hQ1 a f=> ?_)
 obtain⟨rfl,rfl⟩:=hQ1
 have m:Mem W G1 w (Itm.box ba 60 [v0]::Itm.box bf 71 [(.int .u32 c)]::Itm.box bt 90 [bsV ba]::H):=m
 refine Bb f rfl rfl rfl (A9 (f.eval rfl)) (λa f=> ?_)
 refine Aa ?_
 refine Ap ?_
 have m:Mem W G1 w (Itm.box bt 90 [bsV ba]::Itm.box ba 60 [v0]::Itm.box bf 71 [(.int .u32 c)]::H):=m.front 2 rfl
 have m:Mem W G1 w (Itm.box bf 71 [(.int .u32 c)]::Itm.box bt 90 [bsV ba]::Itm.box ba 60 [v0]::H):=m.front 2 rfl
 exact⟨[.bool b],⟨f.get _ _ rfl,trivial⟩,f.defers,G1,bsIts bf bt ba v0 c,hl1,m,rfl,rfl⟩
theorem Wk.e1 {W:World}(hW:Ct W){F:List Int}{v0:Value}{ba:Nat}{w:World}{G:GH}{H:List Itm}(h0:RSl (RI .u32) G v0 F){n:Int}{y:Int×Bool}
  (m:Mem W G w (Itm.box ba 60 [v0]::H)) (hd:Ar (D.b1 (D.T0 F) n) (0,0)=some y):
  Calls Tryd.prog 95 #[(.int .i64 n),bsV ba] w (Res W G H (λ_ Ho v=>Ho=[Itm.box ba 60 [v0]]∧v= .tuple #[(.int .u32 y.1),(.bool y.2)])):=by
 refine Au (args:=[(.int .i64 n),bsV ba]) (N:=18) [.tmp 4,.tmp 5] Tryd.func95 rfl rfl (Nat.le_of_ble_eq_true rfl) rfl (λa f=> ?_)
 refine Ag ?_
 refine Ak ?_
 refine Bu (cs:=[bsV ba]) m f rfl rfl rfl (λbt w a m f=> ?_)
 refine Bb f rfl rfl rfl (A9 (f.eval rfl)) (λa f=> ?_)
 refine Bb f rfl rfl rfl (A9 (f.eval rfl)) (λa f=> ?_)
 refine Aa ?_
 refine Ag ?_
 refine Ak ?_
 refine BX (cs:=[(.int .u32 0)]) Tryd.zeroValue71 m f rfl rfl (λbf w a m f=> ?_)
 refine AV 0 0 (ds:=[(.int .u32 0)]) m Tryd.sizeOf71 f rfl rfl rfl (A1 rfl A8) rfl (Nat.le_of_ble_eq_true rfl) rfl (λw m=> ?_)
 have m:Mem W G w (bsIts bf bt ba v0 0++H):=m
 refine Aa ?_
 refine Ag ?_
 refine Ag ?_
 refine Ak ?_
 refine Bb f rfl rfl rfl (A9 (f.eval rfl)) (λa f=> ?_)
 refine Aa ?_
 refine AJ (λa w=>y=(0,false)∧∃(G':GH) (s:Int),GLe G G'∧Fr a 18 []∧Mem W G' w (bsIts bf bt ba v0 s++H)) ?_ ?_
 ·refine Al ?_
  refine AE (fun(q:Int×Int) a w=>∃(G':GH),GLe G G'∧Fr a 18 [(0,(.int .i64 n)),(3,(.pointer (some ⟨bt,0,none⟩))),(6,(.pointer (some ⟨bf,0,none⟩))),(7,(.int .i64 q.2))]∧Mem W G' w (bsIts bf bt ba v0 q.1++H)) hd ⟨_,GLe.refl _,f.weak ⟨rfl,rfl,rfl,rfl,trivial⟩,m⟩ ?_
  clear hd f m
  rintro⟨s,many⟩ o hs hqq a w ⟨G1,hl1,f,m⟩
  dsimp only at f m
  unfold D.b1 at hs
  refine Ag ?_
  refine Ag ?_
  refine Ak ?_
  refine Bb f rfl rfl rfl (A2 (f.eval rfl)) (λa f=> ?_)
  refine Bb f rfl rfl rfl (A2 (f.eval rfl)) (λa f=> ?_)
  refine Bb f rfl rfl rfl (AK (f.eval rfl) (f.eval rfl) CC) (λa f=> ?_)
  refine Aa ?_
  rcases Ae hs with⟨hc1,hs⟩|⟨hc1,hs⟩
  ·refine Am f rfl hc1 ?_
   refine An ?_
   obtain⟨r,hr,hs⟩:=bind_some hs
   refine Ag ?_
   refine Al ?_
   refine Ag ?_
   refine Ak ?_
   refine Bb f rfl rfl rfl (A2 (f.eval rfl)) (λa f=> ?_)
   refine Bb f rfl rfl rfl (A2 (f.eval rfl)) (λa f=> ?_)
   refine l_makeFunc (vs:=[]) (us:=[(.pointer (some ⟨bf,0,none⟩)),(.pointer (some ⟨bt,0,none⟩))]) f rfl rfl rfl (λa f=> ?_)
   refine l_res f rfl rfl Tryd.call78 (Wk.o1 (its:=bsIts bf bt ba v0) Tryd.call138 (Wk.p1 hW h0) CA _ _ _ _ _ _ _ _ _ hl1 m hr) (λv6 G6 Ho6 w hl6 m hQ6 a f=> ?_)
   obtain⟨rfl,rfl⟩:=hQ6
   have m:Mem W G6 w (Itm.box bf 71 [(.int .u32 r.2)]::Itm.box bt 90 [bsV ba]::Itm.box ba 60 [v0]::H):=m
   refine Aa ?_
   rcases Ae hs with⟨hc3,hs⟩|⟨hc3,hs⟩
   ·refine Am f rfl hc3 ?_
    obtain rfl:=Option.some.inj hs
    obtain rfl:=hqq _ rfl
    refine Ag ?_
    refine Ak ?_
    refine A5 0 0 m bPv f rfl rfl rfl rfl (λa f=> ?_)
    refine Bb f rfl rfl rfl (A9 (f.eval rfl)) (λa f=> ?_)
    refine Bb f rfl rfl rfl (A9 (f.eval rfl)) (λa f=> ?_)
    refine Aa ?_
    refine Ap ?_
    exact⟨[.int .u32 r.2,.bool true],⟨f.get _ _ rfl,f.get _ _ rfl,trivial⟩,f.defers,G6,[Itm.box ba 60 [v0]],GLe.trans hl1 hl6,m.tail.tail,rfl,rfl⟩
   ·refine Aj f rfl hc3 ?_
    obtain rfl:=Option.some.inj hs
    refine An ?_
    refine Ak ?_
    refine Bb f rfl rfl rfl (A2 (f.eval rfl)) (λa f=> ?_)
    refine Bb f rfl rfl rfl (AK (f.eval rfl) (f.eval rfl) Ax) (λa f=> ?_)
    refine Bb f rfl rfl rfl (A9 (f.eval rfl)) (λa f=> ?_)
    refine Aa ?_
    exact⟨_,rfl,G6,GLe.trans hl1 hl6,f.weak ⟨rfl,rfl,rfl,rfl,trivial⟩,m⟩
  ·refine Aj f rfl hc1 ?_
   refine AB rfl ?_
   obtain rfl:=Option.some.inj hs
   obtain rfl:=hqq _ rfl
   exact⟨rfl,G1,s,hl1,f.weak trivial,m⟩
 ·clear hd f m
  rintro a w ⟨rfl,G4,s,hl4,f,m⟩
  refine Ag ?_
  refine Ak ?_
  refine Bb f rfl rfl rfl (A9 (f.eval rfl)) (λa f=> ?_)
  refine Bb f rfl rfl rfl (A9 (f.eval rfl)) (λa f=> ?_)
  refine Aa ?_
  refine Ap ?_
  exact⟨[.int .u32 0,.bool false],⟨f.get _ _ rfl,f.get _ _ rfl,trivial⟩,f.defers,G4,[Itm.box ba 60 [v0]],hl4,m.tail.tail,rfl,rfl⟩
theorem Wk.h {W w:World}{G:GH}{H:List Itm}{v0_0:Value}{x0_0:(List (List Int))}(hW:Ct W)(m:Mem W G w (H))(h0_0:RSl (RSl (RI .i64)) G v0_0 x0_0){y:(List Int)×Bool}(hd:D.h x0_0=some y):
  Calls Tryd.prog 36 #[(.agg #[v0_0])] w (Res W G H (λG' Ho v=>∃r0:Value,∃i0:Itm,Ho=[i0]∧v= .tuple #[r0,(.bool y.2)]∧Ow (RI .i64) 2 G' i0 r0 y.1)):=by
 refine Au (args:=[(.agg #[v0_0])]) (N:=23) [.tmp 2,.tmp 3] Tryd.func36 rfl rfl (Nat.le_of_ble_eq_true rfl) rfl (λa f=> ?_)
 unfold D.h at hd
 refine Ag ?_
 refine Ak ?_
 refine Bu (cs:=[v0_0]) m f rfl rfl rfl (λbg w a m f=> ?_)
 refine Bb f rfl rfl rfl (A9 (f.eval rfl)) (λa f=> ?_)
 refine Bb f rfl rfl rfl (A9 (f.eval rfl)) (λa f=> ?_)
 refine Aa ?_
 refine Ag ?_
 refine Ag ?_
 refine Ak ?_
 refine AG 0 0 (ds:=[v0_0]) m bAg f rfl rfl rfl rfl rfl (λa f=> ?_)
 obtain⟨b,hb,hd⟩:=bind_some hd
 refine l_res f rfl rfl Tryd.call52 (Wk.i m h0_0 hb) (λv1 G1 Ho1 w hl1 m hQ1 a f=> ?_)
 obtain⟨rfl,rfl⟩:=hQ1
 have h0_0:=RSl.mono (RSl.mono (RI.mono _)) _ _ _ _ hl1 h0_0
 have m:Mem W G1 w (Itm.box bg 28 [v0_0]::H):=m
 refine Bb f rfl rfl rfl (Bg (f.eval rfl)) (λa f=> ?_)
 refine Aa ?_
 rcases Ae hd with⟨hc1,hd⟩|⟨hc1,hd⟩
 ·obtain rfl:=Option.some.inj hd
  refine Am f rfl hc1 ?_
  refine Ag ?_
  refine Ak ?_
  refine Bb f rfl rfl rfl (A9 (f.eval rfl)) (λa f=> ?_)
  refine Bb f rfl rfl rfl (A9 (f.eval rfl)) (λa f=> ?_)
  refine Aa ?_
  refine Ap ?_
  have m:Mem W G1 w H:=m.tail
  obtain⟨itN,m,oN⟩:=Ow.nil (RI .i64) 2 m
  exact⟨[.slice none 0 0,.bool false],⟨f.get _ _ rfl,f.get _ _ rfl,trivial⟩,f.defers,G1,[itN],hl1,m,_,_,rfl,rfl,oN⟩
 ·refine Aj f rfl hc1 ?_
  refine An ?_
  obtain⟨F,hF,hd⟩:=bind_some hd
  obtain⟨r,hr,hd⟩:=bind_some hd
  refine Ag ?_
  refine Ak ?_
  refine AG 0 0 (ds:=[v0_0]) m bAg f rfl rfl rfl rfl rfl (λa f=> ?_)
  refine l_res f rfl rfl Tryd.call54 (Wk.p m h0_0 hF) (λv2 G2 Ho2 w hl2 m hQ2 a f=> ?_)
  obtain⟨vF,itF,rfl,rfl,oF⟩:=hQ2
  have m:Mem W G2 w (itF::Itm.box bg 28 [v0_0]::H):=m
  obtain⟨G3,hl3,m,hA⟩:=oF.stamp (RI.mono _) m
  refine BX (cs:=[(.slice none 0 0)]) Tryd.zeroValue60 m f rfl rfl (λba w a m f=> ?_)
  refine AV 0 0 (ds:=[vF]) m Tryd.sizeOf60 f rfl rfl hA.cells (A1 hA.one1 A8) rfl (Nat.le_of_ble_eq_true rfl) rfl (λw m=> ?_)
  have m:Mem W G3 w (Itm.box ba 60 [vF]::Itm.box bg 28 [v0_0]::H):=m
  refine Aa ?_
  have hle3:GLe G G3:=GLe.trans hl1 (GLe.trans hl2 hl3)
  refine Ag ?_
  refine Ak ?_
  refine A5 0 0 m bPn f rfl rfl rfl rfl (λa f=> ?_)
  refine Bd Tryd.underlying60 f rfl rfl hA (λa f=> ?_)
  refine l_makeFunc (vs:=[]) (us:=[(.pointer (some ⟨ba,0,none⟩))]) f rfl rfl rfl (λa f=> ?_)
  refine l_res f rfl rfl Tryd.call95 (Wk.e1 hW hA m hr) (λv4 G4 Ho4 w hl4 m hQ4 a f=> ?_)
  obtain⟨rfl,rfl⟩:=hQ4
  have m:Mem W G4 w (Itm.box ba 60 [vF]::Itm.box bg 28 [v0_0]::H):=m
  refine Bb f rfl rfl rfl (A2 (f.eval rfl)) (λa f=> ?_)
  refine Bb f rfl rfl rfl (Bn (f.eval rfl) rfl) (λa f=> ?_)
  refine Bb f rfl rfl rfl (Bn (f.eval rfl) rfl) (λa f=> ?_)
  refine Bb f rfl rfl rfl (A9 (f.eval rfl)) (λa f=> ?_)
  refine Bb f rfl rfl rfl (A9 (f.eval rfl)) (λa f=> ?_)
  refine Aa ?_
  have hle4:GLe G G4:=GLe.trans hle3 hl4
  refine Ag ?_
  refine Ag ?_
  refine Ak ?_
  refine Bb f rfl rfl rfl (A2 (f.eval rfl)) (λa f=> ?_)
  refine Bb f rfl rfl rfl (Bg (f.eval rfl)) (λa f=> ?_)
  refine Aa ?_
  rcases Ae hd with⟨hc2,hd⟩|⟨hc2,hd⟩
  ·obtain rfl:=Option.some.inj hd
   refine Am f rfl hc2 ?_
   refine Ag ?_
   refine Ak ?_
   refine Bb f rfl rfl rfl (A9 (f.eval rfl)) (λa f=> ?_)
   refine Bb f rfl rfl rfl (A9 (f.eval rfl)) (λa f=> ?_)
   refine Aa ?_
   refine Ap ?_
   have m:Mem W G4 w H:=m.tail.tail
   obtain⟨itN,m,oN⟩:=Ow.nil (RI .i64) 2 m
   exact⟨[.slice none 0 0,.bool false],⟨f.get _ _ rfl,f.get _ _ rfl,trivial⟩,f.defers,G4,[itN],hle4,m,_,_,rfl,rfl,oN⟩
  ·refine Aj f rfl hc2 ?_
   refine An ?_
   obtain⟨l,hl,hd⟩:=bind_some hd
   obtain rfl:=Option.some.inj hd
   refine Ag ?_
   refine Ak ?_
   refine Bb f rfl rfl rfl (A2 (f.eval rfl)) (λa f=> ?_)
   refine l_res f rfl rfl Tryd.call81 (Wk.S hW m hl) (λv8 G8 Ho8 w hl8 m hQ8 a f=> ?_)
   obtain⟨vl,itl,rfl,rfl,ol⟩:=hQ8
   have m:Mem W G8 w (itl::Itm.box ba 60 [vF]::Itm.box bg 28 [v0_0]::H):=m
   refine Bb f rfl rfl rfl (A9 (f.eval rfl)) (λa f=> ?_)
   refine Bb f rfl rfl rfl (A9 (f.eval rfl)) (λa f=> ?_)
   refine Aa ?_
   refine Ap ?_
   have m:Mem W G8 w (itl::H):=(m.eraseAt 1).eraseAt 1
   exact⟨[vl,.bool true],⟨f.get _ _ rfl,f.get _ _ rfl,trivial⟩,f.defers,G8,[itl],GLe.trans hle4 hl8,m,_,_,rfl,rfl,ol⟩
end Go.Proofs.YtfmaahgchbfbiaaDoor

set_option maxRecDepth 100000
namespace Go.Proofs.YtfmaahgchbfbiaaDoor
open Go Go.Sx
open Go.Proofs.Tryd Go.Proofs.YtfmaahgchbfbiaaDoor.Tryd IntKind
variable {W w : World} {G : GH} {H : List Itm}
theorem T102 :SlT prog 102 103 16 128 (.agg #[(iv 0),(iv 0),(iv 0),(iv 0),(iv 0),(iv 0),(iv 0),(iv 0),(iv 0),(iv 0),(iv 0),(iv 0),(iv 0),(iv 0),(iv 0),(iv 0)]):=⟨underlying102,Tryd.t103,by kernel_rfl,by kernel_rfl,by kernel_rfl,by kernel_rfl⟩
theorem Wk.b0 {aa:Value}{ab:LL}(hW:Ct W)(m:Mem W G w (H))(ac:R2 G aa ab){y:Int}(hd:D.b0 ab=some y):
  Calls prog 37 #[(.agg #[aa])] w (Res W G H (λ_ Ho v=>Ho=[]∧v=(iv y))):=by
 refine Au (args:=[(.agg #[aa])]) (N:=101) [.tmp 2] func37 Z Z (lb Z) Z λa f=> ?_
 unfold D.b0 at hd
 refine Af ?_
 refine Bu (cs:=[aa]) m f Z Z Z λad w a m f=>Ac f Z λa f=>Aa (Ag (Af ?_))
 refine AG 0 0 (ds:=[aa]) m AX f Z Z Z Z Z λa f=> ?_
 have⟨ae,af,hd⟩:=bind_some hd
 refine A3 f Z call52 (Wk.i m ac af) λag w ah m a f=> ?_
 have ac:=rd2 ah ac
 refine l_o f (Bg (f.e Z)) λa f=>Aa ?_
 rcases Ae hd with⟨ai,hd⟩|⟨ai,hd⟩
 ·refine Am f Z ai ?_
  refine Af ?_
  refine Ac f Z λa f=>Aa ?_
  refine Ap ?_
  have m:Mem W ag w H:=Mem.drop (H':=[ib ad 28 [aa]]) m
  obtain rfl:=sj hd
  exact⟨[(iv (-1))],f.g Z,f.d,_,[],ah,m,Z,Z⟩
 ·refine Aj f Z ai ?_
  refine An ?_
  refine Af ?_
  refine AG 0 0 (ds:=[aa]) m AX f Z Z Z Z Z λa f=> ?_
  have⟨aj,ak,hd⟩:=bind_some hd
  refine AO f Z call54 (Wk.p m ac ak) λal am an w ao m ap a f=> ?_
  obtain⟨aq,ar,rfl,rfl,au⟩:=ap
  refine Ac f Z λa f=>Aa (Ag (Af ?_))
  refine Ab f Z λa f=>Br 0 m au Z underlying60 f Z Z λa f=>Ah f Z Z AQ λa f=>Aa ?_
  rcases Ae hd with⟨av,hd⟩|⟨av,hd⟩
  ·refine Am f Z av ?_
   refine Af ?_
   refine Ac f Z λa f=>Aa ?_
   refine Ap ?_
   have m:Mem W am w H:=Mem.drop (H':=[ar,ib ad 28 [aa]]) m
   obtain rfl:=sj hd
   exact⟨[(iv 0)],f.g Z,f.d,_,[],(gt ah ao),m,Z,Z⟩
  ·refine Aj f Z av ?_
   refine An ?_
   refine Af ?_
   refine Ab f Z λa f=> ?_
   have⟨aw,ax,hd⟩:=bind_some hd
   refine AO f Z call94 (Ow.lendCall (RI.mono _) 0 au m Z (λay az m aA=>Wk.g m aA ax) (λ_ _ _ _ h=>h)) λaB aC aD w aE m aF a f=> ?_
   obtain⟨rfl,rfl⟩:=aF
   have au:=od1 aE au
   refine Ah f Z Z Ax λa f=> ?_
   have⟨aG,aH,hd⟩:=bind_some hd
   refine l_makeR (E:=A16) (zz:=(λ_=>0:Nat→Int)) m T102 Z (by decide) f Z Z Z aH λaI aJ w a m aK f=>Ac f Z λa f=>Ay ?_
   refine Ab f Z λa f=> ?_
   have⟨aL,aM,hd⟩:=bind_some hd
   refine Ex 0 m aK Z T102 f Z Z Z aM λaN a aO f=> ?_
   have⟨aP,aQ,hd⟩:=bind_some hd
   refine D1 underlying103 sizeOf2 f Z Z Z aO aQ λaR a aS f=>Ev (E:=A16) (y':=(Df aL (Int.toNat 0) 1)) [(iv 1)] 0 m aK Z sizeOf2 f Z Z aS aM Z (A1 Z A8) (A16.le aQ) (A16.putAt aQ) λaT w m aU=>Aa (Ag (Af ?_))
   refine Ac f Z λa f=>Aa ?_
   have⟨aV,aW,hd⟩:=bind_some hd
   refine AJ (λa w=>∃aX:List (Nat→Int),aX=aV∧∃(aY:GH) (aZ:Itm),GLe aC aY∧Fr a 101 [(3,aq),(4,aJ)]∧Mem W aY w (ar::aZ::H)∧OwR A16 103 aY aZ aJ aX) ?_ ?_
   ·refine Al ?_
    have m:=m.fr 1
    have m:=m.eraseAt 2
    refine AE (λa0 a w=>∃a1:List (Nat→Int),∃a2:Int,(a1,a2)=a0∧∃(a3:GH) (a4:Itm),GLe aC a3∧Fr a 101 [(3,aq),(4,aJ),(5,(.int .u32 a2))]∧Mem W a3 w (ar::a4::H)∧OwR A16 103 a3 a4 aJ a1) aW ⟨_,_,Z,_,aT,gr,f.k Z,m,aU⟩ ?_
    clear aW f m
    rintro a0 a5 a6 a7 a w ⟨a1,a2,rfl,a3,a4,a8,f,m,a9⟩
    have au:=od1 a8 au
    refine Ag (Af ?_)
    refine Ab f Z λa f=>Ab f Z λa f=> ?_
    have⟨ba,bb,a6⟩:=bind_some a6
    refine AO f Z call94 (Ow.lendCall (RI.mono _) 0 au m Z (λbc bd m be=>Wk.g m be bb) (λ_ _ _ _ h=>h)) λbf bg bh w bi m bj a f=> ?_
    obtain⟨rfl,rfl⟩:=bj
    have au:=od1 bi au
    have a9:=OwR.mono trivial bi a9
    refine Ah f Z Z AQ λa f=>Aa ?_
    rcases Ae a6 with⟨bk,a6⟩|⟨bk,a6⟩
    ·refine Am f Z bk ?_
     refine An ?_
     refine Ag (Al (Af ?_))
     refine Ab f Z λa f=> ?_
     have⟨bl,bm,a6⟩:=bind_some a6
     refine AO f Z call61 (Wk.d hW m bm) λbn bo bp w bq m br a f=> ?_
     obtain⟨bs,bt,rfl,rfl,bu⟩:=br
     have au:=od1 bq au
     have a9:=OwR.mono trivial bq a9
     refine Br 0 m bu Z underlying72 f Z Z λa f=>Ab f Z λa f=>Aa ?_
     have⟨bv,bw,a6⟩:=bind_some a6
     refine AJ (λa w=>∃bx:List (Nat→Int),bx=bv∧∃(bz:GH) (bA:Itm),GLe bo bz∧Fr a 101 [(3,aq),(4,aJ),(5,(.int .u32 a2))]∧Mem W bz w (ar::bA::H)∧OwR A16 103 bz bA aJ bx) ?_ ?_
     ·refine Al ?_
      have m:=m.fr 2
      have m:=m.fr 2
      refine AE (λbB a w=>∃bC:List (Nat→Int),∃bD:Int,(bC,bD)=bB∧∃(bE:GH) (bF:Itm),GLe bo bE∧Fr a 101 [(3,aq),(4,aJ),(5,(.int .u32 a2)),(35,bs),(36,(iv (bl.length:Int))),(37,(iv bD))]∧Mem W bE w (ar::bF::bt::H)∧OwR A16 103 bE bF aJ bC) bw ⟨_,_,Z,_,a4,gr,f.k Z,m,a9⟩ ?_
      clear bw f m
      rintro bB bG bH bI a w ⟨bC,bD,rfl,bE,bF,bJ,f,m,bK⟩
      have au:=od1 bJ au
      have bu:=od1 bJ bu
      refine Af ?_
      refine Ah f Z Z AQ λa f=>Aa (Ag ?_)
      rcases Ae bH with⟨bL,bH⟩|⟨bL,bH⟩
      ·refine Am f Z bL ?_
       refine An ?_
       refine Ag (Al (Af ?_))
       have⟨bM,bN,bH⟩:=bind_some bH
       refine A6 2 m bu Z T72 f Z Z Z bN λbO a bP f=>BB 2 m bu Z Pl3 f Z Z bP bN λbQ a bR f=> ?_
       subst bR
       refine Ac f Z λa f=>Aa (Ag (Af ?_))
       refine Ab f Z λa f=>Ab f Z λa f=>Ab f Z λa f=> ?_
       have⟨bS,bT,bH⟩:=bind_some bH
       refine Ex 1 m bK Z T102 f Z Z Z bT λbU a bV f=> ?_
       have⟨bW,bX,bH⟩:=bind_some bH
       refine D1 underlying103 sizeOf2 f Z Z Z bV bX λbY a bZ f=>l_ownR_get (C:=A16) 1 m bK Z Pl2 f Z Z bZ bT (A16.at bX) λa f=>Ah f Z Z BF λa f=>Aa ?_
       rcases Ae bH with⟨b0,bH⟩|⟨b0,bH⟩
       ·refine Am f Z b0 ?_
        refine AB Z ?_
        refine Ak ?_
        refine Ah f Z Z Ax λa f=>Ab f Z λa f=>Aa ?_
        obtain rfl:=sj bH
        exact⟨_,Z,_,_,Z,_,bF,bJ,f.k Z,m,bK⟩
       ·refine Aj f Z b0 ?_
        refine An ?_
        refine Af ?_
        refine Ab f Z λa f=>Ab f Z λa f=> ?_
        have⟨b1,b2,bH⟩:=bind_some bH
        refine A6 0 m au Z T60 f Z Z Z b2 λb3 a b4 f=>BB 0 m au Z Pl71 f Z Z b4 b2 λb5 a b6 f=> ?_
        subst b6
        refine Ab f Z λa f=>Ah f Z Z Dh λa f=> ?_
        have⟨b7,b8,bH⟩:=bind_some bH
        refine AO f Z call61 (Wk.d hW m b8) λb9 ca cb w cc m cd a f=> ?_
        obtain⟨ce,cf,rfl,rfl,cg⟩:=cd
        have bK:=OwR.mono trivial cc bK
        refine Br 0 m cg Z underlying72 f Z Z λa f=>Ab f Z λa f=>Aa ?_
        have⟨ch,ci,bH⟩:=bind_some bH
        refine AJ (λa w=>∃cj:List (Nat→Int),cj=ch∧∃(ck:GH) (cl:Itm),GLe ca ck∧Fr a 101 [(3,aq),(4,aJ),(5,(.int .u32 a2)),(35,bs),(36,(iv (bl.length:Int))),(37,(iv bD))]∧Mem W ck w (ar::cl::bt::H)∧OwR A16 103 ck cl aJ cj) ?_ ?_
        ·refine Al ?_
         have m:=m.fr 3
         have m:=m.fr 3
         have m:=m.fr 3
         refine AE (λcm a w=>∃cn:List (Nat→Int),∃co:Int,(cn,co)=cm∧∃(cp:GH) (cq:Itm),GLe ca cp∧Fr a 101 [(3,aq),(4,aJ),(5,(.int .u32 a2)),(7,(iv bM)),(35,bs),(36,(iv (bl.length:Int))),(37,(iv bD)),(54,ce),(55,(iv (b7.length:Int))),(56,(iv co))]∧Mem W cp w (ar::cq::bt::cf::H)∧OwR A16 103 cp cq aJ cn) ci ⟨_,_,Z,_,bF,gr,f.k Z,m,bK⟩ ?_
         clear ci f m
         rintro cm cr ct cu a w ⟨cn,co,rfl,cp,cq,cv,f,m,cw⟩
         have cg:=od1 cv cg
         refine Af ?_
         refine Ah f Z Z AQ λa f=>Aa (Ag ?_)
         rcases Ae ct with⟨cx,ct⟩|⟨cx,ct⟩
         ·refine Am f Z cx ?_
          refine An ?_
          refine Ag (Al (Af ?_))
          have⟨cy,cz,ct⟩:=bind_some ct
          refine A6 3 m cg Z T72 f Z Z Z cz λcA a cB f=>BB 3 m cg Z Pl3 f Z Z cB cz λcC a cD f=> ?_
          subst cD
          refine Ac f Z λa f=>Aa ?_
          refine A7 18 AI (by kernel_rfl) m ?_
          refine Ai 0 18 Z f Z λa f=>Ai 1 18 Z f Z λa f=>Ai 2 18 Z f Z λa f=> ?_
          have⟨cE,cF,ct⟩:=bind_some ct
          refine Bi (i:=3) 18 Z (by kernel_rfl) Z f Z Z Z call99 (λ_ _ w cG m=>Wk.b m cF) λa f=>q_p 4 18 Z f (λ_=>AK (f.e Z) (f.e Z) b_or) λa f=>Ai 5 18 Z f Z λa f=> ?_
          have⟨cH,cI,ct⟩:=bind_some ct
          refine Ey (i:=6) (listed':= #[true,true,true,true,true,true,true,false,false,false,false,false,false,false,false,false,false,false,false]) (C:=A16) 18 1 m cw Z T102 cI Z (by kernel_rfl) Z f Z Z Z Z λcJ a cK f=> ?_
          have⟨cL,cM,ct⟩:=bind_some ct
          refine DV (i:=7) (listed':= #[true,true,true,true,true,true,true,true,false,false,false,false,false,false,false,false,false,false,false]) 18 underlying103 sizeOf2 cK cM Z (by kernel_rfl) Z f Z Z Z Z λcN a cO f=>q_ownR_get (i:=8) (listed':= #[true,true,true,true,true,true,true,true,true,false,false,false,false,false,false,false,false,false,false]) (C:=A16) 18 1 cw Z Pl2 cO cI (A16.at cM) Z (by kernel_rfl) Z f Z Z Z λa f=>Ai 9 18 Z f Z λa f=>Ai 10 18 Z f Z λa f=>Ai 11 18 Z f Z λa f=> ?_
          have⟨cP,cQ,ct⟩:=bind_some ct
          refine Ey (i:=12) (listed':= #[true,true,true,true,true,true,true,true,true,true,true,true,true,false,false,false,false,false,false]) (C:=A16) 18 1 m cw Z T102 cQ Z (by kernel_rfl) Z f Z Z Z Z λcR a cS f=> ?_
          have⟨cT,cU,ct⟩:=bind_some ct
          refine DV (i:=13) (listed':= #[true,true,true,true,true,true,true,true,true,true,true,true,true,true,false,false,false,false,false]) 18 underlying103 sizeOf2 cS cU Z (by kernel_rfl) Z f Z Z Z Z λcV a cW f=>q_ownR_get (i:=14) (listed':= #[true,true,true,true,true,true,true,true,true,true,true,true,true,true,true,false,false,false,false]) (C:=A16) 18 1 cw Z Pl2 cW cQ (A16.at cU) Z (by kernel_rfl) Z f Z Z Z λa f=>q_p 15 18 Z f (λ_=>AK (f.e Z) (f.e Z) Ax) λa f=> ?_
          have⟨cX,cY,ct⟩:=bind_some ct
          refine Ey (i:=16) (listed':= #[true,true,true,true,true,true,true,true,true,true,true,true,true,true,true,true,true,false,false]) (C:=A16) 18 1 m cw Z T102 cY Z (by kernel_rfl) Z f Z Z Z Z λcZ a c0 f=> ?_
          have⟨c1,c2,ct⟩:=bind_some ct
          refine DV (i:=17) (listed':= #[true,true,true,true,true,true,true,true,true,true,true,true,true,true,true,true,true,true,false]) 18 underlying103 sizeOf2 c0 c2 Z (by kernel_rfl) Z f Z Z Z Z λc3 a c4 f=>AW λc5 w c6 m=> ?_
          have cw:=OwR.mono trivial c6 cw
          refine Ev (E:=A16) (y':=(Df cX (Int.toNat cy) (i64.wrap (cL+cT)))) [(iv (i64.wrap (cL+cT)))] 1 m cw Z sizeOf2 f Z Z c4 cY Z (A1 Z A8) (A16.le c2) (A16.putAt c2) λc7 w m c8=>Aa (Ak ?_)
          refine Ah f Z Z Ax λa f=>Ab f Z λa f=>Aa ?_
          obtain rfl:=sj ct
          exact⟨_,Z,_,_,Z,_,c7,(gt cv c6),f.k Z,m,c8⟩
         ·refine Aj f Z cx ?_
          refine AB Z ?_
          have m:=m.eraseAt 3
          obtain rfl:=sj ct
          obtain rfl:=cu _ rfl
          exact⟨_,Z,_,cq,cv,f.k Z,m,cw⟩
        ·rintro a w ⟨cj,rfl,ck,cl,c9,f,m,da⟩
         refine Ak ?_
         refine Ah f Z Z Ax λa f=>Ab f Z λa f=>Aa ?_
         obtain rfl:=sj bH
         exact⟨_,Z,_,_,Z,_,cl,(gt bJ (gt cc c9)),f.k Z,m,da⟩
      ·refine Aj f Z bL ?_
       refine AB Z ?_
       have m:=m.eraseAt 2
       obtain rfl:=sj bH
       obtain rfl:=bI _ rfl
       exact⟨_,Z,_,bF,bJ,f.k Z,m,bK⟩
     ·rintro a w ⟨bx,rfl,bz,bA,db,f,m,dc⟩
      refine Ak ?_
      refine Ab f Z λa f=>Ah f Z Z Ax λa f=>Ac f Z λa f=>Aa ?_
      obtain rfl:=sj a6
      exact⟨_,Z,_,_,Z,_,bA,(gt a8 (gt bi (gt bq db))),f.k Z,m,dc⟩
    ·refine Aj f Z bk ?_
     refine AB Z ?_
     obtain rfl:=sj a6
     obtain rfl:=a7 _ rfl
     exact⟨_,Z,_,a4,(gt a8 bi),f.k Z,m,a9⟩
   ·rintro a w ⟨aX,rfl,aY,aZ,dd,f,m,de⟩
    have au:=od1 dd au
    refine Af ?_
    refine Ac f Z λa f=>Aa (Ag (Af ?_))
    refine Ab f Z λa f=> ?_
    have⟨df,dg,hd⟩:=bind_some hd
    refine A6 0 m au Z T60 f Z Z Z dg λdh a di f=>BB 0 m au Z Pl71 f Z Z di dg λdj a dk f=> ?_
    subst dk
    have⟨dl,dm,hd⟩:=bind_some hd
    refine AO f Z call61 (Wk.d hW m dm) λdn dp dq w dr m dt a f=> ?_
    obtain⟨du,dv,rfl,rfl,dw⟩:=dt
    have au:=od1 dr au
    have de:=OwR.mono trivial dr de
    refine Br 0 m dw Z underlying72 f Z Z λa f=>Ab f Z λa f=>Aa ?_
    have⟨dx,dy,hd⟩:=bind_some hd
    refine AJ (λa w=>∃dz:Int,dz=dx∧∃(dA:GH),GLe dp dA∧Fr a 101 [(10,(iv dz))]∧Mem W dA w (H)) ?_ ?_
    ·refine Al ?_
     have m:=m.fr 2
     have m:=m.fr 2
     refine AE (λdB a w=>∃dC:Int,∃dD:Int,(dC,dD)=dB∧∃(dE:GH),GLe dp dE∧Fr a 101 [(3,aq),(4,aJ),(10,(iv dC)),(83,du),(84,(iv (dl.length:Int))),(85,(iv dD))]∧Mem W dE w (ar::aZ::dv::H)) dy ⟨_,_,Z,_,gr,f.k Z,m⟩ ?_
     clear dy f m
     rintro dB dF dG dH a w ⟨dC,dD,rfl,dE,dI,f,m⟩
     have au:=od1 dI au
     have de:=OwR.mono trivial dI de
     have dw:=od1 dI dw
     refine Af ?_
     refine Ah f Z Z AQ λa f=>Aa (Ag ?_)
     rcases Ae dG with⟨dJ,dG⟩|⟨dJ,dG⟩
     ·refine Am f Z dJ ?_
      refine An ?_
      refine Ag (Al (Af ?_))
      have⟨dK,dL,dG⟩:=bind_some dG
      refine A6 2 m dw Z T72 f Z Z Z dL λdM a dN f=>BB 2 m dw Z Pl3 f Z Z dN dL λdO a dP f=> ?_
      subst dP
      refine Ac f Z λa f=>Aa (Ak ?_)
      refine Ab f Z λa f=>Ab f Z λa f=>Ab f Z λa f=> ?_
      have⟨dQ,dR,dG⟩:=bind_some dG
      refine AO f Z call94 (Ow.lendCall (RI.mono _) 0 au m Z (λdS dT m dU=>Wk.g m dU dR) (λ_ _ _ _ h=>h)) λdV dW dX w dY m dZ a f=> ?_
      obtain⟨rfl,rfl⟩:=dZ
      have de:=OwR.mono trivial dY de
      refine Ab f Z λa f=> ?_
      have⟨d0,d1,dG⟩:=bind_some dG
      refine Ex 1 m de Z T102 f Z Z Z d1 λd2 a d3 f=> ?_
      have⟨d4,d5,dG⟩:=bind_some dG
      refine D1 underlying103 sizeOf2 f Z Z Z d3 d5 λd6 a d7 f=>l_ownR_get (C:=A16) 1 m de Z Pl2 f Z Z d7 d1 (A16.at d5) λa f=>Ah f Z Z Ax λa f=>Ac f Z λa f=>Aa (Ak ?_)
      refine Ah f Z Z Ax λa f=>Ab f Z λa f=>Aa ?_
      obtain rfl:=sj dG
      exact⟨_,Z,_,_,Z,_,(gt dI dY),f.k Z,m⟩
     ·refine Aj f Z dJ ?_
      refine AB Z ?_
      have m:Mem W dE w H:=Mem.drop (H':=[ar,aZ,dv]) m
      obtain rfl:=sj dG
      obtain rfl:=dH _ rfl
      exact⟨_,Z,_,dI,f.k Z,m⟩
    ·rintro a w ⟨dz,rfl,dA,d8,f,m⟩
     refine Af ?_
     refine Ab f Z λa f=>Ah f Z Z (DA Z) λa f=>Ac f Z λa f=>Aa ?_
     refine Ap ?_
     obtain rfl:=sj hd
     exact⟨[(iv (i64.wrap (Int.tdiv dz 2)))],f.g Z,f.d,_,[],(gt ah (gt ao (gt aE (gt dd (gt dr d8))))),m,Z,Z⟩
theorem Wk.c {aa:Value}{ab:LL}(m:Mem W G w (H))(ac:R2 G aa ab){y:Int}(hd:D.c ab=some y):
  Calls prog 76 #[(.agg #[aa])] w (Res W G H (λ_ Ho v=>Ho=[]∧v=(iv y))):=by
 refine Au (args:=[(.agg #[aa])]) (N:=6) [.tmp 2] func76 Z Z (lb Z) Z λa f=> ?_
 unfold D.c at hd
 refine Af ?_
 refine Bu (cs:=[aa]) m f Z Z Z λad w a m f=>Ac f Z λa f=>Ay ?_
 refine Cb underlying28 Z sizeOf22 f Z λa f=>A5 0 0 m BU f Z Z Z Z λa f=>Bd underlying22 f Z Z ac λa f=>Ac f Z λa f=>Aa ?_
 refine Ap ?_
 have m:Mem W G w H:=Mem.drop (H':=[ib ad 28 [aa]]) m
 obtain rfl:=sj hd
 exact⟨[(iv (ab.length:Int))],f.g Z,f.d,_,[],gr,m,Z,Z⟩
theorem Wk.f {v0:Value}{x0:LI}{x1:Int}(m:Mem W G w (H))(h0:R1 G v0 x0){y:Bool}(hd:D.f x0 x1=some y):
  Calls prog 114 #[v0,(iv x1)] w (Res W G H (λ_ Ho v=>Ho=[]∧v=(.bool y))):=by
 refine Au (args:=[v0,(iv x1)]) (N:=18) [.tmp 4] func114 Z Z (lb Z) Z λa f=> ?_
 unfold D.f at hd
 refine Af ?_
 refine Ac f Z λa f=>Aa (Ag (Af ?_))
 refine Ac f Z λa f=>Aa ?_
 have⟨aa,ab,hd⟩:=bind_some hd
 refine AJ (λa w=>∃q_19':Unit,aa= .inl q_19'∧∃(ac:GH),GLe G ac∧Fr a 18 []∧Mem W ac w (H)) ?_ ?_
 ·refine Al ?_
  refine AE (λad a w=>∃ae:Int,ae=ad∧∃(af:GH),GLe G af∧Fr a 18 [(0,v0),(1,(iv x1)),(5,(iv ae))]∧Mem W af w (H)) ab ⟨_,Z,_,gr,f.k Z,m⟩ ?_
  clear ab f m
  rintro ad ag ah ai a w ⟨ae,rfl,af,aj,f,m⟩
  have h0:=rd1 aj h0
  refine Ag (Af ?_)
  refine Ab f Z λa f=>Ab f Z λa f=>Bd underlying43 f Z Z h0 λa f=>Ah f Z Z AQ λa f=>Aa ?_
  rcases Ae ah with⟨ak,ah⟩|⟨ak,ah⟩
  ·refine Am f Z ak ?_
   refine An ?_
   refine Ag (Al (Af ?_))
   refine Ab f Z λa f=>Ab f Z λa f=> ?_
   have⟨al,am,ah⟩:=bind_some ah
   refine By T43 f Z Z Z h0 am λan ao a ap aq f=> ?_
   subst aq
   refine AU m Pl2 f Z Z ap λa f=>Ab f Z λa f=>Ah f Z Z BF λa f=>Aa ?_
   rcases Ae ah with⟨ar,ah⟩|⟨ar,ah⟩
   ·refine Am f Z ar ?_
    refine Af ?_
    refine Ac f Z λa f=>Aa ?_
    refine Ap ?_
    obtain rfl:=sj ah
    obtain rfl:=ai _ rfl
    obtain rfl:=sj hd
    exact⟨[(.bool true)],f.g Z,f.d,_,[],aj,m,Z,Z⟩
   ·refine Aj f Z ar ?_
    refine An ?_
    refine Ak ?_
    refine Ab f Z λa f=>Ah f Z Z Ax λa f=>Ac f Z λa f=>Aa ?_
    obtain rfl:=sj ah
    exact⟨_,Z,_,Z,_,aj,f.k Z,m⟩
  ·refine Aj f Z ak ?_
   refine AB Z ?_
   obtain rfl:=sj ah
   obtain rfl:=ai _ rfl
   exact⟨_,Z,_,aj,f.weak trivial,m⟩
 ·rintro a w ⟨_,rfl,ac,au,f,m⟩
  refine Af ?_
  refine Ac f Z λa f=>Aa ?_
  refine Ap ?_
  obtain rfl:=sj hd
  exact⟨[(.bool false)],f.g Z,f.d,_,[],au,m,Z,Z⟩
theorem Wk.j {aa:Value}{ab:LL}(m:Mem W G w (H))(ac:R2 G aa ab){y:Bool}(hd:D.j ab=some y):
  Calls prog 46 #[(.agg #[aa])] w (Res W G H (λ_ Ho v=>Ho=[]∧v=(.bool y))):=by
 refine Au (args:=[(.agg #[aa])]) (N:=64) [.tmp 2] func46 Z Z (lb Z) Z λa f=> ?_
 unfold D.j at hd
 refine Af ?_
 refine Bu (cs:=[aa]) m f Z Z Z λad w a m f=>Ac f Z λa f=>Ay ?_
 refine AG 0 0 (ds:=[aa]) m AX f Z Z Z Z Z λa f=> ?_
 have⟨ae,af,hd⟩:=bind_some hd
 refine A3 f Z call76 (Wk.c m ac af) λag w ah m a f=> ?_
 have ac:=rd2 ah ac
 refine Ac f Z λa f=>Aa (Ag (Af ?_))
 refine Ab f Z λa f=> ?_
 have⟨ai,aj,hd⟩:=bind_some hd
 refine A3 f Z call69 (Wk.e m aj) λak w al m a f=> ?_
 have ac:=rd2 al ac
 refine l_o f (Bg (f.e Z)) λa f=>Aa ?_
 rcases Ae hd with⟨am,hd⟩|⟨am,hd⟩
 ·refine Am f Z am ?_
  refine Af ?_
  refine Ac f Z λa f=>Aa ?_
  refine Ap ?_
  have m:Mem W ak w H:=Mem.drop (H':=[ib ad 28 [aa]]) m
  obtain rfl:=sj hd
  exact⟨[(.bool false)],f.g Z,f.d,_,[],(gt ah al),m,Z,Z⟩
 ·refine Aj f Z am ?_
  refine An ?_
  refine Ag (Af ?_)
  refine Ac f Z λa f=>Aa ?_
  have⟨an,ao,hd⟩:=bind_some hd
  refine AJ (λa w=>∃q_138':Unit,an= .inl q_138'∧∃(ap:GH),GLe ak ap∧Fr a 64 [(1,(pb ad)),(3,(iv ae))]∧Mem W ap w (ib ad 28 [aa]::H)) ?_ ?_
  ·refine Al ?_
   refine AE (λaq a w=>∃ar:Int,ar=aq∧∃(au:GH),GLe ak au∧Fr a 64 [(1,(pb ad)),(3,(iv ae)),(4,(iv ar))]∧Mem W au w (ib ad 28 [aa]::H)) ao ⟨_,Z,_,gr,f.k Z,m⟩ ?_
   clear ao f m
   rintro aq av aw ax a w ⟨ar,rfl,au,ay,f,m⟩
   have ac:=rd2 ay ac
   refine Ag (Af ?_)
   refine Ab f Z λa f=>Ab f Z λa f=>Ah f Z Z AQ λa f=>Aa ?_
   rcases Ae aw with⟨az,aw⟩|⟨az,aw⟩
   ·refine Am f Z az ?_
    refine An ?_
    refine Ag (Al (Af ?_))
    refine Cb underlying28 Z sizeOf22 f Z λa f=>A5 0 0 m BU f Z Z Z Z λa f=>Ab f Z λa f=> ?_
    have⟨aA,aB,aw⟩:=bind_some aw
    refine By T22 f Z Z Z ac aB λaC aD a aE aF f=>AU m Cf f Z Z aE λa f=>Ab f Z λa f=> ?_
    have⟨aG,aH,aw⟩:=bind_some aw
    refine A3 f Z call113 (Wk.s m aF aH) λaI w aJ m a f=> ?_
    have ac:=rd2 aJ ac
    refine l_o f (Bg (f.e Z)) λa f=>Ab f Z λa f=> ?_
    have⟨aK,aL,aw⟩:=bind_some aw
    refine Bj 8 (λa w=>∃aM,GLe aI aM∧Mem W aM w (ib ad 28 [aa]::H)∧Fr a 64 [(1,(pb ad)),(3,(iv ae)),(4,(iv ar)),(14,(.bool (decide (ar<ae)))),(17,(pb ad)),(18,aa),(19,(iv ar)),(20,aC),(21,aD),(22,(iv ae)),(23,(.bool aG)),(24,(.bool (!aG))),(25,(.bool (!aG))),(33,(.bool aK))]) ?_ ?_
    ·rcases Ae aL with⟨aN,aL⟩|⟨aN,aL⟩
     ·refine Aw f aN λa f=> ?_
      refine Aw f aN λa f=>Aw f aN λa f=>Aw f aN λa f=>Aw f aN λa f=>Aw f aN λa f=>Aw f aN λa f=>l_o f (AD (f.e Z) aN (f.e Z)) λa f=> ?_
      obtain rfl:=sj aL
      exact⟨_,gr,m,f.k Z⟩
     ·refine As f aN ?_
      refine Cb underlying28 Z sizeOf22 f Z λa f=>As f aN ?_
      refine A5 0 0 m BU f Z Z Z Z λa f=>As f aN ?_
      refine Ab f Z λa f=>As f aN ?_
      have⟨aO,aP,aL⟩:=bind_some aL
      refine By T22 f Z Z Z ac aP λaQ aR a aS aT f=>As f aN ?_
      refine AU m Cf f Z Z aS λa f=>As f aN ?_
      refine Ab f Z λa f=>As f aN ?_
      have⟨aU,aV,aL⟩:=bind_some aL
      refine A3 f Z call114 (Wk.f m aT aV) λaW w aX m a f=>l_o f (AC (f.e Z) aN (f.e Z)) λa f=> ?_
      obtain rfl:=sj aL
      exact⟨_,aX,m,f.k Z⟩
    ·rintro a w ⟨aM,aY,m,f⟩
     refine Aa ?_
     rcases Ae aw with⟨aZ,aw⟩|⟨aZ,aw⟩
     ·refine Am f Z aZ ?_
      refine Af ?_
      refine Ac f Z λa f=>Aa ?_
      refine Ap ?_
      have m:Mem W aM w H:=Mem.drop (H':=[ib ad 28 [aa]]) m
      obtain rfl:=sj aw
      obtain rfl:=ax _ rfl
      obtain rfl:=sj hd
      exact⟨[(.bool false)],f.g Z,f.d,_,[],(gt ah (gt al (gt ay (gt aJ aY)))),m,Z,Z⟩
     ·refine Aj f Z aZ ?_
      refine An ?_
      refine Ak ?_
      refine Ab f Z λa f=>Ah f Z Z Ax λa f=>Ac f Z λa f=>Aa ?_
      obtain rfl:=sj aw
      exact⟨_,Z,_,Z,_,(gt ay (gt aJ aY)),f.k Z,m⟩
   ·refine Aj f Z az ?_
    refine AB Z ?_
    obtain rfl:=sj aw
    obtain rfl:=ax _ rfl
    exact⟨_,Z,_,ay,f.k Z,m⟩
  ·rintro a w ⟨_,rfl,ap,a0,f,m⟩
   have ac:=rd2 a0 ac
   refine Ag (Af ?_)
   refine Ac f Z λa f=>Aa ?_
   have⟨a1,a2,hd⟩:=bind_some hd
   refine AJ (λa w=>∃q_545':Unit,a1= .inl q_545'∧∃(a3:GH),GLe ap a3∧Fr a 64 []∧Mem W a3 w (H)) ?_ ?_
   ·refine Al ?_
    refine AE (λa4 a w=>∃a5:Int,a5=a4∧∃(a6:GH),GLe ap a6∧Fr a 64 [(1,(pb ad)),(3,(iv ae)),(5,(iv a5))]∧Mem W a6 w (ib ad 28 [aa]::H)) a2 ⟨_,Z,_,gr,f.k Z,m⟩ ?_
    clear a2 f m
    rintro a4 a7 a8 a9 a w ⟨a5,rfl,a6,ba,f,m⟩
    have ac:=rd2 ba ac
    refine Ag (Af ?_)
    refine Ab f Z λa f=>Ab f Z λa f=>Ah f Z Z AQ λa f=>Aa ?_
    rcases Ae a8 with⟨bb,a8⟩|⟨bb,a8⟩
    ·refine Am f Z bb ?_
     refine An ?_
     refine Ag (Al (Af ?_))
     refine Ac f Z λa f=>Aa ?_
     have⟨bc,bd,a8⟩:=bind_some a8
     refine AJ (λa w=>∃q_759':Unit,bc= .inl q_759'∧∃(be:GH),GLe a6 be∧Fr a 64 [(1,(pb ad)),(3,(iv ae)),(5,(iv a5))]∧Mem W be w (ib ad 28 [aa]::H)) ?_ ?_
     ·refine Al ?_
      refine AE (λbf a w=>∃bg:Int,bg=bf∧∃(bh:GH),GLe a6 bh∧Fr a 64 [(1,(pb ad)),(3,(iv ae)),(5,(iv a5)),(6,(iv bg))]∧Mem W bh w (ib ad 28 [aa]::H)) bd ⟨_,Z,_,gr,f.k Z,m⟩ ?_
      clear bd f m
      rintro bf bi bj bk a w ⟨bg,rfl,bh,bl,f,m⟩
      have ac:=rd2 bl ac
      refine Ag (Af ?_)
      refine Ab f Z λa f=>Cb underlying28 Z sizeOf22 f Z λa f=>A5 0 0 m BU f Z Z Z Z λa f=>Ab f Z λa f=> ?_
      have⟨bm,bn,bj⟩:=bind_some bj
      refine By T22 f Z Z Z ac bn λbo bp a bq br f=>AU m Cf f Z Z bq λa f=>Bd underlying43 f Z Z br λa f=>Ah f Z Z AQ λa f=>Aa ?_
      rcases Ae bj with⟨bs,bj⟩|⟨bs,bj⟩
      ·refine Am f Z bs ?_
       refine An ?_
       refine Ag (Al (Ag ?_))
       refine A7 15 AI (by kernel_rfl) m ?_
       refine CK 0 15 underlying28 Z sizeOf22 Z f Z λa f=>Ci 1 15 0 BU Z Z Z f Z λa f=>CK 2 15 underlying28 Z sizeOf22 Z f Z λa f=>Ci 3 15 0 BU Z Z Z f Z λa f=>Ai 4 15 Z f Z λa f=> ?_
       have⟨bt,bu,bj⟩:=bind_some bj
       refine BM 5 15 T22 ac bu Z f Z Z λbv bw a bx bz f=>BL 6 15 Cf bx Z f Z λa f=>Ai 7 15 Z f Z λa f=> ?_
       have⟨bA,bB,bj⟩:=bind_some bj
       refine BM 8 15 T43 bz bB Z f Z Z λbC bD a bE bF f=> ?_
       subst bF
       refine BL 9 15 Pl2 bE Z f Z λa f=> ?_
       have⟨bG,bH,bj⟩:=bind_some bj
       refine BM 10 15 T22 ac bH Z f Z Z λbI bJ a bK bL f=>BL 11 15 Cf bK Z f Z λa f=>Ai 12 15 Z f Z λa f=> ?_
       have⟨bM,bN,bj⟩:=bind_some bj
       refine Bi (i:=13) 15 Z (by kernel_rfl) Z f Z Z Z call114 (λ_ _ w bO m=>Wk.f m (rd1 bO bL) bN) λa f=>q_p 14 15 Z f (λ_=>Bg (f.e Z)) λa f=>AW λbP w bQ m=>Aa ?_
       rcases Ae bj with⟨bR,bj⟩|⟨bR,bj⟩
       ·refine Am f Z bR ?_
        refine Af ?_
        refine Ac f Z λa f=>Aa ?_
        refine Ap ?_
        have m:Mem W bP w H:=Mem.drop (H':=[ib ad 28 [aa]]) m
        obtain rfl:=sj bj
        obtain rfl:=bk _ rfl
        obtain rfl:=sj a8
        obtain rfl:=a9 _ rfl
        obtain rfl:=sj hd
        exact⟨[(.bool false)],f.g Z,f.d,_,[],(gt ah (gt al (gt a0 (gt ba (gt bl bQ))))),m,Z,Z⟩
       ·refine Aj f Z bR ?_
        refine An ?_
        refine Ak ?_
        refine Ab f Z λa f=>Ah f Z Z Ax λa f=>Ac f Z λa f=>Aa ?_
        obtain rfl:=sj bj
        exact⟨_,Z,_,Z,_,(gt bl bQ),f.k Z,m⟩
      ·refine Aj f Z bs ?_
       refine AB Z ?_
       obtain rfl:=sj bj
       obtain rfl:=bk _ rfl
       exact⟨_,Z,_,bl,f.k Z,m⟩
     ·rintro a w ⟨_,rfl,be,bS,f,m⟩
      refine Ak ?_
      refine Ab f Z λa f=>Ah f Z Z Ax λa f=>Ac f Z λa f=>Aa ?_
      obtain rfl:=sj a8
      exact⟨_,Z,_,Z,_,(gt ba bS),f.k Z,m⟩
    ·refine Aj f Z bb ?_
     refine AB Z ?_
     have m:Mem W a6 w H:=Mem.drop (H':=[ib ad 28 [aa]]) m
     obtain rfl:=sj a8
     obtain rfl:=a9 _ rfl
     exact⟨_,Z,_,ba,f.weak trivial,m⟩
   ·rintro a w ⟨_,rfl,a3,bT,f,m⟩
    refine Af ?_
    refine Ac f Z λa f=>Aa ?_
    refine Ap ?_
    obtain rfl:=sj hd
    exact⟨[(.bool true)],f.g Z,f.d,_,[],(gt ah (gt al (gt a0 bT))),m,Z,Z⟩
theorem Wk.D0 {aa:Value}{ab:LL}(m:Mem W G w (H))(ac:R2 G aa ab){y:(LI)}(hd:D.D0 ab=some y):
  Calls prog 101 #[(.agg #[aa])] w (Res W G H (λG' Ho v=>∃r0:Value,∃i0:Itm,Ho=[i0]∧r0=v∧Ow R0 2 G' i0 r0 y)):=by
 refine Au (args:=[(.agg #[aa])]) (N:=42) [.tmp 2] func101 Z Z (lb Z) Z λa f=> ?_
 unfold D.D0 at hd
 refine Af ?_
 refine Bu (cs:=[aa]) m f Z Z Z λad w a m f=>Ac f Z λa f=>Ay ?_
 refine Bo (R:=R0) (xs:=([]:LI)) (RI.one _) m T43 f Z Z Z (by decide) (All2.nil _) λae af w a m ag f=>Ac f Z λa f=>Aa (Ag (Af ?_))
 refine Ac f Z λa f=>Aa ?_
 have⟨ah,ai,hd⟩:=bind_some hd
 refine AJ (λa w=>∃aj:LI,aj=ah∧∃(ak:GH) (al:Value) (am:Itm),GLe G ak∧Fr a 42 [(3,al)]∧Mem W ak w (am::H)∧Ow R0 2 ak am al aj) ?_ ?_
 ·refine Al ?_
  have m:=m.fr 1
  refine AE (λan a w=>∃ao:LI,∃ap:Int,(ao,ap)=an∧∃(aq:GH) (ar:Value) (au:Itm),GLe G aq∧Fr a 42 [(1,(pb ad)),(3,ar),(4,(iv ap))]∧Mem W aq w (ib ad 28 [aa]::au::H)∧Ow R0 2 aq au ar ao) ai ⟨_,_,Z,_,af,ae,gr,f.k Z,m,ag⟩ ?_
  clear ai f m
  rintro an av aw ax a w ⟨ao,ap,rfl,aq,ar,au,ay,f,m,az⟩
  have ac:=rd2 ay ac
  refine Ag (Af ?_)
  refine Ab f Z λa f=>Cb underlying28 Z sizeOf22 f Z λa f=>A5 0 0 m BU f Z Z Z Z λa f=>Bd underlying22 f Z Z ac λa f=>Ah f Z Z AQ λa f=>Aa ?_
  rcases Ae aw with⟨aA,aw⟩|⟨aA,aw⟩
  ·refine Am f Z aA ?_
   refine An ?_
   refine Ag (Al (Af ?_))
   refine Ac f Z λa f=>Aa (Ag (Af ?_))
   refine Ac f Z λa f=>Aa ?_
   have⟨aB,aC,aw⟩:=bind_some aw
   refine AJ (λa w=>∃aD:Int,aD=aB∧∃(aE:GH),GLe aq aE∧Fr a 42 [(1,(pb ad)),(3,ar),(4,(iv ap)),(5,(iv aD))]∧Mem W aE w (ib ad 28 [aa]::au::H)) ?_ ?_
   ·refine Al ?_
    refine AE (λaF a w=>∃aG:Int,∃aH:Int,(aG,aH)=aF∧∃(aI:GH),GLe aq aI∧Fr a 42 [(1,(pb ad)),(3,ar),(4,(iv ap)),(5,(iv aG)),(6,(iv aH))]∧Mem W aI w (ib ad 28 [aa]::au::H)) aC ⟨_,_,Z,_,gr,f.k Z,m⟩ ?_
    clear aC f m
    rintro aF aJ aK aL a w ⟨aG,aH,rfl,aI,aM,f,m⟩
    have ac:=rd2 aM ac
    refine Ag (Af ?_)
    refine Ab f Z λa f=>Cb underlying28 Z sizeOf22 f Z λa f=>A5 0 0 m BU f Z Z Z Z λa f=>Ab f Z λa f=> ?_
    have⟨aN,aO,aK⟩:=bind_some aK
    refine By T22 f Z Z Z ac aO λaP aQ a aR aS f=>AU m Cf f Z Z aR λa f=>Bd underlying43 f Z Z aS λa f=>Ah f Z Z AQ λa f=>Aa ?_
    rcases Ae aK with⟨aT,aK⟩|⟨aT,aK⟩
    ·refine Am f Z aT ?_
     refine An ?_
     refine Ag (Al (Ak ?_))
     refine Ab f Z λa f=>Cb underlying28 Z sizeOf22 f Z λa f=>A5 0 0 m BU f Z Z Z Z λa f=>Ab f Z λa f=> ?_
     have⟨aU,aV,aK⟩:=bind_some aK
     refine By T22 f Z Z Z ac aV λaW aX a aY aZ f=>AU m Cf f Z Z aY λa f=>Ab f Z λa f=> ?_
     have⟨a0,a1,aK⟩:=bind_some aK
     refine By T43 f Z Z Z aZ a1 λa2 a3 a a4 a5 f=> ?_
     subst a5
     refine AU m Pl2 f Z Z a4 λa f=>l_o f (BP (f.e Z) ⟨_,underlying2⟩ underlying118) λa f=> ?_
     obtain⟨a6,aK⟩:=BZ aK
     refine l_o f (Dy (f.e Z) (f.e Z) a6) λa f=>Ah f Z Z b_or λa f=>Ac f Z λa f=>Aa (Ak ?_)
     refine Ab f Z λa f=>Ah f Z Z Ax λa f=>Ac f Z λa f=>Aa ?_
     obtain rfl:=sj aK
     exact⟨_,Z,_,_,Z,_,aM,f.k Z,m⟩
    ·refine Aj f Z aT ?_
     refine AB Z ?_
     obtain rfl:=sj aK
     obtain rfl:=aL _ rfl
     exact⟨_,Z,_,aM,f.k Z,m⟩
   ·rintro a w ⟨aD,rfl,aE,a7,f,m⟩
    have az:=od1 a7 az
    refine Ak ?_
    refine Ab f Z λa f=>Ab f Z λa f=>Bo (R:=R0) (xs:=([aD]:LI)) (RI.one _) m T43 f Z Z Z (by decide) (All2.cons Z (All2.nil _)) λa8 a9 w a m ba f=> ?_
    have⟨bb,bc,aw⟩:=bind_some aw
    refine Bz (RI.one _) 2 m az Z T43 Z (by decide) f Z Z Z (Ow.src (j:=0) ba m Z) bc λbd be w a m bf f=>Ac f Z λa f=>Aa (Ak ?_)
    refine Ab f Z λa f=>Ah f Z Z Ax λa f=>Ac f Z λa f=>Aa ?_
    have m:=m.fr 2
    have m:=m.fr 2
    have m:=m.eraseAt 2
    obtain rfl:=sj aw
    exact⟨_,Z,_,_,Z,_,be,bd,(gt ay a7),f.k Z,m,bf⟩
  ·refine Aj f Z aA ?_
   refine AB Z ?_
   have m:=m.fr 1
   have m:=m.eraseAt 1
   obtain rfl:=sj aw
   obtain rfl:=ax _ rfl
   exact⟨_,Z,_,ar,au,ay,f.k Z,m,az⟩
 ·rintro a w ⟨aj,rfl,ak,al,am,bg,f,m,bh⟩
  refine Af ?_
  refine Ab f Z λa f=>Ac f Z λa f=>Aa ?_
  refine Ap ?_
  obtain rfl:=sj hd
  exact⟨[al],f.g Z,f.d,_,[am],bg,m,_,_,Z,Z,bh⟩
theorem Wk.d0 {x0:Bool}(m:Mem W G w (H)){y:Int}(hd:D.d0 x0=some y):
  Calls prog 141 #[(.bool x0)] w (Res W G H (λ_ Ho v=>Ho=[]∧v=(iv y))):=by
 refine Au (args:=[(.bool x0)]) (N:=4) [.tmp 2] func141 Z Z (lb Z) Z λa f=> ?_
 unfold D.d0 at hd
 refine Af ?_
 refine Ac f Z λa f=>Aa (Ag (Af ?_))
 refine Ab f Z λa f=>Aa ?_
 rcases Ae hd with⟨aa,hd⟩|⟨aa,hd⟩
 ·refine Am f Z aa ?_
  refine Af ?_
  refine Ac f Z λa f=>Aa ?_
  refine Ap ?_
  obtain rfl:=sj hd
  exact⟨[(iv 1)],f.g Z,f.d,_,[],gr,m,Z,Z⟩
 ·refine Aj f Z aa ?_
  refine An ?_
  refine Af ?_
  refine Ac f Z λa f=>Aa ?_
  refine Ap ?_
  obtain rfl:=sj hd
  exact⟨[(iv 0)],f.g Z,f.d,_,[],gr,m,Z,Z⟩
theorem Wk.E {x0:Int}(m:Mem W G w (H)){y:Int}(hd:D.E x0=some y):
  Calls prog 142 #[(iv x0)] w (Res W G H (λ_ Ho v=>Ho=[]∧v=(iv y))):=by
 refine Au (args:=[(iv x0)]) (N:=13) [.tmp 2] func142 Z Z (lb Z) Z λa f=> ?_
 unfold D.E at hd
 refine Af ?_
 refine Ac f Z λa f=>Ay ?_
 refine Ac f Z λa f=>Aa (Ag ?_)
 have⟨aa,ab,hd⟩:=bind_some hd
 refine AJ (λa w=>∃ac:Int,ac=aa∧∃(ad:GH),GLe G ad∧Fr a 13 [(3,(iv ac))]∧Mem W ad w (H)) ?_ ?_
 ·refine Al ?_
  refine AE (λae a w=>∃af:Int,af=ae∧∃(ag:GH),GLe G ag∧Fr a 13 [(0,(iv x0)),(3,(iv af))]∧Mem W ag w (H)) ab ⟨_,Z,_,gr,f.k Z,m⟩ ?_
  clear ab f m
  rintro ae ah ai aj a w ⟨af,rfl,ag,ak,f,m⟩
  refine Ag (Af ?_)
  refine Ab f Z λa f=>Ab f Z λa f=>l_o f (BP (f.e Z) ⟨_,underlying2⟩ underlying118) λa f=> ?_
  obtain⟨al,ai⟩:=BZ ai
  refine l_o f (Dv (f.e Z) (f.e Z) al) λa f=>Ah f Z Z CB λa f=>Ah f Z Z BF λa f=>Aa ?_
  rcases Ae ai with⟨am,ai⟩|⟨am,ai⟩
  ·refine Am f Z am ?_
   refine An ?_
   refine Al (Ak ?_)
   refine Ab f Z λa f=>Ah f Z Z Ax λa f=>Ac f Z λa f=>Aa ?_
   obtain rfl:=sj ai
   exact⟨_,Z,_,Z,_,ak,f.k Z,m⟩
  ·refine Aj f Z am ?_
   refine AB Z ?_
   obtain rfl:=sj ai
   obtain rfl:=aj _ rfl
   exact⟨_,Z,_,ak,f.k Z,m⟩
 ·rintro a w ⟨ac,rfl,ad,an,f,m⟩
  refine Af ?_
  refine Ab f Z λa f=>Ac f Z λa f=>Aa ?_
  refine Ap ?_
  obtain rfl:=sj hd
  exact⟨[(iv ac)],f.g Z,f.d,_,[],an,m,Z,Z⟩
theorem Wk.E0 {v0:Value}{x0:LI}{x1:Bool}(m:Mem W G w (H))(h0:R1 G v0 x0){y:(LL)}(hd:D.E0 x0 x1=some y):
  Calls prog 100 #[v0,(.bool x1)] w (Res W G H (λG' Ho v=>∃r0:Value,∃i0:Itm,Ho=[i0]∧r0=v∧Ow R1 43 G' i0 r0 y)):=by
 refine Au (args:=[v0,(.bool x1)]) (N:=91) [.tmp 4] func100 Z Z (lb Z) Z λa f=> ?_
 unfold D.E0 at hd
 refine Af ?_
 refine Ac f Z λa f=>Ay ?_
 refine Ab f Z λa f=>Bd underlying43 f Z Z h0 λa f=>Ac f Z λa f=>Ay ?_
 refine Ab f Z λa f=>l_o f (BP (f.e Z) ⟨_,underlying3⟩ underlying118) λa f=> ?_
 obtain⟨aa,hd⟩:=BZ hd
 refine l_o f (Dy (f.e Z) (f.e Z) aa) λa f=> ?_
 have⟨ab,ac,hd⟩:=bind_some hd
 refine l_make (R:=R1) m T22 Z (by decide) (RSl.nil R0 G) f Z Z Z ac λad ae w a m af f=>Ac f Z λa f=>Aa (Ag (Af ?_))
 refine Ac f Z λa f=>Aa ?_
 have⟨ag,ah,hd⟩:=bind_some hd
 refine AJ (λa w=>∃ai:LL,ai=ag∧∃(aj:GH) (ak:Itm),GLe G aj∧Fr a 91 [(6,ae)]∧Mem W aj w (ak::H)∧Ow R1 43 aj ak ae ai) ?_ ?_
 ·refine Al ?_
  refine AE (λal a w=>∃am:LL,∃an:Int,(am,an)=al∧∃(ao:GH) (ap:Itm),GLe G ao∧Fr a 91 [(0,v0),(1,(.bool x1)),(5,(iv (x0.length:Int))),(6,ae),(7,(iv an))]∧Mem W ao w (ap::H)∧Ow R1 43 ao ap ae am) ah ⟨_,_,Z,_,ad,gr,f.k Z,m,af⟩ ?_
  clear ah f m
  rintro al aq ar au a w ⟨am,an,rfl,ao,ap,av,f,m,aw⟩
  have h0:=rd1 av h0
  refine Ag (Af ?_)
  refine Ab f Z λa f=>Ab f Z λa f=>Br 0 m aw Z underlying22 f Z Z λa f=>Ah f Z Z AQ λa f=>Aa ?_
  rcases Ae ar with⟨ax,ar⟩|⟨ax,ar⟩
  ·refine Am f Z ax ?_
   refine An ?_
   refine Ag (Al (Af ?_))
   refine Ab f Z λa f=> ?_
   have⟨ay,az,ar⟩:=bind_some ar
   refine l_make (R:=R0) m T43 Z (by decide) Z f Z Z Z az λaA aB w a m aC f=>Ac f Z λa f=>Aa (Ag (Af ?_))
   refine Ac f Z λa f=>Aa ?_
   have⟨aD,aE,ar⟩:=bind_some ar
   refine AJ (λa w=>∃aF:LI,aF=aD∧∃(aG:GH) (aH:Itm),GLe ao aG∧Fr a 91 [(0,v0),(1,(.bool x1)),(5,(iv (x0.length:Int))),(6,ae),(7,(iv an)),(8,aB)]∧Mem W aG w (ap::aH::H)∧Ow R0 2 aG aH aB aF) ?_ ?_
   ·refine Al ?_
    have m:=m.fr 1
    refine AE (λaI a w=>∃aJ:LI,∃aK:Int,(aJ,aK)=aI∧∃(aL:GH) (aM:Itm),GLe ao aL∧Fr a 91 [(0,v0),(1,(.bool x1)),(5,(iv (x0.length:Int))),(6,ae),(7,(iv an)),(8,aB),(9,(iv aK))]∧Mem W aL w (ap::aM::H)∧Ow R0 2 aL aM aB aJ) aE ⟨_,_,Z,_,aA,gr,f.k Z,m,aC⟩ ?_
    clear aE f m
    rintro aI aN aO aP a w ⟨aJ,aK,rfl,aL,aM,aQ,f,m,aR⟩
    have h0:=rd1 aQ h0
    have aw:=Ow.mono (RSl.mono (RI.mono _)) aQ aw
    refine Ag (Af ?_)
    refine Ab f Z λa f=>Ab f Z λa f=>Ah f Z Z AQ λa f=>Aa ?_
    rcases Ae aO with⟨aS,aO⟩|⟨aS,aO⟩
    ·refine Am f Z aS ?_
     refine An ?_
     refine Ag (Al (Ag (Af ?_)))
     refine Ab f Z λa f=>Ab f Z λa f=>l_o f (BP (f.e Z) ⟨_,underlying3⟩ underlying118) λa f=> ?_
     obtain⟨aT,aO⟩:=BZ aO
     refine l_o f (Dv (f.e Z) (f.e Z) aT) λa f=>Ah f Z Z CB λa f=>Ah f Z Z BF λa f=>Aa ?_
     rcases Ae aO with⟨aU,aO⟩|⟨aU,aO⟩
     ·refine Am f Z aU ?_
      refine AB Z ?_
      refine Ak ?_
      refine Ab f Z λa f=>Ah f Z Z Ax λa f=>Ac f Z λa f=>Aa ?_
      obtain rfl:=sj aO
      exact⟨_,Z,_,_,Z,_,aM,aQ,f.k Z,m,aR⟩
     ·refine Aj f Z aU ?_
      refine An ?_
      refine Af ?_
      refine Ab f Z λa f=>Ab f Z λa f=>l_o f (BP (f.e Z) ⟨_,underlying3⟩ underlying118) λa f=> ?_
      obtain⟨aV,aO⟩:=BZ aO
      refine l_o f (Dy (f.e Z) (f.e Z) aV) λa f=>Ah f Z Z Dh λa f=>Ac f Z λa f=>Aa (Ag (Af ?_))
      refine Ab f Z λa f=>Ah f Z Z BF λa f=>Aa ?_
      rcases Ae aO with⟨aW,aO⟩|⟨aW,aO⟩
      ·refine Am f Z aW ?_
       refine Af ?_
       refine Ab f Z λa f=>Ab f Z λa f=>Ab f Z λa f=>l_o f (Bg (f.e Z)) λa f=>Ab f Z λa f=> ?_
       have⟨aX,aY,aO⟩:=bind_some aO
       refine Bj 7 (λa w=>∃aZ,GLe aL aZ∧Mem W aZ w (ap::aM::H)∧Fr a 91 [(0,v0),(1,(.bool x1)),(5,(iv (x0.length:Int))),(6,ae),(7,(iv an)),(8,aB),(9,(iv aK)),(10,(iv (iandNot .i64 an (ishl .i64 1 (IntKind.u64.wrap aK))))),(43,(.bool ((iandNot .i64 an (ishl .i64 1 (IntKind.u64.wrap aK)))==0))),(44,aB),(45,(iv aK)),(46,(.bool x1)),(47,(.bool (!x1))),(48,(.bool (!x1))),(55,(.bool aX))]) ?_ ?_
       ·rcases Ae aY with⟨a0,aY⟩|⟨a0,aY⟩
        ·refine Aw f a0 λa f=> ?_
         refine Aw f a0 λa f=>Aw f a0 λa f=>Aw f a0 λa f=>Aw f a0 λa f=>Aw f a0 λa f=>l_o f (AD (f.e Z) a0 (f.e Z)) λa f=> ?_
         obtain rfl:=sj aY
         exact⟨_,gr,m,f.k Z⟩
        ·refine As f a0 ?_
         refine Ab f Z λa f=>As f a0 ?_
         refine Ab f Z λa f=>As f a0 ?_
         have⟨a1,a2,aY⟩:=bind_some aY
         refine By T43 f Z Z Z h0 a2 λa3 a4 a a5 a6 f=> ?_
         subst a6
         refine As f a0 ?_
         refine AU m Pl2 f Z Z a5 λa f=>As f a0 ?_
         refine Ah f Z Z CB λa f=>As f a0 ?_
         refine Ah f Z Z BF λa f=>l_o f (AC (f.e Z) a0 (f.e Z)) λa f=> ?_
         obtain rfl:=sj aY
         exact⟨_,gr,m,f.k Z⟩
       ·rintro a w ⟨aZ,a7,m,f⟩
        have aR:=od1 a7 aR
        have⟨a8,a9,aO⟩:=bind_some aO
        refine A3 f Z call141 (Wk.d0 m a9) λba w bb m a f=> ?_
        have aR:=od1 bb aR
        have⟨bc,bd,aO⟩:=bind_some aO
        refine A6 1 m aR Z T43 f Z Z Z bd λbe a bf f=>AF 1 m aR Z sizeOf2 f Z Z bf bd Z Z Z λbg w m bh=>Aa ?_
        refine AB Z ?_
        refine Ak ?_
        refine Ab f Z λa f=>Ah f Z Z Ax λa f=>Ac f Z λa f=>Aa ?_
        obtain rfl:=sj aO
        exact⟨_,Z,_,_,Z,_,bg,(gt aQ (gt a7 bb)),f.k Z,m,bh⟩
      ·refine Aj f Z aW ?_
       refine An ?_
       refine Af ?_
       refine Ab f Z λa f=>Ab f Z λa f=> ?_
       have⟨bi,bj,aO⟩:=bind_some aO
       refine By T43 f Z Z Z h0 bj λbk bl a bm bn f=> ?_
       subst bn
       refine AU m Pl2 f Z Z bm λa f=>Ab f Z λa f=>Ah f Z Z CB λa f=>Ac f Z λa f=>Aa ?_
       have⟨bo,bp,aO⟩:=bind_some aO
       refine AJ (λa w=>∃bq:LI,bq=bo∧∃(br:GH) (bs:Itm),GLe aL br∧Fr a 91 [(0,v0),(1,(.bool x1)),(5,(iv (x0.length:Int))),(6,ae),(7,(iv an)),(8,aB),(9,(iv aK))]∧Mem W br w (ap::bs::H)∧Ow R0 2 br bs aB bq) ?_ ?_
       ·refine Al ?_
        refine AE (λbt a w=>∃bu:LI,∃bv:Int,(bu,bv)=bt∧∃(bw:GH) (bx:Itm),GLe aL bw∧Fr a 91 [(0,v0),(1,(.bool x1)),(5,(iv (x0.length:Int))),(6,ae),(7,(iv an)),(8,aB),(9,(iv aK)),(10,(iv (iandNot .i64 an (ishl .i64 1 (IntKind.u64.wrap aK))))),(11,(iv bv))]∧Mem W bw w (ap::bx::H)∧Ow R0 2 bw bx aB bu) bp ⟨_,_,Z,_,aM,gr,f.k Z,m,aR⟩ ?_
        clear bp f m
        rintro bt bz bA bB a w ⟨bu,bv,rfl,bw,bx,bC,f,m,bD⟩
        have aw:=Ow.mono (RSl.mono (RI.mono _)) bC aw
        refine Ag (Af ?_)
        refine Ab f Z λa f=>Ah f Z Z Cc λa f=>Aa ?_
        rcases Ae bA with⟨bE,bA⟩|⟨bE,bA⟩
        ·refine Am f Z bE ?_
         refine An ?_
         refine Ag (Al ?_)
         refine A7 16 AI (by kernel_rfl) m ?_
         refine Ai 0 16 Z f Z λa f=>Ai 1 16 Z f Z λa f=>Ai 2 16 Z f Z λa f=>Ai 3 16 Z f Z λa f=> ?_
         have⟨bF,bG,bA⟩:=bind_some bA
         refine AL 4 16 1 m bD T43 bG Z f Z Z λbH a bI f=>A4 5 16 1 bD Pl2 bI bG Z f Z λbJ a bK f=> ?_
         subst bK
         refine Ai 6 16 Z f Z λa f=>Ai 7 16 Z f Z λa f=> ?_
         have⟨bL,bM,bA⟩:=bind_some bA
         refine AL 8 16 0 m aw T22 bM Z f Z Z λbN a bO f=>A4 9 16 0 aw Cf bO bM Z f Z λbP a bQ f=>Ai 10 16 Z f Z λa f=> ?_
         have⟨bR,bS,bA⟩:=bind_some bA
         refine Bi (i:=11) 16 Z (by kernel_rfl) Z f Z Z Z call142 (λ_ _ w bT m=>Wk.E m bS) λa f=> ?_
         have⟨bU,bV,bA⟩:=bind_some bA
         refine BM 12 16 T43 bQ bV Z f Z Z λbW bX a bY bZ f=> ?_
         subst bZ
         refine BL 13 16 Pl2 bY Z f Z λa f=>q_p 14 16 Z f (λ_=>AK (f.e Z) (f.e Z) Ax) λa f=> ?_
         have⟨b0,b1,bA⟩:=bind_some bA
         refine AL 15 16 1 m bD T43 b1 Z f Z Z λb2 a b3 f=>AW λb4 w b5 m=> ?_
         have bD:=od1 b5 bD
         refine AF 1 m bD Z sizeOf2 f Z Z b3 b1 Z Z Z λb6 w m b7=>Aa (Ak ?_)
         refine Ab f Z λa f=>Ab f Z λa f=>Ah f Z Z AR λa f=>Ah f Z Z CB λa f=>Ac f Z λa f=>Aa ?_
         obtain rfl:=sj bA
         exact⟨_,Z,_,_,Z,_,b6,(gt bC b5),f.k Z,m,b7⟩
        ·refine Aj f Z bE ?_
         refine AB Z ?_
         obtain rfl:=sj bA
         obtain rfl:=bB _ rfl
         exact⟨_,Z,_,bx,bC,f.k Z,m,bD⟩
       ·rintro a w ⟨bq,rfl,br,bs,b8,f,m,b9⟩
        refine Ak ?_
        refine Ab f Z λa f=>Ah f Z Z Ax λa f=>Ac f Z λa f=>Aa ?_
        obtain rfl:=sj aO
        exact⟨_,Z,_,_,Z,_,bs,(gt aQ b8),f.k Z,m,b9⟩
    ·refine Aj f Z aS ?_
     refine AB Z ?_
     obtain rfl:=sj aO
     obtain rfl:=aP _ rfl
     exact⟨_,Z,_,aM,aQ,f.k Z,m,aR⟩
   ·rintro a w ⟨aF,rfl,aG,aH,ca,f,m,cb⟩
    have aw:=Ow.mono (RSl.mono (RI.mono _)) ca aw
    refine Ak ?_
    refine Ab f Z λa f=>Ab f Z λa f=>Ab f Z λa f=> ?_
    have⟨cc,cd,ar⟩:=bind_some ar
    refine A6 0 m aw Z T22 f Z Z Z cd λce a cf f=> ?_
    have m:=m.fr 1
    obtain⟨cg,ch,m,ci⟩:=Ow.stamp (RI.mono _) cb m
    have aw:=Ow.mono (RSl.mono (RI.mono _)) ch aw
    refine AF 0 m aw Z sizeOf43 f Z Z cf cd ci.cells ci.one1 ci λcj w m ck=>Aa (Ak ?_)
    refine Ab f Z λa f=>Ah f Z Z Ax λa f=>Ac f Z λa f=>Aa ?_
    obtain rfl:=sj ar
    exact⟨_,Z,_,_,Z,_,cj,(gt av (gt ca ch)),f.k Z,m,ck⟩
  ·refine Aj f Z ax ?_
   refine AB Z ?_
   obtain rfl:=sj ar
   obtain rfl:=au _ rfl
   exact⟨_,Z,_,ap,av,f.k Z,m,aw⟩
 ·rintro a w ⟨ai,rfl,aj,ak,cl,f,m,cm⟩
  refine Af ?_
  refine Ab f Z λa f=>Ac f Z λa f=>Aa ?_
  refine Ap ?_
  obtain rfl:=sj hd
  exact⟨[ae],f.g Z,f.d,_,[ak],cl,m,_,_,Z,Z,cm⟩
theorem Wk.m0 {aa:Value}{ab:LL}(m:Mem W G w (H))(ac:R2 G aa ab){y:Int}(hd:D.m0 ab=some y):
  Calls prog 102 #[(.agg #[aa])] w (Res W G H (λ_ Ho v=>Ho=[]∧v=(iv y))):=by
 refine Au (args:=[(.agg #[aa])]) (N:=9) [.tmp 2] func102 Z Z (lb Z) Z λa f=> ?_
 unfold D.m0 at hd
 refine Af ?_
 refine Bu (cs:=[aa]) m f Z Z Z λad w a m f=>Ac f Z λa f=>Ay ?_
 refine Cb underlying28 Z sizeOf22 f Z λa f=>A5 0 0 m BU f Z Z Z Z λa f=>Bd underlying22 f Z Z ac λa f=>l_o f (BP (f.e Z) ⟨_,underlying3⟩ underlying118) λa f=> ?_
 obtain⟨ae,hd⟩:=BZ hd
 refine l_o f (Dy (f.e Z) (f.e Z) ae) λa f=>Ah f Z Z AR λa f=>Ac f Z λa f=>Aa ?_
 refine Ap ?_
 have m:Mem W G w H:=Mem.drop (H':=[ib ad 28 [aa]]) m
 obtain rfl:=sj hd
 exact⟨[(iv (i64.wrap ((ishl .i64 1 (IntKind.u64.wrap (ab.length:Int)))-1)))],f.g Z,f.d,_,[],gr,m,Z,Z⟩
theorem Wk.g0 {aa:Value}{ab:LL}(m:Mem W G w (H))(ac:R2 G aa ab){y:Int}(hd:D.g0 ab=some y):
  Calls prog 38 #[(.agg #[aa])] w (Res W G H (λ_ Ho v=>Ho=[]∧v=(iv y))):=by
 refine Au (args:=[(.agg #[aa])]) (N:=19) [.tmp 2] func38 Z Z (lb Z) Z λa f=> ?_
 unfold D.g0 at hd
 refine Af ?_
 refine Bu (cs:=[aa]) m f Z Z Z λad w a m f=>Ac f Z λa f=>Aa (Ag (Af ?_))
 refine AG 0 0 (ds:=[aa]) m AX f Z Z Z Z Z λa f=> ?_
 have⟨ae,af,hd⟩:=bind_some hd
 refine A3 f Z call46 (Wk.j m ac af) λag w ah m a f=> ?_
 have ac:=rd2 ah ac
 refine l_o f (Bg (f.e Z)) λa f=>Aa ?_
 rcases Ae hd with⟨ai,hd⟩|⟨ai,hd⟩
 ·refine Am f Z ai ?_
  refine Af ?_
  refine Ac f Z λa f=>Aa ?_
  refine Ap ?_
  have m:Mem W ag w H:=Mem.drop (H':=[ib ad 28 [aa]]) m
  obtain rfl:=sj hd
  exact⟨[(iv (-1))],f.g Z,f.d,_,[],ah,m,Z,Z⟩
 ·refine Aj f Z ai ?_
  refine An ?_
  refine Ag (Af ?_)
  refine AG 0 0 (ds:=[aa]) m AX f Z Z Z Z Z λa f=> ?_
  have⟨aj,ak,hd⟩:=bind_some hd
  refine A3 f Z call76 (Wk.c m ac ak) λal w am m a f=> ?_
  have ac:=rd2 am ac
  refine Ah f Z Z AQ λa f=>Aa ?_
  rcases Ae hd with⟨an,hd⟩|⟨an,hd⟩
  ·refine Am f Z an ?_
   refine Af ?_
   refine Ac f Z λa f=>Aa ?_
   refine Ap ?_
   have m:Mem W al w H:=Mem.drop (H':=[ib ad 28 [aa]]) m
   obtain rfl:=sj hd
   exact⟨[(iv 0)],f.g Z,f.d,_,[],(gt ah am),m,Z,Z⟩
  ·refine Aj f Z an ?_
   refine An ?_
   refine Ag ?_
   refine A7 11 AI (by kernel_rfl) m ?_
   refine BW (i:=0) (ds:=[aa]) 11 0 AX Z Z Z Z (by kernel_rfl) Z f Z Z Z λa f=>BW (i:=3) (ds:=[aa]) 11 0 AX Z Z Z Z (by kernel_rfl) Z f Z Z Z λa f=>q_on 1 Z λao w ap m aq aq=> ?_
   have ac:=rd2 ap ac
   have⟨ar,au,hd⟩:=bind_some hd
   refine AO f Z call101 (Wk.D0 m ac au) λav aw ax w ay m az a f=> ?_
   obtain⟨aA,aB,rfl,rfl,aC⟩:=az
   have ac:=rd2 ay ac
   refine Aa ?_
   refine aq aw [aB] _ _ ay m ?_
   refine q_on 2 Z λaD w aE m aF aF=> ?_
   have ac:=rd2 aE ac
   have aC:=od1 aE aC
   obtain⟨aG,aH,m,aI⟩:=Ow.stamp (RI.mono _) aC m
   have ac:=rd2 aH ac
   have⟨aJ,aK,hd⟩:=bind_some hd
   refine AO f Z call100 (Wk.E0 m aI aK) λaL aM aN w aO m aP a f=> ?_
   obtain⟨aQ,aR,rfl,rfl,aS⟩:=aP
   have ac:=rd2 aO ac
   refine Aa ?_
   refine aF aM [aR] _ _ (gt aH aO) m ?_
   have⟨aT,aU,hd⟩:=bind_some hd
   refine Bi (i:=4) 11 Z (by kernel_rfl) Z f Z Z Z call102 (λ_ _ w aV m=>Wk.m0 m (rd2 aV ac) aU) λa f=> ?_
   have⟨aW,aX,hd⟩:=bind_some hd
   refine AL 5 11 0 m aS T22 aX Z f Z Z λaY a aZ f=>q_on 6 Z λa0 w a1 m a2 a2=> ?_
   have aS:=Ow.mono (RSl.mono (RI.mono _)) a1 aS
   refine BB 0 m aS Z Cf f Z Z aZ aX λa3 a a4 f=>Aa ?_
   refine a2 a0 [aR] _ _ gr m ?_
   have⟨a5,a6,hd⟩:=bind_some hd
   refine BM 7 11 T43 a4 a6 Z f Z Z λa7 a8 a a9 ba f=> ?_
   subst ba
   refine BL 8 11 Pl2 a9 Z f Z λa f=>q_p 9 11 Z f (λ_=>AK (f.e Z) (f.e Z) (DA Z)) λa f=>q_p 10 11 Z f (λ_=>A9 (f.e Z)) λa f=>AW λbb w bc m=>Aa ?_
   refine Ap ?_
   have m:Mem W bb w H:=Mem.drop (H':=[aR,ib ad 28 [aa]]) m
   obtain rfl:=sj hd
   exact⟨[(iv (i64.wrap (Int.tdiv a5 2)))],f.g Z,f.d,_,[],(gt ah (gt am (gt ap (gt ay (gt aE (gt aH (gt aO (gt a1 bc)))))))),m,Z,Z⟩
theorem Wk.o {aa:Value}{ab:LL}{x1:Int}(m:Mem W G w (H))(ac:R2 G aa ab){y:Bool}(hd:D.o ab x1=some y):
  Calls prog 83 #[(.agg #[aa]),(iv x1)] w (Res W G H (λ_ Ho v=>Ho=[]∧v=(.bool y))):=by
 refine Au (args:=[(.agg #[aa]),(iv x1)]) (N:=10) [.tmp 4] func83 Z Z (lb Z) Z λa f=> ?_
 unfold D.o at hd
 refine Af ?_
 refine Bu (cs:=[aa]) m f Z Z Z λad w a m f=>Ac f Z λa f=>Ay ?_
 refine Ab f Z λa f=>AG 0 0 (ds:=[aa]) m AX f Z Z Z Z Z λa f=> ?_
 have⟨ae,af,hd⟩:=bind_some hd
 refine A3 f Z call76 (Wk.c m ac af) λag w ah m a f=>Ah f Z Z AR λa f=> ?_
 have⟨ai,aj,hd⟩:=bind_some hd
 refine A3 f Z call69 (Wk.e m aj) λak w al m a f=>Ac f Z λa f=>Aa ?_
 refine Ap ?_
 have m:Mem W ak w H:=Mem.drop (H':=[ib ad 28 [aa]]) m
 obtain rfl:=sj hd
 exact⟨[(.bool ai)],f.g Z,f.d,_,[],(gt ah al),m,Z,Z⟩
theorem Wk.W0 {aa v1:Value}{ab:LL}{x1:LI}(m:Mem W G w (H))(ac:R2 G aa ab)(h1:R1 G v1 x1){y:Bool}(hd:D.W0 ab x1=some y):
  Calls prog 106 #[(.agg #[aa]),v1] w (Res W G H (λ_ Ho v=>Ho=[]∧v=(.bool y))):=by
 refine Au (args:=[(.agg #[aa]),v1]) (N:=34) [.tmp 4] func106 Z Z (lb Z) Z λa f=> ?_
 unfold D.W0 at hd
 refine Af ?_
 refine Bu (cs:=[aa]) m f Z Z Z λad w a m f=>Ac f Z λa f=>Aa (Ag (Af ?_))
 refine Ab f Z λa f=>Bd underlying43 f Z Z h1 λa f=>AG 0 0 (ds:=[aa]) m AX f Z Z Z Z Z λa f=> ?_
 have⟨ae,af,hd⟩:=bind_some hd
 refine A3 f Z call76 (Wk.c m ac af) λag w ah m a f=> ?_
 have ac:=rd2 ah ac
 have h1:=rd1 ah h1
 refine Ah f Z Z Dz λa f=>Aa ?_
 rcases Ae hd with⟨ai,hd⟩|⟨ai,hd⟩
 ·refine Am f Z ai ?_
  refine Af ?_
  refine Ac f Z λa f=>Aa ?_
  refine Ap ?_
  have m:Mem W ag w H:=Mem.drop (H':=[ib ad 28 [aa]]) m
  obtain rfl:=sj hd
  exact⟨[(.bool false)],f.g Z,f.d,_,[],ah,m,Z,Z⟩
 ·refine Aj f Z ai ?_
  refine An ?_
  refine Ag (Af ?_)
  refine Ac f Z λa f=>Aa ?_
  have⟨aj,ak,hd⟩:=bind_some hd
  refine AJ (λa w=>∃q_99':Unit,aj= .inl q_99'∧∃(al:GH),GLe ag al∧Fr a 34 []∧Mem W al w (H)) ?_ ?_
  ·refine Al ?_
   refine AE (λam a w=>∃an:Int,an=am∧∃(ao:GH),GLe ag ao∧Fr a 34 [(1,v1),(2,(pb ad)),(5,(iv an))]∧Mem W ao w (ib ad 28 [aa]::H)) ak ⟨_,Z,_,gr,f.k Z,m⟩ ?_
   clear ak f m
   rintro am ap aq ar a w ⟨an,rfl,ao,au,f,m⟩
   have h1:=rd1 au h1
   have ac:=rd2 au ac
   refine Ag (Af ?_)
   refine Ab f Z λa f=>Ab f Z λa f=>Bd underlying43 f Z Z h1 λa f=>Ah f Z Z AQ λa f=>Aa ?_
   rcases Ae aq with⟨av,aq⟩|⟨av,aq⟩
   ·refine Am f Z av ?_
    refine An ?_
    refine Ag (Al (Ag ?_))
    refine A7 17 AI (by kernel_rfl) m ?_
    refine BW (i:=0) (ds:=[aa]) 17 0 AX Z Z Z Z (by kernel_rfl) Z f Z Z Z λa f=>Ai 1 17 Z f Z λa f=>Ai 2 17 Z f Z λa f=> ?_
    have⟨aw,ax,aq⟩:=bind_some aq
    refine BM 3 17 T43 h1 ax Z f Z Z λay az a aA aB f=> ?_
    subst aB
    refine BL 4 17 Pl2 aA Z f Z λa f=> ?_
    have⟨aC,aD,aq⟩:=bind_some aq
    refine Bi (i:=5) 17 Z (by kernel_rfl) Z f Z Z Z call83 (λ_ _ w aE m=>Wk.o m (rd2 aE ac) aD) λa f=>q_p 6 17 Z f (λ_=>Bg (f.e Z)) λa f=>Ai 7 17 Z f Z λa f=> ?_
    have⟨aF,aG,aq⟩:=bind_some aq
    refine B1 (fuel':=0) (listed':= #[true,true,true,true,true,true,true,true,true,true,true,true,true,true,true,true,true]) (λa=>Fr a 34 [(1,v1),(2,(pb ad)),(5,(iv an)),(14,(.bool (decide (an<(x1.length:Int))))),(17,(.agg #[aa])),(18,v1),(19,(iv an)),(20,ay),(21,(iv aw)),(22,(.bool aC)),(23,(.bool (!aC))),(24,(.bool (!aC))),(33,(.bool aF))]) ?_ ?_
    ·intro a f
     refine AW λaH w aI m=>Aa ?_
     rcases Ae aq with⟨aJ,aq⟩|⟨aJ,aq⟩
     ·refine Am f Z aJ ?_
      refine Af ?_
      refine Ac f Z λa f=>Aa ?_
      refine Ap ?_
      have m:Mem W aH w H:=Mem.drop (H':=[ib ad 28 [aa]]) m
      obtain rfl:=sj aq
      obtain rfl:=ar _ rfl
      obtain rfl:=sj hd
      exact⟨[(.bool false)],f.g Z,f.d,_,[],(gt ah (gt au aI)),m,Z,Z⟩
     ·refine Aj f Z aJ ?_
      refine An ?_
      refine Ak ?_
      refine Ab f Z λa f=>Ah f Z Z Ax λa f=>Ac f Z λa f=>Aa ?_
      obtain rfl:=sj aq
      exact⟨_,Z,_,Z,_,(gt au aI),f.k Z,m⟩
    ·intro aK
     rcases Ae aG with⟨aL,aG⟩|⟨aL,aG⟩
     ·refine Ao 8 17 Z f aL λa f=> ?_
      refine Ao 9 17 Z f aL λa f=>Ao 10 17 Z f aL λa f=>Ao 11 17 Z f aL λa f=>Ao 12 17 Z f aL λa f=>Ao 13 17 Z f aL λa f=>Ao 14 17 Z f aL λa f=>Ao 15 17 Z f aL λa f=>q_p 16 17 Z f (λ_=>AD (f.e Z) aL (f.e Z)) λa f=> ?_
      obtain rfl:=sj aG
      exact aK _ (f.k Z)
     ·refine Ai (hw:=wo f aL) 8 17 Z f Z λa f=> ?_
      refine Ai (hw:=wo f aL) 9 17 Z f Z λa f=> ?_
      have⟨aM,aN,aG⟩:=bind_some aG
      refine q_slice (i:=10) 17 T43 h1 aN Z (by kernel_rfl) Z f (Bh f Z Z Z aL) Z Z (.inl ⟨Z,Z⟩) (.inr ⟨_,_,Z,Z⟩) λaO a aP f=>Ai (hw:=wo f aL) 11 17 Z f Z λa f=>Ai (hw:=wo f aL) 12 17 Z f Z λa f=> ?_
      have⟨aQ,aR,aG⟩:=bind_some aG
      refine BM (hw:=wo f aL) 13 17 T43 h1 aR Z f Z Z λaS aT a aU aV f=> ?_
      subst aV
      refine BL (hw:=wo f aL) 14 17 Pl2 aU Z f Z λa f=> ?_
      have⟨aW,aX,aG⟩:=bind_some aG
      refine Bi (i:=15) 17 Z (by kernel_rfl) Z f (Bh f Z Z Z aL) Z Z call114 (λ_ _ w aY m=>Wk.f m (rd1 aY aP) aX) λa f=>q_p 16 17 Z f (λ_=>AC (f.e Z) aL (f.e Z)) λa f=> ?_
      obtain rfl:=sj aG
      exact aK _ (f.k Z)
   ·refine Aj f Z av ?_
    refine AB Z ?_
    have m:Mem W ao w H:=Mem.drop (H':=[ib ad 28 [aa]]) m
    obtain rfl:=sj aq
    obtain rfl:=ar _ rfl
    exact⟨_,Z,_,au,f.weak trivial,m⟩
  ·rintro a w ⟨_,rfl,al,aZ,f,m⟩
   refine Af ?_
   refine Ac f Z λa f=>Aa ?_
   refine Ap ?_
   obtain rfl:=sj hd
   exact⟨[(.bool true)],f.g Z,f.d,_,[],(gt ah aZ),m,Z,Z⟩
theorem Wk.y {aa v1:Value}{ab:LL}{x1:LI}(m:Mem W G w (H))(ac:R2 G aa ab)(h1:R1 G v1 x1){y:Bool}(hd:D.y ab x1=some y):
  Calls prog 41 #[(.agg #[aa]),v1] w (Res W G H (λ_ Ho v=>Ho=[]∧v=(.bool y))):=by
 refine Au (args:=[(.agg #[aa]),v1]) (N:=12) [.tmp 4] func41 Z Z (lb Z) Z λa f=> ?_
 unfold D.y at hd
 refine Af ?_
 refine Bu (cs:=[aa]) m f Z Z Z λad w a m f=>Ac f Z λa f=>Ay ?_
 refine AG 0 0 (ds:=[aa]) m AX f Z Z Z Z Z λa f=> ?_
 have⟨ae,af,hd⟩:=bind_some hd
 refine A3 f Z call46 (Wk.j m ac af) λag w ah m a f=> ?_
 have ac:=rd2 ah ac
 have h1:=rd1 ah h1
 refine Ab f Z λa f=> ?_
 have⟨ai,aj,hd⟩:=bind_some hd
 refine Bj 4 (λa w=>∃ak,GLe ag ak∧Mem W ak w (ib ad 28 [aa]::H)∧Fr a 12 [(0,(.agg #[aa])),(1,v1),(2,(pb ad)),(5,(.agg #[aa])),(6,(.bool ae)),(7,(.bool ae)),(11,(.bool ai))]) ?_ ?_
 ·rcases Ae aj with⟨al,aj⟩|⟨al,aj⟩
  ·refine As f al ?_
   refine AG 0 0 (ds:=[aa]) m AX f Z Z Z Z Z λa f=>As f al ?_
   refine Ab f Z λa f=>As f al ?_
   have⟨am,an,aj⟩:=bind_some aj
   refine A3 f Z call106 (Wk.W0 m ac h1 an) λao w ap m a f=>l_o f (AD (f.e Z) al (f.e Z)) λa f=> ?_
   obtain rfl:=sj aj
   exact⟨_,ap,m,f.k Z⟩
  ·refine Aw f al λa f=> ?_
   refine Aw f al λa f=>Aw f al λa f=>l_o f (AC (f.e Z) al (f.e Z)) λa f=> ?_
   obtain rfl:=sj aj
   exact⟨_,gr,m,f.k Z⟩
 ·rintro a w ⟨ak,aq,m,f⟩
  refine Ac f Z λa f=>Aa ?_
  refine Ap ?_
  have m:Mem W ak w H:=Mem.drop (H':=[ib ad 28 [aa]]) m
  obtain rfl:=sj hd
  exact⟨[(.bool ai)],f.g Z,f.d,_,[],(gt ah aq),m,Z,Z⟩
theorem Wk.r {aa:Value}{ab:LL}{x1 x2:Int}(m:Mem W G w (H))(ac:R2 G aa ab){y:Bool}(hd:D.r ab x1 x2=some y):
  Calls prog 84 #[(.agg #[aa]),(iv x1),(iv x2)] w (Res W G H (λ_ Ho v=>Ho=[]∧v=(.bool y))):=by
 refine Au (args:=[(.agg #[aa]),(iv x1),(iv x2)]) (N:=14) [.tmp 6] func84 Z Z (lb Z) Z λa f=> ?_
 unfold D.r at hd
 refine Af ?_
 refine Bu (cs:=[aa]) m f Z Z Z λad w a m f=>Ac f Z λa f=>Ay ?_
 refine Cb underlying28 Z sizeOf22 f Z λa f=>A5 0 0 m BU f Z Z Z Z λa f=>Ab f Z λa f=> ?_
 have⟨ae,af,hd⟩:=bind_some hd
 refine By T22 f Z Z Z ac af λag ah a ai aj f=>AU m Cf f Z Z ai λa f=>Ab f Z λa f=> ?_
 have⟨ak,al,hd⟩:=bind_some hd
 refine A3 f Z call114 (Wk.f m aj al) λam w an m a f=>Ac f Z λa f=>Aa ?_
 refine Ap ?_
 have m:Mem W am w H:=Mem.drop (H':=[ib ad 28 [aa]]) m
 obtain rfl:=sj hd
 exact⟨[(.bool ak)],f.g Z,f.d,_,[],an,m,Z,Z⟩
theorem Wk.o0 {aa v1:Value}{ab:LL}{x1:LI}(m:Mem W G w (H))(ac:R2 G aa ab)(h1:R1 G v1 x1){y:Bool}(hd:D.o0 ab x1=some y):
  Calls prog 143 #[(.agg #[aa]),v1] w (Res W G H (λ_ Ho v=>Ho=[]∧v=(.bool y))):=by
 refine Au (args:=[(.agg #[aa]),v1]) (N:=47) [.tmp 4] func143 Z Z (lb Z) Z λa f=> ?_
 unfold D.o0 at hd
 refine Af ?_
 refine Bu (cs:=[aa]) m f Z Z Z λad w a m f=>Ac f Z λa f=>Aa (Ag (Af ?_))
 refine Ac f Z λa f=>Aa ?_
 have⟨ae,af,hd⟩:=bind_some hd
 refine AJ (λa w=>∃q_235':Unit,ae= .inl q_235'∧∃(ag:GH),GLe G ag∧Fr a 47 []∧Mem W ag w (H)) ?_ ?_
 ·refine Al ?_
  refine AE (λah a w=>∃ai:Int,ai=ah∧∃(aj:GH),GLe G aj∧Fr a 47 [(1,v1),(2,(pb ad)),(5,(iv ai))]∧Mem W aj w (ib ad 28 [aa]::H)) af ⟨_,Z,_,gr,f.k Z,m⟩ ?_
  clear af f m
  rintro ah ak al am a w ⟨ai,rfl,aj,an,f,m⟩
  have h1:=rd1 an h1
  have ac:=rd2 an ac
  refine Ag (Af ?_)
  refine Ab f Z λa f=>Ab f Z λa f=>Bd underlying43 f Z Z h1 λa f=>Ah f Z Z AQ λa f=>Aa ?_
  rcases Ae al with⟨ao,al⟩|⟨ao,al⟩
  ·refine Am f Z ao ?_
   refine An ?_
   refine Ag (Al (Ag ?_))
   refine A7 35 AI (by kernel_rfl) m ?_
   refine BW (i:=0) (ds:=[aa]) 35 0 AX Z Z Z Z (by kernel_rfl) Z f Z Z Z λa f=>Ai 1 35 Z f Z λa f=>Ai 2 35 Z f Z λa f=> ?_
   have⟨ap,aq,al⟩:=bind_some al
   refine BM 3 35 T43 h1 aq Z f Z Z λar au a av aw f=> ?_
   subst aw
   refine BL 4 35 Pl2 av Z f Z λa f=> ?_
   have⟨ax,ay,al⟩:=bind_some al
   refine Bi (i:=5) 35 Z (by kernel_rfl) Z f Z Z Z call83 (λ_ _ w az m=>Wk.o m (rd2 az ac) ay) λa f=>q_p 6 35 Z f (λ_=>Bg (f.e Z)) λa f=>Ai 7 35 Z f Z λa f=> ?_
   have⟨aA,aB,al⟩:=bind_some al
   refine B1 (fuel':=18) (listed':= #[true,true,true,true,true,true,true,true,true,true,true,true,true,true,true,true,true,false,false,false,false,false,false,false,false,false,false,false,false,false,false,false,false,false,false]) (λa=>Fr a 47 [(1,v1),(2,(pb ad)),(5,(iv ai)),(9,(.bool (decide (ai<(x1.length:Int))))),(12,(.agg #[aa])),(13,v1),(14,(iv ai)),(15,ar),(16,(iv ap)),(17,(.bool ax)),(18,(.bool (!ax))),(19,(.bool (!ax))),(28,(.bool aA))]) ?_ ?_
   ·intro a f
    refine Ai 17 35 Z f Z λa f=> ?_
    have⟨aC,aD,al⟩:=bind_some al
    refine B1 (fuel':=0) (listed':= #[true,true,true,true,true,true,true,true,true,true,true,true,true,true,true,true,true,true,true,true,true,true,true,true,true,true,true,true,true,true,true,true,true,true,true]) (λa=>Fr a 47 [(1,v1),(2,(pb ad)),(5,(iv ai)),(9,(.bool (decide (ai<(x1.length:Int))))),(12,(.agg #[aa])),(13,v1),(14,(iv ai)),(15,ar),(16,(iv ap)),(17,(.bool ax)),(18,(.bool (!ax))),(19,(.bool (!ax))),(28,(.bool aA)),(29,(.bool aA)),(46,(.bool aC))]) ?_ ?_
    ·intro a f
     refine AW λaE w aF m=>Aa ?_
     rcases Ae al with⟨aG,al⟩|⟨aG,al⟩
     ·refine Am f Z aG ?_
      refine Af ?_
      refine Ac f Z λa f=>Aa ?_
      refine Ap ?_
      have m:Mem W aE w H:=Mem.drop (H':=[ib ad 28 [aa]]) m
      obtain rfl:=sj al
      obtain rfl:=am _ rfl
      obtain rfl:=sj hd
      exact⟨[(.bool false)],f.g Z,f.d,_,[],(gt an aF),m,Z,Z⟩
     ·refine Aj f Z aG ?_
      refine An ?_
      refine Ak ?_
      refine Ab f Z λa f=>Ah f Z Z Ax λa f=>Ac f Z λa f=>Aa ?_
      obtain rfl:=sj al
      exact⟨_,Z,_,Z,_,(gt an aF),f.k Z,m⟩
    ·intro aH
     rcases Ae aD with⟨aI,aD⟩|⟨aI,aD⟩
     ·refine Ao 18 35 Z f aI λa f=> ?_
      refine Ao 19 35 Z f aI λa f=>Ao 20 35 Z f aI λa f=>BH 21 35 Z f λa f=>BH 22 35 Z f λa f=>BH 23 35 Z f λa f=>BH 24 35 Z f λa f=>BH 25 35 Z f λa f=>BH 26 35 Z f λa f=>BH 27 35 Z f λa f=>BH 28 35 Z f λa f=>BH 29 35 Z f λa f=>BH 30 35 Z f λa f=>BH 31 35 Z f λa f=>BH 32 35 Z f λa f=>Ao 33 35 Z f aI λa f=>q_p 34 35 Z f (λ_=>AD (f.e Z) aI (f.e Z)) λa f=> ?_
      obtain rfl:=sj aD
      exact aH _ (f.k Z)
     ·refine Ai (hw:=wo f aI) 18 35 Z f Z λa f=> ?_
      refine q_p (hw:=wo f aI) 19 35 Z f (λ_=>AK (f.e Z) (f.e Z) Cc) λa f=>Ai (hw:=wo f aI) 20 35 Z f Z λa f=> ?_
      have⟨aJ,aK,aD⟩:=bind_some aD
      refine B1 (fuel':=1) (listed':= #[true,true,true,true,true,true,true,true,true,true,true,true,true,true,true,true,true,true,true,true,true,true,true,true,true,true,true,true,true,true,true,true,true,true,false]) (λa=>Fr a 47 [(1,v1),(2,(pb ad)),(5,(iv ai)),(9,(.bool (decide (ai<(x1.length:Int))))),(12,(.agg #[aa])),(13,v1),(14,(iv ai)),(15,ar),(16,(iv ap)),(17,(.bool ax)),(18,(.bool (!ax))),(19,(.bool (!ax))),(28,(.bool aA)),(29,(.bool aA)),(30,(iv ai)),(31,(.bool (decide ((0:Int)<ai)))),(32,(.bool (decide ((0:Int)<ai)))),(45,(.bool aJ))]) ?_ ?_
      ·intro a f
       refine q_p 34 35 Z f (λ_=>AC (f.e Z) aI (f.e Z)) λa f=> ?_
       obtain rfl:=sj aD
       exact aH _ (f.k Z)
      ·intro aL
       rcases Ae aK with⟨aM,aK⟩|⟨aM,aK⟩
       ·refine BW (i:=21) (ds:=[aa]) 35 0 AX Z Z Z Z (by kernel_rfl) Z f (Bh f Z Z Z aM) Z Z λa f=> ?_
        refine Ai (hw:=wo f aM) 22 35 Z f Z λa f=>Ai (hw:=wo f aM) 23 35 Z f Z λa f=>q_p (hw:=wo f aM) 24 35 Z f (λ_=>AK (f.e Z) (f.e Z) AR) λa f=> ?_
        have⟨aN,aO,aK⟩:=bind_some aK
        refine BM (hw:=wo f aM) 25 35 T43 h1 aO Z f Z Z λaP aQ a aR aS f=> ?_
        subst aS
        refine BL (hw:=wo f aM) 26 35 Pl2 aR Z f Z λa f=>Ai (hw:=wo f aM) 27 35 Z f Z λa f=>Ai (hw:=wo f aM) 28 35 Z f Z λa f=> ?_
        have⟨aT,aU,aK⟩:=bind_some aK
        refine BM (hw:=wo f aM) 29 35 T43 h1 aU Z f Z Z λaV aW a aX aY f=> ?_
        subst aY
        refine BL (hw:=wo f aM) 30 35 Pl2 aX Z f Z λa f=> ?_
        have⟨aZ,a0,aK⟩:=bind_some aK
        refine Bi (i:=31) 35 Z (by kernel_rfl) Z f (Bh f Z Z Z aM) Z Z call84 (λ_ _ w a1 m=>Wk.r m (rd2 a1 ac) a0) λa f=>q_p (hw:=wo f aM) 32 35 Z f (λ_=>Bg (f.e Z)) λa f=>q_p (hw:=wo f aI) 33 35 Z f (λ_=>AD (f.e Z) aM (f.e Z)) λa f=> ?_
        obtain rfl:=sj aK
        exact aL _ (f.k Z)
       ·refine Ao 21 35 Z f aM λa f=> ?_
        refine Ao 22 35 Z f aM λa f=>Ao 23 35 Z f aM λa f=>Ao 24 35 Z f aM λa f=>Ao 25 35 Z f aM λa f=>Ao 26 35 Z f aM λa f=>Ao 27 35 Z f aM λa f=>Ao 28 35 Z f aM λa f=>Ao 29 35 Z f aM λa f=>Ao 30 35 Z f aM λa f=>Ao 31 35 Z f aM λa f=>Ao 32 35 Z f aM λa f=>q_p (hw:=wo f aI) 33 35 Z f (λ_=>AC (f.e Z) aM (f.e Z)) λa f=> ?_
        obtain rfl:=sj aK
        exact aL _ (f.k Z)
   ·intro a2
    rcases Ae aB with⟨a3,aB⟩|⟨a3,aB⟩
    ·refine Ao 8 35 Z f a3 λa f=> ?_
     refine Ao 9 35 Z f a3 λa f=>Ao 10 35 Z f a3 λa f=>Ao 11 35 Z f a3 λa f=>Ao 12 35 Z f a3 λa f=>Ao 13 35 Z f a3 λa f=>Ao 14 35 Z f a3 λa f=>Ao 15 35 Z f a3 λa f=>q_p 16 35 Z f (λ_=>AD (f.e Z) a3 (f.e Z)) λa f=> ?_
     obtain rfl:=sj aB
     exact a2 _ (f.k Z)
    ·refine Ai (hw:=wo f a3) 8 35 Z f Z λa f=> ?_
     refine Ai (hw:=wo f a3) 9 35 Z f Z λa f=> ?_
     have⟨a4,a5,aB⟩:=bind_some aB
     refine q_slice (i:=10) 35 T43 h1 a5 Z (by kernel_rfl) Z f (Bh f Z Z Z a3) Z Z (.inl ⟨Z,Z⟩) (.inr ⟨_,_,Z,Z⟩) λa6 a a7 f=>Ai (hw:=wo f a3) 11 35 Z f Z λa f=>Ai (hw:=wo f a3) 12 35 Z f Z λa f=> ?_
     have⟨a8,a9,aB⟩:=bind_some aB
     refine BM (hw:=wo f a3) 13 35 T43 h1 a9 Z f Z Z λba bb a bc bd f=> ?_
     subst bd
     refine BL (hw:=wo f a3) 14 35 Pl2 bc Z f Z λa f=> ?_
     have⟨be,bf,aB⟩:=bind_some aB
     refine Bi (i:=15) 35 Z (by kernel_rfl) Z f (Bh f Z Z Z a3) Z Z call114 (λ_ _ w bg m=>Wk.f m (rd1 bg a7) bf) λa f=>q_p 16 35 Z f (λ_=>AC (f.e Z) a3 (f.e Z)) λa f=> ?_
     obtain rfl:=sj aB
     exact a2 _ (f.k Z)
  ·refine Aj f Z ao ?_
   refine AB Z ?_
   have m:Mem W aj w H:=Mem.drop (H':=[ib ad 28 [aa]]) m
   obtain rfl:=sj al
   obtain rfl:=am _ rfl
   exact⟨_,Z,_,an,f.weak trivial,m⟩
 ·rintro a w ⟨_,rfl,ag,bh,f,m⟩
  refine Af ?_
  refine Ac f Z λa f=>Aa ?_
  refine Ap ?_
  obtain rfl:=sj hd
  exact⟨[(.bool true)],f.g Z,f.d,_,[],bh,m,Z,Z⟩
theorem Wk.K0 {aa v1:Value}{ab:LL}{x1:LI}(m:Mem W G w (H))(ac:R2 G aa ab)(h1:R1 G v1 x1){y:Bool}(hd:D.K0 ab x1=some y):
  Calls prog 103 #[(.agg #[aa]),v1] w (Res W G H (λ_ Ho v=>Ho=[]∧v=(.bool y))):=by
 refine Au (args:=[(.agg #[aa]),v1]) (N:=37) [.tmp 4] func103 Z Z (lb Z) Z λa f=> ?_
 unfold D.K0 at hd
 refine Af ?_
 refine Bu (cs:=[aa]) m f Z Z Z λad w a m f=>Ac f Z λa f=>Aa (Ag (Af ?_))
 refine AG 0 0 (ds:=[aa]) m AX f Z Z Z Z Z λa f=> ?_
 have⟨ae,af,hd⟩:=bind_some hd
 refine A3 f Z call46 (Wk.j m ac af) λag w ah m a f=> ?_
 have ac:=rd2 ah ac
 have h1:=rd1 ah h1
 refine l_o f (Bg (f.e Z)) λa f=>Ab f Z λa f=> ?_
 refine Bj 4 (λa w=>∃ai,GLe ag ai∧Mem W ai w (ib ad 28 [aa]::H)∧Fr a 37 [(0,(.agg #[aa])),(1,v1),(2,(pb ad)),(5,(.agg #[aa])),(6,(.bool ae)),(7,(.bool (!ae))),(8,(.bool (!ae))),(12,(.bool ((!ae)||(decide ((x1.length:Int)<3)))))]) ?_ ?_
 ·rcases Bool.eq_false_or_eq_true (!ae) with aj|aj
  ·refine Aw f aj λa f=> ?_
   refine Aw f aj λa f=>Aw f aj λa f=>l_o f (AD (f.e Z) aj (f.e Z)) λa f=> ?_
   exact⟨_,gr,m,f.weak ⟨Z,Z,Z,Z,Z,Z,Z,by rw[aj];rfl,trivial⟩⟩
  ·refine As f aj ?_
   refine Ab f Z λa f=>As f aj ?_
   refine Bd underlying43 f Z Z h1 λa f=>As f aj ?_
   refine Ah f Z Z AQ λa f=>l_o f (AC (f.e Z) aj (f.e Z)) λa f=> ?_
   exact⟨_,gr,m,f.weak ⟨Z,Z,Z,Z,Z,Z,Z,by rw[aj];rfl,trivial⟩⟩
 ·rintro a w ⟨ai,ak,m,f⟩
  have ac:=rd2 ak ac
  have h1:=rd1 ak h1
  refine Ab f Z λa f=> ?_
  have⟨al,am,hd⟩:=bind_some hd
  refine Bj 6 (λa w=>∃an,GLe ai an∧Mem W an w (ib ad 28 [aa]::H)∧Fr a 37 [(0,(.agg #[aa])),(1,v1),(2,(pb ad)),(5,(.agg #[aa])),(6,(.bool ae)),(7,(.bool (!ae))),(8,(.bool (!ae))),(12,(.bool ((!ae)||(decide ((x1.length:Int)<3))))),(13,(.bool ((!ae)||(decide ((x1.length:Int)<3))))),(19,(.bool al))]) ?_ ?_
  ·rcases Ae am with⟨ao,am⟩|⟨ao,am⟩
   ·refine Aw f ao λa f=> ?_
    refine Aw f ao λa f=>Aw f ao λa f=>Aw f ao λa f=>Aw f ao λa f=>l_o f (AD (f.e Z) ao (f.e Z)) λa f=> ?_
    obtain rfl:=sj am
    exact⟨_,gr,m,f.k Z⟩
   ·refine As f ao ?_
    refine Ab f Z λa f=>As f ao ?_
    refine Bd underlying43 f Z Z h1 λa f=>As f ao ?_
    refine AG 0 0 (ds:=[aa]) m AX f Z Z Z Z Z λa f=>As f ao ?_
    have⟨ap,aq,am⟩:=bind_some am
    refine A3 f Z call76 (Wk.c m ac aq) λar w au m a f=>As f ao ?_
    refine Ah f Z Z Cc λa f=>l_o f (AC (f.e Z) ao (f.e Z)) λa f=> ?_
    obtain rfl:=sj am
    exact⟨_,au,m,f.k Z⟩
  ·rintro a w ⟨an,av,m,f⟩
   have ac:=rd2 av ac
   have h1:=rd1 av h1
   refine Ab f Z λa f=> ?_
   have⟨aw,ax,hd⟩:=bind_some hd
   refine Bj 5 (λa w=>∃ay,GLe an ay∧Mem W ay w (ib ad 28 [aa]::H)∧Fr a 37 [(0,(.agg #[aa])),(1,v1),(2,(pb ad)),(5,(.agg #[aa])),(6,(.bool ae)),(7,(.bool (!ae))),(8,(.bool (!ae))),(12,(.bool ((!ae)||(decide ((x1.length:Int)<3))))),(13,(.bool ((!ae)||(decide ((x1.length:Int)<3))))),(19,(.bool al)),(20,(.bool al)),(25,(.bool aw))]) ?_ ?_
   ·rcases Ae ax with⟨az,ax⟩|⟨az,ax⟩
    ·refine Aw f az λa f=> ?_
     refine Aw f az λa f=>Aw f az λa f=>Aw f az λa f=>l_o f (AD (f.e Z) az (f.e Z)) λa f=> ?_
     obtain rfl:=sj ax
     exact⟨_,gr,m,f.k Z⟩
    ·refine As f az ?_
     refine AG 0 0 (ds:=[aa]) m AX f Z Z Z Z Z λa f=>As f az ?_
     refine Ab f Z λa f=>As f az ?_
     have⟨aA,aB,ax⟩:=bind_some ax
     refine A3 f Z call143 (Wk.o0 m ac h1 aB) λaC w aD m a f=>As f az ?_
     refine l_o f (Bg (f.e Z)) λa f=>l_o f (AC (f.e Z) az (f.e Z)) λa f=> ?_
     obtain rfl:=sj ax
     exact⟨_,aD,m,f.k Z⟩
   ·rintro a w ⟨ay,aE,m,f⟩
    have ac:=rd2 aE ac
    have h1:=rd1 aE h1
    refine Aa ?_
    rcases Ae hd with⟨aF,hd⟩|⟨aF,hd⟩
    ·refine Am f Z aF ?_
     refine Af ?_
     refine Ac f Z λa f=>Aa ?_
     refine Ap ?_
     have m:Mem W ay w H:=Mem.drop (H':=[ib ad 28 [aa]]) m
     obtain rfl:=sj hd
     exact⟨[(.bool false)],f.g Z,f.d,_,[],(gt ah (gt ak (gt av aE))),m,Z,Z⟩
    ·refine Aj f Z aF ?_
     refine An ?_
     refine Ag ?_
     refine A7 12 AI (by kernel_rfl) m ?_
     refine BW (i:=0) (ds:=[aa]) 12 0 AX Z Z Z Z (by kernel_rfl) Z f Z Z Z λa f=>Ai 1 12 Z f Z λa f=> ?_
     have⟨aG,aH,hd⟩:=bind_some hd
     refine BM 2 12 T43 h1 aH Z f Z Z λaI aJ a aK aL f=> ?_
     subst aL
     refine BL 3 12 Pl2 aK Z f Z λa f=>Ai 4 12 Z f Z λa f=>Ai 5 12 Z f Z λa f=>q_len (i:=6) 12 underlying43 h1 Z (by kernel_rfl) Z f Z Z Z λa f=>q_p 7 12 Z f (λ_=>AK (f.e Z) (f.e Z) AR) λa f=> ?_
     have⟨aM,aN,hd⟩:=bind_some hd
     refine BM 8 12 T43 h1 aN Z f Z Z λaO aP a aQ aR f=> ?_
     subst aR
     refine BL 9 12 Pl2 aQ Z f Z λa f=> ?_
     have⟨aS,aT,hd⟩:=bind_some hd
     refine Bi (i:=10) 12 Z (by kernel_rfl) Z f Z Z Z call84 (λ_ _ w aU m=>Wk.r m (rd2 aU ac) aT) λa f=>q_p 11 12 Z f (λ_=>A9 (f.e Z)) λa f=>AW λaV w aW m=>Aa ?_
     refine Ap ?_
     have m:Mem W aV w H:=Mem.drop (H':=[ib ad 28 [aa]]) m
     obtain rfl:=sj hd
     exact⟨[(.bool aS)],f.g Z,f.d,_,[],(gt ah (gt ak (gt av (gt aE aW)))),m,Z,Z⟩
theorem Wk.a0 {aa v1:Value}{ab:LL}{x1:LI}(m:Mem W G w (H))(ac:R2 G aa ab)(h1:R1 G v1 x1){y:Bool}(hd:D.a0 ab x1=some y):
  Calls prog 39 #[(.agg #[aa]),v1] w (Res W G H (λ_ Ho v=>Ho=[]∧v=(.bool y))):=by
 refine Au (args:=[(.agg #[aa]),v1]) (N:=19) [.tmp 4] func39 Z Z (lb Z) Z λa f=> ?_
 unfold D.a0 at hd
 refine Af ?_
 refine Bu (cs:=[aa]) m f Z Z Z λad w a m f=>Ac f Z λa f=>Ay ?_
 refine AG 0 0 (ds:=[aa]) m AX f Z Z Z Z Z λa f=>Ab f Z λa f=> ?_
 have⟨ae,af,hd⟩:=bind_some hd
 refine A3 f Z call41 (Wk.y m ac h1 af) λag w ah m a f=> ?_
 have ac:=rd2 ah ac
 have h1:=rd1 ah h1
 refine Ab f Z λa f=> ?_
 have⟨ai,aj,hd⟩:=bind_some hd
 refine Bj 5 (λa w=>∃ak,GLe ag ak∧Mem W ak w (ib ad 28 [aa]::H)∧Fr a 19 [(0,(.agg #[aa])),(1,v1),(2,(pb ad)),(5,(.agg #[aa])),(6,v1),(7,(.bool ae)),(8,(.bool ae)),(13,(.bool ai))]) ?_ ?_
 ·rcases Ae aj with⟨al,aj⟩|⟨al,aj⟩
  ·refine As f al ?_
   refine Ab f Z λa f=>As f al ?_
   have⟨am,an,aj⟩:=bind_some aj
   refine By T43 f Z Z Z h1 an λao ap a aq ar f=> ?_
   subst ar
   refine As f al ?_
   refine AU m Pl2 f Z Z aq λa f=>As f al ?_
   refine Ah f Z Z BF λa f=>l_o f (AD (f.e Z) al (f.e Z)) λa f=> ?_
   obtain rfl:=sj aj
   exact⟨_,gr,m,f.k Z⟩
  ·refine Aw f al λa f=> ?_
   refine Aw f al λa f=>Aw f al λa f=>Aw f al λa f=>l_o f (AC (f.e Z) al (f.e Z)) λa f=> ?_
   obtain rfl:=sj aj
   exact⟨_,gr,m,f.k Z⟩
 ·rintro a w ⟨ak,au,m,f⟩
  have ac:=rd2 au ac
  have h1:=rd1 au h1
  refine Ab f Z λa f=> ?_
  have⟨av,aw,hd⟩:=bind_some hd
  refine Bj 4 (λa w=>∃ax,GLe ak ax∧Mem W ax w (ib ad 28 [aa]::H)∧Fr a 19 [(0,(.agg #[aa])),(1,v1),(2,(pb ad)),(5,(.agg #[aa])),(6,v1),(7,(.bool ae)),(8,(.bool ae)),(13,(.bool ai)),(14,(.bool ai)),(18,(.bool av))]) ?_ ?_
  ·rcases Ae aw with⟨ay,aw⟩|⟨ay,aw⟩
   ·refine As f ay ?_
    refine AG 0 0 (ds:=[aa]) m AX f Z Z Z Z Z λa f=>As f ay ?_
    refine Ab f Z λa f=>As f ay ?_
    have⟨az,aA,aw⟩:=bind_some aw
    refine A3 f Z call103 (Wk.K0 m ac h1 aA) λaB w aC m a f=>l_o f (AD (f.e Z) ay (f.e Z)) λa f=> ?_
    obtain rfl:=sj aw
    exact⟨_,aC,m,f.k Z⟩
   ·refine Aw f ay λa f=> ?_
    refine Aw f ay λa f=>Aw f ay λa f=>l_o f (AC (f.e Z) ay (f.e Z)) λa f=> ?_
    obtain rfl:=sj aw
    exact⟨_,gr,m,f.k Z⟩
  ·rintro a w ⟨ax,aD,m,f⟩
   refine Ac f Z λa f=>Aa ?_
   refine Ap ?_
   have m:Mem W ax w H:=Mem.drop (H':=[ib ad 28 [aa]]) m
   obtain rfl:=sj hd
   exact⟨[(.bool av)],f.g Z,f.d,_,[],(gt ah (gt au aD)),m,Z,Z⟩
theorem Wk.L {aa v1:Value}{ab:LL}{x1:LI}(m:Mem W G w (H))(ac:R2 G aa ab)(h1:R1 G v1 x1){y:Bool}(hd:D.L ab x1=some y):
  Calls prog 104 #[(.agg #[aa]),v1] w (Res W G H (λ_ Ho v=>Ho=[]∧v=(.bool y))):=by
 refine Au (args:=[(.agg #[aa]),v1]) (N:=25) [.tmp 4] func104 Z Z (lb Z) Z λa f=> ?_
 unfold D.L at hd
 refine Af ?_
 refine Bu (cs:=[aa]) m f Z Z Z λad w a m f=>Ac f Z λa f=>Aa (Ag (Af ?_))
 refine AG 0 0 (ds:=[aa]) m AX f Z Z Z Z Z λa f=> ?_
 have⟨ae,af,hd⟩:=bind_some hd
 refine A3 f Z call52 (Wk.i m ac af) λag w ah m a f=> ?_
 have ac:=rd2 ah ac
 have h1:=rd1 ah h1
 refine l_o f (Bg (f.e Z)) λa f=>Ab f Z λa f=> ?_
 refine Bj 7 (λa w=>∃ai,GLe ag ai∧Mem W ai w (ib ad 28 [aa]::H)∧Fr a 25 [(0,(.agg #[aa])),(1,v1),(2,(pb ad)),(6,(.agg #[aa])),(7,(.bool ae)),(8,(.bool (!ae))),(9,(.bool (!ae))),(16,(.bool ((!ae)||((x1.length:Int) !=(ab.length:Int)))))]) ?_ ?_
 ·rcases Bool.eq_false_or_eq_true (!ae) with aj|aj
  ·refine Aw f aj λa f=> ?_
   refine Aw f aj λa f=>Aw f aj λa f=>Aw f aj λa f=>Aw f aj λa f=>Aw f aj λa f=>l_o f (AD (f.e Z) aj (f.e Z)) λa f=> ?_
   exact⟨_,gr,m,f.weak ⟨Z,Z,Z,Z,Z,Z,Z,by rw[aj];rfl,trivial⟩⟩
  ·refine As f aj ?_
   refine Ab f Z λa f=>As f aj ?_
   refine Bd underlying43 f Z Z h1 λa f=>As f aj ?_
   refine Cb underlying28 Z sizeOf22 f Z λa f=>As f aj ?_
   refine A5 0 0 m BU f Z Z Z Z λa f=>As f aj ?_
   refine Bd underlying22 f Z Z ac λa f=>As f aj ?_
   refine Ah f Z Z Dz λa f=>l_o f (AC (f.e Z) aj (f.e Z)) λa f=> ?_
   exact⟨_,gr,m,f.weak ⟨Z,Z,Z,Z,Z,Z,Z,by rw[aj];rfl,trivial⟩⟩
 ·rintro a w ⟨ai,ak,m,f⟩
  have ac:=rd2 ak ac
  have h1:=rd1 ak h1
  refine Aa ?_
  rcases Ae hd with⟨al,hd⟩|⟨al,hd⟩
  ·refine Am f Z al ?_
   refine Af ?_
   refine Ac f Z λa f=>Aa ?_
   refine Ap ?_
   have m:Mem W ai w H:=Mem.drop (H':=[ib ad 28 [aa]]) m
   obtain rfl:=sj hd
   exact⟨[(.bool false)],f.g Z,f.d,_,[],(gt ah ak),m,Z,Z⟩
  ·refine Aj f Z al ?_
   refine An ?_
   refine Af ?_
   refine Ab f Z λa f=>AO f Z call145 (Wk.q1 m h1) λam an ao w ap m aq a f=> ?_
   obtain⟨ar,rfl,rfl⟩:=aq
   have ac:=rd2 ap ac
   have h1:=rd1 ap h1
   have⟨au,av,hd⟩:=bind_some hd
   refine AO f Z call144 (Wk.u0 m h1 av) λaw ax ay w az m aA a f=> ?_
   obtain⟨aB,aC,rfl,rfl,aD⟩:=aA
   have ac:=rd2 az ac
   refine Ac f Z λa f=>Ay ?_
   refine Ab f Z λa f=>Cb underlying28 Z sizeOf22 f Z λa f=>A5 1 0 m BU f Z Z Z Z λa f=>Bd underlying22 f Z Z ac λa f=> ?_
   have⟨aE,aF,hd⟩:=bind_some hd
   refine AO f Z call67 (Ow.lendCall (RI.mono _) 0 aD m Z (λaG aH m aI=>Wk.K m aI aF) (λ_ _ _ _ h=>h)) λaJ aK aL w aM m aN a f=> ?_
   obtain⟨rfl,rfl⟩:=aN
   refine Ac f Z λa f=>Aa ?_
   refine Ap ?_
   have m:Mem W aK w H:=Mem.drop (H':=[aC,ib ad 28 [aa]]) m
   obtain rfl:=sj hd
   exact⟨[(.bool aE)],f.g Z,f.d,_,[],(gt ah (gt ak (gt ap (gt az aM)))),m,Z,Z⟩
theorem Wk.i0 {aa v1:Value}{ab:LL}{x1:LI}(m:Mem W G w (H))(ac:R2 G aa ab)(h1:R1 G v1 x1){y:Bool}(hd:D.i0 ab x1=some y):
  Calls prog 146 #[(.agg #[aa]),v1] w (Res W G H (λ_ Ho v=>Ho=[]∧v=(.bool y))):=by
 refine Au (args:=[(.agg #[aa]),v1]) (N:=50) [.tmp 4] func146 Z Z (lb Z) Z λa f=> ?_
 unfold D.i0 at hd
 refine Af ?_
 refine Bu (cs:=[aa]) m f Z Z Z λad w a m f=>Ac f Z λa f=>Ay ?_
 refine Ac f Z λa f=>Aa (Ag (Af ?_))
 refine Ab f Z λa f=>Bd underlying43 f Z Z h1 λa f=>Ab f Z λa f=>Aa ?_
 have⟨ae,af,hd⟩:=bind_some hd
 refine AJ (λa w=>∃q_210':Unit,ae= .inl q_210'∧∃(ag:GH),GLe G ag∧Fr a 50 []∧Mem W ag w (H)) ?_ ?_
 ·refine Al ?_
  refine AE (λah a w=>∃ai:Int,∃aj:Int,(ai,aj)=ah∧∃(ak:GH),GLe G ak∧Fr a 50 [(1,v1),(2,(pb ad)),(5,(.int .u32 ai)),(8,v1),(9,(iv (x1.length:Int))),(10,(iv aj))]∧Mem W ak w (ib ad 28 [aa]::H)) af ⟨_,_,Z,_,gr,f.k Z,m⟩ ?_
  clear af f m
  rintro ah al am an a w ⟨ai,aj,rfl,ak,ao,f,m⟩
  have h1:=rd1 ao h1
  have ac:=rd2 ao ac
  refine Af ?_
  refine Ah f Z Z AQ λa f=>Aa (Ag ?_)
  rcases Ae am with⟨ap,am⟩|⟨ap,am⟩
  ·refine Am f Z ap ?_
   refine An ?_
   refine Ag (Al (Af ?_))
   refine Ab f Z λa f=> ?_
   have⟨aq,ar,am⟩:=bind_some am
   refine By T43 f Z Z Z h1 ar λau av a aw ax f=> ?_
   subst ax
   refine AU m Pl2 f Z Z aw λa f=>Ac f Z λa f=>Ac f Z λa f=>Aa (Ag (Ag ?_))
   refine A7 30 AI (by kernel_rfl) m ?_
   refine Ai 0 30 Z f Z λa f=>CK 1 30 underlying28 Z sizeOf22 Z f Z λa f=>Ci 2 30 0 BU Z Z Z f Z λa f=>q_len (i:=3) 30 underlying22 ac Z (by kernel_rfl) Z f Z Z Z λa f=>q_p 4 30 Z f (λ_=>AK (f.e Z) (f.e Z) AR) λa f=> ?_
   have⟨ay,az,am⟩:=bind_some am
   refine Bi (i:=5) 30 Z (by kernel_rfl) Z f Z Z Z call129 (λ_ _ w aA m=>Wk.M m az) λa f=>q_p 6 30 Z f (λ_=>Bg (f.e Z)) λa f=>Ai 7 30 Z f Z λa f=> ?_
   have⟨aB,aC,am⟩:=bind_some am
   refine B1 (fuel':=18) (listed':= #[true,true,true,true,true,true,true,true,true,true,true,true,false,false,false,false,false,false,false,false,false,false,false,false,false,false,false,false,false,false]) (λa=>Fr a 50 [(1,v1),(2,(pb ad)),(5,(.int .u32 ai)),(6,(iv aj)),(7,(iv aq)),(8,v1),(9,(iv (x1.length:Int))),(10,(iv aj)),(15,(iv aq)),(16,(pb ad)),(17,aa),(18,(iv (ab.length:Int))),(19,(iv (i64.wrap ((ab.length:Int)-1)))),(20,(.bool ay)),(21,(.bool (!ay))),(22,(.bool (!ay))),(26,(.bool aB))]) ?_ ?_
   ·intro a f
    refine Ai 12 30 Z f Z λa f=> ?_
    have⟨aD,aE,am⟩:=bind_some am
    refine B1 (fuel':=0) (listed':= #[true,true,true,true,true,true,true,true,true,true,true,true,true,true,true,true,true,true,true,true,true,true,true,true,true,true,true,true,true,true]) (λa=>Fr a 50 [(1,v1),(2,(pb ad)),(5,(.int .u32 ai)),(6,(iv aj)),(7,(iv aq)),(8,v1),(9,(iv (x1.length:Int))),(10,(iv aj)),(15,(iv aq)),(16,(pb ad)),(17,aa),(18,(iv (ab.length:Int))),(19,(iv (i64.wrap ((ab.length:Int)-1)))),(20,(.bool ay)),(21,(.bool (!ay))),(22,(.bool (!ay))),(26,(.bool aB)),(27,(.bool aB)),(44,(.bool aD))]) ?_ ?_
    ·intro a f
     refine AW λaF w aG m=>Aa ?_
     rcases Ae am with⟨aH,am⟩|⟨aH,am⟩
     ·refine Am f Z aH ?_
      refine Af ?_
      refine Ac f Z λa f=>Aa ?_
      refine Ap ?_
      have m:Mem W aF w H:=Mem.drop (H':=[ib ad 28 [aa]]) m
      obtain rfl:=sj am
      obtain rfl:=an _ rfl
      obtain rfl:=sj hd
      exact⟨[(.bool false)],f.g Z,f.d,_,[],(gt ao aG),m,Z,Z⟩
     ·refine Aj f Z aH ?_
      refine An ?_
      refine Ak ?_
      refine Ab f Z λa f=>Ab f Z λa f=> ?_
      have⟨aI,aJ,am⟩:=bind_some am
      refine A3 f Z call99 (Wk.b m aJ) λaK w aL m a f=>Ah f Z Z b_or λa f=>Ac f Z λa f=>Aa (Ak ?_)
      refine Ah f Z Z Ax λa f=>Ab f Z λa f=>Aa ?_
      obtain rfl:=sj am
      exact⟨_,Z,_,_,Z,_,(gt ao (gt aG aL)),f.k Z,m⟩
    ·intro aM
     rcases Ae aE with⟨aN,aE⟩|⟨aN,aE⟩
     ·refine Ao 13 30 Z f aN λa f=> ?_
      refine Ao 14 30 Z f aN λa f=>Ao 15 30 Z f aN λa f=>BH 16 30 Z f λa f=>BH 17 30 Z f λa f=>BH 18 30 Z f λa f=>BH 19 30 Z f λa f=>BH 20 30 Z f λa f=>BH 21 30 Z f λa f=>BH 22 30 Z f λa f=>BH 23 30 Z f λa f=>BH 24 30 Z f λa f=>BH 25 30 Z f λa f=>BH 26 30 Z f λa f=>BH 27 30 Z f λa f=>Ao 28 30 Z f aN λa f=>q_p 29 30 Z f (λ_=>AD (f.e Z) aN (f.e Z)) λa f=> ?_
      obtain rfl:=sj aE
      exact aM _ (f.k Z)
     ·refine Ai (hw:=wo f aN) 13 30 Z f Z λa f=> ?_
      refine q_p (hw:=wo f aN) 14 30 Z f (λ_=>AK (f.e Z) (f.e Z) Cc) λa f=>Ai (hw:=wo f aN) 15 30 Z f Z λa f=> ?_
      have⟨aO,aP,aE⟩:=bind_some aE
      refine B1 (fuel':=1) (listed':= #[true,true,true,true,true,true,true,true,true,true,true,true,true,true,true,true,true,true,true,true,true,true,true,true,true,true,true,true,true,false]) (λa=>Fr a 50 [(1,v1),(2,(pb ad)),(5,(.int .u32 ai)),(6,(iv aj)),(7,(iv aq)),(8,v1),(9,(iv (x1.length:Int))),(10,(iv aj)),(15,(iv aq)),(16,(pb ad)),(17,aa),(18,(iv (ab.length:Int))),(19,(iv (i64.wrap ((ab.length:Int)-1)))),(20,(.bool ay)),(21,(.bool (!ay))),(22,(.bool (!ay))),(26,(.bool aB)),(27,(.bool aB)),(28,(iv aj)),(29,(.bool (decide ((0:Int)<aj)))),(30,(.bool (decide ((0:Int)<aj)))),(43,(.bool aO))]) ?_ ?_
      ·intro a f
       refine q_p 29 30 Z f (λ_=>AC (f.e Z) aN (f.e Z)) λa f=> ?_
       obtain rfl:=sj aE
       exact aM _ (f.k Z)
      ·intro aQ
       rcases Ae aP with⟨aR,aP⟩|⟨aR,aP⟩
       ·refine CK (hw:=wo f aR) 16 30 underlying28 Z sizeOf22 Z f Z λa f=> ?_
        refine Ci (hw:=wo f aR) 17 30 0 BU Z Z Z f Z λa f=>Ai (hw:=wo f aR) 18 30 Z f Z λa f=> ?_
        have⟨aS,aT,aP⟩:=bind_some aP
        refine BM (hw:=wo f aR) 19 30 T22 ac aT Z f Z Z λaU aV a aW aX f=>BL (hw:=wo f aR) 20 30 Cf aW Z f Z λa f=>Ai (hw:=wo f aR) 21 30 Z f Z λa f=>Ai (hw:=wo f aR) 22 30 Z f Z λa f=>q_p (hw:=wo f aR) 23 30 Z f (λ_=>AK (f.e Z) (f.e Z) AR) λa f=> ?_
        have⟨aY,aZ,aP⟩:=bind_some aP
        refine BM (hw:=wo f aR) 24 30 T43 h1 aZ Z f Z Z λa0 a1 a a2 a3 f=> ?_
        subst a3
        refine BL (hw:=wo f aR) 25 30 Pl2 a2 Z f Z λa f=> ?_
        have⟨a4,a5,aP⟩:=bind_some aP
        refine Bi (i:=26) 30 Z (by kernel_rfl) Z f (Bh f Z Z Z aR) Z Z call119 (λ_ _ w a6 m=>Wk.q m (rd1 a6 aX) a5) λa f=>q_p (hw:=wo f aR) 27 30 Z f (λ_=>Bg (f.e Z)) λa f=>q_p (hw:=wo f aN) 28 30 Z f (λ_=>AD (f.e Z) aR (f.e Z)) λa f=> ?_
        obtain rfl:=sj aP
        exact aQ _ (f.k Z)
       ·refine Ao 16 30 Z f aR λa f=> ?_
        refine Ao 17 30 Z f aR λa f=>Ao 18 30 Z f aR λa f=>Ao 19 30 Z f aR λa f=>Ao 20 30 Z f aR λa f=>Ao 21 30 Z f aR λa f=>Ao 22 30 Z f aR λa f=>Ao 23 30 Z f aR λa f=>Ao 24 30 Z f aR λa f=>Ao 25 30 Z f aR λa f=>Ao 26 30 Z f aR λa f=>Ao 27 30 Z f aR λa f=>q_p (hw:=wo f aN) 28 30 Z f (λ_=>AC (f.e Z) aR (f.e Z)) λa f=> ?_
        obtain rfl:=sj aP
        exact aQ _ (f.k Z)
   ·intro a7
    rcases Ae aC with⟨a8,aC⟩|⟨a8,aC⟩
    ·refine Ao 8 30 Z f a8 λa f=> ?_
     refine Ao 9 30 Z f a8 λa f=>Ao 10 30 Z f a8 λa f=>q_p 11 30 Z f (λ_=>AD (f.e Z) a8 (f.e Z)) λa f=> ?_
     obtain rfl:=sj aC
     exact a7 _ (f.k Z)
    ·refine Ai (hw:=wo f a8) 8 30 Z f Z λa f=> ?_
     refine Ai (hw:=wo f a8) 9 30 Z f Z λa f=> ?_
     have⟨a9,ba,aC⟩:=bind_some aC
     refine Bi (i:=10) 30 Z (by kernel_rfl) Z f (Bh f Z Z Z a8) Z Z call68 (λ_ _ w bb m=>Wk.k m ba) λa f=>q_p 11 30 Z f (λ_=>AC (f.e Z) a8 (f.e Z)) λa f=> ?_
     obtain rfl:=sj aC
     exact a7 _ (f.k Z)
  ·refine Aj f Z ap ?_
   refine AB Z ?_
   have m:Mem W ak w H:=Mem.drop (H':=[ib ad 28 [aa]]) m
   obtain rfl:=sj am
   obtain rfl:=an _ rfl
   exact⟨_,Z,_,ao,f.weak trivial,m⟩
 ·rintro a w ⟨_,rfl,ag,bc,f,m⟩
  refine Af ?_
  refine Ac f Z λa f=>Aa ?_
  refine Ap ?_
  obtain rfl:=sj hd
  exact⟨[(.bool true)],f.g Z,f.d,_,[],bc,m,Z,Z⟩
theorem Wk.H0 {aa v1:Value}{ab:LL}{x1:LI}(m:Mem W G w (H))(ac:R2 G aa ab)(h1:R1 G v1 x1){y:Bool}(hd:D.H0 ab x1=some y):
  Calls prog 105 #[(.agg #[aa]),v1] w (Res W G H (λ_ Ho v=>Ho=[]∧v=(.bool y))):=by
 refine Au (args:=[(.agg #[aa]),v1]) (N:=34) [.tmp 4] func105 Z Z (lb Z) Z λa f=> ?_
 unfold D.H0 at hd
 refine Af ?_
 refine Bu (cs:=[aa]) m f Z Z Z λad w a m f=>Ac f Z λa f=>Ay ?_
 refine Ab f Z λa f=>Bd underlying43 f Z Z h1 λa f=>Ac f Z λa f=>Aa (Ag ?_)
 refine A7 27 AI (by kernel_rfl) m ?_
 refine BW (i:=0) (ds:=[aa]) 27 0 AX Z Z Z Z (by kernel_rfl) Z f Z Z Z λa f=> ?_
 have⟨ae,af,hd⟩:=bind_some hd
 refine Bi (i:=1) 27 Z (by kernel_rfl) Z f Z Z Z call52 (λ_ _ w ag m=>Wk.i m (rd2 ag ac) af) λa f=>Ai 2 27 Z f Z λa f=>B1 (fuel':=21) (listed':= #[true,true,true,true,true,true,false,false,false,false,false,false,false,false,false,false,false,false,false,false,false,false,false,false,false,false,false]) (λa=>Fr a 34 [(0,(.agg #[aa])),(1,v1),(2,(pb ad)),(5,(iv (x1.length:Int))),(8,(.agg #[aa])),(9,(.bool ae)),(10,(.bool ae)),(13,(.bool (ae&&(decide ((3:Int)≤(x1.length:Int))))))]) ?_ ?_
 ·intro a f
  refine Ai 6 27 Z f Z λa f=> ?_
  have⟨ah,ai,hd⟩:=bind_some hd
  refine B1 (fuel':=16) (listed':= #[true,true,true,true,true,true,true,true,true,true,true,false,false,false,false,false,false,false,false,false,false,false,false,false,false,false,false]) (λa=>Fr a 34 [(0,(.agg #[aa])),(1,v1),(2,(pb ad)),(5,(iv (x1.length:Int))),(8,(.agg #[aa])),(9,(.bool ae)),(10,(.bool ae)),(13,(.bool (ae&&(decide ((3:Int)≤(x1.length:Int)))))),(14,(.bool (ae&&(decide ((3:Int)≤(x1.length:Int)))))),(18,(.bool ah))]) ?_ ?_
  ·intro a f
   refine Ai 11 27 Z f Z λa f=> ?_
   have⟨aj,ak,hd⟩:=bind_some hd
   refine B1 (fuel':=1) (listed':= #[true,true,true,true,true,true,true,true,true,true,true,true,true,true,true,true,true,true,true,true,true,true,true,true,true,true,false]) (λa=>Fr a 34 [(0,(.agg #[aa])),(1,v1),(2,(pb ad)),(5,(iv (x1.length:Int))),(8,(.agg #[aa])),(9,(.bool ae)),(10,(.bool ae)),(13,(.bool (ae&&(decide ((3:Int)≤(x1.length:Int)))))),(14,(.bool (ae&&(decide ((3:Int)≤(x1.length:Int)))))),(18,(.bool ah)),(19,(.bool ah)),(33,(.bool aj))]) ?_ ?_
   ·intro a f
    refine q_p 26 27 Z f (λ_=>A9 (f.e Z)) λa f=>AW λal w am m=>Aa ?_
    refine Ap ?_
    have m:Mem W al w H:=Mem.drop (H':=[ib ad 28 [aa]]) m
    obtain rfl:=sj hd
    exact⟨[(.bool aj)],f.g Z,f.d,_,[],am,m,Z,Z⟩
   ·intro an
    rcases Ae ak with⟨ao,ak⟩|⟨ao,ak⟩
    ·refine CK (hw:=wo f ao) 12 27 underlying28 Z sizeOf22 Z f Z λa f=> ?_
     refine Ci (hw:=wo f ao) 13 27 0 BU Z Z Z f Z λa f=>Ai (hw:=wo f ao) 14 27 Z f Z λa f=> ?_
     have⟨ap,aq,ak⟩:=bind_some ak
     refine BM (hw:=wo f ao) 15 27 T43 h1 aq Z f Z Z λar au a av aw f=> ?_
     subst aw
     refine BL (hw:=wo f ao) 16 27 Pl2 av Z f Z λa f=> ?_
     have⟨ax,ay,ak⟩:=bind_some ak
     refine BM (hw:=wo f ao) 17 27 T22 ac ay Z f Z Z λaz aA a aB aC f=>BL (hw:=wo f ao) 18 27 Cf aB Z f Z λa f=>Ai (hw:=wo f ao) 19 27 Z f Z λa f=>Ai (hw:=wo f ao) 20 27 Z f Z λa f=>q_p (hw:=wo f ao) 21 27 Z f (λ_=>AK (f.e Z) (f.e Z) AR) λa f=> ?_
     have⟨aD,aE,ak⟩:=bind_some ak
     refine BM (hw:=wo f ao) 22 27 T43 h1 aE Z f Z Z λaF aG a aH aI f=> ?_
     subst aI
     refine BL (hw:=wo f ao) 23 27 Pl2 aH Z f Z λa f=> ?_
     have⟨aJ,aK,ak⟩:=bind_some ak
     refine Bi (i:=24) 27 Z (by kernel_rfl) Z f (Bh f Z Z Z ao) Z Z call119 (λ_ _ w aL m=>Wk.q m (rd1 aL aC) aK) λa f=>q_p 25 27 Z f (λ_=>AD (f.e Z) ao (f.e Z)) λa f=> ?_
     obtain rfl:=sj ak
     exact an _ (f.k Z)
    ·refine Ao 12 27 Z f ao λa f=> ?_
     refine Ao 13 27 Z f ao λa f=>Ao 14 27 Z f ao λa f=>Ao 15 27 Z f ao λa f=>Ao 16 27 Z f ao λa f=>Ao 17 27 Z f ao λa f=>Ao 18 27 Z f ao λa f=>Ao 19 27 Z f ao λa f=>Ao 20 27 Z f ao λa f=>Ao 21 27 Z f ao λa f=>Ao 22 27 Z f ao λa f=>Ao 23 27 Z f ao λa f=>Ao 24 27 Z f ao λa f=>q_p 25 27 Z f (λ_=>AC (f.e Z) ao (f.e Z)) λa f=> ?_
     obtain rfl:=sj ak
     exact an _ (f.k Z)
  ·intro aM
   rcases Ae ai with⟨aN,ai⟩|⟨aN,ai⟩
   ·refine BW (i:=7) (ds:=[aa]) 27 0 AX Z Z Z Z (by kernel_rfl) Z f (Bh f Z Z Z aN) Z Z λa f=> ?_
    refine Ai (hw:=wo f aN) 8 27 Z f Z λa f=> ?_
    have⟨aO,aP,ai⟩:=bind_some ai
    refine Bi (i:=9) 27 Z (by kernel_rfl) Z f (Bh f Z Z Z aN) Z Z call146 (λ_ _ w aQ m=>Wk.i0 m (rd2 aQ ac) (rd1 aQ h1) aP) λa f=>q_p 10 27 Z f (λ_=>AD (f.e Z) aN (f.e Z)) λa f=> ?_
    obtain rfl:=sj ai
    exact aM _ (f.k Z)
   ·refine Ao 7 27 Z f aN λa f=> ?_
    refine Ao 8 27 Z f aN λa f=>Ao 9 27 Z f aN λa f=>q_p 10 27 Z f (λ_=>AC (f.e Z) aN (f.e Z)) λa f=> ?_
    obtain rfl:=sj ai
    exact aM _ (f.k Z)
 ·intro aR
  rcases Bool.eq_false_or_eq_true ae with aS|aS
  ·refine Ai (hw:=wo f aS) 3 27 Z f Z λa f=> ?_
   refine q_p (hw:=wo f aS) 4 27 Z f (λ_=>AK (f.e Z) (f.e Z) Cj) λa f=>q_p 5 27 Z f (λ_=>AD (f.e Z) aS (f.e Z)) λa f=> ?_
   exact aR _ (f.weak ⟨Z,Z,Z,Z,Z,Z,Z,by rw[aS];rfl,trivial⟩)
  ·refine Ao 3 27 Z f aS λa f=> ?_
   refine Ao 4 27 Z f aS λa f=>q_p 5 27 Z f (λ_=>AC (f.e Z) aS (f.e Z)) λa f=> ?_
   exact aR _ (f.weak ⟨Z,Z,Z,Z,Z,Z,Z,by rw[aS];rfl,trivial⟩)
theorem Wk.T {aa v1:Value}{ab:LL}{x1:LI}(m:Mem W G w (H))(ac:R2 G aa ab)(h1:R1 G v1 x1){y:Bool}(hd:D.T ab x1=some y):
  Calls prog 40 #[(.agg #[aa]),v1] w (Res W G H (λ_ Ho v=>Ho=[]∧v=(.bool y))):=by
 refine Au (args:=[(.agg #[aa]),v1]) (N:=19) [.tmp 4] func40 Z Z (lb Z) Z λa f=> ?_
 unfold D.T at hd
 refine Af ?_
 refine Bu (cs:=[aa]) m f Z Z Z λad w a m f=>Ac f Z λa f=>Ay ?_
 refine AG 0 0 (ds:=[aa]) m AX f Z Z Z Z Z λa f=>Ab f Z λa f=> ?_
 have⟨ae,af,hd⟩:=bind_some hd
 refine A3 f Z call104 (Wk.L m ac h1 af) λag w ah m a f=> ?_
 have ac:=rd2 ah ac
 have h1:=rd1 ah h1
 refine Ab f Z λa f=> ?_
 have⟨ai,aj,hd⟩:=bind_some hd
 refine Bj 5 (λa w=>∃ak,GLe ag ak∧Mem W ak w (ib ad 28 [aa]::H)∧Fr a 19 [(0,(.agg #[aa])),(1,v1),(2,(pb ad)),(5,(.agg #[aa])),(6,v1),(7,(.bool ae)),(8,(.bool ae)),(13,(.bool ai))]) ?_ ?_
 ·rcases Ae aj with⟨al,aj⟩|⟨al,aj⟩
  ·refine As f al ?_
   refine Ab f Z λa f=>As f al ?_
   have⟨am,an,aj⟩:=bind_some aj
   refine By T43 f Z Z Z h1 an λao ap a aq ar f=> ?_
   subst ar
   refine As f al ?_
   refine AU m Pl2 f Z Z aq λa f=>As f al ?_
   refine Ah f Z Z BF λa f=>l_o f (AD (f.e Z) al (f.e Z)) λa f=> ?_
   obtain rfl:=sj aj
   exact⟨_,gr,m,f.k Z⟩
  ·refine Aw f al λa f=> ?_
   refine Aw f al λa f=>Aw f al λa f=>Aw f al λa f=>l_o f (AC (f.e Z) al (f.e Z)) λa f=> ?_
   obtain rfl:=sj aj
   exact⟨_,gr,m,f.k Z⟩
 ·rintro a w ⟨ak,au,m,f⟩
  have ac:=rd2 au ac
  have h1:=rd1 au h1
  refine Ab f Z λa f=> ?_
  have⟨av,aw,hd⟩:=bind_some hd
  refine Bj 4 (λa w=>∃ax,GLe ak ax∧Mem W ax w (ib ad 28 [aa]::H)∧Fr a 19 [(0,(.agg #[aa])),(1,v1),(2,(pb ad)),(5,(.agg #[aa])),(6,v1),(7,(.bool ae)),(8,(.bool ae)),(13,(.bool ai)),(14,(.bool ai)),(18,(.bool av))]) ?_ ?_
  ·rcases Ae aw with⟨ay,aw⟩|⟨ay,aw⟩
   ·refine As f ay ?_
    refine AG 0 0 (ds:=[aa]) m AX f Z Z Z Z Z λa f=>As f ay ?_
    refine Ab f Z λa f=>As f ay ?_
    have⟨az,aA,aw⟩:=bind_some aw
    refine A3 f Z call105 (Wk.H0 m ac h1 aA) λaB w aC m a f=>l_o f (AD (f.e Z) ay (f.e Z)) λa f=> ?_
    obtain rfl:=sj aw
    exact⟨_,aC,m,f.k Z⟩
   ·refine Aw f ay λa f=> ?_
    refine Aw f ay λa f=>Aw f ay λa f=>l_o f (AC (f.e Z) ay (f.e Z)) λa f=> ?_
    obtain rfl:=sj aw
    exact⟨_,gr,m,f.k Z⟩
  ·rintro a w ⟨ax,aD,m,f⟩
   refine Ac f Z λa f=>Aa ?_
   refine Ap ?_
   have m:Mem W ax w H:=Mem.drop (H':=[ib ad 28 [aa]]) m
   obtain rfl:=sj hd
   exact⟨[(.bool av)],f.g Z,f.d,_,[],(gt ah (gt au aD)),m,Z,Z⟩
theorem Wk.c0 {aa:Value}{ab:LL}{x1 x2:Int}(m:Mem W G w (H))(ac:R2 G aa ab){y:Bool}(hd:D.c0 ab x1 x2=some y):
  Calls prog 29 #[(.agg #[aa]),(iv x1),(iv x2)] w (Res W G H (λ_ Ho v=>Ho=[]∧v=(.bool y))):=by
 refine Au (args:=[(.agg #[aa]),(iv x1),(iv x2)]) (N:=25) [.tmp 6] func29 Z Z (lb Z) Z λa f=> ?_
 unfold D.c0 at hd
 refine Af ?_
 refine Bu (cs:=[aa]) m f Z Z Z λad w a m f=>Ac f Z λa f=>Ay ?_
 refine AG 0 0 (ds:=[aa]) m AX f Z Z Z Z Z λa f=> ?_
 have⟨ae,af,hd⟩:=bind_some hd
 refine A3 f Z call46 (Wk.j m ac af) λag w ah m a f=> ?_
 have ac:=rd2 ah ac
 refine Ab f Z λa f=> ?_
 have⟨ai,aj,hd⟩:=bind_some hd
 refine Bj 4 (λa w=>∃ak,GLe ag ak∧Mem W ak w (ib ad 28 [aa]::H)∧Fr a 25 [(0,(.agg #[aa])),(1,(iv x1)),(2,(iv x2)),(3,(pb ad)),(7,(.agg #[aa])),(8,(.bool ae)),(9,(.bool ae)),(13,(.bool ai))]) ?_ ?_
 ·rcases Ae aj with⟨al,aj⟩|⟨al,aj⟩
  ·refine As f al ?_
   refine AG 0 0 (ds:=[aa]) m AX f Z Z Z Z Z λa f=>As f al ?_
   refine Ab f Z λa f=>As f al ?_
   have⟨am,an,aj⟩:=bind_some aj
   refine A3 f Z call83 (Wk.o m ac an) λao w ap m a f=>l_o f (AD (f.e Z) al (f.e Z)) λa f=> ?_
   obtain rfl:=sj aj
   exact⟨_,ap,m,f.k Z⟩
  ·refine Aw f al λa f=> ?_
   refine Aw f al λa f=>Aw f al λa f=>l_o f (AC (f.e Z) al (f.e Z)) λa f=> ?_
   obtain rfl:=sj aj
   exact⟨_,gr,m,f.k Z⟩
 ·rintro a w ⟨ak,aq,m,f⟩
  have ac:=rd2 aq ac
  refine Ab f Z λa f=> ?_
  have⟨ar,au,hd⟩:=bind_some hd
  refine Bj 4 (λa w=>∃av,GLe ak av∧Mem W av w (ib ad 28 [aa]::H)∧Fr a 25 [(0,(.agg #[aa])),(1,(iv x1)),(2,(iv x2)),(3,(pb ad)),(7,(.agg #[aa])),(8,(.bool ae)),(9,(.bool ae)),(13,(.bool ai)),(14,(.bool ai)),(18,(.bool ar))]) ?_ ?_
  ·rcases Ae au with⟨aw,au⟩|⟨aw,au⟩
   ·refine As f aw ?_
    refine AG 0 0 (ds:=[aa]) m AX f Z Z Z Z Z λa f=>As f aw ?_
    refine Ab f Z λa f=>As f aw ?_
    have⟨ax,ay,au⟩:=bind_some au
    refine A3 f Z call83 (Wk.o m ac ay) λaz w aA m a f=>l_o f (AD (f.e Z) aw (f.e Z)) λa f=> ?_
    obtain rfl:=sj au
    exact⟨_,aA,m,f.k Z⟩
   ·refine Aw f aw λa f=> ?_
    refine Aw f aw λa f=>Aw f aw λa f=>l_o f (AC (f.e Z) aw (f.e Z)) λa f=> ?_
    obtain rfl:=sj au
    exact⟨_,gr,m,f.k Z⟩
  ·rintro a w ⟨av,aB,m,f⟩
   have ac:=rd2 aB ac
   refine Ab f Z λa f=> ?_
   have⟨aC,aD,hd⟩:=bind_some hd
   refine Bj 5 (λa w=>∃aE,GLe av aE∧Mem W aE w (ib ad 28 [aa]::H)∧Fr a 25 [(0,(.agg #[aa])),(1,(iv x1)),(2,(iv x2)),(3,(pb ad)),(7,(.agg #[aa])),(8,(.bool ae)),(9,(.bool ae)),(13,(.bool ai)),(14,(.bool ai)),(18,(.bool ar)),(19,(.bool ar)),(24,(.bool aC))]) ?_ ?_
   ·rcases Ae aD with⟨aF,aD⟩|⟨aF,aD⟩
    ·refine As f aF ?_
     refine AG 0 0 (ds:=[aa]) m AX f Z Z Z Z Z λa f=>As f aF ?_
     refine Ab f Z λa f=>As f aF ?_
     refine Ab f Z λa f=>As f aF ?_
     have⟨aG,aH,aD⟩:=bind_some aD
     refine A3 f Z call84 (Wk.r m ac aH) λaI w aJ m a f=>l_o f (AD (f.e Z) aF (f.e Z)) λa f=> ?_
     obtain rfl:=sj aD
     exact⟨_,aJ,m,f.k Z⟩
    ·refine Aw f aF λa f=> ?_
     refine Aw f aF λa f=>Aw f aF λa f=>Aw f aF λa f=>l_o f (AC (f.e Z) aF (f.e Z)) λa f=> ?_
     obtain rfl:=sj aD
     exact⟨_,gr,m,f.k Z⟩
   ·rintro a w ⟨aE,aK,m,f⟩
    refine Ac f Z λa f=>Aa ?_
    refine Ap ?_
    have m:Mem W aE w H:=Mem.drop (H':=[ib ad 28 [aa]]) m
    obtain rfl:=sj hd
    exact⟨[(.bool aC)],f.g Z,f.d,_,[],(gt ah (gt aq (gt aB aK))),m,Z,Z⟩
end Go.Proofs.YtfmaahgchbfbiaaDoor
