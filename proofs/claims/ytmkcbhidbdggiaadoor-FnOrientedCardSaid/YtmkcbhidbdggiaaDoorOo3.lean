/- Parts. -/
import Derived.Test.YtmkcbhidbdggiaaDoorOo2
import Derived.Test.YtmkcbhidbdggiaaDoorProg
import Derived.KernelRfl
set_option linter.unusedVariables false
set_option linter.unusedSimpArgs false
set_option maxRecDepth 100000
namespace Go.Proofs.YtmkcbhidbdggiaaDoor
open Go Go.Sx
open Go.Proofs.Tryd Go.Proofs.YtmkcbhidbdggiaaDoor.Tryd IntKind
variable {W w : World} {G : GH} {H : List Itm}
theorem T22 :SlT prog 22 5 1 1 (.int .u8 0):=⟨underlying22,Tryd.t5,by kernel_rfl,by kernel_rfl,by kernel_rfl,by kernel_rfl⟩
theorem Pl26 :BY prog 26:=isAgg26
theorem Pl3 :BY prog 3:=isAgg3
theorem Pl22 :BY prog 22:=isAgg22
theorem T27 :SlT prog 27 31 1 24 sn:=⟨underlying27,Tryd.t31,by kernel_rfl,by kernel_rfl,by kernel_rfl,by kernel_rfl⟩
theorem BL :BY prog 27:=isAgg27
theorem Bv :Agg prog 29 1:=⟨isAgg29,sizeOf29⟩
theorem Bj :BY prog 31:=isAgg31
theorem T65 :SlT prog 65 3 1 8 (iv 0):=⟨underlying65,Tryd.t3,by kernel_rfl,by kernel_rfl,by kernel_rfl,by kernel_rfl⟩
theorem Dj :BY prog 63:=isAgg63
theorem Wk.L0 {v0:Value}{x0:LI}(m:Mem W G w (H))(h0:RSl (RI .u8) G v0 x0){y:Bool}(hd:D.L0 x0=some y):
  Calls prog 7 #[v0] w (Res W G H (λ_ Ho v=>Ho=[]∧v=(.bool y))):=by
 refine AB (args:=[v0]) (N:=6) [.tmp 2] func7 Z Z (lb Z) Z λa f=> ?_
 unfold D.L0 at hd
 refine Af ?_
 refine Ac f Z λa f=>AG ?_
 refine Ab f Z λa f=>A6 underlying22 f Z Z h0 λa f=>Ai f Z Z Cx λa f=>Ac f Z λa f=>Aa ?_
 refine Ax ?_
 obtain rfl:=sj hd
 exact⟨[(.bool (decide ((4096:Int)<(x0.length:Int))))],f.g Z,f.d,_,[],gr,m,Z,Z⟩
theorem Wk.p0 {v0:Value}{x0:LI}{x1:Int}(m:Mem W G w (H))(h0:RSl (RI .u8) G v0 x0){y:(LI)×Int×Int}(hd:D.p0 x0 x1=some y):
  Calls prog 8 #[v0,(.int .u64 x1)] w (Res W G H (λG' Ho v=>∃r0:Value,∃c1:Nat,Ho=[ib c1 55 [r0,(iv y.2.1),(.int .u64 y.2.2)]]∧v=(pb c1)∧RSl (RI .u8) G' r0 y.1)):=by
 refine AB (args:=[v0,(.int .u64 x1)]) (N:=38) [.tmp 4] func8 Z Z (lb Z) Z λa f=> ?_
 unfold D.p0 at hd
 refine Af ?_
 refine Ac f Z λa f=>AG ?_
 refine Ab f Z λa f=>Ab f Z λa f=>Ai f Z Z Dl λa f=>Ab f Z λa f=>A6 underlying22 f Z Z h0 λa f=>l_o f (Dg (f.e Z) ⟨_,underlying3⟩ underlying26) λa f=>Ai f Z Z Az λa f=> ?_
 have aa:∀w,(Instr.build 55 #[(0,v0),(2,(.int .u64 (IntKind.u64.wrap ((IntKind.u64.wrap (x1*7919))+(IntKind.u64.wrap (x0.length:Int))))))]).run prog w= .ok (.agg #[v0,(iv 0),(.int .u64 (IntKind.u64.wrap ((IntKind.u64.wrap (x1*7919))+(IntKind.u64.wrap (x0.length:Int)))))]) w:=by intro w;simp[Instr.build,Instr.fill,h0.cells,Ca,B3,BJ,BQ,BE,B9]
 refine CC f Z Z aa λa f=>BB (cs:=[v0,(iv 0),(.int .u64 (IntKind.u64.wrap ((IntKind.u64.wrap (x1*7919))+(IntKind.u64.wrap (x0.length:Int)))))]) m f Z Z Z λab w a m f=>Ac f Z λa f=>Aa (Ag (Af ?_))
 refine Ac f Z λa f=>Aa ?_
 have⟨ac,ad,hd⟩:=bind_some hd
 refine AN (λa w=>∃ae:Int,ae=ac∧∃(af:GH),GLe G af∧Fr a 38 [(5,(pb ab))]∧Mem W af w (ib ab 55 [v0,(iv 0),(.int .u64 ae)]::H)) ?_ ?_
 ·refine Ak ?_
  refine AI (λag a w=>∃ah:Int,∃ai:Int,(ah,ai)=ag∧∃(aj:GH),GLe G aj∧Fr a 38 [(0,v0),(5,(pb ab)),(6,(iv ah))]∧Mem W aj w (ib ab 55 [v0,(iv 0),(.int .u64 ai)]::H)) ad ⟨_,_,Z,_,gr,f.k Z,m⟩ ?_
  clear ad f m
  rintro ag ak al am a w ⟨ah,ai,rfl,aj,an,f,m⟩
  have h0:=rd1 an h0
  refine Ag (Af ?_)
  refine Ab f Z λa f=>Ab f Z λa f=>A6 underlying22 f Z Z h0 λa f=>Ai f Z Z AP λa f=>Aa ?_
  rcases Ae al with⟨ao,al⟩|⟨ao,al⟩
  ·refine Al f Z ao ?_
   refine Am ?_
   refine Ag (Ak ?_)
   refine A9 15 AJ (by kernel_rfl) m ?_
   refine Ah 0 15 Z f Z λa f=>Ah 1 15 Z f Z λa f=>q_p 2 15 Z f (λ_=>Be (f.e Z)) λa f=>Cr 3 15 underlying55 Z sizeOf26 Z f Z λa f=>B7 4 15 0 Pl26 Z Z Z f Z λa f=>q_p 5 15 Z f (λ_=>AL (f.e Z) (f.e Z) Dl) λa f=>Ah 6 15 Z f Z λa f=>Ah 7 15 Z f Z λa f=> ?_
   have⟨ap,aq,al⟩:=bind_some al
   refine Bl 8 15 T22 h0 aq Z f Z Z λar au a av aw f=> ?_
   subst aw
   refine Bm 9 15 Pl5 av Z f Z λa f=>q_p 10 15 Z f (λ_=>Dg (f.e Z) ⟨_,underlying5⟩ underlying26) λa f=>q_p 11 15 Z f (λ_=>AL (f.e Z) (f.e Z) Az) λa f=>q_p 12 15 Z f (λ_=>AL (f.e Z) (f.e Z) Az) λa f=>q_p 13 15 Z f (λ_=>Be (f.e Z)) λa f=>Cr 14 15 underlying55 Z sizeOf26 Z f Z λa f=>AZ λax w ay m=>A7 0 2 (ds:=[(.int .u64 (IntKind.u64.wrap ((IntKind.u64.wrap ((IntKind.u64.wrap (ai*1099511628211))+(IntKind.u64.wrap ap)))+3)))]) m sizeOf26 f Z Z Z (Ao Z AF) Z (lb Z) Z λw m=>Aa (Ap ?_)
   refine Ab f Z λa f=>Ai f Z Z Az λa f=>Ac f Z λa f=>Aa ?_
   obtain rfl:=sj al
   exact⟨_,Z,_,_,Z,_,(gt an ay),f.k Z,m⟩
  ·refine Aj f Z ao ?_
   refine AE Z ?_
   obtain rfl:=sj al
   obtain rfl:=am _ rfl
   exact⟨_,Z,_,an,f.k Z,m⟩
 ·rintro a w ⟨ae,rfl,af,az,f,m⟩
  have h0:=rd1 az h0
  refine Af ?_
  refine Ab f Z λa f=>Ac f Z λa f=>Aa ?_
  refine Ax ?_
  obtain rfl:=sj hd
  exact⟨[(pb ab)],f.g Z,f.d,_,[ib ab 55 [v0,(iv 0),(.int .u64 ae)]],az,m,_,_,Z,Z,h0⟩
theorem Wk.q {aa:Value}{b0:Nat}{ab:LI}{ac ad x1:Int}(m:Mem W G w (ib b0 55 [aa,(iv ac),(.int .u64 ad)]::H))(ae:RSl (RI .u8) G aa ab){y:Int×(LI)×Int×Int}(hd:D.q ab ac ad x1=some y):
  Calls prog 45 #[(pb b0),(iv x1)] w (Res W G H (λG' Ho v=>∃r0:Value,Ho=[ib b0 55 [r0,(iv y.2.2.1),(.int .u64 y.2.2.2)]]∧v=(iv y.1)∧RSl (RI .u8) G' r0 y.2.1)):=by
 refine AB (args:=[(pb b0),(iv x1)]) (N:=56) [.tmp 4] func45 Z Z (lb Z) Z λa f=> ?_
 unfold D.q at hd
 refine Af ?_
 refine Ac f Z λa f=>AG ?_
 refine Ab f Z λa f=>Ab f Z λa f=>l_o f (Be (f.e Z)) λa f=>Bp underlying55 Z sizeOf26 f Z λa f=>AM 0 2 m Pl26 f Z Z Z Z λa f=>Ai f Z Z Dl λa f=>Ai f Z Z Az λa f=>l_o f (Be (f.e Z)) λa f=>Bp underlying55 Z sizeOf26 f Z λa f=>A7 0 2 (ds:=[(.int .u64 (IntKind.u64.wrap ((IntKind.u64.wrap (ad*6364136223846793005))+1442695040888963407)))]) m sizeOf26 f Z Z Z (Ao Z AF) Z (lb Z) Z λw m=>AG ?_
 refine Ab f Z λa f=>l_o f (Be (f.e Z)) λa f=>Bp underlying55 Z sizeOf26 f Z λa f=>AM 0 2 m Pl26 f Z Z Z Z λa f=>l_o f (r_shr (f.e Z) (f.e Z) (by decide)) λa f=>Ai f Z Z b_and λa f=>l_o f (Dg (f.e Z) ⟨_,underlying26⟩ underlying2) λa f=>Ac f Z λa f=>Aa (Ag (Ag ?_))
 refine A9 10 AJ (by kernel_rfl) m ?_
 refine Ah 0 10 Z f Z λa f=>q_p 1 10 Z f (λ_=>Be (f.e Z)) λa f=>Cr 2 10 underlying55 Z sizeOf3 Z f Z λa f=>B7 3 10 0 Pl3 Z Z Z f Z λa f=>Ah 4 10 Z f Z λa f=>q_p 5 10 Z f (λ_=>Be (f.e Z)) λa f=>Cr 6 10 underlying55 Z sizeOf22 Z f Z λa f=>B7 7 10 0 Pl22 Z Z Z f Z λa f=>q_len (i:=8) 10 underlying22 ae Z (by kernel_rfl) Z f Z Z Z λa f=>q_p 9 10 Z f (λ_=>AL (f.e Z) (f.e Z) AP) λa f=>AZ λaf w ag m=> ?_
 have ae:=rd1 ag ae
 refine Aa ?_
 rcases Ae hd with⟨ah,hd⟩|⟨ah,hd⟩
 ·refine Al f Z ah ?_
  refine Ag ?_
  refine A9 14 AJ (by kernel_rfl) m ?_
  refine Ah 0 14 Z f Z λa f=>Ah 1 14 Z f Z λa f=>q_p 2 14 Z f (λ_=>Be (f.e Z)) λa f=>Cr 3 14 underlying55 Z sizeOf22 Z f Z λa f=>B7 4 14 0 Pl22 Z Z Z f Z λa f=>Ah 5 14 Z f Z λa f=>q_p 6 14 Z f (λ_=>Be (f.e Z)) λa f=>Cr 7 14 underlying55 Z sizeOf3 Z f Z λa f=>B7 8 14 0 Pl3 Z Z Z f Z λa f=> ?_
  have⟨ai,aj,hd⟩:=bind_some hd
  refine Bl 9 14 T22 ae aj Z f Z Z λak al a am an f=> ?_
  subst an
  refine Bm 10 14 Pl5 am Z f Z λa f=>q_p 11 14 Z f (λ_=>Dg (f.e Z) ⟨_,underlying5⟩ underlying2) λa f=>q_p 12 14 Z f (λ_=>AL (f.e Z) (f.e Z) Az) λa f=>q_p 13 14 Z f (λ_=>Cc (f.e Z)) λa f=>AZ λao w ap m=> ?_
  have ae:=rd1 ap ae
  refine Aa (Ap ?_)
  refine Ab f Z λa f=>Ab f Z λa f=>l_o f (Be (f.e Z)) λa f=>Bp underlying55 Z sizeOf3 f Z λa f=>AM 0 1 m Pl3 f Z Z Z Z λa f=>Ai f Z Z Az λa f=>l_o f (Be (f.e Z)) λa f=>Bp underlying55 Z sizeOf3 f Z λa f=>A7 0 1 (ds:=[(iv (i64.wrap (ac+1)))]) m sizeOf3 f Z Z Z (Ao Z AF) Z (lb Z) Z λw m=>AG ?_
  refine Ab f Z λa f=>Ab f Z λa f=> ?_
  obtain⟨aq,hd⟩:=DA hd
  refine Ai f Z Z (b_rem aq) λa f=>Ac f Z λa f=>Aa ?_
  refine Ax ?_
  obtain rfl:=sj hd
  exact⟨[(iv (Int.tmod (i64.wrap ((i64.wrap (iand .u64 (Bx .u64 (IntKind.u64.wrap ((IntKind.u64.wrap (ad*6364136223846793005))+1442695040888963407)) 33) 16777215))+(i64.wrap ai))) x1))],f.g Z,f.d,_,[ib b0 55 [aa,(iv (i64.wrap (ac+1))),(.int .u64 (IntKind.u64.wrap ((IntKind.u64.wrap (ad*6364136223846793005))+1442695040888963407)))]],(gt ag ap),m,_,Z,Z,ae⟩
 ·refine Aj f Z ah ?_
  refine Am ?_
  refine Af ?_
  refine Ab f Z λa f=>Ab f Z λa f=> ?_
  obtain⟨ar,hd⟩:=DA hd
  refine Ai f Z Z (b_rem ar) λa f=>Ac f Z λa f=>Aa ?_
  refine Ax ?_
  obtain rfl:=sj hd
  exact⟨[(iv (Int.tmod (i64.wrap (iand .u64 (Bx .u64 (IntKind.u64.wrap ((IntKind.u64.wrap (ad*6364136223846793005))+1442695040888963407)) 33) 16777215)) x1))],f.g Z,f.d,_,[ib b0 55 [aa,(iv ac),(.int .u64 (IntKind.u64.wrap ((IntKind.u64.wrap (ad*6364136223846793005))+1442695040888963407)))]],ag,m,_,Z,Z,ae⟩
theorem Wk.c {x0 x1 x2:Int}(m:Mem W G w (H)){y:Bool}(hd:D.c x0 x1 x2=some y):
  Calls prog 105 #[(iv x0),(iv x1),(iv x2)] w (Res W G H (λ_ Ho v=>Ho=[]∧v=(.bool y))):=by
 refine AB (args:=[(iv x0),(iv x1),(iv x2)]) (N:=15) [.tmp 6] func105 Z Z (lb Z) Z λa f=> ?_
 unfold D.c at hd
 refine Af ?_
 refine Ac f Z λa f=>AG ?_
 refine Ab f Z λa f=>Ab f Z λa f=>Ai f Z Z Ci λa f=>Ab f Z λa f=> ?_
 refine Bo 4 (λa w=>∃aa,GLe G aa∧Mem W aa w (H)∧Fr a 15 [(0,(iv x0)),(1,(iv x1)),(2,(iv x2)),(7,(iv x0)),(8,(iv x1)),(9,(.bool (decide (x1≤x0)))),(10,(.bool (decide (x1≤x0)))),(14,(.bool ((decide (x1≤x0))&&(decide (x0≤x2)))))]) ?_ ?_
 ·rcases Bool.eq_false_or_eq_true (decide (x1≤x0)) with ab|ab
  ·refine Ar f ab ?_
   refine Ab f Z λa f=>Ar f ab ?_
   refine Ab f Z λa f=>Ar f ab ?_
   refine Ai f Z Z CY λa f=>l_o f (AT (f.e Z) ab (f.e Z)) λa f=> ?_
   exact⟨_,gr,m,f.weak ⟨Z,Z,Z,Z,Z,Z,Z,by rw[ab];rfl,trivial⟩⟩
  ·refine As f ab λa f=> ?_
   refine As f ab λa f=>As f ab λa f=>l_o f (AS (f.e Z) ab (f.e Z)) λa f=> ?_
   exact⟨_,gr,m,f.weak ⟨Z,Z,Z,Z,Z,Z,Z,by rw[ab];rfl,trivial⟩⟩
 ·rintro a w ⟨aa,ac,m,f⟩
  refine Ac f Z λa f=>Aa ?_
  refine Ax ?_
  obtain rfl:=sj hd
  exact⟨[(.bool ((decide (x1≤x0))&&(decide (x0≤x2))))],f.g Z,f.d,_,[],ac,m,Z,Z⟩
theorem Wk.s0 {x0:Int}(m:Mem W G w (H)){y:(LL)}(hd:D.s0 x0=some y):
  Calls prog 112 #[(iv x0)] w (Res W G H (λG' Ho v=>∃r0:Value,∃i0:Itm,Ho=[i0]∧v=(.agg #[r0])∧Ow R1 31 G' i0 r0 y)):=by
 refine AB (args:=[(iv x0)]) (N:=18) [.cell 2 29] func112 Z Z (lb Z) Z λa f=> ?_
 unfold D.s0 at hd
 refine Af ?_
 refine BP (cs:=[sn]) zeroValue29 m f Z Z λaa w a m f=>AG ?_
 have ab:∀w,(Instr.build 29 #[]).run prog w= .ok (.agg #[sn]) w:=by intro w;simp[Instr.build,Instr.fill,Ca,B3,BJ,BQ,BE,B9]
 refine CC f Z Z ab λa f=>BP (cs:=[sn]) zeroValue29 m f Z Z λac w a m f=>A7 0 0 (ds:=[sn]) m sizeOf29 f Z Z Z (Ao Z AF) Z (lb Z) Z λw m=>Aa (Ag (Af ?_))
 refine Ac f Z λa f=>Aa ?_
 obtain⟨ad,m,ae⟩:=Ow.nil R1 31 m
 have⟨af,ag,hd⟩:=bind_some hd
 refine AN (λa w=>∃ah:LL,ah=af∧∃(ai:GH) (aj:Value) (ak:Itm),GLe G ai∧Fr a 18 [(2,(pb aa)),(3,(pb ac))]∧Mem W ai w (ib aa 29 [sn]::ib ac 29 [aj]::ak::H)∧Ow R1 31 ai ak aj ah) ?_ ?_
 ·refine Ak ?_
  have m:=m.fr 1
  have m:=m.fr 2
  refine AI (λal a w=>∃am:Int,∃an:LL,(am,an)=al∧∃(ao:GH) (ap:Value) (aq:Itm),GLe G ao∧Fr a 18 [(0,(iv x0)),(2,(pb aa)),(3,(pb ac)),(4,(iv am))]∧Mem W ao w (ib aa 29 [sn]::ib ac 29 [ap]::aq::H)∧Ow R1 31 ao aq ap an) ag ⟨_,_,Z,_,sn,ad,gr,f.k Z,m,ae⟩ ?_
  clear ag f m
  rintro al ar au av a w ⟨am,an,rfl,ao,ap,aq,aw,f,m,ax⟩
  refine Ag (Af ?_)
  refine Ab f Z λa f=>Ab f Z λa f=>Ai f Z Z AP λa f=>Aa ?_
  rcases Ae au with⟨ay,au⟩|⟨ay,au⟩
  ·refine Al f Z ay ?_
   refine Am ?_
   refine Ag (Ak (Ap ?_))
   refine Bp underlying29 Z sizeOf27 f Z λa f=>AM 1 0 m BL f Z Z Z Z λa f=>By (R:=R0) (xs:=([]:LI)) (RI.one _) m T31 f Z Z Z (by decide) (All2.nil _) λaz aA w a m aB f=> ?_
   obtain⟨aC,aD,m,aE⟩:=Ow.stamp (RI.mono _) aB m
   have ax:=Ow.mono (RSl.mono (RI.mono _)) aD ax
   refine By (R:=R1) (xs:=([([]:LI)]:LL)) (RSl.one _) m T27 f Z Z Z (by decide) (All2.cons aE (All2.nil _)) λaF aG w a m aH f=> ?_
   have⟨aI,aJ,au⟩:=bind_some au
   refine BR (RSl.one _) 3 m ax Z T27 Z (by decide) f Z Z Z (Ow.src (j:=0) aH m Z) aJ λaK aL w a m aM f=>Bp underlying29 Z sizeOf27 f Z λa f=>A7 2 0 (ds:=[aL]) m sizeOf27 f Z Z (Ow.cells 3 m aM Z) (Ao (Ow.one1 3 m aM Z) AF) Z (lb Z) Z λw m=>Aa (Ap ?_)
   refine Ab f Z λa f=>Ai f Z Z Az λa f=>Ac f Z λa f=>Aa ?_
   have m:=m.fr 3
   have m:=m.fr 3
   have m:Mem W aC w (ib aa 29 [sn]::ib ac 29 [aL]::aK::aF::H):=m.fr 3
   have m:=m.eraseAt 3
   obtain rfl:=sj au
   exact⟨_,Z,_,_,Z,_,aL,aK,(gt aw aD),f.k Z,m,aM⟩
  ·refine Aj f Z ay ?_
   refine AE Z ?_
   obtain rfl:=sj au
   obtain rfl:=av _ rfl
   exact⟨_,Z,_,ap,aq,aw,f.k Z,m,ax⟩
 ·rintro a w ⟨ah,rfl,ai,aj,ak,aN,f,m,aO⟩
  refine Af ?_
  refine AW 1 0 (ds:=[aj]) m Bv f Z Z Z Z Z λa f=>A7 0 0 (ds:=[aj]) m sizeOf29 f Z Z Z (Ao (Ow.one1 2 m aO Z) AF) Z (lb Z) Z λw m=>Aa ?_
  refine Ax ?_
  have aP:=DU (P:=prog) 0 m Bv f (s:=2) rfl rfl rfl
  have m:=m.fr 2
  have m:=m.eraseAt 2
  have m:=m.eraseAt 1
  obtain rfl:=sj hd
  exact⟨[(.agg #[aj])],⟨aP,trivial⟩,f.d,_,[ak],aN,m,_,_,Z,Z,aO⟩
theorem Wk.x {v0:Value}{x0:LI}{x1:Int}(m:Mem W G w (H))(h0:R1 G v0 x0){y:Bool}(hd:D.x x0 x1=some y):
  Calls prog 113 #[v0,(iv x1)] w (Res W G H (λ_ Ho v=>Ho=[]∧v=(.bool y))):=by
 refine AB (args:=[v0,(iv x1)]) (N:=40) [.tmp 4] func113 Z Z (lb Z) Z λa f=> ?_
 unfold D.x at hd
 refine Af ?_
 refine Ac f Z λa f=>Aa (Ag (Af ?_))
 refine Ab f Z λa f=>A6 underlying31 f Z Z h0 λa f=>Ab f Z λa f=>Ai f Z Z Cx λa f=>Aa ?_
 rcases Ae hd with⟨aa,hd⟩|⟨aa,hd⟩
 ·refine Al f Z aa ?_
  refine Af ?_
  refine Ac f Z λa f=>Aa ?_
  refine Ax ?_
  obtain rfl:=sj hd
  exact⟨[(.bool false)],f.g Z,f.d,_,[],gr,m,Z,Z⟩
 ·refine Aj f Z aa ?_
  refine Am ?_
  refine Ag (Af ?_)
  refine Ac f Z λa f=>Aa ?_
  have⟨ab,ac,hd⟩:=bind_some hd
  refine AN (λa w=>∃q_150':Unit,ab= .inl q_150'∧∃(ad:GH),GLe G ad∧Fr a 40 []∧Mem W ad w (H)) ?_ ?_
  ·refine Ak ?_
   refine AI (λae a w=>∃af:Int,af=ae∧∃(ag:GH),GLe G ag∧Fr a 40 [(0,v0),(1,(iv x1)),(5,(iv af))]∧Mem W ag w (H)) ac ⟨_,Z,_,gr,f.k Z,m⟩ ?_
   clear ac f m
   rintro ae ah ai aj a w ⟨af,rfl,ag,ak,f,m⟩
   have h0:=rd1 ak h0
   refine Ag (Af ?_)
   refine Ab f Z λa f=>Ab f Z λa f=>A6 underlying31 f Z Z h0 λa f=>Ai f Z Z AP λa f=>Aa ?_
   rcases Ae ai with⟨al,ai⟩|⟨al,ai⟩
   ·refine Al f Z al ?_
    refine Am ?_
    refine Ag (Ak (Ag ?_))
    refine A9 24 AJ (by kernel_rfl) m ?_
    refine Ah 0 24 Z f Z λa f=>Ah 1 24 Z f Z λa f=> ?_
    have⟨am,an,ai⟩:=bind_some ai
    refine Bl 2 24 T31 h0 an Z f Z Z λao ap a aq ar f=> ?_
    subst ar
    refine Bm 3 24 Pl2 aq Z f Z λa f=>Ah 4 24 Z f Z λa f=>q_p 5 24 Z f (λ_=>AL (f.e Z) (f.e Z) A3) λa f=> ?_
    have⟨au,av,ai⟩:=bind_some ai
    refine B8 (i:=6) 24 Z (by kernel_rfl) Z f Z Z Z call105 (λ_ _ w aw m=>Wk.c m av) λa f=>q_p 7 24 Z f (λ_=>Bn (f.e Z)) λa f=>Ah 8 24 Z f Z λa f=> ?_
    have⟨ax,ay,ai⟩:=bind_some ai
    refine Cf (fuel':=0) (listed':= #[true,true,true,true,true,true,true,true,true,true,true,true,true,true,true,true,true,true,true,true,true,true,true,true]) (λa=>Fr a 40 [(0,v0),(1,(iv x1)),(5,(iv af)),(13,(.bool (decide (af<(x0.length:Int))))),(16,v0),(17,(iv af)),(18,ao),(19,(iv am)),(20,(iv x1)),(21,(iv (i64.wrap (x1-1)))),(22,(.bool au)),(23,(.bool (!au))),(24,(.bool (!au))),(39,(.bool ax))]) ?_ ?_
    ·intro a f
     refine AZ λaz w aA m=>Aa ?_
     rcases Ae ai with⟨aB,ai⟩|⟨aB,ai⟩
     ·refine Al f Z aB ?_
      refine Af ?_
      refine Ac f Z λa f=>Aa ?_
      refine Ax ?_
      obtain rfl:=sj ai
      obtain rfl:=aj _ rfl
      obtain rfl:=sj hd
      exact⟨[(.bool false)],f.g Z,f.d,_,[],(gt ak aA),m,Z,Z⟩
     ·refine Aj f Z aB ?_
      refine Am ?_
      refine Ap ?_
      refine Ab f Z λa f=>Ai f Z Z Az λa f=>Ac f Z λa f=>Aa ?_
      obtain rfl:=sj ai
      exact⟨_,Z,_,Z,_,(gt ak aA),f.k Z,m⟩
    ·intro aC
     rcases Ae ay with⟨aD,ay⟩|⟨aD,ay⟩
     ·refine Aq 9 24 Z f aD λa f=> ?_
      refine Aq 10 24 Z f aD λa f=>Aq 11 24 Z f aD λa f=>q_nu 12 24 Z f λa f=>q_nu 13 24 Z f λa f=>q_nu 14 24 Z f λa f=>q_nu 15 24 Z f λa f=>q_nu 16 24 Z f λa f=>q_nu 17 24 Z f λa f=>q_nu 18 24 Z f λa f=>q_nu 19 24 Z f λa f=>q_nu 20 24 Z f λa f=>q_nu 21 24 Z f λa f=>Aq 22 24 Z f aD λa f=>q_p 23 24 Z f (λ_=>AT (f.e Z) aD (f.e Z)) λa f=> ?_
      obtain rfl:=sj ay
      exact aC _ (f.k Z)
     ·refine Ah (hw:=wo f aD) 9 24 Z f Z λa f=> ?_
      refine q_p (hw:=wo f aD) 10 24 Z f (λ_=>AL (f.e Z) (f.e Z) Cx) λa f=>Ah (hw:=wo f aD) 11 24 Z f Z λa f=> ?_
      have⟨aE,aF,ay⟩:=bind_some ay
      refine Cf (fuel':=1) (listed':= #[true,true,true,true,true,true,true,true,true,true,true,true,true,true,true,true,true,true,true,true,true,true,true,false]) (λa=>Fr a 40 [(0,v0),(1,(iv x1)),(5,(iv af)),(13,(.bool (decide (af<(x0.length:Int))))),(16,v0),(17,(iv af)),(18,ao),(19,(iv am)),(20,(iv x1)),(21,(iv (i64.wrap (x1-1)))),(22,(.bool au)),(23,(.bool (!au))),(24,(.bool (!au))),(25,(iv af)),(26,(.bool (decide ((0:Int)<af)))),(27,(.bool (decide ((0:Int)<af)))),(38,(.bool aE))]) ?_ ?_
      ·intro a f
       refine q_p 23 24 Z f (λ_=>AS (f.e Z) aD (f.e Z)) λa f=> ?_
       obtain rfl:=sj ay
       exact aC _ (f.k Z)
      ·intro aG
       rcases Ae aF with⟨aH,aF⟩|⟨aH,aF⟩
       ·refine Ah (hw:=wo f aH) 12 24 Z f Z λa f=> ?_
        refine Ah (hw:=wo f aH) 13 24 Z f Z λa f=> ?_
        have⟨aI,aJ,aF⟩:=bind_some aF
        refine Bl (hw:=wo f aH) 14 24 T31 h0 aJ Z f Z Z λaK aL a aM aN f=> ?_
        subst aN
        refine Bm (hw:=wo f aH) 15 24 Pl2 aM Z f Z λa f=>Ah (hw:=wo f aH) 16 24 Z f Z λa f=>Ah (hw:=wo f aH) 17 24 Z f Z λa f=>q_p (hw:=wo f aH) 18 24 Z f (λ_=>AL (f.e Z) (f.e Z) A3) λa f=> ?_
        have⟨aO,aP,aF⟩:=bind_some aF
        refine Bl (hw:=wo f aH) 19 24 T31 h0 aP Z f Z Z λaQ aR a aS aT f=> ?_
        subst aT
        refine Bm (hw:=wo f aH) 20 24 Pl2 aS Z f Z λa f=>q_p (hw:=wo f aH) 21 24 Z f (λ_=>AL (f.e Z) (f.e Z) CY) λa f=>q_p (hw:=wo f aD) 22 24 Z f (λ_=>AT (f.e Z) aH (f.e Z)) λa f=> ?_
        obtain rfl:=sj aF
        exact aG _ (f.k Z)
       ·refine Aq 12 24 Z f aH λa f=> ?_
        refine Aq 13 24 Z f aH λa f=>Aq 14 24 Z f aH λa f=>Aq 15 24 Z f aH λa f=>Aq 16 24 Z f aH λa f=>Aq 17 24 Z f aH λa f=>Aq 18 24 Z f aH λa f=>Aq 19 24 Z f aH λa f=>Aq 20 24 Z f aH λa f=>Aq 21 24 Z f aH λa f=>q_p (hw:=wo f aD) 22 24 Z f (λ_=>AS (f.e Z) aH (f.e Z)) λa f=> ?_
        obtain rfl:=sj aF
        exact aG _ (f.k Z)
   ·refine Aj f Z al ?_
    refine AE Z ?_
    obtain rfl:=sj ai
    obtain rfl:=aj _ rfl
    exact⟨_,Z,_,ak,f.weak trivial,m⟩
  ·rintro a w ⟨_,rfl,ad,aU,f,m⟩
   refine Af ?_
   refine Ac f Z λa f=>Aa ?_
   refine Ax ?_
   obtain rfl:=sj hd
   exact⟨[(.bool true)],f.g Z,f.d,_,[],aU,m,Z,Z⟩
theorem Wk.a0 {v0:Value}{x0:LI}(m:Mem W G w (H))(h0:R1 G v0 x0){y:(LI)}(hd:D.a0 x0=some y):
  Calls prog 117 #[v0] w (Res W G H (λG' Ho v=>∃r0:Value,∃i0:Itm,Ho=[i0]∧r0=v∧Ow R0 2 G' i0 r0 y)):=by
 refine AB (args:=[v0]) (N:=6) [.tmp 2] func117 Z Z (lb Z) Z λa f=> ?_
 unfold D.a0 at hd
 refine Af ?_
 refine Ac f Z λa f=>AG ?_
 refine By (R:=R0) (xs:=([]:LI)) (RI.one _) m T31 f Z Z Z (by decide) (All2.nil _) λaa ab w a m ac f=>Ab f Z λa f=> ?_
 have⟨ad,ae,hd⟩:=bind_some hd
 refine BR (RI.one _) 0 m ac Z T31 Z (by decide) f Z Z Z (h0.src m) ae λaf ag w a m ah f=>Ac f Z λa f=>Aa ?_
 refine Ax ?_
 obtain rfl:=sj hd
 exact⟨[ag],f.g Z,f.d,_,[af],gr,m,_,_,Z,Z,ah⟩
theorem Wk.O {v0:Value}{x0:LI}{x1:Int}(m:Mem W G w (H))(h0:R1 G v0 x0){y:(LI)}(hd:D.O x0 x1=some y):
  Calls prog 90 #[v0,(iv x1)] w (Res W G H (λG' Ho v=>∃r0:Value,Ho=[]∧r0=v∧R1 G' r0 y)):=by
 refine AB (args:=[v0,(iv x1)]) (N:=46) [.tmp 4] func90 Z Z (lb Z) Z λa f=> ?_
 unfold D.O at hd
 refine Af ?_
 refine Ac f Z λa f=>AG ?_
 refine Ac f Z λa f=>Aa (Ag ?_)
 have⟨aa,ab,hd⟩:=bind_some hd
 refine AN (λa w=>∃ac:Int,ac=aa∧∃(ad:GH),GLe G ad∧Fr a 46 [(0,v0),(1,(iv x1)),(5,(iv ac))]∧Mem W ad w (H)) ?_ ?_
 ·refine Ak ?_
  refine AI (λae a w=>∃af:Int,af=ae∧∃(ag:GH),GLe G ag∧Fr a 46 [(0,v0),(1,(iv x1)),(5,(iv af))]∧Mem W ag w (H)) ab ⟨_,Z,_,gr,f.k Z,m⟩ ?_
  clear ab f m
  rintro ae ah ai aj a w ⟨af,rfl,ag,ak,f,m⟩
  have h0:=rd1 ak h0
  refine Ag (Af ?_)
  refine Ab f Z λa f=>Ab f Z λa f=>A6 underlying31 f Z Z h0 λa f=>Ai f Z Z AP λa f=>Ab f Z λa f=> ?_
  have⟨al,am,ai⟩:=bind_some ai
  refine Bo 7 (λa w=>∃an,GLe ag an∧Mem W an w (H)∧Fr a 46 [(0,v0),(1,(iv x1)),(5,(iv af)),(7,(iv af)),(8,v0),(9,(iv (x0.length:Int))),(10,(.bool (decide (af<(x0.length:Int))))),(11,(.bool (decide (af<(x0.length:Int))))),(18,(.bool al))]) ?_ ?_
  ·rcases Ae am with⟨ao,am⟩|⟨ao,am⟩
   ·refine Ar f ao ?_
    refine Ab f Z λa f=>Ar f ao ?_
    refine Ab f Z λa f=>Ar f ao ?_
    have⟨ap,aq,am⟩:=bind_some am
    refine Bi T31 f Z Z Z h0 aq λar au a av aw f=> ?_
    subst aw
    refine Ar f ao ?_
    refine AH m Pl2 f Z Z av λa f=>Ar f ao ?_
    refine Ab f Z λa f=>Ar f ao ?_
    refine Ai f Z Z AP λa f=>l_o f (AT (f.e Z) ao (f.e Z)) λa f=> ?_
    obtain rfl:=sj am
    exact⟨_,gr,m,f.k Z⟩
   ·refine As f ao λa f=> ?_
    refine As f ao λa f=>As f ao λa f=>As f ao λa f=>As f ao λa f=>As f ao λa f=>l_o f (AS (f.e Z) ao (f.e Z)) λa f=> ?_
    obtain rfl:=sj am
    exact⟨_,gr,m,f.k Z⟩
  ·rintro a w ⟨an,ax,m,f⟩
   refine Aa ?_
   rcases Ae ai with⟨ay,ai⟩|⟨ay,ai⟩
   ·refine Al f Z ay ?_
    refine Am ?_
    refine Ak (Ap ?_)
    refine Ab f Z λa f=>Ai f Z Z Az λa f=>Ac f Z λa f=>Aa ?_
    obtain rfl:=sj ai
    exact⟨_,Z,_,Z,_,(gt ak ax),f.k Z,m⟩
   ·refine Aj f Z ay ?_
    refine AE Z ?_
    obtain rfl:=sj ai
    obtain rfl:=aj _ rfl
    exact⟨_,Z,_,(gt ak ax),f.k Z,m⟩
 ·rintro a w ⟨ac,rfl,ad,az,f,m⟩
  have h0:=rd1 az h0
  refine Ag (Af ?_)
  refine Ab f Z λa f=>Ab f Z λa f=>A6 underlying31 f Z Z h0 λa f=>Ai f Z Z AP λa f=>Ab f Z λa f=> ?_
  have⟨aA,aB,hd⟩:=bind_some hd
  refine Bo 7 (λa w=>∃aC,GLe ad aC∧Mem W aC w (H)∧Fr a 46 [(0,v0),(1,(iv x1)),(5,(iv ac)),(21,(iv ac)),(22,v0),(23,(iv (x0.length:Int))),(24,(.bool (decide (ac<(x0.length:Int))))),(25,(.bool (decide (ac<(x0.length:Int))))),(32,(.bool aA))]) ?_ ?_
  ·rcases Ae aB with⟨aD,aB⟩|⟨aD,aB⟩
   ·refine Ar f aD ?_
    refine Ab f Z λa f=>Ar f aD ?_
    refine Ab f Z λa f=>Ar f aD ?_
    have⟨aE,aF,aB⟩:=bind_some aB
    refine Bi T31 f Z Z Z h0 aF λaG aH a aI aJ f=> ?_
    subst aJ
    refine Ar f aD ?_
    refine AH m Pl2 f Z Z aI λa f=>Ar f aD ?_
    refine Ab f Z λa f=>Ar f aD ?_
    refine Ai f Z Z BZ λa f=>l_o f (AT (f.e Z) aD (f.e Z)) λa f=> ?_
    obtain rfl:=sj aB
    exact⟨_,gr,m,f.k Z⟩
   ·refine As f aD λa f=> ?_
    refine As f aD λa f=>As f aD λa f=>As f aD λa f=>As f aD λa f=>As f aD λa f=>l_o f (AS (f.e Z) aD (f.e Z)) λa f=> ?_
    obtain rfl:=sj aB
    exact⟨_,gr,m,f.k Z⟩
  ·rintro a w ⟨aC,aK,m,f⟩
   have h0:=rd1 aK h0
   refine Aa ?_
   rcases Ae hd with⟨aL,hd⟩|⟨aL,hd⟩
   ·refine Al f Z aL ?_
    refine Af ?_
    refine Ab f Z λa f=>Ac f Z λa f=>Aa ?_
    refine Ax ?_
    obtain rfl:=sj hd
    exact⟨[v0],f.g Z,f.d,_,[],(gt az aK),m,_,Z,Z,h0⟩
   ·refine Aj f Z aL ?_
    refine Am ?_
    refine Af ?_
    refine Ab f Z λa f=>Ab f Z λa f=> ?_
    have⟨aM,aN,hd⟩:=bind_some hd
    refine EO T31 f Z Z h0 (.inl ⟨Z,Z⟩) (.inr ⟨_,_,Z,Z⟩) aN λaO a aP f=> ?_
    have⟨aQ,aR,hd⟩:=bind_some hd
    refine A5 f Z call117 (Wk.a0 m aP aR) λaS aT aU w aV m aW a f=> ?_
    obtain⟨aX,aY,rfl,rfl,aZ⟩:=aW
    have h0:=rd1 aV h0
    refine Ab f Z λa f=>By (R:=R0) (xs:=([x1]:LI)) (RI.one _) m T31 f Z Z Z (by decide) (All2.cons Z (All2.nil _)) λa0 a1 w a m a2 f=> ?_
    have⟨a3,a4,hd⟩:=bind_some hd
    refine BR (RI.one _) 1 m aZ Z T31 Z (by decide) f Z Z Z (Ow.src (j:=0) a2 m Z) a4 λa5 a6 w a m a7 f=>Ac f Z λa f=>AG ?_
    refine Ab f Z λa f=>Ab f Z λa f=>Ab f Z λa f=> ?_
    have⟨a8,a9,hd⟩:=bind_some hd
    refine EO T31 f Z Z h0 (.inr ⟨_,_,Z,Z⟩) (.inl ⟨Z,Z⟩) a9 λba a bb f=> ?_
    have⟨bc,bd,hd⟩:=bind_some hd
    refine BR (RI.one _) 1 m a7 Z T31 Z (by decide) f Z Z Z (bb.src m) bd λbe bf w a m bg f=>Ac f Z λa f=>Aa ?_
    refine Ax ?_
    have m:=m.fr 1
    obtain⟨bh,bi,m,bj⟩:=Ow.stamp (RI.mono _) bg m
    have m:Mem W bh w H:=Mem.drop (H':=[a0]) m
    obtain rfl:=sj hd
    exact⟨[bf],f.g Z,f.d,_,[],(gt az (gt aK (gt aV bi))),m,_,Z,Z,bj⟩
theorem Wk.Y {aa:Value}{ab:Itm}{ac:LL}{x1 x2:Int}(m:Mem W G w (ab::H))(ad:Ow R1 31 G ab aa ac){y:(LL)}(hd:D.Y ac x1 x2=some y):
  Calls prog 114 #[(.agg #[aa]),(iv x1),(iv x2)] w (Res W G H (λG' Ho v=>∃i0:Itm,Ho=[i0]∧v=(.agg #[aa])∧Ow R1 31 G' i0 aa y)):=by
 refine AB (args:=[(.agg #[aa]),(iv x1),(iv x2)]) (N:=30) [.cell 6 29] func114 Z Z (lb Z) Z λa f=> ?_
 unfold D.Y at hd
 refine Af ?_
 refine BB (cs:=[aa]) m f Z Z Z λae w a m f=>BP (cs:=[sn]) zeroValue29 m f Z Z λaf w a m f=>Aa (Ag ?_)
 refine A9 11 AJ (by kernel_rfl) m ?_
 refine Cr 0 11 underlying29 Z sizeOf27 Z f Z λa f=>B7 1 11 1 BL Z Z Z f Z λa f=>Ah 2 11 Z f Z λa f=>Cr 3 11 underlying29 Z sizeOf27 Z f Z λa f=>B7 4 11 1 BL Z Z Z f Z λa f=>Ah 5 11 Z f Z λa f=> ?_
 have⟨ag,ah,hd⟩:=bind_some hd
 refine q_oa 6 11 2 m ad T27 ah Z f Z Z λai a aj f=>q_ol 7 11 2 ad Bj aj ah Z f Z λak a al f=>Ah 8 11 Z f Z λa f=>Di 9 Z λam w an m ao ao=> ?_
 have al:=rd1 an al
 have ad:=Ow.mono (RSl.mono (RI.mono _)) an ad
 have⟨ap,aq,hd⟩:=bind_some hd
 refine A5 f Z call90 (Wk.O m al aq) λar au av w aw m ax a f=> ?_
 obtain⟨ay,rfl,rfl,az⟩:=ax
 have ad:=Ow.mono (RSl.mono (RI.mono _)) aw ad
 refine Aa ?_
 refine ao au [] _ _ aw m ?_
 have⟨aA,aB,hd⟩:=bind_some hd
 refine q_oa 10 11 2 m ad T27 aB Z f Z Z λaC a aD f=>AZ λaE w aF m=> ?_
 have az:=rd1 aF az
 have ad:=Ow.mono (RSl.mono (RI.mono _)) aF ad
 refine CV 2 m ad Z sizeOf31 f Z Z aD aB az.cells az.one1 az λaG w m aH=>Aa (Ag ?_)
 refine A9 11 AJ (by kernel_rfl) m ?_
 refine Cr 0 11 underlying29 Z sizeOf27 Z f Z λa f=>B7 1 11 1 BL Z Z Z f Z λa f=>Ah 2 11 Z f Z λa f=>Cr 3 11 underlying29 Z sizeOf27 Z f Z λa f=>B7 4 11 1 BL Z Z Z f Z λa f=>Ah 5 11 Z f Z λa f=> ?_
 have⟨aI,aJ,hd⟩:=bind_some hd
 refine q_oa 6 11 2 m aH T27 aJ Z f Z Z λaK a aL f=>q_ol 7 11 2 aH Bj aL aJ Z f Z λaM a aN f=>Ah 8 11 Z f Z λa f=>Di 9 Z λaO w aP m aQ aQ=> ?_
 have aN:=rd1 aP aN
 have aH:=Ow.mono (RSl.mono (RI.mono _)) aP aH
 have⟨aR,aS,hd⟩:=bind_some hd
 refine A5 f Z call90 (Wk.O m aN aS) λaT aU aV w aW m aX a f=> ?_
 obtain⟨aY,rfl,rfl,aZ⟩:=aX
 have aH:=Ow.mono (RSl.mono (RI.mono _)) aW aH
 refine Aa ?_
 refine aQ aU [] _ _ aW m ?_
 have⟨a0,a1,hd⟩:=bind_some hd
 refine q_oa 10 11 2 m aH T27 a1 Z f Z Z λa2 a a3 f=>AZ λa4 w a5 m=> ?_
 have aZ:=rd1 a5 aZ
 have aH:=Ow.mono (RSl.mono (RI.mono _)) a5 aH
 refine CV 2 m aH Z sizeOf31 f Z Z a3 a1 aZ.cells aZ.one1 aZ λa6 w m a7=>AG ?_
 refine AW 1 0 (ds:=[aa]) m Bv f Z Z Z Z Z λa f=>A7 0 0 (ds:=[aa]) m sizeOf29 f Z Z Z (Ao (Ow.one1 2 m a7 Z) AF) Z (lb Z) Z λw m=>Aa ?_
 refine Ax ?_
 have a8:=DU (P:=prog) 0 m Bv f (s:=6) rfl rfl rfl
 have m:=m.fr 2
 have m:=m.eraseAt 2
 have m:=m.eraseAt 1
 obtain rfl:=sj hd
 exact⟨[(.agg #[aa])],⟨a8,trivial⟩,f.d,_,[a6],(gt an (gt aw (gt aF (gt aP (gt aW a5))))),m,_,Z,Z,a7⟩
theorem Wk.j0 {v1:Value}{x0:Int}{x1:LL}(m:Mem W G w (H))(h1:R2 G v1 x1){y:(LL)×Bool}(hd:D.j0 x0 x1=some y):
  Calls prog 46 #[(iv x0),v1] w (Res W G H (λG' Ho v=>∃r0:Value,∃i0:Itm,Ho=[i0]∧v= .tuple #[(.agg #[r0]),(.bool y.2)]∧Ow R1 31 G' i0 r0 y.1)):=by
 refine AB (args:=[(iv x0),v1]) (N:=56) [.cell 4 29,.tmp 5] func46 Z Z (lb Z) Z λa f=> ?_
 unfold D.j0 at hd
 refine Af ?_
 refine BP (cs:=[sn]) zeroValue29 m f Z Z λaa w a m f=>Ac f Z λa f=>Aa (Ag (Af ?_))
 refine Ab f Z λa f=> ?_
 have⟨ab,ac,hd⟩:=bind_some hd
 refine Bk f Z call105 (Wk.c m ac) λad w ae m a f=> ?_
 have h1:=rd2 ae h1
 refine l_o f (Bn (f.e Z)) λa f=>Ab f Z λa f=> ?_
 refine Bo 4 (λa w=>∃af,GLe ad af∧Mem W af w (ib aa 29 [sn]::H)∧Fr a 56 [(0,(iv x0)),(1,v1),(4,(pb aa)),(8,(iv x0)),(9,(.bool ab)),(10,(.bool (!ab))),(11,(.bool (!ab))),(15,(.bool ((!ab)||(decide ((120:Int)<(x1.length:Int))))))]) ?_ ?_
 ·rcases Bool.eq_false_or_eq_true (!ab) with ag|ag
  ·refine As f ag λa f=> ?_
   refine As f ag λa f=>As f ag λa f=>l_o f (AT (f.e Z) ag (f.e Z)) λa f=> ?_
   exact⟨_,gr,m,f.weak ⟨Z,Z,Z,Z,Z,Z,Z,by rw[ag];rfl,trivial⟩⟩
  ·refine Ar f ag ?_
   refine Ab f Z λa f=>Ar f ag ?_
   refine A6 underlying27 f Z Z h1 λa f=>Ar f ag ?_
   refine Ai f Z Z Cx λa f=>l_o f (AS (f.e Z) ag (f.e Z)) λa f=> ?_
   exact⟨_,gr,m,f.weak ⟨Z,Z,Z,Z,Z,Z,Z,by rw[ag];rfl,trivial⟩⟩
 ·rintro a w ⟨af,ah,m,f⟩
  have h1:=rd2 ah h1
  refine Aa ?_
  rcases Ae hd with⟨ai,hd⟩|⟨ai,hd⟩
  ·refine Al f Z ai ?_
   refine Af ?_
   have aj:∀w,(Instr.build 29 #[]).run prog w= .ok (.agg #[sn]) w:=by intro w;simp[Instr.build,Instr.fill,Ca,B3,BJ,BQ,BE,B9]
   refine CC f Z Z aj λa f=>A7 0 0 (ds:=[sn]) m sizeOf29 f Z Z Z (Ao Z AF) Z (lb Z) Z λw m=>Ac f Z λa f=>Aa ?_
   refine Ax ?_
   obtain⟨ak,m,al⟩:=Ow.nil R1 31 m
   have am:=DU (P:=prog) 1 m Bv f (s:=4) rfl rfl rfl
   have m:=m.eraseAt 1
   obtain rfl:=sj hd
   exact⟨[(.agg #[sn]),(.bool false)],⟨am,f.get _ _ Z,trivial⟩,f.d,_,[ak],(gt ae ah),m,_,_,Z,Z,al⟩
  ·refine Aj f Z ai ?_
   refine Am ?_
   refine Af ?_
   refine Ab f Z λa f=> ?_
   have⟨an,ao,hd⟩:=bind_some hd
   refine A5 f Z call112 (Wk.s0 m ao) λap aq ar w au m av a f=> ?_
   obtain⟨aw,ax,rfl,rfl,ay⟩:=av
   have h1:=rd2 au h1
   refine BP (cs:=[sn]) zeroValue29 m f Z Z λaz w a m f=>A7 0 0 (ds:=[aw]) m sizeOf29 f Z Z Z (Ao (Ow.one1 1 m ay Z) AF) Z (lb Z) Z λw m=>Aa (Ag (Af ?_))
   refine Ac f Z λa f=>Aa ?_
   have⟨aA,aB,hd⟩:=bind_some hd
   refine AN (λa w=>∃q_213':LL,aA= .inl q_213'∧∃aC:LL,aC=q_213'∧∃(aD:GH) (aE:Itm),GLe aq aD∧Fr a 56 [(4,(pb aa)),(6,(pb az))]∧Mem W aD w (ib aa 29 [sn]::ib az 29 [aw]::aE::H)∧Ow R1 31 aD aE aw aC) ?_ ?_
   ·refine Ak ?_
    have m:=m.fr 2
    refine AI (λaF a w=>∃aG:Int,∃aH:LL,(aG,aH)=aF∧∃(aI:GH) (aJ:Itm),GLe aq aI∧Fr a 56 [(0,(iv x0)),(1,v1),(4,(pb aa)),(6,(pb az)),(7,(iv aG))]∧Mem W aI w (ib aa 29 [sn]::ib az 29 [aw]::aJ::H)∧Ow R1 31 aI aJ aw aH) aB ⟨_,_,Z,_,ax,gr,f.k Z,m,ay⟩ ?_
    clear aB f m
    rintro aF aK aL aM a w ⟨aG,aH,rfl,aI,aJ,aN,f,m,aO⟩
    have h1:=rd2 aN h1
    refine Ag (Af ?_)
    refine Ab f Z λa f=>Ab f Z λa f=>A6 underlying27 f Z Z h1 λa f=>Ai f Z Z AP λa f=>Aa ?_
    rcases Ae aL with⟨aP,aL⟩|⟨aP,aL⟩
    ·refine Al f Z aP ?_
     refine Am ?_
     refine Ag (Ak (Ag (Af ?_)))
     refine Ab f Z λa f=>Ab f Z λa f=> ?_
     have⟨aQ,aR,aL⟩:=bind_some aL
     refine Bi T27 f Z Z Z h1 aR λaS aT a aU aV f=>AH m Bj f Z Z aU λa f=>A6 underlying31 f Z Z aV λa f=>Ai f Z Z Cy λa f=>Ab f Z λa f=> ?_
     have⟨aW,aX,aL⟩:=bind_some aL
     refine Bo 8 (λa w=>∃aY,GLe aI aY∧Mem W aY w (ib aa 29 [sn]::ib az 29 [aw]::aJ::H)∧Fr a 56 [(0,(iv x0)),(1,v1),(4,(pb aa)),(6,(pb az)),(7,(iv aG)),(22,(.bool (decide (aG<(x1.length:Int))))),(25,v1),(26,(iv aG)),(27,aS),(28,aT),(29,(iv (aQ.length:Int))),(30,(.bool ((aQ.length:Int) !=2))),(31,(.bool ((aQ.length:Int) !=2))),(39,(.bool aW))]) ?_ ?_
     ·rcases Ae aX with⟨aZ,aX⟩|⟨aZ,aX⟩
      ·refine As f aZ λa f=> ?_
       refine As f aZ λa f=>As f aZ λa f=>As f aZ λa f=>As f aZ λa f=>As f aZ λa f=>As f aZ λa f=>l_o f (AT (f.e Z) aZ (f.e Z)) λa f=> ?_
       obtain rfl:=sj aX
       exact⟨_,gr,m,f.k Z⟩
      ·refine Ar f aZ ?_
       refine Ab f Z λa f=>Ar f aZ ?_
       refine Ab f Z λa f=>Ar f aZ ?_
       have⟨a0,a1,aX⟩:=bind_some aX
       refine Bi T27 f Z Z Z h1 a1 λa2 a3 a a4 a5 f=>Ar f aZ ?_
       refine AH m Bj f Z Z a4 λa f=>Ar f aZ ?_
       refine Ab f Z λa f=>Ar f aZ ?_
       have⟨a6,a7,aX⟩:=bind_some aX
       refine Bk f Z call113 (Wk.x m a5 a7) λa8 w a9 m a f=>Ar f aZ ?_
       refine l_o f (Bn (f.e Z)) λa f=>l_o f (AS (f.e Z) aZ (f.e Z)) λa f=> ?_
       obtain rfl:=sj aX
       exact⟨_,a9,m,f.k Z⟩
     ·rintro a w ⟨aY,ba,m,f⟩
      have h1:=rd2 ba h1
      have aO:=Ow.mono (RSl.mono (RI.mono _)) ba aO
      refine Aa ?_
      rcases Ae aL with⟨bb,aL⟩|⟨bb,aL⟩
      ·refine Al f Z bb ?_
       refine Af ?_
       have bc:∀w,(Instr.build 29 #[]).run prog w= .ok (.agg #[sn]) w:=by intro w;simp[Instr.build,Instr.fill,Ca,B3,BJ,BQ,BE,B9]
       refine CC f Z Z bc λa f=>A7 0 0 (ds:=[sn]) m sizeOf29 f Z Z Z (Ao Z AF) Z (lb Z) Z λw m=>Ac f Z λa f=>Aa ?_
       refine Ax ?_
       obtain⟨bd,m,be⟩:=Ow.nil R1 31 m
       have bf:=DU (P:=prog) 1 m Bv f (s:=4) rfl rfl rfl
       have m:=m.fr 3
       have m:=m.fr 1
       have m:Mem W aY w (bd::aJ::ib aa 29 [sn]::H):=m.eraseAt 3
       have m:=m.eraseAt 2
       have m:=m.eraseAt 1
       obtain rfl:=sj aL
       obtain rfl:=aM _ rfl
       obtain rfl:=sj hd
       exact⟨[(.agg #[sn]),(.bool false)],⟨bf,f.get _ _ Z,trivial⟩,f.d,_,[bd],(gt ae (gt ah (gt au (gt aN ba)))),m,_,_,Z,Z,be⟩
      ·refine Aj f Z bb ?_
       refine Am ?_
       refine A9 13 AJ (by kernel_rfl) m ?_
       refine Cd (i:=0) (ds:=[aw]) 13 1 Bv Z Z Z Z (by kernel_rfl) Z f Z Z Z λa f=>Ah 1 13 Z f Z λa f=>Ah 2 13 Z f Z λa f=> ?_
       have⟨bg,bh,aL⟩:=bind_some aL
       refine Bl 3 13 T27 h1 bh Z f Z Z λbi bj a bk bl f=>Bm 4 13 Bj bk Z f Z λa f=> ?_
       have⟨bm,bn,aL⟩:=bind_some aL
       refine Bl 5 13 T31 bl bn Z f Z Z λbo bp a bq br f=> ?_
       subst br
       refine Bm 6 13 Pl2 bq Z f Z λa f=>Ah 7 13 Z f Z λa f=>Ah 8 13 Z f Z λa f=> ?_
       have⟨bs,bt,aL⟩:=bind_some aL
       refine Bl 9 13 T27 h1 bt Z f Z Z λbu bv a bw bx f=>Bm 10 13 Bj bw Z f Z λa f=> ?_
       have⟨bz,bA,aL⟩:=bind_some aL
       refine Bl 11 13 T31 bx bA Z f Z Z λbB bC a bD bE f=> ?_
       subst bE
       refine Bm 12 13 Pl2 bD Z f Z λa f=>AZ λbF w bG m=> ?_
       have aO:=Ow.mono (RSl.mono (RI.mono _)) bG aO
       have m:Mem W bF w (aJ::ib aa 29 [sn]::ib az 29 [aw]::H):=m.fr 2
       have⟨bH,bI,aL⟩:=bind_some aL
       refine A5 f Z call114 (Wk.Y m aO bI) λbJ bK bL w bM m bN a f=> ?_
       obtain⟨bO,rfl,rfl,bP⟩:=bN
       refine A7 2 0 (ds:=[aw]) m sizeOf29 f Z Z Z (Ao (Ow.one1 0 m bP Z) AF) Z (lb Z) Z λw m=>Aa (Ap ?_)
       refine Ab f Z λa f=>Ai f Z Z Az λa f=>Ac f Z λa f=>Aa ?_
       have m:=m.fr 2
       have m:Mem W bK w (ib aa 29 [sn]::ib az 29 [aw]::bO::H):=m.fr 2
       obtain rfl:=sj aL
       exact⟨_,Z,_,_,Z,_,bO,(gt aN (gt ba (gt bG bM))),f.k Z,m,bP⟩
    ·refine Aj f Z aP ?_
     refine AE Z ?_
     obtain rfl:=sj aL
     obtain rfl:=aM _ rfl
     exact⟨_,Z,_,Z,_,aJ,aN,f.k Z,m,aO⟩
   ·rintro a w ⟨_,rfl,aC,rfl,aD,aE,bQ,f,m,bR⟩
    refine Af ?_
    refine AW 1 0 (ds:=[aw]) m Bv f Z Z Z Z Z λa f=>A7 0 0 (ds:=[aw]) m sizeOf29 f Z Z Z (Ao (Ow.one1 2 m bR Z) AF) Z (lb Z) Z λw m=>Ac f Z λa f=>Aa ?_
    refine Ax ?_
    have bS:=DU (P:=prog) 0 m Bv f (s:=4) rfl rfl rfl
    have m:=m.fr 2
    have m:=m.eraseAt 2
    have m:=m.eraseAt 1
    obtain rfl:=sj hd
    exact⟨[(.agg #[aw]),(.bool true)],⟨bS,f.get _ _ Z,trivial⟩,f.d,_,[aE],(gt ae (gt ah (gt au bQ))),m,_,_,Z,Z,bR⟩
theorem Wk.u0 {aa:Value}{b0:Nat}{ab:LI}{ac ad x1:Int}(m:Mem W G w (ib b0 55 [aa,(iv ac),(.int .u64 ad)]::H))(ae:RSl (RI .u8) G aa ab){y:(LL)×(LI)×Int×Int}(hd:D.u0 ab ac ad x1=some y):
  Calls prog 9 #[(pb b0),(iv x1)] w (Res W G H (λG' Ho v=>∃r0:Value,∃i0:Itm,∃r2:Value,Ho=[i0,ib b0 55 [r2,(iv y.2.2.1),(.int .u64 y.2.2.2)]]∧v=(.agg #[r0])∧Ow R1 31 G' i0 r0 y.1∧RSl (RI .u8) G' r2 y.2.1)):=by
 refine AB (args:=[(pb b0),(iv x1)]) (N:=47) [.cell 4 29] func9 Z Z (lb Z) Z λa f=> ?_
 unfold D.u0 at hd
 refine Af ?_
 refine BP (cs:=[sn]) zeroValue29 m f Z Z λaf w a m f=>AG ?_
 refine Ab f Z λa f=>Ab f Z λa f=> ?_
 have m:Mem W G w (ib b0 55 [aa,(iv ac),(.int .u64 ad)]::ib af 29 [sn]::H):=m.fr 1
 have⟨ag,ah,hd⟩:=bind_some hd
 refine A5 f Z call45 (Wk.q m ae ah) λai aj ak w al m am a f=> ?_
 obtain⟨an,rfl,rfl,ao⟩:=am
 refine Ai f Z Z Az λa f=>Ac f Z λa f=>AG ?_
 refine Ab f Z λa f=> ?_
 have⟨ap,aq,hd⟩:=bind_some hd
 refine A5 f Z call45 (Wk.q m ao aq) λar au av w aw m ax a f=> ?_
 obtain⟨ay,rfl,rfl,az⟩:=ax
 refine Ai f Z Z Az λa f=>Ac f Z λa f=>AG ?_
 refine By (R:=R1) (xs:=([]:LL)) (RSl.one _) m T27 f Z Z Z (by decide) (All2.nil _) λaA aB w a m aC f=>Ac f Z λa f=>Aa (Ag (Af ?_))
 refine Ac f Z λa f=>Aa ?_
 have⟨aD,aE,hd⟩:=bind_some hd
 refine AN (λa w=>∃aF:LL,∃aG:LI,∃aH:Int,∃aI:Int,(aF,aG,aH,aI)=aD∧∃(aJ:GH) (aK:Value) (aL:Itm) (aM:Value),GLe au aJ∧Fr a 47 [(4,(pb af)),(5,(iv (i64.wrap (1+ag.1)))),(7,aK)]∧Mem W aJ w (ib af 29 [sn]::ib b0 55 [aM,(iv aH),(.int .u64 aI)]::aL::H)∧Ow R1 31 aJ aL aK aF∧RSl (RI .u8) aJ aM aG) ?_ ?_
 ·refine Ak ?_
  have m:=m.fr 2
  have m:Mem W au w (ib b0 55 [ay,(iv ap.2.2.1),(.int .u64 ap.2.2.2)]::ib af 29 [sn]::aA::H):=m.fr 2
  refine AI (λaN a w=>∃aO:LL,∃aP:Int,∃aQ:LI,∃aR:Int,∃aS:Int,(aO,aP,aQ,aR,aS)=aN∧∃(aT:GH) (aU:Value) (aV:Itm) (aW:Value),GLe au aT∧Fr a 47 [(0,(pb b0)),(4,(pb af)),(5,(iv (i64.wrap (1+ag.1)))),(6,(iv (i64.wrap (1+ap.1)))),(7,aU),(8,(iv aP))]∧Mem W aT w (ib b0 55 [aW,(iv aR),(.int .u64 aS)]::ib af 29 [sn]::aV::H)∧Ow R1 31 aT aV aU aO∧RSl (RI .u8) aT aW aQ) aE ⟨_,_,_,_,_,Z,_,aB,aA,ay,gr,f.k Z,m,aC,az⟩ ?_
  clear aE f m
  rintro aN aX aY aZ a w ⟨aO,aP,aQ,aR,aS,rfl,aT,aU,aV,aW,a0,f,m,a1,a2⟩
  refine Ag (Af ?_)
  refine Ab f Z λa f=>Ab f Z λa f=>Ai f Z Z AP λa f=>Aa ?_
  rcases Ae aY with⟨a3,aY⟩|⟨a3,aY⟩
  ·refine Al f Z a3 ?_
   refine Am ?_
   refine Ag (Ak (Af ?_))
   refine Ac f Z λa f=>Aa ?_
   have⟨a4,a5,aY⟩:=bind_some aY
   refine AN (λa w=>∃a6:LL,∃a7:LI,∃a8:Int,∃a9:Int,(a6,a7,a8,a9)=a4∧∃(ba:GH) (bb:Value) (bc:Itm) (bd:Value),GLe aT ba∧Fr a 47 [(0,(pb b0)),(4,(pb af)),(5,(iv (i64.wrap (1+ag.1)))),(6,(iv (i64.wrap (1+ap.1)))),(7,bb),(8,(iv aP))]∧Mem W ba w (ib b0 55 [bd,(iv a8),(.int .u64 a9)]::ib af 29 [sn]::bc::H)∧Ow R1 31 ba bc bb a6∧RSl (RI .u8) ba bd a7) ?_ ?_
   ·refine Ak ?_
    refine AI (λbe a w=>∃bf:LL,∃bg:Int,∃bh:LI,∃bi:Int,∃bj:Int,(bf,bg,bh,bi,bj)=be∧∃(bk:GH) (bl:Value) (bm:Itm) (bn:Value),GLe aT bk∧Fr a 47 [(0,(pb b0)),(4,(pb af)),(5,(iv (i64.wrap (1+ag.1)))),(6,(iv (i64.wrap (1+ap.1)))),(7,bl),(8,(iv aP)),(9,(iv bg))]∧Mem W bk w (ib b0 55 [bn,(iv bi),(.int .u64 bj)]::ib af 29 [sn]::bm::H)∧Ow R1 31 bk bm bl bf∧RSl (RI .u8) bk bn bh) a5 ⟨_,_,_,_,_,Z,_,aU,aV,aW,gr,f.k Z,m,a1,a2⟩ ?_
    clear a5 f m
    rintro be bo bp bq a w ⟨bf,bg,bh,bi,bj,rfl,bk,bl,bm,bn,br,f,m,bs,bt⟩
    refine Ag (Af ?_)
    refine Ab f Z λa f=>Ab f Z λa f=>Ai f Z Z AP λa f=>Aa ?_
    rcases Ae bp with⟨bu,bp⟩|⟨bu,bp⟩
    ·refine Al f Z bu ?_
     refine Am ?_
     refine Ag (Ak (Af ?_))
     refine Ab f Z λa f=> ?_
     have⟨bv,bw,bp⟩:=bind_some bp
     refine A5 f Z call45 (Wk.q m bt bw) λbx bz bA w bB m bC a f=> ?_
     obtain⟨bD,rfl,rfl,bE⟩:=bC
     have bs:=Ow.mono (RSl.mono (RI.mono _)) bB bs
     refine Ab f Z λa f=>Ai f Z Z AP λa f=>Aa ?_
     rcases Ae bp with⟨bF,bp⟩|⟨bF,bp⟩
     ·refine Al f Z bF ?_
      refine Ap ?_
      refine Ab f Z λa f=>Ab f Z λa f=>Ab f Z λa f=>By (R:=R0) (xs:=([bg,aP]:LI)) (RI.one _) m T31 f Z Z Z (by decide) (All2.cons Z (All2.cons Z (All2.nil _))) λbG bH w a m bI f=> ?_
      obtain⟨bJ,bK,m,bL⟩:=Ow.stamp (RI.mono _) bI m
      have bE:=rd1 bK bE
      have bs:=Ow.mono (RSl.mono (RI.mono _)) bK bs
      refine By (R:=R1) (xs:=([([bg,aP]:LI)]:LL)) (RSl.one _) m T27 f Z Z Z (by decide) (All2.cons bL (All2.nil _)) λbM bN w a m bO f=> ?_
      have⟨bP,bQ,bp⟩:=bind_some bp
      refine BR (RSl.one _) 3 m bs Z T27 Z (by decide) f Z Z Z (Ow.src (j:=0) bO m Z) bQ λbR bS w a m bT f=>Ac f Z λa f=>Aa (Ap ?_)
      refine Ab f Z λa f=>Ai f Z Z Az λa f=>Ac f Z λa f=>Aa ?_
      have m:=m.fr 3
      have m:=m.fr 3
      have m:Mem W bJ w (ib b0 55 [bD,(iv bv.2.2.1),(.int .u64 bv.2.2.2)]::ib af 29 [sn]::bR::bM::H):=m.fr 3
      have m:Mem W bJ w (ib b0 55 [bD,(iv bv.2.2.1),(.int .u64 bv.2.2.2)]::ib af 29 [sn]::bR::H):=m.eraseAt 3
      obtain rfl:=sj bp
      exact⟨_,Z,_,_,_,_,_,Z,_,bS,bR,bD,(gt br (gt bB bK)),f.k Z,m,bT,bE⟩
     ·refine Aj f Z bF ?_
      refine Am ?_
      refine Ap ?_
      refine Ab f Z λa f=>Ai f Z Z Az λa f=>Ac f Z λa f=>Aa ?_
      obtain rfl:=sj bp
      exact⟨_,Z,_,_,_,_,_,Z,_,bl,bm,bD,(gt br bB),f.k Z,m,bs,bE⟩
    ·refine Aj f Z bu ?_
     refine AE Z ?_
     obtain rfl:=sj bp
     obtain rfl:=bq _ rfl
     exact⟨_,_,_,_,Z,_,bl,bm,bn,br,f.k Z,m,bs,bt⟩
   ·rintro a w ⟨a6,a7,a8,a9,rfl,ba,bb,bc,bd,bU,f,m,bV,bW⟩
    refine Ap ?_
    refine Ab f Z λa f=>Ai f Z Z Az λa f=>Ac f Z λa f=>Aa ?_
    obtain rfl:=sj aY
    exact⟨_,Z,_,_,_,_,_,Z,_,bb,bc,bd,(gt a0 bU),f.k Z,m,bV,bW⟩
  ·refine Aj f Z a3 ?_
   refine AE Z ?_
   have m:Mem W aT w (ib af 29 [sn]::ib b0 55 [aW,(iv aR),(.int .u64 aS)]::aV::H):=m.fr 1
   obtain rfl:=sj aY
   obtain rfl:=aZ _ rfl
   exact⟨_,_,_,_,Z,_,aU,aV,aW,a0,f.k Z,m,a1,a2⟩
 ·rintro a w ⟨aF,aG,aH,aI,rfl,aJ,aK,aL,aM,bX,f,m,bY,bZ⟩
  refine Af ?_
  refine Ab f Z λa f=>Ab f Z λa f=> ?_
  have m:Mem W aJ w (aL::ib af 29 [sn]::ib b0 55 [aM,(iv aH),(.int .u64 aI)]::H):=m.fr 2
  obtain⟨b1,b2,m,b3⟩:=Ow.stamp (RSl.mono (RI.mono _)) bY m
  have bZ:=rd1 b2 bZ
  have⟨b4,b5,hd⟩:=bind_some hd
  refine A5 f Z call46 (Wk.j0 m b3 b5) λb6 b7 b8 w b9 m ca a f=> ?_
  obtain⟨cb,cc,rfl,rfl,cd⟩:=ca
  have bZ:=rd1 b9 bZ
  refine Ab f Z λa f=>l_o f (A4 (f.e Z) Z) λa f=>l_o f (A4 (f.e Z) Z) λa f=>BP (cs:=[sn]) zeroValue29 m f Z Z λce w a m f=>A7 0 0 (ds:=[cb]) m sizeOf29 f Z Z Z (Ao (Ow.one1 1 m cd Z) AF) Z (lb Z) Z λw m=>Ac f Z λa f=>AG ?_
  refine AW 0 0 (ds:=[cb]) m Bv f Z Z Z Z Z λa f=>A7 2 0 (ds:=[cb]) m sizeOf29 f Z Z Z (Ao (Ow.one1 1 m cd Z) AF) Z (lb Z) Z λw m=>Aa ?_
  refine Ax ?_
  have cf:=DU (P:=prog) 2 m Bv f (s:=4) rfl rfl rfl
  have m:=m.fr 3
  have m:=m.fr 2
  have m:Mem W b7 w (cc::ib b0 55 [aM,(iv aH),(.int .u64 aI)]::ib ce 29 [cb]::H):=m.eraseAt 3
  have m:=m.eraseAt 2
  obtain rfl:=sj hd
  exact⟨[(.agg #[cb])],⟨cf,trivial⟩,f.d,_,[cc,ib b0 55 [aM,(iv aH),(.int .u64 aI)]],(gt al (gt aw (gt bX (gt b2 b9)))),m,_,_,_,Z,Z,cd,bZ⟩
theorem Wk.U {x0 x1 x2:Int}(m:Mem W G w (H)){y:Bool}(hd:D.U x0 x1 x2=some y):
  Calls prog 123 #[(iv x0),(iv x1),(iv x2)] w (Res W G H (λ_ Ho v=>Ho=[]∧v=(.bool y))):=by
 refine AB (args:=[(iv x0),(iv x1),(iv x2)]) (N:=15) [.tmp 6] func123 Z Z (lb Z) Z λa f=> ?_
 unfold D.U at hd
 refine Af ?_
 refine Ac f Z λa f=>AG ?_
 refine Ab f Z λa f=>Ab f Z λa f=>Ai f Z Z CY λa f=>Ab f Z λa f=> ?_
 refine Bo 4 (λa w=>∃aa,GLe G aa∧Mem W aa w (H)∧Fr a 15 [(0,(iv x0)),(1,(iv x1)),(2,(iv x2)),(7,(iv x1)),(8,(iv x0)),(9,(.bool (decide (x1≤x0)))),(10,(.bool (decide (x1≤x0)))),(14,(.bool ((decide (x1≤x0))&&(decide (x0≤x2)))))]) ?_ ?_
 ·rcases Bool.eq_false_or_eq_true (decide (x1≤x0)) with ab|ab
  ·refine Ar f ab ?_
   refine Ab f Z λa f=>Ar f ab ?_
   refine Ab f Z λa f=>Ar f ab ?_
   refine Ai f Z Z CY λa f=>l_o f (AT (f.e Z) ab (f.e Z)) λa f=> ?_
   exact⟨_,gr,m,f.weak ⟨Z,Z,Z,Z,Z,Z,Z,by rw[ab];rfl,trivial⟩⟩
  ·refine As f ab λa f=> ?_
   refine As f ab λa f=>As f ab λa f=>l_o f (AS (f.e Z) ab (f.e Z)) λa f=> ?_
   exact⟨_,gr,m,f.weak ⟨Z,Z,Z,Z,Z,Z,Z,by rw[ab];rfl,trivial⟩⟩
 ·rintro a w ⟨aa,ac,m,f⟩
  refine Ac f Z λa f=>Aa ?_
  refine Ax ?_
  obtain rfl:=sj hd
  exact⟨[(.bool ((decide (x1≤x0))&&(decide (x0≤x2))))],f.g Z,f.d,_,[],ac,m,Z,Z⟩
theorem Wk.y {v0:Value}{x0:LI}{x1:Int}(m:Mem W G w (H))(h0:R1 G v0 x0){y:Bool}(hd:D.y x0 x1=some y):
  Calls prog 103 #[v0,(iv x1)] w (Res W G H (λ_ Ho v=>Ho=[]∧v=(.bool y))):=by
 refine AB (args:=[v0,(iv x1)]) (N:=33) [.tmp 4] func103 Z Z (lb Z) Z λa f=> ?_
 unfold D.y at hd
 refine Af ?_
 refine Ac f Z λa f=>Aa (Ag (Af ?_))
 refine Ab f Z λa f=>A6 underlying31 f Z Z h0 λa f=>Ab f Z λa f=>Aa ?_
 have⟨aa,ab,hd⟩:=bind_some hd
 refine AN (λa w=>∃q_181':Unit,aa= .inl q_181'∧∃(ac:GH),GLe G ac∧Fr a 33 []∧Mem W ac w (H)) ?_ ?_
 ·refine Ak ?_
  refine AI (λad a w=>∃ae:Int,ae=ad∧∃(af:GH),GLe G af∧Fr a 33 [(0,v0),(1,(iv x1)),(7,v0),(8,(iv (x0.length:Int))),(9,(iv ae))]∧Mem W af w (H)) ab ⟨_,Z,_,gr,f.k Z,m⟩ ?_
  clear ab f m
  rintro ad ag ah ai a w ⟨ae,rfl,af,aj,f,m⟩
  have h0:=rd1 aj h0
  refine Af ?_
  refine Ai f Z Z AP λa f=>Aa (Ag ?_)
  rcases Ae ah with⟨ak,ah⟩|⟨ak,ah⟩
  ·refine Al f Z ak ?_
   refine Am ?_
   refine Ag (Ak (Af ?_))
   refine Ab f Z λa f=> ?_
   have⟨al,am,ah⟩:=bind_some ah
   refine Bi T31 f Z Z Z h0 am λan ao a ap aq f=> ?_
   subst aq
   refine AH m Pl2 f Z Z ap λa f=>Ac f Z λa f=>Ac f Z λa f=>AG ?_
   refine Ab f Z λa f=>Ab f Z λa f=>Ai f Z Z A3 λa f=> ?_
   have⟨ar,au,ah⟩:=bind_some ah
   refine Bk f Z call123 (Wk.U m au) λav w aw m a f=> ?_
   have h0:=rd1 aw h0
   refine l_o f (Bn (f.e Z)) λa f=>Ab f Z λa f=> ?_
   have⟨ax,ay,ah⟩:=bind_some ah
   refine Bo 12 (λa w=>∃az,GLe av az∧Mem W az w (H)∧Fr a 33 [(0,v0),(1,(iv x1)),(5,(iv ae)),(6,(iv al)),(7,v0),(8,(iv (x0.length:Int))),(9,(iv ae)),(14,(iv al)),(15,(iv x1)),(16,(iv (i64.wrap (x1-1)))),(17,(.bool ar)),(18,(.bool (!ar))),(19,(.bool (!ar))),(31,(.bool ax))]) ?_ ?_
   ·rcases Ae ay with⟨aA,ay⟩|⟨aA,ay⟩
    ·refine As f aA λa f=> ?_
     refine As f aA λa f=>As f aA λa f=>B4 f Z Z Z λa f=>B4 f Z Z Z λa f=>B4 f Z Z Z λa f=>B4 f Z Z Z λa f=>B4 f Z Z Z λa f=>B4 f Z Z Z λa f=>B4 f Z Z Z λa f=>As f aA λa f=>l_o f (AT (f.e Z) aA (f.e Z)) λa f=> ?_
     obtain rfl:=sj ay
     exact⟨_,gr,m,f.k Z⟩
    ·refine Ar f aA ?_
     refine Ab f Z λa f=>Ar f aA ?_
     refine Ai f Z Z Cx λa f=>Ar f aA ?_
     refine Ab f Z λa f=> ?_
     have⟨aB,aC,ay⟩:=bind_some ay
     refine Bo 8 (λa w=>∃aD,GLe av aD∧Mem W aD w (H)∧Fr a 33 [(0,v0),(1,(iv x1)),(5,(iv ae)),(6,(iv al)),(7,v0),(8,(iv (x0.length:Int))),(9,(iv ae)),(14,(iv al)),(15,(iv x1)),(16,(iv (i64.wrap (x1-1)))),(17,(.bool ar)),(18,(.bool (!ar))),(19,(.bool (!ar))),(20,(iv ae)),(21,(.bool (decide ((0:Int)<ae)))),(22,(.bool (decide ((0:Int)<ae)))),(30,(.bool aB))]) ?_ ?_
     ·rcases Ae aC with⟨aE,aC⟩|⟨aE,aC⟩
      ·refine Ar f aE ?_
       refine Ab f Z λa f=>Ar f aE ?_
       refine Ab f Z λa f=>Ar f aE ?_
       refine Ai f Z Z A3 λa f=>Ar f aE ?_
       have⟨aF,aG,aC⟩:=bind_some aC
       refine Bi T31 f Z Z Z h0 aG λaH aI a aJ aK f=> ?_
       subst aK
       refine Ar f aE ?_
       refine AH m Pl2 f Z Z aJ λa f=>Ar f aE ?_
       refine Ab f Z λa f=>Ar f aE ?_
       refine Ai f Z Z Ci λa f=>Ar f aA ?_
       refine l_o f (AT (f.e Z) aE (f.e Z)) λa f=> ?_
       obtain rfl:=sj aC
       exact⟨_,gr,m,f.k Z⟩
      ·refine As f aE λa f=> ?_
       refine As f aE λa f=>As f aE λa f=>As f aE λa f=>As f aE λa f=>As f aE λa f=>As f aE λa f=>Ar f aA ?_
       refine l_o f (AS (f.e Z) aE (f.e Z)) λa f=> ?_
       obtain rfl:=sj aC
       exact⟨_,gr,m,f.k Z⟩
     ·rintro a w ⟨aD,aL,m,f⟩
      refine l_o f (AS (f.e Z) aA (f.e Z)) λa f=> ?_
      obtain rfl:=sj ay
      exact⟨_,aL,m,f.k Z⟩
   ·rintro a w ⟨az,aM,m,f⟩
    refine Aa ?_
    rcases Ae ah with⟨aN,ah⟩|⟨aN,ah⟩
    ·refine Al f Z aN ?_
     refine Af ?_
     refine Ac f Z λa f=>Aa ?_
     refine Ax ?_
     obtain rfl:=sj ah
     obtain rfl:=ai _ rfl
     obtain rfl:=sj hd
     exact⟨[(.bool false)],f.g Z,f.d,_,[],(gt aj (gt aw aM)),m,Z,Z⟩
    ·refine Aj f Z aN ?_
     refine Am ?_
     refine Ap ?_
     refine Ai f Z Z Az λa f=>Ab f Z λa f=>Aa ?_
     obtain rfl:=sj ah
     exact⟨_,Z,_,Z,_,(gt aj (gt aw aM)),f.k Z,m⟩
  ·refine Aj f Z ak ?_
   refine AE Z ?_
   obtain rfl:=sj ah
   obtain rfl:=ai _ rfl
   exact⟨_,Z,_,aj,f.weak trivial,m⟩
 ·rintro a w ⟨_,rfl,ac,aO,f,m⟩
  refine Af ?_
  refine Ac f Z λa f=>Aa ?_
  refine Ax ?_
  obtain rfl:=sj hd
  exact⟨[(.bool true)],f.g Z,f.d,_,[],aO,m,Z,Z⟩
theorem Wk.h {aa:Value}{ab:LL}(m:Mem W G w (H))(ac:R2 G aa ab){y:Bool}(hd:D.h ab=some y):
  Calls prog 50 #[(.agg #[aa])] w (Res W G H (λ_ Ho v=>Ho=[]∧v=(.bool y))):=by
 refine AB (args:=[(.agg #[aa])]) (N:=61) [.tmp 2] func50 Z Z (lb Z) Z λa f=> ?_
 unfold D.h at hd
 refine Af ?_
 refine BB (cs:=[aa]) m f Z Z Z λad w a m f=>Ac f Z λa f=>AG ?_
 refine Bp underlying29 Z sizeOf27 f Z λa f=>AM 0 0 m BL f Z Z Z Z λa f=>A6 underlying27 f Z Z ac λa f=>Ac f Z λa f=>Aa (Ag (Af ?_))
 refine Ab f Z λa f=>Ai f Z Z AP λa f=>Ab f Z λa f=> ?_
 refine Bo 3 (λa w=>∃ae,GLe G ae∧Mem W ae w (ib ad 29 [aa]::H)∧Fr a 61 [(0,(.agg #[aa])),(1,(pb ad)),(3,(iv (ab.length:Int))),(13,(iv (ab.length:Int))),(14,(.bool (decide ((ab.length:Int)<1)))),(15,(.bool (decide ((ab.length:Int)<1)))),(18,(.bool ((decide ((ab.length:Int)<1))||(decide ((16:Int)<(ab.length:Int))))))]) ?_ ?_
 ·rcases Bool.eq_false_or_eq_true (decide ((ab.length:Int)<1)) with af|af
  ·refine As f af λa f=> ?_
   refine As f af λa f=>l_o f (AT (f.e Z) af (f.e Z)) λa f=> ?_
   exact⟨_,gr,m,f.weak ⟨Z,Z,Z,Z,Z,Z,by rw[af];rfl,trivial⟩⟩
  ·refine Ar f af ?_
   refine Ab f Z λa f=>Ar f af ?_
   refine Ai f Z Z Cx λa f=>l_o f (AS (f.e Z) af (f.e Z)) λa f=> ?_
   exact⟨_,gr,m,f.weak ⟨Z,Z,Z,Z,Z,Z,by rw[af];rfl,trivial⟩⟩
 ·rintro a w ⟨ae,ag,m,f⟩
  have ac:=rd2 ag ac
  refine Aa ?_
  rcases Ae hd with⟨ah,hd⟩|⟨ah,hd⟩
  ·refine Al f Z ah ?_
   refine Af ?_
   refine Ac f Z λa f=>Aa ?_
   refine Ax ?_
   have m:Mem W ae w H:=Mem.drop (H':=[ib ad 29 [aa]]) m
   obtain rfl:=sj hd
   exact⟨[(.bool false)],f.g Z,f.d,_,[],ag,m,Z,Z⟩
  ·refine Aj f Z ah ?_
   refine Am ?_
   refine Ag (Af ?_)
   refine Bp underlying29 Z sizeOf27 f Z λa f=>AM 0 0 m BL f Z Z Z Z λa f=>A6 underlying27 f Z Z ac λa f=>Ab f Z λa f=>Aa ?_
   have⟨ai,aj,hd⟩:=bind_some hd
   refine AN (λa w=>∃q_91':Unit,ai= .inl q_91'∧∃(ak:GH),GLe ae ak∧Fr a 61 [(1,(pb ad))]∧Mem W ak w (ib ad 29 [aa]::H)) ?_ ?_
   ·refine Ak ?_
    refine AI (λal a w=>∃am:Int,am=al∧∃(an:GH),GLe ae an∧Fr a 61 [(1,(pb ad)),(3,(iv (ab.length:Int))),(20,aa),(21,(iv (ab.length:Int))),(22,(iv am))]∧Mem W an w (ib ad 29 [aa]::H)) aj ⟨_,Z,_,gr,f.k Z,m⟩ ?_
    clear aj f m
    rintro al ao ap aq a w ⟨am,rfl,an,ar,f,m⟩
    have ac:=rd2 ar ac
    refine Af ?_
    refine Ai f Z Z AP λa f=>Aa (Ag ?_)
    rcases Ae ap with⟨au,ap⟩|⟨au,ap⟩
    ·refine Al f Z au ?_
     refine Am ?_
     refine Ag (Ak (Af ?_))
     refine Ab f Z λa f=> ?_
     have⟨av,aw,ap⟩:=bind_some ap
     refine Bi T27 f Z Z Z ac aw λax ay a az aA f=>AH m Bj f Z Z az λa f=>Ac f Z λa f=>Ac f Z λa f=>AG ?_
     refine Ab f Z λa f=>Ab f Z λa f=> ?_
     have⟨aB,aC,ap⟩:=bind_some ap
     refine Bk f Z call103 (Wk.y m aA aC) λaD w aE m a f=> ?_
     have aA:=rd1 aE aA
     refine l_o f (Bn (f.e Z)) λa f=>Ab f Z λa f=> ?_
     have⟨aF,aG,ap⟩:=bind_some ap
     refine Bo 4 (λa w=>∃aH,GLe aD aH∧Mem W aH w (ib ad 29 [aa]::H)∧Fr a 61 [(1,(pb ad)),(3,(iv (ab.length:Int))),(4,(iv am)),(5,ay),(20,aa),(21,(iv (ab.length:Int))),(22,(iv am)),(27,ay),(28,(iv (ab.length:Int))),(29,(.bool aB)),(30,(.bool (!aB))),(31,(.bool (!aB))),(35,(.bool aF))]) ?_ ?_
     ·rcases Ae aG with⟨aI,aG⟩|⟨aI,aG⟩
      ·refine As f aI λa f=> ?_
       refine As f aI λa f=>As f aI λa f=>l_o f (AT (f.e Z) aI (f.e Z)) λa f=> ?_
       obtain rfl:=sj aG
       exact⟨_,gr,m,f.k Z⟩
      ·refine Ar f aI ?_
       refine Ab f Z λa f=>Ar f aI ?_
       refine Ab f Z λa f=>Ar f aI ?_
       have⟨aJ,aK,aG⟩:=bind_some aG
       refine Bk f Z call119 (Wk.r m aA aK) λaL w aM m a f=>l_o f (AS (f.e Z) aI (f.e Z)) λa f=> ?_
       obtain rfl:=sj aG
       exact⟨_,aM,m,f.k Z⟩
     ·rintro a w ⟨aH,aN,m,f⟩
      refine Aa ?_
      rcases Ae ap with⟨aO,ap⟩|⟨aO,ap⟩
      ·refine Al f Z aO ?_
       refine Af ?_
       refine Ac f Z λa f=>Aa ?_
       refine Ax ?_
       have m:Mem W aH w H:=Mem.drop (H':=[ib ad 29 [aa]]) m
       obtain rfl:=sj ap
       obtain rfl:=aq _ rfl
       obtain rfl:=sj hd
       exact⟨[(.bool false)],f.g Z,f.d,_,[],(gt ag (gt ar (gt aE aN))),m,Z,Z⟩
      ·refine Aj f Z aO ?_
       refine Am ?_
       refine Ap ?_
       refine Ai f Z Z Az λa f=>Ab f Z λa f=>Aa ?_
       obtain rfl:=sj ap
       exact⟨_,Z,_,Z,_,(gt ar (gt aE aN)),f.k Z,m⟩
    ·refine Aj f Z au ?_
     refine AE Z ?_
     obtain rfl:=sj ap
     obtain rfl:=aq _ rfl
     exact⟨_,Z,_,ar,f.k Z,m⟩
   ·rintro a w ⟨_,rfl,ak,aP,f,m⟩
    have ac:=rd2 aP ac
    refine Ag (Af ?_)
    refine Bp underlying29 Z sizeOf27 f Z λa f=>AM 0 0 m BL f Z Z Z Z λa f=>A6 underlying27 f Z Z ac λa f=>Ab f Z λa f=>Aa ?_
    have⟨aQ,aR,hd⟩:=bind_some hd
    refine AN (λa w=>∃q_394':Unit,aQ= .inl q_394'∧∃(aS:GH),GLe ak aS∧Fr a 61 []∧Mem W aS w (H)) ?_ ?_
    ·refine Ak ?_
     refine AI (λaT a w=>∃aU:Int,aU=aT∧∃(aV:GH),GLe ak aV∧Fr a 61 [(1,(pb ad)),(38,aa),(39,(iv (ab.length:Int))),(40,(iv aU))]∧Mem W aV w (ib ad 29 [aa]::H)) aR ⟨_,Z,_,gr,f.k Z,m⟩ ?_
     clear aR f m
     rintro aT aW aX aY a w ⟨aU,rfl,aV,aZ,f,m⟩
     have ac:=rd2 aZ ac
     refine Af ?_
     refine Ai f Z Z AP λa f=>Aa (Ag ?_)
     rcases Ae aX with⟨a0,aX⟩|⟨a0,aX⟩
     ·refine Al f Z a0 ?_
      refine Am ?_
      refine Ag (Ak (Af ?_))
      refine Ab f Z λa f=> ?_
      have⟨a1,a2,aX⟩:=bind_some aX
      refine Bi T27 f Z Z Z ac a2 λa3 a4 a a5 a6 f=>AH m Bj f Z Z a5 λa f=>Ac f Z λa f=>Ac f Z λa f=>AG ?_
      refine Ab f Z λa f=>A6 underlying31 f Z Z a6 λa f=>Ab f Z λa f=>Aa ?_
      have⟨a7,a8,aX⟩:=bind_some aX
      refine AN (λa w=>∃q_560':Unit,a7= .inl q_560'∧∃(a9:GH),GLe aV a9∧Fr a 61 [(1,(pb ad)),(38,aa),(39,(iv (ab.length:Int))),(40,(iv aU))]∧Mem W a9 w (ib ad 29 [aa]::H)) ?_ ?_
      ·refine Ak ?_
       refine AI (λba a w=>∃bb:Int,bb=ba∧∃(bc:GH),GLe aV bc∧Fr a 61 [(1,(pb ad)),(6,(iv aU)),(38,aa),(39,(iv (ab.length:Int))),(40,(iv aU)),(45,a4),(46,(iv (a1.length:Int))),(47,(iv bb))]∧Mem W bc w (ib ad 29 [aa]::H)) a8 ⟨_,Z,_,gr,f.k Z,m⟩ ?_
       clear a8 f m
       rintro ba bd be bf a w ⟨bb,rfl,bc,bg,f,m⟩
       have ac:=rd2 bg ac
       have a6:=rd1 bg a6
       refine Af ?_
       refine Ai f Z Z AP λa f=>Aa (Ag ?_)
       rcases Ae be with⟨bh,be⟩|⟨bh,be⟩
       ·refine Al f Z bh ?_
        refine Am ?_
        refine Ag (Ak (Af ?_))
        have⟨bi,bj,be⟩:=bind_some be
        refine Bi T31 f Z Z Z a6 bj λbk bl a bm bn f=> ?_
        subst bn
        refine AH m Pl2 f Z Z bm λa f=>Ac f Z λa f=>AG ?_
        refine Bp underlying29 Z sizeOf27 f Z λa f=>AM 0 0 m BL f Z Z Z Z λa f=>Ab f Z λa f=> ?_
        have⟨bo,bp,be⟩:=bind_some be
        refine Bi T27 f Z Z Z ac bp λbq br a bs bt f=>AH m Bj f Z Z bs λa f=>Ab f Z λa f=> ?_
        have⟨bu,bv,be⟩:=bind_some be
        refine Bk f Z call119 (Wk.r m bt bv) λbw w bx m a f=>l_o f (Bn (f.e Z)) λa f=>Aa ?_
        rcases Ae be with⟨bz,be⟩|⟨bz,be⟩
        ·refine Al f Z bz ?_
         refine Af ?_
         refine Ac f Z λa f=>Aa ?_
         refine Ax ?_
         have m:Mem W bw w H:=Mem.drop (H':=[ib ad 29 [aa]]) m
         obtain rfl:=sj be
         obtain rfl:=bf _ rfl
         obtain rfl:=sj aX
         obtain rfl:=aY _ rfl
         obtain rfl:=sj hd
         exact⟨[(.bool false)],f.g Z,f.d,_,[],(gt ag (gt aP (gt aZ (gt bg bx)))),m,Z,Z⟩
        ·refine Aj f Z bz ?_
         refine Am ?_
         refine Ap ?_
         refine Ai f Z Z Az λa f=>Ab f Z λa f=>Aa ?_
         obtain rfl:=sj be
         exact⟨_,Z,_,Z,_,(gt bg bx),f.k Z,m⟩
       ·refine Aj f Z bh ?_
        refine AE Z ?_
        obtain rfl:=sj be
        obtain rfl:=bf _ rfl
        exact⟨_,Z,_,bg,f.k Z,m⟩
      ·rintro a w ⟨_,rfl,a9,bA,f,m⟩
       refine Ap ?_
       refine Ai f Z Z Az λa f=>Ab f Z λa f=>Aa ?_
       obtain rfl:=sj aX
       exact⟨_,Z,_,Z,_,(gt aZ bA),f.k Z,m⟩
     ·refine Aj f Z a0 ?_
      refine AE Z ?_
      have m:Mem W aV w H:=Mem.drop (H':=[ib ad 29 [aa]]) m
      obtain rfl:=sj aX
      obtain rfl:=aY _ rfl
      exact⟨_,Z,_,aZ,f.weak trivial,m⟩
    ·rintro a w ⟨_,rfl,aS,bB,f,m⟩
     refine Af ?_
     refine Ac f Z λa f=>Aa ?_
     refine Ax ?_
     obtain rfl:=sj hd
     exact⟨[(.bool true)],f.g Z,f.d,_,[],(gt ag (gt aP bB)),m,Z,Z⟩
theorem Wk.b {x0:Int}(m:Mem W G w (H)){y:Int}(hd:D.b x0=some y):
  Calls prog 74 #[(iv x0)] w (Res W G H (λ_ Ho v=>Ho=[]∧v=(.int .u32 y))):=by
 refine AB (args:=[(iv x0)]) (N:=5) [.tmp 2] func74 Z Z (lb Z) Z λa f=> ?_
 unfold D.b at hd
 refine Af ?_
 refine Ac f Z λa f=>AG ?_
 refine Ab f Z λa f=> ?_
 obtain⟨aa,hd⟩:=DA hd
 refine l_o f (r_shl (f.e Z) (f.e Z) aa) λa f=>Ac f Z λa f=>Aa ?_
 refine Ax ?_
 obtain rfl:=sj hd
 exact⟨[(.int .u32 (ishl .u32 1 x0))],f.g Z,f.d,_,[],gr,m,Z,Z⟩
theorem Wk.N {v0:Value}{x0:LI}(m:Mem W G w (H))(h0:R1 G v0 x0){y:Int}(hd:D.N x0=some y):
  Calls prog 120 #[v0] w (Res W G H (λ_ Ho v=>Ho=[]∧v=(.int .u32 y))):=by
 refine AB (args:=[v0]) (N:=18) [.tmp 2] func120 Z Z (lb Z) Z λa f=> ?_
 unfold D.N at hd
 refine Af ?_
 refine Ac f Z λa f=>AG ?_
 refine Ac f Z λa f=>Aa (Ag (Af ?_))
 refine Ab f Z λa f=>A6 underlying31 f Z Z h0 λa f=>Ab f Z λa f=>Aa ?_
 have⟨aa,ab,hd⟩:=bind_some hd
 refine AN (λa w=>∃ac:Int,ac=aa∧∃(ad:GH),GLe G ad∧Fr a 18 [(3,(.int .u32 ac))]∧Mem W ad w (H)) ?_ ?_
 ·refine Ak ?_
  refine AI (λae a w=>∃af:Int,∃ag:Int,(af,ag)=ae∧∃(ah:GH),GLe G ah∧Fr a 18 [(3,(.int .u32 af)),(6,v0),(7,(iv (x0.length:Int))),(8,(iv ag))]∧Mem W ah w (H)) ab ⟨_,_,Z,_,gr,f.k Z,m⟩ ?_
  clear ab f m
  rintro ae ai aj ak a w ⟨af,ag,rfl,ah,al,f,m⟩
  have h0:=rd1 al h0
  refine Af ?_
  refine Ai f Z Z AP λa f=>Aa (Ag ?_)
  rcases Ae aj with⟨am,aj⟩|⟨am,aj⟩
  ·refine Al f Z am ?_
   refine Am ?_
   refine Ag (Ak (Af ?_))
   have⟨an,ao,aj⟩:=bind_some aj
   refine Bi T31 f Z Z Z h0 ao λap aq a ar au f=> ?_
   subst au
   refine AH m Pl2 f Z Z ar λa f=>Ac f Z λa f=>Aa (Ap ?_)
   refine Ab f Z λa f=>Ab f Z λa f=> ?_
   have⟨av,aw,aj⟩:=bind_some aj
   refine Bk f Z call74 (Wk.b m aw) λax w ay m a f=>Ai f Z Z b_or λa f=>Ac f Z λa f=>Aa (Ap ?_)
   refine Ai f Z Z Az λa f=>Ab f Z λa f=>Aa ?_
   obtain rfl:=sj aj
   exact⟨_,Z,_,_,Z,_,(gt al ay),f.k Z,m⟩
  ·refine Aj f Z am ?_
   refine AE Z ?_
   obtain rfl:=sj aj
   obtain rfl:=ak _ rfl
   exact⟨_,Z,_,al,f.k Z,m⟩
 ·rintro a w ⟨ac,rfl,ad,az,f,m⟩
  refine Af ?_
  refine Ab f Z λa f=>Ac f Z λa f=>Aa ?_
  refine Ax ?_
  obtain rfl:=sj hd
  exact⟨[(.int .u32 ac)],f.g Z,f.d,_,[],az,m,Z,Z⟩
theorem Wk.j {aa:Value}{ab:LL}(m:Mem W G w (H))(ac:R2 G aa ab){y:(LI)}(hd:D.j ab=some y):
  Calls prog 51 #[(.agg #[aa])] w (Res W G H (λG' Ho v=>∃r0:Value,∃i0:Itm,Ho=[i0]∧r0=v∧Ow (RI .u32) 63 G' i0 r0 y)):=by
 refine AB (args:=[(.agg #[aa])]) (N:=21) [.tmp 2] func51 Z Z (lb Z) Z λa f=> ?_
 unfold D.j at hd
 refine Af ?_
 refine BB (cs:=[aa]) m f Z Z Z λad w a m f=>Ac f Z λa f=>AG ?_
 refine By (R:=(RI .u32)) (xs:=([]:LI)) (RI.one _) m T60 f Z Z Z (by decide) (All2.nil _) λae af w a m ag f=>Ac f Z λa f=>Aa (Ag (Af ?_))
 refine Bp underlying29 Z sizeOf27 f Z λa f=>AM 1 0 m BL f Z Z Z Z λa f=>A6 underlying27 f Z Z ac λa f=>Ab f Z λa f=>Aa ?_
 have⟨ah,ai,hd⟩:=bind_some hd
 refine AN (λa w=>∃aj:LI,aj=ah∧∃(ak:GH) (al:Value) (am:Itm),GLe G ak∧Fr a 21 [(3,al)]∧Mem W ak w (am::H)∧Ow (RI .u32) 63 ak am al aj) ?_ ?_
 ·refine Ak ?_
  have m:=m.eraseAt 1
  refine AI (λan a w=>∃ao:LI,∃ap:Int,(ao,ap)=an∧∃(aq:GH) (ar:Value) (au:Itm),GLe G aq∧Fr a 21 [(3,ar),(8,aa),(9,(iv (ab.length:Int))),(10,(iv ap))]∧Mem W aq w (au::H)∧Ow (RI .u32) 63 aq au ar ao) ai ⟨_,_,Z,_,af,ae,gr,f.k Z,m,ag⟩ ?_
  clear ai f m
  rintro an av aw ax a w ⟨ao,ap,rfl,aq,ar,au,ay,f,m,az⟩
  have ac:=rd2 ay ac
  refine Af ?_
  refine Ai f Z Z AP λa f=>Aa (Ag ?_)
  rcases Ae aw with⟨aA,aw⟩|⟨aA,aw⟩
  ·refine Al f Z aA ?_
   refine Am ?_
   refine Ag (Ak (Af ?_))
   have⟨aB,aC,aw⟩:=bind_some aw
   refine Bi T27 f Z Z Z ac aC λaD aE a aF aG f=>AH m Bj f Z Z aF λa f=>Ac f Z λa f=>Aa (Ap ?_)
   refine Ab f Z λa f=>Ab f Z λa f=> ?_
   have⟨aH,aI,aw⟩:=bind_some aw
   refine Bk f Z call120 (Wk.N m aG aI) λaJ w aK m a f=> ?_
   have az:=od1 aK az
   refine By (R:=(RI .u32)) (xs:=([aH]:LI)) (RI.one _) m T60 f Z Z Z (by decide) (All2.cons Z (All2.nil _)) λaL aM w a m aN f=> ?_
   have⟨aO,aP,aw⟩:=bind_some aw
   refine BR (RI.one _) 1 m az Z T60 Z (by decide) f Z Z Z (Ow.src (j:=0) aN m Z) aP λaQ aR w a m aS f=>Ac f Z λa f=>Aa (Ap ?_)
   refine Ai f Z Z Az λa f=>Ab f Z λa f=>Aa ?_
   have m:=m.fr 1
   have m:=m.eraseAt 1
   obtain rfl:=sj aw
   exact⟨_,Z,_,_,Z,_,aR,aQ,(gt ay aK),f.k Z,m,aS⟩
  ·refine Aj f Z aA ?_
   refine AE Z ?_
   obtain rfl:=sj aw
   obtain rfl:=ax _ rfl
   exact⟨_,Z,_,ar,au,ay,f.k Z,m,az⟩
 ·rintro a w ⟨aj,rfl,ak,al,am,aT,f,m,aU⟩
  refine Af ?_
  refine Ab f Z λa f=>Ac f Z λa f=>Aa ?_
  refine Ax ?_
  obtain rfl:=sj hd
  exact⟨[al],f.g Z,f.d,_,[am],aT,m,_,_,Z,Z,aU⟩
theorem Wk.u {x0:Int}(hW:Cs W)(m:Mem W G w (H)){y:Int}(hd:D.u x0=some y):
  Calls prog 121 #[(.int .u32 x0)] w (Res W G H (λ_ Ho v=>Ho=[]∧v=(iv y))):=by
 refine AB (args:=[(.int .u32 x0)]) (N:=5) [.tmp 2] func121 Z Z (lb Z) Z λa f=> ?_
 unfold D.u at hd
 refine Af ?_
 refine Ac f Z λa f=>AG ?_
 refine Ab f Z λa f=> ?_
 have⟨aa,ab,hd⟩:=bind_some hd
 refine Bk f Z call149 (Wk.I0 hW m ab) λac w ad m a f=>Ac f Z λa f=>Aa ?_
 refine Ax ?_
 obtain rfl:=sj hd
 exact⟨[(iv aa)],f.g Z,f.d,_,[],ad,m,Z,Z⟩
theorem Wk.g {x0:Int}(hW:Cs W)(m:Mem W G w (H)){y:(LI)}(hd:D.g x0=some y):
  Calls prog 54 #[(.int .u32 x0)] w (Res W G H (λG' Ho v=>∃r0:Value,∃i0:Itm,Ho=[i0]∧r0=v∧Ow R0 3 G' i0 r0 y)):=by
 refine AB (args:=[(.int .u32 x0)]) (N:=17) [.tmp 2] func54 Z Z (lb Z) Z λa f=> ?_
 unfold D.g at hd
 refine Af ?_
 refine Ac f Z λa f=>AG ?_
 refine By (R:=R0) (xs:=([]:LI)) (RI.one _) m T65 f Z Z Z (by decide) (All2.nil _) λaa ab w a m ac f=>Ac f Z λa f=>Aa (Ag ?_)
 have⟨ad,ae,hd⟩:=bind_some hd
 refine AN (λa w=>∃af:LI,af=ad∧∃(ag:GH) (ah:Value) (ai:Itm),GLe G ag∧Fr a 17 [(3,ah)]∧Mem W ag w (ai::H)∧Ow R0 3 ag ai ah af) ?_ ?_
 ·refine Ak ?_
  refine AI (λaj a w=>∃ak:Int,∃al:LI,(ak,al)=aj∧∃(am:GH) (an:Value) (ao:Itm),GLe G am∧Fr a 17 [(0,(.int .u32 ak)),(3,an)]∧Mem W am w (ao::H)∧Ow R0 3 am ao an al) ae ⟨_,_,Z,_,ab,aa,gr,f.k Z,m,ac⟩ ?_
  clear ae f m
  rintro aj ap aq ar a w ⟨ak,al,rfl,am,an,ao,au,f,m,av⟩
  refine Ag (Af ?_)
  refine Ab f Z λa f=>Ai f Z Z Cy λa f=>Aa ?_
  rcases Ae aq with⟨aw,aq⟩|⟨aw,aq⟩
  ·refine Al f Z aw ?_
   refine Am ?_
   refine Ag (Ak (Ap ?_))
   refine Ab f Z λa f=>Ab f Z λa f=> ?_
   have⟨ax,ay,aq⟩:=bind_some aq
   refine Bk f Z call121 (Wk.u hW m ay) λaz w aA m a f=> ?_
   have av:=od1 aA av
   refine By (R:=R0) (xs:=([ax]:LI)) (RI.one _) m T65 f Z Z Z (by decide) (All2.cons Z (All2.nil _)) λaB aC w a m aD f=> ?_
   have⟨aE,aF,aq⟩:=bind_some aq
   refine BR (RI.one _) 1 m av Z T65 Z (by decide) f Z Z Z (Ow.src (j:=0) aD m Z) aF λaG aH w a m aI f=>Ac f Z λa f=>Aa (Ap ?_)
   refine Ab f Z λa f=>Ab f Z λa f=>Ai f Z Z A3 λa f=>Ai f Z Z b_and λa f=>Ac f Z λa f=>Aa ?_
   have m:=m.fr 1
   have m:=m.eraseAt 1
   obtain rfl:=sj aq
   exact⟨_,Z,_,_,Z,_,aH,aG,(gt au aA),f.k Z,m,aI⟩
  ·refine Aj f Z aw ?_
   refine AE Z ?_
   obtain rfl:=sj aq
   obtain rfl:=ar _ rfl
   exact⟨_,Z,_,an,ao,au,f.k Z,m,av⟩
 ·rintro a w ⟨af,rfl,ag,ah,ai,aJ,f,m,aK⟩
  refine Af ?_
  refine Ab f Z λa f=>Ac f Z λa f=>Aa ?_
  refine Ax ?_
  obtain rfl:=sj hd
  exact⟨[ah],f.g Z,f.d,_,[ai],aJ,m,_,_,Z,Z,aK⟩
theorem Wk.a {aa ab ac ad:Int}(m:Mem W G w (H)){y:Int}(hd:D.a aa ab ac ad=some y):
  Calls prog 147 #[(.agg #[(iv aa),(iv ab)]),(.agg #[(iv ac),(iv ad)])] w (Res W G H (λ_ Ho v=>Ho=[]∧v=(iv y))):=by
 refine AB (args:=[(.agg #[(iv aa),(iv ab)]),(.agg #[(iv ac),(iv ad)])]) (N:=20) [.tmp 4] func147 Z Z (lb Z) Z λa f=> ?_
 unfold D.a at hd
 refine Af ?_
 refine BB (cs:=[(iv aa),(iv ab)]) m f Z Z Z λae w a m f=>BB (cs:=[(iv ac),(iv ad)]) m f Z Z Z λaf w a m f=>Ac f Z λa f=>Aa (Ag (Af ?_))
 refine Bp underlying99 Z sizeOf3 f Z λa f=>AM 1 0 m Pl3 f Z Z Z Z λa f=>Bp underlying99 Z sizeOf3 f Z λa f=>AM 0 0 m Pl3 f Z Z Z Z λa f=>Ai f Z Z Cy λa f=>Aa ?_
 rcases Ae hd with⟨ag,hd⟩|⟨ag,hd⟩
 ·refine Al f Z ag ?_
  refine Af ?_
  refine Bp underlying99 Z sizeOf3 f Z λa f=>AM 1 0 m Pl3 f Z Z Z Z λa f=>Bp underlying99 Z sizeOf3 f Z λa f=>AM 0 0 m Pl3 f Z Z Z Z λa f=>Ai f Z Z A3 λa f=>Ac f Z λa f=>Aa ?_
  refine Ax ?_
  have m:Mem W G w H:=Mem.drop (H':=[ib af 99 [(iv ac),(iv ad)],ib ae 99 [(iv aa),(iv ab)]]) m
  obtain rfl:=sj hd
  exact⟨[(iv (i64.wrap (aa-ac)))],f.g Z,f.d,_,[],gr,m,Z,Z⟩
 ·refine Aj f Z ag ?_
  refine Am ?_
  refine Af ?_
  refine Bp underlying99 Z sizeOf3 f Z λa f=>AM 1 1 m Pl3 f Z Z Z Z λa f=>Bp underlying99 Z sizeOf3 f Z λa f=>AM 0 1 m Pl3 f Z Z Z Z λa f=>Ai f Z Z A3 λa f=>Ac f Z λa f=>Aa ?_
  refine Ax ?_
  have m:Mem W G w H:=Mem.drop (H':=[ib af 99 [(iv ac),(iv ad)],ib ae 99 [(iv aa),(iv ab)]]) m
  obtain rfl:=sj hd
  exact⟨[(iv (i64.wrap (ab-ad)))],f.g Z,f.d,_,[],gr,m,Z,Z⟩
theorem Wk.H0 {v0:Value}{it0:Itm}{x0:(List (Int×Int))}{x1 x2:Int}(m:Mem W G w (it0::H))(o0:OwR P2 99 G it0 v0 x0){y:((List (Int×Int)))}(hd:D.H0 x0 x1 x2=some y):
  Calls prog 168 #[v0,(iv x1),(iv x2),(.func (.func 147) #[] #[])] w (Res W G H (λG' Ho _=>∃i0:Itm,Ho=[i0]∧OwR P2 99 G' i0 v0 y)):=by
 refine AB (args:=[v0,(iv x1),(iv x2),(.func (.func 147) #[] #[])]) (N:=53) [] func168 Z Z (lb Z) Z λa f=> ?_
 unfold D.H0 at hd
 refine Af ?_
 refine Ab f Z λa f=>Ai f Z Z Az λa f=>Ac f Z λa f=>Aa ?_
 have⟨aa,ab,hd⟩:=bind_some hd
 refine AN (λa w=>∃ac:List (Int×Int),ac=aa∧∃(ad:GH) (ae:Itm),GLe G ad∧Fr a 53 []∧Mem W ad w (ae::H)∧OwR P2 99 ad ae v0 ac) ?_ ?_
 ·refine Ak ?_
  refine AI (λaf a w=>∃ag:List (Int×Int),∃ah:Int,(ag,ah)=af∧∃(ai:GH) (aj:Itm),GLe G ai∧Fr a 53 [(0,v0),(1,(iv x1)),(2,(iv x2)),(3,(.func (.func 147) #[] #[])),(8,(iv ah))]∧Mem W ai w (aj::H)∧OwR P2 99 ai aj v0 ag) ab ⟨_,_,Z,_,it0,gr,f.k Z,m,o0⟩ ?_
  clear ab f m
  rintro af ak al am a w ⟨ag,ah,rfl,ai,aj,an,f,m,ao⟩
  refine Ag (Af ?_)
  refine Ab f Z λa f=>Ab f Z λa f=>Ai f Z Z AP λa f=>Aa ?_
  rcases Ae al with⟨ap,al⟩|⟨ap,al⟩
  ·refine Al f Z ap ?_
   refine Am ?_
   refine Ag (Ak (Af ?_))
   refine Ab f Z λa f=>Ac f Z λa f=>Aa ?_
   have⟨aq,ar,al⟩:=bind_some al
   refine AN (λa w=>∃au:List (Int×Int),au=aq∧∃(av:GH) (aw:Itm),GLe ai av∧Fr a 53 [(0,v0),(1,(iv x1)),(2,(iv x2)),(3,(.func (.func 147) #[] #[])),(8,(iv ah))]∧Mem W av w (aw::H)∧OwR P2 99 av aw v0 au) ?_ ?_
   ·refine Ak ?_
    refine AI (λax a w=>∃ay:List (Int×Int),∃az:Int,(ay,az)=ax∧∃(aA:GH) (aB:Itm),GLe ai aA∧Fr a 53 [(0,v0),(1,(iv x1)),(2,(iv x2)),(3,(.func (.func 147) #[] #[])),(8,(iv ah)),(9,(iv az))]∧Mem W aA w (aB::H)∧OwR P2 99 aA aB v0 ay) ar ⟨_,_,Z,_,aj,gr,f.k Z,m,ao⟩ ?_
    clear ar f m
    rintro ax aC aD aE a w ⟨ay,az,rfl,aA,aB,aF,f,m,aG⟩
    refine Ag (Ag ?_)
    refine A9 17 AJ (by kernel_rfl) m ?_
    refine Ah 0 17 Z f Z λa f=>Ah 1 17 Z f Z λa f=>q_p 2 17 Z f (λ_=>AL (f.e Z) (f.e Z) Cx) λa f=>Ah 3 17 Z f Z λa f=> ?_
    have⟨aH,aI,aD⟩:=bind_some aD
    refine Cf (fuel':=0) (listed':= #[true,true,true,true,true,true,true,true,true,true,true,true,true,true,true,true,true]) (λa=>Fr a 53 [(0,v0),(1,(iv x1)),(2,(iv x2)),(3,(.func (.func 147) #[] #[])),(8,(iv ah)),(9,(iv az)),(18,(iv az)),(19,(iv x1)),(20,(.bool (decide (x1<az)))),(21,(.bool (decide (x1<az)))),(34,(.bool aH))]) ?_ ?_
    ·intro a f
     refine AZ λaJ w aK m=> ?_
     have aG:=OwR.mono trivial aK aG
     refine Aa ?_
     rcases Ae aD with⟨aL,aD⟩|⟨aL,aD⟩
     ·refine Al f Z aL ?_
      refine Am ?_
      refine Ag (Ak ?_)
      refine BS AJ m ?_
      refine p_p 2 Z f (λ_=>Bh (f.e Z)) λa f=>p_p 3 Z f (λ_=>Bh (f.e Z)) λa f=>p_p 4 Z f (λ_=>AL (f.e Z) (f.e Z) A3) λa f=>BU 28015 12 (by kernel_rfl) Z ?_
      refine Ah 0 28015 Z f Z λa f=>Ah 1 28015 Z f Z λa f=>Ah 5 28015 Z f Z λa f=>Ah 6 28015 Z f Z λa f=>q_p 7 28015 Z f (λ_=>AL (f.e Z) (f.e Z) A3) λa f=> ?_
      have⟨aM,aN,aD⟩:=bind_some aD
      refine Au (i:=8) (listed':= #[true,true,true,true,true,true,true,true,true,false,false,false,false,false,false,false,false,false]) (C:=P2) 28015 0 m aG Z AR aN Z (by kernel_rfl) Z f Z Z Z Z λaO a aP f=>Aw (i:=9) (listed':= #[true,true,true,true,true,true,true,true,true,true,false,false,false,false,false,false,false,false]) (C:=P2) [(iv aM.1),(iv aM.2)] 28015 0 aG Z Bb aP aN Z Z (by kernel_rfl) Z f Z Z Z λa f=>Ah 10 28015 Z f Z λa f=>Ah 11 28015 Z f Z λa f=> ?_
      have⟨aQ,aR,aD⟩:=bind_some aD
      refine Au (i:=12) (listed':= #[true,true,true,true,true,true,true,true,true,true,true,true,true,false,false,false,false,false]) (C:=P2) 28015 0 m aG Z AR aR Z (by kernel_rfl) Z f Z Z Z Z λaS a aT f=>Aw (i:=13) (listed':= #[true,true,true,true,true,true,true,true,true,true,true,true,true,true,false,false,false,false]) (C:=P2) [(iv aQ.1),(iv aQ.2)] 28015 0 aG Z Bb aT aR Z Z (by kernel_rfl) Z f Z Z Z λa f=> ?_
      have⟨aU,aV,aD⟩:=bind_some aD
      refine Au (i:=14) (listed':= #[true,true,true,true,true,true,true,true,true,true,true,true,true,true,true,false,false,false]) (C:=P2) 28015 0 m aG Z AR aV Z (by kernel_rfl) Z f Z Z Z Z λaW a aX f=>AZ λaY w aZ m=> ?_
      have aG:=OwR.mono trivial aZ aG
      refine AU (E:=P2) (y':=(aM.1,aM.2)) [(iv aM.1),(iv aM.2)] 0 m aG Z sizeOf99 f Z Z aX aV Z (Ao Z (Ao Z AF)) (lb Z) Z λa0 w m a1=> ?_
      have⟨a2,a3,aD⟩:=bind_some aD
      refine Bt 0 m a1 Z AR f Z Z Z a3 λa4 a a5 f=>AU (E:=P2) (y':=(aQ.1,aQ.2)) [(iv aQ.1),(iv aQ.2)] 0 m a1 Z sizeOf99 f Z Z a5 a3 Z (Ao Z (Ao Z AF)) (lb Z) Z λa6 w m a7=>Aa (Ap ?_)
      refine Ab f Z λa f=>Ai f Z Z A3 λa f=>Ac f Z λa f=>Aa ?_
      obtain rfl:=sj aD
      exact⟨_,Z,_,_,Z,_,a6,(gt aF (gt aK aZ)),f.k Z,m,a7⟩
     ·refine Aj f Z aL ?_
      refine AE Z ?_
      obtain rfl:=sj aD
      obtain rfl:=aE _ rfl
      exact⟨_,Z,_,aB,(gt aF aK),f.k Z,m,aG⟩
    ·intro a8
     rcases Ae aI with⟨a9,aI⟩|⟨a9,aI⟩
     ·refine Ah (hw:=wo f a9) 4 17 Z f Z λa f=> ?_
      refine Ah (hw:=wo f a9) 5 17 Z f Z λa f=>Ah (hw:=wo f a9) 6 17 Z f Z λa f=> ?_
      have⟨ba,bb,aI⟩:=bind_some aI
      refine Au (i:=7) (listed':= #[true,true,true,true,true,true,true,true,false,false,false,false,false,false,false,false,false]) (C:=P2) 17 0 m aG Z AR bb Z (by kernel_rfl) Z f (Ay f Z Z Z a9) Z Z Z λbc a bd f=>Aw (i:=8) (listed':= #[true,true,true,true,true,true,true,true,true,false,false,false,false,false,false,false,false]) (C:=P2) [(iv ba.1),(iv ba.2)] 17 0 aG Z Bb bd bb Z Z (by kernel_rfl) Z f (Ay f Z Z Z a9) Z Z λa f=>Ah (hw:=wo f a9) 9 17 Z f Z λa f=>Ah (hw:=wo f a9) 10 17 Z f Z λa f=>q_p (hw:=wo f a9) 11 17 Z f (λ_=>AL (f.e Z) (f.e Z) A3) λa f=> ?_
      have⟨be,bf,aI⟩:=bind_some aI
      refine Au (i:=12) (listed':= #[true,true,true,true,true,true,true,true,true,true,true,true,true,false,false,false,false]) (C:=P2) 17 0 m aG Z AR bf Z (by kernel_rfl) Z f (Ay f Z Z Z a9) Z Z Z λbg a bh f=>Aw (i:=13) (listed':= #[true,true,true,true,true,true,true,true,true,true,true,true,true,true,false,false,false]) (C:=P2) [(iv be.1),(iv be.2)] 17 0 aG Z Bb bh bf Z Z (by kernel_rfl) Z f (Ay f Z Z Z a9) Z Z λa f=> ?_
      have⟨bi,bj,aI⟩:=bind_some aI
      refine B6 (i:=14) 17 Z (by kernel_rfl) Z f (Ay f Z Z Z a9) Z Z Z call147 (λ_ _ w bk m=>Wk.a m bj) λa f=>q_p (hw:=wo f a9) 15 17 Z f (λ_=>AL (f.e Z) (f.e Z) AP) λa f=>q_p 16 17 Z f (λ_=>AT (f.e Z) a9 (f.e Z)) λa f=> ?_
      obtain rfl:=sj aI
      exact a8 _ (f.k Z)
     ·refine Aq 4 17 Z f a9 λa f=> ?_
      refine Aq 5 17 Z f a9 λa f=>Aq 6 17 Z f a9 λa f=>Aq 7 17 Z f a9 λa f=>Aq 8 17 Z f a9 λa f=>Aq 9 17 Z f a9 λa f=>Aq 10 17 Z f a9 λa f=>Aq 11 17 Z f a9 λa f=>Aq 12 17 Z f a9 λa f=>Aq 13 17 Z f a9 λa f=>Aq 14 17 Z f a9 λa f=>Aq 15 17 Z f a9 λa f=>q_p 16 17 Z f (λ_=>AS (f.e Z) a9 (f.e Z)) λa f=> ?_
      obtain rfl:=sj aI
      exact a8 _ (f.k Z)
   ·rintro a w ⟨au,rfl,av,aw,bl,f,m,bm⟩
    refine Ap ?_
    refine Ab f Z λa f=>Ai f Z Z Az λa f=>Ac f Z λa f=>Aa ?_
    obtain rfl:=sj al
    exact⟨_,Z,_,_,Z,_,aw,(gt an bl),f.k Z,m,bm⟩
  ·refine Aj f Z ap ?_
   refine AE Z ?_
   obtain rfl:=sj al
   obtain rfl:=am _ rfl
   exact⟨_,Z,_,aj,an,f.weak trivial,m,ao⟩
 ·rintro a w ⟨ac,rfl,ad,ae,bn,f,m,bo⟩
  obtain rfl:=sj hd
  exact⟨[],trivial,f.d,_,[ae],bn,m,_,Z,bo⟩
theorem Wk.f0 {v0:Value}{it0:Itm}{x0:(List (Int×Int))}{x1 x2 x3:Int}(m:Mem W G w (it0::H))(o0:OwR P2 99 G it0 v0 x0){y:((List (Int×Int)))}(hd:D.f0 x0 x1 x2 x3=some y):
  Calls prog 189 #[v0,(iv x1),(iv x2),(iv x3),(.func (.func 147) #[] #[])] w (Res W G H (λG' Ho _=>∃i0:Itm,Ho=[i0]∧OwR P2 99 G' i0 v0 y)):=by
 refine AB (args:=[v0,(iv x1),(iv x2),(iv x3),(.func (.func 147) #[] #[])]) (N:=82) [] func189 Z Z (lb Z) Z λa f=> ?_
 unfold D.f0 at hd
 refine Af ?_
 refine Ab f Z λa f=>Ac f Z λa f=>Aa ?_
 have⟨aa,ab,hd⟩:=bind_some hd
 refine AN (λa w=>∃q_150':(List (Int×Int)),aa= .inl q_150'∧∃ac:List (Int×Int),ac=q_150'∧∃(ad:GH) (ae:Itm),GLe G ad∧Fr a 82 []∧Mem W ad w (ae::H)∧OwR P2 99 ad ae v0 ac) ?_ ?_
 ·refine Ak ?_
  refine AI (λaf a w=>∃ag:List (Int×Int),∃ah:Int,(ag,ah)=af∧∃(ai:GH) (aj:Itm),GLe G ai∧Fr a 82 [(0,v0),(2,(iv x2)),(3,(iv x3)),(4,(.func (.func 147) #[] #[])),(10,(iv ah))]∧Mem W ai w (aj::H)∧OwR P2 99 ai aj v0 ag) ab ⟨_,_,Z,_,it0,gr,f.k Z,m,o0⟩ ?_
  clear ab f m
  rintro af ak al am a w ⟨ag,ah,rfl,ai,aj,an,f,m,ao⟩
  refine Ak (Af ?_)
  refine Ab f Z λa f=>Ai f Z Z Dl λa f=>Ai f Z Z Az λa f=>Ac f Z λa f=>Aa (Ag (Af ?_))
  refine Ab f Z λa f=>Ab f Z λa f=>Ai f Z Z Ci λa f=>Aa ?_
  rcases Ae al with⟨ap,al⟩|⟨ap,al⟩
  ·refine Al f Z ap ?_
   refine AE Z ?_
   obtain rfl:=sj al
   obtain rfl:=am _ rfl
   exact⟨_,Z,_,Z,_,aj,an,f.weak trivial,m,ao⟩
  ·refine Aj f Z ap ?_
   refine Am ?_
   refine Ag (Ag ?_)
   refine A9 22 AJ (by kernel_rfl) m ?_
   refine Ah 0 22 Z f Z λa f=>q_p 1 22 Z f (λ_=>AL (f.e Z) (f.e Z) Az) λa f=>Ah 2 22 Z f Z λa f=>q_p 3 22 Z f (λ_=>AL (f.e Z) (f.e Z) AP) λa f=>Ah 4 22 Z f Z λa f=> ?_
   have⟨aq,ar,al⟩:=bind_some al
   refine Cf (fuel':=0) (listed':= #[true,true,true,true,true,true,true,true,true,true,true,true,true,true,true,true,true,true,true,true,true,true]) (λa=>Fr a 82 [(0,v0),(2,(iv x2)),(3,(iv x3)),(4,(.func (.func 147) #[] #[])),(10,(iv ah)),(11,(iv (i64.wrap ((i64.wrap (2*ah))+1)))),(18,(.bool (decide (x2≤(i64.wrap ((i64.wrap (2*ah))+1)))))),(19,(iv (i64.wrap ((i64.wrap (2*ah))+1)))),(20,(iv (i64.wrap ((i64.wrap ((i64.wrap (2*ah))+1))+1)))),(21,(iv x2)),(22,(.bool (decide ((i64.wrap ((i64.wrap ((i64.wrap (2*ah))+1))+1))<x2)))),(23,(.bool (decide ((i64.wrap ((i64.wrap ((i64.wrap (2*ah))+1))+1))<x2)))),(40,(.bool aq))]) ?_ ?_
   ·intro a f
    refine AZ λau w av m=> ?_
    have ao:=OwR.mono trivial av ao
    refine Aa ?_
    have⟨aw,ax,al⟩:=bind_some al
    refine AN (λa w=>∃ay:Int,ay=aw∧∃(az:GH),GLe au az∧Fr a 82 [(0,v0),(2,(iv x2)),(3,(iv x3)),(4,(.func (.func 147) #[] #[])),(10,(iv ah)),(11,(iv ay))]∧Mem W az w (aj::H)) ?_ ?_
    ·rcases Ae ax with⟨aA,ax⟩|⟨aA,ax⟩
     ·refine Al f Z aA ?_
      refine Ap ?_
      refine Ab f Z λa f=>Ai f Z Z Az λa f=>Ac f Z λa f=>Aa ?_
      obtain rfl:=sj ax
      exact⟨_,Z,_,gr,f.k Z,m⟩
     ·refine Aj f Z aA ?_
      refine Am ?_
      obtain rfl:=sj ax
      exact⟨_,Z,_,gr,f.k Z,m⟩
    ·rintro a w ⟨ay,rfl,az,aB,f,m⟩
     have ao:=OwR.mono trivial aB ao
     refine Ag (Ag ?_)
     refine A9 16 AJ (by kernel_rfl) m ?_
     refine Ah 0 16 Z f Z λa f=>Ah 1 16 Z f Z λa f=>Ah 2 16 Z f Z λa f=>Ah 3 16 Z f Z λa f=>q_p 4 16 Z f (λ_=>AL (f.e Z) (f.e Z) Az) λa f=> ?_
     have⟨aC,aD,al⟩:=bind_some al
     refine Au (i:=5) (listed':= #[true,true,true,true,true,true,false,false,false,false,false,false,false,false,false,false]) (C:=P2) 16 0 m ao Z AR aD Z (by kernel_rfl) Z f Z Z Z Z λaE a aF f=>Aw (i:=6) (listed':= #[true,true,true,true,true,true,true,false,false,false,false,false,false,false,false,false]) (C:=P2) [(iv aC.1),(iv aC.2)] 16 0 ao Z Bb aF aD Z Z (by kernel_rfl) Z f Z Z Z λa f=>Ah 7 16 Z f Z λa f=>Ah 8 16 Z f Z λa f=>Ah 9 16 Z f Z λa f=>q_p 10 16 Z f (λ_=>AL (f.e Z) (f.e Z) Az) λa f=> ?_
     have⟨aG,aH,al⟩:=bind_some al
     refine Au (i:=11) (listed':= #[true,true,true,true,true,true,true,true,true,true,true,true,false,false,false,false]) (C:=P2) 16 0 m ao Z AR aH Z (by kernel_rfl) Z f Z Z Z Z λaI a aJ f=>Aw (i:=12) (listed':= #[true,true,true,true,true,true,true,true,true,true,true,true,true,false,false,false]) (C:=P2) [(iv aG.1),(iv aG.2)] 16 0 ao Z Bb aJ aH Z Z (by kernel_rfl) Z f Z Z Z λa f=> ?_
     have⟨aK,aL,al⟩:=bind_some al
     refine B6 (i:=13) 16 Z (by kernel_rfl) Z f Z Z Z Z call147 (λ_ _ w aM m=>Wk.a m aL) λa f=>q_p 14 16 Z f (λ_=>AL (f.e Z) (f.e Z) AP) λa f=>q_p 15 16 Z f (λ_=>Bn (f.e Z)) λa f=>AZ λaN w aO m=> ?_
     have ao:=OwR.mono trivial aO ao
     refine Aa ?_
     rcases Ae al with⟨aP,al⟩|⟨aP,al⟩
     ·refine Al f Z aP ?_
      refine Ax ?_
      obtain rfl:=sj al
      obtain rfl:=am _ rfl
      obtain rfl:=sj hd
      exact⟨[],trivial,f.d,_,[aj],(gt an (gt av (gt aB aO))),m,_,Z,ao⟩
     ·refine Aj f Z aP ?_
      refine Am ?_
      refine Ag ?_
      refine BS AJ m ?_
      refine p_p 4 Z f (λ_=>Bh (f.e Z)) λa f=>p_p 5 Z f (λ_=>Bh (f.e Z)) λa f=>p_p 6 Z f (λ_=>Bh (f.e Z)) λa f=>p_p 7 Z f (λ_=>AL (f.e Z) (f.e Z) Az) λa f=>BU 240021 17 (by kernel_rfl) Z ?_
      refine Ah 0 240021 Z f Z λa f=>Ah 1 240021 Z f Z λa f=>Ah 2 240021 Z f Z λa f=>q_p 3 240021 Z f (λ_=>AL (f.e Z) (f.e Z) Az) λa f=>Ah 8 240021 Z f Z λa f=>Ah 9 240021 Z f Z λa f=>Ah 10 240021 Z f Z λa f=>q_p 11 240021 Z f (λ_=>AL (f.e Z) (f.e Z) Az) λa f=> ?_
      have⟨aQ,aR,al⟩:=bind_some al
      refine Au (i:=12) (listed':= #[true,true,true,true,true,true,true,true,true,true,true,true,true,false,false,false,false,false,false,false,false,false,false,false]) (C:=P2) 240021 0 m ao Z AR aR Z (by kernel_rfl) Z f Z Z Z Z λaS a aT f=>Aw (i:=13) (listed':= #[true,true,true,true,true,true,true,true,true,true,true,true,true,true,false,false,false,false,false,false,false,false,false,false]) (C:=P2) [(iv aQ.1),(iv aQ.2)] 240021 0 ao Z Bb aT aR Z Z (by kernel_rfl) Z f Z Z Z λa f=>Ah 14 240021 Z f Z λa f=>Ah 15 240021 Z f Z λa f=>Ah 16 240021 Z f Z λa f=>q_p 17 240021 Z f (λ_=>AL (f.e Z) (f.e Z) Az) λa f=> ?_
      have⟨aU,aV,al⟩:=bind_some al
      refine Au (i:=18) (listed':= #[true,true,true,true,true,true,true,true,true,true,true,true,true,true,true,true,true,true,true,false,false,false,false,false]) (C:=P2) 240021 0 m ao Z AR aV Z (by kernel_rfl) Z f Z Z Z Z λaW a aX f=>Aw (i:=19) (listed':= #[true,true,true,true,true,true,true,true,true,true,true,true,true,true,true,true,true,true,true,true,false,false,false,false]) (C:=P2) [(iv aU.1),(iv aU.2)] 240021 0 ao Z Bb aX aV Z Z (by kernel_rfl) Z f Z Z Z λa f=> ?_
      have⟨aY,aZ,al⟩:=bind_some al
      refine Au (i:=20) (listed':= #[true,true,true,true,true,true,true,true,true,true,true,true,true,true,true,true,true,true,true,true,true,false,false,false]) (C:=P2) 240021 0 m ao Z AR aZ Z (by kernel_rfl) Z f Z Z Z Z λa0 a a1 f=>AZ λa2 w a3 m=> ?_
      have ao:=OwR.mono trivial a3 ao
      refine AU (E:=P2) (y':=(aQ.1,aQ.2)) [(iv aQ.1),(iv aQ.2)] 0 m ao Z sizeOf99 f Z Z a1 aZ Z (Ao Z (Ao Z AF)) (lb Z) Z λa4 w m a5=> ?_
      have⟨a6,a7,al⟩:=bind_some al
      refine Bt 0 m a5 Z AR f Z Z Z a7 λa8 a a9 f=>AU (E:=P2) (y':=(aU.1,aU.2)) [(iv aU.1),(iv aU.2)] 0 m a5 Z sizeOf99 f Z Z a9 a7 Z (Ao Z (Ao Z AF)) (lb Z) Z λba w m bb=>Aa (Ap ?_)
      refine Ab f Z λa f=>Ac f Z λa f=>Aa ?_
      obtain rfl:=sj al
      exact⟨_,Z,_,_,Z,_,ba,(gt an (gt av (gt aB (gt aO a3)))),f.k Z,m,bb⟩
   ·intro bc
    rcases Ae ar with⟨bd,ar⟩|⟨bd,ar⟩
    ·refine Ah (hw:=wo f bd) 5 22 Z f Z λa f=> ?_
     refine Ah (hw:=wo f bd) 6 22 Z f Z λa f=>Ah (hw:=wo f bd) 7 22 Z f Z λa f=>Ah (hw:=wo f bd) 8 22 Z f Z λa f=>q_p (hw:=wo f bd) 9 22 Z f (λ_=>AL (f.e Z) (f.e Z) Az) λa f=> ?_
     have⟨be,bf,ar⟩:=bind_some ar
     refine Au (i:=10) (listed':= #[true,true,true,true,true,true,true,true,true,true,true,false,false,false,false,false,false,false,false,false,false,false]) (C:=P2) 22 0 m ao Z AR bf Z (by kernel_rfl) Z f (Ay f Z Z Z bd) Z Z Z λbg a bh f=>Aw (i:=11) (listed':= #[true,true,true,true,true,true,true,true,true,true,true,true,false,false,false,false,false,false,false,false,false,false]) (C:=P2) [(iv be.1),(iv be.2)] 22 0 ao Z Bb bh bf Z Z (by kernel_rfl) Z f (Ay f Z Z Z bd) Z Z λa f=>Ah (hw:=wo f bd) 12 22 Z f Z λa f=>Ah (hw:=wo f bd) 13 22 Z f Z λa f=>Ah (hw:=wo f bd) 14 22 Z f Z λa f=>q_p (hw:=wo f bd) 15 22 Z f (λ_=>AL (f.e Z) (f.e Z) Az) λa f=>q_p (hw:=wo f bd) 16 22 Z f (λ_=>AL (f.e Z) (f.e Z) Az) λa f=> ?_
     have⟨bi,bj,ar⟩:=bind_some ar
     refine Au (i:=17) (listed':= #[true,true,true,true,true,true,true,true,true,true,true,true,true,true,true,true,true,true,false,false,false,false]) (C:=P2) 22 0 m ao Z AR bj Z (by kernel_rfl) Z f (Ay f Z Z Z bd) Z Z Z λbk a bl f=>Aw (i:=18) (listed':= #[true,true,true,true,true,true,true,true,true,true,true,true,true,true,true,true,true,true,true,false,false,false]) (C:=P2) [(iv bi.1),(iv bi.2)] 22 0 ao Z Bb bl bj Z Z (by kernel_rfl) Z f (Ay f Z Z Z bd) Z Z λa f=> ?_
     have⟨bm,bn,ar⟩:=bind_some ar
     refine B6 (i:=19) 22 Z (by kernel_rfl) Z f (Ay f Z Z Z bd) Z Z Z call147 (λ_ _ w bo m=>Wk.a m bn) λa f=>q_p (hw:=wo f bd) 20 22 Z f (λ_=>AL (f.e Z) (f.e Z) AP) λa f=>q_p 21 22 Z f (λ_=>AT (f.e Z) bd (f.e Z)) λa f=> ?_
     obtain rfl:=sj ar
     exact bc _ (f.k Z)
    ·refine Aq 5 22 Z f bd λa f=> ?_
     refine Aq 6 22 Z f bd λa f=>Aq 7 22 Z f bd λa f=>Aq 8 22 Z f bd λa f=>Aq 9 22 Z f bd λa f=>Aq 10 22 Z f bd λa f=>Aq 11 22 Z f bd λa f=>Aq 12 22 Z f bd λa f=>Aq 13 22 Z f bd λa f=>Aq 14 22 Z f bd λa f=>Aq 15 22 Z f bd λa f=>Aq 16 22 Z f bd λa f=>Aq 17 22 Z f bd λa f=>Aq 18 22 Z f bd λa f=>Aq 19 22 Z f bd λa f=>Aq 20 22 Z f bd λa f=>q_p 21 22 Z f (λ_=>AS (f.e Z) bd (f.e Z)) λa f=> ?_
     obtain rfl:=sj ar
     exact bc _ (f.k Z)
 ·rintro a w ⟨_,rfl,ac,rfl,ad,ae,bp,f,m,bq⟩
  obtain rfl:=sj hd
  exact⟨[],trivial,f.d,_,[ae],bp,m,_,Z,bq⟩
theorem Wk.D0 {v0:Value}{it0:Itm}{x0:(List (Int×Int))}{x1 x2:Int}(m:Mem W G w (it0::H))(o0:OwR P2 99 G it0 v0 x0){y:((List (Int×Int)))}(hd:D.D0 x0 x1 x2=some y):
  Calls prog 169 #[v0,(iv x1),(iv x2),(.func (.func 147) #[] #[])] w (Res W G H (λG' Ho _=>∃i0:Itm,Ho=[i0]∧OwR P2 99 G' i0 v0 y)):=by
 refine AB (args:=[v0,(iv x1),(iv x2),(.func (.func 147) #[] #[])]) (N:=60) [] func169 Z Z (lb Z) Z λa f=> ?_
 unfold D.D0 at hd
 refine Af ?_
 refine Ab f Z λa f=>Ac f Z λa f=>AG ?_
 refine Ac f Z λa f=>AG ?_
 refine Ab f Z λa f=>Ab f Z λa f=>Ai f Z Z A3 λa f=>Ac f Z λa f=>Aa (Ag (Af ?_))
 refine Ab f Z λa f=>Ai f Z Z A3 λa f=>Ai f Z Z (b_quo Z) λa f=>Ac f Z λa f=>Aa ?_
 have⟨aa,ab,hd⟩:=bind_some hd
 refine AN (λa w=>∃ac:List (Int×Int),ac=aa∧∃(ad:GH) (ae:Itm),GLe G ad∧Fr a 60 [(0,v0),(3,(.func (.func 147) #[] #[])),(8,(iv x1)),(9,(iv 0)),(10,(iv (i64.wrap (x2-x1))))]∧Mem W ad w (ae::H)∧OwR P2 99 ad ae v0 ac) ?_ ?_
 ·refine Ak ?_
  refine AI (λaf a w=>∃ag:List (Int×Int),∃ah:Int,(ag,ah)=af∧∃(ai:GH) (aj:Itm),GLe G ai∧Fr a 60 [(0,v0),(3,(.func (.func 147) #[] #[])),(8,(iv x1)),(9,(iv 0)),(10,(iv (i64.wrap (x2-x1)))),(11,(iv ah))]∧Mem W ai w (aj::H)∧OwR P2 99 ai aj v0 ag) ab ⟨_,_,Z,_,it0,gr,f.k Z,m,o0⟩ ?_
  clear ab f m
  rintro af ak al am a w ⟨ag,ah,rfl,ai,aj,an,f,m,ao⟩
  refine Ag (Af ?_)
  refine Ab f Z λa f=>Ai f Z Z Ci λa f=>Aa ?_
  rcases Ae al with⟨ap,al⟩|⟨ap,al⟩
  ·refine Al f Z ap ?_
   refine Am ?_
   refine Ag (Ak (Ap ?_))
   refine Ab f Z λa f=>Ab f Z λa f=>Ab f Z λa f=>Ab f Z λa f=>Ab f Z λa f=> ?_
   have⟨aq,ar,al⟩:=bind_some al
   refine A5 f Z call189 (Wk.f0 m ao ar) λau av aw w ax m ay a f=> ?_
   obtain⟨az,rfl,aA⟩:=ay
   refine Aa (Ap ?_)
   refine Ab f Z λa f=>Ai f Z Z A3 λa f=>Ac f Z λa f=>Aa ?_
   obtain rfl:=sj al
   exact⟨_,Z,_,_,Z,_,az,(gt an ax),f.k Z,m,aA⟩
  ·refine Aj f Z ap ?_
   refine AE Z ?_
   obtain rfl:=sj al
   obtain rfl:=am _ rfl
   exact⟨_,Z,_,aj,an,f.k Z,m,ao⟩
 ·rintro a w ⟨ac,rfl,ad,ae,aB,f,m,aC⟩
  refine Af ?_
  refine Ab f Z λa f=>Ai f Z Z A3 λa f=>Ac f Z λa f=>Aa ?_
  have⟨aD,aE,hd⟩:=bind_some hd
  refine AN (λa w=>∃aF:List (Int×Int),aF=aD∧∃(aG:GH) (aH:Itm),GLe ad aG∧Fr a 60 []∧Mem W aG w (aH::H)∧OwR P2 99 aG aH v0 aF) ?_ ?_
  ·refine Ak ?_
   refine AI (λaI a w=>∃aJ:List (Int×Int),∃aK:Int,(aJ,aK)=aI∧∃(aL:GH) (aM:Itm),GLe ad aL∧Fr a 60 [(0,v0),(3,(.func (.func 147) #[] #[])),(8,(iv x1)),(9,(iv 0)),(12,(iv aK))]∧Mem W aL w (aM::H)∧OwR P2 99 aL aM v0 aJ) aE ⟨_,_,Z,_,ae,gr,f.k Z,m,aC⟩ ?_
   clear aE f m
   rintro aI aN aO aP a w ⟨aJ,aK,rfl,aL,aM,aQ,f,m,aR⟩
   refine Ag (Af ?_)
   refine Ab f Z λa f=>Ai f Z Z Ci λa f=>Aa ?_
   rcases Ae aO with⟨aS,aO⟩|⟨aS,aO⟩
   ·refine Al f Z aS ?_
    refine Am ?_
    refine Ag (Ak (Ag ?_))
    refine BS AJ m ?_
    refine p_p 2 Z f (λ_=>Bh (f.e Z)) λa f=>p_p 3 Z f (λ_=>Bh (f.e Z)) λa f=>p_p 4 Z f (λ_=>Bh (f.e Z)) λa f=>p_p 5 Z f (λ_=>AL (f.e Z) (f.e Z) Az) λa f=>BU 60017 13 (by kernel_rfl) Z ?_
    refine Ah 0 60017 Z f Z λa f=>Ah 1 60017 Z f Z λa f=>Ah 6 60017 Z f Z λa f=>Ah 7 60017 Z f Z λa f=>Ah 8 60017 Z f Z λa f=>q_p 9 60017 Z f (λ_=>AL (f.e Z) (f.e Z) Az) λa f=> ?_
    have⟨aT,aU,aO⟩:=bind_some aO
    refine Au (i:=10) (listed':= #[true,true,true,true,true,true,true,true,true,true,true,false,false,false,false,false,false,false,false,false]) (C:=P2) 60017 0 m aR Z AR aU Z (by kernel_rfl) Z f Z Z Z Z λaV a aW f=>Aw (i:=11) (listed':= #[true,true,true,true,true,true,true,true,true,true,true,true,false,false,false,false,false,false,false,false]) (C:=P2) [(iv aT.1),(iv aT.2)] 60017 0 aR Z Bb aW aU Z Z (by kernel_rfl) Z f Z Z Z λa f=>Ah 12 60017 Z f Z λa f=>Ah 13 60017 Z f Z λa f=> ?_
    have⟨aX,aY,aO⟩:=bind_some aO
    refine Au (i:=14) (listed':= #[true,true,true,true,true,true,true,true,true,true,true,true,true,true,true,false,false,false,false,false]) (C:=P2) 60017 0 m aR Z AR aY Z (by kernel_rfl) Z f Z Z Z Z λaZ a a0 f=>Aw (i:=15) (listed':= #[true,true,true,true,true,true,true,true,true,true,true,true,true,true,true,true,false,false,false,false]) (C:=P2) [(iv aX.1),(iv aX.2)] 60017 0 aR Z Bb a0 aY Z Z (by kernel_rfl) Z f Z Z Z λa f=> ?_
    have⟨a1,a2,aO⟩:=bind_some aO
    refine Au (i:=16) (listed':= #[true,true,true,true,true,true,true,true,true,true,true,true,true,true,true,true,true,false,false,false]) (C:=P2) 60017 0 m aR Z AR a2 Z (by kernel_rfl) Z f Z Z Z Z λa3 a a4 f=>AZ λa5 w a6 m=> ?_
    have aR:=OwR.mono trivial a6 aR
    refine AU (E:=P2) (y':=(aT.1,aT.2)) [(iv aT.1),(iv aT.2)] 0 m aR Z sizeOf99 f Z Z a4 a2 Z (Ao Z (Ao Z AF)) (lb Z) Z λa7 w m a8=> ?_
    have⟨a9,ba,aO⟩:=bind_some aO
    refine Bt 0 m a8 Z AR f Z Z Z ba λbb a bc f=>AU (E:=P2) (y':=(aX.1,aX.2)) [(iv aX.1),(iv aX.2)] 0 m a8 Z sizeOf99 f Z Z bc ba Z (Ao Z (Ao Z AF)) (lb Z) Z λbd w m be=>Aa (Ap ?_)
    refine Ab f Z λa f=>Ab f Z λa f=>Ab f Z λa f=>Ab f Z λa f=>Ab f Z λa f=> ?_
    have⟨bf,bg,aO⟩:=bind_some aO
    refine A5 f Z call189 (Wk.f0 m be bg) λbh bi bj w bk m bl a f=> ?_
    obtain⟨bm,rfl,bn⟩:=bl
    refine Aa (Ap ?_)
    refine Ab f Z λa f=>Ai f Z Z A3 λa f=>Ac f Z λa f=>Aa ?_
    obtain rfl:=sj aO
    exact⟨_,Z,_,_,Z,_,bm,(gt aQ (gt a6 bk)),f.k Z,m,bn⟩
   ·refine Aj f Z aS ?_
    refine AE Z ?_
    obtain rfl:=sj aO
    obtain rfl:=aP _ rfl
    exact⟨_,Z,_,aM,aQ,f.weak trivial,m,aR⟩
  ·rintro a w ⟨aF,rfl,aG,aH,bo,f,m,bp⟩
   obtain rfl:=sj hd
   exact⟨[],trivial,f.d,_,[aH],(gt aB bo),m,_,Z,bp⟩
theorem Wk.M0 {v0:Value}{it0:Itm}{x0:(List (Int×Int))}{x1 x2:Int}(m:Mem W G w (it0::H))(o0:OwR P2 99 G it0 v0 x0){y:((List (Int×Int)))}(hd:D.M0 x0 x1 x2=some y):
  Calls prog 170 #[v0,(iv x1),(iv x2),(.func (.func 147) #[] #[])] w (Res W G H (λG' Ho _=>∃i0:Itm,Ho=[i0]∧OwR P2 99 G' i0 v0 y)):=by
 refine AB (args:=[v0,(iv x1),(iv x2),(.func (.func 147) #[] #[])]) (N:=67) [] func170 Z Z (lb Z) Z λa f=> ?_
 unfold D.M0 at hd
 refine Af ?_
 refine Ab f Z λa f=>Ab f Z λa f=>Ai f Z Z A3 λa f=>Ac f Z λa f=>AG ?_
 refine Ab f Z λa f=>Ai f Z Z Ci λa f=>Aa ?_
 rcases Ae hd with⟨aa,hd⟩|⟨aa,hd⟩
 ·refine Al f Z aa ?_
  refine Af ?_
  refine Ab f Z λa f=>l_o f (Dg (f.e Z) ⟨_,underlying3⟩ underlying172) λa f=>BP (cs:=[(.int .u64 0)]) zeroValue172 m f Z Z λab w a m f=>A7 0 0 (ds:=[(.int .u64 (IntKind.u64.wrap (i64.wrap (x2-x1))))]) m sizeOf172 f Z Z Z (Ao Z AF) Z (lb Z) Z λw m=>AG ?_
  refine Ab f Z λa f=> ?_
  have⟨ac,ad,hd⟩:=bind_some hd
  refine Bk f Z call190 (Wk.s m ad) λae w af m a f=> ?_
  have o0:=OwR.mono trivial af o0
  refine Ac f Z λa f=>AG ?_
  refine Ab f Z λa f=>Ab f Z λa f=>Ai f Z Z (b_quo Z) λa f=>Ai f Z Z Dl λa f=>Ai f Z Z Az λa f=>Ai f Z Z A3 λa f=>Ac f Z λa f=>Aa ?_
  have⟨ag,ah,hd⟩:=bind_some hd
  refine AN (λa w=>∃ai:List (Int×Int),ai=ag∧∃(aj:GH) (ak:Itm),GLe ae aj∧Fr a 67 []∧Mem W aj w (ak::H)∧OwR P2 99 aj ak v0 ai) ?_ ?_
  ·refine Ak ?_
   refine AI (λal a w=>∃am:List (Int×Int),∃an:Int,∃ao:Int,(am,an,ao)=al∧∃(ap:GH) (aq:Itm),GLe ae ap∧Fr a 67 [(0,v0),(1,(iv x1)),(8,(iv (i64.wrap (x2-x1)))),(9,(pb ab)),(10,(.int .u64 ac)),(11,(iv an))]∧Mem W ap w (ib ab 172 [(.int .u64 ao)]::aq::H)∧OwR P2 99 ap aq v0 am) ah ⟨_,_,_,Z,_,it0,gr,f.k Z,m,o0⟩ ?_
   clear ah f m
   rintro al ar au av a w ⟨am,an,ao,rfl,ap,aq,aw,f,m,ax⟩
   refine Ag (Af ?_)
   refine Ab f Z λa f=>Ab f Z λa f=>Ab f Z λa f=>Ai f Z Z (b_quo Z) λa f=>Ai f Z Z Dl λa f=>Ai f Z Z Az λa f=>Ai f Z Z Az λa f=>Ai f Z Z CY λa f=>Aa ?_
   rcases Ae au with⟨ay,au⟩|⟨ay,au⟩
   ·refine Al f Z ay ?_
    refine Am ?_
    refine Ag (Ak (Af ?_))
    have⟨az,aA,au⟩:=bind_some au
    refine A5 f Z call191 (Wk.B m aA) λaB aC aD w aE m aF a f=> ?_
    obtain⟨rfl,rfl⟩:=aF
    have ax:=OwR.mono trivial aE ax
    refine Ab f Z λa f=>Ai f Z Z A3 λa f=>Ai f Z Z b_and λa f=>l_o f (Dg (f.e Z) ⟨_,underlying111⟩ underlying3) λa f=>Ac f Z λa f=>Aa (Ag (Af ?_))
    refine Ab f Z λa f=>Ab f Z λa f=>Ai f Z Z Ci λa f=>Aa ?_
    have⟨aG,aH,au⟩:=bind_some au
    refine AN (λa w=>∃aI:Int,aI=aG∧∃(aJ:GH),GLe aC aJ∧Fr a 67 [(0,v0),(1,(iv x1)),(8,(iv (i64.wrap (x2-x1)))),(9,(pb ab)),(10,(.int .u64 ac)),(11,(iv an)),(12,(iv aI))]∧Mem W aJ w (ib ab 172 [(.int .u64 az.2)]::aq::H)) ?_ ?_
    ·rcases Ae aH with⟨aK,aH⟩|⟨aK,aH⟩
     ·refine Al f Z aK ?_
      refine Ap ?_
      refine Ab f Z λa f=>Ab f Z λa f=>Ai f Z Z A3 λa f=>Ac f Z λa f=>Aa ?_
      obtain rfl:=sj aH
      exact⟨_,Z,_,gr,f.k Z,m⟩
     ·refine Aj f Z aK ?_
      refine Am ?_
      obtain rfl:=sj aH
      exact⟨_,Z,_,gr,f.k Z,m⟩
    ·rintro a w ⟨aI,rfl,aJ,aL,f,m⟩
     have ax:=OwR.mono trivial aL ax
     refine BS AJ m ?_
     refine p_p 2 Z f (λ_=>Bh (f.e Z)) λa f=>p_p 3 Z f (λ_=>Bh (f.e Z)) λa f=>p_p 4 Z f (λ_=>Bh (f.e Z)) λa f=>p_p 5 Z f (λ_=>AL (f.e Z) (f.e Z) Az) λa f=>BU 60017 13 (by kernel_rfl) Z ?_
     refine Ah 0 60017 Z f Z λa f=>Ah 1 60017 Z f Z λa f=>Ah 6 60017 Z f Z λa f=>Ah 7 60017 Z f Z λa f=>Ah 8 60017 Z f Z λa f=>q_p 9 60017 Z f (λ_=>AL (f.e Z) (f.e Z) Az) λa f=> ?_
     have⟨aM,aN,au⟩:=bind_some au
     refine Au (i:=10) (listed':= #[true,true,true,true,true,true,true,true,true,true,true,false,false,false,false,false,false,false,false,false]) (C:=P2) 60017 1 m ax Z AR aN Z (by kernel_rfl) Z f Z Z Z Z λaO a aP f=>Aw (i:=11) (listed':= #[true,true,true,true,true,true,true,true,true,true,true,true,false,false,false,false,false,false,false,false]) (C:=P2) [(iv aM.1),(iv aM.2)] 60017 1 ax Z Bb aP aN Z Z (by kernel_rfl) Z f Z Z Z λa f=>Ah 12 60017 Z f Z λa f=>Ah 13 60017 Z f Z λa f=> ?_
     have⟨aQ,aR,au⟩:=bind_some au
     refine Au (i:=14) (listed':= #[true,true,true,true,true,true,true,true,true,true,true,true,true,true,true,false,false,false,false,false]) (C:=P2) 60017 1 m ax Z AR aR Z (by kernel_rfl) Z f Z Z Z Z λaS a aT f=>Aw (i:=15) (listed':= #[true,true,true,true,true,true,true,true,true,true,true,true,true,true,true,true,false,false,false,false]) (C:=P2) [(iv aQ.1),(iv aQ.2)] 60017 1 ax Z Bb aT aR Z Z (by kernel_rfl) Z f Z Z Z λa f=> ?_
     have⟨aU,aV,au⟩:=bind_some au
     refine Au (i:=16) (listed':= #[true,true,true,true,true,true,true,true,true,true,true,true,true,true,true,true,true,false,false,false]) (C:=P2) 60017 1 m ax Z AR aV Z (by kernel_rfl) Z f Z Z Z Z λaW a aX f=>AZ λaY w aZ m=> ?_
     have ax:=OwR.mono trivial aZ ax
     refine AU (E:=P2) (y':=(aM.1,aM.2)) [(iv aM.1),(iv aM.2)] 1 m ax Z sizeOf99 f Z Z aX aV Z (Ao Z (Ao Z AF)) (lb Z) Z λa0 w m a1=> ?_
     have⟨a2,a3,au⟩:=bind_some au
     refine Bt 1 m a1 Z AR f Z Z Z a3 λa4 a a5 f=>AU (E:=P2) (y':=(aQ.1,aQ.2)) [(iv aQ.1),(iv aQ.2)] 1 m a1 Z sizeOf99 f Z Z a5 a3 Z (Ao Z (Ao Z AF)) (lb Z) Z λa6 w m a7=>Aa (Ap ?_)
     refine Ab f Z λa f=>Ai f Z Z Az λa f=>Ac f Z λa f=>Aa ?_
     obtain rfl:=sj au
     exact⟨_,Z,_,_,_,Z,_,a6,(gt aw (gt aE (gt aL aZ))),f.k Z,m,a7⟩
   ·refine Aj f Z ay ?_
    refine AE Z ?_
    have m:=m.fr 1
    have m:=m.eraseAt 1
    obtain rfl:=sj au
    obtain rfl:=av _ rfl
    exact⟨_,Z,_,aq,aw,f.weak trivial,m,ax⟩
  ·rintro a w ⟨ai,rfl,aj,ak,a8,f,m,a9⟩
   obtain rfl:=sj hd
   exact⟨[],trivial,f.d,_,[ak],(gt af a8),m,_,Z,a9⟩
 ·refine Aj f Z aa ?_
  refine Am ?_
  obtain rfl:=sj hd
  exact⟨[],trivial,f.d,_,[it0],gr,m,_,Z,o0⟩
theorem Wk.L {v0:Value}{it0:Itm}{b3:Nat}{x0:(List (Int×Int))}{x1 x2 aa:Int}(m:Mem W G w (it0::ib b3 3 [(iv aa)]::H))(o0:OwR P2 99 G it0 v0 x0){y:Int×Int×((List (Int×Int)))×Int}(hd:D.L x0 x1 x2 aa=some y):
  Calls prog 207 #[v0,(iv x1),(iv x2),(pb b3),(.func (.func 147) #[] #[])] w (Res W G H (λG' Ho v=>∃i0:Itm,Ho=[i0,ib b3 3 [(iv y.2.2.2)]]∧v= .tuple #[(iv y.1),(iv y.2.1)]∧OwR P2 99 G' i0 v0 y.2.2.1)):=by
 refine AB (args:=[v0,(iv x1),(iv x2),(pb b3),(.func (.func 147) #[] #[])]) (N:=32) [.tmp 10,.tmp 11] func207 Z Z (lb Z) Z λa f=> ?_
 unfold D.L at hd
 refine Af ?_
 refine Ac f Z λa f=>Ac f Z λa f=>Aa (Ag (Ag ?_))
 refine A9 11 AJ (by kernel_rfl) m ?_
 refine Ah 0 11 Z f Z λa f=>Ah 1 11 Z f Z λa f=>Ah 2 11 Z f Z λa f=> ?_
 have⟨ab,ac,hd⟩:=bind_some hd
 refine Au (i:=3) (listed':= #[true,true,true,true,false,false,false,false,false,false,false]) (C:=P2) 11 0 m o0 Z AR ac Z (by kernel_rfl) Z f Z Z Z Z λad a ae f=>Aw (i:=4) (listed':= #[true,true,true,true,true,false,false,false,false,false,false]) (C:=P2) [(iv ab.1),(iv ab.2)] 11 0 o0 Z Bb ae ac Z Z (by kernel_rfl) Z f Z Z Z λa f=>Ah 5 11 Z f Z λa f=>Ah 6 11 Z f Z λa f=> ?_
 have⟨af,ag,hd⟩:=bind_some hd
 refine Au (i:=7) (listed':= #[true,true,true,true,true,true,true,true,false,false,false]) (C:=P2) 11 0 m o0 Z AR ag Z (by kernel_rfl) Z f Z Z Z Z λah a ai f=>Aw (i:=8) (listed':= #[true,true,true,true,true,true,true,true,true,false,false]) (C:=P2) [(iv af.1),(iv af.2)] 11 0 o0 Z Bb ai ag Z Z (by kernel_rfl) Z f Z Z Z λa f=> ?_
 have⟨aj,ak,hd⟩:=bind_some hd
 refine B6 (i:=9) 11 Z (by kernel_rfl) Z f Z Z Z Z call147 (λ_ _ w al m=>Wk.a m ak) λa f=>q_p 10 11 Z f (λ_=>AL (f.e Z) (f.e Z) AP) λa f=>AZ λam w an m=> ?_
 have o0:=OwR.mono trivial an o0
 refine Aa ?_
 rcases Ae hd with⟨ao,hd⟩|⟨ao,hd⟩
 ·refine Al f Z ao ?_
  refine Af ?_
  refine Ab f Z λa f=>l_o f (Be (f.e Z)) λa f=>AM 1 0 m Pl3 f Z Z Z Z λa f=>Ai f Z Z Az λa f=>l_o f (Be (f.e Z)) λa f=>A7 1 0 (ds:=[(iv (i64.wrap (aa+1)))]) m sizeOf3 f Z Z Z (Ao Z AF) Z (lb Z) Z λw m=>AG ?_
  refine Ab f Z λa f=>Ab f Z λa f=>Ac f Z λa f=>Ac f Z λa f=>Aa ?_
  refine Ax ?_
  obtain rfl:=sj hd
  exact⟨[(iv x2),(iv x1)],⟨f.get _ _ Z,f.get _ _ Z,trivial⟩,f.d,_,[it0,ib b3 3 [(iv (i64.wrap (aa+1)))]],an,m,_,Z,Z,o0⟩
 ·refine Aj f Z ao ?_
  refine Am ?_
  refine Af ?_
  refine Ab f Z λa f=>Ab f Z λa f=>Ac f Z λa f=>Ac f Z λa f=>Aa ?_
  refine Ax ?_
  obtain rfl:=sj hd
  exact⟨[(iv x1),(iv x2)],⟨f.get _ _ Z,f.get _ _ Z,trivial⟩,f.d,_,[it0,ib b3 3 [(iv aa)]],an,m,_,Z,Z,o0⟩
theorem Wk.n0 {v0:Value}{it0:Itm}{b4:Nat}{x0:(List (Int×Int))}{x1 x2 x3 aa:Int}(m:Mem W G w (it0::ib b4 3 [(iv aa)]::H))(o0:OwR P2 99 G it0 v0 x0){y:Int×((List (Int×Int)))×Int}(hd:D.n0 x0 x1 x2 x3 aa=some y):
  Calls prog 193 #[v0,(iv x1),(iv x2),(iv x3),(pb b4),(.func (.func 147) #[] #[])] w (Res W G H (λG' Ho v=>∃i0:Itm,Ho=[i0,ib b4 3 [(iv y.2.2)]]∧v=(iv y.1)∧OwR P2 99 G' i0 v0 y.2.1)):=by
 refine AB (args:=[v0,(iv x1),(iv x2),(iv x3),(pb b4),(.func (.func 147) #[] #[])]) (N:=41) [.tmp 12] func193 Z Z (lb Z) Z λa f=> ?_
 unfold D.n0 at hd
 refine Af ?_
 refine Ac f Z λa f=>AG ?_
 refine Ab f Z λa f=>Ab f Z λa f=>Ab f Z λa f=>Ab f Z λa f=>Ab f Z λa f=> ?_
 have⟨ab,ac,hd⟩:=bind_some hd
 refine A5 f Z call207 (Wk.L m o0 ac) λad ae af w ag m ah a f=> ?_
 obtain⟨ai,rfl,rfl,aj⟩:=ah
 refine Ab f Z λa f=>l_o f (A4 (f.e Z) Z) λa f=>l_o f (A4 (f.e Z) Z) λa f=>Ac f Z λa f=>Ac f Z λa f=>AG ?_
 refine Ab f Z λa f=>Ab f Z λa f=>Ab f Z λa f=>Ab f Z λa f=>Ab f Z λa f=> ?_
 have⟨ak,al,hd⟩:=bind_some hd
 refine A5 f Z call207 (Wk.L m aj al) λam an ao w ap m aq a f=> ?_
 obtain⟨ar,rfl,rfl,au⟩:=aq
 refine Ab f Z λa f=>l_o f (A4 (f.e Z) Z) λa f=>l_o f (A4 (f.e Z) Z) λa f=>Ac f Z λa f=>Ac f Z λa f=>AG ?_
 refine Ab f Z λa f=>Ab f Z λa f=>Ab f Z λa f=>Ab f Z λa f=>Ab f Z λa f=> ?_
 have⟨av,aw,hd⟩:=bind_some hd
 refine A5 f Z call207 (Wk.L m au aw) λax ay az w aA m aB a f=> ?_
 obtain⟨aC,rfl,rfl,aD⟩:=aB
 refine Ab f Z λa f=>l_o f (A4 (f.e Z) Z) λa f=>l_o f (A4 (f.e Z) Z) λa f=>Ac f Z λa f=>Ac f Z λa f=>AG ?_
 refine Ab f Z λa f=>Ac f Z λa f=>Aa ?_
 refine Ax ?_
 obtain rfl:=sj hd
 exact⟨[(iv av.2.1)],f.g Z,f.d,_,[aC,ib b4 3 [(iv av.2.2.2)]],(gt ag (gt ap aA)),m,_,Z,Z,aD⟩
theorem Wk.C {v0:Value}{it0:Itm}{b2:Nat}{x0:(List (Int×Int))}{x1 aa:Int}(m:Mem W G w (it0::ib b2 3 [(iv aa)]::H))(o0:OwR P2 99 G it0 v0 x0){y:Int×((List (Int×Int)))×Int}(hd:D.C x0 x1 aa=some y):
  Calls prog 192 #[v0,(iv x1),(pb b2),(.func (.func 147) #[] #[])] w (Res W G H (λG' Ho v=>∃i0:Itm,Ho=[i0,ib b2 3 [(iv y.2.2)]]∧v=(iv y.1)∧OwR P2 99 G' i0 v0 y.2.1)):=by
 refine AB (args:=[v0,(iv x1),(pb b2),(.func (.func 147) #[] #[])]) (N:=18) [.tmp 8] func192 Z Z (lb Z) Z λa f=> ?_
 unfold D.C at hd
 refine Af ?_
 refine Ac f Z λa f=>AG ?_
 refine Ab f Z λa f=>Ab f Z λa f=>Ai f Z Z A3 λa f=>Ab f Z λa f=>Ab f Z λa f=>Ai f Z Z Az λa f=>Ab f Z λa f=>Ab f Z λa f=> ?_
 have⟨ab,ac,hd⟩:=bind_some hd
 refine A5 f Z call193 (Wk.n0 m o0 ac) λad ae af w ag m ah a f=> ?_
 obtain⟨ai,rfl,rfl,aj⟩:=ah
 refine Ac f Z λa f=>Aa ?_
 refine Ax ?_
 obtain rfl:=sj hd
 exact⟨[(iv ab.1)],f.g Z,f.d,_,[ai,ib b2 3 [(iv ab.2.2)]],ag,m,_,Z,Z,aj⟩
theorem Wk.F0 {v0:Value}{it0:Itm}{x0:(List (Int×Int))}{x1 x2:Int}(m:Mem W G w (it0::H))(o0:OwR P2 99 G it0 v0 x0){y:Int×Int×((List (Int×Int)))}(hd:D.F0 x0 x1 x2=some y):
  Calls prog 171 #[v0,(iv x1),(iv x2),(.func (.func 147) #[] #[])] w (Res W G H (λG' Ho v=>∃i0:Itm,Ho=[i0]∧v= .tuple #[(iv y.1),(iv y.2.1)]∧OwR P2 99 G' i0 v0 y.2.2)):=by
 refine AB (args:=[v0,(iv x1),(iv x2),(.func (.func 147) #[] #[])]) (N:=63) [.tmp 8,.tmp 9] func171 Z Z (lb Z) Z λa f=> ?_
 unfold D.F0 at hd
 refine Af ?_
 refine Ac f Z λa f=>Ac f Z λa f=>AG ?_
 refine Ab f Z λa f=>Ab f Z λa f=>Ai f Z Z A3 λa f=>Ac f Z λa f=>AG ?_
 refine BP (cs:=[(iv 0)]) zeroValue3 m f Z Z λaa w a m f=>AG ?_
 refine Ab f Z λa f=>Ab f Z λa f=>Ai f Z Z (b_quo Z) λa f=>Ai f Z Z Dl λa f=>Ai f Z Z Az λa f=>Ac f Z λa f=>AG ?_
 refine Ab f Z λa f=>Ab f Z λa f=>Ai f Z Z (b_quo Z) λa f=>Ai f Z Z Dl λa f=>Ai f Z Z Az λa f=>Ac f Z λa f=>AG ?_
 refine Ab f Z λa f=>Ab f Z λa f=>Ai f Z Z (b_quo Z) λa f=>Ai f Z Z Dl λa f=>Ai f Z Z Az λa f=>Ac f Z λa f=>Aa (Ag (Af ?_))
 refine Ab f Z λa f=>Ai f Z Z Ci λa f=>Aa ?_
 rcases Ae hd with⟨ab,hd⟩|⟨ab,hd⟩
 ·refine Al f Z ab ?_
  refine Ag (Af ?_)
  refine Ab f Z λa f=>Ai f Z Z Ci λa f=>Aa ?_
  have⟨ac,ad,hd⟩:=bind_some hd
  refine AN (λa w=>∃ae:List (Int×Int),∃af:Int,∃ag:Int,∃ah:Int,∃ai:Int,(ae,af,ag,ah,ai)=ac∧∃(aj:GH) (ak:Itm),GLe G aj∧Fr a 63 [(0,v0),(3,(.func (.func 147) #[] #[])),(11,(pb aa)),(12,(iv af)),(13,(iv ag)),(14,(iv ah))]∧Mem W aj w (ib aa 3 [(iv ai)]::ak::H)∧OwR P2 99 aj ak v0 ae) ?_ ?_
  ·rcases Ae ad with⟨al,ad⟩|⟨al,ad⟩
   ·refine Al f Z al ?_
    refine Af ?_
    refine Ab f Z λa f=>Ab f Z λa f=>Ab f Z λa f=> ?_
    have m:=m.fr 1
    have⟨am,an,ad⟩:=bind_some ad
    refine A5 f Z call192 (Wk.C m o0 an) λao ap aq w ar m au a f=> ?_
    obtain⟨av,rfl,rfl,aw⟩:=au
    refine Ac f Z λa f=>AG ?_
    refine Ab f Z λa f=>Ab f Z λa f=>Ab f Z λa f=> ?_
    have⟨ax,ay,ad⟩:=bind_some ad
    refine A5 f Z call192 (Wk.C m aw ay) λaz aA aB w aC m aD a f=> ?_
    obtain⟨aE,rfl,rfl,aF⟩:=aD
    refine Ac f Z λa f=>Aa (Ap ?_)
    refine Ab f Z λa f=>Ab f Z λa f=>Ab f Z λa f=> ?_
    have⟨aG,aH,ad⟩:=bind_some ad
    refine A5 f Z call192 (Wk.C m aF aH) λaI aJ aK w aL m aM a f=> ?_
    obtain⟨aN,rfl,rfl,aO⟩:=aM
    refine Ac f Z λa f=>Aa ?_
    have m:=m.fr 1
    obtain rfl:=sj ad
    exact⟨_,_,_,_,_,Z,_,aN,(gt ar (gt aC aL)),f.k Z,m,aO⟩
   ·refine Aj f Z al ?_
    refine Am ?_
    obtain rfl:=sj ad
    exact⟨_,_,_,_,_,Z,_,it0,gr,f.k Z,m,o0⟩
  ·rintro a w ⟨ae,af,ag,ah,ai,rfl,aj,ak,aP,f,m,aQ⟩
   refine Ap ?_
   refine Ab f Z λa f=>Ab f Z λa f=>Ab f Z λa f=>Ab f Z λa f=>Ab f Z λa f=> ?_
   have m:=m.fr 1
   have⟨aR,aS,hd⟩:=bind_some hd
   refine A5 f Z call193 (Wk.n0 m aQ aS) λaT aU aV w aW m aX a f=> ?_
   obtain⟨aY,rfl,rfl,aZ⟩:=aX
   refine Ac f Z λa f=>AG ?_
   refine AM 1 0 m Pl3 f Z Z Z Z λa f=>Aa (Ak (Af ?_))
   refine Ai f Z Z BZ λa f=>Ac f Z λa f=>Aa ?_
   rcases Ae hd with⟨a0,hd⟩|⟨a0,hd⟩
   ·refine Al f Z a0 ?_
    refine Af ?_
    refine Ab f Z λa f=>Ac f Z λa f=>Ac f Z λa f=>Aa ?_
    refine Ax ?_
    have m:=m.eraseAt 1
    obtain rfl:=sj hd
    exact⟨[(iv aR.1),(iv 1)],⟨f.get _ _ Z,f.get _ _ Z,trivial⟩,f.d,_,[aY],(gt aP aW),m,_,Z,Z,aZ⟩
   ·refine Aj f Z a0 ?_
    refine Af ?_
    refine Ai f Z Z BZ λa f=>Ac f Z λa f=>Aa ?_
    rcases Ae hd with⟨a1,hd⟩|⟨a1,hd⟩
    ·refine Al f Z a1 ?_
     refine Af ?_
     refine Ab f Z λa f=>Ac f Z λa f=>Ac f Z λa f=>Aa ?_
     refine Ax ?_
     have m:=m.eraseAt 1
     obtain rfl:=sj hd
     exact⟨[(iv aR.1),(iv 2)],⟨f.get _ _ Z,f.get _ _ Z,trivial⟩,f.d,_,[aY],(gt aP aW),m,_,Z,Z,aZ⟩
    ·refine Aj f Z a1 ?_
     refine Af ?_
     refine Ab f Z λa f=>Ac f Z λa f=>Ac f Z λa f=>Aa ?_
     refine Ax ?_
     have m:=m.eraseAt 1
     obtain rfl:=sj hd
     exact⟨[(iv aR.1),(iv 0)],⟨f.get _ _ Z,f.get _ _ Z,trivial⟩,f.d,_,[aY],(gt aP aW),m,_,Z,Z,aZ⟩
 ·refine Aj f Z ab ?_
  refine Am ?_
  refine Af ?_
  refine AM 0 0 m Pl3 f Z Z Z Z λa f=>Aa (Ak (Af ?_))
  refine Ai f Z Z BZ λa f=>Ac f Z λa f=>Aa ?_
  rcases Ae hd with⟨a2,hd⟩|⟨a2,hd⟩
  ·refine Al f Z a2 ?_
   refine Af ?_
   refine Ab f Z λa f=>Ac f Z λa f=>Ac f Z λa f=>Aa ?_
   refine Ax ?_
   have m:=m.fr 1
   have m:=m.eraseAt 1
   obtain rfl:=sj hd
   exact⟨[(iv (i64.wrap (x1+(i64.wrap ((i64.wrap (Int.tdiv (i64.wrap (x2-x1)) 4))*2))))),(iv 1)],⟨f.get _ _ Z,f.get _ _ Z,trivial⟩,f.d,_,[it0],gr,m,_,Z,Z,o0⟩
  ·refine Aj f Z a2 ?_
   refine Af ?_
   refine Ai f Z Z BZ λa f=>Ac f Z λa f=>Aa ?_
   rcases Ae hd with⟨a3,hd⟩|⟨a3,hd⟩
   ·refine Al f Z a3 ?_
    refine Af ?_
    refine Ab f Z λa f=>Ac f Z λa f=>Ac f Z λa f=>Aa ?_
    refine Ax ?_
    have m:=m.fr 1
    have m:=m.eraseAt 1
    obtain rfl:=sj hd
    exact⟨[(iv (i64.wrap (x1+(i64.wrap ((i64.wrap (Int.tdiv (i64.wrap (x2-x1)) 4))*2))))),(iv 2)],⟨f.get _ _ Z,f.get _ _ Z,trivial⟩,f.d,_,[it0],gr,m,_,Z,Z,o0⟩
   ·refine Aj f Z a3 ?_
    refine Af ?_
    refine Ab f Z λa f=>Ac f Z λa f=>Ac f Z λa f=>Aa ?_
    refine Ax ?_
    have m:=m.fr 1
    have m:=m.eraseAt 1
    obtain rfl:=sj hd
    exact⟨[(iv (i64.wrap (x1+(i64.wrap ((i64.wrap (Int.tdiv (i64.wrap (x2-x1)) 4))*2))))),(iv 0)],⟨f.get _ _ Z,f.get _ _ Z,trivial⟩,f.d,_,[it0],gr,m,_,Z,Z,o0⟩
theorem Wk.K0 {v0:Value}{it0:Itm}{x0:(List (Int×Int))}{x1 x2:Int}(m:Mem W G w (it0::H))(o0:OwR P2 99 G it0 v0 x0){y:((List (Int×Int)))}(hd:D.K0 x0 x1 x2=some y):
  Calls prog 172 #[v0,(iv x1),(iv x2),(.func (.func 147) #[] #[])] w (Res W G H (λG' Ho _=>∃i0:Itm,Ho=[i0]∧OwR P2 99 G' i0 v0 y)):=by
 refine AB (args:=[v0,(iv x1),(iv x2),(.func (.func 147) #[] #[])]) (N:=34) [] func172 Z Z (lb Z) Z λa f=> ?_
 unfold D.K0 at hd
 refine Af ?_
 refine Ab f Z λa f=>Ac f Z λa f=>AG ?_
 refine Ab f Z λa f=>Ai f Z Z A3 λa f=>Ac f Z λa f=>Aa ?_
 have⟨aa,ab,hd⟩:=bind_some hd
 refine AN (λa w=>∃ac:List (Int×Int),ac=aa∧∃(ad:GH) (ae:Itm),GLe G ad∧Fr a 34 []∧Mem W ad w (ae::H)∧OwR P2 99 ad ae v0 ac) ?_ ?_
 ·refine Ak ?_
  refine AI (λaf a w=>∃ag:List (Int×Int),∃ah:Int,∃ai:Int,(ag,ah,ai)=af∧∃(aj:GH) (ak:Itm),GLe G aj∧Fr a 34 [(0,v0),(8,(iv ah)),(9,(iv ai))]∧Mem W aj w (ak::H)∧OwR P2 99 aj ak v0 ag) ab ⟨_,_,_,Z,_,it0,gr,f.k Z,m,o0⟩ ?_
  clear ab f m
  rintro af al am an a w ⟨ag,ah,ai,rfl,aj,ak,ao,f,m,ap⟩
  refine Ag (Af ?_)
  refine Ab f Z λa f=>Ab f Z λa f=>Ai f Z Z AP λa f=>Aa ?_
  rcases Ae am with⟨aq,am⟩|⟨aq,am⟩
  ·refine Al f Z aq ?_
   refine Am ?_
   refine Ak (Ag ?_)
   refine BS AJ m ?_
   refine p_p 2 Z f (λ_=>Bh (f.e Z)) λa f=>p_p 3 Z f (λ_=>Bh (f.e Z)) λa f=>BU 12013 11 (by kernel_rfl) Z ?_
   refine Ah 0 12013 Z f Z λa f=>Ah 1 12013 Z f Z λa f=>Ah 4 12013 Z f Z λa f=>Ah 5 12013 Z f Z λa f=> ?_
   have⟨ar,au,am⟩:=bind_some am
   refine Au (i:=6) (listed':= #[true,true,true,true,true,true,true,false,false,false,false,false,false,false,false,false]) (C:=P2) 12013 0 m ap Z AR au Z (by kernel_rfl) Z f Z Z Z Z λav a aw f=>Aw (i:=7) (listed':= #[true,true,true,true,true,true,true,true,false,false,false,false,false,false,false,false]) (C:=P2) [(iv ar.1),(iv ar.2)] 12013 0 ap Z Bb aw au Z Z (by kernel_rfl) Z f Z Z Z λa f=>Ah 8 12013 Z f Z λa f=>Ah 9 12013 Z f Z λa f=> ?_
   have⟨ax,ay,am⟩:=bind_some am
   refine Au (i:=10) (listed':= #[true,true,true,true,true,true,true,true,true,true,true,false,false,false,false,false]) (C:=P2) 12013 0 m ap Z AR ay Z (by kernel_rfl) Z f Z Z Z Z λaz a aA f=>Aw (i:=11) (listed':= #[true,true,true,true,true,true,true,true,true,true,true,true,false,false,false,false]) (C:=P2) [(iv ax.1),(iv ax.2)] 12013 0 ap Z Bb aA ay Z Z (by kernel_rfl) Z f Z Z Z λa f=> ?_
   have⟨aB,aC,am⟩:=bind_some am
   refine Au (i:=12) (listed':= #[true,true,true,true,true,true,true,true,true,true,true,true,true,false,false,false]) (C:=P2) 12013 0 m ap Z AR aC Z (by kernel_rfl) Z f Z Z Z Z λaD a aE f=>AZ λaF w aG m=> ?_
   have ap:=OwR.mono trivial aG ap
   refine AU (E:=P2) (y':=(ar.1,ar.2)) [(iv ar.1),(iv ar.2)] 0 m ap Z sizeOf99 f Z Z aE aC Z (Ao Z (Ao Z AF)) (lb Z) Z λaH w m aI=> ?_
   have⟨aJ,aK,am⟩:=bind_some am
   refine Bt 0 m aI Z AR f Z Z Z aK λaL a aM f=>AU (E:=P2) (y':=(ax.1,ax.2)) [(iv ax.1),(iv ax.2)] 0 m aI Z sizeOf99 f Z Z aM aK Z (Ao Z (Ao Z AF)) (lb Z) Z λaN w m aO=>AG ?_
   refine Ab f Z λa f=>Ai f Z Z Az λa f=>Ac f Z λa f=>Aa (Ap ?_)
   refine Ab f Z λa f=>Ai f Z Z A3 λa f=>Ac f Z λa f=>Aa ?_
   obtain rfl:=sj am
   exact⟨_,Z,_,_,_,Z,_,aN,(gt ao aG),f.k Z,m,aO⟩
  ·refine Aj f Z aq ?_
   refine AE Z ?_
   obtain rfl:=sj am
   obtain rfl:=an _ rfl
   exact⟨_,Z,_,ak,ao,f.weak trivial,m,ap⟩
 ·rintro a w ⟨ac,rfl,ad,ae,aP,f,m,aQ⟩
  obtain rfl:=sj hd
  exact⟨[],trivial,f.d,_,[ae],aP,m,_,Z,aQ⟩
theorem Wk.N0 {v0:Value}{it0:Itm}{x0:(List (Int×Int))}{x1 x2:Int}(m:Mem W G w (it0::H))(o0:OwR P2 99 G it0 v0 x0){y:Bool×((List (Int×Int)))}(hd:D.N0 x0 x1 x2=some y):
  Calls prog 173 #[v0,(iv x1),(iv x2),(.func (.func 147) #[] #[])] w (Res W G H (λG' Ho v=>∃i0:Itm,Ho=[i0]∧v=(.bool y.1)∧OwR P2 99 G' i0 v0 y.2)):=by
 refine AB (args:=[v0,(iv x1),(iv x2),(.func (.func 147) #[] #[])]) (N:=141) [.tmp 8] func173 Z Z (lb Z) Z λa f=> ?_
 unfold D.N0 at hd
 refine Af ?_
 refine Ac f Z λa f=>AG ?_
 refine Ab f Z λa f=>Ai f Z Z Az λa f=>Ac f Z λa f=>Aa (Ag (Af ?_))
 refine Ac f Z λa f=>Aa ?_
 have⟨aa,ab,hd⟩:=bind_some hd
 refine AN (λa w=>∃q_1357':(List (Int×Int)),aa= .inl q_1357'∧∃ac:List (Int×Int),ac=q_1357'∧∃(ad:GH) (ae:Itm),GLe G ad∧Fr a 141 []∧Mem W ad w (ae::H)∧OwR P2 99 ad ae v0 ac) ?_ ?_
 ·refine Ak ?_
  refine AI (λaf a w=>∃ag:List (Int×Int),∃ah:Int,∃ai:Int,(ag,ah,ai)=af∧∃(aj:GH) (ak:Itm),GLe G aj∧Fr a 141 [(0,v0),(1,(iv x1)),(2,(iv x2)),(3,(.func (.func 147) #[] #[])),(9,(iv ah)),(10,(iv ai))]∧Mem W aj w (ak::H)∧OwR P2 99 aj ak v0 ag) ab ⟨_,_,_,Z,_,it0,gr,f.k Z,m,o0⟩ ?_
  clear ab f m
  rintro af al am an a w ⟨ag,ah,ai,rfl,aj,ak,ao,f,m,ap⟩
  refine Ag (Af ?_)
  refine Ab f Z λa f=>Ai f Z Z AP λa f=>Aa ?_
  rcases Ae am with⟨aq,am⟩|⟨aq,am⟩
  ·refine Al f Z aq ?_
   refine Am ?_
   refine Ag (Ak (Ag ?_))
   have⟨ar,au,am⟩:=bind_some am
   refine AN (λa w=>∃av:Int,av=ar∧∃(aw:GH),GLe aj aw∧Fr a 141 [(0,v0),(1,(iv x1)),(2,(iv x2)),(3,(.func (.func 147) #[] #[])),(9,(iv av)),(10,(iv ai))]∧Mem W aw w (ak::H)) ?_ ?_
   ·refine Ak ?_
    refine AI (λax a w=>∃ay:Int,ay=ax∧∃(az:GH),GLe aj az∧Fr a 141 [(0,v0),(1,(iv x1)),(2,(iv x2)),(3,(.func (.func 147) #[] #[])),(9,(iv ay)),(10,(iv ai))]∧Mem W az w (ak::H)) au ⟨_,Z,_,gr,f.k Z,m⟩ ?_
    clear au f m
    rintro ax aA aB aC a w ⟨ay,rfl,az,aD,f,m⟩
    have ap:=OwR.mono trivial aD ap
    refine Ag (Ag ?_)
    refine A9 18 AJ (by kernel_rfl) m ?_
    refine Ah 0 18 Z f Z λa f=>Ah 1 18 Z f Z λa f=>q_p 2 18 Z f (λ_=>AL (f.e Z) (f.e Z) AP) λa f=>Ah 3 18 Z f Z λa f=> ?_
    have⟨aE,aF,aB⟩:=bind_some aB
    refine Cf (fuel':=0) (listed':= #[true,true,true,true,true,true,true,true,true,true,true,true,true,true,true,true,true,true]) (λa=>Fr a 141 [(0,v0),(1,(iv x1)),(2,(iv x2)),(3,(.func (.func 147) #[] #[])),(9,(iv ay)),(10,(iv ai)),(19,(iv ay)),(20,(iv x2)),(21,(.bool (decide (ay<x2)))),(22,(.bool (decide (ay<x2)))),(36,(.bool aE))]) ?_ ?_
    ·intro a f
     refine AZ λaG w aH m=>Aa ?_
     rcases Ae aB with⟨aI,aB⟩|⟨aI,aB⟩
     ·refine Al f Z aI ?_
      refine Am ?_
      refine Ak (Ap ?_)
      refine Ab f Z λa f=>Ai f Z Z Az λa f=>Ac f Z λa f=>Aa ?_
      obtain rfl:=sj aB
      exact⟨_,Z,_,Z,_,(gt aD aH),f.k Z,m⟩
     ·refine Aj f Z aI ?_
      refine AE Z ?_
      obtain rfl:=sj aB
      obtain rfl:=aC _ rfl
      exact⟨_,Z,_,(gt aD aH),f.k Z,m⟩
    ·intro aJ
     rcases Ae aF with⟨aK,aF⟩|⟨aK,aF⟩
     ·refine Ah (hw:=wo f aK) 4 18 Z f Z λa f=> ?_
      refine Ah (hw:=wo f aK) 5 18 Z f Z λa f=>Ah (hw:=wo f aK) 6 18 Z f Z λa f=> ?_
      have⟨aL,aM,aF⟩:=bind_some aF
      refine Au (i:=7) (listed':= #[true,true,true,true,true,true,true,true,false,false,false,false,false,false,false,false,false,false]) (C:=P2) 18 0 m ap Z AR aM Z (by kernel_rfl) Z f (Ay f Z Z Z aK) Z Z Z λaN a aO f=>Aw (i:=8) (listed':= #[true,true,true,true,true,true,true,true,true,false,false,false,false,false,false,false,false,false]) (C:=P2) [(iv aL.1),(iv aL.2)] 18 0 ap Z Bb aO aM Z Z (by kernel_rfl) Z f (Ay f Z Z Z aK) Z Z λa f=>Ah (hw:=wo f aK) 9 18 Z f Z λa f=>Ah (hw:=wo f aK) 10 18 Z f Z λa f=>q_p (hw:=wo f aK) 11 18 Z f (λ_=>AL (f.e Z) (f.e Z) A3) λa f=> ?_
      have⟨aP,aQ,aF⟩:=bind_some aF
      refine Au (i:=12) (listed':= #[true,true,true,true,true,true,true,true,true,true,true,true,true,false,false,false,false,false]) (C:=P2) 18 0 m ap Z AR aQ Z (by kernel_rfl) Z f (Ay f Z Z Z aK) Z Z Z λaR a aS f=>Aw (i:=13) (listed':= #[true,true,true,true,true,true,true,true,true,true,true,true,true,true,false,false,false,false]) (C:=P2) [(iv aP.1),(iv aP.2)] 18 0 ap Z Bb aS aQ Z Z (by kernel_rfl) Z f (Ay f Z Z Z aK) Z Z λa f=> ?_
      have⟨aT,aU,aF⟩:=bind_some aF
      refine B6 (i:=14) 18 Z (by kernel_rfl) Z f (Ay f Z Z Z aK) Z Z Z call147 (λ_ _ w aV m=>Wk.a m aU) λa f=>q_p (hw:=wo f aK) 15 18 Z f (λ_=>AL (f.e Z) (f.e Z) AP) λa f=>q_p (hw:=wo f aK) 16 18 Z f (λ_=>Bn (f.e Z)) λa f=>q_p 17 18 Z f (λ_=>AT (f.e Z) aK (f.e Z)) λa f=> ?_
      obtain rfl:=sj aF
      exact aJ _ (f.k Z)
     ·refine Aq 4 18 Z f aK λa f=> ?_
      refine Aq 5 18 Z f aK λa f=>Aq 6 18 Z f aK λa f=>Aq 7 18 Z f aK λa f=>Aq 8 18 Z f aK λa f=>Aq 9 18 Z f aK λa f=>Aq 10 18 Z f aK λa f=>Aq 11 18 Z f aK λa f=>Aq 12 18 Z f aK λa f=>Aq 13 18 Z f aK λa f=>Aq 14 18 Z f aK λa f=>Aq 15 18 Z f aK λa f=>Aq 16 18 Z f aK λa f=>q_p 17 18 Z f (λ_=>AS (f.e Z) aK (f.e Z)) λa f=> ?_
      obtain rfl:=sj aF
      exact aJ _ (f.k Z)
   ·rintro a w ⟨av,rfl,aw,aW,f,m⟩
    have ap:=OwR.mono trivial aW ap
    refine Ag (Af ?_)
    refine Ab f Z λa f=>Ab f Z λa f=>Ai f Z Z BZ λa f=>Aa ?_
    rcases Ae am with⟨aX,am⟩|⟨aX,am⟩
    ·refine Al f Z aX ?_
     refine Af ?_
     refine Ac f Z λa f=>Aa ?_
     refine Ax ?_
     obtain rfl:=sj am
     obtain rfl:=an _ rfl
     obtain rfl:=sj hd
     exact⟨[(.bool true)],f.g Z,f.d,_,[ak],(gt ao aW),m,_,Z,Z,ap⟩
    ·refine Aj f Z aX ?_
     refine Am ?_
     refine Ag (Af ?_)
     refine Ab f Z λa f=>Ab f Z λa f=>Ai f Z Z A3 λa f=>Ai f Z Z AP λa f=>Aa ?_
     rcases Ae am with⟨aY,am⟩|⟨aY,am⟩
     ·refine Al f Z aY ?_
      refine Af ?_
      refine Ac f Z λa f=>Aa ?_
      refine Ax ?_
      obtain rfl:=sj am
      obtain rfl:=an _ rfl
      obtain rfl:=sj hd
      exact⟨[(.bool false)],f.g Z,f.d,_,[ak],(gt ao aW),m,_,Z,Z,ap⟩
     ·refine Aj f Z aY ?_
      refine Am ?_
      refine Ag ?_
      refine BS AJ m ?_
      refine p_p 2 Z f (λ_=>Bh (f.e Z)) λa f=>p_p 3 Z f (λ_=>Bh (f.e Z)) λa f=>p_p 4 Z f (λ_=>AL (f.e Z) (f.e Z) A3) λa f=>BU 28015 12 (by kernel_rfl) Z ?_
      refine Ah 0 28015 Z f Z λa f=>Ah 1 28015 Z f Z λa f=>Ah 5 28015 Z f Z λa f=>Ah 6 28015 Z f Z λa f=>q_p 7 28015 Z f (λ_=>AL (f.e Z) (f.e Z) A3) λa f=> ?_
      have⟨aZ,a0,am⟩:=bind_some am
      refine Au (i:=8) (listed':= #[true,true,true,true,true,true,true,true,true,false,false,false,false,false,false,false,false,false]) (C:=P2) 28015 0 m ap Z AR a0 Z (by kernel_rfl) Z f Z Z Z Z λa1 a a2 f=>Aw (i:=9) (listed':= #[true,true,true,true,true,true,true,true,true,true,false,false,false,false,false,false,false,false]) (C:=P2) [(iv aZ.1),(iv aZ.2)] 28015 0 ap Z Bb a2 a0 Z Z (by kernel_rfl) Z f Z Z Z λa f=>Ah 10 28015 Z f Z λa f=>Ah 11 28015 Z f Z λa f=> ?_
      have⟨a3,a4,am⟩:=bind_some am
      refine Au (i:=12) (listed':= #[true,true,true,true,true,true,true,true,true,true,true,true,true,false,false,false,false,false]) (C:=P2) 28015 0 m ap Z AR a4 Z (by kernel_rfl) Z f Z Z Z Z λa5 a a6 f=>Aw (i:=13) (listed':= #[true,true,true,true,true,true,true,true,true,true,true,true,true,true,false,false,false,false]) (C:=P2) [(iv a3.1),(iv a3.2)] 28015 0 ap Z Bb a6 a4 Z Z (by kernel_rfl) Z f Z Z Z λa f=> ?_
      have⟨a7,a8,am⟩:=bind_some am
      refine Au (i:=14) (listed':= #[true,true,true,true,true,true,true,true,true,true,true,true,true,true,true,false,false,false]) (C:=P2) 28015 0 m ap Z AR a8 Z (by kernel_rfl) Z f Z Z Z Z λa9 a ba f=>AZ λbb w bc m=> ?_
      have ap:=OwR.mono trivial bc ap
      refine AU (E:=P2) (y':=(aZ.1,aZ.2)) [(iv aZ.1),(iv aZ.2)] 0 m ap Z sizeOf99 f Z Z ba a8 Z (Ao Z (Ao Z AF)) (lb Z) Z λbd w m be=> ?_
      have⟨bf,bg,am⟩:=bind_some am
      refine Bt 0 m be Z AR f Z Z Z bg λbh a bi f=>AU (E:=P2) (y':=(a3.1,a3.2)) [(iv a3.1),(iv a3.2)] 0 m be Z sizeOf99 f Z Z bi bg Z (Ao Z (Ao Z AF)) (lb Z) Z λbj w m bk=>Aa (Ag (Af ?_))
      refine Ab f Z λa f=>Ab f Z λa f=>Ai f Z Z A3 λa f=>Ai f Z Z Ci λa f=>Aa ?_
      have⟨bl,bm,am⟩:=bind_some am
      refine AN (λa w=>∃bn:List (Int×Int),bn=bl∧∃(bo:GH) (bp:Itm),GLe bb bo∧Fr a 141 [(0,v0),(1,(iv x1)),(2,(iv x2)),(3,(.func (.func 147) #[] #[])),(9,(iv av)),(10,(iv ai))]∧Mem W bo w (bp::H)∧OwR P2 99 bo bp v0 bn) ?_ ?_
      ·rcases Ae bm with⟨bq,bm⟩|⟨bq,bm⟩
       ·refine Al f Z bq ?_
        refine Af ?_
        refine Ab f Z λa f=>Ai f Z Z A3 λa f=>Ac f Z λa f=>Aa ?_
        have⟨br,bs,bm⟩:=bind_some bm
        refine AN (λa w=>∃bt:List (Int×Int),bt=br∧∃(bu:GH) (bv:Itm),GLe bb bu∧Fr a 141 [(0,v0),(1,(iv x1)),(2,(iv x2)),(3,(.func (.func 147) #[] #[])),(9,(iv av)),(10,(iv ai))]∧Mem W bu w (bv::H)∧OwR P2 99 bu bv v0 bt) ?_ ?_
        ·refine Ak ?_
         refine AI (λbw a w=>∃bx:List (Int×Int),∃bz:Int,(bx,bz)=bw∧∃(bA:GH) (bB:Itm),GLe bb bA∧Fr a 141 [(0,v0),(1,(iv x1)),(2,(iv x2)),(3,(.func (.func 147) #[] #[])),(9,(iv av)),(10,(iv ai)),(11,(iv bz))]∧Mem W bA w (bB::H)∧OwR P2 99 bA bB v0 bx) bs ⟨_,_,Z,_,bj,gr,f.k Z,m,bk⟩ ?_
         clear bs f m
         rintro bw bC bD bE a w ⟨bx,bz,rfl,bA,bB,bF,f,m,bG⟩
         refine Ag (Af ?_)
         refine Ab f Z λa f=>Ai f Z Z Ci λa f=>Aa ?_
         rcases Ae bD with⟨bH,bD⟩|⟨bH,bD⟩
         ·refine Al f Z bH ?_
          refine Am ?_
          refine Ag (Ak (Ag (Ag ?_)))
          refine A9 13 AJ (by kernel_rfl) m ?_
          refine Ah 0 13 Z f Z λa f=>Ah 1 13 Z f Z λa f=>Ah 2 13 Z f Z λa f=> ?_
          have⟨bI,bJ,bD⟩:=bind_some bD
          refine Au (i:=3) (listed':= #[true,true,true,true,false,false,false,false,false,false,false,false,false]) (C:=P2) 13 0 m bG Z AR bJ Z (by kernel_rfl) Z f Z Z Z Z λbK a bL f=>Aw (i:=4) (listed':= #[true,true,true,true,true,false,false,false,false,false,false,false,false]) (C:=P2) [(iv bI.1),(iv bI.2)] 13 0 bG Z Bb bL bJ Z Z (by kernel_rfl) Z f Z Z Z λa f=>Ah 5 13 Z f Z λa f=>Ah 6 13 Z f Z λa f=>q_p 7 13 Z f (λ_=>AL (f.e Z) (f.e Z) A3) λa f=> ?_
          have⟨bM,bN,bD⟩:=bind_some bD
          refine Au (i:=8) (listed':= #[true,true,true,true,true,true,true,true,true,false,false,false,false]) (C:=P2) 13 0 m bG Z AR bN Z (by kernel_rfl) Z f Z Z Z Z λbO a bP f=>Aw (i:=9) (listed':= #[true,true,true,true,true,true,true,true,true,true,false,false,false]) (C:=P2) [(iv bM.1),(iv bM.2)] 13 0 bG Z Bb bP bN Z Z (by kernel_rfl) Z f Z Z Z λa f=> ?_
          have⟨bQ,bR,bD⟩:=bind_some bD
          refine B6 (i:=10) 13 Z (by kernel_rfl) Z f Z Z Z Z call147 (λ_ _ w bS m=>Wk.a m bR) λa f=>q_p 11 13 Z f (λ_=>AL (f.e Z) (f.e Z) AP) λa f=>q_p 12 13 Z f (λ_=>Bn (f.e Z)) λa f=>AZ λbT w bU m=> ?_
          have bG:=OwR.mono trivial bU bG
          refine Aa ?_
          rcases Ae bD with⟨bV,bD⟩|⟨bV,bD⟩
          ·refine Al f Z bV ?_
           refine AE Z ?_
           obtain rfl:=sj bD
           obtain rfl:=bE _ rfl
           exact⟨_,Z,_,bB,(gt bF bU),f.k Z,m,bG⟩
          ·refine Aj f Z bV ?_
           refine Am ?_
           refine BS AJ m ?_
           refine p_p 2 Z f (λ_=>Bh (f.e Z)) λa f=>p_p 3 Z f (λ_=>Bh (f.e Z)) λa f=>p_p 4 Z f (λ_=>AL (f.e Z) (f.e Z) A3) λa f=>BU 28015 12 (by kernel_rfl) Z ?_
           refine Ah 0 28015 Z f Z λa f=>Ah 1 28015 Z f Z λa f=>Ah 5 28015 Z f Z λa f=>Ah 6 28015 Z f Z λa f=>q_p 7 28015 Z f (λ_=>AL (f.e Z) (f.e Z) A3) λa f=> ?_
           have⟨bW,bX,bD⟩:=bind_some bD
           refine Au (i:=8) (listed':= #[true,true,true,true,true,true,true,true,true,false,false,false,false,false,false,false,false,false]) (C:=P2) 28015 0 m bG Z AR bX Z (by kernel_rfl) Z f Z Z Z Z λbY a bZ f=>Aw (i:=9) (listed':= #[true,true,true,true,true,true,true,true,true,true,false,false,false,false,false,false,false,false]) (C:=P2) [(iv bW.1),(iv bW.2)] 28015 0 bG Z Bb bZ bX Z Z (by kernel_rfl) Z f Z Z Z λa f=>Ah 10 28015 Z f Z λa f=>Ah 11 28015 Z f Z λa f=> ?_
           have⟨b0,b1,bD⟩:=bind_some bD
           refine Au (i:=12) (listed':= #[true,true,true,true,true,true,true,true,true,true,true,true,true,false,false,false,false,false]) (C:=P2) 28015 0 m bG Z AR b1 Z (by kernel_rfl) Z f Z Z Z Z λb2 a b3 f=>Aw (i:=13) (listed':= #[true,true,true,true,true,true,true,true,true,true,true,true,true,true,false,false,false,false]) (C:=P2) [(iv b0.1),(iv b0.2)] 28015 0 bG Z Bb b3 b1 Z Z (by kernel_rfl) Z f Z Z Z λa f=> ?_
           have⟨b4,b5,bD⟩:=bind_some bD
           refine Au (i:=14) (listed':= #[true,true,true,true,true,true,true,true,true,true,true,true,true,true,true,false,false,false]) (C:=P2) 28015 0 m bG Z AR b5 Z (by kernel_rfl) Z f Z Z Z Z λb6 a b7 f=>AZ λb8 w b9 m=> ?_
           have bG:=OwR.mono trivial b9 bG
           refine AU (E:=P2) (y':=(bW.1,bW.2)) [(iv bW.1),(iv bW.2)] 0 m bG Z sizeOf99 f Z Z b7 b5 Z (Ao Z (Ao Z AF)) (lb Z) Z λca w m cb=> ?_
           have⟨cc,cd,bD⟩:=bind_some bD
           refine Bt 0 m cb Z AR f Z Z Z cd λce a cf f=>AU (E:=P2) (y':=(b0.1,b0.2)) [(iv b0.1),(iv b0.2)] 0 m cb Z sizeOf99 f Z Z cf cd Z (Ao Z (Ao Z AF)) (lb Z) Z λcg w m ch=>Aa (Ap ?_)
           refine Ab f Z λa f=>Ai f Z Z A3 λa f=>Ac f Z λa f=>Aa ?_
           obtain rfl:=sj bD
           exact⟨_,Z,_,_,Z,_,cg,(gt bF (gt bU b9)),f.k Z,m,ch⟩
         ·refine Aj f Z bH ?_
          refine AE Z ?_
          obtain rfl:=sj bD
          obtain rfl:=bE _ rfl
          exact⟨_,Z,_,bB,bF,f.k Z,m,bG⟩
        ·rintro a w ⟨bt,rfl,bu,bv,ci,f,m,cj⟩
         obtain rfl:=sj bm
         exact⟨_,Z,_,bv,ci,f.k Z,m,cj⟩
       ·refine Aj f Z bq ?_
        refine Am ?_
        obtain rfl:=sj bm
        exact⟨_,Z,_,bj,gr,f.k Z,m,bk⟩
      ·rintro a w ⟨bn,rfl,bo,bp,ck,f,m,cl⟩
       refine Af ?_
       refine Ab f Z λa f=>Ab f Z λa f=>Ai f Z Z A3 λa f=>Ai f Z Z Ci λa f=>Aa ?_
       rcases Ae am with⟨cm,am⟩|⟨cm,am⟩
       ·refine Al f Z cm ?_
        refine Af ?_
        refine Ab f Z λa f=>Ai f Z Z Az λa f=>Ac f Z λa f=>Aa ?_
        have⟨cn,co,am⟩:=bind_some am
        refine AN (λa w=>∃cp:List (Int×Int),cp=cn∧∃(cq:GH) (cr:Itm),GLe bo cq∧Fr a 141 [(0,v0),(1,(iv x1)),(2,(iv x2)),(3,(.func (.func 147) #[] #[])),(9,(iv av)),(10,(iv ai))]∧Mem W cq w (cr::H)∧OwR P2 99 cq cr v0 cp) ?_ ?_
        ·refine Ak ?_
         refine AI (λcs a w=>∃ct:List (Int×Int),∃cu:Int,(ct,cu)=cs∧∃(cv:GH) (cw:Itm),GLe bo cv∧Fr a 141 [(0,v0),(1,(iv x1)),(2,(iv x2)),(3,(.func (.func 147) #[] #[])),(9,(iv av)),(10,(iv ai)),(12,(iv cu))]∧Mem W cv w (cw::H)∧OwR P2 99 cv cw v0 ct) co ⟨_,_,Z,_,bp,gr,f.k Z,m,cl⟩ ?_
         clear co f m
         rintro cs cx cy cz a w ⟨ct,cu,rfl,cv,cw,cA,f,m,cB⟩
         refine Ag (Af ?_)
         refine Ab f Z λa f=>Ab f Z λa f=>Ai f Z Z AP λa f=>Aa ?_
         rcases Ae cy with⟨cC,cy⟩|⟨cC,cy⟩
         ·refine Al f Z cC ?_
          refine Am ?_
          refine Ag (Ak (Ag (Ag ?_)))
          refine A9 13 AJ (by kernel_rfl) m ?_
          refine Ah 0 13 Z f Z λa f=>Ah 1 13 Z f Z λa f=>Ah 2 13 Z f Z λa f=> ?_
          have⟨cD,cE,cy⟩:=bind_some cy
          refine Au (i:=3) (listed':= #[true,true,true,true,false,false,false,false,false,false,false,false,false]) (C:=P2) 13 0 m cB Z AR cE Z (by kernel_rfl) Z f Z Z Z Z λcF a cG f=>Aw (i:=4) (listed':= #[true,true,true,true,true,false,false,false,false,false,false,false,false]) (C:=P2) [(iv cD.1),(iv cD.2)] 13 0 cB Z Bb cG cE Z Z (by kernel_rfl) Z f Z Z Z λa f=>Ah 5 13 Z f Z λa f=>Ah 6 13 Z f Z λa f=>q_p 7 13 Z f (λ_=>AL (f.e Z) (f.e Z) A3) λa f=> ?_
          have⟨cH,cI,cy⟩:=bind_some cy
          refine Au (i:=8) (listed':= #[true,true,true,true,true,true,true,true,true,false,false,false,false]) (C:=P2) 13 0 m cB Z AR cI Z (by kernel_rfl) Z f Z Z Z Z λcJ a cK f=>Aw (i:=9) (listed':= #[true,true,true,true,true,true,true,true,true,true,false,false,false]) (C:=P2) [(iv cH.1),(iv cH.2)] 13 0 cB Z Bb cK cI Z Z (by kernel_rfl) Z f Z Z Z λa f=> ?_
          have⟨cL,cM,cy⟩:=bind_some cy
          refine B6 (i:=10) 13 Z (by kernel_rfl) Z f Z Z Z Z call147 (λ_ _ w cN m=>Wk.a m cM) λa f=>q_p 11 13 Z f (λ_=>AL (f.e Z) (f.e Z) AP) λa f=>q_p 12 13 Z f (λ_=>Bn (f.e Z)) λa f=>AZ λcO w cP m=> ?_
          have cB:=OwR.mono trivial cP cB
          refine Aa ?_
          rcases Ae cy with⟨cQ,cy⟩|⟨cQ,cy⟩
          ·refine Al f Z cQ ?_
           refine AE Z ?_
           obtain rfl:=sj cy
           obtain rfl:=cz _ rfl
           exact⟨_,Z,_,cw,(gt cA cP),f.k Z,m,cB⟩
          ·refine Aj f Z cQ ?_
           refine Am ?_
           refine BS AJ m ?_
           refine p_p 2 Z f (λ_=>Bh (f.e Z)) λa f=>p_p 3 Z f (λ_=>Bh (f.e Z)) λa f=>p_p 4 Z f (λ_=>AL (f.e Z) (f.e Z) A3) λa f=>BU 28015 12 (by kernel_rfl) Z ?_
           refine Ah 0 28015 Z f Z λa f=>Ah 1 28015 Z f Z λa f=>Ah 5 28015 Z f Z λa f=>Ah 6 28015 Z f Z λa f=>q_p 7 28015 Z f (λ_=>AL (f.e Z) (f.e Z) A3) λa f=> ?_
           have⟨cR,cS,cy⟩:=bind_some cy
           refine Au (i:=8) (listed':= #[true,true,true,true,true,true,true,true,true,false,false,false,false,false,false,false,false,false]) (C:=P2) 28015 0 m cB Z AR cS Z (by kernel_rfl) Z f Z Z Z Z λcT a cU f=>Aw (i:=9) (listed':= #[true,true,true,true,true,true,true,true,true,true,false,false,false,false,false,false,false,false]) (C:=P2) [(iv cR.1),(iv cR.2)] 28015 0 cB Z Bb cU cS Z Z (by kernel_rfl) Z f Z Z Z λa f=>Ah 10 28015 Z f Z λa f=>Ah 11 28015 Z f Z λa f=> ?_
           have⟨cV,cW,cy⟩:=bind_some cy
           refine Au (i:=12) (listed':= #[true,true,true,true,true,true,true,true,true,true,true,true,true,false,false,false,false,false]) (C:=P2) 28015 0 m cB Z AR cW Z (by kernel_rfl) Z f Z Z Z Z λcX a cY f=>Aw (i:=13) (listed':= #[true,true,true,true,true,true,true,true,true,true,true,true,true,true,false,false,false,false]) (C:=P2) [(iv cV.1),(iv cV.2)] 28015 0 cB Z Bb cY cW Z Z (by kernel_rfl) Z f Z Z Z λa f=> ?_
           have⟨cZ,c0,cy⟩:=bind_some cy
           refine Au (i:=14) (listed':= #[true,true,true,true,true,true,true,true,true,true,true,true,true,true,true,false,false,false]) (C:=P2) 28015 0 m cB Z AR c0 Z (by kernel_rfl) Z f Z Z Z Z λc1 a c2 f=>AZ λc3 w c4 m=> ?_
           have cB:=OwR.mono trivial c4 cB
           refine AU (E:=P2) (y':=(cR.1,cR.2)) [(iv cR.1),(iv cR.2)] 0 m cB Z sizeOf99 f Z Z c2 c0 Z (Ao Z (Ao Z AF)) (lb Z) Z λc5 w m c6=> ?_
           have⟨c7,c8,cy⟩:=bind_some cy
           refine Bt 0 m c6 Z AR f Z Z Z c8 λc9 a da f=>AU (E:=P2) (y':=(cV.1,cV.2)) [(iv cV.1),(iv cV.2)] 0 m c6 Z sizeOf99 f Z Z da c8 Z (Ao Z (Ao Z AF)) (lb Z) Z λdb w m dc=>Aa (Ap ?_)
           refine Ab f Z λa f=>Ai f Z Z Az λa f=>Ac f Z λa f=>Aa ?_
           obtain rfl:=sj cy
           exact⟨_,Z,_,_,Z,_,db,(gt cA (gt cP c4)),f.k Z,m,dc⟩
         ·refine Aj f Z cC ?_
          refine AE Z ?_
          obtain rfl:=sj cy
          obtain rfl:=cz _ rfl
          exact⟨_,Z,_,cw,cA,f.k Z,m,cB⟩
        ·rintro a w ⟨cp,rfl,cq,cr,dd,f,m,de⟩
         refine Ap ?_
         refine Ab f Z λa f=>Ai f Z Z Az λa f=>Ac f Z λa f=>Aa ?_
         obtain rfl:=sj am
         exact⟨_,Z,_,_,_,Z,_,cr,(gt ao (gt aW (gt bc (gt ck dd)))),f.k Z,m,de⟩
       ·refine Aj f Z cm ?_
        refine Am ?_
        refine Ap ?_
        refine Ab f Z λa f=>Ai f Z Z Az λa f=>Ac f Z λa f=>Aa ?_
        obtain rfl:=sj am
        exact⟨_,Z,_,_,_,Z,_,bp,(gt ao (gt aW (gt bc ck))),f.k Z,m,cl⟩
  ·refine Aj f Z aq ?_
   refine AE Z ?_
   obtain rfl:=sj am
   obtain rfl:=an _ rfl
   exact⟨_,Z,_,Z,_,ak,ao,f.weak trivial,m,ap⟩
 ·rintro a w ⟨_,rfl,ac,rfl,ad,ae,df,f,m,dg⟩
  refine Af ?_
  refine Ac f Z λa f=>Aa ?_
  refine Ax ?_
  obtain rfl:=sj hd
  exact⟨[(.bool false)],f.g Z,f.d,_,[ae],df,m,_,Z,Z,dg⟩
theorem Wk.J0 {v0:Value}{it0:Itm}{x0:(List (Int×Int))}{x1 x2 x3:Int}(m:Mem W G w (it0::H))(o0:OwR P2 99 G it0 v0 x0){y:Int×((List (Int×Int)))}(hd:D.J0 x0 x1 x2 x3=some y):
  Calls prog 174 #[v0,(iv x1),(iv x2),(iv x3),(.func (.func 147) #[] #[])] w (Res W G H (λG' Ho v=>∃i0:Itm,Ho=[i0]∧v=(iv y.1)∧OwR P2 99 G' i0 v0 y.2)):=by
 refine AB (args:=[v0,(iv x1),(iv x2),(iv x3),(.func (.func 147) #[] #[])]) (N:=90) [.tmp 10] func174 Z Z (lb Z) Z λa f=> ?_
 unfold D.J0 at hd
 refine Af ?_
 refine Ac f Z λa f=>Aa (Ag ?_)
 refine BS AJ m ?_
 refine p_p 2 Z f (λ_=>Bh (f.e Z)) λa f=>p_p 3 Z f (λ_=>Bh (f.e Z)) λa f=>BU 12013 11 (by kernel_rfl) Z ?_
 refine Ah 0 12013 Z f Z λa f=>Ah 1 12013 Z f Z λa f=>Ah 4 12013 Z f Z λa f=>Ah 5 12013 Z f Z λa f=> ?_
 have⟨aa,ab,hd⟩:=bind_some hd
 refine Au (i:=6) (listed':= #[true,true,true,true,true,true,true,false,false,false,false,false,false,false,false,false]) (C:=P2) 12013 0 m o0 Z AR ab Z (by kernel_rfl) Z f Z Z Z Z λac a ad f=>Aw (i:=7) (listed':= #[true,true,true,true,true,true,true,true,false,false,false,false,false,false,false,false]) (C:=P2) [(iv aa.1),(iv aa.2)] 12013 0 o0 Z Bb ad ab Z Z (by kernel_rfl) Z f Z Z Z λa f=>Ah 8 12013 Z f Z λa f=>Ah 9 12013 Z f Z λa f=> ?_
 have⟨ae,af,hd⟩:=bind_some hd
 refine Au (i:=10) (listed':= #[true,true,true,true,true,true,true,true,true,true,true,false,false,false,false,false]) (C:=P2) 12013 0 m o0 Z AR af Z (by kernel_rfl) Z f Z Z Z Z λag a ah f=>Aw (i:=11) (listed':= #[true,true,true,true,true,true,true,true,true,true,true,true,false,false,false,false]) (C:=P2) [(iv ae.1),(iv ae.2)] 12013 0 o0 Z Bb ah af Z Z (by kernel_rfl) Z f Z Z Z λa f=> ?_
 have⟨ai,aj,hd⟩:=bind_some hd
 refine Au (i:=12) (listed':= #[true,true,true,true,true,true,true,true,true,true,true,true,true,false,false,false]) (C:=P2) 12013 0 m o0 Z AR aj Z (by kernel_rfl) Z f Z Z Z Z λak a al f=>AZ λam w an m=> ?_
 have o0:=OwR.mono trivial an o0
 refine AU (E:=P2) (y':=(aa.1,aa.2)) [(iv aa.1),(iv aa.2)] 0 m o0 Z sizeOf99 f Z Z al aj Z (Ao Z (Ao Z AF)) (lb Z) Z λao w m ap=> ?_
 have⟨aq,ar,hd⟩:=bind_some hd
 refine Bt 0 m ap Z AR f Z Z Z ar λau a av f=>AU (E:=P2) (y':=(ae.1,ae.2)) [(iv ae.1),(iv ae.2)] 0 m ap Z sizeOf99 f Z Z av ar Z (Ao Z (Ao Z AF)) (lb Z) Z λaw w m ax=>AG ?_
 refine Ab f Z λa f=>Ai f Z Z Az λa f=>Ab f Z λa f=>Ai f Z Z A3 λa f=>Ac f Z λa f=>Ac f Z λa f=>Aa (Ag ?_)
 have⟨ay,az,hd⟩:=bind_some hd
 refine AN (λa w=>∃aA:List (Int×Int),∃aB:Int,(aA,aB)=ay∧∃(aC:GH) (aD:Itm),GLe am aC∧Fr a 90 [(11,(iv aB))]∧Mem W aC w (aD::H)∧OwR P2 99 aC aD v0 aA) ?_ ?_
 ·refine Ak ?_
  refine AI (λaE a w=>∃aF:List (Int×Int),∃aG:Int,∃aH:Int,(aF,aG,aH)=aE∧∃(aI:GH) (aJ:Itm),GLe am aI∧Fr a 90 [(0,v0),(1,(iv x1)),(4,(.func (.func 147) #[] #[])),(11,(iv aG)),(12,(iv aH))]∧Mem W aI w (aJ::H)∧OwR P2 99 aI aJ v0 aF) az ⟨_,_,_,Z,_,aw,gr,f.k Z,m,ax⟩ ?_
  clear az f m
  rintro aE aK aL aM a w ⟨aF,aG,aH,rfl,aI,aJ,aN,f,m,aO⟩
  refine Ak (Ag ?_)
  have⟨aP,aQ,aL⟩:=bind_some aL
  refine AN (λa w=>∃aR:Int,aR=aP∧∃(aS:GH),GLe aI aS∧Fr a 90 [(0,v0),(1,(iv x1)),(4,(.func (.func 147) #[] #[])),(11,(iv aR)),(12,(iv aH))]∧Mem W aS w (aJ::H)) ?_ ?_
  ·refine Ak ?_
   refine AI (λaT a w=>∃aU:Int,aU=aT∧∃(aV:GH),GLe aI aV∧Fr a 90 [(0,v0),(1,(iv x1)),(4,(.func (.func 147) #[] #[])),(11,(iv aU)),(12,(iv aH))]∧Mem W aV w (aJ::H)) aQ ⟨_,Z,_,gr,f.k Z,m⟩ ?_
   clear aQ f m
   rintro aT aW aX aY a w ⟨aU,rfl,aV,aZ,f,m⟩
   have aO:=OwR.mono trivial aZ aO
   refine Ag (Ag ?_)
   refine A9 17 AJ (by kernel_rfl) m ?_
   refine Ah 0 17 Z f Z λa f=>Ah 1 17 Z f Z λa f=>q_p 2 17 Z f (λ_=>AL (f.e Z) (f.e Z) CY) λa f=>Ah 3 17 Z f Z λa f=> ?_
   have⟨a0,a1,aX⟩:=bind_some aX
   refine Cf (fuel':=0) (listed':= #[true,true,true,true,true,true,true,true,true,true,true,true,true,true,true,true,true]) (λa=>Fr a 90 [(0,v0),(1,(iv x1)),(4,(.func (.func 147) #[] #[])),(11,(iv aU)),(12,(iv aH)),(31,(iv aU)),(32,(iv aH)),(33,(.bool (decide (aU≤aH)))),(34,(.bool (decide (aU≤aH)))),(47,(.bool a0))]) ?_ ?_
   ·intro a f
    refine AZ λa2 w a3 m=>Aa ?_
    rcases Ae aX with⟨a4,aX⟩|⟨a4,aX⟩
    ·refine Al f Z a4 ?_
     refine Am ?_
     refine Ak (Ap ?_)
     refine Ab f Z λa f=>Ai f Z Z Az λa f=>Ac f Z λa f=>Aa ?_
     obtain rfl:=sj aX
     exact⟨_,Z,_,Z,_,(gt aZ a3),f.k Z,m⟩
    ·refine Aj f Z a4 ?_
     refine AE Z ?_
     obtain rfl:=sj aX
     obtain rfl:=aY _ rfl
     exact⟨_,Z,_,(gt aZ a3),f.k Z,m⟩
   ·intro a5
    rcases Ae a1 with⟨a6,a1⟩|⟨a6,a1⟩
    ·refine Ah (hw:=wo f a6) 4 17 Z f Z λa f=> ?_
     refine Ah (hw:=wo f a6) 5 17 Z f Z λa f=>Ah (hw:=wo f a6) 6 17 Z f Z λa f=> ?_
     have⟨a7,a8,a1⟩:=bind_some a1
     refine Au (i:=7) (listed':= #[true,true,true,true,true,true,true,true,false,false,false,false,false,false,false,false,false]) (C:=P2) 17 0 m aO Z AR a8 Z (by kernel_rfl) Z f (Ay f Z Z Z a6) Z Z Z λa9 a ba f=>Aw (i:=8) (listed':= #[true,true,true,true,true,true,true,true,true,false,false,false,false,false,false,false,false]) (C:=P2) [(iv a7.1),(iv a7.2)] 17 0 aO Z Bb ba a8 Z Z (by kernel_rfl) Z f (Ay f Z Z Z a6) Z Z λa f=>Ah (hw:=wo f a6) 9 17 Z f Z λa f=>Ah (hw:=wo f a6) 10 17 Z f Z λa f=> ?_
     have⟨bb,bc,a1⟩:=bind_some a1
     refine Au (i:=11) (listed':= #[true,true,true,true,true,true,true,true,true,true,true,true,false,false,false,false,false]) (C:=P2) 17 0 m aO Z AR bc Z (by kernel_rfl) Z f (Ay f Z Z Z a6) Z Z Z λbd a be f=>Aw (i:=12) (listed':= #[true,true,true,true,true,true,true,true,true,true,true,true,true,false,false,false,false]) (C:=P2) [(iv bb.1),(iv bb.2)] 17 0 aO Z Bb be bc Z Z (by kernel_rfl) Z f (Ay f Z Z Z a6) Z Z λa f=> ?_
     have⟨bf,bg,a1⟩:=bind_some a1
     refine B6 (i:=13) 17 Z (by kernel_rfl) Z f (Ay f Z Z Z a6) Z Z Z call147 (λ_ _ w bh m=>Wk.a m bg) λa f=>q_p (hw:=wo f a6) 14 17 Z f (λ_=>AL (f.e Z) (f.e Z) AP) λa f=>q_p (hw:=wo f a6) 15 17 Z f (λ_=>Bn (f.e Z)) λa f=>q_p 16 17 Z f (λ_=>AT (f.e Z) a6 (f.e Z)) λa f=> ?_
     obtain rfl:=sj a1
     exact a5 _ (f.k Z)
    ·refine Aq 4 17 Z f a6 λa f=> ?_
     refine Aq 5 17 Z f a6 λa f=>Aq 6 17 Z f a6 λa f=>Aq 7 17 Z f a6 λa f=>Aq 8 17 Z f a6 λa f=>Aq 9 17 Z f a6 λa f=>Aq 10 17 Z f a6 λa f=>Aq 11 17 Z f a6 λa f=>Aq 12 17 Z f a6 λa f=>Aq 13 17 Z f a6 λa f=>Aq 14 17 Z f a6 λa f=>Aq 15 17 Z f a6 λa f=>q_p 16 17 Z f (λ_=>AS (f.e Z) a6 (f.e Z)) λa f=> ?_
     obtain rfl:=sj a1
     exact a5 _ (f.k Z)
  ·rintro a w ⟨aR,rfl,aS,bi,f,m⟩
   have aO:=OwR.mono trivial bi aO
   refine Ag ?_
   have⟨bj,bk,aL⟩:=bind_some aL
   refine AN (λa w=>∃bl:Int,bl=bj∧∃(bm:GH),GLe aS bm∧Fr a 90 [(0,v0),(1,(iv x1)),(4,(.func (.func 147) #[] #[])),(11,(iv aR)),(12,(iv bl))]∧Mem W bm w (aJ::H)) ?_ ?_
   ·refine Ak ?_
    refine AI (λbn a w=>∃bo:Int,bo=bn∧∃(bp:GH),GLe aS bp∧Fr a 90 [(0,v0),(1,(iv x1)),(4,(.func (.func 147) #[] #[])),(11,(iv aR)),(12,(iv bo))]∧Mem W bp w (aJ::H)) bk ⟨_,Z,_,gr,f.k Z,m⟩ ?_
    clear bk f m
    rintro bn bq br bs a w ⟨bo,rfl,bp,bt,f,m⟩
    have aO:=OwR.mono trivial bt aO
    refine Ag (Ag ?_)
    refine A9 16 AJ (by kernel_rfl) m ?_
    refine Ah 0 16 Z f Z λa f=>Ah 1 16 Z f Z λa f=>q_p 2 16 Z f (λ_=>AL (f.e Z) (f.e Z) CY) λa f=>Ah 3 16 Z f Z λa f=> ?_
    have⟨bu,bv,br⟩:=bind_some br
    refine Cf (fuel':=0) (listed':= #[true,true,true,true,true,true,true,true,true,true,true,true,true,true,true,true]) (λa=>Fr a 90 [(0,v0),(1,(iv x1)),(4,(.func (.func 147) #[] #[])),(11,(iv aR)),(12,(iv bo)),(50,(iv aR)),(51,(iv bo)),(52,(.bool (decide (aR≤bo)))),(53,(.bool (decide (aR≤bo)))),(65,(.bool bu))]) ?_ ?_
    ·intro a f
     refine AZ λbw w bx m=>Aa ?_
     rcases Ae br with⟨bz,br⟩|⟨bz,br⟩
     ·refine Al f Z bz ?_
      refine Am ?_
      refine Ak (Ap ?_)
      refine Ab f Z λa f=>Ai f Z Z A3 λa f=>Ac f Z λa f=>Aa ?_
      obtain rfl:=sj br
      exact⟨_,Z,_,Z,_,(gt bt bx),f.k Z,m⟩
     ·refine Aj f Z bz ?_
      refine AE Z ?_
      obtain rfl:=sj br
      obtain rfl:=bs _ rfl
      exact⟨_,Z,_,(gt bt bx),f.k Z,m⟩
    ·intro bA
     rcases Ae bv with⟨bB,bv⟩|⟨bB,bv⟩
     ·refine Ah (hw:=wo f bB) 4 16 Z f Z λa f=> ?_
      refine Ah (hw:=wo f bB) 5 16 Z f Z λa f=>Ah (hw:=wo f bB) 6 16 Z f Z λa f=> ?_
      have⟨bC,bD,bv⟩:=bind_some bv
      refine Au (i:=7) (listed':= #[true,true,true,true,true,true,true,true,false,false,false,false,false,false,false,false]) (C:=P2) 16 0 m aO Z AR bD Z (by kernel_rfl) Z f (Ay f Z Z Z bB) Z Z Z λbE a bF f=>Aw (i:=8) (listed':= #[true,true,true,true,true,true,true,true,true,false,false,false,false,false,false,false]) (C:=P2) [(iv bC.1),(iv bC.2)] 16 0 aO Z Bb bF bD Z Z (by kernel_rfl) Z f (Ay f Z Z Z bB) Z Z λa f=>Ah (hw:=wo f bB) 9 16 Z f Z λa f=>Ah (hw:=wo f bB) 10 16 Z f Z λa f=> ?_
      have⟨bG,bH,bv⟩:=bind_some bv
      refine Au (i:=11) (listed':= #[true,true,true,true,true,true,true,true,true,true,true,true,false,false,false,false]) (C:=P2) 16 0 m aO Z AR bH Z (by kernel_rfl) Z f (Ay f Z Z Z bB) Z Z Z λbI a bJ f=>Aw (i:=12) (listed':= #[true,true,true,true,true,true,true,true,true,true,true,true,true,false,false,false]) (C:=P2) [(iv bG.1),(iv bG.2)] 16 0 aO Z Bb bJ bH Z Z (by kernel_rfl) Z f (Ay f Z Z Z bB) Z Z λa f=> ?_
      have⟨bK,bL,bv⟩:=bind_some bv
      refine B6 (i:=13) 16 Z (by kernel_rfl) Z f (Ay f Z Z Z bB) Z Z Z call147 (λ_ _ w bM m=>Wk.a m bL) λa f=>q_p (hw:=wo f bB) 14 16 Z f (λ_=>AL (f.e Z) (f.e Z) AP) λa f=>q_p 15 16 Z f (λ_=>AT (f.e Z) bB (f.e Z)) λa f=> ?_
      obtain rfl:=sj bv
      exact bA _ (f.k Z)
     ·refine Aq 4 16 Z f bB λa f=> ?_
      refine Aq 5 16 Z f bB λa f=>Aq 6 16 Z f bB λa f=>Aq 7 16 Z f bB λa f=>Aq 8 16 Z f bB λa f=>Aq 9 16 Z f bB λa f=>Aq 10 16 Z f bB λa f=>Aq 11 16 Z f bB λa f=>Aq 12 16 Z f bB λa f=>Aq 13 16 Z f bB λa f=>Aq 14 16 Z f bB λa f=>q_p 15 16 Z f (λ_=>AS (f.e Z) bB (f.e Z)) λa f=> ?_
      obtain rfl:=sj bv
      exact bA _ (f.k Z)
   ·rintro a w ⟨bl,rfl,bm,bN,f,m⟩
    have aO:=OwR.mono trivial bN aO
    refine Ag (Af ?_)
    refine Ab f Z λa f=>Ab f Z λa f=>Ai f Z Z Cx λa f=>Aa ?_
    rcases Ae aL with⟨bO,aL⟩|⟨bO,aL⟩
    ·refine Al f Z bO ?_
     refine AE Z ?_
     obtain rfl:=sj aL
     obtain rfl:=aM _ rfl
     exact⟨_,_,Z,_,aJ,(gt aN (gt bi bN)),f.k Z,m,aO⟩
    ·refine Aj f Z bO ?_
     refine Am ?_
     refine Ag ?_
     refine BS AJ m ?_
     refine p_p 2 Z f (λ_=>Bh (f.e Z)) λa f=>p_p 3 Z f (λ_=>Bh (f.e Z)) λa f=>BU 12013 11 (by kernel_rfl) Z ?_
     refine Ah 0 12013 Z f Z λa f=>Ah 1 12013 Z f Z λa f=>Ah 4 12013 Z f Z λa f=>Ah 5 12013 Z f Z λa f=> ?_
     have⟨bP,bQ,aL⟩:=bind_some aL
     refine Au (i:=6) (listed':= #[true,true,true,true,true,true,true,false,false,false,false,false,false,false,false,false]) (C:=P2) 12013 0 m aO Z AR bQ Z (by kernel_rfl) Z f Z Z Z Z λbR a bS f=>Aw (i:=7) (listed':= #[true,true,true,true,true,true,true,true,false,false,false,false,false,false,false,false]) (C:=P2) [(iv bP.1),(iv bP.2)] 12013 0 aO Z Bb bS bQ Z Z (by kernel_rfl) Z f Z Z Z λa f=>Ah 8 12013 Z f Z λa f=>Ah 9 12013 Z f Z λa f=> ?_
     have⟨bT,bU,aL⟩:=bind_some aL
     refine Au (i:=10) (listed':= #[true,true,true,true,true,true,true,true,true,true,true,false,false,false,false,false]) (C:=P2) 12013 0 m aO Z AR bU Z (by kernel_rfl) Z f Z Z Z Z λbV a bW f=>Aw (i:=11) (listed':= #[true,true,true,true,true,true,true,true,true,true,true,true,false,false,false,false]) (C:=P2) [(iv bT.1),(iv bT.2)] 12013 0 aO Z Bb bW bU Z Z (by kernel_rfl) Z f Z Z Z λa f=> ?_
     have⟨bX,bY,aL⟩:=bind_some aL
     refine Au (i:=12) (listed':= #[true,true,true,true,true,true,true,true,true,true,true,true,true,false,false,false]) (C:=P2) 12013 0 m aO Z AR bY Z (by kernel_rfl) Z f Z Z Z Z λbZ a b0 f=>AZ λb1 w b2 m=> ?_
     have aO:=OwR.mono trivial b2 aO
     refine AU (E:=P2) (y':=(bP.1,bP.2)) [(iv bP.1),(iv bP.2)] 0 m aO Z sizeOf99 f Z Z b0 bY Z (Ao Z (Ao Z AF)) (lb Z) Z λb3 w m b4=> ?_
     have⟨b5,b6,aL⟩:=bind_some aL
     refine Bt 0 m b4 Z AR f Z Z Z b6 λb7 a b8 f=>AU (E:=P2) (y':=(bT.1,bT.2)) [(iv bT.1),(iv bT.2)] 0 m b4 Z sizeOf99 f Z Z b8 b6 Z (Ao Z (Ao Z AF)) (lb Z) Z λb9 w m ca=>AG ?_
     refine Ab f Z λa f=>Ai f Z Z Az λa f=>Ac f Z λa f=>Aa (Ap ?_)
     refine Ab f Z λa f=>Ai f Z Z A3 λa f=>Ac f Z λa f=>Aa ?_
     obtain rfl:=sj aL
     exact⟨_,Z,_,_,_,Z,_,b9,(gt aN (gt bi (gt bN b2))),f.k Z,m,ca⟩
 ·rintro a w ⟨aA,aB,rfl,aC,aD,cb,f,m,cc⟩
  refine Af ?_
  refine Ab f Z λa f=>Ac f Z λa f=>Aa ?_
  refine Ax ?_
  obtain rfl:=sj hd
  exact⟨[(iv aB)],f.g Z,f.d,_,[aD],(gt an cb),m,_,Z,Z,cc⟩
theorem Wk.C0 {v0:Value}{it0:Itm}{x0:(List (Int×Int))}{x1 x2 x3:Int}(m:Mem W G w (it0::H))(o0:OwR P2 99 G it0 v0 x0){y:Int×Bool×((List (Int×Int)))}(hd:D.C0 x0 x1 x2 x3=some y):
  Calls prog 175 #[v0,(iv x1),(iv x2),(iv x3),(.func (.func 147) #[] #[])] w (Res W G H (λG' Ho v=>∃i0:Itm,Ho=[i0]∧v= .tuple #[(iv y.1),(.bool y.2.1)]∧OwR P2 99 G' i0 v0 y.2.2)):=by
 refine AB (args:=[v0,(iv x1),(iv x2),(iv x3),(.func (.func 147) #[] #[])]) (N:=178) [.tmp 10,.tmp 11] func175 Z Z (lb Z) Z λa f=> ?_
 unfold D.C0 at hd
 refine Af ?_
 refine Ac f Z λa f=>Ac f Z λa f=>Aa (Ag ?_)
 refine BS AJ m ?_
 refine p_p 2 Z f (λ_=>Bh (f.e Z)) λa f=>p_p 3 Z f (λ_=>Bh (f.e Z)) λa f=>BU 12013 11 (by kernel_rfl) Z ?_
 refine Ah 0 12013 Z f Z λa f=>Ah 1 12013 Z f Z λa f=>Ah 4 12013 Z f Z λa f=>Ah 5 12013 Z f Z λa f=> ?_
 have⟨aa,ab,hd⟩:=bind_some hd
 refine Au (i:=6) (listed':= #[true,true,true,true,true,true,true,false,false,false,false,false,false,false,false,false]) (C:=P2) 12013 0 m o0 Z AR ab Z (by kernel_rfl) Z f Z Z Z Z λac a ad f=>Aw (i:=7) (listed':= #[true,true,true,true,true,true,true,true,false,false,false,false,false,false,false,false]) (C:=P2) [(iv aa.1),(iv aa.2)] 12013 0 o0 Z Bb ad ab Z Z (by kernel_rfl) Z f Z Z Z λa f=>Ah 8 12013 Z f Z λa f=>Ah 9 12013 Z f Z λa f=> ?_
 have⟨ae,af,hd⟩:=bind_some hd
 refine Au (i:=10) (listed':= #[true,true,true,true,true,true,true,true,true,true,true,false,false,false,false,false]) (C:=P2) 12013 0 m o0 Z AR af Z (by kernel_rfl) Z f Z Z Z Z λag a ah f=>Aw (i:=11) (listed':= #[true,true,true,true,true,true,true,true,true,true,true,true,false,false,false,false]) (C:=P2) [(iv ae.1),(iv ae.2)] 12013 0 o0 Z Bb ah af Z Z (by kernel_rfl) Z f Z Z Z λa f=> ?_
 have⟨ai,aj,hd⟩:=bind_some hd
 refine Au (i:=12) (listed':= #[true,true,true,true,true,true,true,true,true,true,true,true,true,false,false,false]) (C:=P2) 12013 0 m o0 Z AR aj Z (by kernel_rfl) Z f Z Z Z Z λak a al f=>AZ λam w an m=> ?_
 have o0:=OwR.mono trivial an o0
 refine AU (E:=P2) (y':=(aa.1,aa.2)) [(iv aa.1),(iv aa.2)] 0 m o0 Z sizeOf99 f Z Z al aj Z (Ao Z (Ao Z AF)) (lb Z) Z λao w m ap=> ?_
 have⟨aq,ar,hd⟩:=bind_some hd
 refine Bt 0 m ap Z AR f Z Z Z ar λau a av f=>AU (E:=P2) (y':=(ae.1,ae.2)) [(iv ae.1),(iv ae.2)] 0 m ap Z sizeOf99 f Z Z av ar Z (Ao Z (Ao Z AF)) (lb Z) Z λaw w m ax=>AG ?_
 refine Ab f Z λa f=>Ai f Z Z Az λa f=>Ab f Z λa f=>Ai f Z Z A3 λa f=>Ac f Z λa f=>Ac f Z λa f=>Aa (Ag ?_)
 have⟨ay,az,hd⟩:=bind_some hd
 refine AN (λa w=>∃aA:Int,aA=ay∧∃(aB:GH),GLe am aB∧Fr a 178 [(0,v0),(1,(iv x1)),(4,(.func (.func 147) #[] #[])),(12,(iv aA)),(13,(iv (i64.wrap (x2-1))))]∧Mem W aB w (aw::H)) ?_ ?_
 ·refine Ak ?_
  refine AI (λaC a w=>∃aD:Int,aD=aC∧∃(aE:GH),GLe am aE∧Fr a 178 [(0,v0),(1,(iv x1)),(4,(.func (.func 147) #[] #[])),(12,(iv aD)),(13,(iv (i64.wrap (x2-1))))]∧Mem W aE w (aw::H)) az ⟨_,Z,_,gr,f.k Z,m⟩ ?_
  clear az f m
  rintro aC aF aG aH a w ⟨aD,rfl,aE,aI,f,m⟩
  have ax:=OwR.mono trivial aI ax
  refine Ag (Ag ?_)
  refine A9 16 AJ (by kernel_rfl) m ?_
  refine Ah 0 16 Z f Z λa f=>Ah 1 16 Z f Z λa f=>q_p 2 16 Z f (λ_=>AL (f.e Z) (f.e Z) CY) λa f=>Ah 3 16 Z f Z λa f=> ?_
  have⟨aJ,aK,aG⟩:=bind_some aG
  refine Cf (fuel':=0) (listed':= #[true,true,true,true,true,true,true,true,true,true,true,true,true,true,true,true]) (λa=>Fr a 178 [(0,v0),(1,(iv x1)),(4,(.func (.func 147) #[] #[])),(12,(iv aD)),(13,(iv (i64.wrap (x2-1)))),(32,(iv aD)),(33,(iv (i64.wrap (x2-1)))),(34,(.bool (decide (aD≤(i64.wrap (x2-1)))))),(35,(.bool (decide (aD≤(i64.wrap (x2-1)))))),(47,(.bool aJ))]) ?_ ?_
  ·intro a f
   refine AZ λaL w aM m=>Aa ?_
   rcases Ae aG with⟨aN,aG⟩|⟨aN,aG⟩
   ·refine Al f Z aN ?_
    refine Am ?_
    refine Ak (Ap ?_)
    refine Ab f Z λa f=>Ai f Z Z Az λa f=>Ac f Z λa f=>Aa ?_
    obtain rfl:=sj aG
    exact⟨_,Z,_,Z,_,(gt aI aM),f.k Z,m⟩
   ·refine Aj f Z aN ?_
    refine AE Z ?_
    obtain rfl:=sj aG
    obtain rfl:=aH _ rfl
    exact⟨_,Z,_,(gt aI aM),f.k Z,m⟩
  ·intro aO
   rcases Ae aK with⟨aP,aK⟩|⟨aP,aK⟩
   ·refine Ah (hw:=wo f aP) 4 16 Z f Z λa f=> ?_
    refine Ah (hw:=wo f aP) 5 16 Z f Z λa f=>Ah (hw:=wo f aP) 6 16 Z f Z λa f=> ?_
    have⟨aQ,aR,aK⟩:=bind_some aK
    refine Au (i:=7) (listed':= #[true,true,true,true,true,true,true,true,false,false,false,false,false,false,false,false]) (C:=P2) 16 0 m ax Z AR aR Z (by kernel_rfl) Z f (Ay f Z Z Z aP) Z Z Z λaS a aT f=>Aw (i:=8) (listed':= #[true,true,true,true,true,true,true,true,true,false,false,false,false,false,false,false]) (C:=P2) [(iv aQ.1),(iv aQ.2)] 16 0 ax Z Bb aT aR Z Z (by kernel_rfl) Z f (Ay f Z Z Z aP) Z Z λa f=>Ah (hw:=wo f aP) 9 16 Z f Z λa f=>Ah (hw:=wo f aP) 10 16 Z f Z λa f=> ?_
    have⟨aU,aV,aK⟩:=bind_some aK
    refine Au (i:=11) (listed':= #[true,true,true,true,true,true,true,true,true,true,true,true,false,false,false,false]) (C:=P2) 16 0 m ax Z AR aV Z (by kernel_rfl) Z f (Ay f Z Z Z aP) Z Z Z λaW a aX f=>Aw (i:=12) (listed':= #[true,true,true,true,true,true,true,true,true,true,true,true,true,false,false,false]) (C:=P2) [(iv aU.1),(iv aU.2)] 16 0 ax Z Bb aX aV Z Z (by kernel_rfl) Z f (Ay f Z Z Z aP) Z Z λa f=> ?_
    have⟨aY,aZ,aK⟩:=bind_some aK
    refine B6 (i:=13) 16 Z (by kernel_rfl) Z f (Ay f Z Z Z aP) Z Z Z call147 (λ_ _ w a0 m=>Wk.a m aZ) λa f=>q_p (hw:=wo f aP) 14 16 Z f (λ_=>AL (f.e Z) (f.e Z) AP) λa f=>q_p 15 16 Z f (λ_=>AT (f.e Z) aP (f.e Z)) λa f=> ?_
    obtain rfl:=sj aK
    exact aO _ (f.k Z)
   ·refine Aq 4 16 Z f aP λa f=> ?_
    refine Aq 5 16 Z f aP λa f=>Aq 6 16 Z f aP λa f=>Aq 7 16 Z f aP λa f=>Aq 8 16 Z f aP λa f=>Aq 9 16 Z f aP λa f=>Aq 10 16 Z f aP λa f=>Aq 11 16 Z f aP λa f=>Aq 12 16 Z f aP λa f=>Aq 13 16 Z f aP λa f=>Aq 14 16 Z f aP λa f=>q_p 15 16 Z f (λ_=>AS (f.e Z) aP (f.e Z)) λa f=> ?_
    obtain rfl:=sj aK
    exact aO _ (f.k Z)
 ·rintro a w ⟨aA,rfl,aB,a1,f,m⟩
  have ax:=OwR.mono trivial a1 ax
  refine Ag ?_
  have⟨a2,a3,hd⟩:=bind_some hd
  refine AN (λa w=>∃a4:Int,a4=a2∧∃(a5:GH),GLe aB a5∧Fr a 178 [(0,v0),(1,(iv x1)),(4,(.func (.func 147) #[] #[])),(12,(iv aA)),(13,(iv a4))]∧Mem W a5 w (aw::H)) ?_ ?_
  ·refine Ak ?_
   refine AI (λa6 a w=>∃a7:Int,a7=a6∧∃(a8:GH),GLe aB a8∧Fr a 178 [(0,v0),(1,(iv x1)),(4,(.func (.func 147) #[] #[])),(12,(iv aA)),(13,(iv a7))]∧Mem W a8 w (aw::H)) a3 ⟨_,Z,_,gr,f.k Z,m⟩ ?_
   clear a3 f m
   rintro a6 a9 ba bb a w ⟨a7,rfl,a8,bc,f,m⟩
   have ax:=OwR.mono trivial bc ax
   refine Ag (Ag ?_)
   refine A9 17 AJ (by kernel_rfl) m ?_
   refine Ah 0 17 Z f Z λa f=>Ah 1 17 Z f Z λa f=>q_p 2 17 Z f (λ_=>AL (f.e Z) (f.e Z) CY) λa f=>Ah 3 17 Z f Z λa f=> ?_
   have⟨bd,be,ba⟩:=bind_some ba
   refine Cf (fuel':=0) (listed':= #[true,true,true,true,true,true,true,true,true,true,true,true,true,true,true,true,true]) (λa=>Fr a 178 [(0,v0),(1,(iv x1)),(4,(.func (.func 147) #[] #[])),(12,(iv aA)),(13,(iv a7)),(50,(iv aA)),(51,(iv a7)),(52,(.bool (decide (aA≤a7)))),(53,(.bool (decide (aA≤a7)))),(66,(.bool bd))]) ?_ ?_
   ·intro a f
    refine AZ λbf w bg m=>Aa ?_
    rcases Ae ba with⟨bh,ba⟩|⟨bh,ba⟩
    ·refine Al f Z bh ?_
     refine Am ?_
     refine Ak (Ap ?_)
     refine Ab f Z λa f=>Ai f Z Z A3 λa f=>Ac f Z λa f=>Aa ?_
     obtain rfl:=sj ba
     exact⟨_,Z,_,Z,_,(gt bc bg),f.k Z,m⟩
    ·refine Aj f Z bh ?_
     refine AE Z ?_
     obtain rfl:=sj ba
     obtain rfl:=bb _ rfl
     exact⟨_,Z,_,(gt bc bg),f.k Z,m⟩
   ·intro bi
    rcases Ae be with⟨bj,be⟩|⟨bj,be⟩
    ·refine Ah (hw:=wo f bj) 4 17 Z f Z λa f=> ?_
     refine Ah (hw:=wo f bj) 5 17 Z f Z λa f=>Ah (hw:=wo f bj) 6 17 Z f Z λa f=> ?_
     have⟨bk,bl,be⟩:=bind_some be
     refine Au (i:=7) (listed':= #[true,true,true,true,true,true,true,true,false,false,false,false,false,false,false,false,false]) (C:=P2) 17 0 m ax Z AR bl Z (by kernel_rfl) Z f (Ay f Z Z Z bj) Z Z Z λbm a bn f=>Aw (i:=8) (listed':= #[true,true,true,true,true,true,true,true,true,false,false,false,false,false,false,false,false]) (C:=P2) [(iv bk.1),(iv bk.2)] 17 0 ax Z Bb bn bl Z Z (by kernel_rfl) Z f (Ay f Z Z Z bj) Z Z λa f=>Ah (hw:=wo f bj) 9 17 Z f Z λa f=>Ah (hw:=wo f bj) 10 17 Z f Z λa f=> ?_
     have⟨bo,bp,be⟩:=bind_some be
     refine Au (i:=11) (listed':= #[true,true,true,true,true,true,true,true,true,true,true,true,false,false,false,false,false]) (C:=P2) 17 0 m ax Z AR bp Z (by kernel_rfl) Z f (Ay f Z Z Z bj) Z Z Z λbq a br f=>Aw (i:=12) (listed':= #[true,true,true,true,true,true,true,true,true,true,true,true,true,false,false,false,false]) (C:=P2) [(iv bo.1),(iv bo.2)] 17 0 ax Z Bb br bp Z Z (by kernel_rfl) Z f (Ay f Z Z Z bj) Z Z λa f=> ?_
     have⟨bs,bt,be⟩:=bind_some be
     refine B6 (i:=13) 17 Z (by kernel_rfl) Z f (Ay f Z Z Z bj) Z Z Z call147 (λ_ _ w bu m=>Wk.a m bt) λa f=>q_p (hw:=wo f bj) 14 17 Z f (λ_=>AL (f.e Z) (f.e Z) AP) λa f=>q_p (hw:=wo f bj) 15 17 Z f (λ_=>Bn (f.e Z)) λa f=>q_p 16 17 Z f (λ_=>AT (f.e Z) bj (f.e Z)) λa f=> ?_
     obtain rfl:=sj be
     exact bi _ (f.k Z)
    ·refine Aq 4 17 Z f bj λa f=> ?_
     refine Aq 5 17 Z f bj λa f=>Aq 6 17 Z f bj λa f=>Aq 7 17 Z f bj λa f=>Aq 8 17 Z f bj λa f=>Aq 9 17 Z f bj λa f=>Aq 10 17 Z f bj λa f=>Aq 11 17 Z f bj λa f=>Aq 12 17 Z f bj λa f=>Aq 13 17 Z f bj λa f=>Aq 14 17 Z f bj λa f=>Aq 15 17 Z f bj λa f=>q_p 16 17 Z f (λ_=>AS (f.e Z) bj (f.e Z)) λa f=> ?_
     obtain rfl:=sj be
     exact bi _ (f.k Z)
  ·rintro a w ⟨a4,rfl,a5,bv,f,m⟩
   have ax:=OwR.mono trivial bv ax
   refine Ag (Af ?_)
   refine Ab f Z λa f=>Ab f Z λa f=>Ai f Z Z Cx λa f=>Aa ?_
   rcases Ae hd with⟨bw,hd⟩|⟨bw,hd⟩
   ·refine Al f Z bw ?_
    refine Ag ?_
    refine BS AJ m ?_
    refine p_p 2 Z f (λ_=>Bh (f.e Z)) λa f=>p_p 3 Z f (λ_=>Bh (f.e Z)) λa f=>BU 12013 11 (by kernel_rfl) Z ?_
    refine Ah 0 12013 Z f Z λa f=>Ah 1 12013 Z f Z λa f=>Ah 4 12013 Z f Z λa f=>Ah 5 12013 Z f Z λa f=> ?_
    have⟨bx,bz,hd⟩:=bind_some hd
    refine Au (i:=6) (listed':= #[true,true,true,true,true,true,true,false,false,false,false,false,false,false,false,false]) (C:=P2) 12013 0 m ax Z AR bz Z (by kernel_rfl) Z f Z Z Z Z λbA a bB f=>Aw (i:=7) (listed':= #[true,true,true,true,true,true,true,true,false,false,false,false,false,false,false,false]) (C:=P2) [(iv bx.1),(iv bx.2)] 12013 0 ax Z Bb bB bz Z Z (by kernel_rfl) Z f Z Z Z λa f=>Ah 8 12013 Z f Z λa f=>Ah 9 12013 Z f Z λa f=> ?_
    have⟨bC,bD,hd⟩:=bind_some hd
    refine Au (i:=10) (listed':= #[true,true,true,true,true,true,true,true,true,true,true,false,false,false,false,false]) (C:=P2) 12013 0 m ax Z AR bD Z (by kernel_rfl) Z f Z Z Z Z λbE a bF f=>Aw (i:=11) (listed':= #[true,true,true,true,true,true,true,true,true,true,true,true,false,false,false,false]) (C:=P2) [(iv bC.1),(iv bC.2)] 12013 0 ax Z Bb bF bD Z Z (by kernel_rfl) Z f Z Z Z λa f=> ?_
    have⟨bG,bH,hd⟩:=bind_some hd
    refine Au (i:=12) (listed':= #[true,true,true,true,true,true,true,true,true,true,true,true,true,false,false,false]) (C:=P2) 12013 0 m ax Z AR bH Z (by kernel_rfl) Z f Z Z Z Z λbI a bJ f=>AZ λbK w bL m=> ?_
    have ax:=OwR.mono trivial bL ax
    refine AU (E:=P2) (y':=(bx.1,bx.2)) [(iv bx.1),(iv bx.2)] 0 m ax Z sizeOf99 f Z Z bJ bH Z (Ao Z (Ao Z AF)) (lb Z) Z λbM w m bN=> ?_
    have⟨bO,bP,hd⟩:=bind_some hd
    refine Bt 0 m bN Z AR f Z Z Z bP λbQ a bR f=>AU (E:=P2) (y':=(bC.1,bC.2)) [(iv bC.1),(iv bC.2)] 0 m bN Z sizeOf99 f Z Z bR bP Z (Ao Z (Ao Z AF)) (lb Z) Z λbS w m bT=>AG ?_
    refine Ab f Z λa f=>Ac f Z λa f=>Ac f Z λa f=>Aa ?_
    refine Ax ?_
    obtain rfl:=sj hd
    exact⟨[(iv a4),(.bool true)],⟨f.get _ _ Z,f.get _ _ Z,trivial⟩,f.d,_,[bS],(gt an (gt a1 (gt bv bL))),m,_,Z,Z,bT⟩
   ·refine Aj f Z bw ?_
    refine Am ?_
    refine Ag ?_
    refine BS AJ m ?_
    refine p_p 2 Z f (λ_=>Bh (f.e Z)) λa f=>p_p 3 Z f (λ_=>Bh (f.e Z)) λa f=>BU 12013 11 (by kernel_rfl) Z ?_
    refine Ah 0 12013 Z f Z λa f=>Ah 1 12013 Z f Z λa f=>Ah 4 12013 Z f Z λa f=>Ah 5 12013 Z f Z λa f=> ?_
    have⟨bU,bV,hd⟩:=bind_some hd
    refine Au (i:=6) (listed':= #[true,true,true,true,true,true,true,false,false,false,false,false,false,false,false,false]) (C:=P2) 12013 0 m ax Z AR bV Z (by kernel_rfl) Z f Z Z Z Z λbW a bX f=>Aw (i:=7) (listed':= #[true,true,true,true,true,true,true,true,false,false,false,false,false,false,false,false]) (C:=P2) [(iv bU.1),(iv bU.2)] 12013 0 ax Z Bb bX bV Z Z (by kernel_rfl) Z f Z Z Z λa f=>Ah 8 12013 Z f Z λa f=>Ah 9 12013 Z f Z λa f=> ?_
    have⟨bY,bZ,hd⟩:=bind_some hd
    refine Au (i:=10) (listed':= #[true,true,true,true,true,true,true,true,true,true,true,false,false,false,false,false]) (C:=P2) 12013 0 m ax Z AR bZ Z (by kernel_rfl) Z f Z Z Z Z λb0 a b1 f=>Aw (i:=11) (listed':= #[true,true,true,true,true,true,true,true,true,true,true,true,false,false,false,false]) (C:=P2) [(iv bY.1),(iv bY.2)] 12013 0 ax Z Bb b1 bZ Z Z (by kernel_rfl) Z f Z Z Z λa f=> ?_
    have⟨b2,b3,hd⟩:=bind_some hd
    refine Au (i:=12) (listed':= #[true,true,true,true,true,true,true,true,true,true,true,true,true,false,false,false]) (C:=P2) 12013 0 m ax Z AR b3 Z (by kernel_rfl) Z f Z Z Z Z λb4 a b5 f=>AZ λb6 w b7 m=> ?_
    have ax:=OwR.mono trivial b7 ax
    refine AU (E:=P2) (y':=(bU.1,bU.2)) [(iv bU.1),(iv bU.2)] 0 m ax Z sizeOf99 f Z Z b5 b3 Z (Ao Z (Ao Z AF)) (lb Z) Z λb8 w m b9=> ?_
    have⟨ca,cb,hd⟩:=bind_some hd
    refine Bt 0 m b9 Z AR f Z Z Z cb λcc a cd f=>AU (E:=P2) (y':=(bY.1,bY.2)) [(iv bY.1),(iv bY.2)] 0 m b9 Z sizeOf99 f Z Z cd cb Z (Ao Z (Ao Z AF)) (lb Z) Z λce w m cf=>AG ?_
    refine Ab f Z λa f=>Ai f Z Z Az λa f=>Ac f Z λa f=>AG ?_
    refine Ab f Z λa f=>Ai f Z Z A3 λa f=>Ac f Z λa f=>Aa (Ag ?_)
    have⟨cg,ch,hd⟩:=bind_some hd
    refine AN (λa w=>∃ci:List (Int×Int),∃cj:Int,(ci,cj)=cg∧∃(ck:GH) (cl:Itm),GLe b6 ck∧Fr a 178 [(0,v0),(1,(iv x1)),(13,(iv cj))]∧Mem W ck w (cl::H)∧OwR P2 99 ck cl v0 ci) ?_ ?_
    ·refine Ak ?_
     refine AI (λcm a w=>∃cn:List (Int×Int),∃co:Int,∃cp:Int,(cn,co,cp)=cm∧∃(cq:GH) (cr:Itm),GLe b6 cq∧Fr a 178 [(0,v0),(1,(iv x1)),(4,(.func (.func 147) #[] #[])),(12,(iv co)),(13,(iv cp))]∧Mem W cq w (cr::H)∧OwR P2 99 cq cr v0 cn) ch ⟨_,_,_,Z,_,ce,gr,f.k Z,m,cf⟩ ?_
     clear ch f m
     rintro cm cs ct cu a w ⟨cn,co,cp,rfl,cq,cr,cv,f,m,cw⟩
     refine Ak (Ag ?_)
     have⟨cx,cy,ct⟩:=bind_some ct
     refine AN (λa w=>∃cz:Int,cz=cx∧∃(cA:GH),GLe cq cA∧Fr a 178 [(0,v0),(1,(iv x1)),(4,(.func (.func 147) #[] #[])),(12,(iv cz)),(13,(iv cp))]∧Mem W cA w (cr::H)) ?_ ?_
     ·refine Ak ?_
      refine AI (λcB a w=>∃cC:Int,cC=cB∧∃(cD:GH),GLe cq cD∧Fr a 178 [(0,v0),(1,(iv x1)),(4,(.func (.func 147) #[] #[])),(12,(iv cC)),(13,(iv cp))]∧Mem W cD w (cr::H)) cy ⟨_,Z,_,gr,f.k Z,m⟩ ?_
      clear cy f m
      rintro cB cE cF cG a w ⟨cC,rfl,cD,cH,f,m⟩
      have cw:=OwR.mono trivial cH cw
      refine Ag (Ag ?_)
      refine A9 16 AJ (by kernel_rfl) m ?_
      refine Ah 0 16 Z f Z λa f=>Ah 1 16 Z f Z λa f=>q_p 2 16 Z f (λ_=>AL (f.e Z) (f.e Z) CY) λa f=>Ah 3 16 Z f Z λa f=> ?_
      have⟨cI,cJ,cF⟩:=bind_some cF
      refine Cf (fuel':=0) (listed':= #[true,true,true,true,true,true,true,true,true,true,true,true,true,true,true,true]) (λa=>Fr a 178 [(0,v0),(1,(iv x1)),(4,(.func (.func 147) #[] #[])),(12,(iv cC)),(13,(iv cp)),(105,(iv cC)),(106,(iv cp)),(107,(.bool (decide (cC≤cp)))),(108,(.bool (decide (cC≤cp)))),(120,(.bool cI))]) ?_ ?_
      ·intro a f
       refine AZ λcK w cL m=>Aa ?_
       rcases Ae cF with⟨cM,cF⟩|⟨cM,cF⟩
       ·refine Al f Z cM ?_
        refine Am ?_
        refine Ak (Ap ?_)
        refine Ab f Z λa f=>Ai f Z Z Az λa f=>Ac f Z λa f=>Aa ?_
        obtain rfl:=sj cF
        exact⟨_,Z,_,Z,_,(gt cH cL),f.k Z,m⟩
       ·refine Aj f Z cM ?_
        refine AE Z ?_
        obtain rfl:=sj cF
        obtain rfl:=cG _ rfl
        exact⟨_,Z,_,(gt cH cL),f.k Z,m⟩
      ·intro cN
       rcases Ae cJ with⟨cO,cJ⟩|⟨cO,cJ⟩
       ·refine Ah (hw:=wo f cO) 4 16 Z f Z λa f=> ?_
        refine Ah (hw:=wo f cO) 5 16 Z f Z λa f=>Ah (hw:=wo f cO) 6 16 Z f Z λa f=> ?_
        have⟨cP,cQ,cJ⟩:=bind_some cJ
        refine Au (i:=7) (listed':= #[true,true,true,true,true,true,true,true,false,false,false,false,false,false,false,false]) (C:=P2) 16 0 m cw Z AR cQ Z (by kernel_rfl) Z f (Ay f Z Z Z cO) Z Z Z λcR a cS f=>Aw (i:=8) (listed':= #[true,true,true,true,true,true,true,true,true,false,false,false,false,false,false,false]) (C:=P2) [(iv cP.1),(iv cP.2)] 16 0 cw Z Bb cS cQ Z Z (by kernel_rfl) Z f (Ay f Z Z Z cO) Z Z λa f=>Ah (hw:=wo f cO) 9 16 Z f Z λa f=>Ah (hw:=wo f cO) 10 16 Z f Z λa f=> ?_
        have⟨cT,cU,cJ⟩:=bind_some cJ
        refine Au (i:=11) (listed':= #[true,true,true,true,true,true,true,true,true,true,true,true,false,false,false,false]) (C:=P2) 16 0 m cw Z AR cU Z (by kernel_rfl) Z f (Ay f Z Z Z cO) Z Z Z λcV a cW f=>Aw (i:=12) (listed':= #[true,true,true,true,true,true,true,true,true,true,true,true,true,false,false,false]) (C:=P2) [(iv cT.1),(iv cT.2)] 16 0 cw Z Bb cW cU Z Z (by kernel_rfl) Z f (Ay f Z Z Z cO) Z Z λa f=> ?_
        have⟨cX,cY,cJ⟩:=bind_some cJ
        refine B6 (i:=13) 16 Z (by kernel_rfl) Z f (Ay f Z Z Z cO) Z Z Z call147 (λ_ _ w cZ m=>Wk.a m cY) λa f=>q_p (hw:=wo f cO) 14 16 Z f (λ_=>AL (f.e Z) (f.e Z) AP) λa f=>q_p 15 16 Z f (λ_=>AT (f.e Z) cO (f.e Z)) λa f=> ?_
        obtain rfl:=sj cJ
        exact cN _ (f.k Z)
       ·refine Aq 4 16 Z f cO λa f=> ?_
        refine Aq 5 16 Z f cO λa f=>Aq 6 16 Z f cO λa f=>Aq 7 16 Z f cO λa f=>Aq 8 16 Z f cO λa f=>Aq 9 16 Z f cO λa f=>Aq 10 16 Z f cO λa f=>Aq 11 16 Z f cO λa f=>Aq 12 16 Z f cO λa f=>Aq 13 16 Z f cO λa f=>Aq 14 16 Z f cO λa f=>q_p 15 16 Z f (λ_=>AS (f.e Z) cO (f.e Z)) λa f=> ?_
        obtain rfl:=sj cJ
        exact cN _ (f.k Z)
     ·rintro a w ⟨cz,rfl,cA,c0,f,m⟩
      have cw:=OwR.mono trivial c0 cw
      refine Ag ?_
      have⟨c1,c2,ct⟩:=bind_some ct
      refine AN (λa w=>∃c3:Int,c3=c1∧∃(c4:GH),GLe cA c4∧Fr a 178 [(0,v0),(1,(iv x1)),(4,(.func (.func 147) #[] #[])),(12,(iv cz)),(13,(iv c3))]∧Mem W c4 w (cr::H)) ?_ ?_
      ·refine Ak ?_
       refine AI (λc5 a w=>∃c6:Int,c6=c5∧∃(c7:GH),GLe cA c7∧Fr a 178 [(0,v0),(1,(iv x1)),(4,(.func (.func 147) #[] #[])),(12,(iv cz)),(13,(iv c6))]∧Mem W c7 w (cr::H)) c2 ⟨_,Z,_,gr,f.k Z,m⟩ ?_
       clear c2 f m
       rintro c5 c8 c9 da a w ⟨c6,rfl,c7,db,f,m⟩
       have cw:=OwR.mono trivial db cw
       refine Ag (Ag ?_)
       refine A9 17 AJ (by kernel_rfl) m ?_
       refine Ah 0 17 Z f Z λa f=>Ah 1 17 Z f Z λa f=>q_p 2 17 Z f (λ_=>AL (f.e Z) (f.e Z) CY) λa f=>Ah 3 17 Z f Z λa f=> ?_
       have⟨dc,dd,c9⟩:=bind_some c9
       refine Cf (fuel':=0) (listed':= #[true,true,true,true,true,true,true,true,true,true,true,true,true,true,true,true,true]) (λa=>Fr a 178 [(0,v0),(1,(iv x1)),(4,(.func (.func 147) #[] #[])),(12,(iv cz)),(13,(iv c6)),(123,(iv cz)),(124,(iv c6)),(125,(.bool (decide (cz≤c6)))),(126,(.bool (decide (cz≤c6)))),(139,(.bool dc))]) ?_ ?_
       ·intro a f
        refine AZ λde w df m=>Aa ?_
        rcases Ae c9 with⟨dg,c9⟩|⟨dg,c9⟩
        ·refine Al f Z dg ?_
         refine Am ?_
         refine Ak (Ap ?_)
         refine Ab f Z λa f=>Ai f Z Z A3 λa f=>Ac f Z λa f=>Aa ?_
         obtain rfl:=sj c9
         exact⟨_,Z,_,Z,_,(gt db df),f.k Z,m⟩
        ·refine Aj f Z dg ?_
         refine AE Z ?_
         obtain rfl:=sj c9
         obtain rfl:=da _ rfl
         exact⟨_,Z,_,(gt db df),f.k Z,m⟩
       ·intro dh
        rcases Ae dd with⟨di,dd⟩|⟨di,dd⟩
        ·refine Ah (hw:=wo f di) 4 17 Z f Z λa f=> ?_
         refine Ah (hw:=wo f di) 5 17 Z f Z λa f=>Ah (hw:=wo f di) 6 17 Z f Z λa f=> ?_
         have⟨dj,dk,dd⟩:=bind_some dd
         refine Au (i:=7) (listed':= #[true,true,true,true,true,true,true,true,false,false,false,false,false,false,false,false,false]) (C:=P2) 17 0 m cw Z AR dk Z (by kernel_rfl) Z f (Ay f Z Z Z di) Z Z Z λdl a dm f=>Aw (i:=8) (listed':= #[true,true,true,true,true,true,true,true,true,false,false,false,false,false,false,false,false]) (C:=P2) [(iv dj.1),(iv dj.2)] 17 0 cw Z Bb dm dk Z Z (by kernel_rfl) Z f (Ay f Z Z Z di) Z Z λa f=>Ah (hw:=wo f di) 9 17 Z f Z λa f=>Ah (hw:=wo f di) 10 17 Z f Z λa f=> ?_
         have⟨dn,dp,dd⟩:=bind_some dd
         refine Au (i:=11) (listed':= #[true,true,true,true,true,true,true,true,true,true,true,true,false,false,false,false,false]) (C:=P2) 17 0 m cw Z AR dp Z (by kernel_rfl) Z f (Ay f Z Z Z di) Z Z Z λdq a dr f=>Aw (i:=12) (listed':= #[true,true,true,true,true,true,true,true,true,true,true,true,true,false,false,false,false]) (C:=P2) [(iv dn.1),(iv dn.2)] 17 0 cw Z Bb dr dp Z Z (by kernel_rfl) Z f (Ay f Z Z Z di) Z Z λa f=> ?_
         have⟨ds,dt,dd⟩:=bind_some dd
         refine B6 (i:=13) 17 Z (by kernel_rfl) Z f (Ay f Z Z Z di) Z Z Z call147 (λ_ _ w du m=>Wk.a m dt) λa f=>q_p (hw:=wo f di) 14 17 Z f (λ_=>AL (f.e Z) (f.e Z) AP) λa f=>q_p (hw:=wo f di) 15 17 Z f (λ_=>Bn (f.e Z)) λa f=>q_p 16 17 Z f (λ_=>AT (f.e Z) di (f.e Z)) λa f=> ?_
         obtain rfl:=sj dd
         exact dh _ (f.k Z)
        ·refine Aq 4 17 Z f di λa f=> ?_
         refine Aq 5 17 Z f di λa f=>Aq 6 17 Z f di λa f=>Aq 7 17 Z f di λa f=>Aq 8 17 Z f di λa f=>Aq 9 17 Z f di λa f=>Aq 10 17 Z f di λa f=>Aq 11 17 Z f di λa f=>Aq 12 17 Z f di λa f=>Aq 13 17 Z f di λa f=>Aq 14 17 Z f di λa f=>Aq 15 17 Z f di λa f=>q_p 16 17 Z f (λ_=>AS (f.e Z) di (f.e Z)) λa f=> ?_
         obtain rfl:=sj dd
         exact dh _ (f.k Z)
      ·rintro a w ⟨c3,rfl,c4,dv,f,m⟩
       have cw:=OwR.mono trivial dv cw
       refine Ag (Af ?_)
       refine Ab f Z λa f=>Ab f Z λa f=>Ai f Z Z Cx λa f=>Aa ?_
       rcases Ae ct with⟨dw,ct⟩|⟨dw,ct⟩
       ·refine Al f Z dw ?_
        refine AE Z ?_
        obtain rfl:=sj ct
        obtain rfl:=cu _ rfl
        exact⟨_,_,Z,_,cr,(gt cv (gt c0 dv)),f.k Z,m,cw⟩
       ·refine Aj f Z dw ?_
        refine Am ?_
        refine Ag ?_
        refine BS AJ m ?_
        refine p_p 2 Z f (λ_=>Bh (f.e Z)) λa f=>p_p 3 Z f (λ_=>Bh (f.e Z)) λa f=>BU 12013 11 (by kernel_rfl) Z ?_
        refine Ah 0 12013 Z f Z λa f=>Ah 1 12013 Z f Z λa f=>Ah 4 12013 Z f Z λa f=>Ah 5 12013 Z f Z λa f=> ?_
        have⟨dx,dy,ct⟩:=bind_some ct
        refine Au (i:=6) (listed':= #[true,true,true,true,true,true,true,false,false,false,false,false,false,false,false,false]) (C:=P2) 12013 0 m cw Z AR dy Z (by kernel_rfl) Z f Z Z Z Z λdz a dA f=>Aw (i:=7) (listed':= #[true,true,true,true,true,true,true,true,false,false,false,false,false,false,false,false]) (C:=P2) [(iv dx.1),(iv dx.2)] 12013 0 cw Z Bb dA dy Z Z (by kernel_rfl) Z f Z Z Z λa f=>Ah 8 12013 Z f Z λa f=>Ah 9 12013 Z f Z λa f=> ?_
        have⟨dB,dC,ct⟩:=bind_some ct
        refine Au (i:=10) (listed':= #[true,true,true,true,true,true,true,true,true,true,true,false,false,false,false,false]) (C:=P2) 12013 0 m cw Z AR dC Z (by kernel_rfl) Z f Z Z Z Z λdD a dE f=>Aw (i:=11) (listed':= #[true,true,true,true,true,true,true,true,true,true,true,true,false,false,false,false]) (C:=P2) [(iv dB.1),(iv dB.2)] 12013 0 cw Z Bb dE dC Z Z (by kernel_rfl) Z f Z Z Z λa f=> ?_
        have⟨dF,dG,ct⟩:=bind_some ct
        refine Au (i:=12) (listed':= #[true,true,true,true,true,true,true,true,true,true,true,true,true,false,false,false]) (C:=P2) 12013 0 m cw Z AR dG Z (by kernel_rfl) Z f Z Z Z Z λdH a dI f=>AZ λdJ w dK m=> ?_
        have cw:=OwR.mono trivial dK cw
        refine AU (E:=P2) (y':=(dx.1,dx.2)) [(iv dx.1),(iv dx.2)] 0 m cw Z sizeOf99 f Z Z dI dG Z (Ao Z (Ao Z AF)) (lb Z) Z λdL w m dM=> ?_
        have⟨dN,dO,ct⟩:=bind_some ct
        refine Bt 0 m dM Z AR f Z Z Z dO λdP a dQ f=>AU (E:=P2) (y':=(dB.1,dB.2)) [(iv dB.1),(iv dB.2)] 0 m dM Z sizeOf99 f Z Z dQ dO Z (Ao Z (Ao Z AF)) (lb Z) Z λdR w m dS=>AG ?_
        refine Ab f Z λa f=>Ai f Z Z Az λa f=>Ac f Z λa f=>Aa (Ap ?_)
        refine Ab f Z λa f=>Ai f Z Z A3 λa f=>Ac f Z λa f=>Aa ?_
        obtain rfl:=sj ct
        exact⟨_,Z,_,_,_,Z,_,dR,(gt cv (gt c0 (gt dv dK))),f.k Z,m,dS⟩
    ·rintro a w ⟨ci,cj,rfl,ck,cl,dT,f,m,dU⟩
     refine Ag ?_
     refine BS AJ m ?_
     refine p_p 2 Z f (λ_=>Bh (f.e Z)) λa f=>p_p 3 Z f (λ_=>Bh (f.e Z)) λa f=>BU 12013 11 (by kernel_rfl) Z ?_
     refine Ah 0 12013 Z f Z λa f=>Ah 1 12013 Z f Z λa f=>Ah 4 12013 Z f Z λa f=>Ah 5 12013 Z f Z λa f=> ?_
     have⟨dV,dW,hd⟩:=bind_some hd
     refine Au (i:=6) (listed':= #[true,true,true,true,true,true,true,false,false,false,false,false,false,false,false,false]) (C:=P2) 12013 0 m dU Z AR dW Z (by kernel_rfl) Z f Z Z Z Z λdX a dY f=>Aw (i:=7) (listed':= #[true,true,true,true,true,true,true,true,false,false,false,false,false,false,false,false]) (C:=P2) [(iv dV.1),(iv dV.2)] 12013 0 dU Z Bb dY dW Z Z (by kernel_rfl) Z f Z Z Z λa f=>Ah 8 12013 Z f Z λa f=>Ah 9 12013 Z f Z λa f=> ?_
     have⟨dZ,d0,hd⟩:=bind_some hd
     refine Au (i:=10) (listed':= #[true,true,true,true,true,true,true,true,true,true,true,false,false,false,false,false]) (C:=P2) 12013 0 m dU Z AR d0 Z (by kernel_rfl) Z f Z Z Z Z λd1 a d2 f=>Aw (i:=11) (listed':= #[true,true,true,true,true,true,true,true,true,true,true,true,false,false,false,false]) (C:=P2) [(iv dZ.1),(iv dZ.2)] 12013 0 dU Z Bb d2 d0 Z Z (by kernel_rfl) Z f Z Z Z λa f=> ?_
     have⟨d3,d4,hd⟩:=bind_some hd
     refine Au (i:=12) (listed':= #[true,true,true,true,true,true,true,true,true,true,true,true,true,false,false,false]) (C:=P2) 12013 0 m dU Z AR d4 Z (by kernel_rfl) Z f Z Z Z Z λd5 a d6 f=>AZ λd7 w d8 m=> ?_
     have dU:=OwR.mono trivial d8 dU
     refine AU (E:=P2) (y':=(dV.1,dV.2)) [(iv dV.1),(iv dV.2)] 0 m dU Z sizeOf99 f Z Z d6 d4 Z (Ao Z (Ao Z AF)) (lb Z) Z λd9 w m ea=> ?_
     have⟨eb,ec,hd⟩:=bind_some hd
     refine Bt 0 m ea Z AR f Z Z Z ec λed a ee f=>AU (E:=P2) (y':=(dZ.1,dZ.2)) [(iv dZ.1),(iv dZ.2)] 0 m ea Z sizeOf99 f Z Z ee ec Z (Ao Z (Ao Z AF)) (lb Z) Z λef w m eg=>AG ?_
     refine Ab f Z λa f=>Ac f Z λa f=>Ac f Z λa f=>Aa ?_
     refine Ax ?_
     obtain rfl:=sj hd
     exact⟨[(iv cj),(.bool false)],⟨f.get _ _ Z,f.get _ _ Z,trivial⟩,f.d,_,[ef],(gt an (gt a1 (gt bv (gt b7 (gt dT d8))))),m,_,Z,Z,eg⟩
theorem Wk.z {W:World}(n:Nat):∀{w:World} {G:GH} {H:List Itm} {v0:Value} {it0:Itm} {x0:(List (Int×Int))} {x1 x2 x3:Int} (m:Mem W G w (it0::H)) (o0:OwR P2 99 G it0 v0 x0) {y:((List (Int×Int)))} (hd:D.z n x0 x1 x2 x3=some y),
  Calls prog 160 #[v0,(iv x1),(iv x2),(iv x3),(.func (.func 147) #[] #[])] w (Res W G H (λG' Ho _=>∃i0:Itm,Ho=[i0]∧OwR P2 99 G' i0 v0 y)):=by
 induction n with
 |zero=>intros;rename_i hd;simp[D.z] at hd
 |succ fuel ih=>
  intro w G H v0 it0 x0 x1 x2 x3 m o0 y hd
  refine AB (args:=[v0,(iv x1),(iv x2),(iv x3),(.func (.func 147) #[] #[])]) (N:=148) [] func160 Z Z (lb Z) Z λa f=> ?_
  unfold D.z at hd
  refine Af ?_
  refine Ac f Z λa f=>AG ?_
  refine Ac f Z λa f=>Aa ?_
  have⟨aa,ab,hd⟩:=bind_some hd
  refine Ak ?_
  refine AI (λac a w=>∃ad:List (Int×Int),∃ae:Int,∃af:Int,∃ag:Int,∃ah:Bool,∃ai:Bool,(ad,ae,af,ag,ah,ai)=ac∧∃(aj:GH) (ak:Itm),GLe G aj∧Fr a 148 [(0,v0),(1,(iv ae)),(2,(iv af)),(3,(iv ag)),(4,(.func (.func 147) #[] #[])),(10,(.bool ah)),(11,(.bool ai))]∧Mem W aj w (ak::H)∧OwR P2 99 aj ak v0 ad) ab ⟨_,_,_,_,_,_,Z,_,it0,gr,f.k Z,m,o0⟩ ?_
  clear ab f m
  rintro ac al am an a w ⟨ad,ae,af,ag,ah,ai,rfl,aj,ak,ao,f,m,ap⟩
  refine Ak (Af ?_)
  refine Ab f Z λa f=>Ab f Z λa f=>Ai f Z Z A3 λa f=>Ac f Z λa f=>Aa (Ag (Af ?_))
  refine Ab f Z λa f=>Ai f Z Z CY λa f=>Aa ?_
  rcases Ae am with⟨aq,am⟩|⟨aq,am⟩
  ·refine Al f Z aq ?_
   refine Af ?_
   refine Ab f Z λa f=>Ab f Z λa f=>Ab f Z λa f=>Ab f Z λa f=> ?_
   have⟨ar,au,am⟩:=bind_some am
   refine A5 f Z call168 (Wk.H0 m ap au) λav aw ax w ay m az a f=> ?_
   obtain⟨aA,rfl,aB⟩:=az
   refine Aa ?_
   refine Ax ?_
   obtain rfl:=sj am
   obtain rfl:=an _ rfl
   obtain rfl:=sj hd
   exact⟨[],trivial,f.d,_,[aA],(gt ao ay),m,_,Z,aB⟩
  ·refine Aj f Z aq ?_
   refine Am ?_
   refine Ag (Af ?_)
   refine Ab f Z λa f=>Ai f Z Z BZ λa f=>Aa ?_
   rcases Ae am with⟨aC,am⟩|⟨aC,am⟩
   ·refine Al f Z aC ?_
    refine Af ?_
    refine Ab f Z λa f=>Ab f Z λa f=>Ab f Z λa f=>Ab f Z λa f=> ?_
    have⟨aD,aE,am⟩:=bind_some am
    refine A5 f Z call169 (Wk.D0 m ap aE) λaF aG aH w aI m aJ a f=> ?_
    obtain⟨aK,rfl,aL⟩:=aJ
    refine Aa ?_
    refine Ax ?_
    obtain rfl:=sj am
    obtain rfl:=an _ rfl
    obtain rfl:=sj hd
    exact⟨[],trivial,f.d,_,[aK],(gt ao aI),m,_,Z,aL⟩
   ·refine Aj f Z aC ?_
    refine Am ?_
    refine Ag (Af ?_)
    refine Ab f Z λa f=>l_o f (Bn (f.e Z)) λa f=>Aa ?_
    have⟨aM,aN,am⟩:=bind_some am
    refine AN (λa w=>∃aO:List (Int×Int),∃aP:Int,(aO,aP)=aM∧∃(aQ:GH) (aR:Itm),GLe aj aQ∧Fr a 148 [(0,v0),(1,(iv ae)),(2,(iv af)),(3,(iv aP)),(4,(.func (.func 147) #[] #[])),(10,(.bool ah)),(11,(.bool ai)),(12,(iv (i64.wrap (af-ae))))]∧Mem W aQ w (aR::H)∧OwR P2 99 aQ aR v0 aO) ?_ ?_
    ·rcases Ae aN with⟨aS,aN⟩|⟨aS,aN⟩
     ·refine Al f Z aS ?_
      refine Af ?_
      refine Ab f Z λa f=>Ab f Z λa f=>Ab f Z λa f=>Ab f Z λa f=> ?_
      have⟨aT,aU,aN⟩:=bind_some aN
      refine A5 f Z call170 (Wk.M0 m ap aU) λaV aW aX w aY m aZ a f=> ?_
      obtain⟨a0,rfl,a1⟩:=aZ
      refine Aa (Ap ?_)
      refine Ab f Z λa f=>Ai f Z Z A3 λa f=>Ac f Z λa f=>Aa ?_
      obtain rfl:=sj aN
      exact⟨_,_,Z,_,a0,aY,f.k Z,m,a1⟩
     ·refine Aj f Z aS ?_
      refine Am ?_
      obtain rfl:=sj aN
      exact⟨_,_,Z,_,ak,gr,f.k Z,m,ap⟩
    ·rintro a w ⟨aO,aP,rfl,aQ,aR,a2,f,m,a3⟩
     refine Af ?_
     refine Ab f Z λa f=>Ab f Z λa f=>Ab f Z λa f=>Ab f Z λa f=> ?_
     have⟨a4,a5,am⟩:=bind_some am
     refine A5 f Z call171 (Wk.F0 m a3 a5) λa6 a7 a8 w a9 m ba a f=> ?_
     obtain⟨bb,rfl,rfl,bc⟩:=ba
     refine Ab f Z λa f=>l_o f (A4 (f.e Z) Z) λa f=>l_o f (A4 (f.e Z) Z) λa f=>Ac f Z λa f=>Ac f Z λa f=>Aa (Ag (Af ?_))
     refine Ab f Z λa f=>Ai f Z Z BZ λa f=>Aa ?_
     have⟨bd,be,am⟩:=bind_some am
     refine AN (λa w=>∃bf:List (Int×Int),∃bg:Int,∃bh:Int,(bf,bg,bh)=bd∧∃(bi:GH) (bj:Itm),GLe a7 bi∧Fr a 148 [(0,v0),(1,(iv ae)),(2,(iv af)),(3,(iv aP)),(4,(.func (.func 147) #[] #[])),(10,(.bool ah)),(11,(.bool ai)),(12,(iv (i64.wrap (af-ae)))),(13,(iv bg)),(14,(iv bh))]∧Mem W bi w (bj::H)∧OwR P2 99 bi bj v0 bf) ?_ ?_
     ·rcases Ae be with⟨bk,be⟩|⟨bk,be⟩
      ·refine Al f Z bk ?_
       refine Af ?_
       refine Ab f Z λa f=>Ab f Z λa f=>Ab f Z λa f=>Ab f Z λa f=> ?_
       have⟨bl,bm,be⟩:=bind_some be
       refine A5 f Z call172 (Wk.K0 m bc bm) λbn bo bp w bq m br a f=> ?_
       obtain⟨bs,rfl,bt⟩:=br
       refine AG ?_
       refine Ab f Z λa f=>Ai f Z Z A3 λa f=>Ab f Z λa f=>Ab f Z λa f=>Ai f Z Z A3 λa f=>Ai f Z Z A3 λa f=>Ac f Z λa f=>Aa (Ap ?_)
       refine Ac f Z λa f=>Aa ?_
       obtain rfl:=sj be
       exact⟨_,_,_,Z,_,bs,bq,f.k Z,m,bt⟩
      ·refine Aj f Z bk ?_
       refine Am ?_
       obtain rfl:=sj be
       exact⟨_,_,_,Z,_,bb,gr,f.k Z,m,bc⟩
     ·rintro a w ⟨bf,bg,bh,rfl,bi,bj,bu,f,m,bv⟩
      refine Ag (Af ?_)
      refine Ab f Z λa f=>Ab f Z λa f=> ?_
      refine Bo 2 (λa w=>∃bw,GLe bi bw∧Mem W bw w (bj::H)∧Fr a 148 [(0,v0),(1,(iv ae)),(2,(iv af)),(3,(iv aP)),(4,(.func (.func 147) #[] #[])),(10,(.bool ah)),(11,(.bool ai)),(12,(iv (i64.wrap (af-ae)))),(13,(iv bg)),(14,(iv bh)),(68,(.bool ah)),(69,(.bool ah)),(71,(.bool (ah&&ai)))]) ?_ ?_
      ·rcases Bool.eq_false_or_eq_true ah with bx|bx
       ·refine Ar f bx ?_
        refine Ab f Z λa f=>l_o f (AT (f.e Z) bx (f.e Z)) λa f=> ?_
        exact⟨_,gr,m,f.weak ⟨Z,Z,Z,Z,Z,Z,Z,Z,Z,Z,Z,Z,by rw[bx];rfl,trivial⟩⟩
       ·refine As f bx λa f=> ?_
        refine l_o f (AS (f.e Z) bx (f.e Z)) λa f=> ?_
        exact⟨_,gr,m,f.weak ⟨Z,Z,Z,Z,Z,Z,Z,Z,Z,Z,Z,Z,by rw[bx];rfl,trivial⟩⟩
      ·rintro a w ⟨bw,bz,m,f⟩
       have bv:=OwR.mono trivial bz bv
       refine Ab f Z λa f=> ?_
       refine Bo 3 (λa w=>∃bA,GLe bw bA∧Mem W bA w (bj::H)∧Fr a 148 [(0,v0),(1,(iv ae)),(2,(iv af)),(3,(iv aP)),(4,(.func (.func 147) #[] #[])),(10,(.bool ah)),(11,(.bool ai)),(12,(iv (i64.wrap (af-ae)))),(13,(iv bg)),(14,(iv bh)),(68,(.bool ah)),(69,(.bool ah)),(71,(.bool (ah&&ai))),(72,(.bool (ah&&ai))),(75,(.bool ((ah&&ai)&&(bh==1))))]) ?_ ?_
       ·rcases Bool.eq_false_or_eq_true (ah&&ai) with bB|bB
        ·refine Ar f bB ?_
         refine Ab f Z λa f=>Ar f bB ?_
         refine Ai f Z Z BZ λa f=>l_o f (AT (f.e Z) bB (f.e Z)) λa f=> ?_
         exact⟨_,gr,m,f.weak ⟨Z,Z,Z,Z,Z,Z,Z,Z,Z,Z,Z,Z,Z,Z,by rw[bB];rfl,trivial⟩⟩
        ·refine As f bB λa f=> ?_
         refine As f bB λa f=>l_o f (AS (f.e Z) bB (f.e Z)) λa f=> ?_
         exact⟨_,gr,m,f.weak ⟨Z,Z,Z,Z,Z,Z,Z,Z,Z,Z,Z,Z,Z,Z,by rw[bB];rfl,trivial⟩⟩
       ·rintro a w ⟨bA,bC,m,f⟩
        have bv:=OwR.mono trivial bC bv
        refine Aa ?_
        have⟨bD,bE,am⟩:=bind_some am
        refine AN (λa w=>∃j_497':(List (Int×Int)),bD= .inl j_497'∧∃bF:List (Int×Int),bF=j_497'∧∃(bG:GH) (bH:Itm),GLe bA bG∧Fr a 148 [(0,v0),(1,(iv ae)),(2,(iv af)),(3,(iv aP)),(4,(.func (.func 147) #[] #[])),(10,(.bool ah)),(11,(.bool ai)),(12,(iv (i64.wrap (af-ae)))),(13,(iv bg))]∧Mem W bG w (bH::H)∧OwR P2 99 bG bH v0 bF) ?_ ?_
        ·rcases Ae bE with⟨bI,bE⟩|⟨bI,bE⟩
         ·refine Al f Z bI ?_
          refine Af ?_
          refine Ab f Z λa f=>Ab f Z λa f=>Ab f Z λa f=>Ab f Z λa f=> ?_
          have⟨bJ,bK,bE⟩:=bind_some bE
          refine A5 f Z call173 (Wk.N0 m bv bK) λbL bM bN w bO m bP a f=> ?_
          obtain⟨bQ,rfl,rfl,bR⟩:=bP
          refine Aa ?_
          rcases Ae bE with⟨bS,bE⟩|⟨bS,bE⟩
          ·refine Al f Z bS ?_
           refine Ax ?_
           obtain rfl:=sj bE
           obtain rfl:=sj am
           obtain rfl:=an _ rfl
           obtain rfl:=sj hd
           exact⟨[],trivial,f.d,_,[bQ],(gt ao (gt a2 (gt a9 (gt bu (gt bz (gt bC bO)))))),m,_,Z,bR⟩
          ·refine Aj f Z bS ?_
           refine Am ?_
           obtain rfl:=sj bE
           exact⟨_,Z,_,Z,_,bQ,bO,f.k Z,m,bR⟩
         ·refine Aj f Z bI ?_
          refine Am ?_
          obtain rfl:=sj bE
          exact⟨_,Z,_,Z,_,bj,gr,f.k Z,m,bv⟩
        ·rintro a w ⟨_,rfl,bF,rfl,bG,bH,bT,f,m,bU⟩
         refine Ag (Ag ?_)
         refine A9 17 AJ (by kernel_rfl) m ?_
         refine Ah 0 17 Z f Z λa f=>q_p 1 17 Z f (λ_=>AL (f.e Z) (f.e Z) Cx) λa f=>Ah 2 17 Z f Z λa f=> ?_
         have⟨bV,bW,am⟩:=bind_some am
         refine Cf (fuel':=0) (listed':= #[true,true,true,true,true,true,true,true,true,true,true,true,true,true,true,true,true]) (λa=>Fr a 148 [(0,v0),(1,(iv ae)),(2,(iv af)),(3,(iv aP)),(4,(.func (.func 147) #[] #[])),(10,(.bool ah)),(11,(.bool ai)),(12,(iv (i64.wrap (af-ae)))),(13,(iv bg)),(81,(iv ae)),(82,(.bool (decide ((0:Int)<ae)))),(83,(.bool (decide ((0:Int)<ae)))),(97,(.bool bV))]) ?_ ?_
         ·intro a f
          refine AZ λbX w bY m=> ?_
          have bU:=OwR.mono trivial bY bU
          refine Aa ?_
          rcases Ae am with⟨bZ,am⟩|⟨bZ,am⟩
          ·refine Al f Z bZ ?_
           refine Af ?_
           refine Ab f Z λa f=>Ab f Z λa f=>Ab f Z λa f=>Ab f Z λa f=>Ab f Z λa f=> ?_
           have⟨b0,b1,am⟩:=bind_some am
           refine A5 f Z call174 (Wk.J0 m bU b1) λb2 b3 b4 w b5 m b6 a f=> ?_
           obtain⟨b7,rfl,rfl,b8⟩:=b6
           refine Ac f Z λa f=>AG ?_
           refine Ab f Z λa f=>Ac f Z λa f=>Aa ?_
           refine AE Z ?_
           obtain rfl:=sj am
           exact⟨_,Z,_,_,_,_,_,_,Z,_,b7,(gt ao (gt a2 (gt a9 (gt bu (gt bz (gt bC (gt bT (gt bY b5)))))))),f.k Z,m,b8⟩
          ·refine Aj f Z bZ ?_
           refine Am ?_
           refine Af ?_
           refine Ab f Z λa f=>Ab f Z λa f=>Ab f Z λa f=>Ab f Z λa f=>Ab f Z λa f=> ?_
           have⟨b9,ca,am⟩:=bind_some am
           refine A5 f Z call175 (Wk.C0 m bU ca) λcb cc cd w ce m cf a f=> ?_
           obtain⟨cg,rfl,rfl,ch⟩:=cf
           refine Ab f Z λa f=>l_o f (A4 (f.e Z) Z) λa f=>l_o f (A4 (f.e Z) Z) λa f=>Ac f Z λa f=>Ac f Z λa f=>AG ?_
           refine Ab f Z λa f=>Ac f Z λa f=>AG ?_
           refine Ab f Z λa f=>Ab f Z λa f=>Ai f Z Z A3 λa f=>Ab f Z λa f=>Ab f Z λa f=>Ai f Z Z A3 λa f=>Ac f Z λa f=>Ac f Z λa f=>AG ?_
           refine Ab f Z λa f=>Ai f Z Z (b_quo Z) λa f=>Ac f Z λa f=>AG ?_
           refine Ab f Z λa f=>Ab f Z λa f=>Ai f Z Z AP λa f=>Aa ?_
           rcases Ae am with⟨ci,am⟩|⟨ci,am⟩
           ·refine Al f Z ci ?_
            refine Af ?_
            refine Ab f Z λa f=>Ab f Z λa f=>Ai f Z Z Ci λa f=>Ac f Z λa f=>AG ?_
            refine Ab f Z λa f=>Ab f Z λa f=>Ab f Z λa f=>Ab f Z λa f=>Ab f Z λa f=> ?_
            have⟨cj,ck,am⟩:=bind_some am
            refine A5 f Z call160 (ih m ch ck) λcl cm cn w co m cp a f=> ?_
            obtain⟨cq,rfl,cr⟩:=cp
            refine Aa (Ap ?_)
            refine Ab f Z λa f=>Ai f Z Z Az λa f=>Ac f Z λa f=>Aa ?_
            obtain rfl:=sj am
            exact⟨_,Z,_,_,_,_,_,_,Z,_,cq,(gt ao (gt a2 (gt a9 (gt bu (gt bz (gt bC (gt bT (gt bY (gt ce co))))))))),f.k Z,m,cr⟩
           ·refine Aj f Z ci ?_
            refine Af ?_
            refine Ab f Z λa f=>Ab f Z λa f=>Ai f Z Z Ci λa f=>Ac f Z λa f=>AG ?_
            refine Ab f Z λa f=>Ab f Z λa f=>Ai f Z Z Az λa f=>Ab f Z λa f=>Ab f Z λa f=>Ab f Z λa f=> ?_
            have⟨cs,ct,am⟩:=bind_some am
            refine A5 f Z call160 (ih m ch ct) λcu cv cw w cx m cy a f=> ?_
            obtain⟨cz,rfl,cA⟩:=cy
            refine Aa (Ap ?_)
            refine Ab f Z λa f=>Ac f Z λa f=>Aa ?_
            obtain rfl:=sj am
            exact⟨_,Z,_,_,_,_,_,_,Z,_,cz,(gt ao (gt a2 (gt a9 (gt bu (gt bz (gt bC (gt bT (gt bY (gt ce cx))))))))),f.k Z,m,cA⟩
         ·intro cB
          rcases Ae bW with⟨cC,bW⟩|⟨cC,bW⟩
          ·refine Ah (hw:=wo f cC) 3 17 Z f Z λa f=> ?_
           refine Ah (hw:=wo f cC) 4 17 Z f Z λa f=>Ah (hw:=wo f cC) 5 17 Z f Z λa f=>q_p (hw:=wo f cC) 6 17 Z f (λ_=>AL (f.e Z) (f.e Z) A3) λa f=> ?_
           have⟨cD,cE,bW⟩:=bind_some bW
           refine Au (i:=7) (listed':= #[true,true,true,true,true,true,true,true,false,false,false,false,false,false,false,false,false]) (C:=P2) 17 0 m bU Z AR cE Z (by kernel_rfl) Z f (Ay f Z Z Z cC) Z Z Z λcF a cG f=>Aw (i:=8) (listed':= #[true,true,true,true,true,true,true,true,true,false,false,false,false,false,false,false,false]) (C:=P2) [(iv cD.1),(iv cD.2)] 17 0 bU Z Bb cG cE Z Z (by kernel_rfl) Z f (Ay f Z Z Z cC) Z Z λa f=>Ah (hw:=wo f cC) 9 17 Z f Z λa f=>Ah (hw:=wo f cC) 10 17 Z f Z λa f=> ?_
           have⟨cH,cI,bW⟩:=bind_some bW
           refine Au (i:=11) (listed':= #[true,true,true,true,true,true,true,true,true,true,true,true,false,false,false,false,false]) (C:=P2) 17 0 m bU Z AR cI Z (by kernel_rfl) Z f (Ay f Z Z Z cC) Z Z Z λcJ a cK f=>Aw (i:=12) (listed':= #[true,true,true,true,true,true,true,true,true,true,true,true,true,false,false,false,false]) (C:=P2) [(iv cH.1),(iv cH.2)] 17 0 bU Z Bb cK cI Z Z (by kernel_rfl) Z f (Ay f Z Z Z cC) Z Z λa f=> ?_
           have⟨cL,cM,bW⟩:=bind_some bW
           refine B6 (i:=13) 17 Z (by kernel_rfl) Z f (Ay f Z Z Z cC) Z Z Z call147 (λ_ _ w cN m=>Wk.a m cM) λa f=>q_p (hw:=wo f cC) 14 17 Z f (λ_=>AL (f.e Z) (f.e Z) AP) λa f=>q_p (hw:=wo f cC) 15 17 Z f (λ_=>Bn (f.e Z)) λa f=>q_p 16 17 Z f (λ_=>AT (f.e Z) cC (f.e Z)) λa f=> ?_
           obtain rfl:=sj bW
           exact cB _ (f.k Z)
          ·refine Aq 3 17 Z f cC λa f=> ?_
           refine Aq 4 17 Z f cC λa f=>Aq 5 17 Z f cC λa f=>Aq 6 17 Z f cC λa f=>Aq 7 17 Z f cC λa f=>Aq 8 17 Z f cC λa f=>Aq 9 17 Z f cC λa f=>Aq 10 17 Z f cC λa f=>Aq 11 17 Z f cC λa f=>Aq 12 17 Z f cC λa f=>Aq 13 17 Z f cC λa f=>Aq 14 17 Z f cC λa f=>Aq 15 17 Z f cC λa f=>q_p 16 17 Z f (λ_=>AS (f.e Z) cC (f.e Z)) λa f=> ?_
           obtain rfl:=sj bW
           exact cB _ (f.k Z)
theorem Wk.i {v0:Value}{it0:Itm}{x0:(List (Int×Int))}{x1 x2 x3:Int}(m:Mem W G w (it0::H))(o0:OwR P2 99 G it0 v0 x0){y:((List (Int×Int)))}(hd:D.i x0 x1 x2 x3=some y):
  Calls prog 160 #[v0,(iv x1),(iv x2),(iv x3),(.func (.func 147) #[] #[])] w (Res W G H (λG' Ho _=>∃i0:Itm,Ho=[i0]∧OwR P2 99 G' i0 v0 y)):=by
 exact Wk.z CO m o0 hd
theorem Wk.P {v0:Value}{it0:Itm}{x0:(List (Int×Int))}(m:Mem W G w (it0::H))(o0:OwR P2 99 G it0 v0 x0){y:((List (Int×Int)))}(hd:D.P x0=some y):
  Calls prog 146 #[v0,(.func (.func 147) #[] #[])] w (Res W G H (λG' Ho _=>∃i0:Itm,Ho=[i0]∧OwR P2 99 G' i0 v0 y)):=by
 refine AB (args:=[v0,(.func (.func 147) #[] #[])]) (N:=14) [] func146 Z Z (lb Z) Z λa f=> ?_
 unfold D.P at hd
 refine Af ?_
 refine Ab f Z λa f=>DJ 0 m o0 Z underlying107 f Z Z λa f=>Ac f Z λa f=>Aa (Ap ?_)
 refine Ab f Z λa f=>Ab f Z λa f=>Ab f Z λa f=>l_o f (Dg (f.e Z) ⟨_,underlying3⟩ underlying111) λa f=> ?_
 have⟨aa,ab,hd⟩:=bind_some hd
 refine A5 f Z call161 (Wk.m m ab) λac ad ae w af m ag a f=> ?_
 obtain⟨rfl,rfl⟩:=ag
 have o0:=OwR.mono trivial af o0
 refine Ab f Z λa f=> ?_
 have⟨ah,ai,hd⟩:=bind_some hd
 refine A5 f Z call160 (Wk.i m o0 ai) λaj ak al w am m an a f=> ?_
 obtain⟨ao,rfl,ap⟩:=an
 refine Aa ?_
 obtain rfl:=sj hd
 exact⟨[],trivial,f.d,_,[ao],(gt af am),m,_,Z,ap⟩
theorem Wk.k {v0:Value}{x0:LI}{aa ab:Int}(hW:Cs W)(m:Mem W G w (H))(h0:RSl (RI .u32) G v0 x0){y:((List (Int×Int)))}(hd:D.k x0 aa ab=some y):
  Calls prog 110 #[v0,(.agg #[(iv aa),(iv ab)])] w (Res W G H (λG' Ho v=>∃r0:Value,∃i0:Itm,Ho=[i0]∧r0=v∧OwR P2 99 G' i0 r0 y)):=by
 refine AB (args:=[v0,(.agg #[(iv aa),(iv ab)])]) (N:=72) [.tmp 4] func110 Z Z (lb Z) Z λa f=> ?_
 unfold D.k at hd
 refine Af ?_
 refine BB (cs:=[(iv aa),(iv ab)]) m f Z Z Z λac w a m f=>Ac f Z λa f=>AG ?_
 refine l_slitR0 (E:=P2) m AR f Z λad ae w a m af f=>Ac f Z λa f=>Aa (Ag (Ag ?_))
 refine A9 18 AJ (by kernel_rfl) m ?_
 refine Ah 0 18 Z f Z λa f=>Cr 1 18 underlying99 Z sizeOf3 Z f Z λa f=>B7 2 18 1 Pl3 Z Z Z f Z λa f=> ?_
 have⟨ag,ah,hd⟩:=bind_some hd
 refine Bl 3 18 T60 h0 ah Z f Z Z λai aj a ak al f=> ?_
 subst al
 refine Bm 4 18 Dj ak Z f Z λa f=>Ah 5 18 Z f Z λa f=>Cr 6 18 underlying99 Z sizeOf3 Z f Z λa f=>B7 7 18 1 Pl3 Z Z Z f Z λa f=> ?_
 have⟨am,an,hd⟩:=bind_some hd
 refine Bl 8 18 T60 h0 an Z f Z Z λao ap a aq ar f=> ?_
 subst ar
 refine Bm 9 18 Dj aq Z f Z λa f=>q_p 10 18 Z f (λ_=>AL (f.e Z) (f.e Z) CN) λa f=>Cr 11 18 underlying99 Z sizeOf3 Z f Z λa f=>B7 12 18 1 Pl3 Z Z Z f Z λa f=> ?_
 have⟨au,av,hd⟩:=bind_some hd
 refine B8 (i:=13) 18 Z (by kernel_rfl) Z f Z Z Z call74 (λ_ _ w aw m=>Wk.b m av) λa f=>q_p 14 18 Z f (λ_=>AL (f.e Z) (f.e Z) CN) λa f=>Ah 17 18 Z f Z λa f=>Di 15 Z λax w ay m az az=> ?_
 have h0:=rd1 ay h0
 have af:=OwR.mono trivial ay af
 have⟨aA,aB,hd⟩:=bind_some hd
 refine A5 f Z call54 (Wk.g hW m aB) λaC aD aE w aF m aG a f=> ?_
 obtain⟨aH,aI,rfl,rfl,aJ⟩:=aG
 have h0:=rd1 aF h0
 have af:=OwR.mono trivial aF af
 refine Aa ?_
 refine az aD [aI] _ _ aF m ?_
 refine q_own_len (i:=16) 18 0 m aJ Z underlying65 Z (by kernel_rfl) Z f Z Z Z λa f=>AZ λaK w aL m=> ?_
 have h0:=rd1 aL h0
 have aJ:=od1 aL aJ
 have af:=OwR.mono trivial aL af
 refine Aa ?_
 have⟨aM,aN,hd⟩:=bind_some hd
 refine AN (λa w=>∃aO:List (Int×Int),aO=aM∧∃(aP:GH) (aQ:Value) (aR:Itm),GLe aK aP∧Fr a 72 [(0,v0),(3,(pb ac)),(5,aQ)]∧Mem W aP w (ib ac 99 [(iv aa),(iv ab)]::aR::H)∧OwR P2 99 aP aR aQ aO) ?_ ?_
 ·refine Ak ?_
  have m:=m.fr 1
  have m:=m.fr 2
  refine AI (λaS a w=>∃aT:List (Int×Int),∃aU:Int,(aT,aU)=aS∧∃(aV:GH) (aW:Value) (aX:Itm),GLe aK aV∧Fr a 72 [(0,v0),(3,(pb ac)),(5,aW),(26,aH),(27,(iv (aA.length:Int))),(28,(iv aU))]∧Mem W aV w (ib ac 99 [(iv aa),(iv ab)]::aX::aI::H)∧OwR P2 99 aV aX aW aT) aN ⟨_,_,Z,_,ae,ad,gr,f.k Z,m,af⟩ ?_
  clear aN f m
  rintro aS aY aZ a0 a w ⟨aT,aU,rfl,aV,aW,aX,a1,f,m,a2⟩
  have aJ:=od1 a1 aJ
  refine Af ?_
  refine Ai f Z Z AP λa f=>Aa (Ag ?_)
  rcases Ae aZ with⟨a3,aZ⟩|⟨a3,aZ⟩
  ·refine Al f Z a3 ?_
   refine Am ?_
   refine Ag (Ak (Af ?_))
   have⟨a4,a5,aZ⟩:=bind_some aZ
   refine Cb 2 m aJ Z T65 f Z Z Z a5 λa6 a a7 f=>B1 2 m aJ Z Pl3 f Z Z a7 a5 λa8 a a9 f=> ?_
   subst a9
   refine Ac f Z λa f=>Aa (Ap ?_)
   refine Ab f Z λa f=>Bp underlying99 Z sizeOf3 f Z λa f=>AM 0 0 m Pl3 f Z Z Z Z λa f=>Ab f Z λa f=> ?_
   have ba:∀w,(Instr.build 99 #[(0,(iv aa)),(1,(iv a4))]).run prog w= .ok (.agg #[(iv aa),(iv a4)]) w:=by intro w;simp[Instr.build,Instr.fill,Ca,B3,BJ,BQ,BE,B9]
   refine CC f Z Z ba λa f=>Dr (E:=P2) (y:=(aa,a4)) (cs:=[(iv aa),(iv a4)]) m AR f Z Z Z (lb Z) λbb bc w a m bd f=> ?_
   have⟨be,bf,aZ⟩:=bind_some aZ
   refine D3 (E:=P2) (z:= .agg #[(iv 0),(iv 0)]) 2 0 m a2 Z bd Z (by simp) AR Z (by decide) f Z Z Z bf λbg bh w a m bi f=>Ac f Z λa f=>Aa (Ap ?_)
   refine Ai f Z Z Az λa f=>Ab f Z λa f=>Aa ?_
   have m:=m.fr 3
   have m:=m.fr 3
   have m:Mem W aV w (ib ac 99 [(iv aa),(iv ab)]::bg::aI::bb::H):=m.fr 3
   have m:=m.eraseAt 3
   obtain rfl:=sj aZ
   exact⟨_,Z,_,_,Z,_,bh,bg,a1,f.k Z,m,bi⟩
  ·refine Aj f Z a3 ?_
   refine AE Z ?_
   have m:=m.eraseAt 2
   obtain rfl:=sj aZ
   obtain rfl:=a0 _ rfl
   exact⟨_,Z,_,aW,aX,a1,f.k Z,m,a2⟩
 ·rintro a w ⟨aO,rfl,aP,aQ,aR,bj,f,m,bk⟩
  have h0:=rd1 bj h0
  refine Ag (Ag ?_)
  refine A9 18 AJ (by kernel_rfl) m ?_
  refine Ah 0 18 Z f Z λa f=>Cr 1 18 underlying99 Z sizeOf3 Z f Z λa f=>B7 2 18 0 Pl3 Z Z Z f Z λa f=> ?_
  have⟨bl,bm,hd⟩:=bind_some hd
  refine Bl 3 18 T60 h0 bm Z f Z Z λbn bo a bp bq f=> ?_
  subst bq
  refine Bm 4 18 Dj bp Z f Z λa f=>Ah 5 18 Z f Z λa f=>Cr 6 18 underlying99 Z sizeOf3 Z f Z λa f=>B7 7 18 0 Pl3 Z Z Z f Z λa f=> ?_
  have⟨br,bs,hd⟩:=bind_some hd
  refine Bl 8 18 T60 h0 bs Z f Z Z λbt bu a bv bw f=> ?_
  subst bw
  refine Bm 9 18 Dj bv Z f Z λa f=>q_p 10 18 Z f (λ_=>AL (f.e Z) (f.e Z) CN) λa f=>Cr 11 18 underlying99 Z sizeOf3 Z f Z λa f=>B7 12 18 0 Pl3 Z Z Z f Z λa f=> ?_
  have⟨bx,bz,hd⟩:=bind_some hd
  refine B8 (i:=13) 18 Z (by kernel_rfl) Z f Z Z Z call74 (λ_ _ w bA m=>Wk.b m bz) λa f=>q_p 14 18 Z f (λ_=>AL (f.e Z) (f.e Z) CN) λa f=>Ah 17 18 Z f Z λa f=>Di 15 Z λbB w bC m bD bD=> ?_
  have bk:=OwR.mono trivial bC bk
  have⟨bE,bF,hd⟩:=bind_some hd
  refine A5 f Z call54 (Wk.g hW m bF) λbG bH bI w bJ m bK a f=> ?_
  obtain⟨bL,bM,rfl,rfl,bN⟩:=bK
  have bk:=OwR.mono trivial bJ bk
  refine Aa ?_
  refine bD bH [bM] _ _ bJ m ?_
  refine q_own_len (i:=16) 18 0 m bN Z underlying65 Z (by kernel_rfl) Z f Z Z Z λa f=>AZ λbO w bP m=> ?_
  have bN:=od1 bP bN
  have bk:=OwR.mono trivial bP bk
  refine Aa ?_
  have⟨bQ,bR,hd⟩:=bind_some hd
  refine AN (λa w=>∃bS:List (Int×Int),bS=bQ∧∃(bT:GH) (bU:Value) (bV:Itm),GLe bO bT∧Fr a 72 [(5,bU)]∧Mem W bT w (bV::H)∧OwR P2 99 bT bV bU bS) ?_ ?_
  ·refine Ak ?_
   have m:=m.fr 2
   have m:=m.fr 2
   refine AI (λbW a w=>∃bX:List (Int×Int),∃bY:Int,(bX,bY)=bW∧∃(bZ:GH) (b0:Value) (b1:Itm),GLe bO bZ∧Fr a 72 [(3,(pb ac)),(5,b0),(55,bL),(56,(iv (bE.length:Int))),(57,(iv bY))]∧Mem W bZ w (ib ac 99 [(iv aa),(iv ab)]::b1::bM::H)∧OwR P2 99 bZ b1 b0 bX) bR ⟨_,_,Z,_,aQ,aR,gr,f.k Z,m,bk⟩ ?_
   clear bR f m
   rintro bW b2 b3 b4 a w ⟨bX,bY,rfl,bZ,b0,b1,b5,f,m,b6⟩
   have bN:=od1 b5 bN
   refine Af ?_
   refine Ai f Z Z AP λa f=>Aa (Ag ?_)
   rcases Ae b3 with⟨b7,b3⟩|⟨b7,b3⟩
   ·refine Al f Z b7 ?_
    refine Am ?_
    refine Ag (Ak (Af ?_))
    have⟨b8,b9,b3⟩:=bind_some b3
    refine Cb 2 m bN Z T65 f Z Z Z b9 λca a cb f=>B1 2 m bN Z Pl3 f Z Z cb b9 λcc a cd f=> ?_
    subst cd
    refine Ac f Z λa f=>Aa (Ap ?_)
    refine Ab f Z λa f=>Ab f Z λa f=>Bp underlying99 Z sizeOf3 f Z λa f=>AM 0 1 m Pl3 f Z Z Z Z λa f=> ?_
    have ce:∀w,(Instr.build 99 #[(0,(iv b8)),(1,(iv ab))]).run prog w= .ok (.agg #[(iv b8),(iv ab)]) w:=by intro w;simp[Instr.build,Instr.fill,Ca,B3,BJ,BQ,BE,B9]
    refine CC f Z Z ce λa f=>Dr (E:=P2) (y:=(b8,ab)) (cs:=[(iv b8),(iv ab)]) m AR f Z Z Z (lb Z) λcf cg w a m ch f=> ?_
    have⟨ci,cj,b3⟩:=bind_some b3
    refine D3 (E:=P2) (z:= .agg #[(iv 0),(iv 0)]) 2 0 m b6 Z ch Z (by simp) AR Z (by decide) f Z Z Z cj λck cl w a m cm f=>Ac f Z λa f=>Aa (Ap ?_)
    refine Ai f Z Z Az λa f=>Ab f Z λa f=>Aa ?_
    have m:=m.fr 3
    have m:=m.fr 3
    have m:Mem W bZ w (ib ac 99 [(iv aa),(iv ab)]::ck::bM::cf::H):=m.fr 3
    have m:=m.eraseAt 3
    obtain rfl:=sj b3
    exact⟨_,Z,_,_,Z,_,cl,ck,b5,f.k Z,m,cm⟩
   ·refine Aj f Z b7 ?_
    refine AE Z ?_
    have m:=m.fr 1
    have m:=m.eraseAt 2
    have m:=m.eraseAt 1
    obtain rfl:=sj b3
    obtain rfl:=b4 _ rfl
    exact⟨_,Z,_,b0,b1,b5,f.k Z,m,b6⟩
  ·rintro a w ⟨bS,rfl,bT,bU,bV,cn,f,m,co⟩
   refine Af ?_
   refine Ab f Z λa f=> ?_
   have⟨cp,cq,hd⟩:=bind_some hd
   refine A5 f Z call146 (Wk.P m co cq) λcr ct cu w cv m cw a f=> ?_
   obtain⟨cx,rfl,cy⟩:=cw
   refine AG ?_
   refine Ab f Z λa f=>Ac f Z λa f=>Aa ?_
   refine Ax ?_
   obtain rfl:=sj hd
   exact⟨[bU],f.g Z,f.d,_,[cx],(gt ay (gt aF (gt aL (gt bj (gt bC (gt bJ (gt bP (gt cn cv)))))))),m,_,_,Z,Z,cy⟩
end Go.Proofs.YtmkcbhidbdggiaaDoor

set_option maxRecDepth 100000
namespace Go.Proofs.YtmkcbhidbdggiaaDoor
open Go Go.Sx
open Go.Proofs.Tryd Go.Proofs.YtmkcbhidbdggiaaDoor.Tryd IntKind
variable {W w : World} {G : GH} {H : List Itm}
theorem kPK :∃f0 f1,PrK prog 99 3 f0 f1:=⟨_,_,⟨underlying99,rfl,rfl,rfl,rfl,by decide,by decide,underlying3,isAgg3,Tryd.stoodInHeld99⟩⟩
theorem kT :SlT prog 107 99 2 16 (.agg #[(iv 0),(iv 0)]):=⟨underlying107,Tryd.t99,by kernel_rfl,by kernel_rfl,by kernel_rfl,by kernel_rfl⟩
theorem kA :Agg prog 99 2:=⟨isAgg99,sizeOf99⟩
abbrev kBx (b:Nat)(x:Int×Int):Itm:=ib b 99 [.int .i64 x.1,.int .i64 x.2]
theorem OwMa.cells {it:Itm}{v:Value}{M:ArM}(h:OwMa it v M):v.cells= #[v]:=by
 obtain⟨b,es,clock,rfl,rfl,_⟩:=h;rfl
set_option maxHeartbeats 2000000 in
theorem Wk.l {v0:Value}{x0:LI}{x:Int×Int}(hW:Cs W)(m:Mem W G w H)(h0:RSl (RI .u32) G v0 x0){y:ArM}(hd:D.l x0 x=some y):
  Calls prog 141 #[v0,kyV x] w (Res W G H (λ_ Ho v=>∃i0:Itm,Ho=[i0]∧OwMa i0 v y)):=by
 refine AB (args:=[v0,kyV x]) (N:=57) [.tmp 4] func141 Z Z (lb Z) Z λa f=> ?_
 unfold D.l at hd
 obtain⟨f0,f1,kpk⟩:=kPK
 have hmp:=underlying128
 have hz:=zeroValue3
 refine Af ?_
 refine BB (cs:=[.int .i64 x.1,.int .i64 x.2]) m f Z Z Z λbx w a m f=>Ac f Z λa f=>Aa (Ag ?_)
 refine AN (λa w=>∃(G':GH) (itM itL:Itm) (vM vL:Value),GLe G G'∧Fr a 57 [(0,v0),(5,vM),(6,vL)]∧Mem W G' w (itM::itL::kBx bx x::H)∧OwMa itM vM [(x,0)]∧OwR P2 99 G' itL vL [x]) ?_ ?_
 ·skip
  refine A9 7 AJ (by kernel_rfl) m ?_
  refine Cd (i:=1) (ds:=[.int .i64 x.1,.int .i64 x.2]) 7 0 kA Z Z Z Z (by kernel_rfl) Z f Z Z Z λa f=>Cd (i:=4) (ds:=[.int .i64 x.1,.int .i64 x.2]) 7 0 kA Z Z Z Z (by kernel_rfl) Z f Z Z Z λa f=>q_two (i:=0) (j:=5) (l1:= #[true,true,false,false,true,false,false,false]) (l2:= #[false,true,false,false,true,true,false,false]) Z Z (by kernel_rfl) Z Z (λG1 w hl1 m K K=> ?_) λG1 w hl1 m K K=> ?_
  ·skip
   refine l_makeMa m f Z λitM vM w a m oM f=>Aa ?_
   refine K G1 [itM] _ _ gr m ?_
   refine q_two (i:=2) (j:=5) (l1:= #[true,true,true,false,true,false,false,false]) (l2:= #[true,true,false,false,true,true,false,false]) Z Z (by kernel_rfl) Z Z (λG2 w hl2 m K K=> ?_) λG2 w hl2 m K K=> ?_
   ·skip
    refine l_insMa kpk 0 m oM Z hmp f Z Z Z Z λitM w m oM=>Aa ?_
    refine K G2 [itM] _ _ gr m ?_
    refine Ah 3 7 Z f Z λa f=>q_p 6 7 Z f (λ_=>Cc (f.e Z)) λa f=>Di 5 Z λG3 w hl3 m K K=>Dr (E:=P2) (y:=x) (cs:=[.int .i64 x.1,.int .i64 x.2]) m kT f Z Z Z (lb Z) λitL vL w a m oL f=>Aa ?_
    refine K G3 [itL,itM] _ _ gr m ?_
    refine AZ λG4 w hl4 m=> ?_
    have oL:=OwR.mono trivial hl4 oL
    refine Ac f Z λa f=>Aa ?_
    have m:=m.fr 1
    exact⟨G4,itM,itL,vM,vL,(gt hl1 (gt hl2 (gt hl3 hl4))),f.k Z,m,oM,oL⟩
   ·skip
    refine Dr (E:=P2) (y:=x) (cs:=[.int .i64 x.1,.int .i64 x.2]) m kT f Z Z Z (lb Z) λitL vL w a m oL f=>Aa ?_
    refine K G2 [itL,itM] _ _ gr m ?_
    refine Di 2 Z λG5 w hl5 m K K=> ?_
    have oL:=OwR.mono trivial hl5 oL
    refine l_insMa kpk 1 m oM Z hmp f Z Z Z Z λitM w m oM=>Aa ?_
    refine K G5 [itL,itM] _ _ gr m ?_
    refine Ah 3 7 Z f Z λa f=>q_p 6 7 Z f (λ_=>Cc (f.e Z)) λa f=>AZ λG6 w hl6 m=> ?_
    have oL:=OwR.mono trivial hl6 oL
    refine Ac f Z λa f=>Aa ?_
    have m:=m.fr 1
    exact⟨G6,itM,itL,vM,vL,(gt hl1 (gt hl2 (gt hl5 hl6))),f.k Z,m,oM,oL⟩
  ·skip
   refine Dr (E:=P2) (y:=x) (cs:=[.int .i64 x.1,.int .i64 x.2]) m kT f Z Z Z (lb Z) λitL vL w a m oL f=>Aa ?_
   refine K G1 [itL] _ _ gr m ?_
   refine Di 0 Z λG7 w hl7 m K K=> ?_
   have oL:=OwR.mono trivial hl7 oL
   refine l_makeMa m f Z λitM vM w a m oM f=>Aa ?_
   refine K G7 [itM,itL] _ _ gr m ?_
   refine Di 2 Z λG8 w hl8 m K K=> ?_
   have oL:=OwR.mono trivial hl8 oL
   refine l_insMa kpk 0 m oM Z hmp f Z Z Z Z λitM w m oM=>Aa ?_
   refine K G8 [itM,itL] _ _ gr m ?_
   refine Ah 3 7 Z f Z λa f=>q_p 6 7 Z f (λ_=>Cc (f.e Z)) λa f=>AZ λG9 w hl9 m=> ?_
   have oL:=OwR.mono trivial hl9 oL
   refine Ac f Z λa f=>Aa ?_
   exact⟨G9,itM,itL,vM,vL,(gt hl1 (gt hl7 (gt hl8 hl9))),f.k Z,m,oM,oL⟩
 ·skip
  clear f m
  rintro a w ⟨G1,itM,itL,vM,vL,hl1,f,m,oM,oL⟩
  refine Ag (Af ?_)
  refine Ac f Z λa f=>Aa ?_
  refine AN (λa w=>∃(G':GH) (itM itL:Itm) (vM vL:Value),GLe G G'∧Fr a 57 [(5,vM)]∧Mem W G' w (itM::itL::kBx bx x::H)∧OwMa itM vM y) ?_ ?_
  ·skip
   refine Ak ?_
   refine AI (fun(s:ArM×ArL×Int) a w=>∃(G':GH) (itM itL:Itm) (vM vL:Value),GLe G G'∧Fr a 57 [(0,v0),(5,vM),(6,vL),(7,.int .i64 s.2.2)]∧Mem W G' w (itM::itL::kBx bx x::H)∧OwMa itM vM s.1∧OwR P2 99 G' itL vL s.2.1) hd ⟨G1,itM,itL,vM,vL,hl1,f.k Z,m,oM,oL⟩ ?_
   clear hd f m oM oL
   rintro⟨M,L,i⟩ ro hs hq a w ⟨G2,itM,itL,vM,vL,hl2,f,m,oM,oL⟩
   have h0:=rd1 hl2 h0
   unfold D.V0 at hs
   dsimp only at hs oM oL f
   refine Ag (Af ?_)
   refine Ab f Z λa f=>Ab f Z λa f=>DJ 1 m oL Z underlying107 f Z Z λa f=>Ai f Z Z AP λa f=>Aa ?_
   rcases Ae hs with⟨hc,hs⟩|⟨hc,hs⟩
   ·skip
    refine Al f Z hc ?_
    refine Am ?_
    have⟨xi,hxi,hs⟩:=bind_some hs
    have⟨ys,hys,hs⟩:=bind_some hs
    have⟨qq,hqq,hs⟩:=bind_some hs
    obtain rfl:=sj hs
    refine Ag (Ak (Af ?_))
    refine Ab f Z λa f=>Ab f Z λa f=>Ab f Z λa f=>Bt 1 m oL Z kT f Z Z Z hxi λp a ha f=>D9 (C:=P2) [.int .i64 xi.1,.int .i64 xi.2] 1 m oL Z kA f Z Z ha hxi Z λa f=>A5 f Z call110 (Wk.k hW m h0 hys) λv3 G3 Ho3 w hl3 m hQ3 a f=> ?_
    obtain⟨vY,itY,rfl,rfl,oY⟩:=hQ3
    have oL:=OwR.mono trivial hl3 oL
    refine DJ 0 m oY Z underlying107 f Z Z λa f=>Ab f Z λa f=>Aa ?_
    refine AN (λa w=>∃(G':GH) (itM itL:Itm) (vM vL:Value),GLe G G'∧Fr a 57 [(0,v0),(5,vM),(6,vL),(7,.int .i64 i)]∧Mem W G' w (itM::itL::kBx bx x::H)∧OwMa itM vM qq.1∧OwR P2 99 G' itL vL qq.2) ?_ ?_
    ·skip
     refine Ak ?_
     have m:=m.fr 2
     have m:=m.fr 2
     refine AI (fun(s:ArM×ArL×Int) a w=>∃(G':GH) (itM itL:Itm) (vM vL:Value),GLe G3 G'∧Fr a 57 [(0,v0),(5,vM),(6,vL),(7,.int .i64 i),(28,vY),(29,.int .i64 (ys.length:Int)),(30,.int .i64 s.2.2)]∧Mem W G' w (itM::itL::itY::kBx bx x::H)∧OwMa itM vM s.1∧OwR P2 99 G' itL vL s.2.1) hqq ⟨G3,itM,itL,vM,vL,gr,f.k Z,m,oM,oL⟩ ?_
     clear hqq f m oM oL ha hxi
     rintro⟨M,L,j⟩ ro hs hqi a w ⟨G4,itM,itL,vM,vL,hl4,f,m,oM,oL⟩
     have oY:=OwR.mono trivial hl4 oY
     unfold D.E0 at hs
     dsimp only at hs oM oL f
     refine Af ?_
     refine Ai f Z Z AP λa f=>Aa (Ag ?_)
     rcases Ae hs with⟨hc,hs⟩|⟨hc,hs⟩
     ·skip
      refine Al f Z hc ?_
      refine Am ?_
      have⟨yj,hyj,hs⟩:=bind_some hs
      refine Ag (Ak (Af ?_))
      refine Bt 2 m oY Z kT f Z Z Z hyj λp a ha f=>D9 (C:=P2) [.int .i64 yj.1,.int .i64 yj.2] 2 m oY Z kA f Z Z ha hyj Z λa f=>BP (cs:=[(iv 0),(iv 0)]) zeroValue99 m f Z Z λb9 w a m f=>A7 0 0 (ds:=[.int .i64 yj.1,.int .i64 yj.2]) m sizeOf99 f Z Z Z (Ao Z (Ao Z AF)) Z (lb Z) Z λw m=>AG ?_
      refine Ab f Z λa f=>AW 0 0 (ds:=[.int .i64 yj.1,.int .i64 yj.2]) m kA f Z Z Z Z Z λa f=>Cw kpk 1 m oM Z hmp hz f Z Z Z λa f=>Ab f Z λa f=>l_o f (A4 (f.e Z) Z) λa f=>l_o f (A4 (f.e Z) Z) λa f=>Ac f Z λa f=>Ac f Z λa f=>AG ?_
      refine Ab f Z λa f=>l_o f (Bn (f.e Z)) λa f=>Aa ?_
      rcases Ae hs with⟨hc2,hs⟩|⟨hc2,hs⟩
      ·skip
       refine Al f Z hc2 ?_
       have⟨z,hz2,hs⟩:=bind_some hs
       have⟨l',hl',hs⟩:=bind_some hs
       obtain rfl:=sj hs
       have hno:Bc M yj=none:=by
        cases hh:Bc M yj with
        |none=>rfl
        |some _=>rw[hh] at hc2;cases hc2
       refine Ag ?_
       refine AN (λa w=>∃(G':GH) (itM:Itm),GLe G4 G'∧Fr a 57 [(0,v0),(5,vM),(6,vL),(7,.int .i64 i),(9,.pointer (some ⟨b9,0,none⟩)),(28,vY),(29,.int .i64 (ys.length:Int)),(30,.int .i64 j)]∧Mem W G' w (kBx b9 yj::itM::itL::itY::kBx bx x::H)∧OwMa itM vM (M++[(yj,i64.wrap ((Bc M z).getD 0+1))])) ?_ ?_
       ·skip
        refine A9 9 AJ (by kernel_rfl) m ?_
        refine Ah 0 9 Z f Z λa f=>Cd (i:=1) (ds:=[.int .i64 yj.1,.int .i64 yj.2]) 9 0 kA Z Z Z Z (by kernel_rfl) Z f Z Z Z λa f=>Ah 2 9 Z f Z λa f=>Ah 3 9 Z f Z λa f=>Ah 4 9 Z f Z λa f=>Au (i:=5) (listed':= #[true,true,true,true,true,true,false,false,false,false]) (C:=P2) 9 2 m oL Z kT hz2 Z (by kernel_rfl) Z f Z Z Z Z λp a ha f=>Aw (i:=6) (listed':= #[true,true,true,true,true,true,true,false,false,false]) (C:=P2) [.int .i64 z.1,.int .i64 z.2] 9 2 oL Z kA ha hz2 Z Z (by kernel_rfl) Z f Z Z Z λa f=>q_lookupMa (i:=7) (listed':= #[true,true,true,true,true,true,true,true,false,false]) 9 kpk 1 oM Z hmp hz Z (by kernel_rfl) Z f Z Z Z Z λa f=>q_p 8 9 Z f (λ_=>AL (f.e Z) (f.e Z) Az) λa f=>AZ λG5 w hl5 m=>l_putMa kpk 1 m oM Z hmp f Z Z Z hno λitM' w m oM'=> ?_
        refine Aa ?_
        exact⟨G5,itM',hl5,f.k Z,m,oM'⟩
       ·skip
        clear f m oM
        rintro a w ⟨G5,itM,hl5,f,m,oM⟩
        have oL:=OwR.mono trivial hl5 oL
        refine Ap ?_
        refine Ab f Z λa f=>AW 0 0 (ds:=[.int .i64 yj.1,.int .i64 yj.2]) m kA f Z Z Z Z Z λa f=>Dr (E:=P2) (y:=yj) (cs:=[.int .i64 yj.1,.int .i64 yj.2]) m kT f Z Z Z (lb Z) λitN vN w a m oN f=>D3 (E:=P2) (z:= .agg #[(iv 0),(iv 0)]) 3 0 m oL Z oN Z (by simp) kT Z (by decide) f Z Z Z hl' λitL vL w a m oL f=>Ac f Z λa f=>Aa (Ap ?_)
        refine Ai f Z Z Az λa f=>Ab f Z λa f=>Aa ?_
        exact⟨_,Z,G5,itM,itL,vM,vL,gt hl4 hl5,f.k Z,m.tail.tail,oM,oL⟩
      ·skip
       refine Aj f Z hc2 ?_
       refine Am ?_
       obtain rfl:=sj hs
       refine Ap ?_
       refine Ai f Z Z Az λa f=>Ab f Z λa f=>Aa ?_
       exact⟨_,Z,G4,itM,itL,vM,vL,hl4,f.k Z,m.tail,oM,oL⟩
     ·skip
      refine Aj f Z hc ?_
      refine AE Z ?_
      obtain rfl:=sj hs
      obtain rfl:=hqi _ rfl
      have m:=m.eraseAt 2
      exact⟨G4,itM,itL,vM,vL,gt hl2 (gt hl3 hl4),f.k Z,m,oM,oL⟩
    ·skip
     clear f m oM oL oY ha
     rintro a w ⟨G4,itM,itL,vM,vL,hl4,f,m,oM,oL⟩
     refine Ap ?_
     refine Ab f Z λa f=>Ai f Z Z Az λa f=>Ac f Z λa f=>Aa ?_
     exact⟨_,Z,G4,itM,itL,vM,vL,hl4,f.k Z,m,oM,oL⟩
   ·skip
    refine Aj f Z hc ?_
    refine AE Z ?_
    obtain rfl:=sj hs
    obtain rfl:=hq _ rfl
    exact⟨G2,itM,itL,vM,vL,hl2,f.k Z,m,oM⟩
  ·skip
   clear f m oM oL
   rintro a w ⟨G2,itM,itL,vM,vL,hl2,f,m,oM⟩
   refine Af ?_
   refine Ab f Z λa f=>Ac f Z λa f=>Aa ?_
   refine Ax ?_
   have m:Mem W G2 w (itM::H):=(m.eraseAt 1).eraseAt 1
   exact⟨[vM],f.g Z,f.d,G2,[itM],hl2,m,itM,Z,oM⟩
end Go.Proofs.YtmkcbhidbdggiaaDoor

set_option maxRecDepth 100000
namespace Go.Proofs.YtmkcbhidbdggiaaDoor
open Go Go.Sx
open Go.Proofs.Tryd Go.Proofs.YtmkcbhidbdggiaaDoor.Tryd IntKind
variable {W w : World} {G : GH} {H : List Itm}
theorem Wk.R {aa ab:Int}(m:Mem W G w (H)){y:Int×Int}(hd:D.R aa ab=some y):
  Calls prog 111 #[(.agg #[(iv aa),(iv ab)])] w (Res W G H (λ_ Ho v=>Ho=[]∧v=(.agg #[(iv y.1),(iv y.2)]))):=by
 refine AB (args:=[(.agg #[(iv aa),(iv ab)])]) (N:=8) [.cell 2 99] func111 Z Z (lb Z) Z λa f=> ?_
 unfold D.R at hd
 refine Af ?_
 refine BB (cs:=[(iv aa),(iv ab)]) m f Z Z Z λac w a m f=>BP (cs:=[(iv 0),(iv 0)]) zeroValue99 m f Z Z λad w a m f=>AG ?_
 refine Bp underlying99 Z sizeOf3 f Z λa f=>AM 1 1 m Pl3 f Z Z Z Z λa f=>Bp underlying99 Z sizeOf3 f Z λa f=>AM 1 0 m Pl3 f Z Z Z Z λa f=> ?_
 have ae:∀w,(Instr.build 99 #[(0,(iv ab)),(1,(iv aa))]).run prog w= .ok (.agg #[(iv ab),(iv aa)]) w:=by intro w;simp[Instr.build,Instr.fill,Ca,B3,BJ,BQ,BE,B9]
 refine CC f Z Z ae λa f=>A7 0 0 (ds:=[(iv ab),(iv aa)]) m sizeOf99 f Z Z Z (Ao Z (Ao Z AF)) Z (lb Z) Z λw m=>Aa ?_
 refine Ax ?_
 have af:=DU (P:=prog) 0 m Bb f (s:=2) rfl rfl rfl
 have m:Mem W G w H:=Mem.drop (H':=[ib ad 99 [(iv ab),(iv aa)],ib ac 99 [(iv aa),(iv ab)]]) m
 obtain rfl:=sj hd
 exact⟨[(.agg #[(iv ab),(iv aa)])],⟨af,trivial⟩,f.d,_,[],gr,m,Z,Z⟩
theorem Wk.z0 {v0:Value}{it0:Itm}{x0:LI}{x1 x2:Int}(m:Mem W G w (it0::H))(o0:Ow (RI .u32) 63 G it0 v0 x0){y:(LI)}(hd:D.z0 x0 x1 x2=some y):
  Calls prog 142 #[v0,(iv x1),(iv x2)] w (Res W G H (λG' Ho _=>∃i0:Itm,Ho=[i0]∧Ow (RI .u32) 63 G' i0 v0 y)):=by
 refine AB (args:=[v0,(iv x1),(iv x2)]) (N:=22) [] func142 Z Z (lb Z) Z λa f=> ?_
 unfold D.z0 at hd
 refine Ag ?_
 refine A9 8 AJ (by kernel_rfl) m ?_
 refine Ah 0 8 Z f Z λa f=>Ah 1 8 Z f Z λa f=> ?_
 have⟨aa,ab,hd⟩:=bind_some hd
 refine q_oa 2 8 0 m o0 T60 ab Z f Z Z λac a ad f=>q_ol 3 8 0 o0 Dj ad ab Z f Z λae a af f=> ?_
 subst af
 refine Ah 4 8 Z f Z λa f=> ?_
 have⟨ag,ah,hd⟩:=bind_some hd
 refine B8 (i:=5) 8 Z (by kernel_rfl) Z f Z Z Z call74 (λ_ _ w ai m=>Wk.b m ah) λa f=>q_p 6 8 Z f (λ_=>AL (f.e Z) (f.e Z) CN) λa f=> ?_
 have⟨aj,ak,hd⟩:=bind_some hd
 refine q_oa 7 8 0 m o0 T60 ak Z f Z Z λal a am f=>AZ λan w ao m=> ?_
 have o0:=od1 ao o0
 refine CV 0 m o0 Z sizeOf63 f Z Z am ak Z Z Z λap w m aq=>Aa ?_
 refine A9 8 AJ (by kernel_rfl) m ?_
 refine Ah 0 8 Z f Z λa f=>Ah 1 8 Z f Z λa f=> ?_
 have⟨ar,au,hd⟩:=bind_some hd
 refine q_oa 2 8 0 m aq T60 au Z f Z Z λav a aw f=>q_ol 3 8 0 aq Dj aw au Z f Z λax a ay f=> ?_
 subst ay
 refine Ah 4 8 Z f Z λa f=> ?_
 have⟨az,aA,hd⟩:=bind_some hd
 refine B8 (i:=5) 8 Z (by kernel_rfl) Z f Z Z Z call74 (λ_ _ w aB m=>Wk.b m aA) λa f=>q_p 6 8 Z f (λ_=>AL (f.e Z) (f.e Z) CN) λa f=> ?_
 have⟨aC,aD,hd⟩:=bind_some hd
 refine q_oa 7 8 0 m aq T60 aD Z f Z Z λaE a aF f=>AZ λaG w aH m=> ?_
 have aq:=od1 aH aq
 refine CV 0 m aq Z sizeOf63 f Z Z aF aD Z Z Z λaI w m aJ=>Aa ?_
 obtain rfl:=sj hd
 exact⟨[],trivial,f.d,_,[aI],(gt ao aH),m,_,Z,aJ⟩
end Go.Proofs.YtmkcbhidbdggiaaDoor

set_option maxRecDepth 100000
namespace Go.Proofs.YtmkcbhidbdggiaaDoor
open Go Go.Sx
open Go.Proofs.Tryd Go.Proofs.YtmkcbhidbdggiaaDoor.Tryd IntKind
variable {W w : World} {G : GH} {H : List Itm}
theorem oT :SlT prog 60 63 1 4 (.int .u32 0):=⟨underlying60,Tryd.t63,by kernel_rfl,by kernel_rfl,by kernel_rfl,by kernel_rfl⟩
theorem oPl :BY prog 63:=isAgg63
theorem oPi :BY prog 3:=isAgg3
set_option maxHeartbeats 4000000 in
theorem Wk.M {v0:Value}{x0:LI}(hW:Cs W)(m:Mem W G w H)(h0:RSl (RI .u32) G v0 x0){y:LI}(hd:D.M x0=some y):
  Calls prog 93 #[v0] w (Res W G H (λG' Ho v=>∃r0:Value,∃i0:Itm,Ho=[i0]∧r0=v∧Ow (RI .u32) 63 G' i0 r0 y∧CX r0=y.isEmpty)):=by
 refine AB (args:=[v0]) (N:=73) [.tmp 2] func93 Z Z (lb Z) Z λa f=> ?_
 unfold D.M at hd
 have⟨left,hleft,hd⟩:=bind_some hd
 have⟨heads,hheads,hd⟩:=bind_some hd
 have⟨res,hres,hd⟩:=bind_some hd
 obtain⟨f0,f1,kpk⟩:=kPK
 have hmp:=underlying128
 have hz:=zeroValue3
 refine Af ?_
 refine Ac f Z λa f=>Aa (Ag ?_)
 refine AN (λa w=>∃(G':GH) (itL itH:Itm) (vL vH:Value),GLe G G'∧Fr a 73 [(3,vL),(4,vH)]∧Mem W G' w (itL::itH::H)∧Ow (RI .u32) 63 G' itL vL left∧Ow (RI .u32) 63 G' itH vH heads) ?_ ?_
 ·skip
  refine A9 6 AJ (by kernel_rfl) m ?_
  refine Ah 0 6 Z f Z λa f=>Ah 2 6 Z f Z λa f=>q_len (i:=3) 6 underlying60 h0 Z (by kernel_rfl) Z f Z Z Z λa f=>q_two (i:=1) (j:=4) (l1:= #[true,true,true,true,false,false,false]) (l2:= #[true,false,true,true,true,false,false]) Z Z (by kernel_rfl) Z Z (λG1 w hl1 m K K=> ?_) λG1 w hl1 m K K=> ?_
  ·skip
   have h0:=rd1 hl1 h0
   refine A5 f Z call140 (Wk.X m h0 hleft) λv9 G9 Ho9 w hl9 m hQ9 a f=> ?_
   obtain⟨vL,itL,rfl,rfl,oL⟩:=hQ9
   refine Aa ?_
   refine K G9 [itL] _ _ hl9 m ?_
   refine q_p 5 6 Z f (λ_=>Cc (f.e Z)) λa f=>Di 4 Z λG2 w hl2 m K K=> ?_
   have oL:=od1 hl2 oL
   refine l_make (R:=(RI .u32)) m oT Z (by decide) Z f Z Z Z hheads λitH vH w a m oH f=>Aa ?_
   refine K G2 [itH,itL] _ _ gr m ?_
   refine AZ λG3 w hl3 m=> ?_
   have oL:=od1 hl3 oL
   have oH:=od1 hl3 oH
   refine Ac f Z λa f=>Aa ?_
   have m:=m.fr 1
   exact⟨G3,itL,itH,vL,vH,gt hl1 (gt hl9 (gt hl2 hl3)),f.k Z,m,oL,oH⟩
  ·skip
   refine l_make (R:=(RI .u32)) m oT Z (by decide) Z f Z Z Z hheads λitH vH w a m oH f=>Aa ?_
   refine K G1 [itH] _ _ gr m ?_
   refine Di 1 Z λG2 w hl2 m K K=> ?_
   have oH:=od1 hl2 oH
   have h0:=rd1 (gt hl1 hl2) h0
   refine A5 f Z call140 (Wk.X m h0 hleft) λv9 G9 Ho9 w hl9 m hQ9 a f=> ?_
   obtain⟨vL,itL,rfl,rfl,oL⟩:=hQ9
   have oH:=od1 hl9 oH
   refine Aa ?_
   refine K G9 [itL,itH] _ _ hl9 m ?_
   refine q_p 5 6 Z f (λ_=>Cc (f.e Z)) λa f=>AZ λG3 w hl3 m=> ?_
   have oL:=od1 hl3 oL
   have oH:=od1 hl3 oH
   refine Ac f Z λa f=>Aa ?_
   exact⟨G3,itL,itH,vL,vH,gt hl1 (gt hl2 (gt hl9 hl3)),f.k Z,m,oL,oH⟩
 ·skip
  clear f m
  rintro a w ⟨G1,itL,itH,vL,vH,hl1,f,m,oL,oH⟩
  refine Ag (Af ?_)
  refine Ab f Z λa f=>Db 0 m oL Z underlying60 f Z Z λa f=>Ab f Z λa f=>Aa ?_
  refine AN (λa w=>∃(G':GH) (itL itH:Itm) (vL vH:Value) (hs:LI),res=some hs∧GLe G G'∧Fr a 73 [(4,vH)]∧Mem W G' w (itL::itH::H)∧Ow (RI .u32) 63 G' itH vH hs) ?_ ?_
  ·skip
   refine Ak ?_
   refine AI (fun(s:(LI×LI)×Int) a w=>∃(G':GH) (itL itH:Itm) (vL vH:Value),GLe G G'∧Fr a 73 [(3,vL),(4,vH),(17,.int .i64 (left.length:Int)),(18,.int .i64 s.2)]∧Mem W G' w (itL::itH::H)∧Ow (RI .u32) 63 G' itL vL s.1.1∧Ow (RI .u32) 63 G' itH vH s.1.2) hres ⟨G1,itL,itH,vL,vH,hl1,f.k Z,m,oL,oH⟩ ?_
   clear hres f m oL oH
   rintro⟨s,u⟩ ro hs hq a w ⟨G2,itL,itH,vL,vH,hl2,f,m,oL,oH⟩
   unfold D.Q at hs
   dsimp only at hs oL oH f
   refine Af ?_
   refine Ai f Z Z AP λa f=>Aa (Ag ?_)
   rcases Ae hs with⟨hc,hs⟩|⟨hc,hs⟩
   ·skip
    refine Al f Z hc ?_
    refine Am ?_
    have⟨q2,hq2,hs⟩:=bind_some hs
    refine Ag (Ak (Af ?_))
    refine Ab f Z λa f=>Ac f Z λa f=>Aa ?_
    refine AN (λa w=>∃(G':GH) (itL itH:Itm) (vL vH:Value) (s':LI×LI),q2=some s'∧GLe G G'∧Fr a 73 [(3,vL),(4,vH),(17,.int .i64 (left.length:Int)),(18,.int .i64 u)]∧Mem W G' w (itL::itH::H)∧Ow (RI .u32) 63 G' itL vL s'.1∧Ow (RI .u32) 63 G' itH vH s'.2) ?_ ?_
    ·skip
     refine Ak ?_
     refine AI (fun(s:LI×LI) a w=>∃(G':GH) (itL itH:Itm) (vL vH:Value),GLe G G'∧Fr a 73 [(3,vL),(4,vH),(17,.int .i64 (left.length:Int)),(5,.int .i64 u),(18,.int .i64 u)]∧Mem W G' w (itL::itH::H)∧Ow (RI .u32) 63 G' itL vL s.1∧Ow (RI .u32) 63 G' itH vH s.2) hq2 ⟨G2,itL,itH,vL,vH,hl2,f.k Z,m,oL,oH⟩ ?_
     clear hq2 f m oL oH
     rintro s ri hsi hqi a w ⟨G3,itL,itH,vL,vH,hl3,f,m,oL,oH⟩
     unfold D.E at hsi
     have⟨e,he,hsi⟩:=bind_some hsi
     refine Ag (Af ?_)
     refine Ab f Z λa f=>Ab f Z λa f=>Cb 0 m oL Z oT f Z Z Z he λp a ha f=>B1 0 m oL Z oPl f Z Z ha he λc a h f=> ?_
     subst h
     refine Ai f Z Z Cy λa f=>Aa ?_
     rcases Ae hsi with⟨hci,hsi⟩|⟨hci,hsi⟩
     ·skip
      refine Al f Z hci ?_
      refine Am ?_
      have⟨v,hv,hsi⟩:=bind_some hsi
      have⟨M,hM,hsi⟩:=bind_some hsi
      refine Ak (Af ?_)
      refine Ab f Z λa f=>Ab f Z λa f=>Ab f Z λa f=>Ab f Z λa f=>Cb 0 m oL Z oT f Z Z Z he λp a ha f=>B1 0 m oL Z oPl f Z Z ha he λc a h f=> ?_
      subst h
      refine Bk f Z call121 (Wk.u hW m hv) λG4 w hl4 m a f=> ?_
      have oL:=od1 hl4 oL
      have oH:=od1 hl4 oH
      have hb:∀w,(Instr.build 99 #[(0,(iv u)),(1,(iv v))]).run prog w= .ok (kyV (u,v)) w:=by intro w;simp[Instr.build,Instr.fill,kyV,Ca,B3,BJ,BQ,BE,B9]
      refine CC f Z Z hb λa f=>A5 f Z call141 (Ow.lendCall (RI.mono _) 0 oL m Z (λG' hG m hL=>Wk.l hW m hL hM) (λ_ _ _ _ h=>h)) λvM G5 Ho5 w hl5 m hQ5 a f=> ?_
      obtain⟨itM,rfl,oM⟩:=hQ5
      have oL:=od1 hl5 oL
      have oH:=od1 hl5 oH
      refine Ac f Z λa f=>Aa ?_
      have hl35:GLe G G5:=gt hl3 (gt hl4 hl5)
      refine Ag (Af ?_)
      refine Ab f Z λa f=>l_rangeMa 0 m oM Z hmp f Z Z λitI vI w a m hR f=>Aa ?_
      rcases Ae hsi with⟨hk,hsi⟩|⟨hk,hsi⟩
      ·skip
       obtain rfl:=sj hsi
       obtain rfl:=hqi _ rfl
       have hs':some (Sum.inr none)=some ro:=hs
       obtain rfl:=sj hs'
       obtain rfl:=hq _ rfl
       have hd':some ([]:LI)=some y:=hd
       obtain rfl:=sj hd'
       have hex:∃e∈M.map (·.1),(Bc M (e.2,e.1)).isSome=true:=by
        obtain⟨kv,h1,h2⟩:=List.any_eq_true.1 hk
        exact⟨kv.1,List.mem_map.2 ⟨kv,h1,Z⟩,h2⟩
       refine AN (λa w=>False) ?_ (λ_ _ h=>h.elim)
       refine Ak ?_
       refine k_loopN (λk a w=>∃(rs:ArL) (at':Option (Int×Int)) (G':GH) (itI:Itm),rs.length=k∧RgI itM itI vI rs at'∧(∃e∈rs,(Bc M (e.2,e.1)).isSome=true)∧GLe G5 G'∧Fr a 73 [(3,vL),(4,vH),(5,.int .i64 u),(6,vM),(17,.int .i64 (left.length:Int)),(18,.int .i64 u),(36,vI)]∧Mem W G' w (itI::itM::itL::itH::H)) ⟨_,none,G5,itI,Z,hR,hex,gr,f.k Z,m⟩ ?_
       clear f m hR hex
       rintro k a w ⟨rs,at',G6,itI,hk',hR,hex,hl6,f,m⟩
       refine Af ?_
       refine l_nextMa 0 1 m hR oM Z Z f Z Z (λh0=> ?_) λee rs' itI y0 w a hp m hR f=> ?_
       ·skip
        subst h0
        obtain⟨_,h,_⟩:=hex
        cases h
       refine l_o f (A4 (f.e Z) Z) λa f=>Aa (Ag ?_)
       refine Al f Z Z ?_
       refine Am ?_
       refine Ak (Af ?_)
       refine EM 0 1 m hR oM Z Z f Z Z λy1 a f=>l_o f (A4 (f.e Z) Z) λa f=>BP (cs:=[(iv 0),(iv 0)]) zeroValue99 m f Z Z λb7 w a m f=>A7 0 0 (ds:=[.int .i64 ee.1,.int .i64 ee.2]) m sizeOf99 f Z Z Z (Ao Z (Ao Z AF)) Z (lb Z) Z λw m=>AG ?_
       refine Ab f Z λa f=>AW 0 0 (ds:=[.int .i64 ee.1,.int .i64 ee.2]) m kA f Z Z Z Z Z λa f=>Bk f Z call111 (Wk.R (y:=(ee.2,ee.1)) m Z) λG7 w hl7 m a f=>Cw (i:=(ee.2,ee.1)) kpk 2 m oM Z hmp hz f Z Z Z λa f=>Ab f Z λa f=>l_o f (A4 (f.e Z) Z) λa f=>l_o f (A4 (f.e Z) Z) λa f=>Ac f Z λa f=>Ac f Z λa f=>AG ?_
       refine Ab f Z λa f=>Aa ?_
       cases hopp:(Bc M (ee.2,ee.1)).isSome
       ·skip
        refine Aj f Z hopp ?_
        refine Am ?_
        refine⟨rs'.length,by rw[←hk',hp.length_eq];exact Nat.lt_succ_self _,rs',some ee,G7,itI,Z,hR,?_,gt hl6 hl7,f.k Z,m.tail⟩
        obtain⟨e1,h1,h2⟩:=hex
        rcases List.mem_cons.1 (hp.mem_iff.1 h1) with h|h
        ·skip
         subst h;rw[hopp] at h2;cases h2
        ·skip
         exact⟨e1,h,h2⟩
       ·skip
        refine Al f Z hopp ?_
        refine Af ?_
        refine Ac f Z λa f=>Aa ?_
        refine Ax ?_
        have m:Mem W G7 w H:=m.tail.tail.tail.tail.tail
        obtain⟨itN,m,oN⟩:=Ow.nil (RI .u32) 63 m
        exact⟨[.slice none 0 0],f.g Z,f.d,G7,[itN],gt hl35 (gt hl6 hl7),m,_,_,Z,Z,oN,Z⟩
      ·skip
       have⟨sf,hsf,hsi⟩:=bind_some hsi
       obtain rfl:=sj hsi
       have hnone:∀e∈M.map (·.1),(Bc M (e.2,e.1)).isSome=false:=λe he=>by
        obtain⟨kv,h1,rfl⟩:=List.mem_map.1 he
        cases hh:(Bc M (kv.1.2,kv.1.1)).isSome
        ·rfl
        ·exact absurd (List.any_eq_true.2 ⟨kv,h1,hh⟩) (by show¬D.o0 M=true;rw[hk];decide)
       refine AN (λa w=>∃(G':GH),GLe G5 G'∧Fr a 73 [(3,vL),(4,vH),(5,.int .i64 u),(6,vM),(17,.int .i64 (left.length:Int)),(18,.int .i64 u)]∧Mem W G' w (itM::itL::itH::H)) ?_ ?_
       ·skip
        refine Ak ?_
        refine k_loopN (λk a w=>∃(rs:ArL) (at':Option (Int×Int)) (G':GH) (itI:Itm),rs.length=k∧RgI itM itI vI rs at'∧(∀e∈rs,(Bc M (e.2,e.1)).isSome=false)∧GLe G5 G'∧Fr a 73 [(3,vL),(4,vH),(5,.int .i64 u),(6,vM),(17,.int .i64 (left.length:Int)),(18,.int .i64 u),(36,vI)]∧Mem W G' w (itI::itM::itL::itH::H)) ⟨_,none,G5,itI,Z,hR,hnone,gr,f.k Z,m⟩ ?_
        clear f m hR
        rintro k a w ⟨rs,at',G6,itI,hk',hR,hno,hl6,f,m⟩
        refine Af ?_
        refine l_nextMa 0 1 m hR oM Z Z f Z Z (λh0 a f=> ?_) λee rs' itI y0 w a hp m hR f=> ?_
        ·skip
         refine l_o f (A4 (f.e Z) Z) λa f=>Aa (Ag ?_)
         refine Aj f Z Z ?_
         refine AE Z ?_
         exact⟨G6,hl6,f.k Z,m.tail⟩
        refine l_o f (A4 (f.e Z) Z) λa f=>Aa (Ag ?_)
        refine Al f Z Z ?_
        refine Am ?_
        refine Ak (Af ?_)
        refine EM 0 1 m hR oM Z Z f Z Z λy1 a f=>l_o f (A4 (f.e Z) Z) λa f=>BP (cs:=[(iv 0),(iv 0)]) zeroValue99 m f Z Z λb7 w a m f=>A7 0 0 (ds:=[.int .i64 ee.1,.int .i64 ee.2]) m sizeOf99 f Z Z Z (Ao Z (Ao Z AF)) Z (lb Z) Z λw m=>AG ?_
        refine Ab f Z λa f=>AW 0 0 (ds:=[.int .i64 ee.1,.int .i64 ee.2]) m kA f Z Z Z Z Z λa f=>Bk f Z call111 (Wk.R (y:=(ee.2,ee.1)) m Z) λG7 w hl7 m a f=>Cw (i:=(ee.2,ee.1)) kpk 2 m oM Z hmp hz f Z Z Z λa f=>Ab f Z λa f=>l_o f (A4 (f.e Z) Z) λa f=>l_o f (A4 (f.e Z) Z) λa f=>Ac f Z λa f=>Ac f Z λa f=>AG ?_
        refine Ab f Z λa f=>Aa ?_
        have hopp:=hno ee (hp.mem_iff.2 List.mem_cons_self)
        refine Aj f Z hopp ?_
        refine Am ?_
        exact⟨rs'.length,by rw[←hk',hp.length_eq];exact Nat.lt_succ_self _,rs',some ee,G7,itI,Z,hR,λe he=>hno e (hp.mem_iff.2 (List.mem_cons_of_mem _ he)),gt hl6 hl7,f.k Z,m.tail⟩
       ·skip
        clear f m hR
        rintro a w ⟨G6,hl6,f,m⟩
        have oL:=od1 hl6 oL
        have oH:=od1 hl6 oH
        refine Af ?_
        refine Ab f Z λa f=>l_rangeMa 0 m oM Z hmp f Z Z λitI vI w a m hR f=>Aa (Ak ?_)
        refine k_loopN (λk a w=>∃(rs:ArL) (at':Option (Int×Int)) (s:LI×LI) (G':GH) (itI itL itH:Itm),rs.length=k∧RgI itM itI vI rs at'∧D.n rs s=some sf∧GLe G6 G'∧Fr a 73 [(3,vL),(4,vH),(5,.int .i64 u),(17,.int .i64 (left.length:Int)),(18,.int .i64 u),(50,vI)]∧Mem W G' w (itI::itM::itL::itH::H)∧Ow (RI .u32) 63 G' itL vL s.1∧Ow (RI .u32) 63 G' itH vH s.2) ⟨_,none,s,G6,itI,itL,itH,Z,hR,hsf,gr,f.k Z,m,oL,oH⟩ ?_
        clear f m hR hsf oL oH
        rintro k a w ⟨rs,at',s,G7,itI,itL,itH,hk',hR,hsf,hl7,f,m,oL,oH⟩
        refine Af ?_
        refine l_nextMa 0 1 m hR oM Z Z f Z Z (λh0 a f=> ?_) λee rs' itI y0 w a hp m hR f=> ?_
        ·skip
         subst h0
         obtain rfl:=sj hsf
         refine l_o f (A4 (f.e Z) Z) λa f=>Aa (Ag ?_)
         refine Aj f Z Z ?_
         refine AE Z ?_
         exact⟨_,Z,G7,itL,itH,vL,vH,gt hl35 (gt hl6 hl7),f.k Z,m.tail.tail,oL,oH⟩
        have hsf:=orFold_perm hp _ _ hsf
        unfold D.n at hsf
        have⟨s1,hs1,hsf⟩:=bind_some hsf
        unfold D.t at hs1
        have⟨e1,he1,hs1⟩:=bind_some hs1
        have⟨o1,ho1,hs1⟩:=bind_some hs1
        have⟨l1,hl1',hs1⟩:=bind_some hs1
        obtain rfl:=sj hs1
        refine l_o f (A4 (f.e Z) Z) λa f=>Aa (Ag ?_)
        refine Al f Z Z ?_
        refine Am ?_
        refine Ak (Af ?_)
        refine EM 0 1 m hR oM Z Z f Z Z λy1 a f=>l_o f (A4 (f.e Z) Z) λa f=>BP (cs:=[(iv 0),(iv 0)]) zeroValue99 m f Z Z λb7 w a m f=>A7 0 0 (ds:=[.int .i64 ee.1,.int .i64 ee.2]) m sizeOf99 f Z Z Z (Ao Z (Ao Z AF)) Z (lb Z) Z λw m=>Aa (Ag ?_)
        refine AN (λa w=>∃(G':GH) (itH:Itm),GLe G7 G'∧Fr a 73 [(3,vL),(4,vH),(5,.int .i64 u),(17,.int .i64 (left.length:Int)),(18,.int .i64 u),(50,vI),(10,.pointer (some ⟨b7,0,none⟩))]∧Mem W G' w (kBx b7 ee::itI::itM::itL::itH::H)∧Ow (RI .u32) 63 G' itH vH (s.2.set (Int.toNat ee.1) (ior .u32 e1 o1))) ?_ ?_
        ·skip
         refine A9 9 AJ (by kernel_rfl) m ?_
         refine Ah 0 9 Z f Z λa f=>Cr 1 9 underlying99 Z sizeOf3 Z f Z λa f=>B7 2 9 0 oPi Z Z Z f Z λa f=>q_oa 3 9 4 m oH oT he1 Z f Z Z λp a ha f=>q_ol 4 9 4 oH oPl ha he1 Z f Z λc a h f=> ?_
         subst h
         refine Cr 5 9 underlying99 Z sizeOf3 Z f Z λa f=>B7 6 9 0 oPi Z Z Z f Z λa f=>B8 (i:=7) 9 Z (by kernel_rfl) Z f Z Z Z call74 (λ_ _ w hG m=>Wk.b m ho1) λa f=>q_p 8 9 Z f (λ_=>AL (f.e Z) (f.e Z) b_or) λa f=>AZ λG8 w hl8 m=> ?_
         have oH:=od1 hl8 oH
         refine Cb 4 m oH Z oT f Z Z Z he1 λp a ha f=>CV 4 m oH Z sizeOf63 f Z Z ha he1 Z Z Z λitH w m oH=>Aa ?_
         exact⟨G8,itH,hl8,f.k Z,m,oH⟩
        ·skip
         clear f m oH
         rintro a w ⟨G8,itH,hl8,f,m,oH⟩
         have oL:=od1 hl8 oL
         refine Ap ?_
         refine Ab f Z λa f=>Bp underlying99 Z sizeOf3 f Z λa f=>AM 0 0 m oPi f Z Z Z Z λa f=>Bp underlying99 Z sizeOf3 f Z λa f=>AM 0 1 m oPi f Z Z Z Z λa f=> ?_
         have m:=m.fr 3
         refine A5 f Z call142 (Wk.z0 m oL hl1') λv9 G9 Ho9 w hl9 m hQ9 a f=> ?_
         obtain⟨itL,rfl,oL⟩:=hQ9
         have oH:=od1 hl9 oH
         refine Aa ?_
         have m:=m.eraseAt 1
         have m:=m.fr 2
         have m:=m.fr 2
         exact⟨rs'.length,by rw[←hk',hp.length_eq];exact Nat.lt_succ_self _,rs',some ee,_,G9,itI,itL,itH,Z,hR,hsf,gt hl7 (gt hl8 hl9),f.k Z,m,oL,oH⟩
     ·skip
      refine Aj f Z hci ?_
      refine AE Z ?_
      obtain rfl:=sj hsi
      obtain rfl:=hqi _ rfl
      exact⟨G3,itL,itH,vL,vH,s,Z,hl3,f.k Z,m,oL,oH⟩
    ·skip
     clear f m oL oH
     rintro a w ⟨G3,itL,itH,vL,vH,s',rfl,hl3,f,m,oL,oH⟩
     have hs':some (Sum.inl (s',i64.wrap (u+1)))=some ro:=hs
     obtain rfl:=sj hs'
     refine Ap ?_
     refine Ai f Z Z Az λa f=>Ab f Z λa f=>Aa ?_
     exact⟨_,Z,G3,itL,itH,vL,vH,hl3,f.k Z,m,oL,oH⟩
   ·skip
    refine Aj f Z hc ?_
    refine AE Z ?_
    obtain rfl:=sj hs
    have hr:=hq _ rfl
    exact⟨G2,itL,itH,vL,vH,s.2,hr.symm,hl2,f.k Z,m,oH⟩
  ·skip
   clear f m oL oH
   rintro a w ⟨G2,itL,itH,vL,vH,hs,rfl,hl2,f,m,oH⟩
   have hd':(nonE hs).bind (λ_=>some hs)=some y:=hd
   obtain⟨un,hn,hd'⟩:=bind_some hd'
   obtain rfl:=sj hd'
   have hnn:=Ow.notNil 1 m oH rfl hn
   refine Af ?_
   refine Ab f Z λa f=>Ac f Z λa f=>Aa ?_
   refine Ax ?_
   exact⟨[vH],f.g Z,f.d,G2,[itH],hl2,m.tail,vH,itH,Z,Z,oH,hnn⟩
end Go.Proofs.YtmkcbhidbdggiaaDoor

set_option maxRecDepth 100000
namespace Go.Proofs.YtmkcbhidbdggiaaDoor
open Go Go.Sx
open Go.Proofs.Tryd Go.Proofs.YtmkcbhidbdggiaaDoor.Tryd IntKind
variable {W w : World} {G : GH} {H : List Itm}
theorem T59 :SlT prog 59 63 1 4 (.int .u32 0):=⟨underlying59,Tryd.t63,by kernel_rfl,by kernel_rfl,by kernel_rfl,by kernel_rfl⟩
theorem Wk.g0 {v0:Value}{x0:LI}(m:Mem W G w (H))(h0:R1 G v0 x0){y:(LI)}(hd:D.g0 x0=some y):
  Calls prog 68 #[v0] w (Res W G H (λG' Ho v=>∃r0:Value,∃i0:Itm,Ho=[i0]∧r0=v∧Ow R0 2 G' i0 r0 y)):=by
 refine AB (args:=[v0]) (N:=21) [.tmp 2] func68 Z Z (lb Z) Z λa f=> ?_
 unfold D.g0 at hd
 refine Af ?_
 refine Ac f Z λa f=>AG ?_
 refine Ab f Z λa f=>A6 underlying65 f Z Z h0 λa f=> ?_
 have⟨aa,ab,hd⟩:=bind_some hd
 refine l_make (R:=R0) m T31 Z (by decide) Z f Z Z Z ab λac ad w a m ae f=>Ac f Z λa f=>Aa (Ag (Af ?_))
 refine Ab f Z λa f=>A6 underlying65 f Z Z h0 λa f=>Ab f Z λa f=>Aa ?_
 have⟨af,ag,hd⟩:=bind_some hd
 refine AN (λa w=>∃ah:LI,ah=af∧∃(ai:GH) (aj:Value) (ak:Itm),GLe G ai∧Fr a 21 [(3,aj)]∧Mem W ai w (ak::H)∧Ow R0 2 ai ak aj ah) ?_ ?_
 ·refine Ak ?_
  refine AI (λal a w=>∃am:LI,∃an:Int,(am,an)=al∧∃(ao:GH) (ap:Value) (aq:Itm),GLe G ao∧Fr a 21 [(3,ap),(9,v0),(10,(iv (x0.length:Int))),(11,(iv an))]∧Mem W ao w (aq::H)∧Ow R0 2 ao aq ap am) ag ⟨_,_,Z,_,ad,ac,gr,f.k Z,m,ae⟩ ?_
  clear ag f m
  rintro al ar au av a w ⟨am,an,rfl,ao,ap,aq,aw,f,m,ax⟩
  have h0:=rd1 aw h0
  refine Af ?_
  refine Ai f Z Z AP λa f=>Aa (Ag ?_)
  rcases Ae au with⟨ay,au⟩|⟨ay,au⟩
  ·refine Al f Z ay ?_
   refine Am ?_
   refine Ag (Ak (Af ?_))
   have⟨az,aA,au⟩:=bind_some au
   refine Bi T65 f Z Z Z h0 aA λaB aC a aD aE f=> ?_
   subst aE
   refine AH m Pl3 f Z Z aD λa f=>Ac f Z λa f=>Aa (Ap ?_)
   refine Ab f Z λa f=>Ab f Z λa f=>By (R:=R0) (xs:=([az]:LI)) (RI.one _) m T31 f Z Z Z (by decide) (All2.cons Z (All2.nil _)) λaF aG w a m aH f=> ?_
   have⟨aI,aJ,au⟩:=bind_some au
   refine BR (RI.one _) 1 m ax Z T31 Z (by decide) f Z Z Z (Ow.src (j:=0) aH m Z) aJ λaK aL w a m aM f=>Ac f Z λa f=>Aa (Ap ?_)
   refine Ai f Z Z Az λa f=>Ab f Z λa f=>Aa ?_
   have m:=m.fr 1
   have m:=m.eraseAt 1
   obtain rfl:=sj au
   exact⟨_,Z,_,_,Z,_,aL,aK,aw,f.k Z,m,aM⟩
  ·refine Aj f Z ay ?_
   refine AE Z ?_
   obtain rfl:=sj au
   obtain rfl:=av _ rfl
   exact⟨_,Z,_,ap,aq,aw,f.k Z,m,ax⟩
 ·rintro a w ⟨ah,rfl,ai,aj,ak,aN,f,m,aO⟩
  refine Af ?_
  refine Ab f Z λa f=>Ac f Z λa f=>Aa ?_
  refine Ax ?_
  obtain rfl:=sj hd
  exact⟨[aj],f.g Z,f.d,_,[ak],aN,m,_,_,Z,Z,aO⟩
theorem Wk.T {x0:Int}(hW:Cs W)(m:Mem W G w (H)){y:(LI)}(hd:D.T x0=some y):
  Calls prog 56 #[(.int .u32 x0)] w (Res W G H (λG' Ho v=>∃r0:Value,∃i0:Itm,Ho=[i0]∧r0=v∧Ow R0 2 G' i0 r0 y)):=by
 refine AB (args:=[(.int .u32 x0)]) (N:=6) [.tmp 2] func56 Z Z (lb Z) Z λa f=> ?_
 unfold D.T at hd
 refine Af ?_
 refine Ac f Z λa f=>AG ?_
 refine Ab f Z λa f=> ?_
 have⟨aa,ab,hd⟩:=bind_some hd
 refine A5 f Z call54 (Wk.g hW m ab) λac ad ae w af m ag a f=> ?_
 obtain⟨ah,ai,rfl,rfl,aj⟩:=ag
 have⟨ak,al,hd⟩:=bind_some hd
 refine A5 f Z call68 (Ow.lendCall (RI.mono _) 0 aj m Z (λam an m ao=>Wk.g0 m ao al) (λ_ G' _ _ ⟨a0,a1,e1,e2,o0⟩=>⟨a0,a1,e1,e2,Ow.free (RI.free _) G' o0⟩)) λap aq ar w au m av a f=> ?_
 obtain⟨aw,ax,rfl,rfl,ay⟩:=av
 refine Ac f Z λa f=>Aa ?_
 refine Ax ?_
 have m:=m.eraseAt 1
 obtain rfl:=sj hd
 exact⟨[aw],f.g Z,f.d,_,[ax],(gt af au),m,_,_,Z,Z,ay⟩
theorem Wk.K {v0:Value}{x0:LI}(hW:Cs W)(m:Mem W G w (H))(h0:RSl (RI .u32) G v0 x0){y:(LL)}(hd:D.K x0=some y):
  Calls prog 94 #[v0] w (Res W G H (λG' Ho v=>∃r0:Value,∃i0:Itm,Ho=[i0]∧r0=v∧Ow2 R0 31 2 G' i0 r0 y)):=by
 refine AB (args:=[v0]) (N:=20) [.tmp 2] func94 Z Z (lb Z) Z λa f=> ?_
 unfold D.K at hd
 refine Af ?_
 refine Ac f Z λa f=>AG ?_
 refine By (R:=RawS) (xs:=[]) RawS.one m T27 f Z Z Z (by decide) (All2.nil _) λaa ab w a m ac f=> ?_
 obtain⟨ad,m,ae⟩:=Ow2.of_empty R0 2 m ac
 refine Ac f Z λa f=>Aa (Ag (Af ?_))
 refine Ab f Z λa f=>A6 underlying59 f Z Z h0 λa f=>Ab f Z λa f=>Aa ?_
 have⟨af,ag,hd⟩:=bind_some hd
 refine AN (λa w=>∃ah:LL,ah=af∧∃(ai:GH) (aj:Value) (ak:Itm),GLe G ai∧Fr a 20 [(3,aj)]∧Mem W ai w (ak::H)∧Ow2 R0 31 2 ai ak aj ah) ?_ ?_
 ·refine Ak ?_
  refine AI (λal a w=>∃am:LL,∃an:Int,(am,an)=al∧∃(ao:GH) (ap:Value) (aq:Itm),GLe G ao∧Fr a 20 [(3,ap),(7,v0),(8,(iv (x0.length:Int))),(9,(iv an))]∧Mem W ao w (aq::H)∧Ow2 R0 31 2 ao aq ap am) ag ⟨_,_,Z,_,ab,ad,gr,f.k Z,m,ae⟩ ?_
  clear ag f m
  rintro al ar au av a w ⟨am,an,rfl,ao,ap,aq,aw,f,m,ax⟩
  have h0:=rd1 aw h0
  refine Af ?_
  refine Ai f Z Z AP λa f=>Aa (Ag ?_)
  rcases Ae au with⟨ay,au⟩|⟨ay,au⟩
  ·refine Al f Z ay ?_
   refine Am ?_
   refine Ag (Ak (Af ?_))
   have⟨az,aA,au⟩:=bind_some au
   refine Bi T59 f Z Z Z h0 aA λaB aC a aD aE f=> ?_
   subst aE
   refine AH m Dj f Z Z aD λa f=>Ac f Z λa f=>Aa (Ap ?_)
   refine Ab f Z λa f=>Ab f Z λa f=> ?_
   have⟨aF,aG,au⟩:=bind_some au
   refine A5 f Z call56 (Wk.T hW m aG) λaH aI aJ w aK m aL a f=> ?_
   obtain⟨aM,aN,rfl,rfl,aO⟩:=aL
   have ax:=od2 aK ax
   refine By (R:=RawS) (xs:=[aM]) RawS.one m T27 f Z Z Z (by decide) (All2.cons ⟨Z,Ow.one1 0 m aO Z,Ow.cells 0 m aO Z⟩ (All2.nil _)) λaP aQ w a m aR f=> ?_
   have m:=m.fr 1
   have m:=m.fr 2
   have⟨aS,aT,au⟩:=bind_some au
   refine l_append2 m ax aO aR T27 Z (by decide) f Z Z Z aT λaU aV w a m aW f=>Ac f Z λa f=>Aa (Ap ?_)
   refine Ai f Z Z Az λa f=>Ab f Z λa f=>Aa ?_
   obtain rfl:=sj au
   exact⟨_,Z,_,_,Z,_,aV,aU,(gt aw aK),f.k Z,m,aW⟩
  ·refine Aj f Z ay ?_
   refine AE Z ?_
   obtain rfl:=sj au
   obtain rfl:=av _ rfl
   exact⟨_,Z,_,ap,aq,aw,f.k Z,m,ax⟩
 ·rintro a w ⟨ah,rfl,ai,aj,ak,aX,f,m,aY⟩
  refine Af ?_
  refine Ab f Z λa f=>Ac f Z λa f=>Aa ?_
  refine Ax ?_
  obtain rfl:=sj hd
  exact⟨[aj],f.g Z,f.d,_,[ak],aX,m,_,_,Z,Z,aY⟩
theorem Wk.k0 {aa:Value}{ab:LL}(hW:Cs W)(m:Mem W G w (H))(ac:R2 G aa ab){y:(LL)×Bool}(hd:D.k0 ab=some y):
  Calls prog 32 #[(.agg #[aa])] w (Res W G H (λG' Ho v=>∃r0:Value,∃i0:Itm,Ho=[i0]∧v= .tuple #[r0,(.bool y.2)]∧Ow2 R0 31 2 G' i0 r0 y.1)):=by
 refine AB (args:=[(.agg #[aa])]) (N:=15) [.tmp 2,.tmp 3] func32 Z Z (lb Z) Z λa f=> ?_
 unfold D.k0 at hd
 refine Af ?_
 refine BB (cs:=[aa]) m f Z Z Z λad w a m f=>Ac f Z λa f=>Ac f Z λa f=>Aa (Ag (Af ?_))
 refine AW 0 0 (ds:=[aa]) m Bv f Z Z Z Z Z λa f=> ?_
 have⟨ae,af,hd⟩:=bind_some hd
 refine Bk f Z call50 (Wk.h m ac af) λag w ah m a f=> ?_
 have ac:=rd2 ah ac
 refine l_o f (Bn (f.e Z)) λa f=>Aa ?_
 rcases Ae hd with⟨ai,hd⟩|⟨ai,hd⟩
 ·refine Al f Z ai ?_
  refine Af ?_
  refine Ac f Z λa f=>Ac f Z λa f=>Aa ?_
  refine Ax ?_
  obtain⟨aj,m,ak⟩:=Ow2.nil R0 31 2 m
  have m:=m.eraseAt 1
  obtain rfl:=sj hd
  exact⟨[sn,(.bool false)],⟨f.get _ _ Z,f.get _ _ Z,trivial⟩,f.d,_,[aj],ah,m,_,_,Z,Z,ak⟩
 ·refine Aj f Z ai ?_
  refine Am ?_
  refine Af ?_
  refine AW 0 0 (ds:=[aa]) m Bv f Z Z Z Z Z λa f=> ?_
  have⟨al,am,hd⟩:=bind_some hd
  refine A5 f Z call51 (Wk.j m ac am) λan ao ap w aq m ar a f=> ?_
  obtain⟨au,av,rfl,rfl,aw⟩:=ar
  have⟨ax,ay,hd⟩:=bind_some hd
  refine A5 f Z call93 (Ow.lendCall (RI.mono _) 0 aw m Z (λaz aA m aB=>Wk.M hW m aB ay) (λ_ G' _ _ ⟨r0,i0,h1,h2,h3,h4⟩=>⟨r0,i0,h1,h2,Ow.free (RI.free _) G' h3,h4⟩)) λaC aD aE w aF m aG a f=> ?_
  obtain⟨aH,aI,rfl,rfl,aJ,aK⟩:=aG
  refine Ac f Z λa f=>Aa (Ag (Af ?_))
  refine Ab f Z λa f=>l_o f (r_nil_eql (f.e Z) (f.e Z) (Ow.hdr 0 m aJ Z) underlying60 aK) λa f=>Aa ?_
  rcases Ae hd with⟨aL,hd⟩|⟨aL,hd⟩
  ·refine Al f Z aL ?_
   refine Af ?_
   refine Ac f Z λa f=>Ac f Z λa f=>Aa ?_
   refine Ax ?_
   obtain⟨aM,m,aN⟩:=Ow2.nil R0 31 2 m
   have m:=m.eraseAt 3
   have m:=m.eraseAt 2
   have m:=m.eraseAt 1
   obtain rfl:=sj hd
   exact⟨[sn,(.bool false)],⟨f.get _ _ Z,f.get _ _ Z,trivial⟩,f.d,_,[aM],(gt ah (gt aq aF)),m,_,_,Z,Z,aN⟩
  ·refine Aj f Z aL ?_
   refine Am ?_
   refine Af ?_
   refine Ab f Z λa f=> ?_
   have⟨aO,aP,hd⟩:=bind_some hd
   refine A5 f Z call94 (Ow.lendCall (RI.mono _) 0 aJ m Z (λaQ aR m aS=>Wk.K hW m aS aP) (λ_ G' _ _ ⟨a0,a1,e1,e2,o0⟩=>⟨a0,a1,e1,e2,Ow2.free (RI.free _) G' o0⟩)) λaT aU aV w aW m aX a f=> ?_
   obtain⟨aY,aZ,rfl,rfl,a2⟩:=aX
   refine Ac f Z λa f=>Ac f Z λa f=>Aa ?_
   refine Ax ?_
   have m:=m.eraseAt 3
   have m:=m.eraseAt 2
   have m:=m.eraseAt 1
   obtain rfl:=sj hd
   exact⟨[aY,(.bool true)],⟨f.get _ _ Z,f.get _ _ Z,trivial⟩,f.d,_,[aZ],(gt ah (gt aq (gt aF aW))),m,_,_,Z,Z,a2⟩
theorem Wk.F {aa ab:Int}(m:Mem W G w (H)){y:(LI)}(hd:D.F aa ab=some y):
  Calls prog 143 #[(.agg #[(iv aa),(iv ab)])] w (Res W G H (λG' Ho v=>∃r0:Value,∃i0:Itm,Ho=[i0]∧r0=v∧Ow R0 2 G' i0 r0 y)):=by
 refine AB (args:=[(.agg #[(iv aa),(iv ab)])]) (N:=8) [.tmp 2] func143 Z Z (lb Z) Z λa f=> ?_
 unfold D.F at hd
 refine Af ?_
 refine BB (cs:=[(iv aa),(iv ab)]) m f Z Z Z λac w a m f=>Ac f Z λa f=>AG ?_
 refine Bp underlying99 Z sizeOf3 f Z λa f=>AM 0 0 m Pl3 f Z Z Z Z λa f=>Bp underlying99 Z sizeOf3 f Z λa f=>AM 0 1 m Pl3 f Z Z Z Z λa f=>By (R:=R0) (xs:=([aa,ab]:LI)) (RI.one _) m T31 f Z Z Z (by decide) (All2.cons Z (All2.cons Z (All2.nil _))) λad ae w a m af f=>Ac f Z λa f=>Aa ?_
 refine Ax ?_
 have m:=m.eraseAt 1
 obtain rfl:=sj hd
 exact⟨[ae],f.g Z,f.d,_,[ad],gr,m,_,_,Z,Z,af⟩
end Go.Proofs.YtmkcbhidbdggiaaDoor

namespace Go.Sx
open Go
theorem Ow2.of_one {α:Type}{R:Rep α}{t1 t2:TypeId}{W w:World}{G:GH}{H:List Itm}{src inn:Itm}{y h:Value}{e:List α}(m:Mem W G w (src::inn::H))(hs:Ow RawS t1 G src y [h])(hi:Ow R t2 G inn h e):∃it',Mem W G w (it'::H)∧Ow2 R t1 t2 G it' y [e]:=by
 obtain⟨vs,rfl,hiA⟩:=inner_of hi
 obtain⟨vs',rfl,hR⟩:=hs
 obtain rfl:=raw_eq hR
 refine⟨.deep y t1 t2 [(h,vs)],Mem.deep.2 (by simpa [parts] using m),[(h,vs)],rfl,rfl,λi r x hr hx=> ?_⟩
 have h0:i=0:=by
  have:=(List.getElem?_eq_some_iff.1 hr).1
  simp at this;omega
 subst h0
 simp at hr hx
 subst hr;subst hx
 exact hiA
theorem Ow2.notNil {α:Type}{R:Rep α}{t1 t2:TypeId}{W w:World}{G:GH}{H:List Itm}{it:Itm}{v:Value}{xs:List (List α)}{u:Unit}(m:Mem W G w (it::H))(h:Ow2 R t1 t2 G it v xs)(hx:nonE xs=some u):CX v=xs.isEmpty:=by
 obtain⟨rows,rfl,hl,hA⟩:=h
 have m2:=Mem.deep.1 m
 have ho:=ow_outer m2
 cases rows with
 |nil=>
  have:xs=[]:=List.eq_nil_of_length_eq_zero (by simpa using hl.symm)
  rw[this] at hx;cases hx
 |cons r rows=>
  have:=Ow.notNil (u:=()) 0 m2 ho rfl rfl
  rw[this]
  cases xs with
  |nil=>simp at hl
  |cons _ _=>rfl
theorem Ow2.hdr {α:Type}{R:Rep α}{t1 t2:TypeId}{W w:World}{G:GH}{it:Itm}{H:List Itm}{v:Value}{xs:List (List α)}(j:Nat)(m:Mem W G w H)(h:Ow2 R t1 t2 G it v xs)(hj:H[j]? =some it):∃a l c,v= .slice a l c:=by
 obtain⟨a,c,rfl,_⟩:=h.len m hj;exact⟨_,_,_,rfl⟩
end Go.Sx

set_option maxRecDepth 100000
namespace Go.Proofs.YtmkcbhidbdggiaaDoor
open Go Go.Sx
open Go.Proofs.Tryd Go.Proofs.YtmkcbhidbdggiaaDoor.Tryd IntKind
variable {W w : World} {G : GH} {H : List Itm}
theorem cT :SlT prog 27 31 1 24 sn:=⟨underlying27,Tryd.t31,by kernel_rfl,by kernel_rfl,by kernel_rfl,by kernel_rfl⟩
set_option maxHeartbeats 2000000 in
theorem Wk.A0 {v0:Value}{x0:LI}{aa ab:Int}(hW:Cs W)(m:Mem W G w H)(h0:RSl (RI .u32) G v0 x0){y:LL}(hd:D.A0 x0 aa ab=some y):
  Calls prog 98 #[v0,(.agg #[(iv aa),(iv ab)])] w (Res W G H (λG' Ho v=>∃r0:Value,∃i0:Itm,Ho=[i0]∧r0=v∧Ow2 R0 31 2 G' i0 r0 y∧CX r0=y.isEmpty)):=by
 refine AB (args:=[v0,(.agg #[(iv aa),(iv ab)])]) (N:=63) [.tmp 4] func98 Z Z (lb Z) Z λa f=> ?_
 unfold D.A0 at hd
 have⟨M,hM,hd⟩:=bind_some hd
 obtain⟨f0,f1,kpk⟩:=kPK
 have hmp:=underlying128
 have hz:=zeroValue3
 refine Af ?_
 refine BB (cs:=[.int .i64 aa,.int .i64 ab]) m f Z Z Z λbx w a m f=>Ac f Z λa f=>AG ?_
 refine Ab f Z λa f=>AW 0 0 (ds:=[.int .i64 aa,.int .i64 ab]) m kA f Z Z Z Z Z λa f=>Bk f Z call111 (Wk.R (y:=(ab,aa)) m Z) λG1 w hl1 m a f=> ?_
 have h0:=rd1 hl1 h0
 refine A5 f Z call141 (Wk.l hW m h0 hM) λvM G2 Ho2 w hl2 m hQ2 a f=> ?_
 obtain⟨itM,rfl,oM⟩:=hQ2
 have h0:=rd1 hl2 h0
 have hl12:GLe G G2:=gt hl1 hl2
 refine Ac f Z λa f=>Aa (Ag (Af ?_))
 refine Ab f Z λa f=>AW 1 0 (ds:=[.int .i64 aa,.int .i64 ab]) m kA f Z Z Z Z Z λa f=>Cw (i:=(aa,ab)) kpk 0 m oM Z hmp hz f Z Z Z λa f=>Ab f Z λa f=>l_o f (A4 (f.e Z) Z) λa f=>l_o f (A4 (f.e Z) Z) λa f=>Ac f Z λa f=>Ac f Z λa f=>AG ?_
 refine Ab f Z λa f=>l_o f (Bn (f.e Z)) λa f=>Aa ?_
 rcases Ae hd with⟨hc,hd⟩|⟨hc,hd⟩
 ·skip
  refine Al f Z hc ?_
  refine Af ?_
  refine Ac f Z λa f=>Aa ?_
  refine Ax ?_
  obtain rfl:=sj hd
  have m:Mem W G2 w H:=m.tail.tail
  obtain⟨itN,m,oN⟩:=Ow2.nil R0 31 2 m
  exact⟨[.slice none 0 0],f.g Z,f.d,G2,[itN],hl12,m,_,_,Z,Z,oN,Z⟩
 refine Aj f Z hc ?_
 refine Am ?_
 have⟨r0,hr0,hd⟩:=bind_some hd
 have⟨lr,hlr,hd⟩:=bind_some hd
 have⟨u0,hne,hd⟩:=bind_some hd
 obtain rfl:=sj hd
 refine Af ?_
 refine AW 1 0 (ds:=[.int .i64 aa,.int .i64 ab]) m kA f Z Z Z Z Z λa f=>A5 f Z call143 (Wk.F m hr0) λv3 G3 Ho3 w hl3 m hQ3 a f=> ?_
 obtain⟨vR,itR,rfl,rfl,oR⟩:=hQ3
 have h0:=rd1 hl3 h0
 refine By (R:=RawS) (xs:=[vR]) RawS.one m cT f Z Z Z (by decide) (All2.cons ⟨Z,Ow.one1 0 m oR Z,Ow.cells 0 m oR Z⟩ (All2.nil _)) λitS vS w a m oS f=> ?_
 obtain⟨itO,m,oO⟩:=Ow2.of_one (t1:=31) m oS oR
 refine Ac f Z λa f=>Aa ?_
 have hl13:GLe G G3:=gt hl12 hl3
 refine Ag ?_
 refine AN (λa w=>∃(G':GH) (itO:Itm) (vO:Value),GLe G G'∧Fr a 63 [(8,vO)]∧Mem W G' w (itO::H)∧Ow2 R0 31 2 G' itO vO lr) ?_ ?_
 ·skip
  refine Ak ?_
  refine AI (fun(s:(Int×Int)×LL) a w=>∃(G':GH) (itO:Itm) (vO:Value),GLe G3 G'∧Fr a 63 [(0,v0),(3,.pointer (some ⟨bx,0,none⟩)),(5,vM),(8,vO)]∧Mem W G' w (itO::itM::kBx bx s.1::H)∧Ow2 R0 31 2 G' itO vO s.2) hlr ⟨G3,itO,vS,gr,f.k Z,m,oO⟩ ?_
  clear hlr f m oO oS oR
  rintro⟨x,l⟩ ro hs hq a w ⟨G4,itO,vO,hl4,f,m,oO⟩
  have h0:=rd1 hl4 h0
  unfold D.b1 at hs
  dsimp only at hs oO f m
  refine Ag (Af ?_)
  refine Ab f Z λa f=>AW 2 0 (ds:=[.int .i64 x.1,.int .i64 x.2]) m kA f Z Z Z Z Z λa f=>Cw (i:=x) kpk 1 m oM Z hmp hz f Z Z Z λa f=>Ai f Z Z Cx λa f=>Aa ?_
  rcases Ae hs with⟨hc1,hs⟩|⟨hc1,hs⟩
  ·skip
   refine Al f Z hc1 ?_
   refine Am ?_
   have⟨ys,hys,hs⟩:=bind_some hs
   have⟨x',hx',hs⟩:=bind_some hs
   have⟨r1,hr1,hs⟩:=bind_some hs
   have⟨l',hl',hs⟩:=bind_some hs
   obtain rfl:=sj hs
   refine Ak (Ag (Af ?_))
   refine Ab f Z λa f=>AW 2 0 (ds:=[.int .i64 x.1,.int .i64 x.2]) m kA f Z Z Z Z Z λa f=>A5 f Z call110 (Wk.k hW m h0 hys) λv5 G5 Ho5 w hl5 m hQ5 a f=> ?_
   obtain⟨vY,itY,rfl,rfl,oY⟩:=hQ5
   have oO:=od2 hl5 oO
   refine DJ 0 m oY Z underlying107 f Z Z λa f=>Ab f Z λa f=>Aa ?_
   refine AN (λa w=>Fr a 63 [(0,v0),(3,.pointer (some ⟨bx,0,none⟩)),(5,vM),(8,vO)]∧Mem W G5 w (itO::itM::kBx bx x'::H)) ?_ ?_
   ·skip
    refine Ak ?_
    refine AI (fun(j:Int) a w=>Fr a 63 [(0,v0),(3,.pointer (some ⟨bx,0,none⟩)),(5,vM),(8,vO),(34,vY),(35,.int .i64 (ys.length:Int)),(36,.int .i64 j)]∧Mem W G5 w (itY::itO::itM::kBx bx x::H)) hx' ⟨f.k Z,m⟩ ?_
    clear hx' f m
    rintro j ri hs hqi a w ⟨f,m⟩
    unfold D.U0 at hs
    refine Af ?_
    refine Ai f Z Z AP λa f=>Aa (Ag ?_)
    rcases Ae hs with⟨hc2,hs⟩|⟨hc2,hs⟩
    ·skip
     refine Al f Z hc2 ?_
     refine Am ?_
     have⟨yj,hyj,hs⟩:=bind_some hs
     refine Ag (Ak (Af ?_))
     refine Bt 0 m oY Z kT f Z Z Z hyj λp a ha f=>D9 (C:=P2) [.int .i64 yj.1,.int .i64 yj.2] 0 m oY Z kA f Z Z ha hyj Z λa f=>BP (cs:=[(iv 0),(iv 0)]) zeroValue99 m f Z Z λb9 w a m f=>A7 0 0 (ds:=[.int .i64 yj.1,.int .i64 yj.2]) m sizeOf99 f Z Z Z (Ao Z (Ao Z AF)) Z (lb Z) Z λw m=>AG ?_
     refine Ab f Z λa f=>AW 0 0 (ds:=[.int .i64 yj.1,.int .i64 yj.2]) m kA f Z Z Z Z Z λa f=>Cw (i:=yj) kpk 3 m oM Z hmp hz f Z Z Z λa f=>Ab f Z λa f=>l_o f (A4 (f.e Z) Z) λa f=>l_o f (A4 (f.e Z) Z) λa f=>Ac f Z λa f=>Ac f Z λa f=>AG ?_
     refine Ab f Z λa f=>Ab f Z λa f=> ?_
     cases hb:(Bc M yj).isSome
     ·skip
      refine As f hb λa f=>As f hb λa f=>As f hb λa f=>As f hb λa f=>As f hb λa f=>As f hb λa f=>l_o f (AS (f.e Z) hb (f.e Z)) λa f=>Aa ?_
      rw[hb,Bool.false_and] at hs
      refine Aj f Z Z ?_
      refine Am ?_
      obtain rfl:=sj hs
      refine Ap ?_
      refine Ai f Z Z Az λa f=>Ab f Z λa f=>Aa ?_
      exact⟨_,Z,f.k Z,m.tail⟩
     ·skip
      refine Ar f hb ?_
      refine Ab f Z λa f=>Ar f hb ?_
      refine Ab f Z λa f=>Ar f hb ?_
      refine AW 4 0 (ds:=[.int .i64 x.1,.int .i64 x.2]) m kA f Z Z Z Z Z λa f=>Ar f hb ?_
      refine Cw (i:=x) kpk 3 m oM Z hmp hz f Z Z Z λa f=>Ar f hb ?_
      refine Ai f Z Z A3 λa f=>Ar f hb ?_
      refine Ai f Z Z BZ λa f=>l_o f (AT (f.e Z) hb (f.e Z)) λa f=>Aa ?_
      rw[hb,Bool.true_and] at hs
      rcases Ae hs with⟨hc3,hs⟩|⟨hc3,hs⟩
      ·skip
       refine Al f Z hc3 ?_
       refine Af ?_
       refine AW 0 0 (ds:=[.int .i64 yj.1,.int .i64 yj.2]) m kA f Z Z Z Z Z λa f=>A7 4 0 (ds:=[.int .i64 yj.1,.int .i64 yj.2]) m sizeOf99 f Z Z Z (Ao Z (Ao Z AF)) Z (lb Z) Z λw m=>Aa ?_
       refine AE Z ?_
       obtain rfl:=sj hs
       obtain rfl:=hqi _ rfl
       exact⟨f.k Z,m.tail.tail⟩
      ·skip
       refine Aj f Z hc3 ?_
       refine Am ?_
       obtain rfl:=sj hs
       refine Ap ?_
       refine Ai f Z Z Az λa f=>Ab f Z λa f=>Aa ?_
       exact⟨_,Z,f.k Z,m.tail⟩
    ·skip
     refine Aj f Z hc2 ?_
     refine AE Z ?_
     obtain rfl:=sj hs
     obtain rfl:=hqi _ rfl
     exact⟨f.k Z,m.tail⟩
   ·skip
    clear f m oY
    rintro a w ⟨f,m⟩
    refine Ap ?_
    refine Ab f Z λa f=>AW 2 0 (ds:=[.int .i64 x'.1,.int .i64 x'.2]) m kA f Z Z Z Z Z λa f=>A5 f Z call143 (Wk.F m hr1) λv6 G6 Ho6 w hl6 m hQ6 a f=> ?_
    obtain⟨vR,itR,rfl,rfl,oR⟩:=hQ6
    have oO:=od2 hl6 oO
    refine By (R:=RawS) (xs:=[vR]) RawS.one m cT f Z Z Z (by decide) (All2.cons ⟨Z,Ow.one1 0 m oR Z,Ow.cells 0 m oR Z⟩ (All2.nil _)) λitS vS w a m oS f=> ?_
    have m:=m.fr 1
    have m:=m.fr 2
    refine l_append2 m oO oR oS cT Z (by decide) f Z Z Z hl' λitO vO w a m oO f=>Ac f Z λa f=>Aa ?_
    exact⟨_,Z,G6,itO,vO,gt hl4 (gt hl5 hl6),f.k Z,m,oO⟩
  ·skip
   refine Aj f Z hc1 ?_
   refine AE Z ?_
   obtain rfl:=sj hs
   obtain rfl:=hq _ rfl
   have m:Mem W G4 w (itO::H):=(m.eraseAt 1).eraseAt 1
   exact⟨G4,itO,vO,gt hl13 hl4,f.k Z,m,oO⟩
 ·skip
  clear f m oO
  rintro a w ⟨G4,itO,vO,hl4,f,m,oO⟩
  refine Af ?_
  refine Ab f Z λa f=>Ac f Z λa f=>Aa ?_
  refine Ax ?_
  exact⟨[vO],f.g Z,f.d,G4,[itO],hl4,m,vO,itO,Z,Z,oO,Ow2.notNil m oO hne⟩
end Go.Proofs.YtmkcbhidbdggiaaDoor
