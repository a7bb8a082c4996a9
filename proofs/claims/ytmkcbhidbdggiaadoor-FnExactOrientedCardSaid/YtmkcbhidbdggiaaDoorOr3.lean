/- Parts. -/
import Derived.Test.YtmkcbhidbdggiaaDoorOr2
import Derived.Test.YtmkcbhidbdggiaaDoorProg
import Derived.KernelRfl
set_option linter.unusedVariables false
set_option linter.unusedSimpArgs false
set_option maxRecDepth 100000
namespace Go.Proofs.YtmkcbhidbdggiaaDoor
open Go Go.Sx
open Go.Proofs.Tryd Go.Proofs.YtmkcbhidbdggiaaDoor.Tryd IntKind
variable {W w : World} {G : GH} {H : List Itm}
theorem Bq :BM prog 31:=isAgg31
theorem T27 :SlT prog 27 31 1 24 sn:=⟨underlying27,Tryd.t31,by kernel_rfl,by kernel_rfl,by kernel_rfl,by kernel_rfl⟩
theorem Bx :BM prog 27:=isAgg27
theorem CV :Agg prog 29 1:=⟨isAgg29,sizeOf29⟩
theorem Wk.i {v0:Value}{x0:LI}{x1:Int}(m:Mem W G w (H))(h0:R1 G v0 x0){y:Int}(hd:D.i x0 x1=some y):
  Calls prog 136 #[v0,(iv x1)] w (Res W G H (λ_ Ho v=>Ho=[]∧v=(iv y))):=by
 refine Ay (args:=[v0,(iv x1)]) (N:=12) [.tmp 4] func136 Z Z (lb Z) Z λa f=> ?_
 unfold D.i at hd
 refine Af ?_
 refine Ac f Z λa f=>AC ?_
 refine Ab f Z λa f=>Ab f Z λa f=>A5 underlying31 f Z Z h0 λa f=>Ai f Z Z AX λa f=>Ac f Z λa f=>Aa (Ag (Af ?_))
 refine Ab f Z λa f=>Ai f Z Z AI λa f=>Aa ?_
 rcases Ae hd with⟨aa,hd⟩|⟨aa,hd⟩
 ·refine Am f Z aa ?_
  refine Af ?_
  refine Ac f Z λa f=>Aa ?_
  refine As ?_
  obtain rfl:=sj hd
  exact⟨[(iv (-1))],f.g Z,f.d,_,[],gr,m,Z,Z⟩
 ·refine Aj f Z aa ?_
  refine An ?_
  refine Af ?_
  refine Ab f Z λa f=>Ac f Z λa f=>Aa ?_
  refine As ?_
  obtain rfl:=sj hd
  exact⟨[(iv (i64.wrap (x1-(x0.length:Int))))],f.g Z,f.d,_,[],gr,m,Z,Z⟩
theorem Wk.d0 {v0:Value}{x0:LL}{x1:Int}(m:Mem W G w (H))(h0:R2 G v0 x0){y:Int}(hd:D.d0 x0 x1=some y):
  Calls prog 87 #[v0,(iv x1)] w (Res W G H (λ_ Ho v=>Ho=[]∧v=(iv y))):=by
 refine Ay (args:=[v0,(iv x1)]) (N:=27) [.tmp 4] func87 Z Z (lb Z) Z λa f=> ?_
 unfold D.d0 at hd
 refine Af ?_
 refine Ac f Z λa f=>AC ?_
 refine Ab f Z λa f=>Ab f Z λa f=>A5 underlying27 f Z Z h0 λa f=>Ai f Z Z AX λa f=>Ac f Z λa f=>Aa (Ag (Af ?_))
 refine Ab f Z λa f=>Ai f Z Z AI λa f=>Aa ?_
 rcases Ae hd with⟨aa,hd⟩|⟨aa,hd⟩
 ·refine Am f Z aa ?_
  refine Af ?_
  refine Ac f Z λa f=>Aa ?_
  refine As ?_
  obtain rfl:=sj hd
  exact⟨[(iv (-1))],f.g Z,f.d,_,[],gr,m,Z,Z⟩
 ·refine Aj f Z aa ?_
  refine An ?_
  refine Ag (Af ?_)
  refine Ac f Z λa f=>Aa ?_
  have⟨ab,ac,hd⟩:=bind_some hd
  refine AL (λa w=>∃q_35':Int,ab= .inl q_35'∧∃ad:Int,ad=q_35'∧∃(ae:GH),GLe G ae∧Fr a 27 [(1,(iv ad))]∧Mem W ae w (H)) ?_ ?_
  ·refine Ak ?_
   refine AK (λaf a w=>∃ag:Int,∃ah:Int,(ag,ah)=af∧∃(ai:GH),GLe G ai∧Fr a 27 [(0,v0),(1,(iv ag)),(5,(iv ah))]∧Mem W ai w (H)) ac ⟨_,_,Z,_,gr,f.k Z,m⟩ ?_
   clear ac f m
   rintro af aj ak al a w ⟨ag,ah,rfl,ai,am,f,m⟩
   have h0:=rd2 am h0
   refine Ag (Af ?_)
   refine Ab f Z λa f=>Ab f Z λa f=>A5 underlying27 f Z Z h0 λa f=>Ai f Z Z AI λa f=>Aa ?_
   rcases Ae ak with⟨an,ak⟩|⟨an,ak⟩
   ·refine Am f Z an ?_
    refine An ?_
    refine Ag (Ak (Af ?_))
    refine Ab f Z λa f=>Ab f Z λa f=> ?_
    have⟨ao,ap,ak⟩:=bind_some ak
    refine Be T27 f Z Z Z h0 ap λaq ar a au av f=>AM m Bq f Z Z au λa f=>Ab f Z λa f=> ?_
    have⟨aw,ax,ak⟩:=bind_some ak
    refine Bz f Z call136 (Wk.i m av ax) λay w az m a f=>Ac f Z λa f=>AC ?_
    refine Ab f Z λa f=>Ai f Z Z AI λa f=>Aa ?_
    rcases Ae ak with⟨aA,ak⟩|⟨aA,ak⟩
    ·refine Am f Z aA ?_
     refine Af ?_
     refine Ac f Z λa f=>Aa ?_
     refine As ?_
     obtain rfl:=sj ak
     obtain rfl:=al _ rfl
     obtain rfl:=sj hd
     exact⟨[(iv (-1))],f.g Z,f.d,_,[],(gt am az),m,Z,Z⟩
    ·refine Aj f Z aA ?_
     refine An ?_
     refine Ao ?_
     refine Ab f Z λa f=>Ai f Z Z Az λa f=>Ac f Z λa f=>Aa ?_
     obtain rfl:=sj ak
     exact⟨_,Z,_,_,Z,_,(gt am az),f.k Z,m⟩
   ·refine Aj f Z an ?_
    refine AE Z ?_
    obtain rfl:=sj ak
    obtain rfl:=al _ rfl
    exact⟨_,Z,_,Z,_,am,f.k Z,m⟩
  ·rintro a w ⟨_,rfl,ad,rfl,ae,aB,f,m⟩
   refine Af ?_
   refine Ab f Z λa f=>Ac f Z λa f=>Aa ?_
   refine As ?_
   obtain rfl:=sj hd
   exact⟨[(iv ad)],f.g Z,f.d,_,[],aB,m,Z,Z⟩
theorem Wk.c0 {aa:Value}{ab:LL}{x1:Int}(m:Mem W G w (H))(ac:R2 G aa ab){y:Int}(hd:D.c0 ab x1=some y):
  Calls prog 29 #[(.agg #[aa]),(iv x1)] w (Res W G H (λ_ Ho v=>Ho=[]∧v=(iv y))):=by
 refine Ay (args:=[(.agg #[aa]),(iv x1)]) (N:=12) [.tmp 4] func29 Z Z (lb Z) Z λa f=> ?_
 unfold D.c0 at hd
 refine Af ?_
 refine BO (cs:=[aa]) m f Z Z Z λad w a m f=>Ac f Z λa f=>AC ?_
 refine Bk underlying43 Z sizeOf27 f Z λa f=>AO 0 0 m Bx f Z Z Z Z λa f=>Ab f Z λa f=> ?_
 have⟨ae,af,hd⟩:=bind_some hd
 refine Bz f Z call87 (Wk.d0 m ac af) λag w ah m a f=>Ac f Z λa f=>Aa (Ag (Af ?_))
 refine Ab f Z λa f=>Ai f Z Z AI λa f=>Aa ?_
 rcases Ae hd with⟨ai,hd⟩|⟨ai,hd⟩
 ·refine Am f Z ai ?_
  refine Af ?_
  refine Ac f Z λa f=>Aa ?_
  refine As ?_
  have m:Mem W ag w H:=Mem.drop (H':=[ib ad 43 [aa]]) m
  obtain rfl:=sj hd
  exact⟨[(iv (-1))],f.g Z,f.d,_,[],ah,m,Z,Z⟩
 ·refine Aj f Z ai ?_
  refine An ?_
  refine Af ?_
  refine Ab f Z λa f=>Ac f Z λa f=>Aa ?_
  refine As ?_
  have m:Mem W ag w H:=Mem.drop (H':=[ib ad 43 [aa]]) m
  obtain rfl:=sj hd
  exact⟨[(iv ae)],f.g Z,f.d,_,[],ah,m,Z,Z⟩
theorem Wk.j {v0:Value}{x0:LI}(m:Mem W G w (H))(h0:R1 G v0 x0){y:(LI)}(hd:D.j x0=some y):
  Calls prog 139 #[v0] w (Res W G H (λG' Ho v=>∃r0:Value,∃i0:Itm,Ho=[i0]∧r0=v∧Ow R0 2 G' i0 r0 y)):=by
 refine Ay (args:=[v0]) (N:=22) [.tmp 2] func139 Z Z (lb Z) Z λa f=> ?_
 unfold D.j at hd
 refine Af ?_
 refine Ac f Z λa f=>AC ?_
 refine Ab f Z λa f=>A5 underlying31 f Z Z h0 λa f=> ?_
 have⟨aa,ab,hd⟩:=bind_some hd
 refine DS (R:=R0) m T31 Z (by decide) Z f Z Z Z ab λac ad w a m ae f=>Ac f Z λa f=>Aa (Ag (Af ?_))
 refine Ac f Z λa f=>Aa ?_
 have⟨af,ag,hd⟩:=bind_some hd
 refine AL (λa w=>∃ah:LI,ah=af∧∃(ai:GH) (aj:Itm),GLe G ai∧Fr a 22 [(3,ad)]∧Mem W ai w (aj::H)∧Ow R0 2 ai aj ad ah) ?_ ?_
 ·refine Ak ?_
  refine AK (λak a w=>∃al:LI,∃am:Int,(al,am)=ak∧∃(an:GH) (ao:Itm),GLe G an∧Fr a 22 [(0,v0),(3,ad),(4,(iv am))]∧Mem W an w (ao::H)∧Ow R0 2 an ao ad al) ag ⟨_,_,Z,_,ac,gr,f.k Z,m,ae⟩ ?_
  clear ag f m
  rintro ak ap aq ar a w ⟨al,am,rfl,an,ao,au,f,m,av⟩
  have h0:=rd1 au h0
  refine Ag (Af ?_)
  refine Ab f Z λa f=>Ab f Z λa f=>A5 underlying31 f Z Z h0 λa f=>Ai f Z Z AI λa f=>Aa ?_
  rcases Ae aq with⟨aw,aq⟩|⟨aw,aq⟩
  ·refine Am f Z aw ?_
   refine An ?_
   refine Ag (Ak (Ao ?_))
   refine Ab f Z λa f=>Ab f Z λa f=>Ab f Z λa f=>Ab f Z λa f=> ?_
   have⟨ax,ay,aq⟩:=bind_some aq
   refine Be T31 f Z Z Z h0 ay λaz aA a aB aC f=> ?_
   subst aC
   refine AM m Pl2 f Z Z aB λa f=> ?_
   have⟨aD,aE,aq⟩:=bind_some aq
   refine B1 0 m av Z T31 f Z Z Z aE λaF a aG f=>B2 0 m av Z sizeOf2 f Z Z aG aE Z Z Z λaH w m aI=>Aa (Ao ?_)
   refine Ab f Z λa f=>Ai f Z Z Az λa f=>Ac f Z λa f=>Aa ?_
   obtain rfl:=sj aq
   exact⟨_,Z,_,_,Z,_,aH,au,f.k Z,m,aI⟩
  ·refine Aj f Z aw ?_
   refine AE Z ?_
   obtain rfl:=sj aq
   obtain rfl:=ar _ rfl
   exact⟨_,Z,_,ao,au,f.k Z,m,av⟩
 ·rintro a w ⟨ah,rfl,ai,aj,aJ,f,m,aK⟩
  refine Af ?_
  refine Ab f Z λa f=>Ac f Z λa f=>Aa ?_
  refine As ?_
  obtain rfl:=sj hd
  exact⟨[ad],f.g Z,f.d,_,[aj],aJ,m,_,_,Z,Z,aK⟩
theorem Wk.q0 {v0:Value}{x0:LL}(m:Mem W G w (H))(h0:R2 G v0 x0){y:(LL)}(hd:D.q0 x0=some y):
  Calls prog 92 #[v0] w (Res W G H (λG' Ho v=>∃r0:Value,∃i0:Itm,Ho=[i0]∧r0=v∧Ow2 R0 31 2 G' i0 r0 y)):=by
 refine Ay (args:=[v0]) (N:=23) [.tmp 2] func92 Z Z (lb Z) Z λa f=> ?_
 unfold D.q0 at hd
 refine Af ?_
 refine Ac f Z λa f=>AC ?_
 refine Ab f Z λa f=>A5 underlying27 f Z Z h0 λa f=> ?_
 have⟨aa,ab,hd⟩:=bind_some hd
 refine l_make2 (R:=R0) (t2:=2) m T27 (by decide) f Z Z Z ab λac ad w a m ae f=>Ac f Z λa f=>Aa (Ag (Af ?_))
 refine Ac f Z λa f=>Aa ?_
 have⟨af,ag,hd⟩:=bind_some hd
 refine AL (λa w=>∃ah:LL,ah=af∧∃(ai:GH) (aj:Itm),GLe G ai∧Fr a 23 [(3,ad)]∧Mem W ai w (aj::H)∧Ow2 R0 31 2 ai aj ad ah) ?_ ?_
 ·refine Ak ?_
  refine AK (λak a w=>∃al:LL,∃am:Int,(al,am)=ak∧∃(an:GH) (ao:Itm),GLe G an∧Fr a 23 [(0,v0),(3,ad),(4,(iv am))]∧Mem W an w (ao::H)∧Ow2 R0 31 2 an ao ad al) ag ⟨_,_,Z,_,ac,gr,f.k Z,m,ae⟩ ?_
  clear ag f m
  rintro ak ap aq ar a w ⟨al,am,rfl,an,ao,au,f,m,av⟩
  have h0:=rd2 au h0
  refine Ag (Af ?_)
  refine Ab f Z λa f=>Ab f Z λa f=>A5 underlying27 f Z Z h0 λa f=>Ai f Z Z AI λa f=>Aa ?_
  rcases Ae aq with⟨aw,aq⟩|⟨aw,aq⟩
  ·refine Am f Z aw ?_
   refine An ?_
   refine Ag (Ak (Ao ?_))
   refine Ab f Z λa f=>Ab f Z λa f=>Ab f Z λa f=>Ab f Z λa f=> ?_
   have⟨ax,ay,aq⟩:=bind_some aq
   refine Be T27 f Z Z Z h0 ay λaz aA a aB aC f=>AM m Bq f Z Z aB λa f=> ?_
   have⟨aD,aE,aq⟩:=bind_some aq
   refine A1 f Z call139 (Wk.j m aC aE) λaF aG aH w aI m aJ a f=> ?_
   obtain⟨aK,aL,rfl,rfl,aM⟩:=aJ
   have av:=od2 aI av
   have⟨aN,aO,aq⟩:=bind_some aq
   refine l_own2_at 1 m av Z T27 f Z Z Z aO λaP a aQ f=> ?_
   have m:=m.fr 1
   refine l_own2_store m av aM sizeOf31 f Z Z aQ aO λaR w m aS=>Aa (Ao ?_)
   refine Ab f Z λa f=>Ai f Z Z Az λa f=>Ac f Z λa f=>Aa ?_
   obtain rfl:=sj aq
   exact⟨_,Z,_,_,Z,_,aR,(gt au aI),f.k Z,m,aS⟩
  ·refine Aj f Z aw ?_
   refine AE Z ?_
   obtain rfl:=sj aq
   obtain rfl:=ar _ rfl
   exact⟨_,Z,_,ao,au,f.k Z,m,av⟩
 ·rintro a w ⟨ah,rfl,ai,aj,aT,f,m,aU⟩
  refine Af ?_
  refine Ab f Z λa f=>Ac f Z λa f=>Aa ?_
  refine As ?_
  obtain rfl:=sj hd
  exact⟨[ad],f.g Z,f.d,_,[aj],aT,m,_,_,Z,Z,aU⟩
theorem Wk.r {aa:Value}{ab:LL}(m:Mem W G w (H))(ac:R2 G aa ab){y:(LL)}(hd:D.r ab=some y):
  Calls prog 31 #[(.agg #[aa])] w (Res W G H (λG' Ho v=>∃r0:Value,∃i0:Itm,Ho=[i0]∧v=(.agg #[r0])∧Ow2 R0 31 2 G' i0 r0 y)):=by
 refine Ay (args:=[(.agg #[aa])]) (N:=9) [.cell 2 29] func31 Z Z (lb Z) Z λa f=> ?_
 unfold D.r at hd
 refine Af ?_
 refine BO (cs:=[aa]) m f Z Z Z λad w a m f=>BT (cs:=[sn]) zeroValue29 m f Z Z λae w a m f=>AC ?_
 refine BT (cs:=[sn]) zeroValue29 m f Z Z λaf w a m f=>AC ?_
 refine Bk underlying43 Z sizeOf27 f Z λa f=>AO 2 0 m Bx f Z Z Z Z λa f=> ?_
 have⟨ag,ah,hd⟩:=bind_some hd
 refine A1 f Z call92 (Wk.q0 m ac ah) λai aj ak w al m am a f=> ?_
 obtain⟨an,ao,rfl,rfl,ap⟩:=am
 refine Bk underlying29 Z sizeOf27 f Z λa f=>Bb 1 0 (ds:=[an]) m sizeOf27 f Z Z (Ow2.cells 0 m ap Z) (Ap (Ow2.one1 0 m ap Z) AG) Z (lb Z) Z λw m=>AC ?_
 refine Bp 1 0 (ds:=[an]) m CV f Z Z Z Z Z λa f=>Bb 2 0 (ds:=[an]) m sizeOf29 f Z Z Z (Ap (Ow2.one1 0 m ap Z) AG) Z (lb Z) Z λw m=>Aa ?_
 refine As ?_
 have aq:=rr_agg (P:=prog) 2 m CV f (s:=2) rfl rfl rfl
 have m:=m.eraseAt 3
 have m:=m.eraseAt 2
 have m:=m.eraseAt 1
 obtain rfl:=sj hd
 exact⟨[(.agg #[an])],⟨aq,trivial⟩,f.d,_,[ao],al,m,_,_,Z,Z,ap⟩
theorem Wk.t0 {aa:Value}{ab:LL}(m:Mem W G w (H))(ac:R2 G aa ab){y:Int}(hd:D.t0 ab=some y):
  Calls prog 47 #[(.agg #[aa])] w (Res W G H (λ_ Ho v=>Ho=[]∧v=(iv y))):=by
 refine Ay (args:=[(.agg #[aa])]) (N:=6) [.tmp 2] func47 Z Z (lb Z) Z λa f=> ?_
 unfold D.t0 at hd
 refine Af ?_
 refine BO (cs:=[aa]) m f Z Z Z λad w a m f=>Ac f Z λa f=>AC ?_
 refine Bk underlying29 Z sizeOf27 f Z λa f=>AO 0 0 m Bx f Z Z Z Z λa f=>A5 underlying27 f Z Z ac λa f=>Ac f Z λa f=>Aa ?_
 refine As ?_
 have m:Mem W G w H:=Mem.drop (H':=[ib ad 29 [aa]]) m
 obtain rfl:=sj hd
 exact⟨[(iv (ab.length:Int))],f.g Z,f.d,_,[],gr,m,Z,Z⟩
theorem Wk.e {x0 x1 x2:Int}(m:Mem W G w (H)){y:Bool}(hd:D.e x0 x1 x2=some y):
  Calls prog 105 #[(iv x0),(iv x1),(iv x2)] w (Res W G H (λ_ Ho v=>Ho=[]∧v=(.bool y))):=by
 refine Ay (args:=[(iv x0),(iv x1),(iv x2)]) (N:=15) [.tmp 6] func105 Z Z (lb Z) Z λa f=> ?_
 unfold D.e at hd
 refine Af ?_
 refine Ac f Z λa f=>AC ?_
 refine Ab f Z λa f=>Ab f Z λa f=>Ai f Z Z Cb λa f=>Ab f Z λa f=> ?_
 refine BJ 4 (λa w=>∃aa,GLe G aa∧Mem W aa w (H)∧Fr a 15 [(0,(iv x0)),(1,(iv x1)),(2,(iv x2)),(7,(iv x0)),(8,(iv x1)),(9,(.bool (decide (x1≤x0)))),(10,(.bool (decide (x1≤x0)))),(14,(.bool ((decide (x1≤x0))&&(decide (x0≤x2)))))]) ?_ ?_
 ·rcases Bool.eq_false_or_eq_true (decide (x1≤x0)) with ab|ab
  ·refine AH f ab ?_
   refine Ab f Z λa f=>AH f ab ?_
   refine Ab f Z λa f=>AH f ab ?_
   refine Ai f Z Z CN λa f=>l_o f (A7 (f.e Z) ab (f.e Z)) λa f=> ?_
   exact⟨_,gr,m,f.weak ⟨Z,Z,Z,Z,Z,Z,Z,by rw[ab];rfl,trivial⟩⟩
  ·refine AJ f ab λa f=> ?_
   refine AJ f ab λa f=>AJ f ab λa f=>l_o f (A8 (f.e Z) ab (f.e Z)) λa f=> ?_
   exact⟨_,gr,m,f.weak ⟨Z,Z,Z,Z,Z,Z,Z,by rw[ab];rfl,trivial⟩⟩
 ·rintro a w ⟨aa,ac,m,f⟩
  refine Ac f Z λa f=>Aa ?_
  refine As ?_
  obtain rfl:=sj hd
  exact⟨[(.bool ((decide (x1≤x0))&&(decide (x0≤x2))))],f.g Z,f.d,_,[],ac,m,Z,Z⟩
theorem Wk.g0 {v0:Value}{x0:LI}{x1:Int}(m:Mem W G w (H))(h0:R1 G v0 x0){y:Bool}(hd:D.g0 x0 x1=some y):
  Calls prog 113 #[v0,(iv x1)] w (Res W G H (λ_ Ho v=>Ho=[]∧v=(.bool y))):=by
 refine Ay (args:=[v0,(iv x1)]) (N:=40) [.tmp 4] func113 Z Z (lb Z) Z λa f=> ?_
 unfold D.g0 at hd
 refine Af ?_
 refine Ac f Z λa f=>Aa (Ag (Af ?_))
 refine Ab f Z λa f=>A5 underlying31 f Z Z h0 λa f=>Ab f Z λa f=>Ai f Z Z C4 λa f=>Aa ?_
 rcases Ae hd with⟨aa,hd⟩|⟨aa,hd⟩
 ·refine Am f Z aa ?_
  refine Af ?_
  refine Ac f Z λa f=>Aa ?_
  refine As ?_
  obtain rfl:=sj hd
  exact⟨[(.bool false)],f.g Z,f.d,_,[],gr,m,Z,Z⟩
 ·refine Aj f Z aa ?_
  refine An ?_
  refine Ag (Af ?_)
  refine Ac f Z λa f=>Aa ?_
  have⟨ab,ac,hd⟩:=bind_some hd
  refine AL (λa w=>∃q_150':Unit,ab= .inl q_150'∧∃(ad:GH),GLe G ad∧Fr a 40 []∧Mem W ad w (H)) ?_ ?_
  ·refine Ak ?_
   refine AK (λae a w=>∃af:Int,af=ae∧∃(ag:GH),GLe G ag∧Fr a 40 [(0,v0),(1,(iv x1)),(5,(iv af))]∧Mem W ag w (H)) ac ⟨_,Z,_,gr,f.k Z,m⟩ ?_
   clear ac f m
   rintro ae ah ai aj a w ⟨af,rfl,ag,ak,f,m⟩
   have h0:=rd1 ak h0
   refine Ag (Af ?_)
   refine Ab f Z λa f=>Ab f Z λa f=>A5 underlying31 f Z Z h0 λa f=>Ai f Z Z AI λa f=>Aa ?_
   rcases Ae ai with⟨al,ai⟩|⟨al,ai⟩
   ·refine Am f Z al ?_
    refine An ?_
    refine Ag (Ak (Ag ?_))
    refine A9 24 AN (by kernel_rfl) m ?_
    refine Ah 0 24 Z f Z λa f=>Ah 1 24 Z f Z λa f=> ?_
    have⟨am,an,ai⟩:=bind_some ai
    refine BC 2 24 T31 h0 an Z f Z Z λao ap a aq ar f=> ?_
    subst ar
    refine BB 3 24 Pl2 aq Z f Z λa f=>Ah 4 24 Z f Z λa f=>q_p 5 24 Z f (λ_=>AR (f.e Z) (f.e Z) AX) λa f=> ?_
    have⟨au,av,ai⟩:=bind_some ai
    refine C2 (i:=6) 24 Z (by kernel_rfl) Z f Z Z Z call105 (λ_ _ w aw m=>Wk.e m av) λa f=>q_p 7 24 Z f (λ_=>Bt (f.e Z)) λa f=>Ah 8 24 Z f Z λa f=> ?_
    have⟨ax,ay,ai⟩:=bind_some ai
    refine CM (fuel':=0) (listed':= #[true,true,true,true,true,true,true,true,true,true,true,true,true,true,true,true,true,true,true,true,true,true,true,true]) (λa=>Fr a 40 [(0,v0),(1,(iv x1)),(5,(iv af)),(13,(.bool (decide (af<(x0.length:Int))))),(16,v0),(17,(iv af)),(18,ao),(19,(iv am)),(20,(iv x1)),(21,(iv (i64.wrap (x1-1)))),(22,(.bool au)),(23,(.bool (!au))),(24,(.bool (!au))),(39,(.bool ax))]) ?_ ?_
    ·intro a f
     refine AY λaz w aA m=>Aa ?_
     rcases Ae ai with⟨aB,ai⟩|⟨aB,ai⟩
     ·refine Am f Z aB ?_
      refine Af ?_
      refine Ac f Z λa f=>Aa ?_
      refine As ?_
      obtain rfl:=sj ai
      obtain rfl:=aj _ rfl
      obtain rfl:=sj hd
      exact⟨[(.bool false)],f.g Z,f.d,_,[],(gt ak aA),m,Z,Z⟩
     ·refine Aj f Z aB ?_
      refine An ?_
      refine Ao ?_
      refine Ab f Z λa f=>Ai f Z Z Az λa f=>Ac f Z λa f=>Aa ?_
      obtain rfl:=sj ai
      exact⟨_,Z,_,Z,_,(gt ak aA),f.k Z,m⟩
    ·intro aC
     rcases Ae ay with⟨aD,ay⟩|⟨aD,ay⟩
     ·refine Au 9 24 Z f aD λa f=> ?_
      refine Au 10 24 Z f aD λa f=>Au 11 24 Z f aD λa f=>q_nu 12 24 Z f λa f=>q_nu 13 24 Z f λa f=>q_nu 14 24 Z f λa f=>q_nu 15 24 Z f λa f=>q_nu 16 24 Z f λa f=>q_nu 17 24 Z f λa f=>q_nu 18 24 Z f λa f=>q_nu 19 24 Z f λa f=>q_nu 20 24 Z f λa f=>q_nu 21 24 Z f λa f=>Au 22 24 Z f aD λa f=>q_p 23 24 Z f (λ_=>A7 (f.e Z) aD (f.e Z)) λa f=> ?_
      obtain rfl:=sj ay
      exact aC _ (f.k Z)
     ·refine Ah (hw:=wo f aD) 9 24 Z f Z λa f=> ?_
      refine q_p (hw:=wo f aD) 10 24 Z f (λ_=>AR (f.e Z) (f.e Z) C4) λa f=>Ah (hw:=wo f aD) 11 24 Z f Z λa f=> ?_
      have⟨aE,aF,ay⟩:=bind_some ay
      refine CM (fuel':=1) (listed':= #[true,true,true,true,true,true,true,true,true,true,true,true,true,true,true,true,true,true,true,true,true,true,true,false]) (λa=>Fr a 40 [(0,v0),(1,(iv x1)),(5,(iv af)),(13,(.bool (decide (af<(x0.length:Int))))),(16,v0),(17,(iv af)),(18,ao),(19,(iv am)),(20,(iv x1)),(21,(iv (i64.wrap (x1-1)))),(22,(.bool au)),(23,(.bool (!au))),(24,(.bool (!au))),(25,(iv af)),(26,(.bool (decide ((0:Int)<af)))),(27,(.bool (decide ((0:Int)<af)))),(38,(.bool aE))]) ?_ ?_
      ·intro a f
       refine q_p 23 24 Z f (λ_=>A8 (f.e Z) aD (f.e Z)) λa f=> ?_
       obtain rfl:=sj ay
       exact aC _ (f.k Z)
      ·intro aG
       rcases Ae aF with⟨aH,aF⟩|⟨aH,aF⟩
       ·refine Ah (hw:=wo f aH) 12 24 Z f Z λa f=> ?_
        refine Ah (hw:=wo f aH) 13 24 Z f Z λa f=> ?_
        have⟨aI,aJ,aF⟩:=bind_some aF
        refine BC (hw:=wo f aH) 14 24 T31 h0 aJ Z f Z Z λaK aL a aM aN f=> ?_
        subst aN
        refine BB (hw:=wo f aH) 15 24 Pl2 aM Z f Z λa f=>Ah (hw:=wo f aH) 16 24 Z f Z λa f=>Ah (hw:=wo f aH) 17 24 Z f Z λa f=>q_p (hw:=wo f aH) 18 24 Z f (λ_=>AR (f.e Z) (f.e Z) AX) λa f=> ?_
        have⟨aO,aP,aF⟩:=bind_some aF
        refine BC (hw:=wo f aH) 19 24 T31 h0 aP Z f Z Z λaQ aR a aS aT f=> ?_
        subst aT
        refine BB (hw:=wo f aH) 20 24 Pl2 aS Z f Z λa f=>q_p (hw:=wo f aH) 21 24 Z f (λ_=>AR (f.e Z) (f.e Z) CN) λa f=>q_p (hw:=wo f aD) 22 24 Z f (λ_=>A7 (f.e Z) aH (f.e Z)) λa f=> ?_
        obtain rfl:=sj aF
        exact aG _ (f.k Z)
       ·refine Au 12 24 Z f aH λa f=> ?_
        refine Au 13 24 Z f aH λa f=>Au 14 24 Z f aH λa f=>Au 15 24 Z f aH λa f=>Au 16 24 Z f aH λa f=>Au 17 24 Z f aH λa f=>Au 18 24 Z f aH λa f=>Au 19 24 Z f aH λa f=>Au 20 24 Z f aH λa f=>Au 21 24 Z f aH λa f=>q_p (hw:=wo f aD) 22 24 Z f (λ_=>A8 (f.e Z) aH (f.e Z)) λa f=> ?_
        obtain rfl:=sj aF
        exact aG _ (f.k Z)
   ·refine Aj f Z al ?_
    refine AE Z ?_
    obtain rfl:=sj ai
    obtain rfl:=aj _ rfl
    exact⟨_,Z,_,ak,f.weak trivial,m⟩
  ·rintro a w ⟨_,rfl,ad,aU,f,m⟩
   refine Af ?_
   refine Ac f Z λa f=>Aa ?_
   refine As ?_
   obtain rfl:=sj hd
   exact⟨[(.bool true)],f.g Z,f.d,_,[],aU,m,Z,Z⟩
theorem Wk.k {v0:Value}{x0:LI}{x1:Int}(m:Mem W G w (H))(h0:R1 G v0 x0){y:Bool}(hd:D.k x0 x1=some y):
  Calls prog 115 #[v0,(iv x1)] w (Res W G H (λ_ Ho v=>Ho=[]∧v=(.bool y))):=by
 refine Ay (args:=[v0,(iv x1)]) (N:=18) [.tmp 4] func115 Z Z (lb Z) Z λa f=> ?_
 unfold D.k at hd
 refine Af ?_
 refine Ac f Z λa f=>Aa (Ag (Af ?_))
 refine Ac f Z λa f=>Aa ?_
 have⟨aa,ab,hd⟩:=bind_some hd
 refine AL (λa w=>∃q_19':Unit,aa= .inl q_19'∧∃(ac:GH),GLe G ac∧Fr a 18 []∧Mem W ac w (H)) ?_ ?_
 ·refine Ak ?_
  refine AK (λad a w=>∃ae:Int,ae=ad∧∃(af:GH),GLe G af∧Fr a 18 [(0,v0),(1,(iv x1)),(5,(iv ae))]∧Mem W af w (H)) ab ⟨_,Z,_,gr,f.k Z,m⟩ ?_
  clear ab f m
  rintro ad ag ah ai a w ⟨ae,rfl,af,aj,f,m⟩
  have h0:=rd1 aj h0
  refine Ag (Af ?_)
  refine Ab f Z λa f=>Ab f Z λa f=>A5 underlying31 f Z Z h0 λa f=>Ai f Z Z AI λa f=>Aa ?_
  rcases Ae ah with⟨ak,ah⟩|⟨ak,ah⟩
  ·refine Am f Z ak ?_
   refine An ?_
   refine Ag (Ak (Af ?_))
   refine Ab f Z λa f=>Ab f Z λa f=> ?_
   have⟨al,am,ah⟩:=bind_some ah
   refine Be T31 f Z Z Z h0 am λan ao a ap aq f=> ?_
   subst aq
   refine AM m Pl2 f Z Z ap λa f=>Ab f Z λa f=>Ai f Z Z B5 λa f=>Aa ?_
   rcases Ae ah with⟨ar,ah⟩|⟨ar,ah⟩
   ·refine Am f Z ar ?_
    refine Af ?_
    refine Ac f Z λa f=>Aa ?_
    refine As ?_
    obtain rfl:=sj ah
    obtain rfl:=ai _ rfl
    obtain rfl:=sj hd
    exact⟨[(.bool true)],f.g Z,f.d,_,[],aj,m,Z,Z⟩
   ·refine Aj f Z ar ?_
    refine An ?_
    refine Ao ?_
    refine Ab f Z λa f=>Ai f Z Z Az λa f=>Ac f Z λa f=>Aa ?_
    obtain rfl:=sj ah
    exact⟨_,Z,_,Z,_,aj,f.k Z,m⟩
  ·refine Aj f Z ak ?_
   refine AE Z ?_
   obtain rfl:=sj ah
   obtain rfl:=ai _ rfl
   exact⟨_,Z,_,aj,f.weak trivial,m⟩
 ·rintro a w ⟨_,rfl,ac,au,f,m⟩
  refine Af ?_
  refine Ac f Z λa f=>Aa ?_
  refine As ?_
  obtain rfl:=sj hd
  exact⟨[(.bool false)],f.g Z,f.d,_,[],au,m,Z,Z⟩
theorem Wk.o0 {aa:Value}{ab:LL}(m:Mem W G w (H))(ac:R2 G aa ab){y:Bool}(hd:D.o0 ab=some y):
  Calls prog 48 #[(.agg #[aa])] w (Res W G H (λ_ Ho v=>Ho=[]∧v=(.bool y))):=by
 refine Ay (args:=[(.agg #[aa])]) (N:=64) [.tmp 2] func48 Z Z (lb Z) Z λa f=> ?_
 unfold D.o0 at hd
 refine Af ?_
 refine BO (cs:=[aa]) m f Z Z Z λad w a m f=>Ac f Z λa f=>AC ?_
 refine Bp 0 0 (ds:=[aa]) m CV f Z Z Z Z Z λa f=> ?_
 have⟨ae,af,hd⟩:=bind_some hd
 refine Bz f Z call47 (Wk.t0 m ac af) λag w ah m a f=> ?_
 have ac:=rd2 ah ac
 refine Ac f Z λa f=>Aa (Ag (Af ?_))
 refine Ab f Z λa f=> ?_
 have⟨ai,aj,hd⟩:=bind_some hd
 refine Bz f Z call105 (Wk.e m aj) λak w al m a f=> ?_
 have ac:=rd2 al ac
 refine l_o f (Bt (f.e Z)) λa f=>Aa ?_
 rcases Ae hd with⟨am,hd⟩|⟨am,hd⟩
 ·refine Am f Z am ?_
  refine Af ?_
  refine Ac f Z λa f=>Aa ?_
  refine As ?_
  have m:Mem W ak w H:=Mem.drop (H':=[ib ad 29 [aa]]) m
  obtain rfl:=sj hd
  exact⟨[(.bool false)],f.g Z,f.d,_,[],(gt ah al),m,Z,Z⟩
 ·refine Aj f Z am ?_
  refine An ?_
  refine Ag (Af ?_)
  refine Ac f Z λa f=>Aa ?_
  have⟨an,ao,hd⟩:=bind_some hd
  refine AL (λa w=>∃q_138':Unit,an= .inl q_138'∧∃(ap:GH),GLe ak ap∧Fr a 64 [(1,(pb ad)),(3,(iv ae))]∧Mem W ap w (ib ad 29 [aa]::H)) ?_ ?_
  ·refine Ak ?_
   refine AK (λaq a w=>∃ar:Int,ar=aq∧∃(au:GH),GLe ak au∧Fr a 64 [(1,(pb ad)),(3,(iv ae)),(4,(iv ar))]∧Mem W au w (ib ad 29 [aa]::H)) ao ⟨_,Z,_,gr,f.k Z,m⟩ ?_
   clear ao f m
   rintro aq av aw ax a w ⟨ar,rfl,au,ay,f,m⟩
   have ac:=rd2 ay ac
   refine Ag (Af ?_)
   refine Ab f Z λa f=>Ab f Z λa f=>Ai f Z Z AI λa f=>Aa ?_
   rcases Ae aw with⟨az,aw⟩|⟨az,aw⟩
   ·refine Am f Z az ?_
    refine An ?_
    refine Ag (Ak (Af ?_))
    refine Bk underlying29 Z sizeOf27 f Z λa f=>AO 0 0 m Bx f Z Z Z Z λa f=>Ab f Z λa f=> ?_
    have⟨aA,aB,aw⟩:=bind_some aw
    refine Be T27 f Z Z Z ac aB λaC aD a aE aF f=>AM m Bq f Z Z aE λa f=>Ab f Z λa f=> ?_
    have⟨aG,aH,aw⟩:=bind_some aw
    refine Bz f Z call113 (Wk.g0 m aF aH) λaI w aJ m a f=> ?_
    have ac:=rd2 aJ ac
    refine l_o f (Bt (f.e Z)) λa f=>Ab f Z λa f=> ?_
    have⟨aK,aL,aw⟩:=bind_some aw
    refine BJ 8 (λa w=>∃aM,GLe aI aM∧Mem W aM w (ib ad 29 [aa]::H)∧Fr a 64 [(1,(pb ad)),(3,(iv ae)),(4,(iv ar)),(14,(.bool (decide (ar<ae)))),(17,(pb ad)),(18,aa),(19,(iv ar)),(20,aC),(21,aD),(22,(iv ae)),(23,(.bool aG)),(24,(.bool (!aG))),(25,(.bool (!aG))),(33,(.bool aK))]) ?_ ?_
    ·rcases Ae aL with⟨aN,aL⟩|⟨aN,aL⟩
     ·refine AJ f aN λa f=> ?_
      refine AJ f aN λa f=>AJ f aN λa f=>AJ f aN λa f=>AJ f aN λa f=>AJ f aN λa f=>AJ f aN λa f=>l_o f (A7 (f.e Z) aN (f.e Z)) λa f=> ?_
      obtain rfl:=sj aL
      exact⟨_,gr,m,f.k Z⟩
     ·refine AH f aN ?_
      refine Bk underlying29 Z sizeOf27 f Z λa f=>AH f aN ?_
      refine AO 0 0 m Bx f Z Z Z Z λa f=>AH f aN ?_
      refine Ab f Z λa f=>AH f aN ?_
      have⟨aO,aP,aL⟩:=bind_some aL
      refine Be T27 f Z Z Z ac aP λaQ aR a aS aT f=>AH f aN ?_
      refine AM m Bq f Z Z aS λa f=>AH f aN ?_
      refine Ab f Z λa f=>AH f aN ?_
      have⟨aU,aV,aL⟩:=bind_some aL
      refine Bz f Z call115 (Wk.k m aT aV) λaW w aX m a f=>l_o f (A8 (f.e Z) aN (f.e Z)) λa f=> ?_
      obtain rfl:=sj aL
      exact⟨_,aX,m,f.k Z⟩
    ·rintro a w ⟨aM,aY,m,f⟩
     refine Aa ?_
     rcases Ae aw with⟨aZ,aw⟩|⟨aZ,aw⟩
     ·refine Am f Z aZ ?_
      refine Af ?_
      refine Ac f Z λa f=>Aa ?_
      refine As ?_
      have m:Mem W aM w H:=Mem.drop (H':=[ib ad 29 [aa]]) m
      obtain rfl:=sj aw
      obtain rfl:=ax _ rfl
      obtain rfl:=sj hd
      exact⟨[(.bool false)],f.g Z,f.d,_,[],(gt ah (gt al (gt ay (gt aJ aY)))),m,Z,Z⟩
     ·refine Aj f Z aZ ?_
      refine An ?_
      refine Ao ?_
      refine Ab f Z λa f=>Ai f Z Z Az λa f=>Ac f Z λa f=>Aa ?_
      obtain rfl:=sj aw
      exact⟨_,Z,_,Z,_,(gt ay (gt aJ aY)),f.k Z,m⟩
   ·refine Aj f Z az ?_
    refine AE Z ?_
    obtain rfl:=sj aw
    obtain rfl:=ax _ rfl
    exact⟨_,Z,_,ay,f.k Z,m⟩
  ·rintro a w ⟨_,rfl,ap,a0,f,m⟩
   have ac:=rd2 a0 ac
   refine Ag (Af ?_)
   refine Ac f Z λa f=>Aa ?_
   have⟨a1,a2,hd⟩:=bind_some hd
   refine AL (λa w=>∃q_545':Unit,a1= .inl q_545'∧∃(a3:GH),GLe ap a3∧Fr a 64 []∧Mem W a3 w (H)) ?_ ?_
   ·refine Ak ?_
    refine AK (λa4 a w=>∃a5:Int,a5=a4∧∃(a6:GH),GLe ap a6∧Fr a 64 [(1,(pb ad)),(3,(iv ae)),(5,(iv a5))]∧Mem W a6 w (ib ad 29 [aa]::H)) a2 ⟨_,Z,_,gr,f.k Z,m⟩ ?_
    clear a2 f m
    rintro a4 a7 a8 a9 a w ⟨a5,rfl,a6,ba,f,m⟩
    have ac:=rd2 ba ac
    refine Ag (Af ?_)
    refine Ab f Z λa f=>Ab f Z λa f=>Ai f Z Z AI λa f=>Aa ?_
    rcases Ae a8 with⟨bb,a8⟩|⟨bb,a8⟩
    ·refine Am f Z bb ?_
     refine An ?_
     refine Ag (Ak (Af ?_))
     refine Ac f Z λa f=>Aa ?_
     have⟨bc,bd,a8⟩:=bind_some a8
     refine AL (λa w=>∃q_759':Unit,bc= .inl q_759'∧∃(be:GH),GLe a6 be∧Fr a 64 [(1,(pb ad)),(3,(iv ae)),(5,(iv a5))]∧Mem W be w (ib ad 29 [aa]::H)) ?_ ?_
     ·refine Ak ?_
      refine AK (λbf a w=>∃bg:Int,bg=bf∧∃(bh:GH),GLe a6 bh∧Fr a 64 [(1,(pb ad)),(3,(iv ae)),(5,(iv a5)),(6,(iv bg))]∧Mem W bh w (ib ad 29 [aa]::H)) bd ⟨_,Z,_,gr,f.k Z,m⟩ ?_
      clear bd f m
      rintro bf bi bj bk a w ⟨bg,rfl,bh,bl,f,m⟩
      have ac:=rd2 bl ac
      refine Ag (Af ?_)
      refine Ab f Z λa f=>Bk underlying29 Z sizeOf27 f Z λa f=>AO 0 0 m Bx f Z Z Z Z λa f=>Ab f Z λa f=> ?_
      have⟨bm,bn,bj⟩:=bind_some bj
      refine Be T27 f Z Z Z ac bn λbo bp a bq br f=>AM m Bq f Z Z bq λa f=>A5 underlying31 f Z Z br λa f=>Ai f Z Z AI λa f=>Aa ?_
      rcases Ae bj with⟨bs,bj⟩|⟨bs,bj⟩
      ·refine Am f Z bs ?_
       refine An ?_
       refine Ag (Ak (Ag ?_))
       refine A9 15 AN (by kernel_rfl) m ?_
       refine Dc 0 15 underlying29 Z sizeOf27 Z f Z λa f=>Cd 1 15 0 Bx Z Z Z f Z λa f=>Dc 2 15 underlying29 Z sizeOf27 Z f Z λa f=>Cd 3 15 0 Bx Z Z Z f Z λa f=>Ah 4 15 Z f Z λa f=> ?_
       have⟨bt,bu,bj⟩:=bind_some bj
       refine BC 5 15 T27 ac bu Z f Z Z λbv bw a bx bz f=>BB 6 15 Bq bx Z f Z λa f=>Ah 7 15 Z f Z λa f=> ?_
       have⟨bA,bB,bj⟩:=bind_some bj
       refine BC 8 15 T31 bz bB Z f Z Z λbC bD a bE bF f=> ?_
       subst bF
       refine BB 9 15 Pl2 bE Z f Z λa f=> ?_
       have⟨bG,bH,bj⟩:=bind_some bj
       refine BC 10 15 T27 ac bH Z f Z Z λbI bJ a bK bL f=>BB 11 15 Bq bK Z f Z λa f=>Ah 12 15 Z f Z λa f=> ?_
       have⟨bM,bN,bj⟩:=bind_some bj
       refine C2 (i:=13) 15 Z (by kernel_rfl) Z f Z Z Z call115 (λ_ _ w bO m=>Wk.k m (rd1 bO bL) bN) λa f=>q_p 14 15 Z f (λ_=>Bt (f.e Z)) λa f=>AY λbP w bQ m=>Aa ?_
       rcases Ae bj with⟨bR,bj⟩|⟨bR,bj⟩
       ·refine Am f Z bR ?_
        refine Af ?_
        refine Ac f Z λa f=>Aa ?_
        refine As ?_
        have m:Mem W bP w H:=Mem.drop (H':=[ib ad 29 [aa]]) m
        obtain rfl:=sj bj
        obtain rfl:=bk _ rfl
        obtain rfl:=sj a8
        obtain rfl:=a9 _ rfl
        obtain rfl:=sj hd
        exact⟨[(.bool false)],f.g Z,f.d,_,[],(gt ah (gt al (gt a0 (gt ba (gt bl bQ))))),m,Z,Z⟩
       ·refine Aj f Z bR ?_
        refine An ?_
        refine Ao ?_
        refine Ab f Z λa f=>Ai f Z Z Az λa f=>Ac f Z λa f=>Aa ?_
        obtain rfl:=sj bj
        exact⟨_,Z,_,Z,_,(gt bl bQ),f.k Z,m⟩
      ·refine Aj f Z bs ?_
       refine AE Z ?_
       obtain rfl:=sj bj
       obtain rfl:=bk _ rfl
       exact⟨_,Z,_,bl,f.k Z,m⟩
     ·rintro a w ⟨_,rfl,be,bS,f,m⟩
      refine Ao ?_
      refine Ab f Z λa f=>Ai f Z Z Az λa f=>Ac f Z λa f=>Aa ?_
      obtain rfl:=sj a8
      exact⟨_,Z,_,Z,_,(gt ba bS),f.k Z,m⟩
    ·refine Aj f Z bb ?_
     refine AE Z ?_
     have m:Mem W a6 w H:=Mem.drop (H':=[ib ad 29 [aa]]) m
     obtain rfl:=sj a8
     obtain rfl:=a9 _ rfl
     exact⟨_,Z,_,ba,f.weak trivial,m⟩
   ·rintro a w ⟨_,rfl,a3,bT,f,m⟩
    refine Af ?_
    refine Ac f Z λa f=>Aa ?_
    refine As ?_
    obtain rfl:=sj hd
    exact⟨[(.bool true)],f.g Z,f.d,_,[],(gt ah (gt al (gt a0 bT))),m,Z,Z⟩
theorem Wk.m0 {v0 v1:Value}{x0 x1:LI}(m:Mem W G w (H))(h0:R1 G v0 x0)(h1:R1 G v1 x1){y:Bool}(hd:D.m0 x0 x1=some y):
  Calls prog 158 #[v0,v1] w (Res W G H (λ_ Ho v=>Ho=[]∧v=(.bool y))):=by
 refine Ay (args:=[v0,v1]) (N:=41) [.tmp 4] func158 Z Z (lb Z) Z λa f=> ?_
 unfold D.m0 at hd
 refine Af ?_
 refine Ac f Z λa f=>Aa (Ag (Af ?_))
 refine Ac f Z λa f=>Aa ?_
 have⟨aa,ab,hd⟩:=bind_some hd
 refine AL (λa w=>∃q_69':Unit,aa= .inl q_69'∧∃(ac:GH),GLe G ac∧Fr a 41 [(0,v0),(1,v1)]∧Mem W ac w (H)) ?_ ?_
 ·refine Ak ?_
  refine AK (λad a w=>∃ae:Int,ae=ad∧∃(af:GH),GLe G af∧Fr a 41 [(0,v0),(1,v1),(5,(iv ae))]∧Mem W af w (H)) ab ⟨_,Z,_,gr,f.k Z,m⟩ ?_
  clear ab f m
  rintro ad ag ah ai a w ⟨ae,rfl,af,aj,f,m⟩
  have h0:=rd1 aj h0
  have h1:=rd1 aj h1
  refine Ag (Af ?_)
  refine Ab f Z λa f=>Ab f Z λa f=>A5 underlying31 f Z Z h0 λa f=>Ai f Z Z AI λa f=>Ab f Z λa f=> ?_
  refine BJ 5 (λa w=>∃ak,GLe af ak∧Mem W ak w (H)∧Fr a 41 [(0,v0),(1,v1),(5,(iv ae)),(6,(iv ae)),(7,v0),(8,(iv (x0.length:Int))),(9,(.bool (decide (ae<(x0.length:Int))))),(10,(.bool (decide (ae<(x0.length:Int))))),(15,(.bool ((decide (ae<(x0.length:Int)))&&(decide (ae<(x1.length:Int))))))]) ?_ ?_
  ·rcases Bool.eq_false_or_eq_true (decide (ae<(x0.length:Int))) with al|al
   ·refine AH f al ?_
    refine Ab f Z λa f=>AH f al ?_
    refine Ab f Z λa f=>AH f al ?_
    refine A5 underlying31 f Z Z h1 λa f=>AH f al ?_
    refine Ai f Z Z AI λa f=>l_o f (A7 (f.e Z) al (f.e Z)) λa f=> ?_
    exact⟨_,gr,m,f.weak ⟨Z,Z,Z,Z,Z,Z,Z,Z,by rw[al];rfl,trivial⟩⟩
   ·refine AJ f al λa f=> ?_
    refine AJ f al λa f=>AJ f al λa f=>AJ f al λa f=>l_o f (A8 (f.e Z) al (f.e Z)) λa f=> ?_
    exact⟨_,gr,m,f.weak ⟨Z,Z,Z,Z,Z,Z,Z,Z,by rw[al];rfl,trivial⟩⟩
  ·rintro a w ⟨ak,am,m,f⟩
   have h0:=rd1 am h0
   have h1:=rd1 am h1
   refine Aa ?_
   rcases Ae ah with⟨an,ah⟩|⟨an,ah⟩
   ·refine Am f Z an ?_
    refine An ?_
    refine Ag (Ak (Ag ?_))
    refine A9 9 AN (by kernel_rfl) m ?_
    refine Ah 0 9 Z f Z λa f=>Ah 1 9 Z f Z λa f=> ?_
    have⟨ao,ap,ah⟩:=bind_some ah
    refine BC 2 9 T31 h0 ap Z f Z Z λaq ar a au av f=> ?_
    subst av
    refine BB 3 9 Pl2 au Z f Z λa f=>Ah 4 9 Z f Z λa f=>Ah 5 9 Z f Z λa f=> ?_
    have⟨aw,ax,ah⟩:=bind_some ah
    refine BC 6 9 T31 h1 ax Z f Z Z λay az a aA aB f=> ?_
    subst aB
    refine BB 7 9 Pl2 aA Z f Z λa f=>q_p 8 9 Z f (λ_=>AR (f.e Z) (f.e Z) B9) λa f=>AY λaC w aD m=> ?_
    have h0:=rd1 aD h0
    have h1:=rd1 aD h1
    refine Aa ?_
    rcases Ae ah with⟨aE,ah⟩|⟨aE,ah⟩
    ·refine Am f Z aE ?_
     refine Ag ?_
     refine A9 10 AN (by kernel_rfl) m ?_
     refine Ah 0 10 Z f Z λa f=>Ah 1 10 Z f Z λa f=> ?_
     have⟨aF,aG,ah⟩:=bind_some ah
     refine BC 2 10 T31 h0 aG Z f Z Z λaH aI a aJ aK f=> ?_
     subst aK
     refine BB 3 10 Pl2 aJ Z f Z λa f=>Ah 4 10 Z f Z λa f=>Ah 5 10 Z f Z λa f=> ?_
     have⟨aL,aM,ah⟩:=bind_some ah
     refine BC 6 10 T31 h1 aM Z f Z Z λaN aO a aP aQ f=> ?_
     subst aQ
     refine BB 7 10 Pl2 aP Z f Z λa f=>q_p 8 10 Z f (λ_=>AR (f.e Z) (f.e Z) AI) λa f=>q_p 9 10 Z f (λ_=>Ce (f.e Z)) λa f=>AY λaR w aS m=>Aa ?_
     refine As ?_
     obtain rfl:=sj ah
     obtain rfl:=ai _ rfl
     obtain rfl:=sj hd
     exact⟨[(.bool (decide (aF<aL)))],f.g Z,f.d,_,[],(gt aj (gt am (gt aD aS))),m,Z,Z⟩
    ·refine Aj f Z aE ?_
     refine An ?_
     refine Ao ?_
     refine Ab f Z λa f=>Ai f Z Z Az λa f=>Ac f Z λa f=>Aa ?_
     obtain rfl:=sj ah
     exact⟨_,Z,_,Z,_,(gt aj (gt am aD)),f.k Z,m⟩
   ·refine Aj f Z an ?_
    refine AE Z ?_
    obtain rfl:=sj ah
    obtain rfl:=ai _ rfl
    exact⟨_,Z,_,(gt aj am),f.k Z,m⟩
 ·rintro a w ⟨_,rfl,ac,aT,f,m⟩
  have h0:=rd1 aT h0
  have h1:=rd1 aT h1
  refine Af ?_
  refine Ab f Z λa f=>A5 underlying31 f Z Z h0 λa f=>Ab f Z λa f=>A5 underlying31 f Z Z h1 λa f=>Ai f Z Z AI λa f=>Ac f Z λa f=>Aa ?_
  refine As ?_
  obtain rfl:=sj hd
  exact⟨[(.bool (decide ((x0.length:Int)<(x1.length:Int))))],f.g Z,f.d,_,[],aT,m,Z,Z⟩
theorem Wk.i0 {v0 v1:Value}{x0 x1:LI}(m:Mem W G w (H))(h0:R1 G v0 x0)(h1:R1 G v1 x1){y:Bool}(hd:D.i0 x0 x1=some y):
  Calls prog 159 #[v0,v1] w (Res W G H (λ_ Ho v=>Ho=[]∧v=(.bool y))):=by
 refine Ay (args:=[v0,v1]) (N:=26) [.tmp 4] func159 Z Z (lb Z) Z λa f=> ?_
 unfold D.i0 at hd
 refine Af ?_
 refine Ac f Z λa f=>Aa (Ag (Af ?_))
 refine Ab f Z λa f=>A5 underlying31 f Z Z h0 λa f=>Ab f Z λa f=>A5 underlying31 f Z Z h1 λa f=>Ai f Z Z B9 λa f=>Aa ?_
 rcases Ae hd with⟨aa,hd⟩|⟨aa,hd⟩
 ·refine Am f Z aa ?_
  refine Af ?_
  refine Ac f Z λa f=>Aa ?_
  refine As ?_
  obtain rfl:=sj hd
  exact⟨[(.bool false)],f.g Z,f.d,_,[],gr,m,Z,Z⟩
 ·refine Aj f Z aa ?_
  refine An ?_
  refine Ag (Af ?_)
  refine Ac f Z λa f=>Aa ?_
  have⟨ab,ac,hd⟩:=bind_some hd
  refine AL (λa w=>∃q_36':Unit,ab= .inl q_36'∧∃(ad:GH),GLe G ad∧Fr a 26 []∧Mem W ad w (H)) ?_ ?_
  ·refine Ak ?_
   refine AK (λae a w=>∃af:Int,af=ae∧∃(ag:GH),GLe G ag∧Fr a 26 [(0,v0),(1,v1),(5,(iv af))]∧Mem W ag w (H)) ac ⟨_,Z,_,gr,f.k Z,m⟩ ?_
   clear ac f m
   rintro ae ah ai aj a w ⟨af,rfl,ag,ak,f,m⟩
   have h0:=rd1 ak h0
   have h1:=rd1 ak h1
   refine Ag (Af ?_)
   refine Ab f Z λa f=>Ab f Z λa f=>A5 underlying31 f Z Z h0 λa f=>Ai f Z Z AI λa f=>Aa ?_
   rcases Ae ai with⟨al,ai⟩|⟨al,ai⟩
   ·refine Am f Z al ?_
    refine An ?_
    refine Ag (Ak (Ag ?_))
    refine A9 9 AN (by kernel_rfl) m ?_
    refine Ah 0 9 Z f Z λa f=>Ah 1 9 Z f Z λa f=> ?_
    have⟨am,an,ai⟩:=bind_some ai
    refine BC 2 9 T31 h0 an Z f Z Z λao ap a aq ar f=> ?_
    subst ar
    refine BB 3 9 Pl2 aq Z f Z λa f=>Ah 4 9 Z f Z λa f=>Ah 5 9 Z f Z λa f=> ?_
    have⟨au,av,ai⟩:=bind_some ai
    refine BC 6 9 T31 h1 av Z f Z Z λaw ax a ay az f=> ?_
    subst az
    refine BB 7 9 Pl2 ay Z f Z λa f=>q_p 8 9 Z f (λ_=>AR (f.e Z) (f.e Z) B9) λa f=>AY λaA w aB m=>Aa ?_
    rcases Ae ai with⟨aC,ai⟩|⟨aC,ai⟩
    ·refine Am f Z aC ?_
     refine Af ?_
     refine Ac f Z λa f=>Aa ?_
     refine As ?_
     obtain rfl:=sj ai
     obtain rfl:=aj _ rfl
     obtain rfl:=sj hd
     exact⟨[(.bool false)],f.g Z,f.d,_,[],(gt ak aB),m,Z,Z⟩
    ·refine Aj f Z aC ?_
     refine An ?_
     refine Ao ?_
     refine Ab f Z λa f=>Ai f Z Z Az λa f=>Ac f Z λa f=>Aa ?_
     obtain rfl:=sj ai
     exact⟨_,Z,_,Z,_,(gt ak aB),f.k Z,m⟩
   ·refine Aj f Z al ?_
    refine AE Z ?_
    obtain rfl:=sj ai
    obtain rfl:=aj _ rfl
    exact⟨_,Z,_,ak,f.weak trivial,m⟩
  ·rintro a w ⟨_,rfl,ad,aD,f,m⟩
   refine Af ?_
   refine Ac f Z λa f=>Aa ?_
   refine As ?_
   obtain rfl:=sj hd
   exact⟨[(.bool true)],f.g Z,f.d,_,[],aD,m,Z,Z⟩
theorem Wk.l {v0 v1:Value}{x0:LL}{x1:LI}(m:Mem W G w (H))(h0:R2 G v0 x0)(h1:R1 G v1 x1){y:(LL)}(hd:D.l x0 x1=some y):
  Calls prog 137 #[v0,v1] w (Res W G H (λG' Ho v=>∃r0:Value,Ho=[]∧r0=v∧R2 G' r0 y)):=by
 refine Ay (args:=[v0,v1]) (N:=48) [.tmp 4] func137 Z Z (lb Z) Z λa f=> ?_
 unfold D.l at hd
 refine Af ?_
 refine Ac f Z λa f=>AC ?_
 refine Ac f Z λa f=>Aa (Ag ?_)
 have⟨aa,ab,hd⟩:=bind_some hd
 refine AL (λa w=>∃ac:Int,ac=aa∧∃(ad:GH),GLe G ad∧Fr a 48 [(0,v0),(1,v1),(5,(iv ac))]∧Mem W ad w (H)) ?_ ?_
 ·refine Ak ?_
  refine AK (λae a w=>∃af:Int,af=ae∧∃(ag:GH),GLe G ag∧Fr a 48 [(0,v0),(1,v1),(5,(iv af))]∧Mem W ag w (H)) ab ⟨_,Z,_,gr,f.k Z,m⟩ ?_
  clear ab f m
  rintro ae ah ai aj a w ⟨af,rfl,ag,ak,f,m⟩
  have h0:=rd2 ak h0
  have h1:=rd1 ak h1
  refine Ag (Af ?_)
  refine Ab f Z λa f=>Ab f Z λa f=>A5 underlying27 f Z Z h0 λa f=>Ai f Z Z AI λa f=>Ab f Z λa f=> ?_
  have⟨al,am,ai⟩:=bind_some ai
  refine BJ 7 (λa w=>∃an,GLe ag an∧Mem W an w (H)∧Fr a 48 [(0,v0),(1,v1),(5,(iv af)),(7,(iv af)),(8,v0),(9,(iv (x0.length:Int))),(10,(.bool (decide (af<(x0.length:Int))))),(11,(.bool (decide (af<(x0.length:Int))))),(18,(.bool al))]) ?_ ?_
  ·rcases Ae am with⟨ao,am⟩|⟨ao,am⟩
   ·refine AH f ao ?_
    refine Ab f Z λa f=>AH f ao ?_
    refine Ab f Z λa f=>AH f ao ?_
    have⟨ap,aq,am⟩:=bind_some am
    refine Be T27 f Z Z Z h0 aq λar au a av aw f=>AH f ao ?_
    refine AM m Bq f Z Z av λa f=>AH f ao ?_
    refine Ab f Z λa f=>AH f ao ?_
    have⟨ax,ay,am⟩:=bind_some am
    refine Bz f Z call158 (Wk.m0 m aw h1 ay) λaz w aA m a f=>l_o f (A7 (f.e Z) ao (f.e Z)) λa f=> ?_
    obtain rfl:=sj am
    exact⟨_,aA,m,f.k Z⟩
   ·refine AJ f ao λa f=> ?_
    refine AJ f ao λa f=>AJ f ao λa f=>AJ f ao λa f=>AJ f ao λa f=>AJ f ao λa f=>l_o f (A8 (f.e Z) ao (f.e Z)) λa f=> ?_
    obtain rfl:=sj am
    exact⟨_,gr,m,f.k Z⟩
  ·rintro a w ⟨an,aB,m,f⟩
   refine Aa ?_
   rcases Ae ai with⟨aC,ai⟩|⟨aC,ai⟩
   ·refine Am f Z aC ?_
    refine An ?_
    refine Ak (Ao ?_)
    refine Ab f Z λa f=>Ai f Z Z Az λa f=>Ac f Z λa f=>Aa ?_
    obtain rfl:=sj ai
    exact⟨_,Z,_,Z,_,(gt ak aB),f.k Z,m⟩
   ·refine Aj f Z aC ?_
    refine AE Z ?_
    obtain rfl:=sj ai
    obtain rfl:=aj _ rfl
    exact⟨_,Z,_,(gt ak aB),f.k Z,m⟩
 ·rintro a w ⟨ac,rfl,ad,aD,f,m⟩
  have h0:=rd2 aD h0
  have h1:=rd1 aD h1
  refine Ag (Af ?_)
  refine Ab f Z λa f=>Ab f Z λa f=>A5 underlying27 f Z Z h0 λa f=>Ai f Z Z AI λa f=>Ab f Z λa f=> ?_
  have⟨aE,aF,hd⟩:=bind_some hd
  refine BJ 7 (λa w=>∃aG,GLe ad aG∧Mem W aG w (H)∧Fr a 48 [(0,v0),(1,v1),(5,(iv ac)),(21,(iv ac)),(22,v0),(23,(iv (x0.length:Int))),(24,(.bool (decide (ac<(x0.length:Int))))),(25,(.bool (decide (ac<(x0.length:Int))))),(32,(.bool aE))]) ?_ ?_
  ·rcases Ae aF with⟨aH,aF⟩|⟨aH,aF⟩
   ·refine AH f aH ?_
    refine Ab f Z λa f=>AH f aH ?_
    refine Ab f Z λa f=>AH f aH ?_
    have⟨aI,aJ,aF⟩:=bind_some aF
    refine Be T27 f Z Z Z h0 aJ λaK aL a aM aN f=>AH f aH ?_
    refine AM m Bq f Z Z aM λa f=>AH f aH ?_
    refine Ab f Z λa f=>AH f aH ?_
    have⟨aO,aP,aF⟩:=bind_some aF
    refine Bz f Z call159 (Wk.i0 m aN h1 aP) λaQ w aR m a f=>l_o f (A7 (f.e Z) aH (f.e Z)) λa f=> ?_
    obtain rfl:=sj aF
    exact⟨_,aR,m,f.k Z⟩
   ·refine AJ f aH λa f=> ?_
    refine AJ f aH λa f=>AJ f aH λa f=>AJ f aH λa f=>AJ f aH λa f=>AJ f aH λa f=>l_o f (A8 (f.e Z) aH (f.e Z)) λa f=> ?_
    obtain rfl:=sj aF
    exact⟨_,gr,m,f.k Z⟩
  ·rintro a w ⟨aG,aS,m,f⟩
   have h0:=rd2 aS h0
   have h1:=rd1 aS h1
   refine Aa ?_
   rcases Ae hd with⟨aT,hd⟩|⟨aT,hd⟩
   ·refine Am f Z aT ?_
    refine Af ?_
    refine Ab f Z λa f=>Ac f Z λa f=>Aa ?_
    refine As ?_
    obtain rfl:=sj hd
    exact⟨[v0],f.g Z,f.d,_,[],(gt aD aS),m,_,Z,Z,h0⟩
   ·refine Aj f Z aT ?_
    refine An ?_
    refine Af ?_
    refine Bm (R:=R1) (xs:=([]:LL)) (RSl.one _) m T27 f Z Z Z (by decide) (All2.nil _) λaU aV w a m aW f=>Ab f Z λa f=>Ab f Z λa f=> ?_
    have⟨aX,aY,hd⟩:=bind_some hd
    refine Ew T27 f Z Z h0 (.inl ⟨Z,Z⟩) (.inr ⟨_,_,Z,Z⟩) aY λaZ a a0 f=> ?_
    have⟨a1,a2,hd⟩:=bind_some hd
    refine By (RSl.one _) 0 m aW Z T27 Z (by decide) f Z Z Z (a0.src m) a2 λa3 a4 w a m a5 f=>Ac f Z λa f=>AC ?_
    refine Ab f Z λa f=>Ab f Z λa f=>Bm (R:=R1) (xs:=([x1]:LL)) (RSl.one _) m T27 f Z Z Z (by decide) (All2.cons h1 (All2.nil _)) λa6 a7 w a m a8 f=> ?_
    have⟨a9,ba,hd⟩:=bind_some hd
    refine By (RSl.one _) 1 m a5 Z T27 Z (by decide) f Z Z Z (Ow.src (j:=0) a8 m Z) ba λbb bc w a m bd f=>Ac f Z λa f=>AC ?_
    refine Ab f Z λa f=>Ab f Z λa f=>Ab f Z λa f=> ?_
    have⟨be,bf,hd⟩:=bind_some hd
    refine Ew T27 f Z Z h0 (.inr ⟨_,_,Z,Z⟩) (.inl ⟨Z,Z⟩) bf λbg a bh f=> ?_
    have⟨bi,bj,hd⟩:=bind_some hd
    refine By (RSl.one _) 1 m bd Z T27 Z (by decide) f Z Z Z (bh.src m) bj λbk bl w a m bm f=>Ac f Z λa f=>Aa ?_
    refine As ?_
    have m:=m.fr 1
    obtain⟨bn,bo,m,bp⟩:=Ow.stamp (RSl.mono (RI.mono _)) bm m
    have m:Mem W bn w H:=Mem.drop (H':=[a6]) m
    obtain rfl:=sj hd
    exact⟨[bl],f.g Z,f.d,_,[],(gt aD (gt aS bo)),m,_,Z,Z,bp⟩
theorem Wk.p0 {aa:Value}{ab:LL}{x1 x2:Int}(m:Mem W G w (H))(ac:R2 G aa ab){y:(LL)}(hd:D.p0 ab x1 x2=some y):
  Calls prog 107 #[(.agg #[aa]),(iv x1),(iv x2)] w (Res W G H (λG' Ho v=>∃r0:Value,Ho=[]∧r0=v∧R2 G' r0 y)):=by
 refine Ay (args:=[(.agg #[aa]),(iv x1),(iv x2)]) (N:=86) [.tmp 6] func107 Z Z (lb Z) Z λa f=> ?_
 unfold D.p0 at hd
 refine Af ?_
 refine BO (cs:=[aa]) m f Z Z Z λad w a m f=>Ac f Z λa f=>AC ?_
 refine Bm (R:=R1) (xs:=([]:LL)) (RSl.one _) m T27 f Z Z Z (by decide) (All2.nil _) λae af w a m ag f=>Ac f Z λa f=>Aa (Ag (Af ?_))
 refine Ac f Z λa f=>Aa ?_
 obtain⟨ah,ai,m,aj⟩:=Ow.stamp (RSl.mono (RI.mono _)) ag m
 have ac:=rd2 ai ac
 have⟨ak,al,hd⟩:=bind_some hd
 refine AL (λa w=>∃am:LL,am=ak∧∃(an:GH) (ao:Value),GLe ah an∧Fr a 86 [(1,(iv x1)),(2,(iv x2)),(3,(pb ad)),(7,ao)]∧Mem W an w (ib ad 29 [aa]::H)∧R2 an ao am) ?_ ?_
 ·refine Ak ?_
  refine AK (λap a w=>∃aq:LL,∃ar:Int,(aq,ar)=ap∧∃(au:GH) (av:Value),GLe ah au∧Fr a 86 [(1,(iv x1)),(2,(iv x2)),(3,(pb ad)),(7,av),(8,(iv ar))]∧Mem W au w (ib ad 29 [aa]::H)∧R2 au av aq) al ⟨_,_,Z,_,af,gr,f.k Z,m,aj⟩ ?_
  clear al f m
  rintro ap aw ax ay a w ⟨aq,ar,rfl,au,av,az,f,m,aA⟩
  have ac:=rd2 az ac
  refine Ag (Af ?_)
  refine Ab f Z λa f=>Bk underlying29 Z sizeOf27 f Z λa f=>AO 0 0 m Bx f Z Z Z Z λa f=>Ab f Z λa f=> ?_
  have⟨aB,aC,ax⟩:=bind_some ax
  refine Be T27 f Z Z Z ac aC λaD aE a aF aG f=>AM m Bq f Z Z aF λa f=>A5 underlying31 f Z Z aG λa f=>Ai f Z Z AI λa f=>Aa ?_
  rcases Ae ax with⟨aH,ax⟩|⟨aH,ax⟩
  ·refine Am f Z aH ?_
   refine An ?_
   refine Ag (Ak (Af ?_))
   refine Bk underlying29 Z sizeOf27 f Z λa f=>AO 0 0 m Bx f Z Z Z Z λa f=>Ab f Z λa f=> ?_
   have⟨aI,aJ,ax⟩:=bind_some ax
   refine Be T27 f Z Z Z ac aJ λaK aL a aM aN f=>AM m Bq f Z Z aM λa f=>Ab f Z λa f=> ?_
   have⟨aO,aP,ax⟩:=bind_some ax
   refine Be T31 f Z Z Z aN aP λaQ aR a aS aT f=> ?_
   subst aT
   refine AM m Pl2 f Z Z aS λa f=>Ac f Z λa f=>AC ?_
   refine Ab f Z λa f=>Ab f Z λa f=>Ai f Z Z B9 λa f=>Ab f Z λa f=> ?_
   have⟨aU,aV,ax⟩:=bind_some ax
   refine BJ 9 (λa w=>∃aW,GLe au aW∧Mem W aW w (ib ad 29 [aa]::H)∧Fr a 86 [(1,(iv x1)),(2,(iv x2)),(3,(pb ad)),(7,av),(8,(iv ar)),(9,(iv aO)),(31,(iv aO)),(32,(iv x2)),(33,(.bool (aO !=x2))),(34,(.bool (aO !=x2))),(43,(.bool aU))]) ?_ ?_
   ·rcases Ae aV with⟨aX,aV⟩|⟨aX,aV⟩
    ·refine AH f aX ?_
     refine Bk underlying29 Z sizeOf27 f Z λa f=>AH f aX ?_
     refine AO 0 0 m Bx f Z Z Z Z λa f=>AH f aX ?_
     refine Ab f Z λa f=>AH f aX ?_
     have⟨aY,aZ,aV⟩:=bind_some aV
     refine Be T27 f Z Z Z ac aZ λa0 a1 a a2 a3 f=>AH f aX ?_
     refine AM m Bq f Z Z a2 λa f=>AH f aX ?_
     refine Ab f Z λa f=>AH f aX ?_
     have⟨a4,a5,aV⟩:=bind_some aV
     refine Bz f Z call115 (Wk.k m a3 a5) λa6 w a7 m a f=>AH f aX ?_
     refine l_o f (Bt (f.e Z)) λa f=>l_o f (A7 (f.e Z) aX (f.e Z)) λa f=> ?_
     obtain rfl:=sj aV
     exact⟨_,a7,m,f.k Z⟩
    ·refine AJ f aX λa f=> ?_
     refine AJ f aX λa f=>AJ f aX λa f=>AJ f aX λa f=>AJ f aX λa f=>AJ f aX λa f=>AJ f aX λa f=>AJ f aX λa f=>l_o f (A8 (f.e Z) aX (f.e Z)) λa f=> ?_
     obtain rfl:=sj aV
     exact⟨_,gr,m,f.k Z⟩
   ·rintro a w ⟨aW,a8,m,f⟩
    have aA:=rd2 a8 aA
    refine Aa ?_
    rcases Ae ax with⟨a9,ax⟩|⟨a9,ax⟩
    ·refine Am f Z a9 ?_
     refine Ao ?_
     refine Ab f Z λa f=>Ab f Z λa f=>Ab f Z λa f=>Bm (R:=R0) (xs:=([x1,aO]:LI)) (RI.one _) m T31 f Z Z Z (by decide) (All2.cons Z (All2.cons Z (All2.nil _))) λba bb w a m bc f=> ?_
     obtain⟨bd,be,m,bf⟩:=Ow.stamp (RI.mono _) bc m
     have aA:=rd2 be aA
     have⟨bg,bh,ax⟩:=bind_some ax
     refine A1 f Z call137 (Wk.l m aA bf bh) λbi bj bk w bl m bm a f=> ?_
     obtain⟨bn,rfl,rfl,bo⟩:=bm
     refine Ac f Z λa f=>Aa (Ao ?_)
     refine Ab f Z λa f=>Ai f Z Z Az λa f=>Ac f Z λa f=>Aa ?_
     obtain rfl:=sj ax
     exact⟨_,Z,_,_,Z,_,bn,(gt az (gt a8 (gt be bl))),f.k Z,m,bo⟩
    ·refine Aj f Z a9 ?_
     refine An ?_
     refine Ao ?_
     refine Ab f Z λa f=>Ai f Z Z Az λa f=>Ac f Z λa f=>Aa ?_
     obtain rfl:=sj ax
     exact⟨_,Z,_,_,Z,_,av,(gt az a8),f.k Z,m,aA⟩
  ·refine Aj f Z aH ?_
   refine AE Z ?_
   obtain rfl:=sj ax
   obtain rfl:=ay _ rfl
   exact⟨_,Z,_,av,az,f.k Z,m,aA⟩
 ·rintro a w ⟨am,rfl,an,ao,bp,f,m,bq⟩
  have ac:=rd2 bp ac
  refine Ag (Af ?_)
  refine Ac f Z λa f=>Aa ?_
  have⟨br,bs,hd⟩:=bind_some hd
  refine AL (λa w=>∃bt:LL,bt=br∧∃(bu:GH) (bv:Value),GLe an bu∧Fr a 86 [(7,bv)]∧Mem W bu w (H)∧R2 bu bv bt) ?_ ?_
  ·refine Ak ?_
   refine AK (λbw a w=>∃bx:LL,∃bz:Int,(bx,bz)=bw∧∃(bA:GH) (bB:Value),GLe an bA∧Fr a 86 [(1,(iv x1)),(2,(iv x2)),(3,(pb ad)),(7,bB),(10,(iv bz))]∧Mem W bA w (ib ad 29 [aa]::H)∧R2 bA bB bx) bs ⟨_,_,Z,_,ao,gr,f.k Z,m,bq⟩ ?_
   clear bs f m
   rintro bw bC bD bE a w ⟨bx,bz,rfl,bA,bB,bF,f,m,bG⟩
   have ac:=rd2 bF ac
   refine Ag (Af ?_)
   refine Ab f Z λa f=>Bk underlying29 Z sizeOf27 f Z λa f=>AO 0 0 m Bx f Z Z Z Z λa f=>Ab f Z λa f=> ?_
   have⟨bH,bI,bD⟩:=bind_some bD
   refine Be T27 f Z Z Z ac bI λbJ bK a bL bM f=>AM m Bq f Z Z bL λa f=>A5 underlying31 f Z Z bM λa f=>Ai f Z Z AI λa f=>Aa ?_
   rcases Ae bD with⟨bN,bD⟩|⟨bN,bD⟩
   ·refine Am f Z bN ?_
    refine An ?_
    refine Ag (Ak (Af ?_))
    refine Bk underlying29 Z sizeOf27 f Z λa f=>AO 0 0 m Bx f Z Z Z Z λa f=>Ab f Z λa f=> ?_
    have⟨bO,bP,bD⟩:=bind_some bD
    refine Be T27 f Z Z Z ac bP λbQ bR a bS bT f=>AM m Bq f Z Z bS λa f=>Ab f Z λa f=> ?_
    have⟨bU,bV,bD⟩:=bind_some bD
    refine Be T31 f Z Z Z bT bV λbW bX a bY bZ f=> ?_
    subst bZ
    refine AM m Pl2 f Z Z bY λa f=>Ac f Z λa f=>AC ?_
    refine Ab f Z λa f=>Ab f Z λa f=>Ai f Z Z B9 λa f=>Ab f Z λa f=> ?_
    have⟨b0,b1,bD⟩:=bind_some bD
    refine BJ 9 (λa w=>∃b2,GLe bA b2∧Mem W b2 w (ib ad 29 [aa]::H)∧Fr a 86 [(1,(iv x1)),(2,(iv x2)),(3,(pb ad)),(7,bB),(10,(iv bz)),(11,(iv bU)),(67,(iv bU)),(68,(iv x1)),(69,(.bool (bU !=x1))),(70,(.bool (bU !=x1))),(79,(.bool b0))]) ?_ ?_
    ·rcases Ae b1 with⟨b3,b1⟩|⟨b3,b1⟩
     ·refine AH f b3 ?_
      refine Bk underlying29 Z sizeOf27 f Z λa f=>AH f b3 ?_
      refine AO 0 0 m Bx f Z Z Z Z λa f=>AH f b3 ?_
      refine Ab f Z λa f=>AH f b3 ?_
      have⟨b4,b5,b1⟩:=bind_some b1
      refine Be T27 f Z Z Z ac b5 λb6 b7 a b8 b9 f=>AH f b3 ?_
      refine AM m Bq f Z Z b8 λa f=>AH f b3 ?_
      refine Ab f Z λa f=>AH f b3 ?_
      have⟨ca,cb,b1⟩:=bind_some b1
      refine Bz f Z call115 (Wk.k m b9 cb) λcc w cd m a f=>AH f b3 ?_
      refine l_o f (Bt (f.e Z)) λa f=>l_o f (A7 (f.e Z) b3 (f.e Z)) λa f=> ?_
      obtain rfl:=sj b1
      exact⟨_,cd,m,f.k Z⟩
     ·refine AJ f b3 λa f=> ?_
      refine AJ f b3 λa f=>AJ f b3 λa f=>AJ f b3 λa f=>AJ f b3 λa f=>AJ f b3 λa f=>AJ f b3 λa f=>AJ f b3 λa f=>l_o f (A8 (f.e Z) b3 (f.e Z)) λa f=> ?_
      obtain rfl:=sj b1
      exact⟨_,gr,m,f.k Z⟩
    ·rintro a w ⟨b2,ce,m,f⟩
     have bG:=rd2 ce bG
     refine Aa ?_
     rcases Ae bD with⟨cf,bD⟩|⟨cf,bD⟩
     ·refine Am f Z cf ?_
      refine Ao ?_
      refine Ab f Z λa f=>Ab f Z λa f=>Ab f Z λa f=>Bm (R:=R0) (xs:=([bU,x2]:LI)) (RI.one _) m T31 f Z Z Z (by decide) (All2.cons Z (All2.cons Z (All2.nil _))) λcg ch w a m ci f=> ?_
      obtain⟨cj,ck,m,cl⟩:=Ow.stamp (RI.mono _) ci m
      have bG:=rd2 ck bG
      have⟨cm,cn,bD⟩:=bind_some bD
      refine A1 f Z call137 (Wk.l m bG cl cn) λco cp cq w cr m ct a f=> ?_
      obtain⟨cu,rfl,rfl,cv⟩:=ct
      refine Ac f Z λa f=>Aa (Ao ?_)
      refine Ab f Z λa f=>Ai f Z Z Az λa f=>Ac f Z λa f=>Aa ?_
      obtain rfl:=sj bD
      exact⟨_,Z,_,_,Z,_,cu,(gt bF (gt ce (gt ck cr))),f.k Z,m,cv⟩
     ·refine Aj f Z cf ?_
      refine An ?_
      refine Ao ?_
      refine Ab f Z λa f=>Ai f Z Z Az λa f=>Ac f Z λa f=>Aa ?_
      obtain rfl:=sj bD
      exact⟨_,Z,_,_,Z,_,bB,(gt bF ce),f.k Z,m,bG⟩
   ·refine Aj f Z bN ?_
    refine AE Z ?_
    have m:Mem W bA w H:=Mem.drop (H':=[ib ad 29 [aa]]) m
    obtain rfl:=sj bD
    obtain rfl:=bE _ rfl
    exact⟨_,Z,_,bB,bF,f.k Z,m,bG⟩
  ·rintro a w ⟨bt,rfl,bu,bv,cw,f,m,cx⟩
   refine Af ?_
   refine Ab f Z λa f=>Ac f Z λa f=>Aa ?_
   refine As ?_
   obtain rfl:=sj hd
   exact⟨[bv],f.g Z,f.d,_,[],(gt ai (gt bp cw)),m,_,Z,Z,cx⟩
theorem Wk.z {v0:Value}{x0:LL}{x1 x2:Int}(m:Mem W G w (H))(h0:R2 G v0 x0){y:Bool}(hd:D.z x0 x1 x2=some y):
  Calls prog 89 #[v0,(iv x1),(iv x2)] w (Res W G H (λ_ Ho v=>Ho=[]∧v=(.bool y))):=by
 refine Ay (args:=[v0,(iv x1),(iv x2)]) (N:=32) [.tmp 6] func89 Z Z (lb Z) Z λa f=> ?_
 unfold D.z at hd
 refine Af ?_
 refine Ac f Z λa f=>Aa (Ag (Af ?_))
 refine Ac f Z λa f=>Aa ?_
 have⟨aa,ab,hd⟩:=bind_some hd
 refine AL (λa w=>∃q_113':Unit,aa= .inl q_113'∧∃(ac:GH),GLe G ac∧Fr a 32 []∧Mem W ac w (H)) ?_ ?_
 ·refine Ak ?_
  refine AK (λad a w=>∃ae:Int,ae=ad∧∃(af:GH),GLe G af∧Fr a 32 [(0,v0),(1,(iv x1)),(2,(iv x2)),(7,(iv ae))]∧Mem W af w (H)) ab ⟨_,Z,_,gr,f.k Z,m⟩ ?_
  clear ab f m
  rintro ad ag ah ai a w ⟨ae,rfl,af,aj,f,m⟩
  have h0:=rd2 aj h0
  refine Ag (Af ?_)
  refine Ab f Z λa f=>Ab f Z λa f=>A5 underlying27 f Z Z h0 λa f=>Ai f Z Z AI λa f=>Aa ?_
  rcases Ae ah with⟨ak,ah⟩|⟨ak,ah⟩
  ·refine Am f Z ak ?_
   refine An ?_
   refine Ag (Ak (Af ?_))
   refine Ab f Z λa f=>Ab f Z λa f=> ?_
   have⟨al,am,ah⟩:=bind_some ah
   refine Be T27 f Z Z Z h0 am λan ao a ap aq f=>AM m Bq f Z Z ap λa f=> ?_
   have⟨ar,au,ah⟩:=bind_some ah
   refine Be T31 f Z Z Z aq au λav aw a ax ay f=> ?_
   subst ay
   refine AM m Pl2 f Z Z ax λa f=>Ab f Z λa f=>Ai f Z Z B5 λa f=>Ab f Z λa f=> ?_
   have⟨az,aA,ah⟩:=bind_some ah
   refine BJ 9 (λa w=>∃aB,GLe af aB∧Mem W aB w (H)∧Fr a 32 [(0,v0),(1,(iv x1)),(2,(iv x2)),(7,(iv ae)),(11,(.bool (decide (ae<(x0.length:Int))))),(14,v0),(15,(iv ae)),(16,an),(17,ao),(18,av),(19,(iv ar)),(20,(iv x1)),(21,(.bool (ar==x1))),(22,(.bool (ar==x1))),(31,(.bool az))]) ?_ ?_
   ·rcases Ae aA with⟨aC,aA⟩|⟨aC,aA⟩
    ·refine AH f aC ?_
     refine Ab f Z λa f=>AH f aC ?_
     refine Ab f Z λa f=>AH f aC ?_
     have⟨aD,aE,aA⟩:=bind_some aA
     refine Be T27 f Z Z Z h0 aE λaF aG a aH aI f=>AH f aC ?_
     refine AM m Bq f Z Z aH λa f=>AH f aC ?_
     have⟨aJ,aK,aA⟩:=bind_some aA
     refine Be T31 f Z Z Z aI aK λaL aM a aN aO f=> ?_
     subst aO
     refine AH f aC ?_
     refine AM m Pl2 f Z Z aN λa f=>AH f aC ?_
     refine Ab f Z λa f=>AH f aC ?_
     refine Ai f Z Z B5 λa f=>l_o f (A7 (f.e Z) aC (f.e Z)) λa f=> ?_
     obtain rfl:=sj aA
     exact⟨_,gr,m,f.k Z⟩
    ·refine AJ f aC λa f=> ?_
     refine AJ f aC λa f=>AJ f aC λa f=>AJ f aC λa f=>AJ f aC λa f=>AJ f aC λa f=>AJ f aC λa f=>AJ f aC λa f=>l_o f (A8 (f.e Z) aC (f.e Z)) λa f=> ?_
     obtain rfl:=sj aA
     exact⟨_,gr,m,f.k Z⟩
   ·rintro a w ⟨aB,aP,m,f⟩
    refine Aa ?_
    rcases Ae ah with⟨aQ,ah⟩|⟨aQ,ah⟩
    ·refine Am f Z aQ ?_
     refine Af ?_
     refine Ac f Z λa f=>Aa ?_
     refine As ?_
     obtain rfl:=sj ah
     obtain rfl:=ai _ rfl
     obtain rfl:=sj hd
     exact⟨[(.bool true)],f.g Z,f.d,_,[],(gt aj aP),m,Z,Z⟩
    ·refine Aj f Z aQ ?_
     refine An ?_
     refine Ao ?_
     refine Ab f Z λa f=>Ai f Z Z Az λa f=>Ac f Z λa f=>Aa ?_
     obtain rfl:=sj ah
     exact⟨_,Z,_,Z,_,(gt aj aP),f.k Z,m⟩
  ·refine Aj f Z ak ?_
   refine AE Z ?_
   obtain rfl:=sj ah
   obtain rfl:=ai _ rfl
   exact⟨_,Z,_,aj,f.weak trivial,m⟩
 ·rintro a w ⟨_,rfl,ac,aR,f,m⟩
  refine Af ?_
  refine Ac f Z λa f=>Aa ?_
  refine As ?_
  obtain rfl:=sj hd
  exact⟨[(.bool false)],f.g Z,f.d,_,[],aR,m,Z,Z⟩
theorem Wk.X {aa:Value}{ab:LL}{x1 x2:Int}(m:Mem W G w (H))(ac:R2 G aa ab){y:(LL)}(hd:D.X ab x1 x2=some y):
  Calls prog 88 #[(.agg #[aa]),(iv x1),(iv x2)] w (Res W G H (λG' Ho v=>∃r0:Value,Ho=[]∧r0=v∧R2 G' r0 y)):=by
 refine Ay (args:=[(.agg #[aa]),(iv x1),(iv x2)]) (N:=71) [.tmp 6] func88 Z Z (lb Z) Z λa f=> ?_
 unfold D.X at hd
 refine Af ?_
 refine BO (cs:=[aa]) m f Z Z Z λad w a m f=>Ac f Z λa f=>AC ?_
 refine Ab f Z λa f=>Ab f Z λa f=>Bm (R:=R0) (xs:=([x1,x2]:LI)) (RI.one _) m T31 f Z Z Z (by decide) (All2.cons Z (All2.cons Z (All2.nil _))) λae af w a m ag f=> ?_
 obtain⟨ah,ai,m,aj⟩:=Ow.stamp (RI.mono _) ag m
 have ac:=rd2 ai ac
 refine Bm (R:=R1) (xs:=([([x1,x2]:LI)]:LL)) (RSl.one _) m T27 f Z Z Z (by decide) (All2.cons aj (All2.nil _)) λak al w a m am f=> ?_
 obtain⟨an,m,ao⟩:=OwT.of m am (by simp)
 refine Ac f Z λa f=>AC ?_
 refine Ab f Z λa f=>Ab f Z λa f=>Bm (R:=R0) (xs:=([x1,x2]:LI)) (RI.one _) m T31 f Z Z Z (by decide) (All2.cons Z (All2.cons Z (All2.nil _))) λap aq w a m ar f=> ?_
 obtain⟨au,av,m,aw⟩:=Ow.stamp (RI.mono _) ar m
 have ac:=rd2 av ac
 have ao:=OwT.mono (RSl.mono (RI.mono _)) av ao
 refine Bm (R:=R1) (xs:=([([x1,x2]:LI)]:LL)) (RSl.one _) m T27 f Z Z Z (by decide) (All2.cons aw (All2.nil _)) λax ay w a m az f=>Ac f Z λa f=>Aa (Ag ?_)
 obtain⟨aA,aB,m,aC⟩:=Ow.stamp (RSl.mono (RI.mono _)) az m
 have ac:=rd2 aB ac
 have ao:=OwT.mono (RSl.mono (RI.mono _)) aB ao
 have⟨aD,aE,hd⟩:=bind_some hd
 refine AL (λa w=>∃aF:LL,aF=aD∧∃(aG:GH) (aH:Value),GLe aA aG∧Fr a 71 [(8,aH)]∧Mem W aG w (H)∧R2 aG aH aF) ?_ ?_
 ·refine Ak ?_
  have m:=m.fr 1
  refine AK (λaI a w=>∃aJ:LL,∃aK:LL,(aJ,aK)=aI∧∃(aL:GH) (aM:Value) (aN:Itm) (aO:Value),GLe aA aL∧Fr a 71 [(3,(pb ad)),(7,aM),(8,aO)]∧Mem W aL w (ib ad 29 [aa]::aN::H)∧OwT R1 31 aL aN aM aJ∧R2 aL aO aK) aE ⟨_,_,Z,_,al,an,ay,gr,f.k Z,m,ao,aC⟩ ?_
  clear aE f m
  rintro aI aP aQ aR a w ⟨aJ,aK,rfl,aL,aM,aN,aO,aS,f,m,aT,aU⟩
  have ac:=rd2 aS ac
  refine Ag (Af ?_)
  refine Ab f Z λa f=>l_ownT_len 1 m aT Z underlying27 f Z Z λa f=>Ai f Z Z C4 λa f=>Aa ?_
  rcases Ae aQ with⟨aV,aQ⟩|⟨aV,aQ⟩
  ·refine Am f Z aV ?_
   refine An ?_
   refine Ak (Ag ?_)
   refine A9 13 AN (by kernel_rfl) m ?_
   refine CW (i:=0) (ds:=[aa]) 13 0 CV Z Z Z Z (by kernel_rfl) Z f Z Z Z λa f=>Ah 1 13 Z f Z λa f=> ?_
   have⟨aW,aX,aQ⟩:=bind_some aQ
   refine q_ownT_at (i:=2) (listed':= #[true,true,true,false,false,false,false,false,false,false,false,false,false]) 13 1 m aT Z T27 aX Z (by kernel_rfl) Z f Z Z Z Z λaY a aZ f=>EK (i:=3) (listed':= #[true,true,true,true,false,false,false,false,false,false,false,false,false]) 13 1 aT Z Bq aZ aX Z (by kernel_rfl) Z f Z Z Z λa0 a a1 f=> ?_
   have⟨a2,a3,aQ⟩:=bind_some aQ
   refine BC 4 13 T31 a1 a3 Z f Z Z λa4 a5 a a6 a7 f=> ?_
   subst a7
   refine BB 5 13 Pl2 a6 Z f Z λa f=>Ah 6 13 Z f Z λa f=> ?_
   have⟨a8,a9,aQ⟩:=bind_some aQ
   refine q_ownT_at (i:=7) (listed':= #[true,true,true,true,true,true,true,true,false,false,false,false,false]) 13 1 m aT Z T27 a9 Z (by kernel_rfl) Z f Z Z Z Z λba a bb f=>EK (i:=8) (listed':= #[true,true,true,true,true,true,true,true,true,false,false,false,false]) 13 1 aT Z Bq bb a9 Z (by kernel_rfl) Z f Z Z Z λbc a bd f=> ?_
   have⟨be,bf,aQ⟩:=bind_some aQ
   refine BC 9 13 T31 bd bf Z f Z Z λbg bh a bi bj f=> ?_
   subst bj
   refine BB 10 13 Pl2 bi Z f Z λa f=>CG 11 Z λbk w bl m bm bm=> ?_
   have aU:=rd2 bl aU
   have ac:=rd2 bl ac
   have aT:=OwT.mono (RSl.mono (RI.mono _)) bl aT
   have⟨bn,bo,aQ⟩:=bind_some aQ
   refine A1 f Z call107 (Wk.p0 m ac bo) λbp bq br w bs m bt a f=> ?_
   obtain⟨bu,rfl,rfl,bv⟩:=bt
   have aU:=rd2 bs aU
   have aT:=OwT.mono (RSl.mono (RI.mono _)) bs aT
   refine Aa ?_
   refine bm bq [] _ _ bs m ?_
   refine q_p 12 13 Z f (λ_=>Ce (f.e Z)) λa f=>AY λbw w bx m=> ?_
   have aU:=rd2 bx aU
   have bv:=rd2 bx bv
   have aT:=OwT.mono (RSl.mono (RI.mono _)) bx aT
   refine AC ?_
   refine Ab f Z λa f=> ?_
   have⟨bz,bA,aQ⟩:=bind_some aQ
   refine l_ownT_tail 1 m aT Z T27 f Z Z Z bA λbB bC w a m bD f=>Ac f Z λa f=>AC ?_
   refine Ac f Z λa f=>Aa ?_
   have⟨bE,bF,aQ⟩:=bind_some aQ
   refine AL (λa w=>∃bG:LL,∃bH:LL,(bG,bH)=bE∧∃(bI:GH) (bJ:Value) (bK:Itm) (bL:Value),GLe bw bI∧Fr a 71 [(3,(pb ad)),(7,bJ),(8,bL)]∧Mem W bI w (ib ad 29 [aa]::bK::H)∧OwT R1 31 bI bK bJ bG∧R2 bI bL bH) ?_ ?_
   ·refine Ak ?_
    refine AK (λbM a w=>∃bN:LL,∃bO:LL,∃bP:Int,(bN,bO,bP)=bM∧∃(bQ:GH) (bR:Value) (bS:Itm) (bT:Value),GLe bw bQ∧Fr a 71 [(3,(pb ad)),(7,bR),(8,bT),(9,bu),(10,(iv bP))]∧Mem W bQ w (ib ad 29 [aa]::bS::H)∧OwT R1 31 bQ bS bR bN∧R2 bQ bT bO) bF ⟨_,_,_,Z,_,bC,bB,aO,gr,f.k Z,m,bD,aU⟩ ?_
    clear bF f m
    rintro bM bU bV bW a w ⟨bN,bO,bP,rfl,bQ,bR,bS,bT,bX,f,m,bY,bZ⟩
    have bv:=rd2 bX bv
    refine Ag (Af ?_)
    refine Ab f Z λa f=>Ab f Z λa f=>A5 underlying27 f Z Z bv λa f=>Ai f Z Z AI λa f=>Aa ?_
    rcases Ae bV with⟨b0,bV⟩|⟨b0,bV⟩
    ·refine Am f Z b0 ?_
     refine An ?_
     refine Ag (Ak (Ag ?_))
     refine A9 15 AN (by kernel_rfl) m ?_
     refine Ah 0 15 Z f Z λa f=>Ah 1 15 Z f Z λa f=>Ah 2 15 Z f Z λa f=> ?_
     have⟨b1,b2,bV⟩:=bind_some bV
     refine BC 3 15 T27 bv b2 Z f Z Z λb3 b4 a b5 b6 f=>BB 4 15 Bq b5 Z f Z λa f=> ?_
     have⟨b7,b8,bV⟩:=bind_some bV
     refine BC 5 15 T31 b6 b8 Z f Z Z λb9 ca a cb cc f=> ?_
     subst cc
     refine BB 6 15 Pl2 cb Z f Z λa f=>Ah 7 15 Z f Z λa f=>Ah 8 15 Z f Z λa f=> ?_
     have⟨cd,ce,bV⟩:=bind_some bV
     refine BC 9 15 T27 bv ce Z f Z Z λcf cg a ch ci f=>BB 10 15 Bq ch Z f Z λa f=> ?_
     have⟨cj,ck,bV⟩:=bind_some bV
     refine BC 11 15 T31 ci ck Z f Z Z λcl cm a cn co f=> ?_
     subst co
     refine BB 12 15 Pl2 cn Z f Z λa f=> ?_
     have⟨cp,cq,bV⟩:=bind_some bV
     refine C2 (i:=13) 15 Z (by kernel_rfl) Z f Z Z Z call89 (λ_ _ w cr m=>Wk.z m (rd2 cr bZ) cq) λa f=>q_p 14 15 Z f (λ_=>Bt (f.e Z)) λa f=>AY λct w cu m=> ?_
     have bZ:=rd2 cu bZ
     have bv:=rd2 cu bv
     have bY:=OwT.mono (RSl.mono (RI.mono _)) cu bY
     refine Aa ?_
     rcases Ae bV with⟨cv,bV⟩|⟨cv,bV⟩
     ·refine Am f Z cv ?_
      refine Af ?_
      refine Ab f Z λa f=>Ab f Z λa f=>Ab f Z λa f=> ?_
      have⟨cw,cx,bV⟩:=bind_some bV
      refine Be T27 f Z Z Z bv cx λcy cz a cA cB f=>AM m Bq f Z Z cA λa f=> ?_
      have⟨cC,cD,bV⟩:=bind_some bV
      refine A1 f Z call137 (Wk.l m bZ cB cD) λcE cF cG w cH m cI a f=> ?_
      obtain⟨cJ,rfl,rfl,cK⟩:=cI
      have bv:=rd2 cH bv
      have bY:=OwT.mono (RSl.mono (RI.mono _)) cH bY
      refine Ac f Z λa f=>Aa (Ao ?_)
      refine Ab f Z λa f=>Ab f Z λa f=>Ab f Z λa f=> ?_
      have⟨cL,cM,bV⟩:=bind_some bV
      refine Be T27 f Z Z Z bv cM λcN cO a cP cQ f=>AM m Bq f Z Z cP λa f=>Bm (R:=R1) (xs:=([cL]:LL)) (RSl.one _) m T27 f Z Z Z (by decide) (All2.cons cQ (All2.nil _)) λcR cS w a m cT f=> ?_
      have⟨cU,cV,bV⟩:=bind_some bV
      refine l_appendT (RSl.one _) 2 m bY Z (by simp) T27 Z (by decide) f Z Z Z (Ow.src (j:=0) cT m Z) cV λcW cX w a m cY f=>Ac f Z λa f=>Aa (Ao ?_)
      refine Ab f Z λa f=>Ai f Z Z Az λa f=>Ac f Z λa f=>Aa ?_
      have m:=m.fr 2
      have m:=m.fr 2
      have m:=m.eraseAt 2
      obtain rfl:=sj bV
      exact⟨_,Z,_,_,_,Z,_,cX,cW,cJ,(gt bX (gt cu cH)),f.k Z,m,cY,cK⟩
     ·refine Aj f Z cv ?_
      refine An ?_
      refine Ao ?_
      refine Ab f Z λa f=>Ai f Z Z Az λa f=>Ac f Z λa f=>Aa ?_
      obtain rfl:=sj bV
      exact⟨_,Z,_,_,_,Z,_,bR,bS,bT,(gt bX cu),f.k Z,m,bY,bZ⟩
    ·refine Aj f Z b0 ?_
     refine AE Z ?_
     obtain rfl:=sj bV
     obtain rfl:=bW _ rfl
     exact⟨_,_,Z,_,bR,bS,bT,bX,f.k Z,m,bY,bZ⟩
   ·rintro a w ⟨bG,bH,rfl,bI,bJ,bK,bL,cZ,f,m,c0,c1⟩
    obtain rfl:=sj aQ
    exact⟨_,Z,_,_,Z,_,bJ,bK,bL,(gt aS (gt bl (gt bs (gt bx cZ)))),f.k Z,m,c0,c1⟩
  ·refine Aj f Z aV ?_
   refine AE Z ?_
   have m:Mem W aL w H:=Mem.drop (H':=[ib ad 29 [aa],aN]) m
   obtain rfl:=sj aQ
   obtain rfl:=aR _ rfl
   exact⟨_,Z,_,aO,aS,f.k Z,m,aU⟩
 ·rintro a w ⟨aF,rfl,aG,aH,c2,f,m,c3⟩
  refine Af ?_
  refine Ab f Z λa f=>Ac f Z λa f=>Aa ?_
  refine As ?_
  obtain rfl:=sj hd
  exact⟨[aH],f.g Z,f.d,_,[],(gt ai (gt av (gt aB c2))),m,_,Z,Z,c3⟩
theorem Wk.p {v0:Value}{x0:LI}(m:Mem W G w (H))(h0:R1 G v0 x0){y:(LI)}(hd:D.p x0=some y):
  Calls prog 117 #[v0] w (Res W G H (λG' Ho v=>∃r0:Value,∃i0:Itm,Ho=[i0]∧r0=v∧Ow R0 2 G' i0 r0 y)):=by
 refine Ay (args:=[v0]) (N:=6) [.tmp 2] func117 Z Z (lb Z) Z λa f=> ?_
 unfold D.p at hd
 refine Af ?_
 refine Ac f Z λa f=>AC ?_
 refine Bm (R:=R0) (xs:=([]:LI)) (RI.one _) m T31 f Z Z Z (by decide) (All2.nil _) λaa ab w a m ac f=>Ab f Z λa f=> ?_
 have⟨ad,ae,hd⟩:=bind_some hd
 refine By (RI.one _) 0 m ac Z T31 Z (by decide) f Z Z Z (h0.src m) ae λaf ag w a m ah f=>Ac f Z λa f=>Aa ?_
 refine As ?_
 obtain rfl:=sj hd
 exact⟨[ag],f.g Z,f.d,_,[af],gr,m,_,_,Z,Z,ah⟩
theorem Wk.J {v0:Value}{x0:LI}{x1:Int}(m:Mem W G w (H))(h0:R1 G v0 x0){y:(LI)}(hd:D.J x0 x1=some y):
  Calls prog 90 #[v0,(iv x1)] w (Res W G H (λG' Ho v=>∃r0:Value,Ho=[]∧r0=v∧R1 G' r0 y)):=by
 refine Ay (args:=[v0,(iv x1)]) (N:=46) [.tmp 4] func90 Z Z (lb Z) Z λa f=> ?_
 unfold D.J at hd
 refine Af ?_
 refine Ac f Z λa f=>AC ?_
 refine Ac f Z λa f=>Aa (Ag ?_)
 have⟨aa,ab,hd⟩:=bind_some hd
 refine AL (λa w=>∃ac:Int,ac=aa∧∃(ad:GH),GLe G ad∧Fr a 46 [(0,v0),(1,(iv x1)),(5,(iv ac))]∧Mem W ad w (H)) ?_ ?_
 ·refine Ak ?_
  refine AK (λae a w=>∃af:Int,af=ae∧∃(ag:GH),GLe G ag∧Fr a 46 [(0,v0),(1,(iv x1)),(5,(iv af))]∧Mem W ag w (H)) ab ⟨_,Z,_,gr,f.k Z,m⟩ ?_
  clear ab f m
  rintro ae ah ai aj a w ⟨af,rfl,ag,ak,f,m⟩
  have h0:=rd1 ak h0
  refine Ag (Af ?_)
  refine Ab f Z λa f=>Ab f Z λa f=>A5 underlying31 f Z Z h0 λa f=>Ai f Z Z AI λa f=>Ab f Z λa f=> ?_
  have⟨al,am,ai⟩:=bind_some ai
  refine BJ 7 (λa w=>∃an,GLe ag an∧Mem W an w (H)∧Fr a 46 [(0,v0),(1,(iv x1)),(5,(iv af)),(7,(iv af)),(8,v0),(9,(iv (x0.length:Int))),(10,(.bool (decide (af<(x0.length:Int))))),(11,(.bool (decide (af<(x0.length:Int))))),(18,(.bool al))]) ?_ ?_
  ·rcases Ae am with⟨ao,am⟩|⟨ao,am⟩
   ·refine AH f ao ?_
    refine Ab f Z λa f=>AH f ao ?_
    refine Ab f Z λa f=>AH f ao ?_
    have⟨ap,aq,am⟩:=bind_some am
    refine Be T31 f Z Z Z h0 aq λar au a av aw f=> ?_
    subst aw
    refine AH f ao ?_
    refine AM m Pl2 f Z Z av λa f=>AH f ao ?_
    refine Ab f Z λa f=>AH f ao ?_
    refine Ai f Z Z AI λa f=>l_o f (A7 (f.e Z) ao (f.e Z)) λa f=> ?_
    obtain rfl:=sj am
    exact⟨_,gr,m,f.k Z⟩
   ·refine AJ f ao λa f=> ?_
    refine AJ f ao λa f=>AJ f ao λa f=>AJ f ao λa f=>AJ f ao λa f=>AJ f ao λa f=>l_o f (A8 (f.e Z) ao (f.e Z)) λa f=> ?_
    obtain rfl:=sj am
    exact⟨_,gr,m,f.k Z⟩
  ·rintro a w ⟨an,ax,m,f⟩
   refine Aa ?_
   rcases Ae ai with⟨ay,ai⟩|⟨ay,ai⟩
   ·refine Am f Z ay ?_
    refine An ?_
    refine Ak (Ao ?_)
    refine Ab f Z λa f=>Ai f Z Z Az λa f=>Ac f Z λa f=>Aa ?_
    obtain rfl:=sj ai
    exact⟨_,Z,_,Z,_,(gt ak ax),f.k Z,m⟩
   ·refine Aj f Z ay ?_
    refine AE Z ?_
    obtain rfl:=sj ai
    obtain rfl:=aj _ rfl
    exact⟨_,Z,_,(gt ak ax),f.k Z,m⟩
 ·rintro a w ⟨ac,rfl,ad,az,f,m⟩
  have h0:=rd1 az h0
  refine Ag (Af ?_)
  refine Ab f Z λa f=>Ab f Z λa f=>A5 underlying31 f Z Z h0 λa f=>Ai f Z Z AI λa f=>Ab f Z λa f=> ?_
  have⟨aA,aB,hd⟩:=bind_some hd
  refine BJ 7 (λa w=>∃aC,GLe ad aC∧Mem W aC w (H)∧Fr a 46 [(0,v0),(1,(iv x1)),(5,(iv ac)),(21,(iv ac)),(22,v0),(23,(iv (x0.length:Int))),(24,(.bool (decide (ac<(x0.length:Int))))),(25,(.bool (decide (ac<(x0.length:Int))))),(32,(.bool aA))]) ?_ ?_
  ·rcases Ae aB with⟨aD,aB⟩|⟨aD,aB⟩
   ·refine AH f aD ?_
    refine Ab f Z λa f=>AH f aD ?_
    refine Ab f Z λa f=>AH f aD ?_
    have⟨aE,aF,aB⟩:=bind_some aB
    refine Be T31 f Z Z Z h0 aF λaG aH a aI aJ f=> ?_
    subst aJ
    refine AH f aD ?_
    refine AM m Pl2 f Z Z aI λa f=>AH f aD ?_
    refine Ab f Z λa f=>AH f aD ?_
    refine Ai f Z Z B5 λa f=>l_o f (A7 (f.e Z) aD (f.e Z)) λa f=> ?_
    obtain rfl:=sj aB
    exact⟨_,gr,m,f.k Z⟩
   ·refine AJ f aD λa f=> ?_
    refine AJ f aD λa f=>AJ f aD λa f=>AJ f aD λa f=>AJ f aD λa f=>AJ f aD λa f=>l_o f (A8 (f.e Z) aD (f.e Z)) λa f=> ?_
    obtain rfl:=sj aB
    exact⟨_,gr,m,f.k Z⟩
  ·rintro a w ⟨aC,aK,m,f⟩
   have h0:=rd1 aK h0
   refine Aa ?_
   rcases Ae hd with⟨aL,hd⟩|⟨aL,hd⟩
   ·refine Am f Z aL ?_
    refine Af ?_
    refine Ab f Z λa f=>Ac f Z λa f=>Aa ?_
    refine As ?_
    obtain rfl:=sj hd
    exact⟨[v0],f.g Z,f.d,_,[],(gt az aK),m,_,Z,Z,h0⟩
   ·refine Aj f Z aL ?_
    refine An ?_
    refine Af ?_
    refine Ab f Z λa f=>Ab f Z λa f=> ?_
    have⟨aM,aN,hd⟩:=bind_some hd
    refine Ew T31 f Z Z h0 (.inl ⟨Z,Z⟩) (.inr ⟨_,_,Z,Z⟩) aN λaO a aP f=> ?_
    have⟨aQ,aR,hd⟩:=bind_some hd
    refine A1 f Z call117 (Wk.p m aP aR) λaS aT aU w aV m aW a f=> ?_
    obtain⟨aX,aY,rfl,rfl,aZ⟩:=aW
    have h0:=rd1 aV h0
    refine Ab f Z λa f=>Bm (R:=R0) (xs:=([x1]:LI)) (RI.one _) m T31 f Z Z Z (by decide) (All2.cons Z (All2.nil _)) λa0 a1 w a m a2 f=> ?_
    have⟨a3,a4,hd⟩:=bind_some hd
    refine By (RI.one _) 1 m aZ Z T31 Z (by decide) f Z Z Z (Ow.src (j:=0) a2 m Z) a4 λa5 a6 w a m a7 f=>Ac f Z λa f=>AC ?_
    refine Ab f Z λa f=>Ab f Z λa f=>Ab f Z λa f=> ?_
    have⟨a8,a9,hd⟩:=bind_some hd
    refine Ew T31 f Z Z h0 (.inr ⟨_,_,Z,Z⟩) (.inl ⟨Z,Z⟩) a9 λba a bb f=> ?_
    have⟨bc,bd,hd⟩:=bind_some hd
    refine By (RI.one _) 1 m a7 Z T31 Z (by decide) f Z Z Z (bb.src m) bd λbe bf w a m bg f=>Ac f Z λa f=>Aa ?_
    refine As ?_
    have m:=m.fr 1
    obtain⟨bh,bi,m,bj⟩:=Ow.stamp (RI.mono _) bg m
    have m:Mem W bh w H:=Mem.drop (H':=[a0]) m
    obtain rfl:=sj hd
    exact⟨[bf],f.g Z,f.d,_,[],(gt az (gt aK (gt aV bi))),m,_,Z,Z,bj⟩
theorem Wk.B {v0:Value}{x0:LI}{x1:Int}(m:Mem W G w (H))(h0:R1 G v0 x0){y:(LI)}(hd:D.B x0 x1=some y):
  Calls prog 138 #[v0,(iv x1)] w (Res W G H (λG' Ho v=>∃r0:Value,∃i0:Itm,Ho=[i0]∧r0=v∧Ow R0 2 G' i0 r0 y)):=by
 refine Ay (args:=[v0,(iv x1)]) (N:=28) [.tmp 4] func138 Z Z (lb Z) Z λa f=> ?_
 unfold D.B at hd
 refine Af ?_
 refine Ac f Z λa f=>AC ?_
 refine Bm (R:=R0) (xs:=([]:LI)) (RI.one _) m T31 f Z Z Z (by decide) (All2.nil _) λaa ab w a m ac f=>Ac f Z λa f=>Aa (Ag (Af ?_))
 refine Ac f Z λa f=>Aa ?_
 have⟨ad,ae,hd⟩:=bind_some hd
 refine AL (λa w=>∃af:LI,af=ad∧∃(ag:GH) (ah:Value) (ai:Itm),GLe G ag∧Fr a 28 [(5,ah)]∧Mem W ag w (ai::H)∧Ow R0 2 ag ai ah af) ?_ ?_
 ·refine Ak ?_
  refine AK (λaj a w=>∃ak:LI,∃al:Int,(ak,al)=aj∧∃(am:GH) (an:Value) (ao:Itm),GLe G am∧Fr a 28 [(0,v0),(1,(iv x1)),(5,an),(6,(iv al))]∧Mem W am w (ao::H)∧Ow R0 2 am ao an ak) ae ⟨_,_,Z,_,ab,aa,gr,f.k Z,m,ac⟩ ?_
  clear ae f m
  rintro aj ap aq ar a w ⟨ak,al,rfl,am,an,ao,au,f,m,av⟩
  have h0:=rd1 au h0
  refine Ag (Af ?_)
  refine Ab f Z λa f=>Ab f Z λa f=>A5 underlying31 f Z Z h0 λa f=>Ai f Z Z AI λa f=>Aa ?_
  rcases Ae aq with⟨aw,aq⟩|⟨aw,aq⟩
  ·refine Am f Z aw ?_
   refine An ?_
   refine Ag (Ak (Af ?_))
   refine Ab f Z λa f=>Ab f Z λa f=> ?_
   have⟨ax,ay,aq⟩:=bind_some aq
   refine Be T31 f Z Z Z h0 ay λaz aA a aB aC f=> ?_
   subst aC
   refine AM m Pl2 f Z Z aB λa f=>Ab f Z λa f=>Ai f Z Z B9 λa f=>Aa ?_
   rcases Ae aq with⟨aD,aq⟩|⟨aD,aq⟩
   ·refine Am f Z aD ?_
    refine Ao ?_
    refine Ab f Z λa f=>Ab f Z λa f=>Ab f Z λa f=> ?_
    have⟨aE,aF,aq⟩:=bind_some aq
    refine Be T31 f Z Z Z h0 aF λaG aH a aI aJ f=> ?_
    subst aJ
    refine AM m Pl2 f Z Z aI λa f=>Bm (R:=R0) (xs:=([aE]:LI)) (RI.one _) m T31 f Z Z Z (by decide) (All2.cons Z (All2.nil _)) λaK aL w a m aM f=> ?_
    have⟨aN,aO,aq⟩:=bind_some aq
    refine By (RI.one _) 1 m av Z T31 Z (by decide) f Z Z Z (Ow.src (j:=0) aM m Z) aO λaP aQ w a m aR f=>Ac f Z λa f=>Aa (Ao ?_)
    refine Ab f Z λa f=>Ai f Z Z Az λa f=>Ac f Z λa f=>Aa ?_
    have m:=m.fr 1
    have m:=m.eraseAt 1
    obtain rfl:=sj aq
    exact⟨_,Z,_,_,Z,_,aQ,aP,au,f.k Z,m,aR⟩
   ·refine Aj f Z aD ?_
    refine An ?_
    refine Ao ?_
    refine Ab f Z λa f=>Ai f Z Z Az λa f=>Ac f Z λa f=>Aa ?_
    obtain rfl:=sj aq
    exact⟨_,Z,_,_,Z,_,an,ao,au,f.k Z,m,av⟩
  ·refine Aj f Z aw ?_
   refine AE Z ?_
   obtain rfl:=sj aq
   obtain rfl:=ar _ rfl
   exact⟨_,Z,_,an,ao,au,f.k Z,m,av⟩
 ·rintro a w ⟨af,rfl,ag,ah,ai,aS,f,m,aT⟩
  refine Af ?_
  refine Ab f Z λa f=>Ac f Z λa f=>Aa ?_
  refine As ?_
  obtain rfl:=sj hd
  exact⟨[ah],f.g Z,f.d,_,[ai],aS,m,_,_,Z,Z,aT⟩
theorem Wk.R {aa:Value}{ab:LL}{x1 x2:Int}(m:Mem W G w (H))(ac:R2 G aa ab){y:(LL)}(hd:D.R ab x1 x2=some y):
  Calls prog 91 #[(.agg #[aa]),(iv x1),(iv x2)] w (Res W G H (λG' Ho v=>∃r0:Value,∃i0:Itm,Ho=[i0]∧v=(.agg #[r0])∧Ow R1 31 G' i0 r0 y)):=by
 refine Ay (args:=[(.agg #[aa]),(iv x1),(iv x2)]) (N:=43) [.cell 6 29] func91 Z Z (lb Z) Z λa f=> ?_
 unfold D.R at hd
 refine Af ?_
 refine BO (cs:=[aa]) m f Z Z Z λad w a m f=>BT (cs:=[sn]) zeroValue29 m f Z Z λae w a m f=>AC ?_
 have af:∀w,(Instr.build 29 #[]).run prog w= .ok (.agg #[sn]) w:=by intro w;simp[Instr.build,Instr.fill,Dk,C5,Cs,CH,Cg,Dm]
 refine DQ f Z Z af λa f=>BT (cs:=[sn]) zeroValue29 m f Z Z λag w a m f=>Bb 0 0 (ds:=[sn]) m sizeOf29 f Z Z Z (Ap Z AG) Z (lb Z) Z λw m=>Aa (Ag (Af ?_))
 refine Ac f Z λa f=>Aa ?_
 obtain⟨ah,m,ai⟩:=Ow.nil R1 31 m
 have⟨aj,ak,hd⟩:=bind_some hd
 refine AL (λa w=>∃al:LL,al=aj∧∃(am:GH) (an:Value) (ao:Itm),GLe G am∧Fr a 43 [(6,(pb ae)),(7,(pb ag))]∧Mem W am w (ib ae 29 [sn]::ib ag 29 [an]::ao::H)∧Ow R1 31 am ao an al) ?_ ?_
 ·refine Ak ?_
  have m:=m.fr 1
  have m:=m.fr 2
  have m:Mem W G w (ib ad 29 [aa]::ib ae 29 [sn]::ib ag 29 [sn]::ah::H):=m.fr 3
  refine AK (λap a w=>∃aq:Int,∃ar:LL,(aq,ar)=ap∧∃(au:GH) (av:Value) (aw:Itm),GLe G au∧Fr a 43 [(1,(iv x1)),(2,(iv x2)),(3,(pb ad)),(6,(pb ae)),(7,(pb ag)),(8,(iv aq))]∧Mem W au w (ib ad 29 [aa]::ib ae 29 [sn]::ib ag 29 [av]::aw::H)∧Ow R1 31 au aw av ar) ak ⟨_,_,Z,_,sn,ah,gr,f.k Z,m,ai⟩ ?_
  clear ak f m
  rintro ap ax ay az a w ⟨aq,ar,rfl,au,av,aw,aA,f,m,aB⟩
  have ac:=rd2 aA ac
  refine Ag (Af ?_)
  refine Ab f Z λa f=>Bk underlying29 Z sizeOf27 f Z λa f=>AO 0 0 m Bx f Z Z Z Z λa f=>A5 underlying27 f Z Z ac λa f=>Ai f Z Z AI λa f=>Aa ?_
  rcases Ae ay with⟨aC,ay⟩|⟨aC,ay⟩
  ·refine Am f Z aC ?_
   refine An ?_
   refine Ag (Ak (Af ?_))
   refine Bk underlying29 Z sizeOf27 f Z λa f=>AO 0 0 m Bx f Z Z Z Z λa f=>Ab f Z λa f=> ?_
   have⟨aD,aE,ay⟩:=bind_some ay
   refine Be T27 f Z Z Z ac aE λaF aG a aH aI f=>AM m Bq f Z Z aH λa f=>Ac f Z λa f=>Aa (Ag (Af ?_))
   refine Ab f Z λa f=>Ab f Z λa f=>Ai f Z Z B5 λa f=>Aa ?_
   have⟨aJ,aK,ay⟩:=bind_some ay
   refine AL (λa w=>∃aL:LI,aL=aJ∧∃(aM:GH) (aN:Value),GLe au aM∧Fr a 43 [(1,(iv x1)),(2,(iv x2)),(3,(pb ad)),(6,(pb ae)),(7,(pb ag)),(8,(iv aq)),(9,aN)]∧Mem W aM w (ib ad 29 [aa]::ib ae 29 [sn]::ib ag 29 [av]::aw::H)∧R1 aM aN aL) ?_ ?_
   ·rcases Ae aK with⟨aO,aK⟩|⟨aO,aK⟩
    ·refine Am f Z aO ?_
     refine Ao ?_
     refine Ab f Z λa f=>Ab f Z λa f=> ?_
     have⟨aP,aQ,aK⟩:=bind_some aK
     refine A1 f Z call138 (Wk.B m aI aQ) λaR aS aT w aU m aV a f=> ?_
     obtain⟨aW,aX,rfl,rfl,aY⟩:=aV
     refine Ac f Z λa f=>Aa ?_
     obtain⟨aZ,a2,m,a3⟩:=Ow.stamp (RI.mono _) aY m
     obtain rfl:=sj aK
     exact⟨_,Z,_,aW,(gt aU a2),f.k Z,m,a3⟩
    ·refine Aj f Z aO ?_
     refine An ?_
     obtain rfl:=sj aK
     exact⟨_,Z,_,aG,gr,f.k Z,m,aI⟩
   ·rintro a w ⟨aL,rfl,aM,aN,a4,f,m,a5⟩
    have aB:=Ow.mono (RSl.mono (RI.mono _)) a4 aB
    refine Ag (Af ?_)
    refine Ab f Z λa f=>Ab f Z λa f=>Ai f Z Z B5 λa f=>Aa ?_
    rcases Ae ay with⟨a6,ay⟩|⟨a6,ay⟩
    ·refine Am f Z a6 ?_
     refine Ao ?_
     refine Ab f Z λa f=>Ab f Z λa f=> ?_
     have⟨a7,a8,ay⟩:=bind_some ay
     refine A1 f Z call138 (Wk.B m a5 a8) λa9 ba bb w bc m bd a f=> ?_
     obtain⟨be,bf,rfl,rfl,bg⟩:=bd
     have aB:=Ow.mono (RSl.mono (RI.mono _)) bc aB
     refine Ac f Z λa f=>Aa ?_
     refine A9 5 AN (by kernel_rfl) m ?_
     refine Dc 0 5 underlying29 Z sizeOf27 Z f Z λa f=>Cd 1 5 3 Bx Z Z Z f Z λa f=>Ah 2 5 Z f Z λa f=>CG 3 Z λbh w bi m bj bj=> ?_
     have bg:=od1 bi bg
     have aB:=Ow.mono (RSl.mono (RI.mono _)) bi aB
     have⟨bk,bl,ay⟩:=bind_some ay
     refine A1 f Z call117 (Ow.lendCall (RI.mono _) 0 bg m Z (λbm bn m bo=>Wk.p m bo bl) (λ_ G' _ _ ⟨a0,a1,e1,e2,o0⟩=>⟨a0,a1,e1,e2,Ow.free (RI.free _) G' o0⟩)) λbp bq br w bs m bt a f=> ?_
     obtain⟨bu,bv,rfl,rfl,bw⟩:=bt
     have aB:=Ow.mono (RSl.mono (RI.mono _)) bs aB
     refine Aa ?_
     refine bj bq [bv] _ _ bs m ?_
     refine CG 4 Z λbx w bz m bA bA=> ?_
     have bw:=od1 bz bw
     have aB:=Ow.mono (RSl.mono (RI.mono _)) bz aB
     obtain⟨bB,bC,m,bD⟩:=Ow.stamp (RI.mono _) bw m
     have aB:=Ow.mono (RSl.mono (RI.mono _)) bC aB
     refine Bm (R:=R1) (xs:=([bk]:LL)) (RSl.one _) m T27 f Z Z Z (by decide) (All2.cons bD (All2.nil _)) λbE bF w a m bG f=>Aa ?_
     refine bA bB [bE] _ _ bC m ?_
     refine AY λbH w bI m=> ?_
     have bG:=Ow.mono (RSl.mono (RI.mono _)) bI bG
     have aB:=Ow.mono (RSl.mono (RI.mono _)) bI aB
     have⟨bJ,bK,ay⟩:=bind_some ay
     refine By (RSl.one _) 5 m aB Z T27 Z (by decide) f Z Z Z (Ow.src (j:=0) bG m Z) bK λbL bM w a m bN f=>Bk underlying29 Z sizeOf27 f Z λa f=>Bb 4 0 (ds:=[bM]) m sizeOf27 f Z Z (Ow.cells 5 m bN Z) (Ap (Ow.one1 5 m bN Z) AG) Z (lb Z) Z λw m=>Aa (Ao ?_)
     refine Ab f Z λa f=>Ai f Z Z Az λa f=>Ac f Z λa f=>Aa ?_
     have m:=m.fr 5
     have m:=m.fr 5
     have m:Mem W bH w (ib ae 29 [sn]::ib ag 29 [bM]::bL::bE::bf::ib ad 29 [aa]::H):=m.fr 5
     have m:=m.fr 5
     have m:=m.eraseAt 5
     have m:Mem W bH w (ib ad 29 [aa]::ib ae 29 [sn]::ib ag 29 [bM]::bL::H):=m.eraseAt 4
     obtain rfl:=sj ay
     exact⟨_,Z,_,_,Z,_,bM,bL,(gt aA (gt a4 (gt bc (gt bi (gt bs (gt bz (gt bC bI))))))),f.k Z,m,bN⟩
    ·refine Aj f Z a6 ?_
     refine An ?_
     refine A9 5 AN (by kernel_rfl) m ?_
     refine Dc 0 5 underlying29 Z sizeOf27 Z f Z λa f=>Cd 1 5 2 Bx Z Z Z f Z λa f=>Ah 2 5 Z f Z λa f=>CG 3 Z λbO w bP m bQ bQ=> ?_
     have a5:=rd1 bP a5
     have aB:=Ow.mono (RSl.mono (RI.mono _)) bP aB
     have⟨bR,bS,ay⟩:=bind_some ay
     refine A1 f Z call117 (Wk.p m a5 bS) λbT bU bV w bW m bX a f=> ?_
     obtain⟨bY,bZ,rfl,rfl,b0⟩:=bX
     have aB:=Ow.mono (RSl.mono (RI.mono _)) bW aB
     refine Aa ?_
     refine bQ bU [bZ] _ _ bW m ?_
     refine CG 4 Z λb1 w b2 m b3 b3=> ?_
     have b0:=od1 b2 b0
     have aB:=Ow.mono (RSl.mono (RI.mono _)) b2 aB
     obtain⟨b4,b5,m,b6⟩:=Ow.stamp (RI.mono _) b0 m
     have aB:=Ow.mono (RSl.mono (RI.mono _)) b5 aB
     refine Bm (R:=R1) (xs:=([bR]:LL)) (RSl.one _) m T27 f Z Z Z (by decide) (All2.cons b6 (All2.nil _)) λb7 b8 w a m b9 f=>Aa ?_
     refine b3 b4 [b7] _ _ b5 m ?_
     refine AY λca w cb m=> ?_
     have b9:=Ow.mono (RSl.mono (RI.mono _)) cb b9
     have aB:=Ow.mono (RSl.mono (RI.mono _)) cb aB
     have⟨cc,cd,ay⟩:=bind_some ay
     refine By (RSl.one _) 4 m aB Z T27 Z (by decide) f Z Z Z (Ow.src (j:=0) b9 m Z) cd λce cf w a m cg f=>Bk underlying29 Z sizeOf27 f Z λa f=>Bb 3 0 (ds:=[cf]) m sizeOf27 f Z Z (Ow.cells 4 m cg Z) (Ap (Ow.one1 4 m cg Z) AG) Z (lb Z) Z λw m=>Aa (Ao ?_)
     refine Ab f Z λa f=>Ai f Z Z Az λa f=>Ac f Z λa f=>Aa ?_
     have m:=m.fr 4
     have m:=m.fr 4
     have m:Mem W ca w (ib ae 29 [sn]::ib ag 29 [cf]::ce::b7::ib ad 29 [aa]::H):=m.fr 4
     have m:=m.fr 4
     have m:Mem W ca w (ib ad 29 [aa]::ib ae 29 [sn]::ib ag 29 [cf]::ce::H):=m.eraseAt 4
     obtain rfl:=sj ay
     exact⟨_,Z,_,_,Z,_,cf,ce,(gt aA (gt a4 (gt bP (gt bW (gt b2 (gt b5 cb)))))),f.k Z,m,cg⟩
  ·refine Aj f Z aC ?_
   refine AE Z ?_
   have m:=m.fr 3
   have m:=m.fr 3
   have m:Mem W au w (ib ae 29 [sn]::ib ag 29 [av]::aw::ib ad 29 [aa]::H):=m.fr 3
   have m:=m.eraseAt 3
   obtain rfl:=sj ay
   obtain rfl:=az _ rfl
   exact⟨_,Z,_,av,aw,aA,f.k Z,m,aB⟩
 ·rintro a w ⟨al,rfl,am,an,ao,ch,f,m,ci⟩
  refine Af ?_
  refine Bp 1 0 (ds:=[an]) m CV f Z Z Z Z Z λa f=>Bb 0 0 (ds:=[an]) m sizeOf29 f Z Z Z (Ap (Ow.one1 2 m ci Z) AG) Z (lb Z) Z λw m=>Aa ?_
  refine As ?_
  have cj:=rr_agg (P:=prog) 0 m CV f (s:=6) rfl rfl rfl
  have m:=m.fr 2
  have m:=m.eraseAt 2
  have m:=m.eraseAt 1
  obtain rfl:=sj hd
  exact⟨[(.agg #[an])],⟨cj,trivial⟩,f.d,_,[ao],ch,m,_,_,Z,Z,ci⟩
theorem Wk.y {aa:Value}{ab:LL}(m:Mem W G w (H))(ac:R2 G aa ab){y:(LL)×Bool}(hd:D.y ab=some y):
  Calls prog 30 #[(.agg #[aa])] w (Res W G H (λG' Ho v=>∃r0:Value,∃i0:Itm,Ho=[i0]∧v= .tuple #[r0,(.bool y.2)]∧Ow R1 31 G' i0 r0 y.1)):=by
 refine Ay (args:=[(.agg #[aa])]) (N:=81) [.tmp 2,.tmp 3] func30 Z Z (lb Z) Z λa f=> ?_
 unfold D.y at hd
 refine Af ?_
 refine BO (cs:=[aa]) m f Z Z Z λad w a m f=>Ac f Z λa f=>Ac f Z λa f=>Aa (Ag (Af ?_))
 refine Bp 0 0 (ds:=[aa]) m CV f Z Z Z Z Z λa f=> ?_
 have⟨ae,af,hd⟩:=bind_some hd
 refine Bz f Z call48 (Wk.o0 m ac af) λag w ah m a f=> ?_
 have ac:=rd2 ah ac
 refine l_o f (Bt (f.e Z)) λa f=>Aa ?_
 rcases Ae hd with⟨ai,hd⟩|⟨ai,hd⟩
 ·refine Am f Z ai ?_
  refine Af ?_
  refine Bm (R:=R1) (xs:=([]:LL)) (RSl.one _) m T27 f Z Z Z (by decide) (All2.nil _) λaj ak w a m al f=>Ac f Z λa f=>Ac f Z λa f=>Aa ?_
  refine As ?_
  have m:=m.eraseAt 1
  obtain rfl:=sj hd
  exact⟨[ak,(.bool false)],⟨f.get _ _ Z,f.get _ _ Z,trivial⟩,f.d,_,[aj],ah,m,_,_,Z,Z,al⟩
 ·refine Aj f Z ai ?_
  refine An ?_
  refine Af ?_
  refine Bk underlying29 Z sizeOf27 f Z λa f=>AO 0 0 m Bx f Z Z Z Z λa f=>A5 underlying27 f Z Z ac λa f=> ?_
  have⟨am,an,hd⟩:=bind_some hd
  refine DS (R:=R1) m T27 Z (by decide) (RSl.nil R0 ag) f Z Z Z an λao ap w a m aq f=>Ac f Z λa f=>AC ?_
  refine Bp 1 0 (ds:=[aa]) m CV f Z Z Z Z Z λa f=>BT (cs:=[sn]) zeroValue29 m f Z Z λar w a m f=>Bb 0 0 (ds:=[aa]) m sizeOf29 f Z Z Z (Ap ac.one1 AG) Z (lb Z) Z λw m=>Aa (Ag (Af ?_))
  refine Ac f Z λa f=>Aa ?_
  have⟨au,av,hd⟩:=bind_some hd
  refine AL (λa w=>∃q_2835':LL,au= .inl q_2835'∧∃aw:LL,aw=q_2835'∧∃(ax:GH) (ay:Itm),GLe ag ax∧Fr a 81 [(4,ap)]∧Mem W ax w (ay::H)∧Ow R1 31 ax ay ap aw) ?_ ?_
  ·refine Ak ?_
   have m:=m.fr 2
   refine AK (λaz a w=>∃aA:LL,∃aB:Int,∃aC:LL,(aA,aB,aC)=az∧∃(aD:GH) (aE:Itm) (aF:Value),GLe ag aD∧Fr a 81 [(1,(pb ad)),(4,ap),(5,(pb ar)),(6,(iv aB))]∧Mem W aD w (ib ad 29 [aa]::ib ar 29 [aF]::aE::H)∧Ow R1 31 aD aE ap aA∧R2 aD aF aC) av ⟨_,_,_,Z,_,ao,aa,gr,f.k Z,m,aq,ac⟩ ?_
   clear av f m
   rintro az aG aH aI a w ⟨aA,aB,aC,rfl,aD,aE,aF,aJ,f,m,aK,aL⟩
   have ac:=rd2 aJ ac
   refine Ag (Af ?_)
   refine Ab f Z λa f=>Bk underlying29 Z sizeOf27 f Z λa f=>AO 0 0 m Bx f Z Z Z Z λa f=>A5 underlying27 f Z Z ac λa f=>Ai f Z Z AI λa f=>Aa ?_
   rcases Ae aH with⟨aM,aH⟩|⟨aM,aH⟩
   ·refine Am f Z aM ?_
    refine An ?_
    refine Ag (Ak ?_)
    have⟨aN,aO,aH⟩:=bind_some aH
    refine AL (λa w=>∃q_4951':LL×LL,aN= .inl q_4951'∧∃aP:LL,∃aQ:LL,(aP,aQ)=q_4951'∧∃(aR:GH) (aS:Itm) (aT:Value),GLe aD aR∧Fr a 81 [(1,(pb ad)),(4,ap),(5,(pb ar)),(6,(iv aB))]∧Mem W aR w (ib ad 29 [aa]::ib ar 29 [aT]::aS::H)∧Ow R1 31 aR aS ap aP∧R2 aR aT aQ) ?_ ?_
    ·refine Ak ?_
     refine AK (λaU a w=>∃aV:LL,∃aW:LL,(aV,aW)=aU∧∃(aX:GH) (aY:Itm) (aZ:Value),GLe aD aX∧Fr a 81 [(1,(pb ad)),(4,ap),(5,(pb ar)),(6,(iv aB))]∧Mem W aX w (ib ad 29 [aa]::ib ar 29 [aZ]::aY::H)∧Ow R1 31 aX aY ap aV∧R2 aX aZ aW) aO ⟨_,_,Z,_,aE,aF,gr,f.k Z,m,aK,aL⟩ ?_
     clear aO f m
     rintro aU a0 a1 a2 a w ⟨aV,aW,rfl,aX,aY,aZ,a3,f,m,a4,a5⟩
     refine Ag (Af ?_)
     refine Bk underlying29 Z sizeOf27 f Z λa f=>AO 1 0 m Bx f Z Z Z Z λa f=>Ab f Z λa f=> ?_
     have⟨a6,a7,a1⟩:=bind_some a1
     refine Be T27 f Z Z Z a5 a7 λa8 a9 a ba bb f=>AM m Bq f Z Z ba λa f=>A5 underlying31 f Z Z bb λa f=>Ai f Z Z C4 λa f=>Aa ?_
     rcases Ae a1 with⟨bc,a1⟩|⟨bc,a1⟩
     ·refine Am f Z bc ?_
      refine An ?_
      refine Ak (Ag ?_)
      refine A9 11 AN (by kernel_rfl) m ?_
      refine CW (i:=0) (ds:=[aZ]) 11 1 CV Z Z Z Z (by kernel_rfl) Z f Z Z Z λa f=>Ah 1 11 Z f Z λa f=>Dc 2 11 underlying29 Z sizeOf27 Z f Z λa f=>Cd 3 11 1 Bx Z Z Z f Z λa f=>Ah 4 11 Z f Z λa f=> ?_
      have⟨bd,be,a1⟩:=bind_some a1
      refine BC 5 11 T27 a5 be Z f Z Z λbf bg a bh bi f=>BB 6 11 Bq bh Z f Z λa f=> ?_
      have⟨bj,bk,a1⟩:=bind_some a1
      refine BC 7 11 T31 bi bk Z f Z Z λbl bm a bn bo f=> ?_
      subst bo
      refine BB 8 11 Pl2 bn Z f Z λa f=>CG 9 Z λbp w bq m br br=> ?_
      have a5:=rd2 bq a5
      have a4:=Ow.mono (RSl.mono (RI.mono _)) bq a4
      have⟨bs,bt,a1⟩:=bind_some a1
      refine A1 f Z call88 (Wk.X m a5 bt) λbu bv bw w bx m bz a f=> ?_
      obtain⟨bA,rfl,rfl,bB⟩:=bz
      have a5:=rd2 bx a5
      have a4:=Ow.mono (RSl.mono (RI.mono _)) bx a4
      refine Aa ?_
      refine br bv [] _ _ bx m ?_
      refine q_p 10 11 Z f (λ_=>Ce (f.e Z)) λa f=>AY λbC w bD m=> ?_
      have bB:=rd2 bD bB
      have a5:=rd2 bD a5
      have a4:=Ow.mono (RSl.mono (RI.mono _)) bD a4
      refine AC ?_
      refine Ac f Z λa f=>Aa ?_
      have⟨bE,bF,a1⟩:=bind_some a1
      refine AL (λa w=>∃q_5495':LL×LL,bE= .inl q_5495'∧∃bG:LL,∃bH:LL,(bG,bH)=q_5495'∧∃(bI:GH) (bJ:Itm) (bK:Value),GLe bC bI∧Fr a 81 [(1,(pb ad)),(4,ap),(5,(pb ar)),(6,(iv aB))]∧Mem W bI w (ib ad 29 [aa]::ib ar 29 [bK]::bJ::H)∧Ow R1 31 bI bJ ap bG∧R2 bI bK bH) ?_ ?_
      ·refine Ak ?_
       refine AK (λbL a w=>∃bM:LL,∃bN:Int,∃bO:LL,(bM,bN,bO)=bL∧∃(bP:GH) (bQ:Itm) (bR:Value),GLe bC bP∧Fr a 81 [(1,(pb ad)),(4,ap),(5,(pb ar)),(6,(iv aB)),(7,bA),(8,(iv bN))]∧Mem W bP w (ib ad 29 [aa]::ib ar 29 [bR]::bQ::H)∧Ow R1 31 bP bQ ap bM∧R2 bP bR bO) bF ⟨_,_,_,Z,_,aY,aZ,gr,f.k Z,m,a4,a5⟩ ?_
       clear bF f m
       rintro bL bS bT bU a w ⟨bM,bN,bO,rfl,bP,bQ,bR,bV,f,m,bW,bX⟩
       have bB:=rd2 bV bB
       refine Ag (Af ?_)
       refine Ab f Z λa f=>Ab f Z λa f=>A5 underlying27 f Z Z bB λa f=>Ai f Z Z AI λa f=>Aa ?_
       rcases Ae bT with⟨bY,bT⟩|⟨bY,bT⟩
       ·refine Am f Z bY ?_
        refine An ?_
        refine Ag (Ak (Af ?_))
        refine Ab f Z λa f=>Ab f Z λa f=> ?_
        have⟨bZ,b0,bT⟩:=bind_some bT
        refine Be T27 f Z Z Z bB b0 λb1 b2 a b3 b4 f=>AM m Bq f Z Z b3 λa f=> ?_
        have⟨b5,b6,bT⟩:=bind_some bT
        refine Be T31 f Z Z Z b4 b6 λb7 b8 a b9 ca f=> ?_
        subst ca
        refine AM m Pl2 f Z Z b9 λa f=>Ac f Z λa f=>AC ?_
        refine Ab f Z λa f=>Ab f Z λa f=> ?_
        have⟨cb,cc,bT⟩:=bind_some bT
        refine Be T27 f Z Z Z bB cc λcd ce a cf cg f=>AM m Bq f Z Z cf λa f=> ?_
        have⟨ch,ci,bT⟩:=bind_some bT
        refine Be T31 f Z Z Z cg ci λcj ck a cl cm f=> ?_
        subst cm
        refine AM m Pl2 f Z Z cl λa f=>Ac f Z λa f=>Aa (Ag (Af ?_))
        refine Ab f Z λa f=>Ab f Z λa f=>Ab f Z λa f=> ?_
        have⟨cn,co,bT⟩:=bind_some bT
        refine Bz f Z call89 (Wk.z m bB co) λcp w cq m a f=> ?_
        have bX:=rd2 cq bX
        have bW:=Ow.mono (RSl.mono (RI.mono _)) cq bW
        refine Aa ?_
        rcases Ae bT with⟨cr,bT⟩|⟨cr,bT⟩
        ·refine Am f Z cr ?_
         refine Af ?_
         refine Bm (R:=R1) (xs:=([]:LL)) (RSl.one _) m T27 f Z Z Z (by decide) (All2.nil _) λct cu w a m cv f=>Ac f Z λa f=>Ac f Z λa f=>Aa ?_
         refine As ?_
         have m:=m.eraseAt 3
         have m:=m.eraseAt 2
         have m:=m.eraseAt 1
         obtain rfl:=sj bT
         obtain rfl:=bU _ rfl
         obtain rfl:=sj a1
         obtain rfl:=a2 _ rfl
         obtain rfl:=sj aH
         obtain rfl:=aI _ rfl
         obtain rfl:=sj hd
         exact⟨[cu,(.bool false)],⟨f.get _ _ Z,f.get _ _ Z,trivial⟩,f.d,_,[ct],(gt ah (gt aJ (gt a3 (gt bq (gt bx (gt bD (gt bV cq))))))),m,_,_,Z,Z,cv⟩
        ·refine Aj f Z cr ?_
         refine An ?_
         refine Af ?_
         refine Ab f Z λa f=>Ab f Z λa f=>Ab f Z λa f=>Ab f Z λa f=> ?_
         have⟨cw,cx,bT⟩:=bind_some bT
         refine B1 2 m bW Z T27 f Z Z Z cx λcy a cz f=>CC 2 m bW Z Bq f Z Z cz cx λcA a cB f=>Ab f Z λa f=> ?_
         have⟨cC,cD,bT⟩:=bind_some bT
         refine A1 f Z call90 (Wk.J m cB cD) λcE cF cG w cH m cI a f=> ?_
         obtain⟨cJ,rfl,rfl,cK⟩:=cI
         have bX:=rd2 cH bX
         have bW:=Ow.mono (RSl.mono (RI.mono _)) cH bW
         have⟨cL,cM,bT⟩:=bind_some bT
         refine B1 2 m bW Z T27 f Z Z Z cM λcN a cO f=>B2 2 m bW Z sizeOf31 f Z Z cO cM cK.cells cK.one1 cK λcP w m cQ=>Aa (Ao ?_)
         refine Bp 1 0 (ds:=[bR]) m CV f Z Z Z Z Z λa f=>Ab f Z λa f=>Ab f Z λa f=> ?_
         have⟨cR,cS,bT⟩:=bind_some bT
         refine A1 f Z call91 (Wk.R m bX cS) λcT cU cV w cW m cX a f=> ?_
         obtain⟨cY,cZ,rfl,rfl,c0⟩:=cX
         have cQ:=Ow.mono (RSl.mono (RI.mono _)) cW cQ
         refine Bb 2 0 (ds:=[cY]) m sizeOf29 f Z Z Z (Ap (Ow.one1 0 m c0 Z) AG) Z (lb Z) Z λw m=>Aa (Ao ?_)
         refine Ab f Z λa f=>Ai f Z Z Az λa f=>Ac f Z λa f=>Aa ?_
         obtain⟨c1,c2,m,c3⟩:=Ow.stamp (RSl.mono (RI.mono _)) c0 m
         have cQ:=Ow.mono (RSl.mono (RI.mono _)) c2 cQ
         obtain rfl:=sj bT
         exact⟨_,Z,_,_,_,Z,_,cP,cY,(gt bV (gt cq (gt cH (gt cW c2)))),f.k Z,m,cQ,c3⟩
       ·refine Aj f Z bY ?_
        refine AE Z ?_
        obtain rfl:=sj bT
        obtain rfl:=bU _ rfl
        exact⟨_,Z,_,_,Z,_,bQ,bR,bV,f.k Z,m,bW,bX⟩
      ·rintro a w ⟨_,rfl,bG,bH,rfl,bI,bJ,bK,c4,f,m,c5,c6⟩
       obtain rfl:=sj a1
       exact⟨_,Z,_,_,Z,_,bJ,bK,(gt a3 (gt bq (gt bx (gt bD c4)))),f.k Z,m,c5,c6⟩
     ·refine Aj f Z bc ?_
      refine AE Z ?_
      obtain rfl:=sj a1
      obtain rfl:=a2 _ rfl
      exact⟨_,Z,_,_,Z,_,aY,aZ,a3,f.k Z,m,a4,a5⟩
    ·rintro a w ⟨_,rfl,aP,aQ,rfl,aR,aS,aT,c7,f,m,c8,c9⟩
     refine Ao ?_
     refine Ab f Z λa f=>Ai f Z Z Az λa f=>Ac f Z λa f=>Aa ?_
     obtain rfl:=sj aH
     exact⟨_,Z,_,_,_,Z,_,aS,aT,(gt aJ c7),f.k Z,m,c8,c9⟩
   ·refine Aj f Z aM ?_
    refine AE Z ?_
    have m:=m.fr 2
    have m:=m.eraseAt 2
    have m:=m.eraseAt 1
    obtain rfl:=sj aH
    obtain rfl:=aI _ rfl
    exact⟨_,Z,_,Z,_,aE,aJ,f.k Z,m,aK⟩
  ·rintro a w ⟨_,rfl,aw,rfl,ax,ay,da,f,m,db⟩
   refine Af ?_
   refine Ab f Z λa f=>Ac f Z λa f=>Ac f Z λa f=>Aa ?_
   refine As ?_
   obtain rfl:=sj hd
   exact⟨[ap,(.bool true)],⟨f.get _ _ Z,f.get _ _ Z,trivial⟩,f.d,_,[ay],(gt ah da),m,_,_,Z,Z,db⟩
end Go.Proofs.YtmkcbhidbdggiaaDoor

set_option maxRecDepth 100000
namespace Go.Proofs.YtmkcbhidbdggiaaDoor
open Go Go.Sx
open Go.Proofs.Tryd Go.Proofs.YtmkcbhidbdggiaaDoor.Tryd IntKind
variable {W w : World} {G : GH} {H : List Itm}
theorem T65 :SlT prog 65 3 1 8 (iv 0):=⟨underlying65,Tryd.t3,by kernel_rfl,by kernel_rfl,by kernel_rfl,by kernel_rfl⟩
theorem Pl3 :BM prog 3:=isAgg3
theorem AP :SlT prog 107 99 2 16 (.agg #[(iv 0),(iv 0)]):=⟨underlying107,Tryd.t99,by kernel_rfl,by kernel_rfl,by kernel_rfl,by kernel_rfl⟩
theorem A6 :Agg prog 99 2:=⟨isAgg99,sizeOf99⟩
theorem Pl63 :BM prog 63:=isAgg63
theorem Wk.u0 {x0 x1 x2:Int}(m:Mem W G w (H)){y:Bool}(hd:D.u0 x0 x1 x2=some y):
  Calls prog 123 #[(iv x0),(iv x1),(iv x2)] w (Res W G H (λ_ Ho v=>Ho=[]∧v=(.bool y))):=by
 refine Ay (args:=[(iv x0),(iv x1),(iv x2)]) (N:=15) [.tmp 6] func123 Z Z (lb Z) Z λa f=> ?_
 unfold D.u0 at hd
 refine Af ?_
 refine Ac f Z λa f=>AC ?_
 refine Ab f Z λa f=>Ab f Z λa f=>Ai f Z Z CN λa f=>Ab f Z λa f=> ?_
 refine BJ 4 (λa w=>∃aa,GLe G aa∧Mem W aa w (H)∧Fr a 15 [(0,(iv x0)),(1,(iv x1)),(2,(iv x2)),(7,(iv x1)),(8,(iv x0)),(9,(.bool (decide (x1≤x0)))),(10,(.bool (decide (x1≤x0)))),(14,(.bool ((decide (x1≤x0))&&(decide (x0≤x2)))))]) ?_ ?_
 ·rcases Bool.eq_false_or_eq_true (decide (x1≤x0)) with ab|ab
  ·refine AH f ab ?_
   refine Ab f Z λa f=>AH f ab ?_
   refine Ab f Z λa f=>AH f ab ?_
   refine Ai f Z Z CN λa f=>l_o f (A7 (f.e Z) ab (f.e Z)) λa f=> ?_
   exact⟨_,gr,m,f.weak ⟨Z,Z,Z,Z,Z,Z,Z,by rw[ab];rfl,trivial⟩⟩
  ·refine AJ f ab λa f=> ?_
   refine AJ f ab λa f=>AJ f ab λa f=>l_o f (A8 (f.e Z) ab (f.e Z)) λa f=> ?_
   exact⟨_,gr,m,f.weak ⟨Z,Z,Z,Z,Z,Z,Z,by rw[ab];rfl,trivial⟩⟩
 ·rintro a w ⟨aa,ac,m,f⟩
  refine Ac f Z λa f=>Aa ?_
  refine As ?_
  obtain rfl:=sj hd
  exact⟨[(.bool ((decide (x1≤x0))&&(decide (x0≤x2))))],f.g Z,f.d,_,[],ac,m,Z,Z⟩
theorem Wk.T {v0:Value}{x0:LI}{x1:Int}(m:Mem W G w (H))(h0:R1 G v0 x0){y:Bool}(hd:D.T x0 x1=some y):
  Calls prog 103 #[v0,(iv x1)] w (Res W G H (λ_ Ho v=>Ho=[]∧v=(.bool y))):=by
 refine Ay (args:=[v0,(iv x1)]) (N:=33) [.tmp 4] func103 Z Z (lb Z) Z λa f=> ?_
 unfold D.T at hd
 refine Af ?_
 refine Ac f Z λa f=>Aa (Ag (Af ?_))
 refine Ab f Z λa f=>A5 underlying31 f Z Z h0 λa f=>Ab f Z λa f=>Aa ?_
 have⟨aa,ab,hd⟩:=bind_some hd
 refine AL (λa w=>∃q_181':Unit,aa= .inl q_181'∧∃(ac:GH),GLe G ac∧Fr a 33 []∧Mem W ac w (H)) ?_ ?_
 ·refine Ak ?_
  refine AK (λad a w=>∃ae:Int,ae=ad∧∃(af:GH),GLe G af∧Fr a 33 [(0,v0),(1,(iv x1)),(7,v0),(8,(iv (x0.length:Int))),(9,(iv ae))]∧Mem W af w (H)) ab ⟨_,Z,_,gr,f.k Z,m⟩ ?_
  clear ab f m
  rintro ad ag ah ai a w ⟨ae,rfl,af,aj,f,m⟩
  have h0:=rd1 aj h0
  refine Af ?_
  refine Ai f Z Z AI λa f=>Aa (Ag ?_)
  rcases Ae ah with⟨ak,ah⟩|⟨ak,ah⟩
  ·refine Am f Z ak ?_
   refine An ?_
   refine Ag (Ak (Af ?_))
   refine Ab f Z λa f=> ?_
   have⟨al,am,ah⟩:=bind_some ah
   refine Be T31 f Z Z Z h0 am λan ao a ap aq f=> ?_
   subst aq
   refine AM m Pl2 f Z Z ap λa f=>Ac f Z λa f=>Ac f Z λa f=>AC ?_
   refine Ab f Z λa f=>Ab f Z λa f=>Ai f Z Z AX λa f=> ?_
   have⟨ar,au,ah⟩:=bind_some ah
   refine Bz f Z call123 (Wk.u0 m au) λav w aw m a f=> ?_
   have h0:=rd1 aw h0
   refine l_o f (Bt (f.e Z)) λa f=>Ab f Z λa f=> ?_
   have⟨ax,ay,ah⟩:=bind_some ah
   refine BJ 12 (λa w=>∃az,GLe av az∧Mem W az w (H)∧Fr a 33 [(0,v0),(1,(iv x1)),(5,(iv ae)),(6,(iv al)),(7,v0),(8,(iv (x0.length:Int))),(9,(iv ae)),(14,(iv al)),(15,(iv x1)),(16,(iv (i64.wrap (x1-1)))),(17,(.bool ar)),(18,(.bool (!ar))),(19,(.bool (!ar))),(31,(.bool ax))]) ?_ ?_
   ·rcases Ae ay with⟨aA,ay⟩|⟨aA,ay⟩
    ·refine AJ f aA λa f=> ?_
     refine AJ f aA λa f=>AJ f aA λa f=>DC f Z Z Z λa f=>DC f Z Z Z λa f=>DC f Z Z Z λa f=>DC f Z Z Z λa f=>DC f Z Z Z λa f=>DC f Z Z Z λa f=>DC f Z Z Z λa f=>AJ f aA λa f=>l_o f (A7 (f.e Z) aA (f.e Z)) λa f=> ?_
     obtain rfl:=sj ay
     exact⟨_,gr,m,f.k Z⟩
    ·refine AH f aA ?_
     refine Ab f Z λa f=>AH f aA ?_
     refine Ai f Z Z C4 λa f=>AH f aA ?_
     refine Ab f Z λa f=> ?_
     have⟨aB,aC,ay⟩:=bind_some ay
     refine BJ 8 (λa w=>∃aD,GLe av aD∧Mem W aD w (H)∧Fr a 33 [(0,v0),(1,(iv x1)),(5,(iv ae)),(6,(iv al)),(7,v0),(8,(iv (x0.length:Int))),(9,(iv ae)),(14,(iv al)),(15,(iv x1)),(16,(iv (i64.wrap (x1-1)))),(17,(.bool ar)),(18,(.bool (!ar))),(19,(.bool (!ar))),(20,(iv ae)),(21,(.bool (decide ((0:Int)<ae)))),(22,(.bool (decide ((0:Int)<ae)))),(30,(.bool aB))]) ?_ ?_
     ·rcases Ae aC with⟨aE,aC⟩|⟨aE,aC⟩
      ·refine AH f aE ?_
       refine Ab f Z λa f=>AH f aE ?_
       refine Ab f Z λa f=>AH f aE ?_
       refine Ai f Z Z AX λa f=>AH f aE ?_
       have⟨aF,aG,aC⟩:=bind_some aC
       refine Be T31 f Z Z Z h0 aG λaH aI a aJ aK f=> ?_
       subst aK
       refine AH f aE ?_
       refine AM m Pl2 f Z Z aJ λa f=>AH f aE ?_
       refine Ab f Z λa f=>AH f aE ?_
       refine Ai f Z Z Cb λa f=>AH f aA ?_
       refine l_o f (A7 (f.e Z) aE (f.e Z)) λa f=> ?_
       obtain rfl:=sj aC
       exact⟨_,gr,m,f.k Z⟩
      ·refine AJ f aE λa f=> ?_
       refine AJ f aE λa f=>AJ f aE λa f=>AJ f aE λa f=>AJ f aE λa f=>AJ f aE λa f=>AJ f aE λa f=>AH f aA ?_
       refine l_o f (A8 (f.e Z) aE (f.e Z)) λa f=> ?_
       obtain rfl:=sj aC
       exact⟨_,gr,m,f.k Z⟩
     ·rintro a w ⟨aD,aL,m,f⟩
      refine l_o f (A8 (f.e Z) aA (f.e Z)) λa f=> ?_
      obtain rfl:=sj ay
      exact⟨_,aL,m,f.k Z⟩
   ·rintro a w ⟨az,aM,m,f⟩
    refine Aa ?_
    rcases Ae ah with⟨aN,ah⟩|⟨aN,ah⟩
    ·refine Am f Z aN ?_
     refine Af ?_
     refine Ac f Z λa f=>Aa ?_
     refine As ?_
     obtain rfl:=sj ah
     obtain rfl:=ai _ rfl
     obtain rfl:=sj hd
     exact⟨[(.bool false)],f.g Z,f.d,_,[],(gt aj (gt aw aM)),m,Z,Z⟩
    ·refine Aj f Z aN ?_
     refine An ?_
     refine Ao ?_
     refine Ai f Z Z Az λa f=>Ab f Z λa f=>Aa ?_
     obtain rfl:=sj ah
     exact⟨_,Z,_,Z,_,(gt aj (gt aw aM)),f.k Z,m⟩
  ·refine Aj f Z ak ?_
   refine AE Z ?_
   obtain rfl:=sj ah
   obtain rfl:=ai _ rfl
   exact⟨_,Z,_,aj,f.weak trivial,m⟩
 ·rintro a w ⟨_,rfl,ac,aO,f,m⟩
  refine Af ?_
  refine Ac f Z λa f=>Aa ?_
  refine As ?_
  obtain rfl:=sj hd
  exact⟨[(.bool true)],f.g Z,f.d,_,[],aO,m,Z,Z⟩
theorem Wk.L {aa:Value}{ab:LL}(m:Mem W G w (H))(ac:R2 G aa ab){y:Bool}(hd:D.L ab=some y):
  Calls prog 50 #[(.agg #[aa])] w (Res W G H (λ_ Ho v=>Ho=[]∧v=(.bool y))):=by
 refine Ay (args:=[(.agg #[aa])]) (N:=61) [.tmp 2] func50 Z Z (lb Z) Z λa f=> ?_
 unfold D.L at hd
 refine Af ?_
 refine BO (cs:=[aa]) m f Z Z Z λad w a m f=>Ac f Z λa f=>AC ?_
 refine Bk underlying29 Z sizeOf27 f Z λa f=>AO 0 0 m Bx f Z Z Z Z λa f=>A5 underlying27 f Z Z ac λa f=>Ac f Z λa f=>Aa (Ag (Af ?_))
 refine Ab f Z λa f=>Ai f Z Z AI λa f=>Ab f Z λa f=> ?_
 refine BJ 3 (λa w=>∃ae,GLe G ae∧Mem W ae w (ib ad 29 [aa]::H)∧Fr a 61 [(0,(.agg #[aa])),(1,(pb ad)),(3,(iv (ab.length:Int))),(13,(iv (ab.length:Int))),(14,(.bool (decide ((ab.length:Int)<1)))),(15,(.bool (decide ((ab.length:Int)<1)))),(18,(.bool ((decide ((ab.length:Int)<1))||(decide ((16:Int)<(ab.length:Int))))))]) ?_ ?_
 ·rcases Bool.eq_false_or_eq_true (decide ((ab.length:Int)<1)) with af|af
  ·refine AJ f af λa f=> ?_
   refine AJ f af λa f=>l_o f (A7 (f.e Z) af (f.e Z)) λa f=> ?_
   exact⟨_,gr,m,f.weak ⟨Z,Z,Z,Z,Z,Z,by rw[af];rfl,trivial⟩⟩
  ·refine AH f af ?_
   refine Ab f Z λa f=>AH f af ?_
   refine Ai f Z Z C4 λa f=>l_o f (A8 (f.e Z) af (f.e Z)) λa f=> ?_
   exact⟨_,gr,m,f.weak ⟨Z,Z,Z,Z,Z,Z,by rw[af];rfl,trivial⟩⟩
 ·rintro a w ⟨ae,ag,m,f⟩
  have ac:=rd2 ag ac
  refine Aa ?_
  rcases Ae hd with⟨ah,hd⟩|⟨ah,hd⟩
  ·refine Am f Z ah ?_
   refine Af ?_
   refine Ac f Z λa f=>Aa ?_
   refine As ?_
   have m:Mem W ae w H:=Mem.drop (H':=[ib ad 29 [aa]]) m
   obtain rfl:=sj hd
   exact⟨[(.bool false)],f.g Z,f.d,_,[],ag,m,Z,Z⟩
  ·refine Aj f Z ah ?_
   refine An ?_
   refine Ag (Af ?_)
   refine Bk underlying29 Z sizeOf27 f Z λa f=>AO 0 0 m Bx f Z Z Z Z λa f=>A5 underlying27 f Z Z ac λa f=>Ab f Z λa f=>Aa ?_
   have⟨ai,aj,hd⟩:=bind_some hd
   refine AL (λa w=>∃q_91':Unit,ai= .inl q_91'∧∃(ak:GH),GLe ae ak∧Fr a 61 [(1,(pb ad))]∧Mem W ak w (ib ad 29 [aa]::H)) ?_ ?_
   ·refine Ak ?_
    refine AK (λal a w=>∃am:Int,am=al∧∃(an:GH),GLe ae an∧Fr a 61 [(1,(pb ad)),(3,(iv (ab.length:Int))),(20,aa),(21,(iv (ab.length:Int))),(22,(iv am))]∧Mem W an w (ib ad 29 [aa]::H)) aj ⟨_,Z,_,gr,f.k Z,m⟩ ?_
    clear aj f m
    rintro al ao ap aq a w ⟨am,rfl,an,ar,f,m⟩
    have ac:=rd2 ar ac
    refine Af ?_
    refine Ai f Z Z AI λa f=>Aa (Ag ?_)
    rcases Ae ap with⟨au,ap⟩|⟨au,ap⟩
    ·refine Am f Z au ?_
     refine An ?_
     refine Ag (Ak (Af ?_))
     refine Ab f Z λa f=> ?_
     have⟨av,aw,ap⟩:=bind_some ap
     refine Be T27 f Z Z Z ac aw λax ay a az aA f=>AM m Bq f Z Z az λa f=>Ac f Z λa f=>Ac f Z λa f=>AC ?_
     refine Ab f Z λa f=>Ab f Z λa f=> ?_
     have⟨aB,aC,ap⟩:=bind_some ap
     refine Bz f Z call103 (Wk.T m aA aC) λaD w aE m a f=> ?_
     have aA:=rd1 aE aA
     refine l_o f (Bt (f.e Z)) λa f=>Ab f Z λa f=> ?_
     have⟨aF,aG,ap⟩:=bind_some ap
     refine BJ 4 (λa w=>∃aH,GLe aD aH∧Mem W aH w (ib ad 29 [aa]::H)∧Fr a 61 [(1,(pb ad)),(3,(iv (ab.length:Int))),(4,(iv am)),(5,ay),(20,aa),(21,(iv (ab.length:Int))),(22,(iv am)),(27,ay),(28,(iv (ab.length:Int))),(29,(.bool aB)),(30,(.bool (!aB))),(31,(.bool (!aB))),(35,(.bool aF))]) ?_ ?_
     ·rcases Ae aG with⟨aI,aG⟩|⟨aI,aG⟩
      ·refine AJ f aI λa f=> ?_
       refine AJ f aI λa f=>AJ f aI λa f=>l_o f (A7 (f.e Z) aI (f.e Z)) λa f=> ?_
       obtain rfl:=sj aG
       exact⟨_,gr,m,f.k Z⟩
      ·refine AH f aI ?_
       refine Ab f Z λa f=>AH f aI ?_
       refine Ab f Z λa f=>AH f aI ?_
       have⟨aJ,aK,aG⟩:=bind_some aG
       refine Bz f Z call119 (Wk.I m aA aK) λaL w aM m a f=>l_o f (A8 (f.e Z) aI (f.e Z)) λa f=> ?_
       obtain rfl:=sj aG
       exact⟨_,aM,m,f.k Z⟩
     ·rintro a w ⟨aH,aN,m,f⟩
      refine Aa ?_
      rcases Ae ap with⟨aO,ap⟩|⟨aO,ap⟩
      ·refine Am f Z aO ?_
       refine Af ?_
       refine Ac f Z λa f=>Aa ?_
       refine As ?_
       have m:Mem W aH w H:=Mem.drop (H':=[ib ad 29 [aa]]) m
       obtain rfl:=sj ap
       obtain rfl:=aq _ rfl
       obtain rfl:=sj hd
       exact⟨[(.bool false)],f.g Z,f.d,_,[],(gt ag (gt ar (gt aE aN))),m,Z,Z⟩
      ·refine Aj f Z aO ?_
       refine An ?_
       refine Ao ?_
       refine Ai f Z Z Az λa f=>Ab f Z λa f=>Aa ?_
       obtain rfl:=sj ap
       exact⟨_,Z,_,Z,_,(gt ar (gt aE aN)),f.k Z,m⟩
    ·refine Aj f Z au ?_
     refine AE Z ?_
     obtain rfl:=sj ap
     obtain rfl:=aq _ rfl
     exact⟨_,Z,_,ar,f.k Z,m⟩
   ·rintro a w ⟨_,rfl,ak,aP,f,m⟩
    have ac:=rd2 aP ac
    refine Ag (Af ?_)
    refine Bk underlying29 Z sizeOf27 f Z λa f=>AO 0 0 m Bx f Z Z Z Z λa f=>A5 underlying27 f Z Z ac λa f=>Ab f Z λa f=>Aa ?_
    have⟨aQ,aR,hd⟩:=bind_some hd
    refine AL (λa w=>∃q_394':Unit,aQ= .inl q_394'∧∃(aS:GH),GLe ak aS∧Fr a 61 []∧Mem W aS w (H)) ?_ ?_
    ·refine Ak ?_
     refine AK (λaT a w=>∃aU:Int,aU=aT∧∃(aV:GH),GLe ak aV∧Fr a 61 [(1,(pb ad)),(38,aa),(39,(iv (ab.length:Int))),(40,(iv aU))]∧Mem W aV w (ib ad 29 [aa]::H)) aR ⟨_,Z,_,gr,f.k Z,m⟩ ?_
     clear aR f m
     rintro aT aW aX aY a w ⟨aU,rfl,aV,aZ,f,m⟩
     have ac:=rd2 aZ ac
     refine Af ?_
     refine Ai f Z Z AI λa f=>Aa (Ag ?_)
     rcases Ae aX with⟨a0,aX⟩|⟨a0,aX⟩
     ·refine Am f Z a0 ?_
      refine An ?_
      refine Ag (Ak (Af ?_))
      refine Ab f Z λa f=> ?_
      have⟨a1,a2,aX⟩:=bind_some aX
      refine Be T27 f Z Z Z ac a2 λa3 a4 a a5 a6 f=>AM m Bq f Z Z a5 λa f=>Ac f Z λa f=>Ac f Z λa f=>AC ?_
      refine Ab f Z λa f=>A5 underlying31 f Z Z a6 λa f=>Ab f Z λa f=>Aa ?_
      have⟨a7,a8,aX⟩:=bind_some aX
      refine AL (λa w=>∃q_560':Unit,a7= .inl q_560'∧∃(a9:GH),GLe aV a9∧Fr a 61 [(1,(pb ad)),(38,aa),(39,(iv (ab.length:Int))),(40,(iv aU))]∧Mem W a9 w (ib ad 29 [aa]::H)) ?_ ?_
      ·refine Ak ?_
       refine AK (λba a w=>∃bb:Int,bb=ba∧∃(bc:GH),GLe aV bc∧Fr a 61 [(1,(pb ad)),(6,(iv aU)),(38,aa),(39,(iv (ab.length:Int))),(40,(iv aU)),(45,a4),(46,(iv (a1.length:Int))),(47,(iv bb))]∧Mem W bc w (ib ad 29 [aa]::H)) a8 ⟨_,Z,_,gr,f.k Z,m⟩ ?_
       clear a8 f m
       rintro ba bd be bf a w ⟨bb,rfl,bc,bg,f,m⟩
       have ac:=rd2 bg ac
       have a6:=rd1 bg a6
       refine Af ?_
       refine Ai f Z Z AI λa f=>Aa (Ag ?_)
       rcases Ae be with⟨bh,be⟩|⟨bh,be⟩
       ·refine Am f Z bh ?_
        refine An ?_
        refine Ag (Ak (Af ?_))
        have⟨bi,bj,be⟩:=bind_some be
        refine Be T31 f Z Z Z a6 bj λbk bl a bm bn f=> ?_
        subst bn
        refine AM m Pl2 f Z Z bm λa f=>Ac f Z λa f=>AC ?_
        refine Bk underlying29 Z sizeOf27 f Z λa f=>AO 0 0 m Bx f Z Z Z Z λa f=>Ab f Z λa f=> ?_
        have⟨bo,bp,be⟩:=bind_some be
        refine Be T27 f Z Z Z ac bp λbq br a bs bt f=>AM m Bq f Z Z bs λa f=>Ab f Z λa f=> ?_
        have⟨bu,bv,be⟩:=bind_some be
        refine Bz f Z call119 (Wk.I m bt bv) λbw w bx m a f=>l_o f (Bt (f.e Z)) λa f=>Aa ?_
        rcases Ae be with⟨bz,be⟩|⟨bz,be⟩
        ·refine Am f Z bz ?_
         refine Af ?_
         refine Ac f Z λa f=>Aa ?_
         refine As ?_
         have m:Mem W bw w H:=Mem.drop (H':=[ib ad 29 [aa]]) m
         obtain rfl:=sj be
         obtain rfl:=bf _ rfl
         obtain rfl:=sj aX
         obtain rfl:=aY _ rfl
         obtain rfl:=sj hd
         exact⟨[(.bool false)],f.g Z,f.d,_,[],(gt ag (gt aP (gt aZ (gt bg bx)))),m,Z,Z⟩
        ·refine Aj f Z bz ?_
         refine An ?_
         refine Ao ?_
         refine Ai f Z Z Az λa f=>Ab f Z λa f=>Aa ?_
         obtain rfl:=sj be
         exact⟨_,Z,_,Z,_,(gt bg bx),f.k Z,m⟩
       ·refine Aj f Z bh ?_
        refine AE Z ?_
        obtain rfl:=sj be
        obtain rfl:=bf _ rfl
        exact⟨_,Z,_,bg,f.k Z,m⟩
      ·rintro a w ⟨_,rfl,a9,bA,f,m⟩
       refine Ao ?_
       refine Ai f Z Z Az λa f=>Ab f Z λa f=>Aa ?_
       obtain rfl:=sj aX
       exact⟨_,Z,_,Z,_,(gt aZ bA),f.k Z,m⟩
     ·refine Aj f Z a0 ?_
      refine AE Z ?_
      have m:Mem W aV w H:=Mem.drop (H':=[ib ad 29 [aa]]) m
      obtain rfl:=sj aX
      obtain rfl:=aY _ rfl
      exact⟨_,Z,_,aZ,f.weak trivial,m⟩
    ·rintro a w ⟨_,rfl,aS,bB,f,m⟩
     refine Af ?_
     refine Ac f Z λa f=>Aa ?_
     refine As ?_
     obtain rfl:=sj hd
     exact⟨[(.bool true)],f.g Z,f.d,_,[],(gt ag (gt aP bB)),m,Z,Z⟩
theorem Wk.b {x0:Int}(m:Mem W G w (H)){y:Int}(hd:D.b x0=some y):
  Calls prog 74 #[(iv x0)] w (Res W G H (λ_ Ho v=>Ho=[]∧v=(.int .u32 y))):=by
 refine Ay (args:=[(iv x0)]) (N:=5) [.tmp 2] func74 Z Z (lb Z) Z λa f=> ?_
 unfold D.b at hd
 refine Af ?_
 refine Ac f Z λa f=>AC ?_
 refine Ab f Z λa f=> ?_
 obtain⟨aa,hd⟩:=cond_none hd
 refine l_o f (r_shl (f.e Z) (f.e Z) aa) λa f=>Ac f Z λa f=>Aa ?_
 refine As ?_
 obtain rfl:=sj hd
 exact⟨[(.int .u32 (ishl .u32 1 x0))],f.g Z,f.d,_,[],gr,m,Z,Z⟩
theorem Wk.k0 {v0:Value}{x0:LI}(m:Mem W G w (H))(h0:R1 G v0 x0){y:Int}(hd:D.k0 x0=some y):
  Calls prog 120 #[v0] w (Res W G H (λ_ Ho v=>Ho=[]∧v=(.int .u32 y))):=by
 refine Ay (args:=[v0]) (N:=18) [.tmp 2] func120 Z Z (lb Z) Z λa f=> ?_
 unfold D.k0 at hd
 refine Af ?_
 refine Ac f Z λa f=>AC ?_
 refine Ac f Z λa f=>Aa (Ag (Af ?_))
 refine Ab f Z λa f=>A5 underlying31 f Z Z h0 λa f=>Ab f Z λa f=>Aa ?_
 have⟨aa,ab,hd⟩:=bind_some hd
 refine AL (λa w=>∃ac:Int,ac=aa∧∃(ad:GH),GLe G ad∧Fr a 18 [(3,(.int .u32 ac))]∧Mem W ad w (H)) ?_ ?_
 ·refine Ak ?_
  refine AK (λae a w=>∃af:Int,∃ag:Int,(af,ag)=ae∧∃(ah:GH),GLe G ah∧Fr a 18 [(3,(.int .u32 af)),(6,v0),(7,(iv (x0.length:Int))),(8,(iv ag))]∧Mem W ah w (H)) ab ⟨_,_,Z,_,gr,f.k Z,m⟩ ?_
  clear ab f m
  rintro ae ai aj ak a w ⟨af,ag,rfl,ah,al,f,m⟩
  have h0:=rd1 al h0
  refine Af ?_
  refine Ai f Z Z AI λa f=>Aa (Ag ?_)
  rcases Ae aj with⟨am,aj⟩|⟨am,aj⟩
  ·refine Am f Z am ?_
   refine An ?_
   refine Ag (Ak (Af ?_))
   have⟨an,ao,aj⟩:=bind_some aj
   refine Be T31 f Z Z Z h0 ao λap aq a ar au f=> ?_
   subst au
   refine AM m Pl2 f Z Z ar λa f=>Ac f Z λa f=>Aa (Ao ?_)
   refine Ab f Z λa f=>Ab f Z λa f=> ?_
   have⟨av,aw,aj⟩:=bind_some aj
   refine Bz f Z call74 (Wk.b m aw) λax w ay m a f=>Ai f Z Z b_or λa f=>Ac f Z λa f=>Aa (Ao ?_)
   refine Ai f Z Z Az λa f=>Ab f Z λa f=>Aa ?_
   obtain rfl:=sj aj
   exact⟨_,Z,_,_,Z,_,(gt al ay),f.k Z,m⟩
  ·refine Aj f Z am ?_
   refine AE Z ?_
   obtain rfl:=sj aj
   obtain rfl:=ak _ rfl
   exact⟨_,Z,_,al,f.k Z,m⟩
 ·rintro a w ⟨ac,rfl,ad,az,f,m⟩
  refine Af ?_
  refine Ab f Z λa f=>Ac f Z λa f=>Aa ?_
  refine As ?_
  obtain rfl:=sj hd
  exact⟨[(.int .u32 ac)],f.g Z,f.d,_,[],az,m,Z,Z⟩
theorem Wk.P {aa:Value}{ab:LL}(m:Mem W G w (H))(ac:R2 G aa ab){y:(LI)}(hd:D.P ab=some y):
  Calls prog 51 #[(.agg #[aa])] w (Res W G H (λG' Ho v=>∃r0:Value,∃i0:Itm,Ho=[i0]∧r0=v∧Ow (RI .u32) 63 G' i0 r0 y)):=by
 refine Ay (args:=[(.agg #[aa])]) (N:=21) [.tmp 2] func51 Z Z (lb Z) Z λa f=> ?_
 unfold D.P at hd
 refine Af ?_
 refine BO (cs:=[aa]) m f Z Z Z λad w a m f=>Ac f Z λa f=>AC ?_
 refine Bm (R:=(RI .u32)) (xs:=([]:LI)) (RI.one _) m T60 f Z Z Z (by decide) (All2.nil _) λae af w a m ag f=>Ac f Z λa f=>Aa (Ag (Af ?_))
 refine Bk underlying29 Z sizeOf27 f Z λa f=>AO 1 0 m Bx f Z Z Z Z λa f=>A5 underlying27 f Z Z ac λa f=>Ab f Z λa f=>Aa ?_
 have⟨ah,ai,hd⟩:=bind_some hd
 refine AL (λa w=>∃aj:LI,aj=ah∧∃(ak:GH) (al:Value) (am:Itm),GLe G ak∧Fr a 21 [(3,al)]∧Mem W ak w (am::H)∧Ow (RI .u32) 63 ak am al aj) ?_ ?_
 ·refine Ak ?_
  have m:=m.eraseAt 1
  refine AK (λan a w=>∃ao:LI,∃ap:Int,(ao,ap)=an∧∃(aq:GH) (ar:Value) (au:Itm),GLe G aq∧Fr a 21 [(3,ar),(8,aa),(9,(iv (ab.length:Int))),(10,(iv ap))]∧Mem W aq w (au::H)∧Ow (RI .u32) 63 aq au ar ao) ai ⟨_,_,Z,_,af,ae,gr,f.k Z,m,ag⟩ ?_
  clear ai f m
  rintro an av aw ax a w ⟨ao,ap,rfl,aq,ar,au,ay,f,m,az⟩
  have ac:=rd2 ay ac
  refine Af ?_
  refine Ai f Z Z AI λa f=>Aa (Ag ?_)
  rcases Ae aw with⟨aA,aw⟩|⟨aA,aw⟩
  ·refine Am f Z aA ?_
   refine An ?_
   refine Ag (Ak (Af ?_))
   have⟨aB,aC,aw⟩:=bind_some aw
   refine Be T27 f Z Z Z ac aC λaD aE a aF aG f=>AM m Bq f Z Z aF λa f=>Ac f Z λa f=>Aa (Ao ?_)
   refine Ab f Z λa f=>Ab f Z λa f=> ?_
   have⟨aH,aI,aw⟩:=bind_some aw
   refine Bz f Z call120 (Wk.k0 m aG aI) λaJ w aK m a f=> ?_
   have az:=od1 aK az
   refine Bm (R:=(RI .u32)) (xs:=([aH]:LI)) (RI.one _) m T60 f Z Z Z (by decide) (All2.cons Z (All2.nil _)) λaL aM w a m aN f=> ?_
   have⟨aO,aP,aw⟩:=bind_some aw
   refine By (RI.one _) 1 m az Z T60 Z (by decide) f Z Z Z (Ow.src (j:=0) aN m Z) aP λaQ aR w a m aS f=>Ac f Z λa f=>Aa (Ao ?_)
   refine Ai f Z Z Az λa f=>Ab f Z λa f=>Aa ?_
   have m:=m.fr 1
   have m:=m.eraseAt 1
   obtain rfl:=sj aw
   exact⟨_,Z,_,_,Z,_,aR,aQ,(gt ay aK),f.k Z,m,aS⟩
  ·refine Aj f Z aA ?_
   refine AE Z ?_
   obtain rfl:=sj aw
   obtain rfl:=ax _ rfl
   exact⟨_,Z,_,ar,au,ay,f.k Z,m,az⟩
 ·rintro a w ⟨aj,rfl,ak,al,am,aT,f,m,aU⟩
  refine Af ?_
  refine Ab f Z λa f=>Ac f Z λa f=>Aa ?_
  refine As ?_
  obtain rfl:=sj hd
  exact⟨[al],f.g Z,f.d,_,[am],aT,m,_,_,Z,Z,aU⟩
theorem Wk.v {x0:Int}(hW:C9 W)(m:Mem W G w (H)){y:Int}(hd:D.v x0=some y):
  Calls prog 121 #[(.int .u32 x0)] w (Res W G H (λ_ Ho v=>Ho=[]∧v=(iv y))):=by
 refine Ay (args:=[(.int .u32 x0)]) (N:=5) [.tmp 2] func121 Z Z (lb Z) Z λa f=> ?_
 unfold D.v at hd
 refine Af ?_
 refine Ac f Z λa f=>AC ?_
 refine Ab f Z λa f=> ?_
 have⟨aa,ab,hd⟩:=bind_some hd
 refine Bz f Z call149 (Wk.D0 hW m ab) λac w ad m a f=>Ac f Z λa f=>Aa ?_
 refine As ?_
 obtain rfl:=sj hd
 exact⟨[(iv aa)],f.g Z,f.d,_,[],ad,m,Z,Z⟩
theorem Wk.m {x0:Int}(hW:C9 W)(m:Mem W G w (H)){y:(LI)}(hd:D.m x0=some y):
  Calls prog 54 #[(.int .u32 x0)] w (Res W G H (λG' Ho v=>∃r0:Value,∃i0:Itm,Ho=[i0]∧r0=v∧Ow R0 3 G' i0 r0 y)):=by
 refine Ay (args:=[(.int .u32 x0)]) (N:=17) [.tmp 2] func54 Z Z (lb Z) Z λa f=> ?_
 unfold D.m at hd
 refine Af ?_
 refine Ac f Z λa f=>AC ?_
 refine Bm (R:=R0) (xs:=([]:LI)) (RI.one _) m T65 f Z Z Z (by decide) (All2.nil _) λaa ab w a m ac f=>Ac f Z λa f=>Aa (Ag ?_)
 have⟨ad,ae,hd⟩:=bind_some hd
 refine AL (λa w=>∃af:LI,af=ad∧∃(ag:GH) (ah:Value) (ai:Itm),GLe G ag∧Fr a 17 [(3,ah)]∧Mem W ag w (ai::H)∧Ow R0 3 ag ai ah af) ?_ ?_
 ·refine Ak ?_
  refine AK (λaj a w=>∃ak:Int,∃al:LI,(ak,al)=aj∧∃(am:GH) (an:Value) (ao:Itm),GLe G am∧Fr a 17 [(0,(.int .u32 ak)),(3,an)]∧Mem W am w (ao::H)∧Ow R0 3 am ao an al) ae ⟨_,_,Z,_,ab,aa,gr,f.k Z,m,ac⟩ ?_
  clear ae f m
  rintro aj ap aq ar a w ⟨ak,al,rfl,am,an,ao,au,f,m,av⟩
  refine Ag (Af ?_)
  refine Ab f Z λa f=>Ai f Z Z B9 λa f=>Aa ?_
  rcases Ae aq with⟨aw,aq⟩|⟨aw,aq⟩
  ·refine Am f Z aw ?_
   refine An ?_
   refine Ag (Ak (Ao ?_))
   refine Ab f Z λa f=>Ab f Z λa f=> ?_
   have⟨ax,ay,aq⟩:=bind_some aq
   refine Bz f Z call121 (Wk.v hW m ay) λaz w aA m a f=> ?_
   have av:=od1 aA av
   refine Bm (R:=R0) (xs:=([ax]:LI)) (RI.one _) m T65 f Z Z Z (by decide) (All2.cons Z (All2.nil _)) λaB aC w a m aD f=> ?_
   have⟨aE,aF,aq⟩:=bind_some aq
   refine By (RI.one _) 1 m av Z T65 Z (by decide) f Z Z Z (Ow.src (j:=0) aD m Z) aF λaG aH w a m aI f=>Ac f Z λa f=>Aa (Ao ?_)
   refine Ab f Z λa f=>Ab f Z λa f=>Ai f Z Z AX λa f=>Ai f Z Z b_and λa f=>Ac f Z λa f=>Aa ?_
   have m:=m.fr 1
   have m:=m.eraseAt 1
   obtain rfl:=sj aq
   exact⟨_,Z,_,_,Z,_,aH,aG,(gt au aA),f.k Z,m,aI⟩
  ·refine Aj f Z aw ?_
   refine AE Z ?_
   obtain rfl:=sj aq
   obtain rfl:=ar _ rfl
   exact⟨_,Z,_,an,ao,au,f.k Z,m,av⟩
 ·rintro a w ⟨af,rfl,ag,ah,ai,aJ,f,m,aK⟩
  refine Af ?_
  refine Ab f Z λa f=>Ac f Z λa f=>Aa ?_
  refine As ?_
  obtain rfl:=sj hd
  exact⟨[ah],f.g Z,f.d,_,[ai],aJ,m,_,_,Z,Z,aK⟩
theorem Wk.a {aa ab ac ad:Int}(m:Mem W G w (H)){y:Int}(hd:D.a aa ab ac ad=some y):
  Calls prog 147 #[(.agg #[(iv aa),(iv ab)]),(.agg #[(iv ac),(iv ad)])] w (Res W G H (λ_ Ho v=>Ho=[]∧v=(iv y))):=by
 refine Ay (args:=[(.agg #[(iv aa),(iv ab)]),(.agg #[(iv ac),(iv ad)])]) (N:=20) [.tmp 4] func147 Z Z (lb Z) Z λa f=> ?_
 unfold D.a at hd
 refine Af ?_
 refine BO (cs:=[(iv aa),(iv ab)]) m f Z Z Z λae w a m f=>BO (cs:=[(iv ac),(iv ad)]) m f Z Z Z λaf w a m f=>Ac f Z λa f=>Aa (Ag (Af ?_))
 refine Bk underlying99 Z sizeOf3 f Z λa f=>AO 1 0 m Pl3 f Z Z Z Z λa f=>Bk underlying99 Z sizeOf3 f Z λa f=>AO 0 0 m Pl3 f Z Z Z Z λa f=>Ai f Z Z B9 λa f=>Aa ?_
 rcases Ae hd with⟨ag,hd⟩|⟨ag,hd⟩
 ·refine Am f Z ag ?_
  refine Af ?_
  refine Bk underlying99 Z sizeOf3 f Z λa f=>AO 1 0 m Pl3 f Z Z Z Z λa f=>Bk underlying99 Z sizeOf3 f Z λa f=>AO 0 0 m Pl3 f Z Z Z Z λa f=>Ai f Z Z AX λa f=>Ac f Z λa f=>Aa ?_
  refine As ?_
  have m:Mem W G w H:=Mem.drop (H':=[ib af 99 [(iv ac),(iv ad)],ib ae 99 [(iv aa),(iv ab)]]) m
  obtain rfl:=sj hd
  exact⟨[(iv (i64.wrap (aa-ac)))],f.g Z,f.d,_,[],gr,m,Z,Z⟩
 ·refine Aj f Z ag ?_
  refine An ?_
  refine Af ?_
  refine Bk underlying99 Z sizeOf3 f Z λa f=>AO 1 1 m Pl3 f Z Z Z Z λa f=>Bk underlying99 Z sizeOf3 f Z λa f=>AO 0 1 m Pl3 f Z Z Z Z λa f=>Ai f Z Z AX λa f=>Ac f Z λa f=>Aa ?_
  refine As ?_
  have m:Mem W G w H:=Mem.drop (H':=[ib af 99 [(iv ac),(iv ad)],ib ae 99 [(iv aa),(iv ab)]]) m
  obtain rfl:=sj hd
  exact⟨[(iv (i64.wrap (ab-ad)))],f.g Z,f.d,_,[],gr,m,Z,Z⟩
theorem Wk.s0 {v0:Value}{it0:Itm}{x0:(List (Int×Int))}{x1 x2:Int}(m:Mem W G w (it0::H))(o0:OwR P2 99 G it0 v0 x0){y:((List (Int×Int)))}(hd:D.s0 x0 x1 x2=some y):
  Calls prog 168 #[v0,(iv x1),(iv x2),(.func (.func 147) #[] #[])] w (Res W G H (λG' Ho _=>∃i0:Itm,Ho=[i0]∧OwR P2 99 G' i0 v0 y)):=by
 refine Ay (args:=[v0,(iv x1),(iv x2),(.func (.func 147) #[] #[])]) (N:=53) [] func168 Z Z (lb Z) Z λa f=> ?_
 unfold D.s0 at hd
 refine Af ?_
 refine Ab f Z λa f=>Ai f Z Z Az λa f=>Ac f Z λa f=>Aa ?_
 have⟨aa,ab,hd⟩:=bind_some hd
 refine AL (λa w=>∃ac:List (Int×Int),ac=aa∧∃(ad:GH) (ae:Itm),GLe G ad∧Fr a 53 []∧Mem W ad w (ae::H)∧OwR P2 99 ad ae v0 ac) ?_ ?_
 ·refine Ak ?_
  refine AK (λaf a w=>∃ag:List (Int×Int),∃ah:Int,(ag,ah)=af∧∃(ai:GH) (aj:Itm),GLe G ai∧Fr a 53 [(0,v0),(1,(iv x1)),(2,(iv x2)),(3,(.func (.func 147) #[] #[])),(8,(iv ah))]∧Mem W ai w (aj::H)∧OwR P2 99 ai aj v0 ag) ab ⟨_,_,Z,_,it0,gr,f.k Z,m,o0⟩ ?_
  clear ab f m
  rintro af ak al am a w ⟨ag,ah,rfl,ai,aj,an,f,m,ao⟩
  refine Ag (Af ?_)
  refine Ab f Z λa f=>Ab f Z λa f=>Ai f Z Z AI λa f=>Aa ?_
  rcases Ae al with⟨ap,al⟩|⟨ap,al⟩
  ·refine Am f Z ap ?_
   refine An ?_
   refine Ag (Ak (Af ?_))
   refine Ab f Z λa f=>Ac f Z λa f=>Aa ?_
   have⟨aq,ar,al⟩:=bind_some al
   refine AL (λa w=>∃au:List (Int×Int),au=aq∧∃(av:GH) (aw:Itm),GLe ai av∧Fr a 53 [(0,v0),(1,(iv x1)),(2,(iv x2)),(3,(.func (.func 147) #[] #[])),(8,(iv ah))]∧Mem W av w (aw::H)∧OwR P2 99 av aw v0 au) ?_ ?_
   ·refine Ak ?_
    refine AK (λax a w=>∃ay:List (Int×Int),∃az:Int,(ay,az)=ax∧∃(aA:GH) (aB:Itm),GLe ai aA∧Fr a 53 [(0,v0),(1,(iv x1)),(2,(iv x2)),(3,(.func (.func 147) #[] #[])),(8,(iv ah)),(9,(iv az))]∧Mem W aA w (aB::H)∧OwR P2 99 aA aB v0 ay) ar ⟨_,_,Z,_,aj,gr,f.k Z,m,ao⟩ ?_
    clear ar f m
    rintro ax aC aD aE a w ⟨ay,az,rfl,aA,aB,aF,f,m,aG⟩
    refine Ag (Ag ?_)
    refine A9 17 AN (by kernel_rfl) m ?_
    refine Ah 0 17 Z f Z λa f=>Ah 1 17 Z f Z λa f=>q_p 2 17 Z f (λ_=>AR (f.e Z) (f.e Z) C4) λa f=>Ah 3 17 Z f Z λa f=> ?_
    have⟨aH,aI,aD⟩:=bind_some aD
    refine CM (fuel':=0) (listed':= #[true,true,true,true,true,true,true,true,true,true,true,true,true,true,true,true,true]) (λa=>Fr a 53 [(0,v0),(1,(iv x1)),(2,(iv x2)),(3,(.func (.func 147) #[] #[])),(8,(iv ah)),(9,(iv az)),(18,(iv az)),(19,(iv x1)),(20,(.bool (decide (x1<az)))),(21,(.bool (decide (x1<az)))),(34,(.bool aH))]) ?_ ?_
    ·intro a f
     refine AY λaJ w aK m=> ?_
     have aG:=OwR.mono trivial aK aG
     refine Aa ?_
     rcases Ae aD with⟨aL,aD⟩|⟨aL,aD⟩
     ·refine Am f Z aL ?_
      refine An ?_
      refine Ag (Ak ?_)
      refine BE AN m ?_
      refine p_p 2 Z f (λ_=>Ba (f.e Z)) λa f=>p_p 3 Z f (λ_=>Ba (f.e Z)) λa f=>p_p 4 Z f (λ_=>AR (f.e Z) (f.e Z) AX) λa f=>BD 28015 12 (by kernel_rfl) Z ?_
      refine Ah 0 28015 Z f Z λa f=>Ah 1 28015 Z f Z λa f=>Ah 5 28015 Z f Z λa f=>Ah 6 28015 Z f Z λa f=>q_p 7 28015 Z f (λ_=>AR (f.e Z) (f.e Z) AX) λa f=> ?_
      have⟨aM,aN,aD⟩:=bind_some aD
      refine Aq (i:=8) (listed':= #[true,true,true,true,true,true,true,true,true,false,false,false,false,false,false,false,false,false]) (C:=P2) 28015 0 m aG Z AP aN Z (by kernel_rfl) Z f Z Z Z Z λaO a aP f=>Ar (i:=9) (listed':= #[true,true,true,true,true,true,true,true,true,true,false,false,false,false,false,false,false,false]) (C:=P2) [(iv aM.1),(iv aM.2)] 28015 0 aG Z A6 aP aN Z Z (by kernel_rfl) Z f Z Z Z λa f=>Ah 10 28015 Z f Z λa f=>Ah 11 28015 Z f Z λa f=> ?_
      have⟨aQ,aR,aD⟩:=bind_some aD
      refine Aq (i:=12) (listed':= #[true,true,true,true,true,true,true,true,true,true,true,true,true,false,false,false,false,false]) (C:=P2) 28015 0 m aG Z AP aR Z (by kernel_rfl) Z f Z Z Z Z λaS a aT f=>Ar (i:=13) (listed':= #[true,true,true,true,true,true,true,true,true,true,true,true,true,true,false,false,false,false]) (C:=P2) [(iv aQ.1),(iv aQ.2)] 28015 0 aG Z A6 aT aR Z Z (by kernel_rfl) Z f Z Z Z λa f=> ?_
      have⟨aU,aV,aD⟩:=bind_some aD
      refine Aq (i:=14) (listed':= #[true,true,true,true,true,true,true,true,true,true,true,true,true,true,true,false,false,false]) (C:=P2) 28015 0 m aG Z AP aV Z (by kernel_rfl) Z f Z Z Z Z λaW a aX f=>AY λaY w aZ m=> ?_
      have aG:=OwR.mono trivial aZ aG
      refine AQ (E:=P2) (y':=(aM.1,aM.2)) [(iv aM.1),(iv aM.2)] 0 m aG Z sizeOf99 f Z Z aX aV Z (Ap Z (Ap Z AG)) (lb Z) Z λa0 w m a1=> ?_
      have⟨a2,a3,aD⟩:=bind_some aD
      refine Bl 0 m a1 Z AP f Z Z Z a3 λa4 a a5 f=>AQ (E:=P2) (y':=(aQ.1,aQ.2)) [(iv aQ.1),(iv aQ.2)] 0 m a1 Z sizeOf99 f Z Z a5 a3 Z (Ap Z (Ap Z AG)) (lb Z) Z λa6 w m a7=>Aa (Ao ?_)
      refine Ab f Z λa f=>Ai f Z Z AX λa f=>Ac f Z λa f=>Aa ?_
      obtain rfl:=sj aD
      exact⟨_,Z,_,_,Z,_,a6,(gt aF (gt aK aZ)),f.k Z,m,a7⟩
     ·refine Aj f Z aL ?_
      refine AE Z ?_
      obtain rfl:=sj aD
      obtain rfl:=aE _ rfl
      exact⟨_,Z,_,aB,(gt aF aK),f.k Z,m,aG⟩
    ·intro a8
     rcases Ae aI with⟨a9,aI⟩|⟨a9,aI⟩
     ·refine Ah (hw:=wo f a9) 4 17 Z f Z λa f=> ?_
      refine Ah (hw:=wo f a9) 5 17 Z f Z λa f=>Ah (hw:=wo f a9) 6 17 Z f Z λa f=> ?_
      have⟨ba,bb,aI⟩:=bind_some aI
      refine Aq (i:=7) (listed':= #[true,true,true,true,true,true,true,true,false,false,false,false,false,false,false,false,false]) (C:=P2) 17 0 m aG Z AP bb Z (by kernel_rfl) Z f (AA f Z Z Z a9) Z Z Z λbc a bd f=>Ar (i:=8) (listed':= #[true,true,true,true,true,true,true,true,true,false,false,false,false,false,false,false,false]) (C:=P2) [(iv ba.1),(iv ba.2)] 17 0 aG Z A6 bd bb Z Z (by kernel_rfl) Z f (AA f Z Z Z a9) Z Z λa f=>Ah (hw:=wo f a9) 9 17 Z f Z λa f=>Ah (hw:=wo f a9) 10 17 Z f Z λa f=>q_p (hw:=wo f a9) 11 17 Z f (λ_=>AR (f.e Z) (f.e Z) AX) λa f=> ?_
      have⟨be,bf,aI⟩:=bind_some aI
      refine Aq (i:=12) (listed':= #[true,true,true,true,true,true,true,true,true,true,true,true,true,false,false,false,false]) (C:=P2) 17 0 m aG Z AP bf Z (by kernel_rfl) Z f (AA f Z Z Z a9) Z Z Z λbg a bh f=>Ar (i:=13) (listed':= #[true,true,true,true,true,true,true,true,true,true,true,true,true,true,false,false,false]) (C:=P2) [(iv be.1),(iv be.2)] 17 0 aG Z A6 bh bf Z Z (by kernel_rfl) Z f (AA f Z Z Z a9) Z Z λa f=> ?_
      have⟨bi,bj,aI⟩:=bind_some aI
      refine BQ (i:=14) 17 Z (by kernel_rfl) Z f (AA f Z Z Z a9) Z Z Z call147 (λ_ _ w bk m=>Wk.a m bj) λa f=>q_p (hw:=wo f a9) 15 17 Z f (λ_=>AR (f.e Z) (f.e Z) AI) λa f=>q_p 16 17 Z f (λ_=>A7 (f.e Z) a9 (f.e Z)) λa f=> ?_
      obtain rfl:=sj aI
      exact a8 _ (f.k Z)
     ·refine Au 4 17 Z f a9 λa f=> ?_
      refine Au 5 17 Z f a9 λa f=>Au 6 17 Z f a9 λa f=>Au 7 17 Z f a9 λa f=>Au 8 17 Z f a9 λa f=>Au 9 17 Z f a9 λa f=>Au 10 17 Z f a9 λa f=>Au 11 17 Z f a9 λa f=>Au 12 17 Z f a9 λa f=>Au 13 17 Z f a9 λa f=>Au 14 17 Z f a9 λa f=>Au 15 17 Z f a9 λa f=>q_p 16 17 Z f (λ_=>A8 (f.e Z) a9 (f.e Z)) λa f=> ?_
      obtain rfl:=sj aI
      exact a8 _ (f.k Z)
   ·rintro a w ⟨au,rfl,av,aw,bl,f,m,bm⟩
    refine Ao ?_
    refine Ab f Z λa f=>Ai f Z Z Az λa f=>Ac f Z λa f=>Aa ?_
    obtain rfl:=sj al
    exact⟨_,Z,_,_,Z,_,aw,(gt an bl),f.k Z,m,bm⟩
  ·refine Aj f Z ap ?_
   refine AE Z ?_
   obtain rfl:=sj al
   obtain rfl:=am _ rfl
   exact⟨_,Z,_,aj,an,f.weak trivial,m,ao⟩
 ·rintro a w ⟨ac,rfl,ad,ae,bn,f,m,bo⟩
  obtain rfl:=sj hd
  exact⟨[],trivial,f.d,_,[ae],bn,m,_,Z,bo⟩
theorem Wk.e0 {v0:Value}{it0:Itm}{x0:(List (Int×Int))}{x1 x2 x3:Int}(m:Mem W G w (it0::H))(o0:OwR P2 99 G it0 v0 x0){y:((List (Int×Int)))}(hd:D.e0 x0 x1 x2 x3=some y):
  Calls prog 189 #[v0,(iv x1),(iv x2),(iv x3),(.func (.func 147) #[] #[])] w (Res W G H (λG' Ho _=>∃i0:Itm,Ho=[i0]∧OwR P2 99 G' i0 v0 y)):=by
 refine Ay (args:=[v0,(iv x1),(iv x2),(iv x3),(.func (.func 147) #[] #[])]) (N:=82) [] func189 Z Z (lb Z) Z λa f=> ?_
 unfold D.e0 at hd
 refine Af ?_
 refine Ab f Z λa f=>Ac f Z λa f=>Aa ?_
 have⟨aa,ab,hd⟩:=bind_some hd
 refine AL (λa w=>∃q_150':(List (Int×Int)),aa= .inl q_150'∧∃ac:List (Int×Int),ac=q_150'∧∃(ad:GH) (ae:Itm),GLe G ad∧Fr a 82 []∧Mem W ad w (ae::H)∧OwR P2 99 ad ae v0 ac) ?_ ?_
 ·refine Ak ?_
  refine AK (λaf a w=>∃ag:List (Int×Int),∃ah:Int,(ag,ah)=af∧∃(ai:GH) (aj:Itm),GLe G ai∧Fr a 82 [(0,v0),(2,(iv x2)),(3,(iv x3)),(4,(.func (.func 147) #[] #[])),(10,(iv ah))]∧Mem W ai w (aj::H)∧OwR P2 99 ai aj v0 ag) ab ⟨_,_,Z,_,it0,gr,f.k Z,m,o0⟩ ?_
  clear ab f m
  rintro af ak al am a w ⟨ag,ah,rfl,ai,aj,an,f,m,ao⟩
  refine Ak (Af ?_)
  refine Ab f Z λa f=>Ai f Z Z b_mul λa f=>Ai f Z Z Az λa f=>Ac f Z λa f=>Aa (Ag (Af ?_))
  refine Ab f Z λa f=>Ab f Z λa f=>Ai f Z Z Cb λa f=>Aa ?_
  rcases Ae al with⟨ap,al⟩|⟨ap,al⟩
  ·refine Am f Z ap ?_
   refine AE Z ?_
   obtain rfl:=sj al
   obtain rfl:=am _ rfl
   exact⟨_,Z,_,Z,_,aj,an,f.weak trivial,m,ao⟩
  ·refine Aj f Z ap ?_
   refine An ?_
   refine Ag (Ag ?_)
   refine A9 22 AN (by kernel_rfl) m ?_
   refine Ah 0 22 Z f Z λa f=>q_p 1 22 Z f (λ_=>AR (f.e Z) (f.e Z) Az) λa f=>Ah 2 22 Z f Z λa f=>q_p 3 22 Z f (λ_=>AR (f.e Z) (f.e Z) AI) λa f=>Ah 4 22 Z f Z λa f=> ?_
   have⟨aq,ar,al⟩:=bind_some al
   refine CM (fuel':=0) (listed':= #[true,true,true,true,true,true,true,true,true,true,true,true,true,true,true,true,true,true,true,true,true,true]) (λa=>Fr a 82 [(0,v0),(2,(iv x2)),(3,(iv x3)),(4,(.func (.func 147) #[] #[])),(10,(iv ah)),(11,(iv (i64.wrap ((i64.wrap (2*ah))+1)))),(18,(.bool (decide (x2≤(i64.wrap ((i64.wrap (2*ah))+1)))))),(19,(iv (i64.wrap ((i64.wrap (2*ah))+1)))),(20,(iv (i64.wrap ((i64.wrap ((i64.wrap (2*ah))+1))+1)))),(21,(iv x2)),(22,(.bool (decide ((i64.wrap ((i64.wrap ((i64.wrap (2*ah))+1))+1))<x2)))),(23,(.bool (decide ((i64.wrap ((i64.wrap ((i64.wrap (2*ah))+1))+1))<x2)))),(40,(.bool aq))]) ?_ ?_
   ·intro a f
    refine AY λau w av m=> ?_
    have ao:=OwR.mono trivial av ao
    refine Aa ?_
    have⟨aw,ax,al⟩:=bind_some al
    refine AL (λa w=>∃ay:Int,ay=aw∧∃(az:GH),GLe au az∧Fr a 82 [(0,v0),(2,(iv x2)),(3,(iv x3)),(4,(.func (.func 147) #[] #[])),(10,(iv ah)),(11,(iv ay))]∧Mem W az w (aj::H)) ?_ ?_
    ·rcases Ae ax with⟨aA,ax⟩|⟨aA,ax⟩
     ·refine Am f Z aA ?_
      refine Ao ?_
      refine Ab f Z λa f=>Ai f Z Z Az λa f=>Ac f Z λa f=>Aa ?_
      obtain rfl:=sj ax
      exact⟨_,Z,_,gr,f.k Z,m⟩
     ·refine Aj f Z aA ?_
      refine An ?_
      obtain rfl:=sj ax
      exact⟨_,Z,_,gr,f.k Z,m⟩
    ·rintro a w ⟨ay,rfl,az,aB,f,m⟩
     have ao:=OwR.mono trivial aB ao
     refine Ag (Ag ?_)
     refine A9 16 AN (by kernel_rfl) m ?_
     refine Ah 0 16 Z f Z λa f=>Ah 1 16 Z f Z λa f=>Ah 2 16 Z f Z λa f=>Ah 3 16 Z f Z λa f=>q_p 4 16 Z f (λ_=>AR (f.e Z) (f.e Z) Az) λa f=> ?_
     have⟨aC,aD,al⟩:=bind_some al
     refine Aq (i:=5) (listed':= #[true,true,true,true,true,true,false,false,false,false,false,false,false,false,false,false]) (C:=P2) 16 0 m ao Z AP aD Z (by kernel_rfl) Z f Z Z Z Z λaE a aF f=>Ar (i:=6) (listed':= #[true,true,true,true,true,true,true,false,false,false,false,false,false,false,false,false]) (C:=P2) [(iv aC.1),(iv aC.2)] 16 0 ao Z A6 aF aD Z Z (by kernel_rfl) Z f Z Z Z λa f=>Ah 7 16 Z f Z λa f=>Ah 8 16 Z f Z λa f=>Ah 9 16 Z f Z λa f=>q_p 10 16 Z f (λ_=>AR (f.e Z) (f.e Z) Az) λa f=> ?_
     have⟨aG,aH,al⟩:=bind_some al
     refine Aq (i:=11) (listed':= #[true,true,true,true,true,true,true,true,true,true,true,true,false,false,false,false]) (C:=P2) 16 0 m ao Z AP aH Z (by kernel_rfl) Z f Z Z Z Z λaI a aJ f=>Ar (i:=12) (listed':= #[true,true,true,true,true,true,true,true,true,true,true,true,true,false,false,false]) (C:=P2) [(iv aG.1),(iv aG.2)] 16 0 ao Z A6 aJ aH Z Z (by kernel_rfl) Z f Z Z Z λa f=> ?_
     have⟨aK,aL,al⟩:=bind_some al
     refine BQ (i:=13) 16 Z (by kernel_rfl) Z f Z Z Z Z call147 (λ_ _ w aM m=>Wk.a m aL) λa f=>q_p 14 16 Z f (λ_=>AR (f.e Z) (f.e Z) AI) λa f=>q_p 15 16 Z f (λ_=>Bt (f.e Z)) λa f=>AY λaN w aO m=> ?_
     have ao:=OwR.mono trivial aO ao
     refine Aa ?_
     rcases Ae al with⟨aP,al⟩|⟨aP,al⟩
     ·refine Am f Z aP ?_
      refine As ?_
      obtain rfl:=sj al
      obtain rfl:=am _ rfl
      obtain rfl:=sj hd
      exact⟨[],trivial,f.d,_,[aj],(gt an (gt av (gt aB aO))),m,_,Z,ao⟩
     ·refine Aj f Z aP ?_
      refine An ?_
      refine Ag ?_
      refine BE AN m ?_
      refine p_p 4 Z f (λ_=>Ba (f.e Z)) λa f=>p_p 5 Z f (λ_=>Ba (f.e Z)) λa f=>p_p 6 Z f (λ_=>Ba (f.e Z)) λa f=>p_p 7 Z f (λ_=>AR (f.e Z) (f.e Z) Az) λa f=>BD 240021 17 (by kernel_rfl) Z ?_
      refine Ah 0 240021 Z f Z λa f=>Ah 1 240021 Z f Z λa f=>Ah 2 240021 Z f Z λa f=>q_p 3 240021 Z f (λ_=>AR (f.e Z) (f.e Z) Az) λa f=>Ah 8 240021 Z f Z λa f=>Ah 9 240021 Z f Z λa f=>Ah 10 240021 Z f Z λa f=>q_p 11 240021 Z f (λ_=>AR (f.e Z) (f.e Z) Az) λa f=> ?_
      have⟨aQ,aR,al⟩:=bind_some al
      refine Aq (i:=12) (listed':= #[true,true,true,true,true,true,true,true,true,true,true,true,true,false,false,false,false,false,false,false,false,false,false,false]) (C:=P2) 240021 0 m ao Z AP aR Z (by kernel_rfl) Z f Z Z Z Z λaS a aT f=>Ar (i:=13) (listed':= #[true,true,true,true,true,true,true,true,true,true,true,true,true,true,false,false,false,false,false,false,false,false,false,false]) (C:=P2) [(iv aQ.1),(iv aQ.2)] 240021 0 ao Z A6 aT aR Z Z (by kernel_rfl) Z f Z Z Z λa f=>Ah 14 240021 Z f Z λa f=>Ah 15 240021 Z f Z λa f=>Ah 16 240021 Z f Z λa f=>q_p 17 240021 Z f (λ_=>AR (f.e Z) (f.e Z) Az) λa f=> ?_
      have⟨aU,aV,al⟩:=bind_some al
      refine Aq (i:=18) (listed':= #[true,true,true,true,true,true,true,true,true,true,true,true,true,true,true,true,true,true,true,false,false,false,false,false]) (C:=P2) 240021 0 m ao Z AP aV Z (by kernel_rfl) Z f Z Z Z Z λaW a aX f=>Ar (i:=19) (listed':= #[true,true,true,true,true,true,true,true,true,true,true,true,true,true,true,true,true,true,true,true,false,false,false,false]) (C:=P2) [(iv aU.1),(iv aU.2)] 240021 0 ao Z A6 aX aV Z Z (by kernel_rfl) Z f Z Z Z λa f=> ?_
      have⟨aY,aZ,al⟩:=bind_some al
      refine Aq (i:=20) (listed':= #[true,true,true,true,true,true,true,true,true,true,true,true,true,true,true,true,true,true,true,true,true,false,false,false]) (C:=P2) 240021 0 m ao Z AP aZ Z (by kernel_rfl) Z f Z Z Z Z λa0 a a1 f=>AY λa2 w a3 m=> ?_
      have ao:=OwR.mono trivial a3 ao
      refine AQ (E:=P2) (y':=(aQ.1,aQ.2)) [(iv aQ.1),(iv aQ.2)] 0 m ao Z sizeOf99 f Z Z a1 aZ Z (Ap Z (Ap Z AG)) (lb Z) Z λa4 w m a5=> ?_
      have⟨a6,a7,al⟩:=bind_some al
      refine Bl 0 m a5 Z AP f Z Z Z a7 λa8 a a9 f=>AQ (E:=P2) (y':=(aU.1,aU.2)) [(iv aU.1),(iv aU.2)] 0 m a5 Z sizeOf99 f Z Z a9 a7 Z (Ap Z (Ap Z AG)) (lb Z) Z λba w m bb=>Aa (Ao ?_)
      refine Ab f Z λa f=>Ac f Z λa f=>Aa ?_
      obtain rfl:=sj al
      exact⟨_,Z,_,_,Z,_,ba,(gt an (gt av (gt aB (gt aO a3)))),f.k Z,m,bb⟩
   ·intro bc
    rcases Ae ar with⟨bd,ar⟩|⟨bd,ar⟩
    ·refine Ah (hw:=wo f bd) 5 22 Z f Z λa f=> ?_
     refine Ah (hw:=wo f bd) 6 22 Z f Z λa f=>Ah (hw:=wo f bd) 7 22 Z f Z λa f=>Ah (hw:=wo f bd) 8 22 Z f Z λa f=>q_p (hw:=wo f bd) 9 22 Z f (λ_=>AR (f.e Z) (f.e Z) Az) λa f=> ?_
     have⟨be,bf,ar⟩:=bind_some ar
     refine Aq (i:=10) (listed':= #[true,true,true,true,true,true,true,true,true,true,true,false,false,false,false,false,false,false,false,false,false,false]) (C:=P2) 22 0 m ao Z AP bf Z (by kernel_rfl) Z f (AA f Z Z Z bd) Z Z Z λbg a bh f=>Ar (i:=11) (listed':= #[true,true,true,true,true,true,true,true,true,true,true,true,false,false,false,false,false,false,false,false,false,false]) (C:=P2) [(iv be.1),(iv be.2)] 22 0 ao Z A6 bh bf Z Z (by kernel_rfl) Z f (AA f Z Z Z bd) Z Z λa f=>Ah (hw:=wo f bd) 12 22 Z f Z λa f=>Ah (hw:=wo f bd) 13 22 Z f Z λa f=>Ah (hw:=wo f bd) 14 22 Z f Z λa f=>q_p (hw:=wo f bd) 15 22 Z f (λ_=>AR (f.e Z) (f.e Z) Az) λa f=>q_p (hw:=wo f bd) 16 22 Z f (λ_=>AR (f.e Z) (f.e Z) Az) λa f=> ?_
     have⟨bi,bj,ar⟩:=bind_some ar
     refine Aq (i:=17) (listed':= #[true,true,true,true,true,true,true,true,true,true,true,true,true,true,true,true,true,true,false,false,false,false]) (C:=P2) 22 0 m ao Z AP bj Z (by kernel_rfl) Z f (AA f Z Z Z bd) Z Z Z λbk a bl f=>Ar (i:=18) (listed':= #[true,true,true,true,true,true,true,true,true,true,true,true,true,true,true,true,true,true,true,false,false,false]) (C:=P2) [(iv bi.1),(iv bi.2)] 22 0 ao Z A6 bl bj Z Z (by kernel_rfl) Z f (AA f Z Z Z bd) Z Z λa f=> ?_
     have⟨bm,bn,ar⟩:=bind_some ar
     refine BQ (i:=19) 22 Z (by kernel_rfl) Z f (AA f Z Z Z bd) Z Z Z call147 (λ_ _ w bo m=>Wk.a m bn) λa f=>q_p (hw:=wo f bd) 20 22 Z f (λ_=>AR (f.e Z) (f.e Z) AI) λa f=>q_p 21 22 Z f (λ_=>A7 (f.e Z) bd (f.e Z)) λa f=> ?_
     obtain rfl:=sj ar
     exact bc _ (f.k Z)
    ·refine Au 5 22 Z f bd λa f=> ?_
     refine Au 6 22 Z f bd λa f=>Au 7 22 Z f bd λa f=>Au 8 22 Z f bd λa f=>Au 9 22 Z f bd λa f=>Au 10 22 Z f bd λa f=>Au 11 22 Z f bd λa f=>Au 12 22 Z f bd λa f=>Au 13 22 Z f bd λa f=>Au 14 22 Z f bd λa f=>Au 15 22 Z f bd λa f=>Au 16 22 Z f bd λa f=>Au 17 22 Z f bd λa f=>Au 18 22 Z f bd λa f=>Au 19 22 Z f bd λa f=>Au 20 22 Z f bd λa f=>q_p 21 22 Z f (λ_=>A8 (f.e Z) bd (f.e Z)) λa f=> ?_
     obtain rfl:=sj ar
     exact bc _ (f.k Z)
 ·rintro a w ⟨_,rfl,ac,rfl,ad,ae,bp,f,m,bq⟩
  obtain rfl:=sj hd
  exact⟨[],trivial,f.d,_,[ae],bp,m,_,Z,bq⟩
theorem Wk.v0 {v0:Value}{it0:Itm}{x0:(List (Int×Int))}{x1 x2:Int}(m:Mem W G w (it0::H))(o0:OwR P2 99 G it0 v0 x0){y:((List (Int×Int)))}(hd:D.v0 x0 x1 x2=some y):
  Calls prog 169 #[v0,(iv x1),(iv x2),(.func (.func 147) #[] #[])] w (Res W G H (λG' Ho _=>∃i0:Itm,Ho=[i0]∧OwR P2 99 G' i0 v0 y)):=by
 refine Ay (args:=[v0,(iv x1),(iv x2),(.func (.func 147) #[] #[])]) (N:=60) [] func169 Z Z (lb Z) Z λa f=> ?_
 unfold D.v0 at hd
 refine Af ?_
 refine Ab f Z λa f=>Ac f Z λa f=>AC ?_
 refine Ac f Z λa f=>AC ?_
 refine Ab f Z λa f=>Ab f Z λa f=>Ai f Z Z AX λa f=>Ac f Z λa f=>Aa (Ag (Af ?_))
 refine Ab f Z λa f=>Ai f Z Z AX λa f=>Ai f Z Z (b_quo Z) λa f=>Ac f Z λa f=>Aa ?_
 have⟨aa,ab,hd⟩:=bind_some hd
 refine AL (λa w=>∃ac:List (Int×Int),ac=aa∧∃(ad:GH) (ae:Itm),GLe G ad∧Fr a 60 [(0,v0),(3,(.func (.func 147) #[] #[])),(8,(iv x1)),(9,(iv 0)),(10,(iv (i64.wrap (x2-x1))))]∧Mem W ad w (ae::H)∧OwR P2 99 ad ae v0 ac) ?_ ?_
 ·refine Ak ?_
  refine AK (λaf a w=>∃ag:List (Int×Int),∃ah:Int,(ag,ah)=af∧∃(ai:GH) (aj:Itm),GLe G ai∧Fr a 60 [(0,v0),(3,(.func (.func 147) #[] #[])),(8,(iv x1)),(9,(iv 0)),(10,(iv (i64.wrap (x2-x1)))),(11,(iv ah))]∧Mem W ai w (aj::H)∧OwR P2 99 ai aj v0 ag) ab ⟨_,_,Z,_,it0,gr,f.k Z,m,o0⟩ ?_
  clear ab f m
  rintro af ak al am a w ⟨ag,ah,rfl,ai,aj,an,f,m,ao⟩
  refine Ag (Af ?_)
  refine Ab f Z λa f=>Ai f Z Z Cb λa f=>Aa ?_
  rcases Ae al with⟨ap,al⟩|⟨ap,al⟩
  ·refine Am f Z ap ?_
   refine An ?_
   refine Ag (Ak (Ao ?_))
   refine Ab f Z λa f=>Ab f Z λa f=>Ab f Z λa f=>Ab f Z λa f=>Ab f Z λa f=> ?_
   have⟨aq,ar,al⟩:=bind_some al
   refine A1 f Z call189 (Wk.e0 m ao ar) λau av aw w ax m ay a f=> ?_
   obtain⟨az,rfl,aA⟩:=ay
   refine Aa (Ao ?_)
   refine Ab f Z λa f=>Ai f Z Z AX λa f=>Ac f Z λa f=>Aa ?_
   obtain rfl:=sj al
   exact⟨_,Z,_,_,Z,_,az,(gt an ax),f.k Z,m,aA⟩
  ·refine Aj f Z ap ?_
   refine AE Z ?_
   obtain rfl:=sj al
   obtain rfl:=am _ rfl
   exact⟨_,Z,_,aj,an,f.k Z,m,ao⟩
 ·rintro a w ⟨ac,rfl,ad,ae,aB,f,m,aC⟩
  refine Af ?_
  refine Ab f Z λa f=>Ai f Z Z AX λa f=>Ac f Z λa f=>Aa ?_
  have⟨aD,aE,hd⟩:=bind_some hd
  refine AL (λa w=>∃aF:List (Int×Int),aF=aD∧∃(aG:GH) (aH:Itm),GLe ad aG∧Fr a 60 []∧Mem W aG w (aH::H)∧OwR P2 99 aG aH v0 aF) ?_ ?_
  ·refine Ak ?_
   refine AK (λaI a w=>∃aJ:List (Int×Int),∃aK:Int,(aJ,aK)=aI∧∃(aL:GH) (aM:Itm),GLe ad aL∧Fr a 60 [(0,v0),(3,(.func (.func 147) #[] #[])),(8,(iv x1)),(9,(iv 0)),(12,(iv aK))]∧Mem W aL w (aM::H)∧OwR P2 99 aL aM v0 aJ) aE ⟨_,_,Z,_,ae,gr,f.k Z,m,aC⟩ ?_
   clear aE f m
   rintro aI aN aO aP a w ⟨aJ,aK,rfl,aL,aM,aQ,f,m,aR⟩
   refine Ag (Af ?_)
   refine Ab f Z λa f=>Ai f Z Z Cb λa f=>Aa ?_
   rcases Ae aO with⟨aS,aO⟩|⟨aS,aO⟩
   ·refine Am f Z aS ?_
    refine An ?_
    refine Ag (Ak (Ag ?_))
    refine BE AN m ?_
    refine p_p 2 Z f (λ_=>Ba (f.e Z)) λa f=>p_p 3 Z f (λ_=>Ba (f.e Z)) λa f=>p_p 4 Z f (λ_=>Ba (f.e Z)) λa f=>p_p 5 Z f (λ_=>AR (f.e Z) (f.e Z) Az) λa f=>BD 60017 13 (by kernel_rfl) Z ?_
    refine Ah 0 60017 Z f Z λa f=>Ah 1 60017 Z f Z λa f=>Ah 6 60017 Z f Z λa f=>Ah 7 60017 Z f Z λa f=>Ah 8 60017 Z f Z λa f=>q_p 9 60017 Z f (λ_=>AR (f.e Z) (f.e Z) Az) λa f=> ?_
    have⟨aT,aU,aO⟩:=bind_some aO
    refine Aq (i:=10) (listed':= #[true,true,true,true,true,true,true,true,true,true,true,false,false,false,false,false,false,false,false,false]) (C:=P2) 60017 0 m aR Z AP aU Z (by kernel_rfl) Z f Z Z Z Z λaV a aW f=>Ar (i:=11) (listed':= #[true,true,true,true,true,true,true,true,true,true,true,true,false,false,false,false,false,false,false,false]) (C:=P2) [(iv aT.1),(iv aT.2)] 60017 0 aR Z A6 aW aU Z Z (by kernel_rfl) Z f Z Z Z λa f=>Ah 12 60017 Z f Z λa f=>Ah 13 60017 Z f Z λa f=> ?_
    have⟨aX,aY,aO⟩:=bind_some aO
    refine Aq (i:=14) (listed':= #[true,true,true,true,true,true,true,true,true,true,true,true,true,true,true,false,false,false,false,false]) (C:=P2) 60017 0 m aR Z AP aY Z (by kernel_rfl) Z f Z Z Z Z λaZ a a0 f=>Ar (i:=15) (listed':= #[true,true,true,true,true,true,true,true,true,true,true,true,true,true,true,true,false,false,false,false]) (C:=P2) [(iv aX.1),(iv aX.2)] 60017 0 aR Z A6 a0 aY Z Z (by kernel_rfl) Z f Z Z Z λa f=> ?_
    have⟨a1,a2,aO⟩:=bind_some aO
    refine Aq (i:=16) (listed':= #[true,true,true,true,true,true,true,true,true,true,true,true,true,true,true,true,true,false,false,false]) (C:=P2) 60017 0 m aR Z AP a2 Z (by kernel_rfl) Z f Z Z Z Z λa3 a a4 f=>AY λa5 w a6 m=> ?_
    have aR:=OwR.mono trivial a6 aR
    refine AQ (E:=P2) (y':=(aT.1,aT.2)) [(iv aT.1),(iv aT.2)] 0 m aR Z sizeOf99 f Z Z a4 a2 Z (Ap Z (Ap Z AG)) (lb Z) Z λa7 w m a8=> ?_
    have⟨a9,ba,aO⟩:=bind_some aO
    refine Bl 0 m a8 Z AP f Z Z Z ba λbb a bc f=>AQ (E:=P2) (y':=(aX.1,aX.2)) [(iv aX.1),(iv aX.2)] 0 m a8 Z sizeOf99 f Z Z bc ba Z (Ap Z (Ap Z AG)) (lb Z) Z λbd w m be=>Aa (Ao ?_)
    refine Ab f Z λa f=>Ab f Z λa f=>Ab f Z λa f=>Ab f Z λa f=>Ab f Z λa f=> ?_
    have⟨bf,bg,aO⟩:=bind_some aO
    refine A1 f Z call189 (Wk.e0 m be bg) λbh bi bj w bk m bl a f=> ?_
    obtain⟨bm,rfl,bn⟩:=bl
    refine Aa (Ao ?_)
    refine Ab f Z λa f=>Ai f Z Z AX λa f=>Ac f Z λa f=>Aa ?_
    obtain rfl:=sj aO
    exact⟨_,Z,_,_,Z,_,bm,(gt aQ (gt a6 bk)),f.k Z,m,bn⟩
   ·refine Aj f Z aS ?_
    refine AE Z ?_
    obtain rfl:=sj aO
    obtain rfl:=aP _ rfl
    exact⟨_,Z,_,aM,aQ,f.weak trivial,m,aR⟩
  ·rintro a w ⟨aF,rfl,aG,aH,bo,f,m,bp⟩
   obtain rfl:=sj hd
   exact⟨[],trivial,f.d,_,[aH],(gt aB bo),m,_,Z,bp⟩
theorem Wk.x0 {v0:Value}{it0:Itm}{x0:(List (Int×Int))}{x1 x2:Int}(m:Mem W G w (it0::H))(o0:OwR P2 99 G it0 v0 x0){y:((List (Int×Int)))}(hd:D.x0 x0 x1 x2=some y):
  Calls prog 170 #[v0,(iv x1),(iv x2),(.func (.func 147) #[] #[])] w (Res W G H (λG' Ho _=>∃i0:Itm,Ho=[i0]∧OwR P2 99 G' i0 v0 y)):=by
 refine Ay (args:=[v0,(iv x1),(iv x2),(.func (.func 147) #[] #[])]) (N:=67) [] func170 Z Z (lb Z) Z λa f=> ?_
 unfold D.x0 at hd
 refine Af ?_
 refine Ab f Z λa f=>Ab f Z λa f=>Ai f Z Z AX λa f=>Ac f Z λa f=>AC ?_
 refine Ab f Z λa f=>Ai f Z Z Cb λa f=>Aa ?_
 rcases Ae hd with⟨aa,hd⟩|⟨aa,hd⟩
 ·refine Am f Z aa ?_
  refine Af ?_
  refine Ab f Z λa f=>l_o f (r_conv (f.e Z) ⟨_,underlying3⟩ underlying172) λa f=>BT (cs:=[(.int .u64 0)]) zeroValue172 m f Z Z λab w a m f=>Bb 0 0 (ds:=[(.int .u64 (IntKind.u64.wrap (i64.wrap (x2-x1))))]) m sizeOf172 f Z Z Z (Ap Z AG) Z (lb Z) Z λw m=>AC ?_
  refine Ab f Z λa f=> ?_
  have⟨ac,ad,hd⟩:=bind_some hd
  refine Bz f Z call190 (Wk.u m ad) λae w af m a f=> ?_
  have o0:=OwR.mono trivial af o0
  refine Ac f Z λa f=>AC ?_
  refine Ab f Z λa f=>Ab f Z λa f=>Ai f Z Z (b_quo Z) λa f=>Ai f Z Z b_mul λa f=>Ai f Z Z Az λa f=>Ai f Z Z AX λa f=>Ac f Z λa f=>Aa ?_
  have⟨ag,ah,hd⟩:=bind_some hd
  refine AL (λa w=>∃ai:List (Int×Int),ai=ag∧∃(aj:GH) (ak:Itm),GLe ae aj∧Fr a 67 []∧Mem W aj w (ak::H)∧OwR P2 99 aj ak v0 ai) ?_ ?_
  ·refine Ak ?_
   refine AK (λal a w=>∃am:List (Int×Int),∃an:Int,∃ao:Int,(am,an,ao)=al∧∃(ap:GH) (aq:Itm),GLe ae ap∧Fr a 67 [(0,v0),(1,(iv x1)),(8,(iv (i64.wrap (x2-x1)))),(9,(pb ab)),(10,(.int .u64 ac)),(11,(iv an))]∧Mem W ap w (ib ab 172 [(.int .u64 ao)]::aq::H)∧OwR P2 99 ap aq v0 am) ah ⟨_,_,_,Z,_,it0,gr,f.k Z,m,o0⟩ ?_
   clear ah f m
   rintro al ar au av a w ⟨am,an,ao,rfl,ap,aq,aw,f,m,ax⟩
   refine Ag (Af ?_)
   refine Ab f Z λa f=>Ab f Z λa f=>Ab f Z λa f=>Ai f Z Z (b_quo Z) λa f=>Ai f Z Z b_mul λa f=>Ai f Z Z Az λa f=>Ai f Z Z Az λa f=>Ai f Z Z CN λa f=>Aa ?_
   rcases Ae au with⟨ay,au⟩|⟨ay,au⟩
   ·refine Am f Z ay ?_
    refine An ?_
    refine Ag (Ak (Af ?_))
    have⟨az,aA,au⟩:=bind_some au
    refine A1 f Z call191 (Wk.A m aA) λaB aC aD w aE m aF a f=> ?_
    obtain⟨rfl,rfl⟩:=aF
    have ax:=OwR.mono trivial aE ax
    refine Ab f Z λa f=>Ai f Z Z AX λa f=>Ai f Z Z b_and λa f=>l_o f (r_conv (f.e Z) ⟨_,underlying111⟩ underlying3) λa f=>Ac f Z λa f=>Aa (Ag (Af ?_))
    refine Ab f Z λa f=>Ab f Z λa f=>Ai f Z Z Cb λa f=>Aa ?_
    have⟨aG,aH,au⟩:=bind_some au
    refine AL (λa w=>∃aI:Int,aI=aG∧∃(aJ:GH),GLe aC aJ∧Fr a 67 [(0,v0),(1,(iv x1)),(8,(iv (i64.wrap (x2-x1)))),(9,(pb ab)),(10,(.int .u64 ac)),(11,(iv an)),(12,(iv aI))]∧Mem W aJ w (ib ab 172 [(.int .u64 az.2)]::aq::H)) ?_ ?_
    ·rcases Ae aH with⟨aK,aH⟩|⟨aK,aH⟩
     ·refine Am f Z aK ?_
      refine Ao ?_
      refine Ab f Z λa f=>Ab f Z λa f=>Ai f Z Z AX λa f=>Ac f Z λa f=>Aa ?_
      obtain rfl:=sj aH
      exact⟨_,Z,_,gr,f.k Z,m⟩
     ·refine Aj f Z aK ?_
      refine An ?_
      obtain rfl:=sj aH
      exact⟨_,Z,_,gr,f.k Z,m⟩
    ·rintro a w ⟨aI,rfl,aJ,aL,f,m⟩
     have ax:=OwR.mono trivial aL ax
     refine BE AN m ?_
     refine p_p 2 Z f (λ_=>Ba (f.e Z)) λa f=>p_p 3 Z f (λ_=>Ba (f.e Z)) λa f=>p_p 4 Z f (λ_=>Ba (f.e Z)) λa f=>p_p 5 Z f (λ_=>AR (f.e Z) (f.e Z) Az) λa f=>BD 60017 13 (by kernel_rfl) Z ?_
     refine Ah 0 60017 Z f Z λa f=>Ah 1 60017 Z f Z λa f=>Ah 6 60017 Z f Z λa f=>Ah 7 60017 Z f Z λa f=>Ah 8 60017 Z f Z λa f=>q_p 9 60017 Z f (λ_=>AR (f.e Z) (f.e Z) Az) λa f=> ?_
     have⟨aM,aN,au⟩:=bind_some au
     refine Aq (i:=10) (listed':= #[true,true,true,true,true,true,true,true,true,true,true,false,false,false,false,false,false,false,false,false]) (C:=P2) 60017 1 m ax Z AP aN Z (by kernel_rfl) Z f Z Z Z Z λaO a aP f=>Ar (i:=11) (listed':= #[true,true,true,true,true,true,true,true,true,true,true,true,false,false,false,false,false,false,false,false]) (C:=P2) [(iv aM.1),(iv aM.2)] 60017 1 ax Z A6 aP aN Z Z (by kernel_rfl) Z f Z Z Z λa f=>Ah 12 60017 Z f Z λa f=>Ah 13 60017 Z f Z λa f=> ?_
     have⟨aQ,aR,au⟩:=bind_some au
     refine Aq (i:=14) (listed':= #[true,true,true,true,true,true,true,true,true,true,true,true,true,true,true,false,false,false,false,false]) (C:=P2) 60017 1 m ax Z AP aR Z (by kernel_rfl) Z f Z Z Z Z λaS a aT f=>Ar (i:=15) (listed':= #[true,true,true,true,true,true,true,true,true,true,true,true,true,true,true,true,false,false,false,false]) (C:=P2) [(iv aQ.1),(iv aQ.2)] 60017 1 ax Z A6 aT aR Z Z (by kernel_rfl) Z f Z Z Z λa f=> ?_
     have⟨aU,aV,au⟩:=bind_some au
     refine Aq (i:=16) (listed':= #[true,true,true,true,true,true,true,true,true,true,true,true,true,true,true,true,true,false,false,false]) (C:=P2) 60017 1 m ax Z AP aV Z (by kernel_rfl) Z f Z Z Z Z λaW a aX f=>AY λaY w aZ m=> ?_
     have ax:=OwR.mono trivial aZ ax
     refine AQ (E:=P2) (y':=(aM.1,aM.2)) [(iv aM.1),(iv aM.2)] 1 m ax Z sizeOf99 f Z Z aX aV Z (Ap Z (Ap Z AG)) (lb Z) Z λa0 w m a1=> ?_
     have⟨a2,a3,au⟩:=bind_some au
     refine Bl 1 m a1 Z AP f Z Z Z a3 λa4 a a5 f=>AQ (E:=P2) (y':=(aQ.1,aQ.2)) [(iv aQ.1),(iv aQ.2)] 1 m a1 Z sizeOf99 f Z Z a5 a3 Z (Ap Z (Ap Z AG)) (lb Z) Z λa6 w m a7=>Aa (Ao ?_)
     refine Ab f Z λa f=>Ai f Z Z Az λa f=>Ac f Z λa f=>Aa ?_
     obtain rfl:=sj au
     exact⟨_,Z,_,_,_,Z,_,a6,(gt aw (gt aE (gt aL aZ))),f.k Z,m,a7⟩
   ·refine Aj f Z ay ?_
    refine AE Z ?_
    have m:=m.fr 1
    have m:=m.eraseAt 1
    obtain rfl:=sj au
    obtain rfl:=av _ rfl
    exact⟨_,Z,_,aq,aw,f.weak trivial,m,ax⟩
  ·rintro a w ⟨ai,rfl,aj,ak,a8,f,m,a9⟩
   obtain rfl:=sj hd
   exact⟨[],trivial,f.d,_,[ak],(gt af a8),m,_,Z,a9⟩
 ·refine Aj f Z aa ?_
  refine An ?_
  obtain rfl:=sj hd
  exact⟨[],trivial,f.d,_,[it0],gr,m,_,Z,o0⟩
theorem Wk.M {v0:Value}{it0:Itm}{b3:Nat}{x0:(List (Int×Int))}{x1 x2 aa:Int}(m:Mem W G w (it0::ib b3 3 [(iv aa)]::H))(o0:OwR P2 99 G it0 v0 x0){y:Int×Int×((List (Int×Int)))×Int}(hd:D.M x0 x1 x2 aa=some y):
  Calls prog 207 #[v0,(iv x1),(iv x2),(pb b3),(.func (.func 147) #[] #[])] w (Res W G H (λG' Ho v=>∃i0:Itm,Ho=[i0,ib b3 3 [(iv y.2.2.2)]]∧v= .tuple #[(iv y.1),(iv y.2.1)]∧OwR P2 99 G' i0 v0 y.2.2.1)):=by
 refine Ay (args:=[v0,(iv x1),(iv x2),(pb b3),(.func (.func 147) #[] #[])]) (N:=32) [.tmp 10,.tmp 11] func207 Z Z (lb Z) Z λa f=> ?_
 unfold D.M at hd
 refine Af ?_
 refine Ac f Z λa f=>Ac f Z λa f=>Aa (Ag (Ag ?_))
 refine A9 11 AN (by kernel_rfl) m ?_
 refine Ah 0 11 Z f Z λa f=>Ah 1 11 Z f Z λa f=>Ah 2 11 Z f Z λa f=> ?_
 have⟨ab,ac,hd⟩:=bind_some hd
 refine Aq (i:=3) (listed':= #[true,true,true,true,false,false,false,false,false,false,false]) (C:=P2) 11 0 m o0 Z AP ac Z (by kernel_rfl) Z f Z Z Z Z λad a ae f=>Ar (i:=4) (listed':= #[true,true,true,true,true,false,false,false,false,false,false]) (C:=P2) [(iv ab.1),(iv ab.2)] 11 0 o0 Z A6 ae ac Z Z (by kernel_rfl) Z f Z Z Z λa f=>Ah 5 11 Z f Z λa f=>Ah 6 11 Z f Z λa f=> ?_
 have⟨af,ag,hd⟩:=bind_some hd
 refine Aq (i:=7) (listed':= #[true,true,true,true,true,true,true,true,false,false,false]) (C:=P2) 11 0 m o0 Z AP ag Z (by kernel_rfl) Z f Z Z Z Z λah a ai f=>Ar (i:=8) (listed':= #[true,true,true,true,true,true,true,true,true,false,false]) (C:=P2) [(iv af.1),(iv af.2)] 11 0 o0 Z A6 ai ag Z Z (by kernel_rfl) Z f Z Z Z λa f=> ?_
 have⟨aj,ak,hd⟩:=bind_some hd
 refine BQ (i:=9) 11 Z (by kernel_rfl) Z f Z Z Z Z call147 (λ_ _ w al m=>Wk.a m ak) λa f=>q_p 10 11 Z f (λ_=>AR (f.e Z) (f.e Z) AI) λa f=>AY λam w an m=> ?_
 have o0:=OwR.mono trivial an o0
 refine Aa ?_
 rcases Ae hd with⟨ao,hd⟩|⟨ao,hd⟩
 ·refine Am f Z ao ?_
  refine Af ?_
  refine Ab f Z λa f=>l_o f (Bv (f.e Z)) λa f=>AO 1 0 m Pl3 f Z Z Z Z λa f=>Ai f Z Z Az λa f=>l_o f (Bv (f.e Z)) λa f=>Bb 1 0 (ds:=[(iv (i64.wrap (aa+1)))]) m sizeOf3 f Z Z Z (Ap Z AG) Z (lb Z) Z λw m=>AC ?_
  refine Ab f Z λa f=>Ab f Z λa f=>Ac f Z λa f=>Ac f Z λa f=>Aa ?_
  refine As ?_
  obtain rfl:=sj hd
  exact⟨[(iv x2),(iv x1)],⟨f.get _ _ Z,f.get _ _ Z,trivial⟩,f.d,_,[it0,ib b3 3 [(iv (i64.wrap (aa+1)))]],an,m,_,Z,Z,o0⟩
 ·refine Aj f Z ao ?_
  refine An ?_
  refine Af ?_
  refine Ab f Z λa f=>Ab f Z λa f=>Ac f Z λa f=>Ac f Z λa f=>Aa ?_
  refine As ?_
  obtain rfl:=sj hd
  exact⟨[(iv x1),(iv x2)],⟨f.get _ _ Z,f.get _ _ Z,trivial⟩,f.d,_,[it0,ib b3 3 [(iv aa)]],an,m,_,Z,Z,o0⟩
theorem Wk.b0 {v0:Value}{it0:Itm}{b4:Nat}{x0:(List (Int×Int))}{x1 x2 x3 aa:Int}(m:Mem W G w (it0::ib b4 3 [(iv aa)]::H))(o0:OwR P2 99 G it0 v0 x0){y:Int×((List (Int×Int)))×Int}(hd:D.b0 x0 x1 x2 x3 aa=some y):
  Calls prog 193 #[v0,(iv x1),(iv x2),(iv x3),(pb b4),(.func (.func 147) #[] #[])] w (Res W G H (λG' Ho v=>∃i0:Itm,Ho=[i0,ib b4 3 [(iv y.2.2)]]∧v=(iv y.1)∧OwR P2 99 G' i0 v0 y.2.1)):=by
 refine Ay (args:=[v0,(iv x1),(iv x2),(iv x3),(pb b4),(.func (.func 147) #[] #[])]) (N:=41) [.tmp 12] func193 Z Z (lb Z) Z λa f=> ?_
 unfold D.b0 at hd
 refine Af ?_
 refine Ac f Z λa f=>AC ?_
 refine Ab f Z λa f=>Ab f Z λa f=>Ab f Z λa f=>Ab f Z λa f=>Ab f Z λa f=> ?_
 have⟨ab,ac,hd⟩:=bind_some hd
 refine A1 f Z call207 (Wk.M m o0 ac) λad ae af w ag m ah a f=> ?_
 obtain⟨ai,rfl,rfl,aj⟩:=ah
 refine Ab f Z λa f=>l_o f (A3 (f.e Z) Z) λa f=>l_o f (A3 (f.e Z) Z) λa f=>Ac f Z λa f=>Ac f Z λa f=>AC ?_
 refine Ab f Z λa f=>Ab f Z λa f=>Ab f Z λa f=>Ab f Z λa f=>Ab f Z λa f=> ?_
 have⟨ak,al,hd⟩:=bind_some hd
 refine A1 f Z call207 (Wk.M m aj al) λam an ao w ap m aq a f=> ?_
 obtain⟨ar,rfl,rfl,au⟩:=aq
 refine Ab f Z λa f=>l_o f (A3 (f.e Z) Z) λa f=>l_o f (A3 (f.e Z) Z) λa f=>Ac f Z λa f=>Ac f Z λa f=>AC ?_
 refine Ab f Z λa f=>Ab f Z λa f=>Ab f Z λa f=>Ab f Z λa f=>Ab f Z λa f=> ?_
 have⟨av,aw,hd⟩:=bind_some hd
 refine A1 f Z call207 (Wk.M m au aw) λax ay az w aA m aB a f=> ?_
 obtain⟨aC,rfl,rfl,aD⟩:=aB
 refine Ab f Z λa f=>l_o f (A3 (f.e Z) Z) λa f=>l_o f (A3 (f.e Z) Z) λa f=>Ac f Z λa f=>Ac f Z λa f=>AC ?_
 refine Ab f Z λa f=>Ac f Z λa f=>Aa ?_
 refine As ?_
 obtain rfl:=sj hd
 exact⟨[(iv av.2.1)],f.g Z,f.d,_,[aC,ib b4 3 [(iv av.2.2.2)]],(gt ag (gt ap aA)),m,_,Z,Z,aD⟩
theorem Wk.E {v0:Value}{it0:Itm}{b2:Nat}{x0:(List (Int×Int))}{x1 aa:Int}(m:Mem W G w (it0::ib b2 3 [(iv aa)]::H))(o0:OwR P2 99 G it0 v0 x0){y:Int×((List (Int×Int)))×Int}(hd:D.E x0 x1 aa=some y):
  Calls prog 192 #[v0,(iv x1),(pb b2),(.func (.func 147) #[] #[])] w (Res W G H (λG' Ho v=>∃i0:Itm,Ho=[i0,ib b2 3 [(iv y.2.2)]]∧v=(iv y.1)∧OwR P2 99 G' i0 v0 y.2.1)):=by
 refine Ay (args:=[v0,(iv x1),(pb b2),(.func (.func 147) #[] #[])]) (N:=18) [.tmp 8] func192 Z Z (lb Z) Z λa f=> ?_
 unfold D.E at hd
 refine Af ?_
 refine Ac f Z λa f=>AC ?_
 refine Ab f Z λa f=>Ab f Z λa f=>Ai f Z Z AX λa f=>Ab f Z λa f=>Ab f Z λa f=>Ai f Z Z Az λa f=>Ab f Z λa f=>Ab f Z λa f=> ?_
 have⟨ab,ac,hd⟩:=bind_some hd
 refine A1 f Z call193 (Wk.b0 m o0 ac) λad ae af w ag m ah a f=> ?_
 obtain⟨ai,rfl,rfl,aj⟩:=ah
 refine Ac f Z λa f=>Aa ?_
 refine As ?_
 obtain rfl:=sj hd
 exact⟨[(iv ab.1)],f.g Z,f.d,_,[ai,ib b2 3 [(iv ab.2.2)]],ag,m,_,Z,Z,aj⟩
theorem Wk.y0 {v0:Value}{it0:Itm}{x0:(List (Int×Int))}{x1 x2:Int}(m:Mem W G w (it0::H))(o0:OwR P2 99 G it0 v0 x0){y:Int×Int×((List (Int×Int)))}(hd:D.y0 x0 x1 x2=some y):
  Calls prog 171 #[v0,(iv x1),(iv x2),(.func (.func 147) #[] #[])] w (Res W G H (λG' Ho v=>∃i0:Itm,Ho=[i0]∧v= .tuple #[(iv y.1),(iv y.2.1)]∧OwR P2 99 G' i0 v0 y.2.2)):=by
 refine Ay (args:=[v0,(iv x1),(iv x2),(.func (.func 147) #[] #[])]) (N:=63) [.tmp 8,.tmp 9] func171 Z Z (lb Z) Z λa f=> ?_
 unfold D.y0 at hd
 refine Af ?_
 refine Ac f Z λa f=>Ac f Z λa f=>AC ?_
 refine Ab f Z λa f=>Ab f Z λa f=>Ai f Z Z AX λa f=>Ac f Z λa f=>AC ?_
 refine BT (cs:=[(iv 0)]) zeroValue3 m f Z Z λaa w a m f=>AC ?_
 refine Ab f Z λa f=>Ab f Z λa f=>Ai f Z Z (b_quo Z) λa f=>Ai f Z Z b_mul λa f=>Ai f Z Z Az λa f=>Ac f Z λa f=>AC ?_
 refine Ab f Z λa f=>Ab f Z λa f=>Ai f Z Z (b_quo Z) λa f=>Ai f Z Z b_mul λa f=>Ai f Z Z Az λa f=>Ac f Z λa f=>AC ?_
 refine Ab f Z λa f=>Ab f Z λa f=>Ai f Z Z (b_quo Z) λa f=>Ai f Z Z b_mul λa f=>Ai f Z Z Az λa f=>Ac f Z λa f=>Aa (Ag (Af ?_))
 refine Ab f Z λa f=>Ai f Z Z Cb λa f=>Aa ?_
 rcases Ae hd with⟨ab,hd⟩|⟨ab,hd⟩
 ·refine Am f Z ab ?_
  refine Ag (Af ?_)
  refine Ab f Z λa f=>Ai f Z Z Cb λa f=>Aa ?_
  have⟨ac,ad,hd⟩:=bind_some hd
  refine AL (λa w=>∃ae:List (Int×Int),∃af:Int,∃ag:Int,∃ah:Int,∃ai:Int,(ae,af,ag,ah,ai)=ac∧∃(aj:GH) (ak:Itm),GLe G aj∧Fr a 63 [(0,v0),(3,(.func (.func 147) #[] #[])),(11,(pb aa)),(12,(iv af)),(13,(iv ag)),(14,(iv ah))]∧Mem W aj w (ib aa 3 [(iv ai)]::ak::H)∧OwR P2 99 aj ak v0 ae) ?_ ?_
  ·rcases Ae ad with⟨al,ad⟩|⟨al,ad⟩
   ·refine Am f Z al ?_
    refine Af ?_
    refine Ab f Z λa f=>Ab f Z λa f=>Ab f Z λa f=> ?_
    have m:=m.fr 1
    have⟨am,an,ad⟩:=bind_some ad
    refine A1 f Z call192 (Wk.E m o0 an) λao ap aq w ar m au a f=> ?_
    obtain⟨av,rfl,rfl,aw⟩:=au
    refine Ac f Z λa f=>AC ?_
    refine Ab f Z λa f=>Ab f Z λa f=>Ab f Z λa f=> ?_
    have⟨ax,ay,ad⟩:=bind_some ad
    refine A1 f Z call192 (Wk.E m aw ay) λaz aA aB w aC m aD a f=> ?_
    obtain⟨aE,rfl,rfl,aF⟩:=aD
    refine Ac f Z λa f=>Aa (Ao ?_)
    refine Ab f Z λa f=>Ab f Z λa f=>Ab f Z λa f=> ?_
    have⟨aG,aH,ad⟩:=bind_some ad
    refine A1 f Z call192 (Wk.E m aF aH) λaI aJ aK w aL m aM a f=> ?_
    obtain⟨aN,rfl,rfl,aO⟩:=aM
    refine Ac f Z λa f=>Aa ?_
    have m:=m.fr 1
    obtain rfl:=sj ad
    exact⟨_,_,_,_,_,Z,_,aN,(gt ar (gt aC aL)),f.k Z,m,aO⟩
   ·refine Aj f Z al ?_
    refine An ?_
    obtain rfl:=sj ad
    exact⟨_,_,_,_,_,Z,_,it0,gr,f.k Z,m,o0⟩
  ·rintro a w ⟨ae,af,ag,ah,ai,rfl,aj,ak,aP,f,m,aQ⟩
   refine Ao ?_
   refine Ab f Z λa f=>Ab f Z λa f=>Ab f Z λa f=>Ab f Z λa f=>Ab f Z λa f=> ?_
   have m:=m.fr 1
   have⟨aR,aS,hd⟩:=bind_some hd
   refine A1 f Z call193 (Wk.b0 m aQ aS) λaT aU aV w aW m aX a f=> ?_
   obtain⟨aY,rfl,rfl,aZ⟩:=aX
   refine Ac f Z λa f=>AC ?_
   refine AO 1 0 m Pl3 f Z Z Z Z λa f=>Aa (Ak (Af ?_))
   refine Ai f Z Z B5 λa f=>Ac f Z λa f=>Aa ?_
   rcases Ae hd with⟨a0,hd⟩|⟨a0,hd⟩
   ·refine Am f Z a0 ?_
    refine Af ?_
    refine Ab f Z λa f=>Ac f Z λa f=>Ac f Z λa f=>Aa ?_
    refine As ?_
    have m:=m.eraseAt 1
    obtain rfl:=sj hd
    exact⟨[(iv aR.1),(iv 1)],⟨f.get _ _ Z,f.get _ _ Z,trivial⟩,f.d,_,[aY],(gt aP aW),m,_,Z,Z,aZ⟩
   ·refine Aj f Z a0 ?_
    refine Af ?_
    refine Ai f Z Z B5 λa f=>Ac f Z λa f=>Aa ?_
    rcases Ae hd with⟨a1,hd⟩|⟨a1,hd⟩
    ·refine Am f Z a1 ?_
     refine Af ?_
     refine Ab f Z λa f=>Ac f Z λa f=>Ac f Z λa f=>Aa ?_
     refine As ?_
     have m:=m.eraseAt 1
     obtain rfl:=sj hd
     exact⟨[(iv aR.1),(iv 2)],⟨f.get _ _ Z,f.get _ _ Z,trivial⟩,f.d,_,[aY],(gt aP aW),m,_,Z,Z,aZ⟩
    ·refine Aj f Z a1 ?_
     refine Af ?_
     refine Ab f Z λa f=>Ac f Z λa f=>Ac f Z λa f=>Aa ?_
     refine As ?_
     have m:=m.eraseAt 1
     obtain rfl:=sj hd
     exact⟨[(iv aR.1),(iv 0)],⟨f.get _ _ Z,f.get _ _ Z,trivial⟩,f.d,_,[aY],(gt aP aW),m,_,Z,Z,aZ⟩
 ·refine Aj f Z ab ?_
  refine An ?_
  refine Af ?_
  refine AO 0 0 m Pl3 f Z Z Z Z λa f=>Aa (Ak (Af ?_))
  refine Ai f Z Z B5 λa f=>Ac f Z λa f=>Aa ?_
  rcases Ae hd with⟨a2,hd⟩|⟨a2,hd⟩
  ·refine Am f Z a2 ?_
   refine Af ?_
   refine Ab f Z λa f=>Ac f Z λa f=>Ac f Z λa f=>Aa ?_
   refine As ?_
   have m:=m.fr 1
   have m:=m.eraseAt 1
   obtain rfl:=sj hd
   exact⟨[(iv (i64.wrap (x1+(i64.wrap ((i64.wrap (Int.tdiv (i64.wrap (x2-x1)) 4))*2))))),(iv 1)],⟨f.get _ _ Z,f.get _ _ Z,trivial⟩,f.d,_,[it0],gr,m,_,Z,Z,o0⟩
  ·refine Aj f Z a2 ?_
   refine Af ?_
   refine Ai f Z Z B5 λa f=>Ac f Z λa f=>Aa ?_
   rcases Ae hd with⟨a3,hd⟩|⟨a3,hd⟩
   ·refine Am f Z a3 ?_
    refine Af ?_
    refine Ab f Z λa f=>Ac f Z λa f=>Ac f Z λa f=>Aa ?_
    refine As ?_
    have m:=m.fr 1
    have m:=m.eraseAt 1
    obtain rfl:=sj hd
    exact⟨[(iv (i64.wrap (x1+(i64.wrap ((i64.wrap (Int.tdiv (i64.wrap (x2-x1)) 4))*2))))),(iv 2)],⟨f.get _ _ Z,f.get _ _ Z,trivial⟩,f.d,_,[it0],gr,m,_,Z,Z,o0⟩
   ·refine Aj f Z a3 ?_
    refine Af ?_
    refine Ab f Z λa f=>Ac f Z λa f=>Ac f Z λa f=>Aa ?_
    refine As ?_
    have m:=m.fr 1
    have m:=m.eraseAt 1
    obtain rfl:=sj hd
    exact⟨[(iv (i64.wrap (x1+(i64.wrap ((i64.wrap (Int.tdiv (i64.wrap (x2-x1)) 4))*2))))),(iv 0)],⟨f.get _ _ Z,f.get _ _ Z,trivial⟩,f.d,_,[it0],gr,m,_,Z,Z,o0⟩
theorem Wk.B0 {v0:Value}{it0:Itm}{x0:(List (Int×Int))}{x1 x2:Int}(m:Mem W G w (it0::H))(o0:OwR P2 99 G it0 v0 x0){y:((List (Int×Int)))}(hd:D.B0 x0 x1 x2=some y):
  Calls prog 172 #[v0,(iv x1),(iv x2),(.func (.func 147) #[] #[])] w (Res W G H (λG' Ho _=>∃i0:Itm,Ho=[i0]∧OwR P2 99 G' i0 v0 y)):=by
 refine Ay (args:=[v0,(iv x1),(iv x2),(.func (.func 147) #[] #[])]) (N:=34) [] func172 Z Z (lb Z) Z λa f=> ?_
 unfold D.B0 at hd
 refine Af ?_
 refine Ab f Z λa f=>Ac f Z λa f=>AC ?_
 refine Ab f Z λa f=>Ai f Z Z AX λa f=>Ac f Z λa f=>Aa ?_
 have⟨aa,ab,hd⟩:=bind_some hd
 refine AL (λa w=>∃ac:List (Int×Int),ac=aa∧∃(ad:GH) (ae:Itm),GLe G ad∧Fr a 34 []∧Mem W ad w (ae::H)∧OwR P2 99 ad ae v0 ac) ?_ ?_
 ·refine Ak ?_
  refine AK (λaf a w=>∃ag:List (Int×Int),∃ah:Int,∃ai:Int,(ag,ah,ai)=af∧∃(aj:GH) (ak:Itm),GLe G aj∧Fr a 34 [(0,v0),(8,(iv ah)),(9,(iv ai))]∧Mem W aj w (ak::H)∧OwR P2 99 aj ak v0 ag) ab ⟨_,_,_,Z,_,it0,gr,f.k Z,m,o0⟩ ?_
  clear ab f m
  rintro af al am an a w ⟨ag,ah,ai,rfl,aj,ak,ao,f,m,ap⟩
  refine Ag (Af ?_)
  refine Ab f Z λa f=>Ab f Z λa f=>Ai f Z Z AI λa f=>Aa ?_
  rcases Ae am with⟨aq,am⟩|⟨aq,am⟩
  ·refine Am f Z aq ?_
   refine An ?_
   refine Ak (Ag ?_)
   refine BE AN m ?_
   refine p_p 2 Z f (λ_=>Ba (f.e Z)) λa f=>p_p 3 Z f (λ_=>Ba (f.e Z)) λa f=>BD 12013 11 (by kernel_rfl) Z ?_
   refine Ah 0 12013 Z f Z λa f=>Ah 1 12013 Z f Z λa f=>Ah 4 12013 Z f Z λa f=>Ah 5 12013 Z f Z λa f=> ?_
   have⟨ar,au,am⟩:=bind_some am
   refine Aq (i:=6) (listed':= #[true,true,true,true,true,true,true,false,false,false,false,false,false,false,false,false]) (C:=P2) 12013 0 m ap Z AP au Z (by kernel_rfl) Z f Z Z Z Z λav a aw f=>Ar (i:=7) (listed':= #[true,true,true,true,true,true,true,true,false,false,false,false,false,false,false,false]) (C:=P2) [(iv ar.1),(iv ar.2)] 12013 0 ap Z A6 aw au Z Z (by kernel_rfl) Z f Z Z Z λa f=>Ah 8 12013 Z f Z λa f=>Ah 9 12013 Z f Z λa f=> ?_
   have⟨ax,ay,am⟩:=bind_some am
   refine Aq (i:=10) (listed':= #[true,true,true,true,true,true,true,true,true,true,true,false,false,false,false,false]) (C:=P2) 12013 0 m ap Z AP ay Z (by kernel_rfl) Z f Z Z Z Z λaz a aA f=>Ar (i:=11) (listed':= #[true,true,true,true,true,true,true,true,true,true,true,true,false,false,false,false]) (C:=P2) [(iv ax.1),(iv ax.2)] 12013 0 ap Z A6 aA ay Z Z (by kernel_rfl) Z f Z Z Z λa f=> ?_
   have⟨aB,aC,am⟩:=bind_some am
   refine Aq (i:=12) (listed':= #[true,true,true,true,true,true,true,true,true,true,true,true,true,false,false,false]) (C:=P2) 12013 0 m ap Z AP aC Z (by kernel_rfl) Z f Z Z Z Z λaD a aE f=>AY λaF w aG m=> ?_
   have ap:=OwR.mono trivial aG ap
   refine AQ (E:=P2) (y':=(ar.1,ar.2)) [(iv ar.1),(iv ar.2)] 0 m ap Z sizeOf99 f Z Z aE aC Z (Ap Z (Ap Z AG)) (lb Z) Z λaH w m aI=> ?_
   have⟨aJ,aK,am⟩:=bind_some am
   refine Bl 0 m aI Z AP f Z Z Z aK λaL a aM f=>AQ (E:=P2) (y':=(ax.1,ax.2)) [(iv ax.1),(iv ax.2)] 0 m aI Z sizeOf99 f Z Z aM aK Z (Ap Z (Ap Z AG)) (lb Z) Z λaN w m aO=>AC ?_
   refine Ab f Z λa f=>Ai f Z Z Az λa f=>Ac f Z λa f=>Aa (Ao ?_)
   refine Ab f Z λa f=>Ai f Z Z AX λa f=>Ac f Z λa f=>Aa ?_
   obtain rfl:=sj am
   exact⟨_,Z,_,_,_,Z,_,aN,(gt ao aG),f.k Z,m,aO⟩
  ·refine Aj f Z aq ?_
   refine AE Z ?_
   obtain rfl:=sj am
   obtain rfl:=an _ rfl
   exact⟨_,Z,_,ak,ao,f.weak trivial,m,ap⟩
 ·rintro a w ⟨ac,rfl,ad,ae,aP,f,m,aQ⟩
  obtain rfl:=sj hd
  exact⟨[],trivial,f.d,_,[ae],aP,m,_,Z,aQ⟩
theorem Wk.C0 {v0:Value}{it0:Itm}{x0:(List (Int×Int))}{x1 x2:Int}(m:Mem W G w (it0::H))(o0:OwR P2 99 G it0 v0 x0){y:Bool×((List (Int×Int)))}(hd:D.C0 x0 x1 x2=some y):
  Calls prog 173 #[v0,(iv x1),(iv x2),(.func (.func 147) #[] #[])] w (Res W G H (λG' Ho v=>∃i0:Itm,Ho=[i0]∧v=(.bool y.1)∧OwR P2 99 G' i0 v0 y.2)):=by
 refine Ay (args:=[v0,(iv x1),(iv x2),(.func (.func 147) #[] #[])]) (N:=141) [.tmp 8] func173 Z Z (lb Z) Z λa f=> ?_
 unfold D.C0 at hd
 refine Af ?_
 refine Ac f Z λa f=>AC ?_
 refine Ab f Z λa f=>Ai f Z Z Az λa f=>Ac f Z λa f=>Aa (Ag (Af ?_))
 refine Ac f Z λa f=>Aa ?_
 have⟨aa,ab,hd⟩:=bind_some hd
 refine AL (λa w=>∃q_1357':(List (Int×Int)),aa= .inl q_1357'∧∃ac:List (Int×Int),ac=q_1357'∧∃(ad:GH) (ae:Itm),GLe G ad∧Fr a 141 []∧Mem W ad w (ae::H)∧OwR P2 99 ad ae v0 ac) ?_ ?_
 ·refine Ak ?_
  refine AK (λaf a w=>∃ag:List (Int×Int),∃ah:Int,∃ai:Int,(ag,ah,ai)=af∧∃(aj:GH) (ak:Itm),GLe G aj∧Fr a 141 [(0,v0),(1,(iv x1)),(2,(iv x2)),(3,(.func (.func 147) #[] #[])),(9,(iv ah)),(10,(iv ai))]∧Mem W aj w (ak::H)∧OwR P2 99 aj ak v0 ag) ab ⟨_,_,_,Z,_,it0,gr,f.k Z,m,o0⟩ ?_
  clear ab f m
  rintro af al am an a w ⟨ag,ah,ai,rfl,aj,ak,ao,f,m,ap⟩
  refine Ag (Af ?_)
  refine Ab f Z λa f=>Ai f Z Z AI λa f=>Aa ?_
  rcases Ae am with⟨aq,am⟩|⟨aq,am⟩
  ·refine Am f Z aq ?_
   refine An ?_
   refine Ag (Ak (Ag ?_))
   have⟨ar,au,am⟩:=bind_some am
   refine AL (λa w=>∃av:Int,av=ar∧∃(aw:GH),GLe aj aw∧Fr a 141 [(0,v0),(1,(iv x1)),(2,(iv x2)),(3,(.func (.func 147) #[] #[])),(9,(iv av)),(10,(iv ai))]∧Mem W aw w (ak::H)) ?_ ?_
   ·refine Ak ?_
    refine AK (λax a w=>∃ay:Int,ay=ax∧∃(az:GH),GLe aj az∧Fr a 141 [(0,v0),(1,(iv x1)),(2,(iv x2)),(3,(.func (.func 147) #[] #[])),(9,(iv ay)),(10,(iv ai))]∧Mem W az w (ak::H)) au ⟨_,Z,_,gr,f.k Z,m⟩ ?_
    clear au f m
    rintro ax aA aB aC a w ⟨ay,rfl,az,aD,f,m⟩
    have ap:=OwR.mono trivial aD ap
    refine Ag (Ag ?_)
    refine A9 18 AN (by kernel_rfl) m ?_
    refine Ah 0 18 Z f Z λa f=>Ah 1 18 Z f Z λa f=>q_p 2 18 Z f (λ_=>AR (f.e Z) (f.e Z) AI) λa f=>Ah 3 18 Z f Z λa f=> ?_
    have⟨aE,aF,aB⟩:=bind_some aB
    refine CM (fuel':=0) (listed':= #[true,true,true,true,true,true,true,true,true,true,true,true,true,true,true,true,true,true]) (λa=>Fr a 141 [(0,v0),(1,(iv x1)),(2,(iv x2)),(3,(.func (.func 147) #[] #[])),(9,(iv ay)),(10,(iv ai)),(19,(iv ay)),(20,(iv x2)),(21,(.bool (decide (ay<x2)))),(22,(.bool (decide (ay<x2)))),(36,(.bool aE))]) ?_ ?_
    ·intro a f
     refine AY λaG w aH m=>Aa ?_
     rcases Ae aB with⟨aI,aB⟩|⟨aI,aB⟩
     ·refine Am f Z aI ?_
      refine An ?_
      refine Ak (Ao ?_)
      refine Ab f Z λa f=>Ai f Z Z Az λa f=>Ac f Z λa f=>Aa ?_
      obtain rfl:=sj aB
      exact⟨_,Z,_,Z,_,(gt aD aH),f.k Z,m⟩
     ·refine Aj f Z aI ?_
      refine AE Z ?_
      obtain rfl:=sj aB
      obtain rfl:=aC _ rfl
      exact⟨_,Z,_,(gt aD aH),f.k Z,m⟩
    ·intro aJ
     rcases Ae aF with⟨aK,aF⟩|⟨aK,aF⟩
     ·refine Ah (hw:=wo f aK) 4 18 Z f Z λa f=> ?_
      refine Ah (hw:=wo f aK) 5 18 Z f Z λa f=>Ah (hw:=wo f aK) 6 18 Z f Z λa f=> ?_
      have⟨aL,aM,aF⟩:=bind_some aF
      refine Aq (i:=7) (listed':= #[true,true,true,true,true,true,true,true,false,false,false,false,false,false,false,false,false,false]) (C:=P2) 18 0 m ap Z AP aM Z (by kernel_rfl) Z f (AA f Z Z Z aK) Z Z Z λaN a aO f=>Ar (i:=8) (listed':= #[true,true,true,true,true,true,true,true,true,false,false,false,false,false,false,false,false,false]) (C:=P2) [(iv aL.1),(iv aL.2)] 18 0 ap Z A6 aO aM Z Z (by kernel_rfl) Z f (AA f Z Z Z aK) Z Z λa f=>Ah (hw:=wo f aK) 9 18 Z f Z λa f=>Ah (hw:=wo f aK) 10 18 Z f Z λa f=>q_p (hw:=wo f aK) 11 18 Z f (λ_=>AR (f.e Z) (f.e Z) AX) λa f=> ?_
      have⟨aP,aQ,aF⟩:=bind_some aF
      refine Aq (i:=12) (listed':= #[true,true,true,true,true,true,true,true,true,true,true,true,true,false,false,false,false,false]) (C:=P2) 18 0 m ap Z AP aQ Z (by kernel_rfl) Z f (AA f Z Z Z aK) Z Z Z λaR a aS f=>Ar (i:=13) (listed':= #[true,true,true,true,true,true,true,true,true,true,true,true,true,true,false,false,false,false]) (C:=P2) [(iv aP.1),(iv aP.2)] 18 0 ap Z A6 aS aQ Z Z (by kernel_rfl) Z f (AA f Z Z Z aK) Z Z λa f=> ?_
      have⟨aT,aU,aF⟩:=bind_some aF
      refine BQ (i:=14) 18 Z (by kernel_rfl) Z f (AA f Z Z Z aK) Z Z Z call147 (λ_ _ w aV m=>Wk.a m aU) λa f=>q_p (hw:=wo f aK) 15 18 Z f (λ_=>AR (f.e Z) (f.e Z) AI) λa f=>q_p (hw:=wo f aK) 16 18 Z f (λ_=>Bt (f.e Z)) λa f=>q_p 17 18 Z f (λ_=>A7 (f.e Z) aK (f.e Z)) λa f=> ?_
      obtain rfl:=sj aF
      exact aJ _ (f.k Z)
     ·refine Au 4 18 Z f aK λa f=> ?_
      refine Au 5 18 Z f aK λa f=>Au 6 18 Z f aK λa f=>Au 7 18 Z f aK λa f=>Au 8 18 Z f aK λa f=>Au 9 18 Z f aK λa f=>Au 10 18 Z f aK λa f=>Au 11 18 Z f aK λa f=>Au 12 18 Z f aK λa f=>Au 13 18 Z f aK λa f=>Au 14 18 Z f aK λa f=>Au 15 18 Z f aK λa f=>Au 16 18 Z f aK λa f=>q_p 17 18 Z f (λ_=>A8 (f.e Z) aK (f.e Z)) λa f=> ?_
      obtain rfl:=sj aF
      exact aJ _ (f.k Z)
   ·rintro a w ⟨av,rfl,aw,aW,f,m⟩
    have ap:=OwR.mono trivial aW ap
    refine Ag (Af ?_)
    refine Ab f Z λa f=>Ab f Z λa f=>Ai f Z Z B5 λa f=>Aa ?_
    rcases Ae am with⟨aX,am⟩|⟨aX,am⟩
    ·refine Am f Z aX ?_
     refine Af ?_
     refine Ac f Z λa f=>Aa ?_
     refine As ?_
     obtain rfl:=sj am
     obtain rfl:=an _ rfl
     obtain rfl:=sj hd
     exact⟨[(.bool true)],f.g Z,f.d,_,[ak],(gt ao aW),m,_,Z,Z,ap⟩
    ·refine Aj f Z aX ?_
     refine An ?_
     refine Ag (Af ?_)
     refine Ab f Z λa f=>Ab f Z λa f=>Ai f Z Z AX λa f=>Ai f Z Z AI λa f=>Aa ?_
     rcases Ae am with⟨aY,am⟩|⟨aY,am⟩
     ·refine Am f Z aY ?_
      refine Af ?_
      refine Ac f Z λa f=>Aa ?_
      refine As ?_
      obtain rfl:=sj am
      obtain rfl:=an _ rfl
      obtain rfl:=sj hd
      exact⟨[(.bool false)],f.g Z,f.d,_,[ak],(gt ao aW),m,_,Z,Z,ap⟩
     ·refine Aj f Z aY ?_
      refine An ?_
      refine Ag ?_
      refine BE AN m ?_
      refine p_p 2 Z f (λ_=>Ba (f.e Z)) λa f=>p_p 3 Z f (λ_=>Ba (f.e Z)) λa f=>p_p 4 Z f (λ_=>AR (f.e Z) (f.e Z) AX) λa f=>BD 28015 12 (by kernel_rfl) Z ?_
      refine Ah 0 28015 Z f Z λa f=>Ah 1 28015 Z f Z λa f=>Ah 5 28015 Z f Z λa f=>Ah 6 28015 Z f Z λa f=>q_p 7 28015 Z f (λ_=>AR (f.e Z) (f.e Z) AX) λa f=> ?_
      have⟨aZ,a0,am⟩:=bind_some am
      refine Aq (i:=8) (listed':= #[true,true,true,true,true,true,true,true,true,false,false,false,false,false,false,false,false,false]) (C:=P2) 28015 0 m ap Z AP a0 Z (by kernel_rfl) Z f Z Z Z Z λa1 a a2 f=>Ar (i:=9) (listed':= #[true,true,true,true,true,true,true,true,true,true,false,false,false,false,false,false,false,false]) (C:=P2) [(iv aZ.1),(iv aZ.2)] 28015 0 ap Z A6 a2 a0 Z Z (by kernel_rfl) Z f Z Z Z λa f=>Ah 10 28015 Z f Z λa f=>Ah 11 28015 Z f Z λa f=> ?_
      have⟨a3,a4,am⟩:=bind_some am
      refine Aq (i:=12) (listed':= #[true,true,true,true,true,true,true,true,true,true,true,true,true,false,false,false,false,false]) (C:=P2) 28015 0 m ap Z AP a4 Z (by kernel_rfl) Z f Z Z Z Z λa5 a a6 f=>Ar (i:=13) (listed':= #[true,true,true,true,true,true,true,true,true,true,true,true,true,true,false,false,false,false]) (C:=P2) [(iv a3.1),(iv a3.2)] 28015 0 ap Z A6 a6 a4 Z Z (by kernel_rfl) Z f Z Z Z λa f=> ?_
      have⟨a7,a8,am⟩:=bind_some am
      refine Aq (i:=14) (listed':= #[true,true,true,true,true,true,true,true,true,true,true,true,true,true,true,false,false,false]) (C:=P2) 28015 0 m ap Z AP a8 Z (by kernel_rfl) Z f Z Z Z Z λa9 a ba f=>AY λbb w bc m=> ?_
      have ap:=OwR.mono trivial bc ap
      refine AQ (E:=P2) (y':=(aZ.1,aZ.2)) [(iv aZ.1),(iv aZ.2)] 0 m ap Z sizeOf99 f Z Z ba a8 Z (Ap Z (Ap Z AG)) (lb Z) Z λbd w m be=> ?_
      have⟨bf,bg,am⟩:=bind_some am
      refine Bl 0 m be Z AP f Z Z Z bg λbh a bi f=>AQ (E:=P2) (y':=(a3.1,a3.2)) [(iv a3.1),(iv a3.2)] 0 m be Z sizeOf99 f Z Z bi bg Z (Ap Z (Ap Z AG)) (lb Z) Z λbj w m bk=>Aa (Ag (Af ?_))
      refine Ab f Z λa f=>Ab f Z λa f=>Ai f Z Z AX λa f=>Ai f Z Z Cb λa f=>Aa ?_
      have⟨bl,bm,am⟩:=bind_some am
      refine AL (λa w=>∃bn:List (Int×Int),bn=bl∧∃(bo:GH) (bp:Itm),GLe bb bo∧Fr a 141 [(0,v0),(1,(iv x1)),(2,(iv x2)),(3,(.func (.func 147) #[] #[])),(9,(iv av)),(10,(iv ai))]∧Mem W bo w (bp::H)∧OwR P2 99 bo bp v0 bn) ?_ ?_
      ·rcases Ae bm with⟨bq,bm⟩|⟨bq,bm⟩
       ·refine Am f Z bq ?_
        refine Af ?_
        refine Ab f Z λa f=>Ai f Z Z AX λa f=>Ac f Z λa f=>Aa ?_
        have⟨br,bs,bm⟩:=bind_some bm
        refine AL (λa w=>∃bt:List (Int×Int),bt=br∧∃(bu:GH) (bv:Itm),GLe bb bu∧Fr a 141 [(0,v0),(1,(iv x1)),(2,(iv x2)),(3,(.func (.func 147) #[] #[])),(9,(iv av)),(10,(iv ai))]∧Mem W bu w (bv::H)∧OwR P2 99 bu bv v0 bt) ?_ ?_
        ·refine Ak ?_
         refine AK (λbw a w=>∃bx:List (Int×Int),∃bz:Int,(bx,bz)=bw∧∃(bA:GH) (bB:Itm),GLe bb bA∧Fr a 141 [(0,v0),(1,(iv x1)),(2,(iv x2)),(3,(.func (.func 147) #[] #[])),(9,(iv av)),(10,(iv ai)),(11,(iv bz))]∧Mem W bA w (bB::H)∧OwR P2 99 bA bB v0 bx) bs ⟨_,_,Z,_,bj,gr,f.k Z,m,bk⟩ ?_
         clear bs f m
         rintro bw bC bD bE a w ⟨bx,bz,rfl,bA,bB,bF,f,m,bG⟩
         refine Ag (Af ?_)
         refine Ab f Z λa f=>Ai f Z Z Cb λa f=>Aa ?_
         rcases Ae bD with⟨bH,bD⟩|⟨bH,bD⟩
         ·refine Am f Z bH ?_
          refine An ?_
          refine Ag (Ak (Ag (Ag ?_)))
          refine A9 13 AN (by kernel_rfl) m ?_
          refine Ah 0 13 Z f Z λa f=>Ah 1 13 Z f Z λa f=>Ah 2 13 Z f Z λa f=> ?_
          have⟨bI,bJ,bD⟩:=bind_some bD
          refine Aq (i:=3) (listed':= #[true,true,true,true,false,false,false,false,false,false,false,false,false]) (C:=P2) 13 0 m bG Z AP bJ Z (by kernel_rfl) Z f Z Z Z Z λbK a bL f=>Ar (i:=4) (listed':= #[true,true,true,true,true,false,false,false,false,false,false,false,false]) (C:=P2) [(iv bI.1),(iv bI.2)] 13 0 bG Z A6 bL bJ Z Z (by kernel_rfl) Z f Z Z Z λa f=>Ah 5 13 Z f Z λa f=>Ah 6 13 Z f Z λa f=>q_p 7 13 Z f (λ_=>AR (f.e Z) (f.e Z) AX) λa f=> ?_
          have⟨bM,bN,bD⟩:=bind_some bD
          refine Aq (i:=8) (listed':= #[true,true,true,true,true,true,true,true,true,false,false,false,false]) (C:=P2) 13 0 m bG Z AP bN Z (by kernel_rfl) Z f Z Z Z Z λbO a bP f=>Ar (i:=9) (listed':= #[true,true,true,true,true,true,true,true,true,true,false,false,false]) (C:=P2) [(iv bM.1),(iv bM.2)] 13 0 bG Z A6 bP bN Z Z (by kernel_rfl) Z f Z Z Z λa f=> ?_
          have⟨bQ,bR,bD⟩:=bind_some bD
          refine BQ (i:=10) 13 Z (by kernel_rfl) Z f Z Z Z Z call147 (λ_ _ w bS m=>Wk.a m bR) λa f=>q_p 11 13 Z f (λ_=>AR (f.e Z) (f.e Z) AI) λa f=>q_p 12 13 Z f (λ_=>Bt (f.e Z)) λa f=>AY λbT w bU m=> ?_
          have bG:=OwR.mono trivial bU bG
          refine Aa ?_
          rcases Ae bD with⟨bV,bD⟩|⟨bV,bD⟩
          ·refine Am f Z bV ?_
           refine AE Z ?_
           obtain rfl:=sj bD
           obtain rfl:=bE _ rfl
           exact⟨_,Z,_,bB,(gt bF bU),f.k Z,m,bG⟩
          ·refine Aj f Z bV ?_
           refine An ?_
           refine BE AN m ?_
           refine p_p 2 Z f (λ_=>Ba (f.e Z)) λa f=>p_p 3 Z f (λ_=>Ba (f.e Z)) λa f=>p_p 4 Z f (λ_=>AR (f.e Z) (f.e Z) AX) λa f=>BD 28015 12 (by kernel_rfl) Z ?_
           refine Ah 0 28015 Z f Z λa f=>Ah 1 28015 Z f Z λa f=>Ah 5 28015 Z f Z λa f=>Ah 6 28015 Z f Z λa f=>q_p 7 28015 Z f (λ_=>AR (f.e Z) (f.e Z) AX) λa f=> ?_
           have⟨bW,bX,bD⟩:=bind_some bD
           refine Aq (i:=8) (listed':= #[true,true,true,true,true,true,true,true,true,false,false,false,false,false,false,false,false,false]) (C:=P2) 28015 0 m bG Z AP bX Z (by kernel_rfl) Z f Z Z Z Z λbY a bZ f=>Ar (i:=9) (listed':= #[true,true,true,true,true,true,true,true,true,true,false,false,false,false,false,false,false,false]) (C:=P2) [(iv bW.1),(iv bW.2)] 28015 0 bG Z A6 bZ bX Z Z (by kernel_rfl) Z f Z Z Z λa f=>Ah 10 28015 Z f Z λa f=>Ah 11 28015 Z f Z λa f=> ?_
           have⟨b0,b1,bD⟩:=bind_some bD
           refine Aq (i:=12) (listed':= #[true,true,true,true,true,true,true,true,true,true,true,true,true,false,false,false,false,false]) (C:=P2) 28015 0 m bG Z AP b1 Z (by kernel_rfl) Z f Z Z Z Z λb2 a b3 f=>Ar (i:=13) (listed':= #[true,true,true,true,true,true,true,true,true,true,true,true,true,true,false,false,false,false]) (C:=P2) [(iv b0.1),(iv b0.2)] 28015 0 bG Z A6 b3 b1 Z Z (by kernel_rfl) Z f Z Z Z λa f=> ?_
           have⟨b4,b5,bD⟩:=bind_some bD
           refine Aq (i:=14) (listed':= #[true,true,true,true,true,true,true,true,true,true,true,true,true,true,true,false,false,false]) (C:=P2) 28015 0 m bG Z AP b5 Z (by kernel_rfl) Z f Z Z Z Z λb6 a b7 f=>AY λb8 w b9 m=> ?_
           have bG:=OwR.mono trivial b9 bG
           refine AQ (E:=P2) (y':=(bW.1,bW.2)) [(iv bW.1),(iv bW.2)] 0 m bG Z sizeOf99 f Z Z b7 b5 Z (Ap Z (Ap Z AG)) (lb Z) Z λca w m cb=> ?_
           have⟨cc,cd,bD⟩:=bind_some bD
           refine Bl 0 m cb Z AP f Z Z Z cd λce a cf f=>AQ (E:=P2) (y':=(b0.1,b0.2)) [(iv b0.1),(iv b0.2)] 0 m cb Z sizeOf99 f Z Z cf cd Z (Ap Z (Ap Z AG)) (lb Z) Z λcg w m ch=>Aa (Ao ?_)
           refine Ab f Z λa f=>Ai f Z Z AX λa f=>Ac f Z λa f=>Aa ?_
           obtain rfl:=sj bD
           exact⟨_,Z,_,_,Z,_,cg,(gt bF (gt bU b9)),f.k Z,m,ch⟩
         ·refine Aj f Z bH ?_
          refine AE Z ?_
          obtain rfl:=sj bD
          obtain rfl:=bE _ rfl
          exact⟨_,Z,_,bB,bF,f.k Z,m,bG⟩
        ·rintro a w ⟨bt,rfl,bu,bv,ci,f,m,cj⟩
         obtain rfl:=sj bm
         exact⟨_,Z,_,bv,ci,f.k Z,m,cj⟩
       ·refine Aj f Z bq ?_
        refine An ?_
        obtain rfl:=sj bm
        exact⟨_,Z,_,bj,gr,f.k Z,m,bk⟩
      ·rintro a w ⟨bn,rfl,bo,bp,ck,f,m,cl⟩
       refine Af ?_
       refine Ab f Z λa f=>Ab f Z λa f=>Ai f Z Z AX λa f=>Ai f Z Z Cb λa f=>Aa ?_
       rcases Ae am with⟨cm,am⟩|⟨cm,am⟩
       ·refine Am f Z cm ?_
        refine Af ?_
        refine Ab f Z λa f=>Ai f Z Z Az λa f=>Ac f Z λa f=>Aa ?_
        have⟨cn,co,am⟩:=bind_some am
        refine AL (λa w=>∃cp:List (Int×Int),cp=cn∧∃(cq:GH) (cr:Itm),GLe bo cq∧Fr a 141 [(0,v0),(1,(iv x1)),(2,(iv x2)),(3,(.func (.func 147) #[] #[])),(9,(iv av)),(10,(iv ai))]∧Mem W cq w (cr::H)∧OwR P2 99 cq cr v0 cp) ?_ ?_
        ·refine Ak ?_
         refine AK (λcs a w=>∃ct:List (Int×Int),∃cu:Int,(ct,cu)=cs∧∃(cv:GH) (cw:Itm),GLe bo cv∧Fr a 141 [(0,v0),(1,(iv x1)),(2,(iv x2)),(3,(.func (.func 147) #[] #[])),(9,(iv av)),(10,(iv ai)),(12,(iv cu))]∧Mem W cv w (cw::H)∧OwR P2 99 cv cw v0 ct) co ⟨_,_,Z,_,bp,gr,f.k Z,m,cl⟩ ?_
         clear co f m
         rintro cs cx cy cz a w ⟨ct,cu,rfl,cv,cw,cA,f,m,cB⟩
         refine Ag (Af ?_)
         refine Ab f Z λa f=>Ab f Z λa f=>Ai f Z Z AI λa f=>Aa ?_
         rcases Ae cy with⟨cC,cy⟩|⟨cC,cy⟩
         ·refine Am f Z cC ?_
          refine An ?_
          refine Ag (Ak (Ag (Ag ?_)))
          refine A9 13 AN (by kernel_rfl) m ?_
          refine Ah 0 13 Z f Z λa f=>Ah 1 13 Z f Z λa f=>Ah 2 13 Z f Z λa f=> ?_
          have⟨cD,cE,cy⟩:=bind_some cy
          refine Aq (i:=3) (listed':= #[true,true,true,true,false,false,false,false,false,false,false,false,false]) (C:=P2) 13 0 m cB Z AP cE Z (by kernel_rfl) Z f Z Z Z Z λcF a cG f=>Ar (i:=4) (listed':= #[true,true,true,true,true,false,false,false,false,false,false,false,false]) (C:=P2) [(iv cD.1),(iv cD.2)] 13 0 cB Z A6 cG cE Z Z (by kernel_rfl) Z f Z Z Z λa f=>Ah 5 13 Z f Z λa f=>Ah 6 13 Z f Z λa f=>q_p 7 13 Z f (λ_=>AR (f.e Z) (f.e Z) AX) λa f=> ?_
          have⟨cH,cI,cy⟩:=bind_some cy
          refine Aq (i:=8) (listed':= #[true,true,true,true,true,true,true,true,true,false,false,false,false]) (C:=P2) 13 0 m cB Z AP cI Z (by kernel_rfl) Z f Z Z Z Z λcJ a cK f=>Ar (i:=9) (listed':= #[true,true,true,true,true,true,true,true,true,true,false,false,false]) (C:=P2) [(iv cH.1),(iv cH.2)] 13 0 cB Z A6 cK cI Z Z (by kernel_rfl) Z f Z Z Z λa f=> ?_
          have⟨cL,cM,cy⟩:=bind_some cy
          refine BQ (i:=10) 13 Z (by kernel_rfl) Z f Z Z Z Z call147 (λ_ _ w cN m=>Wk.a m cM) λa f=>q_p 11 13 Z f (λ_=>AR (f.e Z) (f.e Z) AI) λa f=>q_p 12 13 Z f (λ_=>Bt (f.e Z)) λa f=>AY λcO w cP m=> ?_
          have cB:=OwR.mono trivial cP cB
          refine Aa ?_
          rcases Ae cy with⟨cQ,cy⟩|⟨cQ,cy⟩
          ·refine Am f Z cQ ?_
           refine AE Z ?_
           obtain rfl:=sj cy
           obtain rfl:=cz _ rfl
           exact⟨_,Z,_,cw,(gt cA cP),f.k Z,m,cB⟩
          ·refine Aj f Z cQ ?_
           refine An ?_
           refine BE AN m ?_
           refine p_p 2 Z f (λ_=>Ba (f.e Z)) λa f=>p_p 3 Z f (λ_=>Ba (f.e Z)) λa f=>p_p 4 Z f (λ_=>AR (f.e Z) (f.e Z) AX) λa f=>BD 28015 12 (by kernel_rfl) Z ?_
           refine Ah 0 28015 Z f Z λa f=>Ah 1 28015 Z f Z λa f=>Ah 5 28015 Z f Z λa f=>Ah 6 28015 Z f Z λa f=>q_p 7 28015 Z f (λ_=>AR (f.e Z) (f.e Z) AX) λa f=> ?_
           have⟨cR,cS,cy⟩:=bind_some cy
           refine Aq (i:=8) (listed':= #[true,true,true,true,true,true,true,true,true,false,false,false,false,false,false,false,false,false]) (C:=P2) 28015 0 m cB Z AP cS Z (by kernel_rfl) Z f Z Z Z Z λcT a cU f=>Ar (i:=9) (listed':= #[true,true,true,true,true,true,true,true,true,true,false,false,false,false,false,false,false,false]) (C:=P2) [(iv cR.1),(iv cR.2)] 28015 0 cB Z A6 cU cS Z Z (by kernel_rfl) Z f Z Z Z λa f=>Ah 10 28015 Z f Z λa f=>Ah 11 28015 Z f Z λa f=> ?_
           have⟨cV,cW,cy⟩:=bind_some cy
           refine Aq (i:=12) (listed':= #[true,true,true,true,true,true,true,true,true,true,true,true,true,false,false,false,false,false]) (C:=P2) 28015 0 m cB Z AP cW Z (by kernel_rfl) Z f Z Z Z Z λcX a cY f=>Ar (i:=13) (listed':= #[true,true,true,true,true,true,true,true,true,true,true,true,true,true,false,false,false,false]) (C:=P2) [(iv cV.1),(iv cV.2)] 28015 0 cB Z A6 cY cW Z Z (by kernel_rfl) Z f Z Z Z λa f=> ?_
           have⟨cZ,c0,cy⟩:=bind_some cy
           refine Aq (i:=14) (listed':= #[true,true,true,true,true,true,true,true,true,true,true,true,true,true,true,false,false,false]) (C:=P2) 28015 0 m cB Z AP c0 Z (by kernel_rfl) Z f Z Z Z Z λc1 a c2 f=>AY λc3 w c4 m=> ?_
           have cB:=OwR.mono trivial c4 cB
           refine AQ (E:=P2) (y':=(cR.1,cR.2)) [(iv cR.1),(iv cR.2)] 0 m cB Z sizeOf99 f Z Z c2 c0 Z (Ap Z (Ap Z AG)) (lb Z) Z λc5 w m c6=> ?_
           have⟨c7,c8,cy⟩:=bind_some cy
           refine Bl 0 m c6 Z AP f Z Z Z c8 λc9 a da f=>AQ (E:=P2) (y':=(cV.1,cV.2)) [(iv cV.1),(iv cV.2)] 0 m c6 Z sizeOf99 f Z Z da c8 Z (Ap Z (Ap Z AG)) (lb Z) Z λdb w m dc=>Aa (Ao ?_)
           refine Ab f Z λa f=>Ai f Z Z Az λa f=>Ac f Z λa f=>Aa ?_
           obtain rfl:=sj cy
           exact⟨_,Z,_,_,Z,_,db,(gt cA (gt cP c4)),f.k Z,m,dc⟩
         ·refine Aj f Z cC ?_
          refine AE Z ?_
          obtain rfl:=sj cy
          obtain rfl:=cz _ rfl
          exact⟨_,Z,_,cw,cA,f.k Z,m,cB⟩
        ·rintro a w ⟨cp,rfl,cq,cr,dd,f,m,de⟩
         refine Ao ?_
         refine Ab f Z λa f=>Ai f Z Z Az λa f=>Ac f Z λa f=>Aa ?_
         obtain rfl:=sj am
         exact⟨_,Z,_,_,_,Z,_,cr,(gt ao (gt aW (gt bc (gt ck dd)))),f.k Z,m,de⟩
       ·refine Aj f Z cm ?_
        refine An ?_
        refine Ao ?_
        refine Ab f Z λa f=>Ai f Z Z Az λa f=>Ac f Z λa f=>Aa ?_
        obtain rfl:=sj am
        exact⟨_,Z,_,_,_,Z,_,bp,(gt ao (gt aW (gt bc ck))),f.k Z,m,cl⟩
  ·refine Aj f Z aq ?_
   refine AE Z ?_
   obtain rfl:=sj am
   obtain rfl:=an _ rfl
   exact⟨_,Z,_,Z,_,ak,ao,f.weak trivial,m,ap⟩
 ·rintro a w ⟨_,rfl,ac,rfl,ad,ae,df,f,m,dg⟩
  refine Af ?_
  refine Ac f Z λa f=>Aa ?_
  refine As ?_
  obtain rfl:=sj hd
  exact⟨[(.bool false)],f.g Z,f.d,_,[ae],df,m,_,Z,Z,dg⟩
theorem Wk.z0 {v0:Value}{it0:Itm}{x0:(List (Int×Int))}{x1 x2 x3:Int}(m:Mem W G w (it0::H))(o0:OwR P2 99 G it0 v0 x0){y:Int×((List (Int×Int)))}(hd:D.z0 x0 x1 x2 x3=some y):
  Calls prog 174 #[v0,(iv x1),(iv x2),(iv x3),(.func (.func 147) #[] #[])] w (Res W G H (λG' Ho v=>∃i0:Itm,Ho=[i0]∧v=(iv y.1)∧OwR P2 99 G' i0 v0 y.2)):=by
 refine Ay (args:=[v0,(iv x1),(iv x2),(iv x3),(.func (.func 147) #[] #[])]) (N:=90) [.tmp 10] func174 Z Z (lb Z) Z λa f=> ?_
 unfold D.z0 at hd
 refine Af ?_
 refine Ac f Z λa f=>Aa (Ag ?_)
 refine BE AN m ?_
 refine p_p 2 Z f (λ_=>Ba (f.e Z)) λa f=>p_p 3 Z f (λ_=>Ba (f.e Z)) λa f=>BD 12013 11 (by kernel_rfl) Z ?_
 refine Ah 0 12013 Z f Z λa f=>Ah 1 12013 Z f Z λa f=>Ah 4 12013 Z f Z λa f=>Ah 5 12013 Z f Z λa f=> ?_
 have⟨aa,ab,hd⟩:=bind_some hd
 refine Aq (i:=6) (listed':= #[true,true,true,true,true,true,true,false,false,false,false,false,false,false,false,false]) (C:=P2) 12013 0 m o0 Z AP ab Z (by kernel_rfl) Z f Z Z Z Z λac a ad f=>Ar (i:=7) (listed':= #[true,true,true,true,true,true,true,true,false,false,false,false,false,false,false,false]) (C:=P2) [(iv aa.1),(iv aa.2)] 12013 0 o0 Z A6 ad ab Z Z (by kernel_rfl) Z f Z Z Z λa f=>Ah 8 12013 Z f Z λa f=>Ah 9 12013 Z f Z λa f=> ?_
 have⟨ae,af,hd⟩:=bind_some hd
 refine Aq (i:=10) (listed':= #[true,true,true,true,true,true,true,true,true,true,true,false,false,false,false,false]) (C:=P2) 12013 0 m o0 Z AP af Z (by kernel_rfl) Z f Z Z Z Z λag a ah f=>Ar (i:=11) (listed':= #[true,true,true,true,true,true,true,true,true,true,true,true,false,false,false,false]) (C:=P2) [(iv ae.1),(iv ae.2)] 12013 0 o0 Z A6 ah af Z Z (by kernel_rfl) Z f Z Z Z λa f=> ?_
 have⟨ai,aj,hd⟩:=bind_some hd
 refine Aq (i:=12) (listed':= #[true,true,true,true,true,true,true,true,true,true,true,true,true,false,false,false]) (C:=P2) 12013 0 m o0 Z AP aj Z (by kernel_rfl) Z f Z Z Z Z λak a al f=>AY λam w an m=> ?_
 have o0:=OwR.mono trivial an o0
 refine AQ (E:=P2) (y':=(aa.1,aa.2)) [(iv aa.1),(iv aa.2)] 0 m o0 Z sizeOf99 f Z Z al aj Z (Ap Z (Ap Z AG)) (lb Z) Z λao w m ap=> ?_
 have⟨aq,ar,hd⟩:=bind_some hd
 refine Bl 0 m ap Z AP f Z Z Z ar λau a av f=>AQ (E:=P2) (y':=(ae.1,ae.2)) [(iv ae.1),(iv ae.2)] 0 m ap Z sizeOf99 f Z Z av ar Z (Ap Z (Ap Z AG)) (lb Z) Z λaw w m ax=>AC ?_
 refine Ab f Z λa f=>Ai f Z Z Az λa f=>Ab f Z λa f=>Ai f Z Z AX λa f=>Ac f Z λa f=>Ac f Z λa f=>Aa (Ag ?_)
 have⟨ay,az,hd⟩:=bind_some hd
 refine AL (λa w=>∃aA:List (Int×Int),∃aB:Int,(aA,aB)=ay∧∃(aC:GH) (aD:Itm),GLe am aC∧Fr a 90 [(11,(iv aB))]∧Mem W aC w (aD::H)∧OwR P2 99 aC aD v0 aA) ?_ ?_
 ·refine Ak ?_
  refine AK (λaE a w=>∃aF:List (Int×Int),∃aG:Int,∃aH:Int,(aF,aG,aH)=aE∧∃(aI:GH) (aJ:Itm),GLe am aI∧Fr a 90 [(0,v0),(1,(iv x1)),(4,(.func (.func 147) #[] #[])),(11,(iv aG)),(12,(iv aH))]∧Mem W aI w (aJ::H)∧OwR P2 99 aI aJ v0 aF) az ⟨_,_,_,Z,_,aw,gr,f.k Z,m,ax⟩ ?_
  clear az f m
  rintro aE aK aL aM a w ⟨aF,aG,aH,rfl,aI,aJ,aN,f,m,aO⟩
  refine Ak (Ag ?_)
  have⟨aP,aQ,aL⟩:=bind_some aL
  refine AL (λa w=>∃aR:Int,aR=aP∧∃(aS:GH),GLe aI aS∧Fr a 90 [(0,v0),(1,(iv x1)),(4,(.func (.func 147) #[] #[])),(11,(iv aR)),(12,(iv aH))]∧Mem W aS w (aJ::H)) ?_ ?_
  ·refine Ak ?_
   refine AK (λaT a w=>∃aU:Int,aU=aT∧∃(aV:GH),GLe aI aV∧Fr a 90 [(0,v0),(1,(iv x1)),(4,(.func (.func 147) #[] #[])),(11,(iv aU)),(12,(iv aH))]∧Mem W aV w (aJ::H)) aQ ⟨_,Z,_,gr,f.k Z,m⟩ ?_
   clear aQ f m
   rintro aT aW aX aY a w ⟨aU,rfl,aV,aZ,f,m⟩
   have aO:=OwR.mono trivial aZ aO
   refine Ag (Ag ?_)
   refine A9 17 AN (by kernel_rfl) m ?_
   refine Ah 0 17 Z f Z λa f=>Ah 1 17 Z f Z λa f=>q_p 2 17 Z f (λ_=>AR (f.e Z) (f.e Z) CN) λa f=>Ah 3 17 Z f Z λa f=> ?_
   have⟨a0,a1,aX⟩:=bind_some aX
   refine CM (fuel':=0) (listed':= #[true,true,true,true,true,true,true,true,true,true,true,true,true,true,true,true,true]) (λa=>Fr a 90 [(0,v0),(1,(iv x1)),(4,(.func (.func 147) #[] #[])),(11,(iv aU)),(12,(iv aH)),(31,(iv aU)),(32,(iv aH)),(33,(.bool (decide (aU≤aH)))),(34,(.bool (decide (aU≤aH)))),(47,(.bool a0))]) ?_ ?_
   ·intro a f
    refine AY λa2 w a3 m=>Aa ?_
    rcases Ae aX with⟨a4,aX⟩|⟨a4,aX⟩
    ·refine Am f Z a4 ?_
     refine An ?_
     refine Ak (Ao ?_)
     refine Ab f Z λa f=>Ai f Z Z Az λa f=>Ac f Z λa f=>Aa ?_
     obtain rfl:=sj aX
     exact⟨_,Z,_,Z,_,(gt aZ a3),f.k Z,m⟩
    ·refine Aj f Z a4 ?_
     refine AE Z ?_
     obtain rfl:=sj aX
     obtain rfl:=aY _ rfl
     exact⟨_,Z,_,(gt aZ a3),f.k Z,m⟩
   ·intro a5
    rcases Ae a1 with⟨a6,a1⟩|⟨a6,a1⟩
    ·refine Ah (hw:=wo f a6) 4 17 Z f Z λa f=> ?_
     refine Ah (hw:=wo f a6) 5 17 Z f Z λa f=>Ah (hw:=wo f a6) 6 17 Z f Z λa f=> ?_
     have⟨a7,a8,a1⟩:=bind_some a1
     refine Aq (i:=7) (listed':= #[true,true,true,true,true,true,true,true,false,false,false,false,false,false,false,false,false]) (C:=P2) 17 0 m aO Z AP a8 Z (by kernel_rfl) Z f (AA f Z Z Z a6) Z Z Z λa9 a ba f=>Ar (i:=8) (listed':= #[true,true,true,true,true,true,true,true,true,false,false,false,false,false,false,false,false]) (C:=P2) [(iv a7.1),(iv a7.2)] 17 0 aO Z A6 ba a8 Z Z (by kernel_rfl) Z f (AA f Z Z Z a6) Z Z λa f=>Ah (hw:=wo f a6) 9 17 Z f Z λa f=>Ah (hw:=wo f a6) 10 17 Z f Z λa f=> ?_
     have⟨bb,bc,a1⟩:=bind_some a1
     refine Aq (i:=11) (listed':= #[true,true,true,true,true,true,true,true,true,true,true,true,false,false,false,false,false]) (C:=P2) 17 0 m aO Z AP bc Z (by kernel_rfl) Z f (AA f Z Z Z a6) Z Z Z λbd a be f=>Ar (i:=12) (listed':= #[true,true,true,true,true,true,true,true,true,true,true,true,true,false,false,false,false]) (C:=P2) [(iv bb.1),(iv bb.2)] 17 0 aO Z A6 be bc Z Z (by kernel_rfl) Z f (AA f Z Z Z a6) Z Z λa f=> ?_
     have⟨bf,bg,a1⟩:=bind_some a1
     refine BQ (i:=13) 17 Z (by kernel_rfl) Z f (AA f Z Z Z a6) Z Z Z call147 (λ_ _ w bh m=>Wk.a m bg) λa f=>q_p (hw:=wo f a6) 14 17 Z f (λ_=>AR (f.e Z) (f.e Z) AI) λa f=>q_p (hw:=wo f a6) 15 17 Z f (λ_=>Bt (f.e Z)) λa f=>q_p 16 17 Z f (λ_=>A7 (f.e Z) a6 (f.e Z)) λa f=> ?_
     obtain rfl:=sj a1
     exact a5 _ (f.k Z)
    ·refine Au 4 17 Z f a6 λa f=> ?_
     refine Au 5 17 Z f a6 λa f=>Au 6 17 Z f a6 λa f=>Au 7 17 Z f a6 λa f=>Au 8 17 Z f a6 λa f=>Au 9 17 Z f a6 λa f=>Au 10 17 Z f a6 λa f=>Au 11 17 Z f a6 λa f=>Au 12 17 Z f a6 λa f=>Au 13 17 Z f a6 λa f=>Au 14 17 Z f a6 λa f=>Au 15 17 Z f a6 λa f=>q_p 16 17 Z f (λ_=>A8 (f.e Z) a6 (f.e Z)) λa f=> ?_
     obtain rfl:=sj a1
     exact a5 _ (f.k Z)
  ·rintro a w ⟨aR,rfl,aS,bi,f,m⟩
   have aO:=OwR.mono trivial bi aO
   refine Ag ?_
   have⟨bj,bk,aL⟩:=bind_some aL
   refine AL (λa w=>∃bl:Int,bl=bj∧∃(bm:GH),GLe aS bm∧Fr a 90 [(0,v0),(1,(iv x1)),(4,(.func (.func 147) #[] #[])),(11,(iv aR)),(12,(iv bl))]∧Mem W bm w (aJ::H)) ?_ ?_
   ·refine Ak ?_
    refine AK (λbn a w=>∃bo:Int,bo=bn∧∃(bp:GH),GLe aS bp∧Fr a 90 [(0,v0),(1,(iv x1)),(4,(.func (.func 147) #[] #[])),(11,(iv aR)),(12,(iv bo))]∧Mem W bp w (aJ::H)) bk ⟨_,Z,_,gr,f.k Z,m⟩ ?_
    clear bk f m
    rintro bn bq br bs a w ⟨bo,rfl,bp,bt,f,m⟩
    have aO:=OwR.mono trivial bt aO
    refine Ag (Ag ?_)
    refine A9 16 AN (by kernel_rfl) m ?_
    refine Ah 0 16 Z f Z λa f=>Ah 1 16 Z f Z λa f=>q_p 2 16 Z f (λ_=>AR (f.e Z) (f.e Z) CN) λa f=>Ah 3 16 Z f Z λa f=> ?_
    have⟨bu,bv,br⟩:=bind_some br
    refine CM (fuel':=0) (listed':= #[true,true,true,true,true,true,true,true,true,true,true,true,true,true,true,true]) (λa=>Fr a 90 [(0,v0),(1,(iv x1)),(4,(.func (.func 147) #[] #[])),(11,(iv aR)),(12,(iv bo)),(50,(iv aR)),(51,(iv bo)),(52,(.bool (decide (aR≤bo)))),(53,(.bool (decide (aR≤bo)))),(65,(.bool bu))]) ?_ ?_
    ·intro a f
     refine AY λbw w bx m=>Aa ?_
     rcases Ae br with⟨bz,br⟩|⟨bz,br⟩
     ·refine Am f Z bz ?_
      refine An ?_
      refine Ak (Ao ?_)
      refine Ab f Z λa f=>Ai f Z Z AX λa f=>Ac f Z λa f=>Aa ?_
      obtain rfl:=sj br
      exact⟨_,Z,_,Z,_,(gt bt bx),f.k Z,m⟩
     ·refine Aj f Z bz ?_
      refine AE Z ?_
      obtain rfl:=sj br
      obtain rfl:=bs _ rfl
      exact⟨_,Z,_,(gt bt bx),f.k Z,m⟩
    ·intro bA
     rcases Ae bv with⟨bB,bv⟩|⟨bB,bv⟩
     ·refine Ah (hw:=wo f bB) 4 16 Z f Z λa f=> ?_
      refine Ah (hw:=wo f bB) 5 16 Z f Z λa f=>Ah (hw:=wo f bB) 6 16 Z f Z λa f=> ?_
      have⟨bC,bD,bv⟩:=bind_some bv
      refine Aq (i:=7) (listed':= #[true,true,true,true,true,true,true,true,false,false,false,false,false,false,false,false]) (C:=P2) 16 0 m aO Z AP bD Z (by kernel_rfl) Z f (AA f Z Z Z bB) Z Z Z λbE a bF f=>Ar (i:=8) (listed':= #[true,true,true,true,true,true,true,true,true,false,false,false,false,false,false,false]) (C:=P2) [(iv bC.1),(iv bC.2)] 16 0 aO Z A6 bF bD Z Z (by kernel_rfl) Z f (AA f Z Z Z bB) Z Z λa f=>Ah (hw:=wo f bB) 9 16 Z f Z λa f=>Ah (hw:=wo f bB) 10 16 Z f Z λa f=> ?_
      have⟨bG,bH,bv⟩:=bind_some bv
      refine Aq (i:=11) (listed':= #[true,true,true,true,true,true,true,true,true,true,true,true,false,false,false,false]) (C:=P2) 16 0 m aO Z AP bH Z (by kernel_rfl) Z f (AA f Z Z Z bB) Z Z Z λbI a bJ f=>Ar (i:=12) (listed':= #[true,true,true,true,true,true,true,true,true,true,true,true,true,false,false,false]) (C:=P2) [(iv bG.1),(iv bG.2)] 16 0 aO Z A6 bJ bH Z Z (by kernel_rfl) Z f (AA f Z Z Z bB) Z Z λa f=> ?_
      have⟨bK,bL,bv⟩:=bind_some bv
      refine BQ (i:=13) 16 Z (by kernel_rfl) Z f (AA f Z Z Z bB) Z Z Z call147 (λ_ _ w bM m=>Wk.a m bL) λa f=>q_p (hw:=wo f bB) 14 16 Z f (λ_=>AR (f.e Z) (f.e Z) AI) λa f=>q_p 15 16 Z f (λ_=>A7 (f.e Z) bB (f.e Z)) λa f=> ?_
      obtain rfl:=sj bv
      exact bA _ (f.k Z)
     ·refine Au 4 16 Z f bB λa f=> ?_
      refine Au 5 16 Z f bB λa f=>Au 6 16 Z f bB λa f=>Au 7 16 Z f bB λa f=>Au 8 16 Z f bB λa f=>Au 9 16 Z f bB λa f=>Au 10 16 Z f bB λa f=>Au 11 16 Z f bB λa f=>Au 12 16 Z f bB λa f=>Au 13 16 Z f bB λa f=>Au 14 16 Z f bB λa f=>q_p 15 16 Z f (λ_=>A8 (f.e Z) bB (f.e Z)) λa f=> ?_
      obtain rfl:=sj bv
      exact bA _ (f.k Z)
   ·rintro a w ⟨bl,rfl,bm,bN,f,m⟩
    have aO:=OwR.mono trivial bN aO
    refine Ag (Af ?_)
    refine Ab f Z λa f=>Ab f Z λa f=>Ai f Z Z C4 λa f=>Aa ?_
    rcases Ae aL with⟨bO,aL⟩|⟨bO,aL⟩
    ·refine Am f Z bO ?_
     refine AE Z ?_
     obtain rfl:=sj aL
     obtain rfl:=aM _ rfl
     exact⟨_,_,Z,_,aJ,(gt aN (gt bi bN)),f.k Z,m,aO⟩
    ·refine Aj f Z bO ?_
     refine An ?_
     refine Ag ?_
     refine BE AN m ?_
     refine p_p 2 Z f (λ_=>Ba (f.e Z)) λa f=>p_p 3 Z f (λ_=>Ba (f.e Z)) λa f=>BD 12013 11 (by kernel_rfl) Z ?_
     refine Ah 0 12013 Z f Z λa f=>Ah 1 12013 Z f Z λa f=>Ah 4 12013 Z f Z λa f=>Ah 5 12013 Z f Z λa f=> ?_
     have⟨bP,bQ,aL⟩:=bind_some aL
     refine Aq (i:=6) (listed':= #[true,true,true,true,true,true,true,false,false,false,false,false,false,false,false,false]) (C:=P2) 12013 0 m aO Z AP bQ Z (by kernel_rfl) Z f Z Z Z Z λbR a bS f=>Ar (i:=7) (listed':= #[true,true,true,true,true,true,true,true,false,false,false,false,false,false,false,false]) (C:=P2) [(iv bP.1),(iv bP.2)] 12013 0 aO Z A6 bS bQ Z Z (by kernel_rfl) Z f Z Z Z λa f=>Ah 8 12013 Z f Z λa f=>Ah 9 12013 Z f Z λa f=> ?_
     have⟨bT,bU,aL⟩:=bind_some aL
     refine Aq (i:=10) (listed':= #[true,true,true,true,true,true,true,true,true,true,true,false,false,false,false,false]) (C:=P2) 12013 0 m aO Z AP bU Z (by kernel_rfl) Z f Z Z Z Z λbV a bW f=>Ar (i:=11) (listed':= #[true,true,true,true,true,true,true,true,true,true,true,true,false,false,false,false]) (C:=P2) [(iv bT.1),(iv bT.2)] 12013 0 aO Z A6 bW bU Z Z (by kernel_rfl) Z f Z Z Z λa f=> ?_
     have⟨bX,bY,aL⟩:=bind_some aL
     refine Aq (i:=12) (listed':= #[true,true,true,true,true,true,true,true,true,true,true,true,true,false,false,false]) (C:=P2) 12013 0 m aO Z AP bY Z (by kernel_rfl) Z f Z Z Z Z λbZ a b0 f=>AY λb1 w b2 m=> ?_
     have aO:=OwR.mono trivial b2 aO
     refine AQ (E:=P2) (y':=(bP.1,bP.2)) [(iv bP.1),(iv bP.2)] 0 m aO Z sizeOf99 f Z Z b0 bY Z (Ap Z (Ap Z AG)) (lb Z) Z λb3 w m b4=> ?_
     have⟨b5,b6,aL⟩:=bind_some aL
     refine Bl 0 m b4 Z AP f Z Z Z b6 λb7 a b8 f=>AQ (E:=P2) (y':=(bT.1,bT.2)) [(iv bT.1),(iv bT.2)] 0 m b4 Z sizeOf99 f Z Z b8 b6 Z (Ap Z (Ap Z AG)) (lb Z) Z λb9 w m ca=>AC ?_
     refine Ab f Z λa f=>Ai f Z Z Az λa f=>Ac f Z λa f=>Aa (Ao ?_)
     refine Ab f Z λa f=>Ai f Z Z AX λa f=>Ac f Z λa f=>Aa ?_
     obtain rfl:=sj aL
     exact⟨_,Z,_,_,_,Z,_,b9,(gt aN (gt bi (gt bN b2))),f.k Z,m,ca⟩
 ·rintro a w ⟨aA,aB,rfl,aC,aD,cb,f,m,cc⟩
  refine Af ?_
  refine Ab f Z λa f=>Ac f Z λa f=>Aa ?_
  refine As ?_
  obtain rfl:=sj hd
  exact⟨[(iv aB)],f.g Z,f.d,_,[aD],(gt an cb),m,_,Z,Z,cc⟩
theorem Wk.A0 {v0:Value}{it0:Itm}{x0:(List (Int×Int))}{x1 x2 x3:Int}(m:Mem W G w (it0::H))(o0:OwR P2 99 G it0 v0 x0){y:Int×Bool×((List (Int×Int)))}(hd:D.A0 x0 x1 x2 x3=some y):
  Calls prog 175 #[v0,(iv x1),(iv x2),(iv x3),(.func (.func 147) #[] #[])] w (Res W G H (λG' Ho v=>∃i0:Itm,Ho=[i0]∧v= .tuple #[(iv y.1),(.bool y.2.1)]∧OwR P2 99 G' i0 v0 y.2.2)):=by
 refine Ay (args:=[v0,(iv x1),(iv x2),(iv x3),(.func (.func 147) #[] #[])]) (N:=178) [.tmp 10,.tmp 11] func175 Z Z (lb Z) Z λa f=> ?_
 unfold D.A0 at hd
 refine Af ?_
 refine Ac f Z λa f=>Ac f Z λa f=>Aa (Ag ?_)
 refine BE AN m ?_
 refine p_p 2 Z f (λ_=>Ba (f.e Z)) λa f=>p_p 3 Z f (λ_=>Ba (f.e Z)) λa f=>BD 12013 11 (by kernel_rfl) Z ?_
 refine Ah 0 12013 Z f Z λa f=>Ah 1 12013 Z f Z λa f=>Ah 4 12013 Z f Z λa f=>Ah 5 12013 Z f Z λa f=> ?_
 have⟨aa,ab,hd⟩:=bind_some hd
 refine Aq (i:=6) (listed':= #[true,true,true,true,true,true,true,false,false,false,false,false,false,false,false,false]) (C:=P2) 12013 0 m o0 Z AP ab Z (by kernel_rfl) Z f Z Z Z Z λac a ad f=>Ar (i:=7) (listed':= #[true,true,true,true,true,true,true,true,false,false,false,false,false,false,false,false]) (C:=P2) [(iv aa.1),(iv aa.2)] 12013 0 o0 Z A6 ad ab Z Z (by kernel_rfl) Z f Z Z Z λa f=>Ah 8 12013 Z f Z λa f=>Ah 9 12013 Z f Z λa f=> ?_
 have⟨ae,af,hd⟩:=bind_some hd
 refine Aq (i:=10) (listed':= #[true,true,true,true,true,true,true,true,true,true,true,false,false,false,false,false]) (C:=P2) 12013 0 m o0 Z AP af Z (by kernel_rfl) Z f Z Z Z Z λag a ah f=>Ar (i:=11) (listed':= #[true,true,true,true,true,true,true,true,true,true,true,true,false,false,false,false]) (C:=P2) [(iv ae.1),(iv ae.2)] 12013 0 o0 Z A6 ah af Z Z (by kernel_rfl) Z f Z Z Z λa f=> ?_
 have⟨ai,aj,hd⟩:=bind_some hd
 refine Aq (i:=12) (listed':= #[true,true,true,true,true,true,true,true,true,true,true,true,true,false,false,false]) (C:=P2) 12013 0 m o0 Z AP aj Z (by kernel_rfl) Z f Z Z Z Z λak a al f=>AY λam w an m=> ?_
 have o0:=OwR.mono trivial an o0
 refine AQ (E:=P2) (y':=(aa.1,aa.2)) [(iv aa.1),(iv aa.2)] 0 m o0 Z sizeOf99 f Z Z al aj Z (Ap Z (Ap Z AG)) (lb Z) Z λao w m ap=> ?_
 have⟨aq,ar,hd⟩:=bind_some hd
 refine Bl 0 m ap Z AP f Z Z Z ar λau a av f=>AQ (E:=P2) (y':=(ae.1,ae.2)) [(iv ae.1),(iv ae.2)] 0 m ap Z sizeOf99 f Z Z av ar Z (Ap Z (Ap Z AG)) (lb Z) Z λaw w m ax=>AC ?_
 refine Ab f Z λa f=>Ai f Z Z Az λa f=>Ab f Z λa f=>Ai f Z Z AX λa f=>Ac f Z λa f=>Ac f Z λa f=>Aa (Ag ?_)
 have⟨ay,az,hd⟩:=bind_some hd
 refine AL (λa w=>∃aA:Int,aA=ay∧∃(aB:GH),GLe am aB∧Fr a 178 [(0,v0),(1,(iv x1)),(4,(.func (.func 147) #[] #[])),(12,(iv aA)),(13,(iv (i64.wrap (x2-1))))]∧Mem W aB w (aw::H)) ?_ ?_
 ·refine Ak ?_
  refine AK (λaC a w=>∃aD:Int,aD=aC∧∃(aE:GH),GLe am aE∧Fr a 178 [(0,v0),(1,(iv x1)),(4,(.func (.func 147) #[] #[])),(12,(iv aD)),(13,(iv (i64.wrap (x2-1))))]∧Mem W aE w (aw::H)) az ⟨_,Z,_,gr,f.k Z,m⟩ ?_
  clear az f m
  rintro aC aF aG aH a w ⟨aD,rfl,aE,aI,f,m⟩
  have ax:=OwR.mono trivial aI ax
  refine Ag (Ag ?_)
  refine A9 16 AN (by kernel_rfl) m ?_
  refine Ah 0 16 Z f Z λa f=>Ah 1 16 Z f Z λa f=>q_p 2 16 Z f (λ_=>AR (f.e Z) (f.e Z) CN) λa f=>Ah 3 16 Z f Z λa f=> ?_
  have⟨aJ,aK,aG⟩:=bind_some aG
  refine CM (fuel':=0) (listed':= #[true,true,true,true,true,true,true,true,true,true,true,true,true,true,true,true]) (λa=>Fr a 178 [(0,v0),(1,(iv x1)),(4,(.func (.func 147) #[] #[])),(12,(iv aD)),(13,(iv (i64.wrap (x2-1)))),(32,(iv aD)),(33,(iv (i64.wrap (x2-1)))),(34,(.bool (decide (aD≤(i64.wrap (x2-1)))))),(35,(.bool (decide (aD≤(i64.wrap (x2-1)))))),(47,(.bool aJ))]) ?_ ?_
  ·intro a f
   refine AY λaL w aM m=>Aa ?_
   rcases Ae aG with⟨aN,aG⟩|⟨aN,aG⟩
   ·refine Am f Z aN ?_
    refine An ?_
    refine Ak (Ao ?_)
    refine Ab f Z λa f=>Ai f Z Z Az λa f=>Ac f Z λa f=>Aa ?_
    obtain rfl:=sj aG
    exact⟨_,Z,_,Z,_,(gt aI aM),f.k Z,m⟩
   ·refine Aj f Z aN ?_
    refine AE Z ?_
    obtain rfl:=sj aG
    obtain rfl:=aH _ rfl
    exact⟨_,Z,_,(gt aI aM),f.k Z,m⟩
  ·intro aO
   rcases Ae aK with⟨aP,aK⟩|⟨aP,aK⟩
   ·refine Ah (hw:=wo f aP) 4 16 Z f Z λa f=> ?_
    refine Ah (hw:=wo f aP) 5 16 Z f Z λa f=>Ah (hw:=wo f aP) 6 16 Z f Z λa f=> ?_
    have⟨aQ,aR,aK⟩:=bind_some aK
    refine Aq (i:=7) (listed':= #[true,true,true,true,true,true,true,true,false,false,false,false,false,false,false,false]) (C:=P2) 16 0 m ax Z AP aR Z (by kernel_rfl) Z f (AA f Z Z Z aP) Z Z Z λaS a aT f=>Ar (i:=8) (listed':= #[true,true,true,true,true,true,true,true,true,false,false,false,false,false,false,false]) (C:=P2) [(iv aQ.1),(iv aQ.2)] 16 0 ax Z A6 aT aR Z Z (by kernel_rfl) Z f (AA f Z Z Z aP) Z Z λa f=>Ah (hw:=wo f aP) 9 16 Z f Z λa f=>Ah (hw:=wo f aP) 10 16 Z f Z λa f=> ?_
    have⟨aU,aV,aK⟩:=bind_some aK
    refine Aq (i:=11) (listed':= #[true,true,true,true,true,true,true,true,true,true,true,true,false,false,false,false]) (C:=P2) 16 0 m ax Z AP aV Z (by kernel_rfl) Z f (AA f Z Z Z aP) Z Z Z λaW a aX f=>Ar (i:=12) (listed':= #[true,true,true,true,true,true,true,true,true,true,true,true,true,false,false,false]) (C:=P2) [(iv aU.1),(iv aU.2)] 16 0 ax Z A6 aX aV Z Z (by kernel_rfl) Z f (AA f Z Z Z aP) Z Z λa f=> ?_
    have⟨aY,aZ,aK⟩:=bind_some aK
    refine BQ (i:=13) 16 Z (by kernel_rfl) Z f (AA f Z Z Z aP) Z Z Z call147 (λ_ _ w a0 m=>Wk.a m aZ) λa f=>q_p (hw:=wo f aP) 14 16 Z f (λ_=>AR (f.e Z) (f.e Z) AI) λa f=>q_p 15 16 Z f (λ_=>A7 (f.e Z) aP (f.e Z)) λa f=> ?_
    obtain rfl:=sj aK
    exact aO _ (f.k Z)
   ·refine Au 4 16 Z f aP λa f=> ?_
    refine Au 5 16 Z f aP λa f=>Au 6 16 Z f aP λa f=>Au 7 16 Z f aP λa f=>Au 8 16 Z f aP λa f=>Au 9 16 Z f aP λa f=>Au 10 16 Z f aP λa f=>Au 11 16 Z f aP λa f=>Au 12 16 Z f aP λa f=>Au 13 16 Z f aP λa f=>Au 14 16 Z f aP λa f=>q_p 15 16 Z f (λ_=>A8 (f.e Z) aP (f.e Z)) λa f=> ?_
    obtain rfl:=sj aK
    exact aO _ (f.k Z)
 ·rintro a w ⟨aA,rfl,aB,a1,f,m⟩
  have ax:=OwR.mono trivial a1 ax
  refine Ag ?_
  have⟨a2,a3,hd⟩:=bind_some hd
  refine AL (λa w=>∃a4:Int,a4=a2∧∃(a5:GH),GLe aB a5∧Fr a 178 [(0,v0),(1,(iv x1)),(4,(.func (.func 147) #[] #[])),(12,(iv aA)),(13,(iv a4))]∧Mem W a5 w (aw::H)) ?_ ?_
  ·refine Ak ?_
   refine AK (λa6 a w=>∃a7:Int,a7=a6∧∃(a8:GH),GLe aB a8∧Fr a 178 [(0,v0),(1,(iv x1)),(4,(.func (.func 147) #[] #[])),(12,(iv aA)),(13,(iv a7))]∧Mem W a8 w (aw::H)) a3 ⟨_,Z,_,gr,f.k Z,m⟩ ?_
   clear a3 f m
   rintro a6 a9 ba bb a w ⟨a7,rfl,a8,bc,f,m⟩
   have ax:=OwR.mono trivial bc ax
   refine Ag (Ag ?_)
   refine A9 17 AN (by kernel_rfl) m ?_
   refine Ah 0 17 Z f Z λa f=>Ah 1 17 Z f Z λa f=>q_p 2 17 Z f (λ_=>AR (f.e Z) (f.e Z) CN) λa f=>Ah 3 17 Z f Z λa f=> ?_
   have⟨bd,be,ba⟩:=bind_some ba
   refine CM (fuel':=0) (listed':= #[true,true,true,true,true,true,true,true,true,true,true,true,true,true,true,true,true]) (λa=>Fr a 178 [(0,v0),(1,(iv x1)),(4,(.func (.func 147) #[] #[])),(12,(iv aA)),(13,(iv a7)),(50,(iv aA)),(51,(iv a7)),(52,(.bool (decide (aA≤a7)))),(53,(.bool (decide (aA≤a7)))),(66,(.bool bd))]) ?_ ?_
   ·intro a f
    refine AY λbf w bg m=>Aa ?_
    rcases Ae ba with⟨bh,ba⟩|⟨bh,ba⟩
    ·refine Am f Z bh ?_
     refine An ?_
     refine Ak (Ao ?_)
     refine Ab f Z λa f=>Ai f Z Z AX λa f=>Ac f Z λa f=>Aa ?_
     obtain rfl:=sj ba
     exact⟨_,Z,_,Z,_,(gt bc bg),f.k Z,m⟩
    ·refine Aj f Z bh ?_
     refine AE Z ?_
     obtain rfl:=sj ba
     obtain rfl:=bb _ rfl
     exact⟨_,Z,_,(gt bc bg),f.k Z,m⟩
   ·intro bi
    rcases Ae be with⟨bj,be⟩|⟨bj,be⟩
    ·refine Ah (hw:=wo f bj) 4 17 Z f Z λa f=> ?_
     refine Ah (hw:=wo f bj) 5 17 Z f Z λa f=>Ah (hw:=wo f bj) 6 17 Z f Z λa f=> ?_
     have⟨bk,bl,be⟩:=bind_some be
     refine Aq (i:=7) (listed':= #[true,true,true,true,true,true,true,true,false,false,false,false,false,false,false,false,false]) (C:=P2) 17 0 m ax Z AP bl Z (by kernel_rfl) Z f (AA f Z Z Z bj) Z Z Z λbm a bn f=>Ar (i:=8) (listed':= #[true,true,true,true,true,true,true,true,true,false,false,false,false,false,false,false,false]) (C:=P2) [(iv bk.1),(iv bk.2)] 17 0 ax Z A6 bn bl Z Z (by kernel_rfl) Z f (AA f Z Z Z bj) Z Z λa f=>Ah (hw:=wo f bj) 9 17 Z f Z λa f=>Ah (hw:=wo f bj) 10 17 Z f Z λa f=> ?_
     have⟨bo,bp,be⟩:=bind_some be
     refine Aq (i:=11) (listed':= #[true,true,true,true,true,true,true,true,true,true,true,true,false,false,false,false,false]) (C:=P2) 17 0 m ax Z AP bp Z (by kernel_rfl) Z f (AA f Z Z Z bj) Z Z Z λbq a br f=>Ar (i:=12) (listed':= #[true,true,true,true,true,true,true,true,true,true,true,true,true,false,false,false,false]) (C:=P2) [(iv bo.1),(iv bo.2)] 17 0 ax Z A6 br bp Z Z (by kernel_rfl) Z f (AA f Z Z Z bj) Z Z λa f=> ?_
     have⟨bs,bt,be⟩:=bind_some be
     refine BQ (i:=13) 17 Z (by kernel_rfl) Z f (AA f Z Z Z bj) Z Z Z call147 (λ_ _ w bu m=>Wk.a m bt) λa f=>q_p (hw:=wo f bj) 14 17 Z f (λ_=>AR (f.e Z) (f.e Z) AI) λa f=>q_p (hw:=wo f bj) 15 17 Z f (λ_=>Bt (f.e Z)) λa f=>q_p 16 17 Z f (λ_=>A7 (f.e Z) bj (f.e Z)) λa f=> ?_
     obtain rfl:=sj be
     exact bi _ (f.k Z)
    ·refine Au 4 17 Z f bj λa f=> ?_
     refine Au 5 17 Z f bj λa f=>Au 6 17 Z f bj λa f=>Au 7 17 Z f bj λa f=>Au 8 17 Z f bj λa f=>Au 9 17 Z f bj λa f=>Au 10 17 Z f bj λa f=>Au 11 17 Z f bj λa f=>Au 12 17 Z f bj λa f=>Au 13 17 Z f bj λa f=>Au 14 17 Z f bj λa f=>Au 15 17 Z f bj λa f=>q_p 16 17 Z f (λ_=>A8 (f.e Z) bj (f.e Z)) λa f=> ?_
     obtain rfl:=sj be
     exact bi _ (f.k Z)
  ·rintro a w ⟨a4,rfl,a5,bv,f,m⟩
   have ax:=OwR.mono trivial bv ax
   refine Ag (Af ?_)
   refine Ab f Z λa f=>Ab f Z λa f=>Ai f Z Z C4 λa f=>Aa ?_
   rcases Ae hd with⟨bw,hd⟩|⟨bw,hd⟩
   ·refine Am f Z bw ?_
    refine Ag ?_
    refine BE AN m ?_
    refine p_p 2 Z f (λ_=>Ba (f.e Z)) λa f=>p_p 3 Z f (λ_=>Ba (f.e Z)) λa f=>BD 12013 11 (by kernel_rfl) Z ?_
    refine Ah 0 12013 Z f Z λa f=>Ah 1 12013 Z f Z λa f=>Ah 4 12013 Z f Z λa f=>Ah 5 12013 Z f Z λa f=> ?_
    have⟨bx,bz,hd⟩:=bind_some hd
    refine Aq (i:=6) (listed':= #[true,true,true,true,true,true,true,false,false,false,false,false,false,false,false,false]) (C:=P2) 12013 0 m ax Z AP bz Z (by kernel_rfl) Z f Z Z Z Z λbA a bB f=>Ar (i:=7) (listed':= #[true,true,true,true,true,true,true,true,false,false,false,false,false,false,false,false]) (C:=P2) [(iv bx.1),(iv bx.2)] 12013 0 ax Z A6 bB bz Z Z (by kernel_rfl) Z f Z Z Z λa f=>Ah 8 12013 Z f Z λa f=>Ah 9 12013 Z f Z λa f=> ?_
    have⟨bC,bD,hd⟩:=bind_some hd
    refine Aq (i:=10) (listed':= #[true,true,true,true,true,true,true,true,true,true,true,false,false,false,false,false]) (C:=P2) 12013 0 m ax Z AP bD Z (by kernel_rfl) Z f Z Z Z Z λbE a bF f=>Ar (i:=11) (listed':= #[true,true,true,true,true,true,true,true,true,true,true,true,false,false,false,false]) (C:=P2) [(iv bC.1),(iv bC.2)] 12013 0 ax Z A6 bF bD Z Z (by kernel_rfl) Z f Z Z Z λa f=> ?_
    have⟨bG,bH,hd⟩:=bind_some hd
    refine Aq (i:=12) (listed':= #[true,true,true,true,true,true,true,true,true,true,true,true,true,false,false,false]) (C:=P2) 12013 0 m ax Z AP bH Z (by kernel_rfl) Z f Z Z Z Z λbI a bJ f=>AY λbK w bL m=> ?_
    have ax:=OwR.mono trivial bL ax
    refine AQ (E:=P2) (y':=(bx.1,bx.2)) [(iv bx.1),(iv bx.2)] 0 m ax Z sizeOf99 f Z Z bJ bH Z (Ap Z (Ap Z AG)) (lb Z) Z λbM w m bN=> ?_
    have⟨bO,bP,hd⟩:=bind_some hd
    refine Bl 0 m bN Z AP f Z Z Z bP λbQ a bR f=>AQ (E:=P2) (y':=(bC.1,bC.2)) [(iv bC.1),(iv bC.2)] 0 m bN Z sizeOf99 f Z Z bR bP Z (Ap Z (Ap Z AG)) (lb Z) Z λbS w m bT=>AC ?_
    refine Ab f Z λa f=>Ac f Z λa f=>Ac f Z λa f=>Aa ?_
    refine As ?_
    obtain rfl:=sj hd
    exact⟨[(iv a4),(.bool true)],⟨f.get _ _ Z,f.get _ _ Z,trivial⟩,f.d,_,[bS],(gt an (gt a1 (gt bv bL))),m,_,Z,Z,bT⟩
   ·refine Aj f Z bw ?_
    refine An ?_
    refine Ag ?_
    refine BE AN m ?_
    refine p_p 2 Z f (λ_=>Ba (f.e Z)) λa f=>p_p 3 Z f (λ_=>Ba (f.e Z)) λa f=>BD 12013 11 (by kernel_rfl) Z ?_
    refine Ah 0 12013 Z f Z λa f=>Ah 1 12013 Z f Z λa f=>Ah 4 12013 Z f Z λa f=>Ah 5 12013 Z f Z λa f=> ?_
    have⟨bU,bV,hd⟩:=bind_some hd
    refine Aq (i:=6) (listed':= #[true,true,true,true,true,true,true,false,false,false,false,false,false,false,false,false]) (C:=P2) 12013 0 m ax Z AP bV Z (by kernel_rfl) Z f Z Z Z Z λbW a bX f=>Ar (i:=7) (listed':= #[true,true,true,true,true,true,true,true,false,false,false,false,false,false,false,false]) (C:=P2) [(iv bU.1),(iv bU.2)] 12013 0 ax Z A6 bX bV Z Z (by kernel_rfl) Z f Z Z Z λa f=>Ah 8 12013 Z f Z λa f=>Ah 9 12013 Z f Z λa f=> ?_
    have⟨bY,bZ,hd⟩:=bind_some hd
    refine Aq (i:=10) (listed':= #[true,true,true,true,true,true,true,true,true,true,true,false,false,false,false,false]) (C:=P2) 12013 0 m ax Z AP bZ Z (by kernel_rfl) Z f Z Z Z Z λb0 a b1 f=>Ar (i:=11) (listed':= #[true,true,true,true,true,true,true,true,true,true,true,true,false,false,false,false]) (C:=P2) [(iv bY.1),(iv bY.2)] 12013 0 ax Z A6 b1 bZ Z Z (by kernel_rfl) Z f Z Z Z λa f=> ?_
    have⟨b2,b3,hd⟩:=bind_some hd
    refine Aq (i:=12) (listed':= #[true,true,true,true,true,true,true,true,true,true,true,true,true,false,false,false]) (C:=P2) 12013 0 m ax Z AP b3 Z (by kernel_rfl) Z f Z Z Z Z λb4 a b5 f=>AY λb6 w b7 m=> ?_
    have ax:=OwR.mono trivial b7 ax
    refine AQ (E:=P2) (y':=(bU.1,bU.2)) [(iv bU.1),(iv bU.2)] 0 m ax Z sizeOf99 f Z Z b5 b3 Z (Ap Z (Ap Z AG)) (lb Z) Z λb8 w m b9=> ?_
    have⟨ca,cb,hd⟩:=bind_some hd
    refine Bl 0 m b9 Z AP f Z Z Z cb λcc a cd f=>AQ (E:=P2) (y':=(bY.1,bY.2)) [(iv bY.1),(iv bY.2)] 0 m b9 Z sizeOf99 f Z Z cd cb Z (Ap Z (Ap Z AG)) (lb Z) Z λce w m cf=>AC ?_
    refine Ab f Z λa f=>Ai f Z Z Az λa f=>Ac f Z λa f=>AC ?_
    refine Ab f Z λa f=>Ai f Z Z AX λa f=>Ac f Z λa f=>Aa (Ag ?_)
    have⟨cg,ch,hd⟩:=bind_some hd
    refine AL (λa w=>∃ci:List (Int×Int),∃cj:Int,(ci,cj)=cg∧∃(ck:GH) (cl:Itm),GLe b6 ck∧Fr a 178 [(0,v0),(1,(iv x1)),(13,(iv cj))]∧Mem W ck w (cl::H)∧OwR P2 99 ck cl v0 ci) ?_ ?_
    ·refine Ak ?_
     refine AK (λcm a w=>∃cn:List (Int×Int),∃co:Int,∃cp:Int,(cn,co,cp)=cm∧∃(cq:GH) (cr:Itm),GLe b6 cq∧Fr a 178 [(0,v0),(1,(iv x1)),(4,(.func (.func 147) #[] #[])),(12,(iv co)),(13,(iv cp))]∧Mem W cq w (cr::H)∧OwR P2 99 cq cr v0 cn) ch ⟨_,_,_,Z,_,ce,gr,f.k Z,m,cf⟩ ?_
     clear ch f m
     rintro cm cs ct cu a w ⟨cn,co,cp,rfl,cq,cr,cv,f,m,cw⟩
     refine Ak (Ag ?_)
     have⟨cx,cy,ct⟩:=bind_some ct
     refine AL (λa w=>∃cz:Int,cz=cx∧∃(cA:GH),GLe cq cA∧Fr a 178 [(0,v0),(1,(iv x1)),(4,(.func (.func 147) #[] #[])),(12,(iv cz)),(13,(iv cp))]∧Mem W cA w (cr::H)) ?_ ?_
     ·refine Ak ?_
      refine AK (λcB a w=>∃cC:Int,cC=cB∧∃(cD:GH),GLe cq cD∧Fr a 178 [(0,v0),(1,(iv x1)),(4,(.func (.func 147) #[] #[])),(12,(iv cC)),(13,(iv cp))]∧Mem W cD w (cr::H)) cy ⟨_,Z,_,gr,f.k Z,m⟩ ?_
      clear cy f m
      rintro cB cE cF cG a w ⟨cC,rfl,cD,cH,f,m⟩
      have cw:=OwR.mono trivial cH cw
      refine Ag (Ag ?_)
      refine A9 16 AN (by kernel_rfl) m ?_
      refine Ah 0 16 Z f Z λa f=>Ah 1 16 Z f Z λa f=>q_p 2 16 Z f (λ_=>AR (f.e Z) (f.e Z) CN) λa f=>Ah 3 16 Z f Z λa f=> ?_
      have⟨cI,cJ,cF⟩:=bind_some cF
      refine CM (fuel':=0) (listed':= #[true,true,true,true,true,true,true,true,true,true,true,true,true,true,true,true]) (λa=>Fr a 178 [(0,v0),(1,(iv x1)),(4,(.func (.func 147) #[] #[])),(12,(iv cC)),(13,(iv cp)),(105,(iv cC)),(106,(iv cp)),(107,(.bool (decide (cC≤cp)))),(108,(.bool (decide (cC≤cp)))),(120,(.bool cI))]) ?_ ?_
      ·intro a f
       refine AY λcK w cL m=>Aa ?_
       rcases Ae cF with⟨cM,cF⟩|⟨cM,cF⟩
       ·refine Am f Z cM ?_
        refine An ?_
        refine Ak (Ao ?_)
        refine Ab f Z λa f=>Ai f Z Z Az λa f=>Ac f Z λa f=>Aa ?_
        obtain rfl:=sj cF
        exact⟨_,Z,_,Z,_,(gt cH cL),f.k Z,m⟩
       ·refine Aj f Z cM ?_
        refine AE Z ?_
        obtain rfl:=sj cF
        obtain rfl:=cG _ rfl
        exact⟨_,Z,_,(gt cH cL),f.k Z,m⟩
      ·intro cN
       rcases Ae cJ with⟨cO,cJ⟩|⟨cO,cJ⟩
       ·refine Ah (hw:=wo f cO) 4 16 Z f Z λa f=> ?_
        refine Ah (hw:=wo f cO) 5 16 Z f Z λa f=>Ah (hw:=wo f cO) 6 16 Z f Z λa f=> ?_
        have⟨cP,cQ,cJ⟩:=bind_some cJ
        refine Aq (i:=7) (listed':= #[true,true,true,true,true,true,true,true,false,false,false,false,false,false,false,false]) (C:=P2) 16 0 m cw Z AP cQ Z (by kernel_rfl) Z f (AA f Z Z Z cO) Z Z Z λcR a cS f=>Ar (i:=8) (listed':= #[true,true,true,true,true,true,true,true,true,false,false,false,false,false,false,false]) (C:=P2) [(iv cP.1),(iv cP.2)] 16 0 cw Z A6 cS cQ Z Z (by kernel_rfl) Z f (AA f Z Z Z cO) Z Z λa f=>Ah (hw:=wo f cO) 9 16 Z f Z λa f=>Ah (hw:=wo f cO) 10 16 Z f Z λa f=> ?_
        have⟨cT,cU,cJ⟩:=bind_some cJ
        refine Aq (i:=11) (listed':= #[true,true,true,true,true,true,true,true,true,true,true,true,false,false,false,false]) (C:=P2) 16 0 m cw Z AP cU Z (by kernel_rfl) Z f (AA f Z Z Z cO) Z Z Z λcV a cW f=>Ar (i:=12) (listed':= #[true,true,true,true,true,true,true,true,true,true,true,true,true,false,false,false]) (C:=P2) [(iv cT.1),(iv cT.2)] 16 0 cw Z A6 cW cU Z Z (by kernel_rfl) Z f (AA f Z Z Z cO) Z Z λa f=> ?_
        have⟨cX,cY,cJ⟩:=bind_some cJ
        refine BQ (i:=13) 16 Z (by kernel_rfl) Z f (AA f Z Z Z cO) Z Z Z call147 (λ_ _ w cZ m=>Wk.a m cY) λa f=>q_p (hw:=wo f cO) 14 16 Z f (λ_=>AR (f.e Z) (f.e Z) AI) λa f=>q_p 15 16 Z f (λ_=>A7 (f.e Z) cO (f.e Z)) λa f=> ?_
        obtain rfl:=sj cJ
        exact cN _ (f.k Z)
       ·refine Au 4 16 Z f cO λa f=> ?_
        refine Au 5 16 Z f cO λa f=>Au 6 16 Z f cO λa f=>Au 7 16 Z f cO λa f=>Au 8 16 Z f cO λa f=>Au 9 16 Z f cO λa f=>Au 10 16 Z f cO λa f=>Au 11 16 Z f cO λa f=>Au 12 16 Z f cO λa f=>Au 13 16 Z f cO λa f=>Au 14 16 Z f cO λa f=>q_p 15 16 Z f (λ_=>A8 (f.e Z) cO (f.e Z)) λa f=> ?_
        obtain rfl:=sj cJ
        exact cN _ (f.k Z)
     ·rintro a w ⟨cz,rfl,cA,c0,f,m⟩
      have cw:=OwR.mono trivial c0 cw
      refine Ag ?_
      have⟨c1,c2,ct⟩:=bind_some ct
      refine AL (λa w=>∃c3:Int,c3=c1∧∃(c4:GH),GLe cA c4∧Fr a 178 [(0,v0),(1,(iv x1)),(4,(.func (.func 147) #[] #[])),(12,(iv cz)),(13,(iv c3))]∧Mem W c4 w (cr::H)) ?_ ?_
      ·refine Ak ?_
       refine AK (λc5 a w=>∃c6:Int,c6=c5∧∃(c7:GH),GLe cA c7∧Fr a 178 [(0,v0),(1,(iv x1)),(4,(.func (.func 147) #[] #[])),(12,(iv cz)),(13,(iv c6))]∧Mem W c7 w (cr::H)) c2 ⟨_,Z,_,gr,f.k Z,m⟩ ?_
       clear c2 f m
       rintro c5 c8 c9 da a w ⟨c6,rfl,c7,db,f,m⟩
       have cw:=OwR.mono trivial db cw
       refine Ag (Ag ?_)
       refine A9 17 AN (by kernel_rfl) m ?_
       refine Ah 0 17 Z f Z λa f=>Ah 1 17 Z f Z λa f=>q_p 2 17 Z f (λ_=>AR (f.e Z) (f.e Z) CN) λa f=>Ah 3 17 Z f Z λa f=> ?_
       have⟨dc,dd,c9⟩:=bind_some c9
       refine CM (fuel':=0) (listed':= #[true,true,true,true,true,true,true,true,true,true,true,true,true,true,true,true,true]) (λa=>Fr a 178 [(0,v0),(1,(iv x1)),(4,(.func (.func 147) #[] #[])),(12,(iv cz)),(13,(iv c6)),(123,(iv cz)),(124,(iv c6)),(125,(.bool (decide (cz≤c6)))),(126,(.bool (decide (cz≤c6)))),(139,(.bool dc))]) ?_ ?_
       ·intro a f
        refine AY λde w df m=>Aa ?_
        rcases Ae c9 with⟨dg,c9⟩|⟨dg,c9⟩
        ·refine Am f Z dg ?_
         refine An ?_
         refine Ak (Ao ?_)
         refine Ab f Z λa f=>Ai f Z Z AX λa f=>Ac f Z λa f=>Aa ?_
         obtain rfl:=sj c9
         exact⟨_,Z,_,Z,_,(gt db df),f.k Z,m⟩
        ·refine Aj f Z dg ?_
         refine AE Z ?_
         obtain rfl:=sj c9
         obtain rfl:=da _ rfl
         exact⟨_,Z,_,(gt db df),f.k Z,m⟩
       ·intro dh
        rcases Ae dd with⟨di,dd⟩|⟨di,dd⟩
        ·refine Ah (hw:=wo f di) 4 17 Z f Z λa f=> ?_
         refine Ah (hw:=wo f di) 5 17 Z f Z λa f=>Ah (hw:=wo f di) 6 17 Z f Z λa f=> ?_
         have⟨dj,dk,dd⟩:=bind_some dd
         refine Aq (i:=7) (listed':= #[true,true,true,true,true,true,true,true,false,false,false,false,false,false,false,false,false]) (C:=P2) 17 0 m cw Z AP dk Z (by kernel_rfl) Z f (AA f Z Z Z di) Z Z Z λdl a dm f=>Ar (i:=8) (listed':= #[true,true,true,true,true,true,true,true,true,false,false,false,false,false,false,false,false]) (C:=P2) [(iv dj.1),(iv dj.2)] 17 0 cw Z A6 dm dk Z Z (by kernel_rfl) Z f (AA f Z Z Z di) Z Z λa f=>Ah (hw:=wo f di) 9 17 Z f Z λa f=>Ah (hw:=wo f di) 10 17 Z f Z λa f=> ?_
         have⟨dn,dp,dd⟩:=bind_some dd
         refine Aq (i:=11) (listed':= #[true,true,true,true,true,true,true,true,true,true,true,true,false,false,false,false,false]) (C:=P2) 17 0 m cw Z AP dp Z (by kernel_rfl) Z f (AA f Z Z Z di) Z Z Z λdq a dr f=>Ar (i:=12) (listed':= #[true,true,true,true,true,true,true,true,true,true,true,true,true,false,false,false,false]) (C:=P2) [(iv dn.1),(iv dn.2)] 17 0 cw Z A6 dr dp Z Z (by kernel_rfl) Z f (AA f Z Z Z di) Z Z λa f=> ?_
         have⟨ds,dt,dd⟩:=bind_some dd
         refine BQ (i:=13) 17 Z (by kernel_rfl) Z f (AA f Z Z Z di) Z Z Z call147 (λ_ _ w du m=>Wk.a m dt) λa f=>q_p (hw:=wo f di) 14 17 Z f (λ_=>AR (f.e Z) (f.e Z) AI) λa f=>q_p (hw:=wo f di) 15 17 Z f (λ_=>Bt (f.e Z)) λa f=>q_p 16 17 Z f (λ_=>A7 (f.e Z) di (f.e Z)) λa f=> ?_
         obtain rfl:=sj dd
         exact dh _ (f.k Z)
        ·refine Au 4 17 Z f di λa f=> ?_
         refine Au 5 17 Z f di λa f=>Au 6 17 Z f di λa f=>Au 7 17 Z f di λa f=>Au 8 17 Z f di λa f=>Au 9 17 Z f di λa f=>Au 10 17 Z f di λa f=>Au 11 17 Z f di λa f=>Au 12 17 Z f di λa f=>Au 13 17 Z f di λa f=>Au 14 17 Z f di λa f=>Au 15 17 Z f di λa f=>q_p 16 17 Z f (λ_=>A8 (f.e Z) di (f.e Z)) λa f=> ?_
         obtain rfl:=sj dd
         exact dh _ (f.k Z)
      ·rintro a w ⟨c3,rfl,c4,dv,f,m⟩
       have cw:=OwR.mono trivial dv cw
       refine Ag (Af ?_)
       refine Ab f Z λa f=>Ab f Z λa f=>Ai f Z Z C4 λa f=>Aa ?_
       rcases Ae ct with⟨dw,ct⟩|⟨dw,ct⟩
       ·refine Am f Z dw ?_
        refine AE Z ?_
        obtain rfl:=sj ct
        obtain rfl:=cu _ rfl
        exact⟨_,_,Z,_,cr,(gt cv (gt c0 dv)),f.k Z,m,cw⟩
       ·refine Aj f Z dw ?_
        refine An ?_
        refine Ag ?_
        refine BE AN m ?_
        refine p_p 2 Z f (λ_=>Ba (f.e Z)) λa f=>p_p 3 Z f (λ_=>Ba (f.e Z)) λa f=>BD 12013 11 (by kernel_rfl) Z ?_
        refine Ah 0 12013 Z f Z λa f=>Ah 1 12013 Z f Z λa f=>Ah 4 12013 Z f Z λa f=>Ah 5 12013 Z f Z λa f=> ?_
        have⟨dx,dy,ct⟩:=bind_some ct
        refine Aq (i:=6) (listed':= #[true,true,true,true,true,true,true,false,false,false,false,false,false,false,false,false]) (C:=P2) 12013 0 m cw Z AP dy Z (by kernel_rfl) Z f Z Z Z Z λdz a dA f=>Ar (i:=7) (listed':= #[true,true,true,true,true,true,true,true,false,false,false,false,false,false,false,false]) (C:=P2) [(iv dx.1),(iv dx.2)] 12013 0 cw Z A6 dA dy Z Z (by kernel_rfl) Z f Z Z Z λa f=>Ah 8 12013 Z f Z λa f=>Ah 9 12013 Z f Z λa f=> ?_
        have⟨dB,dC,ct⟩:=bind_some ct
        refine Aq (i:=10) (listed':= #[true,true,true,true,true,true,true,true,true,true,true,false,false,false,false,false]) (C:=P2) 12013 0 m cw Z AP dC Z (by kernel_rfl) Z f Z Z Z Z λdD a dE f=>Ar (i:=11) (listed':= #[true,true,true,true,true,true,true,true,true,true,true,true,false,false,false,false]) (C:=P2) [(iv dB.1),(iv dB.2)] 12013 0 cw Z A6 dE dC Z Z (by kernel_rfl) Z f Z Z Z λa f=> ?_
        have⟨dF,dG,ct⟩:=bind_some ct
        refine Aq (i:=12) (listed':= #[true,true,true,true,true,true,true,true,true,true,true,true,true,false,false,false]) (C:=P2) 12013 0 m cw Z AP dG Z (by kernel_rfl) Z f Z Z Z Z λdH a dI f=>AY λdJ w dK m=> ?_
        have cw:=OwR.mono trivial dK cw
        refine AQ (E:=P2) (y':=(dx.1,dx.2)) [(iv dx.1),(iv dx.2)] 0 m cw Z sizeOf99 f Z Z dI dG Z (Ap Z (Ap Z AG)) (lb Z) Z λdL w m dM=> ?_
        have⟨dN,dO,ct⟩:=bind_some ct
        refine Bl 0 m dM Z AP f Z Z Z dO λdP a dQ f=>AQ (E:=P2) (y':=(dB.1,dB.2)) [(iv dB.1),(iv dB.2)] 0 m dM Z sizeOf99 f Z Z dQ dO Z (Ap Z (Ap Z AG)) (lb Z) Z λdR w m dS=>AC ?_
        refine Ab f Z λa f=>Ai f Z Z Az λa f=>Ac f Z λa f=>Aa (Ao ?_)
        refine Ab f Z λa f=>Ai f Z Z AX λa f=>Ac f Z λa f=>Aa ?_
        obtain rfl:=sj ct
        exact⟨_,Z,_,_,_,Z,_,dR,(gt cv (gt c0 (gt dv dK))),f.k Z,m,dS⟩
    ·rintro a w ⟨ci,cj,rfl,ck,cl,dT,f,m,dU⟩
     refine Ag ?_
     refine BE AN m ?_
     refine p_p 2 Z f (λ_=>Ba (f.e Z)) λa f=>p_p 3 Z f (λ_=>Ba (f.e Z)) λa f=>BD 12013 11 (by kernel_rfl) Z ?_
     refine Ah 0 12013 Z f Z λa f=>Ah 1 12013 Z f Z λa f=>Ah 4 12013 Z f Z λa f=>Ah 5 12013 Z f Z λa f=> ?_
     have⟨dV,dW,hd⟩:=bind_some hd
     refine Aq (i:=6) (listed':= #[true,true,true,true,true,true,true,false,false,false,false,false,false,false,false,false]) (C:=P2) 12013 0 m dU Z AP dW Z (by kernel_rfl) Z f Z Z Z Z λdX a dY f=>Ar (i:=7) (listed':= #[true,true,true,true,true,true,true,true,false,false,false,false,false,false,false,false]) (C:=P2) [(iv dV.1),(iv dV.2)] 12013 0 dU Z A6 dY dW Z Z (by kernel_rfl) Z f Z Z Z λa f=>Ah 8 12013 Z f Z λa f=>Ah 9 12013 Z f Z λa f=> ?_
     have⟨dZ,d0,hd⟩:=bind_some hd
     refine Aq (i:=10) (listed':= #[true,true,true,true,true,true,true,true,true,true,true,false,false,false,false,false]) (C:=P2) 12013 0 m dU Z AP d0 Z (by kernel_rfl) Z f Z Z Z Z λd1 a d2 f=>Ar (i:=11) (listed':= #[true,true,true,true,true,true,true,true,true,true,true,true,false,false,false,false]) (C:=P2) [(iv dZ.1),(iv dZ.2)] 12013 0 dU Z A6 d2 d0 Z Z (by kernel_rfl) Z f Z Z Z λa f=> ?_
     have⟨d3,d4,hd⟩:=bind_some hd
     refine Aq (i:=12) (listed':= #[true,true,true,true,true,true,true,true,true,true,true,true,true,false,false,false]) (C:=P2) 12013 0 m dU Z AP d4 Z (by kernel_rfl) Z f Z Z Z Z λd5 a d6 f=>AY λd7 w d8 m=> ?_
     have dU:=OwR.mono trivial d8 dU
     refine AQ (E:=P2) (y':=(dV.1,dV.2)) [(iv dV.1),(iv dV.2)] 0 m dU Z sizeOf99 f Z Z d6 d4 Z (Ap Z (Ap Z AG)) (lb Z) Z λd9 w m ea=> ?_
     have⟨eb,ec,hd⟩:=bind_some hd
     refine Bl 0 m ea Z AP f Z Z Z ec λed a ee f=>AQ (E:=P2) (y':=(dZ.1,dZ.2)) [(iv dZ.1),(iv dZ.2)] 0 m ea Z sizeOf99 f Z Z ee ec Z (Ap Z (Ap Z AG)) (lb Z) Z λef w m eg=>AC ?_
     refine Ab f Z λa f=>Ac f Z λa f=>Ac f Z λa f=>Aa ?_
     refine As ?_
     obtain rfl:=sj hd
     exact⟨[(iv cj),(.bool false)],⟨f.get _ _ Z,f.get _ _ Z,trivial⟩,f.d,_,[ef],(gt an (gt a1 (gt bv (gt b7 (gt dT d8))))),m,_,Z,Z,eg⟩
theorem Wk.x {W:World}(n:Nat):∀{w:World} {G:GH} {H:List Itm} {v0:Value} {it0:Itm} {x0:(List (Int×Int))} {x1 x2 x3:Int} (m:Mem W G w (it0::H)) (o0:OwR P2 99 G it0 v0 x0) {y:((List (Int×Int)))} (hd:D.x n x0 x1 x2 x3=some y),
  Calls prog 160 #[v0,(iv x1),(iv x2),(iv x3),(.func (.func 147) #[] #[])] w (Res W G H (λG' Ho _=>∃i0:Itm,Ho=[i0]∧OwR P2 99 G' i0 v0 y)):=by
 induction n with
 |zero=>intros;rename_i hd;simp[D.x] at hd
 |succ fuel ih=>
  intro w G H v0 it0 x0 x1 x2 x3 m o0 y hd
  refine Ay (args:=[v0,(iv x1),(iv x2),(iv x3),(.func (.func 147) #[] #[])]) (N:=148) [] func160 Z Z (lb Z) Z λa f=> ?_
  unfold D.x at hd
  refine Af ?_
  refine Ac f Z λa f=>AC ?_
  refine Ac f Z λa f=>Aa ?_
  have⟨aa,ab,hd⟩:=bind_some hd
  refine Ak ?_
  refine AK (λac a w=>∃ad:List (Int×Int),∃ae:Int,∃af:Int,∃ag:Int,∃ah:Bool,∃ai:Bool,(ad,ae,af,ag,ah,ai)=ac∧∃(aj:GH) (ak:Itm),GLe G aj∧Fr a 148 [(0,v0),(1,(iv ae)),(2,(iv af)),(3,(iv ag)),(4,(.func (.func 147) #[] #[])),(10,(.bool ah)),(11,(.bool ai))]∧Mem W aj w (ak::H)∧OwR P2 99 aj ak v0 ad) ab ⟨_,_,_,_,_,_,Z,_,it0,gr,f.k Z,m,o0⟩ ?_
  clear ab f m
  rintro ac al am an a w ⟨ad,ae,af,ag,ah,ai,rfl,aj,ak,ao,f,m,ap⟩
  refine Ak (Af ?_)
  refine Ab f Z λa f=>Ab f Z λa f=>Ai f Z Z AX λa f=>Ac f Z λa f=>Aa (Ag (Af ?_))
  refine Ab f Z λa f=>Ai f Z Z CN λa f=>Aa ?_
  rcases Ae am with⟨aq,am⟩|⟨aq,am⟩
  ·refine Am f Z aq ?_
   refine Af ?_
   refine Ab f Z λa f=>Ab f Z λa f=>Ab f Z λa f=>Ab f Z λa f=> ?_
   have⟨ar,au,am⟩:=bind_some am
   refine A1 f Z call168 (Wk.s0 m ap au) λav aw ax w ay m az a f=> ?_
   obtain⟨aA,rfl,aB⟩:=az
   refine Aa ?_
   refine As ?_
   obtain rfl:=sj am
   obtain rfl:=an _ rfl
   obtain rfl:=sj hd
   exact⟨[],trivial,f.d,_,[aA],(gt ao ay),m,_,Z,aB⟩
  ·refine Aj f Z aq ?_
   refine An ?_
   refine Ag (Af ?_)
   refine Ab f Z λa f=>Ai f Z Z B5 λa f=>Aa ?_
   rcases Ae am with⟨aC,am⟩|⟨aC,am⟩
   ·refine Am f Z aC ?_
    refine Af ?_
    refine Ab f Z λa f=>Ab f Z λa f=>Ab f Z λa f=>Ab f Z λa f=> ?_
    have⟨aD,aE,am⟩:=bind_some am
    refine A1 f Z call169 (Wk.v0 m ap aE) λaF aG aH w aI m aJ a f=> ?_
    obtain⟨aK,rfl,aL⟩:=aJ
    refine Aa ?_
    refine As ?_
    obtain rfl:=sj am
    obtain rfl:=an _ rfl
    obtain rfl:=sj hd
    exact⟨[],trivial,f.d,_,[aK],(gt ao aI),m,_,Z,aL⟩
   ·refine Aj f Z aC ?_
    refine An ?_
    refine Ag (Af ?_)
    refine Ab f Z λa f=>l_o f (Bt (f.e Z)) λa f=>Aa ?_
    have⟨aM,aN,am⟩:=bind_some am
    refine AL (λa w=>∃aO:List (Int×Int),∃aP:Int,(aO,aP)=aM∧∃(aQ:GH) (aR:Itm),GLe aj aQ∧Fr a 148 [(0,v0),(1,(iv ae)),(2,(iv af)),(3,(iv aP)),(4,(.func (.func 147) #[] #[])),(10,(.bool ah)),(11,(.bool ai)),(12,(iv (i64.wrap (af-ae))))]∧Mem W aQ w (aR::H)∧OwR P2 99 aQ aR v0 aO) ?_ ?_
    ·rcases Ae aN with⟨aS,aN⟩|⟨aS,aN⟩
     ·refine Am f Z aS ?_
      refine Af ?_
      refine Ab f Z λa f=>Ab f Z λa f=>Ab f Z λa f=>Ab f Z λa f=> ?_
      have⟨aT,aU,aN⟩:=bind_some aN
      refine A1 f Z call170 (Wk.x0 m ap aU) λaV aW aX w aY m aZ a f=> ?_
      obtain⟨a0,rfl,a1⟩:=aZ
      refine Aa (Ao ?_)
      refine Ab f Z λa f=>Ai f Z Z AX λa f=>Ac f Z λa f=>Aa ?_
      obtain rfl:=sj aN
      exact⟨_,_,Z,_,a0,aY,f.k Z,m,a1⟩
     ·refine Aj f Z aS ?_
      refine An ?_
      obtain rfl:=sj aN
      exact⟨_,_,Z,_,ak,gr,f.k Z,m,ap⟩
    ·rintro a w ⟨aO,aP,rfl,aQ,aR,a2,f,m,a3⟩
     refine Af ?_
     refine Ab f Z λa f=>Ab f Z λa f=>Ab f Z λa f=>Ab f Z λa f=> ?_
     have⟨a4,a5,am⟩:=bind_some am
     refine A1 f Z call171 (Wk.y0 m a3 a5) λa6 a7 a8 w a9 m ba a f=> ?_
     obtain⟨bb,rfl,rfl,bc⟩:=ba
     refine Ab f Z λa f=>l_o f (A3 (f.e Z) Z) λa f=>l_o f (A3 (f.e Z) Z) λa f=>Ac f Z λa f=>Ac f Z λa f=>Aa (Ag (Af ?_))
     refine Ab f Z λa f=>Ai f Z Z B5 λa f=>Aa ?_
     have⟨bd,be,am⟩:=bind_some am
     refine AL (λa w=>∃bf:List (Int×Int),∃bg:Int,∃bh:Int,(bf,bg,bh)=bd∧∃(bi:GH) (bj:Itm),GLe a7 bi∧Fr a 148 [(0,v0),(1,(iv ae)),(2,(iv af)),(3,(iv aP)),(4,(.func (.func 147) #[] #[])),(10,(.bool ah)),(11,(.bool ai)),(12,(iv (i64.wrap (af-ae)))),(13,(iv bg)),(14,(iv bh))]∧Mem W bi w (bj::H)∧OwR P2 99 bi bj v0 bf) ?_ ?_
     ·rcases Ae be with⟨bk,be⟩|⟨bk,be⟩
      ·refine Am f Z bk ?_
       refine Af ?_
       refine Ab f Z λa f=>Ab f Z λa f=>Ab f Z λa f=>Ab f Z λa f=> ?_
       have⟨bl,bm,be⟩:=bind_some be
       refine A1 f Z call172 (Wk.B0 m bc bm) λbn bo bp w bq m br a f=> ?_
       obtain⟨bs,rfl,bt⟩:=br
       refine AC ?_
       refine Ab f Z λa f=>Ai f Z Z AX λa f=>Ab f Z λa f=>Ab f Z λa f=>Ai f Z Z AX λa f=>Ai f Z Z AX λa f=>Ac f Z λa f=>Aa (Ao ?_)
       refine Ac f Z λa f=>Aa ?_
       obtain rfl:=sj be
       exact⟨_,_,_,Z,_,bs,bq,f.k Z,m,bt⟩
      ·refine Aj f Z bk ?_
       refine An ?_
       obtain rfl:=sj be
       exact⟨_,_,_,Z,_,bb,gr,f.k Z,m,bc⟩
     ·rintro a w ⟨bf,bg,bh,rfl,bi,bj,bu,f,m,bv⟩
      refine Ag (Af ?_)
      refine Ab f Z λa f=>Ab f Z λa f=> ?_
      refine BJ 2 (λa w=>∃bw,GLe bi bw∧Mem W bw w (bj::H)∧Fr a 148 [(0,v0),(1,(iv ae)),(2,(iv af)),(3,(iv aP)),(4,(.func (.func 147) #[] #[])),(10,(.bool ah)),(11,(.bool ai)),(12,(iv (i64.wrap (af-ae)))),(13,(iv bg)),(14,(iv bh)),(68,(.bool ah)),(69,(.bool ah)),(71,(.bool (ah&&ai)))]) ?_ ?_
      ·rcases Bool.eq_false_or_eq_true ah with bx|bx
       ·refine AH f bx ?_
        refine Ab f Z λa f=>l_o f (A7 (f.e Z) bx (f.e Z)) λa f=> ?_
        exact⟨_,gr,m,f.weak ⟨Z,Z,Z,Z,Z,Z,Z,Z,Z,Z,Z,Z,by rw[bx];rfl,trivial⟩⟩
       ·refine AJ f bx λa f=> ?_
        refine l_o f (A8 (f.e Z) bx (f.e Z)) λa f=> ?_
        exact⟨_,gr,m,f.weak ⟨Z,Z,Z,Z,Z,Z,Z,Z,Z,Z,Z,Z,by rw[bx];rfl,trivial⟩⟩
      ·rintro a w ⟨bw,bz,m,f⟩
       have bv:=OwR.mono trivial bz bv
       refine Ab f Z λa f=> ?_
       refine BJ 3 (λa w=>∃bA,GLe bw bA∧Mem W bA w (bj::H)∧Fr a 148 [(0,v0),(1,(iv ae)),(2,(iv af)),(3,(iv aP)),(4,(.func (.func 147) #[] #[])),(10,(.bool ah)),(11,(.bool ai)),(12,(iv (i64.wrap (af-ae)))),(13,(iv bg)),(14,(iv bh)),(68,(.bool ah)),(69,(.bool ah)),(71,(.bool (ah&&ai))),(72,(.bool (ah&&ai))),(75,(.bool ((ah&&ai)&&(bh==1))))]) ?_ ?_
       ·rcases Bool.eq_false_or_eq_true (ah&&ai) with bB|bB
        ·refine AH f bB ?_
         refine Ab f Z λa f=>AH f bB ?_
         refine Ai f Z Z B5 λa f=>l_o f (A7 (f.e Z) bB (f.e Z)) λa f=> ?_
         exact⟨_,gr,m,f.weak ⟨Z,Z,Z,Z,Z,Z,Z,Z,Z,Z,Z,Z,Z,Z,by rw[bB];rfl,trivial⟩⟩
        ·refine AJ f bB λa f=> ?_
         refine AJ f bB λa f=>l_o f (A8 (f.e Z) bB (f.e Z)) λa f=> ?_
         exact⟨_,gr,m,f.weak ⟨Z,Z,Z,Z,Z,Z,Z,Z,Z,Z,Z,Z,Z,Z,by rw[bB];rfl,trivial⟩⟩
       ·rintro a w ⟨bA,bC,m,f⟩
        have bv:=OwR.mono trivial bC bv
        refine Aa ?_
        have⟨bD,bE,am⟩:=bind_some am
        refine AL (λa w=>∃j_497':(List (Int×Int)),bD= .inl j_497'∧∃bF:List (Int×Int),bF=j_497'∧∃(bG:GH) (bH:Itm),GLe bA bG∧Fr a 148 [(0,v0),(1,(iv ae)),(2,(iv af)),(3,(iv aP)),(4,(.func (.func 147) #[] #[])),(10,(.bool ah)),(11,(.bool ai)),(12,(iv (i64.wrap (af-ae)))),(13,(iv bg))]∧Mem W bG w (bH::H)∧OwR P2 99 bG bH v0 bF) ?_ ?_
        ·rcases Ae bE with⟨bI,bE⟩|⟨bI,bE⟩
         ·refine Am f Z bI ?_
          refine Af ?_
          refine Ab f Z λa f=>Ab f Z λa f=>Ab f Z λa f=>Ab f Z λa f=> ?_
          have⟨bJ,bK,bE⟩:=bind_some bE
          refine A1 f Z call173 (Wk.C0 m bv bK) λbL bM bN w bO m bP a f=> ?_
          obtain⟨bQ,rfl,rfl,bR⟩:=bP
          refine Aa ?_
          rcases Ae bE with⟨bS,bE⟩|⟨bS,bE⟩
          ·refine Am f Z bS ?_
           refine As ?_
           obtain rfl:=sj bE
           obtain rfl:=sj am
           obtain rfl:=an _ rfl
           obtain rfl:=sj hd
           exact⟨[],trivial,f.d,_,[bQ],(gt ao (gt a2 (gt a9 (gt bu (gt bz (gt bC bO)))))),m,_,Z,bR⟩
          ·refine Aj f Z bS ?_
           refine An ?_
           obtain rfl:=sj bE
           exact⟨_,Z,_,Z,_,bQ,bO,f.k Z,m,bR⟩
         ·refine Aj f Z bI ?_
          refine An ?_
          obtain rfl:=sj bE
          exact⟨_,Z,_,Z,_,bj,gr,f.k Z,m,bv⟩
        ·rintro a w ⟨_,rfl,bF,rfl,bG,bH,bT,f,m,bU⟩
         refine Ag (Ag ?_)
         refine A9 17 AN (by kernel_rfl) m ?_
         refine Ah 0 17 Z f Z λa f=>q_p 1 17 Z f (λ_=>AR (f.e Z) (f.e Z) C4) λa f=>Ah 2 17 Z f Z λa f=> ?_
         have⟨bV,bW,am⟩:=bind_some am
         refine CM (fuel':=0) (listed':= #[true,true,true,true,true,true,true,true,true,true,true,true,true,true,true,true,true]) (λa=>Fr a 148 [(0,v0),(1,(iv ae)),(2,(iv af)),(3,(iv aP)),(4,(.func (.func 147) #[] #[])),(10,(.bool ah)),(11,(.bool ai)),(12,(iv (i64.wrap (af-ae)))),(13,(iv bg)),(81,(iv ae)),(82,(.bool (decide ((0:Int)<ae)))),(83,(.bool (decide ((0:Int)<ae)))),(97,(.bool bV))]) ?_ ?_
         ·intro a f
          refine AY λbX w bY m=> ?_
          have bU:=OwR.mono trivial bY bU
          refine Aa ?_
          rcases Ae am with⟨bZ,am⟩|⟨bZ,am⟩
          ·refine Am f Z bZ ?_
           refine Af ?_
           refine Ab f Z λa f=>Ab f Z λa f=>Ab f Z λa f=>Ab f Z λa f=>Ab f Z λa f=> ?_
           have⟨b0,b1,am⟩:=bind_some am
           refine A1 f Z call174 (Wk.z0 m bU b1) λb2 b3 b4 w b5 m b6 a f=> ?_
           obtain⟨b7,rfl,rfl,b8⟩:=b6
           refine Ac f Z λa f=>AC ?_
           refine Ab f Z λa f=>Ac f Z λa f=>Aa ?_
           refine AE Z ?_
           obtain rfl:=sj am
           exact⟨_,Z,_,_,_,_,_,_,Z,_,b7,(gt ao (gt a2 (gt a9 (gt bu (gt bz (gt bC (gt bT (gt bY b5)))))))),f.k Z,m,b8⟩
          ·refine Aj f Z bZ ?_
           refine An ?_
           refine Af ?_
           refine Ab f Z λa f=>Ab f Z λa f=>Ab f Z λa f=>Ab f Z λa f=>Ab f Z λa f=> ?_
           have⟨b9,ca,am⟩:=bind_some am
           refine A1 f Z call175 (Wk.A0 m bU ca) λcb cc cd w ce m cf a f=> ?_
           obtain⟨cg,rfl,rfl,ch⟩:=cf
           refine Ab f Z λa f=>l_o f (A3 (f.e Z) Z) λa f=>l_o f (A3 (f.e Z) Z) λa f=>Ac f Z λa f=>Ac f Z λa f=>AC ?_
           refine Ab f Z λa f=>Ac f Z λa f=>AC ?_
           refine Ab f Z λa f=>Ab f Z λa f=>Ai f Z Z AX λa f=>Ab f Z λa f=>Ab f Z λa f=>Ai f Z Z AX λa f=>Ac f Z λa f=>Ac f Z λa f=>AC ?_
           refine Ab f Z λa f=>Ai f Z Z (b_quo Z) λa f=>Ac f Z λa f=>AC ?_
           refine Ab f Z λa f=>Ab f Z λa f=>Ai f Z Z AI λa f=>Aa ?_
           rcases Ae am with⟨ci,am⟩|⟨ci,am⟩
           ·refine Am f Z ci ?_
            refine Af ?_
            refine Ab f Z λa f=>Ab f Z λa f=>Ai f Z Z Cb λa f=>Ac f Z λa f=>AC ?_
            refine Ab f Z λa f=>Ab f Z λa f=>Ab f Z λa f=>Ab f Z λa f=>Ab f Z λa f=> ?_
            have⟨cj,ck,am⟩:=bind_some am
            refine A1 f Z call160 (ih m ch ck) λcl cm cn w co m cp a f=> ?_
            obtain⟨cq,rfl,cr⟩:=cp
            refine Aa (Ao ?_)
            refine Ab f Z λa f=>Ai f Z Z Az λa f=>Ac f Z λa f=>Aa ?_
            obtain rfl:=sj am
            exact⟨_,Z,_,_,_,_,_,_,Z,_,cq,(gt ao (gt a2 (gt a9 (gt bu (gt bz (gt bC (gt bT (gt bY (gt ce co))))))))),f.k Z,m,cr⟩
           ·refine Aj f Z ci ?_
            refine Af ?_
            refine Ab f Z λa f=>Ab f Z λa f=>Ai f Z Z Cb λa f=>Ac f Z λa f=>AC ?_
            refine Ab f Z λa f=>Ab f Z λa f=>Ai f Z Z Az λa f=>Ab f Z λa f=>Ab f Z λa f=>Ab f Z λa f=> ?_
            have⟨cs,ct,am⟩:=bind_some am
            refine A1 f Z call160 (ih m ch ct) λcu cv cw w cx m cy a f=> ?_
            obtain⟨cz,rfl,cA⟩:=cy
            refine Aa (Ao ?_)
            refine Ab f Z λa f=>Ac f Z λa f=>Aa ?_
            obtain rfl:=sj am
            exact⟨_,Z,_,_,_,_,_,_,Z,_,cz,(gt ao (gt a2 (gt a9 (gt bu (gt bz (gt bC (gt bT (gt bY (gt ce cx))))))))),f.k Z,m,cA⟩
         ·intro cB
          rcases Ae bW with⟨cC,bW⟩|⟨cC,bW⟩
          ·refine Ah (hw:=wo f cC) 3 17 Z f Z λa f=> ?_
           refine Ah (hw:=wo f cC) 4 17 Z f Z λa f=>Ah (hw:=wo f cC) 5 17 Z f Z λa f=>q_p (hw:=wo f cC) 6 17 Z f (λ_=>AR (f.e Z) (f.e Z) AX) λa f=> ?_
           have⟨cD,cE,bW⟩:=bind_some bW
           refine Aq (i:=7) (listed':= #[true,true,true,true,true,true,true,true,false,false,false,false,false,false,false,false,false]) (C:=P2) 17 0 m bU Z AP cE Z (by kernel_rfl) Z f (AA f Z Z Z cC) Z Z Z λcF a cG f=>Ar (i:=8) (listed':= #[true,true,true,true,true,true,true,true,true,false,false,false,false,false,false,false,false]) (C:=P2) [(iv cD.1),(iv cD.2)] 17 0 bU Z A6 cG cE Z Z (by kernel_rfl) Z f (AA f Z Z Z cC) Z Z λa f=>Ah (hw:=wo f cC) 9 17 Z f Z λa f=>Ah (hw:=wo f cC) 10 17 Z f Z λa f=> ?_
           have⟨cH,cI,bW⟩:=bind_some bW
           refine Aq (i:=11) (listed':= #[true,true,true,true,true,true,true,true,true,true,true,true,false,false,false,false,false]) (C:=P2) 17 0 m bU Z AP cI Z (by kernel_rfl) Z f (AA f Z Z Z cC) Z Z Z λcJ a cK f=>Ar (i:=12) (listed':= #[true,true,true,true,true,true,true,true,true,true,true,true,true,false,false,false,false]) (C:=P2) [(iv cH.1),(iv cH.2)] 17 0 bU Z A6 cK cI Z Z (by kernel_rfl) Z f (AA f Z Z Z cC) Z Z λa f=> ?_
           have⟨cL,cM,bW⟩:=bind_some bW
           refine BQ (i:=13) 17 Z (by kernel_rfl) Z f (AA f Z Z Z cC) Z Z Z call147 (λ_ _ w cN m=>Wk.a m cM) λa f=>q_p (hw:=wo f cC) 14 17 Z f (λ_=>AR (f.e Z) (f.e Z) AI) λa f=>q_p (hw:=wo f cC) 15 17 Z f (λ_=>Bt (f.e Z)) λa f=>q_p 16 17 Z f (λ_=>A7 (f.e Z) cC (f.e Z)) λa f=> ?_
           obtain rfl:=sj bW
           exact cB _ (f.k Z)
          ·refine Au 3 17 Z f cC λa f=> ?_
           refine Au 4 17 Z f cC λa f=>Au 5 17 Z f cC λa f=>Au 6 17 Z f cC λa f=>Au 7 17 Z f cC λa f=>Au 8 17 Z f cC λa f=>Au 9 17 Z f cC λa f=>Au 10 17 Z f cC λa f=>Au 11 17 Z f cC λa f=>Au 12 17 Z f cC λa f=>Au 13 17 Z f cC λa f=>Au 14 17 Z f cC λa f=>Au 15 17 Z f cC λa f=>q_p 16 17 Z f (λ_=>A8 (f.e Z) cC (f.e Z)) λa f=> ?_
           obtain rfl:=sj bW
           exact cB _ (f.k Z)
theorem Wk.h {v0:Value}{it0:Itm}{x0:(List (Int×Int))}{x1 x2 x3:Int}(m:Mem W G w (it0::H))(o0:OwR P2 99 G it0 v0 x0){y:((List (Int×Int)))}(hd:D.h x0 x1 x2 x3=some y):
  Calls prog 160 #[v0,(iv x1),(iv x2),(iv x3),(.func (.func 147) #[] #[])] w (Res W G H (λG' Ho _=>∃i0:Itm,Ho=[i0]∧OwR P2 99 G' i0 v0 y)):=by
 exact Wk.x Cw m o0 hd
theorem Wk.Y {v0:Value}{it0:Itm}{x0:(List (Int×Int))}(m:Mem W G w (it0::H))(o0:OwR P2 99 G it0 v0 x0){y:((List (Int×Int)))}(hd:D.Y x0=some y):
  Calls prog 146 #[v0,(.func (.func 147) #[] #[])] w (Res W G H (λG' Ho _=>∃i0:Itm,Ho=[i0]∧OwR P2 99 G' i0 v0 y)):=by
 refine Ay (args:=[v0,(.func (.func 147) #[] #[])]) (N:=14) [] func146 Z Z (lb Z) Z λa f=> ?_
 unfold D.Y at hd
 refine Af ?_
 refine Ab f Z λa f=>D6 0 m o0 Z underlying107 f Z Z λa f=>Ac f Z λa f=>Aa (Ao ?_)
 refine Ab f Z λa f=>Ab f Z λa f=>Ab f Z λa f=>l_o f (r_conv (f.e Z) ⟨_,underlying3⟩ underlying111) λa f=> ?_
 have⟨aa,ab,hd⟩:=bind_some hd
 refine A1 f Z call161 (Wk.q m ab) λac ad ae w af m ag a f=> ?_
 obtain⟨rfl,rfl⟩:=ag
 have o0:=OwR.mono trivial af o0
 refine Ab f Z λa f=> ?_
 have⟨ah,ai,hd⟩:=bind_some hd
 refine A1 f Z call160 (Wk.h m o0 ai) λaj ak al w am m an a f=> ?_
 obtain⟨ao,rfl,ap⟩:=an
 refine Aa ?_
 obtain rfl:=sj hd
 exact⟨[],trivial,f.d,_,[ao],(gt af am),m,_,Z,ap⟩
theorem Wk.U {v0:Value}{x0:LI}{aa ab:Int}(hW:C9 W)(m:Mem W G w (H))(h0:RSl (RI .u32) G v0 x0){y:((List (Int×Int)))}(hd:D.U x0 aa ab=some y):
  Calls prog 110 #[v0,(.agg #[(iv aa),(iv ab)])] w (Res W G H (λG' Ho v=>∃r0:Value,∃i0:Itm,Ho=[i0]∧r0=v∧OwR P2 99 G' i0 r0 y)):=by
 refine Ay (args:=[v0,(.agg #[(iv aa),(iv ab)])]) (N:=72) [.tmp 4] func110 Z Z (lb Z) Z λa f=> ?_
 unfold D.U at hd
 refine Af ?_
 refine BO (cs:=[(iv aa),(iv ab)]) m f Z Z Z λac w a m f=>Ac f Z λa f=>AC ?_
 refine l_slitR0 (E:=P2) m AP f Z λad ae w a m af f=>Ac f Z λa f=>Aa (Ag (Ag ?_))
 refine A9 18 AN (by kernel_rfl) m ?_
 refine Ah 0 18 Z f Z λa f=>Dc 1 18 underlying99 Z sizeOf3 Z f Z λa f=>Cd 2 18 1 Pl3 Z Z Z f Z λa f=> ?_
 have⟨ag,ah,hd⟩:=bind_some hd
 refine BC 3 18 T60 h0 ah Z f Z Z λai aj a ak al f=> ?_
 subst al
 refine BB 4 18 Pl63 ak Z f Z λa f=>Ah 5 18 Z f Z λa f=>Dc 6 18 underlying99 Z sizeOf3 Z f Z λa f=>Cd 7 18 1 Pl3 Z Z Z f Z λa f=> ?_
 have⟨am,an,hd⟩:=bind_some hd
 refine BC 8 18 T60 h0 an Z f Z Z λao ap a aq ar f=> ?_
 subst ar
 refine BB 9 18 Pl63 aq Z f Z λa f=>q_p 10 18 Z f (λ_=>AR (f.e Z) (f.e Z) De) λa f=>Dc 11 18 underlying99 Z sizeOf3 Z f Z λa f=>Cd 12 18 1 Pl3 Z Z Z f Z λa f=> ?_
 have⟨au,av,hd⟩:=bind_some hd
 refine C2 (i:=13) 18 Z (by kernel_rfl) Z f Z Z Z call74 (λ_ _ w aw m=>Wk.b m av) λa f=>q_p 14 18 Z f (λ_=>AR (f.e Z) (f.e Z) De) λa f=>Ah 17 18 Z f Z λa f=>CG 15 Z λax w ay m az az=> ?_
 have h0:=rd1 ay h0
 have af:=OwR.mono trivial ay af
 have⟨aA,aB,hd⟩:=bind_some hd
 refine A1 f Z call54 (Wk.m hW m aB) λaC aD aE w aF m aG a f=> ?_
 obtain⟨aH,aI,rfl,rfl,aJ⟩:=aG
 have h0:=rd1 aF h0
 have af:=OwR.mono trivial aF af
 refine Aa ?_
 refine az aD [aI] _ _ aF m ?_
 refine q_own_len (i:=16) 18 0 m aJ Z underlying65 Z (by kernel_rfl) Z f Z Z Z λa f=>AY λaK w aL m=> ?_
 have h0:=rd1 aL h0
 have aJ:=od1 aL aJ
 have af:=OwR.mono trivial aL af
 refine Aa ?_
 have⟨aM,aN,hd⟩:=bind_some hd
 refine AL (λa w=>∃aO:List (Int×Int),aO=aM∧∃(aP:GH) (aQ:Value) (aR:Itm),GLe aK aP∧Fr a 72 [(0,v0),(3,(pb ac)),(5,aQ)]∧Mem W aP w (ib ac 99 [(iv aa),(iv ab)]::aR::H)∧OwR P2 99 aP aR aQ aO) ?_ ?_
 ·refine Ak ?_
  have m:=m.fr 1
  have m:=m.fr 2
  refine AK (λaS a w=>∃aT:List (Int×Int),∃aU:Int,(aT,aU)=aS∧∃(aV:GH) (aW:Value) (aX:Itm),GLe aK aV∧Fr a 72 [(0,v0),(3,(pb ac)),(5,aW),(26,aH),(27,(iv (aA.length:Int))),(28,(iv aU))]∧Mem W aV w (ib ac 99 [(iv aa),(iv ab)]::aX::aI::H)∧OwR P2 99 aV aX aW aT) aN ⟨_,_,Z,_,ae,ad,gr,f.k Z,m,af⟩ ?_
  clear aN f m
  rintro aS aY aZ a0 a w ⟨aT,aU,rfl,aV,aW,aX,a1,f,m,a2⟩
  have aJ:=od1 a1 aJ
  refine Af ?_
  refine Ai f Z Z AI λa f=>Aa (Ag ?_)
  rcases Ae aZ with⟨a3,aZ⟩|⟨a3,aZ⟩
  ·refine Am f Z a3 ?_
   refine An ?_
   refine Ag (Ak (Af ?_))
   have⟨a4,a5,aZ⟩:=bind_some aZ
   refine B1 2 m aJ Z T65 f Z Z Z a5 λa6 a a7 f=>CC 2 m aJ Z Pl3 f Z Z a7 a5 λa8 a a9 f=> ?_
   subst a9
   refine Ac f Z λa f=>Aa (Ao ?_)
   refine Ab f Z λa f=>Bk underlying99 Z sizeOf3 f Z λa f=>AO 0 0 m Pl3 f Z Z Z Z λa f=>Ab f Z λa f=> ?_
   have ba:∀w,(Instr.build 99 #[(0,(iv aa)),(1,(iv a4))]).run prog w= .ok (.agg #[(iv aa),(iv a4)]) w:=by intro w;simp[Instr.build,Instr.fill,Dk,C5,Cs,CH,Cg,Dm]
   refine DQ f Z Z ba λa f=>Dv (E:=P2) (y:=(aa,a4)) (cs:=[(iv aa),(iv a4)]) m AP f Z Z Z (lb Z) λbb bc w a m bd f=> ?_
   have⟨be,bf,aZ⟩:=bind_some aZ
   refine Et (E:=P2) (z:= .agg #[(iv 0),(iv 0)]) 2 0 m a2 Z bd Z (by simp) AP Z (by decide) f Z Z Z bf λbg bh w a m bi f=>Ac f Z λa f=>Aa (Ao ?_)
   refine Ai f Z Z Az λa f=>Ab f Z λa f=>Aa ?_
   have m:=m.fr 3
   have m:=m.fr 3
   have m:Mem W aV w (ib ac 99 [(iv aa),(iv ab)]::bg::aI::bb::H):=m.fr 3
   have m:=m.eraseAt 3
   obtain rfl:=sj aZ
   exact⟨_,Z,_,_,Z,_,bh,bg,a1,f.k Z,m,bi⟩
  ·refine Aj f Z a3 ?_
   refine AE Z ?_
   have m:=m.eraseAt 2
   obtain rfl:=sj aZ
   obtain rfl:=a0 _ rfl
   exact⟨_,Z,_,aW,aX,a1,f.k Z,m,a2⟩
 ·rintro a w ⟨aO,rfl,aP,aQ,aR,bj,f,m,bk⟩
  have h0:=rd1 bj h0
  refine Ag (Ag ?_)
  refine A9 18 AN (by kernel_rfl) m ?_
  refine Ah 0 18 Z f Z λa f=>Dc 1 18 underlying99 Z sizeOf3 Z f Z λa f=>Cd 2 18 0 Pl3 Z Z Z f Z λa f=> ?_
  have⟨bl,bm,hd⟩:=bind_some hd
  refine BC 3 18 T60 h0 bm Z f Z Z λbn bo a bp bq f=> ?_
  subst bq
  refine BB 4 18 Pl63 bp Z f Z λa f=>Ah 5 18 Z f Z λa f=>Dc 6 18 underlying99 Z sizeOf3 Z f Z λa f=>Cd 7 18 0 Pl3 Z Z Z f Z λa f=> ?_
  have⟨br,bs,hd⟩:=bind_some hd
  refine BC 8 18 T60 h0 bs Z f Z Z λbt bu a bv bw f=> ?_
  subst bw
  refine BB 9 18 Pl63 bv Z f Z λa f=>q_p 10 18 Z f (λ_=>AR (f.e Z) (f.e Z) De) λa f=>Dc 11 18 underlying99 Z sizeOf3 Z f Z λa f=>Cd 12 18 0 Pl3 Z Z Z f Z λa f=> ?_
  have⟨bx,bz,hd⟩:=bind_some hd
  refine C2 (i:=13) 18 Z (by kernel_rfl) Z f Z Z Z call74 (λ_ _ w bA m=>Wk.b m bz) λa f=>q_p 14 18 Z f (λ_=>AR (f.e Z) (f.e Z) De) λa f=>Ah 17 18 Z f Z λa f=>CG 15 Z λbB w bC m bD bD=> ?_
  have bk:=OwR.mono trivial bC bk
  have⟨bE,bF,hd⟩:=bind_some hd
  refine A1 f Z call54 (Wk.m hW m bF) λbG bH bI w bJ m bK a f=> ?_
  obtain⟨bL,bM,rfl,rfl,bN⟩:=bK
  have bk:=OwR.mono trivial bJ bk
  refine Aa ?_
  refine bD bH [bM] _ _ bJ m ?_
  refine q_own_len (i:=16) 18 0 m bN Z underlying65 Z (by kernel_rfl) Z f Z Z Z λa f=>AY λbO w bP m=> ?_
  have bN:=od1 bP bN
  have bk:=OwR.mono trivial bP bk
  refine Aa ?_
  have⟨bQ,bR,hd⟩:=bind_some hd
  refine AL (λa w=>∃bS:List (Int×Int),bS=bQ∧∃(bT:GH) (bU:Value) (bV:Itm),GLe bO bT∧Fr a 72 [(5,bU)]∧Mem W bT w (bV::H)∧OwR P2 99 bT bV bU bS) ?_ ?_
  ·refine Ak ?_
   have m:=m.fr 2
   have m:=m.fr 2
   refine AK (λbW a w=>∃bX:List (Int×Int),∃bY:Int,(bX,bY)=bW∧∃(bZ:GH) (b0:Value) (b1:Itm),GLe bO bZ∧Fr a 72 [(3,(pb ac)),(5,b0),(55,bL),(56,(iv (bE.length:Int))),(57,(iv bY))]∧Mem W bZ w (ib ac 99 [(iv aa),(iv ab)]::b1::bM::H)∧OwR P2 99 bZ b1 b0 bX) bR ⟨_,_,Z,_,aQ,aR,gr,f.k Z,m,bk⟩ ?_
   clear bR f m
   rintro bW b2 b3 b4 a w ⟨bX,bY,rfl,bZ,b0,b1,b5,f,m,b6⟩
   have bN:=od1 b5 bN
   refine Af ?_
   refine Ai f Z Z AI λa f=>Aa (Ag ?_)
   rcases Ae b3 with⟨b7,b3⟩|⟨b7,b3⟩
   ·refine Am f Z b7 ?_
    refine An ?_
    refine Ag (Ak (Af ?_))
    have⟨b8,b9,b3⟩:=bind_some b3
    refine B1 2 m bN Z T65 f Z Z Z b9 λca a cb f=>CC 2 m bN Z Pl3 f Z Z cb b9 λcc a cd f=> ?_
    subst cd
    refine Ac f Z λa f=>Aa (Ao ?_)
    refine Ab f Z λa f=>Ab f Z λa f=>Bk underlying99 Z sizeOf3 f Z λa f=>AO 0 1 m Pl3 f Z Z Z Z λa f=> ?_
    have ce:∀w,(Instr.build 99 #[(0,(iv b8)),(1,(iv ab))]).run prog w= .ok (.agg #[(iv b8),(iv ab)]) w:=by intro w;simp[Instr.build,Instr.fill,Dk,C5,Cs,CH,Cg,Dm]
    refine DQ f Z Z ce λa f=>Dv (E:=P2) (y:=(b8,ab)) (cs:=[(iv b8),(iv ab)]) m AP f Z Z Z (lb Z) λcf cg w a m ch f=> ?_
    have⟨ci,cj,b3⟩:=bind_some b3
    refine Et (E:=P2) (z:= .agg #[(iv 0),(iv 0)]) 2 0 m b6 Z ch Z (by simp) AP Z (by decide) f Z Z Z cj λck cl w a m cm f=>Ac f Z λa f=>Aa (Ao ?_)
    refine Ai f Z Z Az λa f=>Ab f Z λa f=>Aa ?_
    have m:=m.fr 3
    have m:=m.fr 3
    have m:Mem W bZ w (ib ac 99 [(iv aa),(iv ab)]::ck::bM::cf::H):=m.fr 3
    have m:=m.eraseAt 3
    obtain rfl:=sj b3
    exact⟨_,Z,_,_,Z,_,cl,ck,b5,f.k Z,m,cm⟩
   ·refine Aj f Z b7 ?_
    refine AE Z ?_
    have m:=m.fr 1
    have m:=m.eraseAt 2
    have m:=m.eraseAt 1
    obtain rfl:=sj b3
    obtain rfl:=b4 _ rfl
    exact⟨_,Z,_,b0,b1,b5,f.k Z,m,b6⟩
  ·rintro a w ⟨bS,rfl,bT,bU,bV,cn,f,m,co⟩
   refine Af ?_
   refine Ab f Z λa f=> ?_
   have⟨cp,cq,hd⟩:=bind_some hd
   refine A1 f Z call146 (Wk.Y m co cq) λcr ct cu w cv m cw a f=> ?_
   obtain⟨cx,rfl,cy⟩:=cw
   refine AC ?_
   refine Ab f Z λa f=>Ac f Z λa f=>Aa ?_
   refine As ?_
   obtain rfl:=sj hd
   exact⟨[bU],f.g Z,f.d,_,[cx],(gt ay (gt aF (gt aL (gt bj (gt bC (gt bJ (gt bP (gt cn cv)))))))),m,_,_,Z,Z,cy⟩
end Go.Proofs.YtmkcbhidbdggiaaDoor
