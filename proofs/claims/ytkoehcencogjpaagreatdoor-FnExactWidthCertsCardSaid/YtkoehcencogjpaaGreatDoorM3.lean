/- Parts. -/
import Derived.Test.YtkoehcencogjpaaGreatDoorM2
import Derived.Test.YtkoehcencogjpaaGreatDoorProg
import Derived.KernelRfl
set_option linter.unusedVariables false
set_option linter.unusedSimpArgs false
set_option maxRecDepth 100000
namespace Go.Proofs.YtkoehcencogjpaaGreatDoor
open Go Go.Sx
open Go.Proofs.Tryz Go.Proofs.YtkoehcencogjpaaGreatDoor.Tryz IntKind
variable {W w : World} {G : GH} {H : List Itm}
theorem Bb :B4 prog 22:=isAgg22
theorem Bj :Agg prog 31 1:=⟨isAgg31,sizeOf31⟩
theorem Pl4 :B4 prog 4:=isAgg4
theorem T85 :SlT prog 85 4 1 1 (.bool false):=⟨underlying85,Tryz.t4,by kernel_rfl,by kernel_rfl,by kernel_rfl,by kernel_rfl⟩
theorem Wk.y {v0:Value}{x0:LI}{x1:Int}(m:Mem W G w (H))(h0:R1 G v0 x0){y:Int}(hd:D.y x0 x1=some y):
  Calls prog 29 #[v0,(iv x1)] w (Res W G H (λ_ Ho v=>Ho=[]∧v=(iv y))):=by
 refine Ar (args:=[v0,(iv x1)]) (N:=12) [.tmp 4] func29 Z Z (lb Z) Z λa f=> ?_
 unfold D.y at hd
 refine Ae ?_
 refine Ac f Z λa f=>Ay ?_
 refine Ab f Z λa f=>Ab f Z λa f=>AO underlying26 f Z Z h0 λa f=>Ai f Z Z Bh λa f=>Ac f Z λa f=>Aa (Ag (Ae ?_))
 refine Ab f Z λa f=>Ai f Z Z AE λa f=>Aa ?_
 rcases Af hd with⟨aa,hd⟩|⟨aa,hd⟩
 ·refine Al f Z aa ?_
  refine Ae ?_
  refine Ac f Z λa f=>Aa ?_
  refine Aq ?_
  obtain rfl:=sj hd
  exact⟨[(iv (-1))],f.g Z,f.d,_,[],gr,m,Z,Z⟩
 ·refine Ah f Z aa ?_
  refine Am ?_
  refine Ae ?_
  refine Ab f Z λa f=>Ac f Z λa f=>Aa ?_
  refine Aq ?_
  obtain rfl:=sj hd
  exact⟨[(iv (i64.wrap (x1-(x0.length:Int))))],f.g Z,f.d,_,[],gr,m,Z,Z⟩
theorem Wk.z1 {v0:Value}{x0:LL}{x1:Int}(m:Mem W G w (H))(h0:R2 G v0 x0){y:Int}(hd:D.z1 x0 x1=some y):
  Calls prog 13 #[v0,(iv x1)] w (Res W G H (λ_ Ho v=>Ho=[]∧v=(iv y))):=by
 refine Ar (args:=[v0,(iv x1)]) (N:=27) [.tmp 4] func13 Z Z (lb Z) Z λa f=> ?_
 unfold D.z1 at hd
 refine Ae ?_
 refine Ac f Z λa f=>Ay ?_
 refine Ab f Z λa f=>Ab f Z λa f=>AO underlying22 f Z Z h0 λa f=>Ai f Z Z Bh λa f=>Ac f Z λa f=>Aa (Ag (Ae ?_))
 refine Ab f Z λa f=>Ai f Z Z AE λa f=>Aa ?_
 rcases Af hd with⟨aa,hd⟩|⟨aa,hd⟩
 ·refine Al f Z aa ?_
  refine Ae ?_
  refine Ac f Z λa f=>Aa ?_
  refine Aq ?_
  obtain rfl:=sj hd
  exact⟨[(iv (-1))],f.g Z,f.d,_,[],gr,m,Z,Z⟩
 ·refine Ah f Z aa ?_
  refine Am ?_
  refine Ag (Ae ?_)
  refine Ac f Z λa f=>Aa ?_
  have⟨ab,ac,hd⟩:=bind_some hd
  refine AH (λa w=>∃q_35':Int,ab= .inl q_35'∧∃ad:Int,ad=q_35'∧∃(ae:GH),GLe G ae∧Fr a 27 [(1,(iv ad))]∧Mem W ae w (H)) ?_ ?_
  ·refine Ak ?_
   refine AC (λaf a w=>∃ag:Int,∃ah:Int,(ag,ah)=af∧∃(ai:GH),GLe G ai∧Fr a 27 [(0,v0),(1,(iv ag)),(5,(iv ah))]∧Mem W ai w (H)) ac ⟨_,_,Z,_,gr,f.k Z,m⟩ ?_
   clear ac f m
   rintro af aj ak al a w ⟨ag,ah,rfl,ai,am,f,m⟩
   have h0:=rd2 am h0
   refine Ag (Ae ?_)
   refine Ab f Z λa f=>Ab f Z λa f=>AO underlying22 f Z Z h0 λa f=>Ai f Z Z AE λa f=>Aa ?_
   rcases Af ak with⟨an,ak⟩|⟨an,ak⟩
   ·refine Al f Z an ?_
    refine Am ?_
    refine Ag (Ak (Ae ?_))
    refine Ab f Z λa f=>Ab f Z λa f=> ?_
    have⟨ao,ap,ak⟩:=bind_some ak
    refine A2 T22 f Z Z Z h0 ap λaq ar a au av f=>Ax m AT f Z Z au λa f=>Ab f Z λa f=> ?_
    have⟨aw,ax,ak⟩:=bind_some ak
    refine A6 f Z call29 (Wk.y m av ax) λay w az m a f=>Ac f Z λa f=>Ay ?_
    refine Ab f Z λa f=>Ai f Z Z AE λa f=>Aa ?_
    rcases Af ak with⟨aA,ak⟩|⟨aA,ak⟩
    ·refine Al f Z aA ?_
     refine Ae ?_
     refine Ac f Z λa f=>Aa ?_
     refine Aq ?_
     obtain rfl:=sj ak
     obtain rfl:=al _ rfl
     obtain rfl:=sj hd
     exact⟨[(iv (-1))],f.g Z,f.d,_,[],(gt am az),m,Z,Z⟩
    ·refine Ah f Z aA ?_
     refine Am ?_
     refine Aj ?_
     refine Ab f Z λa f=>Ai f Z Z Aw λa f=>Ac f Z λa f=>Aa ?_
     obtain rfl:=sj ak
     exact⟨_,Z,_,_,Z,_,(gt am az),f.k Z,m⟩
   ·refine Ah f Z an ?_
    refine AA Z ?_
    obtain rfl:=sj ak
    obtain rfl:=al _ rfl
    exact⟨_,Z,_,Z,_,am,f.k Z,m⟩
  ·rintro a w ⟨_,rfl,ad,rfl,ae,aB,f,m⟩
   refine Ae ?_
   refine Ab f Z λa f=>Ac f Z λa f=>Aa ?_
   refine Aq ?_
   obtain rfl:=sj hd
   exact⟨[(iv ad)],f.g Z,f.d,_,[],aB,m,Z,Z⟩
theorem Wk.o1 {aa:Value}{ab:LL}{x1:Int}(m:Mem W G w (H))(ac:R2 G aa ab){y:Int}(hd:D.o1 ab x1=some y):
  Calls prog 4 #[(.agg #[aa]),(iv x1)] w (Res W G H (λ_ Ho v=>Ho=[]∧v=(iv y))):=by
 refine Ar (args:=[(.agg #[aa]),(iv x1)]) (N:=12) [.tmp 4] func4 Z Z (lb Z) Z λa f=> ?_
 unfold D.o1 at hd
 refine Ae ?_
 refine Bi (cs:=[aa]) m f Z Z Z λad w a m f=>Ac f Z λa f=>Ay ?_
 refine Bu underlying24 Z sizeOf22 f Z λa f=>AJ 0 0 m Bb f Z Z Z Z λa f=>Ab f Z λa f=> ?_
 have⟨ae,af,hd⟩:=bind_some hd
 refine A6 f Z call13 (Wk.z1 m ac af) λag w ah m a f=>Ac f Z λa f=>Aa (Ag (Ae ?_))
 refine Ab f Z λa f=>Ai f Z Z AE λa f=>Aa ?_
 rcases Af hd with⟨ai,hd⟩|⟨ai,hd⟩
 ·refine Al f Z ai ?_
  refine Ae ?_
  refine Ac f Z λa f=>Aa ?_
  refine Aq ?_
  have m:Mem W ag w H:=Mem.drop (H':=[ib ad 24 [aa]]) m
  obtain rfl:=sj hd
  exact⟨[(iv (-1))],f.g Z,f.d,_,[],ah,m,Z,Z⟩
 ·refine Ah f Z ai ?_
  refine Am ?_
  refine Ae ?_
  refine Ab f Z λa f=>Ac f Z λa f=>Aa ?_
  refine Aq ?_
  have m:Mem W ag w H:=Mem.drop (H':=[ib ad 24 [aa]]) m
  obtain rfl:=sj hd
  exact⟨[(iv ae)],f.g Z,f.d,_,[],ah,m,Z,Z⟩
theorem Wk.z {v0:Value}{x0:LI}(m:Mem W G w (H))(h0:R1 G v0 x0){y:(LI)}(hd:D.z x0=some y):
  Calls prog 44 #[v0] w (Res W G H (λG' Ho v=>∃r0:Value,∃i0:Itm,Ho=[i0]∧r0=v∧Ow R0 2 G' i0 r0 y)):=by
 refine Ar (args:=[v0]) (N:=22) [.tmp 2] func44 Z Z (lb Z) Z λa f=> ?_
 unfold D.z at hd
 refine Ae ?_
 refine Ac f Z λa f=>Ay ?_
 refine Ab f Z λa f=>AO underlying26 f Z Z h0 λa f=> ?_
 have⟨aa,ab,hd⟩:=bind_some hd
 refine CU (R:=R0) m T26 Z (by decide) Z f Z Z Z ab λac ad w a m ae f=>Ac f Z λa f=>Aa (Ag (Ae ?_))
 refine Ac f Z λa f=>Aa ?_
 have⟨af,ag,hd⟩:=bind_some hd
 refine AH (λa w=>∃ah:LI,ah=af∧∃(ai:GH) (aj:Itm),GLe G ai∧Fr a 22 [(3,ad)]∧Mem W ai w (aj::H)∧Ow R0 2 ai aj ad ah) ?_ ?_
 ·refine Ak ?_
  refine AC (λak a w=>∃al:LI,∃am:Int,(al,am)=ak∧∃(an:GH) (ao:Itm),GLe G an∧Fr a 22 [(0,v0),(3,ad),(4,(iv am))]∧Mem W an w (ao::H)∧Ow R0 2 an ao ad al) ag ⟨_,_,Z,_,ac,gr,f.k Z,m,ae⟩ ?_
  clear ag f m
  rintro ak ap aq ar a w ⟨al,am,rfl,an,ao,au,f,m,av⟩
  have h0:=rd1 au h0
  refine Ag (Ae ?_)
  refine Ab f Z λa f=>Ab f Z λa f=>AO underlying26 f Z Z h0 λa f=>Ai f Z Z AE λa f=>Aa ?_
  rcases Af aq with⟨aw,aq⟩|⟨aw,aq⟩
  ·refine Al f Z aw ?_
   refine Am ?_
   refine Ag (Ak (Aj ?_))
   refine Ab f Z λa f=>Ab f Z λa f=>Ab f Z λa f=>Ab f Z λa f=> ?_
   have⟨ax,ay,aq⟩:=bind_some aq
   refine A2 T26 f Z Z Z h0 ay λaz aA a aB aC f=> ?_
   subst aC
   refine Ax m Pl2 f Z Z aB λa f=> ?_
   have⟨aD,aE,aq⟩:=bind_some aq
   refine AZ 0 m av Z T26 f Z Z Z aE λaF a aG f=>AQ 0 m av Z sizeOf2 f Z Z aG aE Z Z Z λaH w m aI=>Aa (Aj ?_)
   refine Ab f Z λa f=>Ai f Z Z Aw λa f=>Ac f Z λa f=>Aa ?_
   obtain rfl:=sj aq
   exact⟨_,Z,_,_,Z,_,aH,au,f.k Z,m,aI⟩
  ·refine Ah f Z aw ?_
   refine AA Z ?_
   obtain rfl:=sj aq
   obtain rfl:=ar _ rfl
   exact⟨_,Z,_,ao,au,f.k Z,m,av⟩
 ·rintro a w ⟨ah,rfl,ai,aj,aJ,f,m,aK⟩
  refine Ae ?_
  refine Ab f Z λa f=>Ac f Z λa f=>Aa ?_
  refine Aq ?_
  obtain rfl:=sj hd
  exact⟨[ad],f.g Z,f.d,_,[aj],aJ,m,_,_,Z,Z,aK⟩
theorem Wk.E1 {v0:Value}{x0:LL}(m:Mem W G w (H))(h0:R2 G v0 x0){y:(LL)}(hd:D.E1 x0=some y):
  Calls prog 18 #[v0] w (Res W G H (λG' Ho v=>∃r0:Value,∃i0:Itm,Ho=[i0]∧r0=v∧Ow2 R0 26 2 G' i0 r0 y)):=by
 refine Ar (args:=[v0]) (N:=23) [.tmp 2] func18 Z Z (lb Z) Z λa f=> ?_
 unfold D.E1 at hd
 refine Ae ?_
 refine Ac f Z λa f=>Ay ?_
 refine Ab f Z λa f=>AO underlying22 f Z Z h0 λa f=> ?_
 have⟨aa,ab,hd⟩:=bind_some hd
 refine l_make2 (R:=R0) (t2:=2) m T22 (by decide) f Z Z Z ab λac ad w a m ae f=>Ac f Z λa f=>Aa (Ag (Ae ?_))
 refine Ac f Z λa f=>Aa ?_
 have⟨af,ag,hd⟩:=bind_some hd
 refine AH (λa w=>∃ah:LL,ah=af∧∃(ai:GH) (aj:Itm),GLe G ai∧Fr a 23 [(3,ad)]∧Mem W ai w (aj::H)∧Ow2 R0 26 2 ai aj ad ah) ?_ ?_
 ·refine Ak ?_
  refine AC (λak a w=>∃al:LL,∃am:Int,(al,am)=ak∧∃(an:GH) (ao:Itm),GLe G an∧Fr a 23 [(0,v0),(3,ad),(4,(iv am))]∧Mem W an w (ao::H)∧Ow2 R0 26 2 an ao ad al) ag ⟨_,_,Z,_,ac,gr,f.k Z,m,ae⟩ ?_
  clear ag f m
  rintro ak ap aq ar a w ⟨al,am,rfl,an,ao,au,f,m,av⟩
  have h0:=rd2 au h0
  refine Ag (Ae ?_)
  refine Ab f Z λa f=>Ab f Z λa f=>AO underlying22 f Z Z h0 λa f=>Ai f Z Z AE λa f=>Aa ?_
  rcases Af aq with⟨aw,aq⟩|⟨aw,aq⟩
  ·refine Al f Z aw ?_
   refine Am ?_
   refine Ag (Ak (Aj ?_))
   refine Ab f Z λa f=>Ab f Z λa f=>Ab f Z λa f=>Ab f Z λa f=> ?_
   have⟨ax,ay,aq⟩:=bind_some aq
   refine A2 T22 f Z Z Z h0 ay λaz aA a aB aC f=>Ax m AT f Z Z aB λa f=> ?_
   have⟨aD,aE,aq⟩:=bind_some aq
   refine AL f Z call44 (Wk.z m aC aE) λaF aG aH w aI m aJ a f=> ?_
   obtain⟨aK,aL,rfl,rfl,aM⟩:=aJ
   have av:=od2 aI av
   have⟨aN,aO,aq⟩:=bind_some aq
   refine l_own2_at 1 m av Z T22 f Z Z Z aO λaP a aQ f=> ?_
   have m:=m.fr 1
   refine l_own2_store m av aM sizeOf26 f Z Z aQ aO λaR w m aS=>Aa (Aj ?_)
   refine Ab f Z λa f=>Ai f Z Z Aw λa f=>Ac f Z λa f=>Aa ?_
   obtain rfl:=sj aq
   exact⟨_,Z,_,_,Z,_,aR,(gt au aI),f.k Z,m,aS⟩
  ·refine Ah f Z aw ?_
   refine AA Z ?_
   obtain rfl:=sj aq
   obtain rfl:=ar _ rfl
   exact⟨_,Z,_,ao,au,f.k Z,m,av⟩
 ·rintro a w ⟨ah,rfl,ai,aj,aT,f,m,aU⟩
  refine Ae ?_
  refine Ab f Z λa f=>Ac f Z λa f=>Aa ?_
  refine Aq ?_
  obtain rfl:=sj hd
  exact⟨[ad],f.g Z,f.d,_,[aj],aT,m,_,_,Z,Z,aU⟩
theorem Wk.F {aa:Value}{ab:LL}(m:Mem W G w (H))(ac:R2 G aa ab){y:(LL)}(hd:D.F ab=some y):
  Calls prog 6 #[(.agg #[aa])] w (Res W G H (λG' Ho v=>∃r0:Value,∃i0:Itm,Ho=[i0]∧v=(.agg #[r0])∧Ow2 R0 26 2 G' i0 r0 y)):=by
 refine Ar (args:=[(.agg #[aa])]) (N:=9) [.cell 2 31] func6 Z Z (lb Z) Z λa f=> ?_
 unfold D.F at hd
 refine Ae ?_
 refine Bi (cs:=[aa]) m f Z Z Z λad w a m f=>Bm (cs:=[sn]) zeroValue31 m f Z Z λae w a m f=>Ay ?_
 refine Bm (cs:=[sn]) zeroValue31 m f Z Z λaf w a m f=>Ay ?_
 refine Bu underlying24 Z sizeOf22 f Z λa f=>AJ 2 0 m Bb f Z Z Z Z λa f=> ?_
 have⟨ag,ah,hd⟩:=bind_some hd
 refine AL f Z call18 (Wk.E1 m ac ah) λai aj ak w al m am a f=> ?_
 obtain⟨an,ao,rfl,rfl,ap⟩:=am
 refine Bu underlying31 Z sizeOf22 f Z λa f=>Az 1 0 (ds:=[an]) m sizeOf22 f Z Z (Ow2.cells 0 m ap Z) (An (Ow2.one1 0 m ap Z) AK) Z (lb Z) Z λw m=>Ay ?_
 refine AB 1 0 (ds:=[an]) m Bj f Z Z Z Z Z λa f=>Az 2 0 (ds:=[an]) m sizeOf31 f Z Z Z (An (Ow2.one1 0 m ap Z) AK) Z (lb Z) Z λw m=>Aa ?_
 refine Aq ?_
 have aq:=BY (P:=prog) 2 m Bj f (s:=2) rfl rfl rfl
 have m:=m.eraseAt 3
 have m:=m.eraseAt 2
 have m:=m.eraseAt 1
 obtain rfl:=sj hd
 exact⟨[(.agg #[an])],⟨aq,trivial⟩,f.d,_,[ao],al,m,_,_,Z,Z,ap⟩
theorem Wk.a {aa:Value}{ab:LL}(m:Mem W G w (H))(ac:R2 G aa ab){y:Int}(hd:D.a ab=some y):
  Calls prog 31 #[(.agg #[aa])] w (Res W G H (λ_ Ho v=>Ho=[]∧v=(iv y))):=by
 refine Ar (args:=[(.agg #[aa])]) (N:=6) [.tmp 2] func31 Z Z (lb Z) Z λa f=> ?_
 unfold D.a at hd
 refine Ae ?_
 refine Bi (cs:=[aa]) m f Z Z Z λad w a m f=>Ac f Z λa f=>Ay ?_
 refine Bu underlying31 Z sizeOf22 f Z λa f=>AJ 0 0 m Bb f Z Z Z Z λa f=>AO underlying22 f Z Z ac λa f=>Ac f Z λa f=>Aa ?_
 refine Aq ?_
 have m:Mem W G w H:=Mem.drop (H':=[ib ad 31 [aa]]) m
 obtain rfl:=sj hd
 exact⟨[(iv (ab.length:Int))],f.g Z,f.d,_,[],gr,m,Z,Z⟩
theorem Wk.d {x0 x1 x2:Int}(m:Mem W G w (H)){y:Bool}(hd:D.d x0 x1 x2=some y):
  Calls prog 61 #[(iv x0),(iv x1),(iv x2)] w (Res W G H (λ_ Ho v=>Ho=[]∧v=(.bool y))):=by
 refine Ar (args:=[(iv x0),(iv x1),(iv x2)]) (N:=15) [.tmp 6] func61 Z Z (lb Z) Z λa f=> ?_
 unfold D.d at hd
 refine Ae ?_
 refine Ac f Z λa f=>Ay ?_
 refine Ab f Z λa f=>Ab f Z λa f=>Ai f Z Z Cs λa f=>Ab f Z λa f=> ?_
 refine BH 4 (λa w=>∃aa,GLe G aa∧Mem W aa w (H)∧Fr a 15 [(0,(iv x0)),(1,(iv x1)),(2,(iv x2)),(7,(iv x0)),(8,(iv x1)),(9,(.bool (decide (x1≤x0)))),(10,(.bool (decide (x1≤x0)))),(14,(.bool ((decide (x1≤x0))&&(decide (x0≤x2)))))]) ?_ ?_
 ·rcases Bool.eq_false_or_eq_true (decide (x1≤x0)) with ab|ab
  ·refine AF f ab ?_
   refine Ab f Z λa f=>AF f ab ?_
   refine Ab f Z λa f=>AF f ab ?_
   refine Ai f Z Z CD λa f=>l_o f (A4 (f.e Z) ab (f.e Z)) λa f=> ?_
   exact⟨_,gr,m,f.weak ⟨Z,Z,Z,Z,Z,Z,Z,by rw[ab];rfl,trivial⟩⟩
  ·refine AG f ab λa f=> ?_
   refine AG f ab λa f=>AG f ab λa f=>l_o f (A5 (f.e Z) ab (f.e Z)) λa f=> ?_
   exact⟨_,gr,m,f.weak ⟨Z,Z,Z,Z,Z,Z,Z,by rw[ab];rfl,trivial⟩⟩
 ·rintro a w ⟨aa,ac,m,f⟩
  refine Ac f Z λa f=>Aa ?_
  refine Aq ?_
  obtain rfl:=sj hd
  exact⟨[(.bool ((decide (x1≤x0))&&(decide (x0≤x2))))],f.g Z,f.d,_,[],ac,m,Z,Z⟩
theorem Wk.J {v0:Value}{x0:LI}{x1:Int}(m:Mem W G w (H))(h0:R1 G v0 x0){y:Bool}(hd:D.J x0 x1=some y):
  Calls prog 62 #[v0,(iv x1)] w (Res W G H (λ_ Ho v=>Ho=[]∧v=(.bool y))):=by
 refine Ar (args:=[v0,(iv x1)]) (N:=40) [.tmp 4] func62 Z Z (lb Z) Z λa f=> ?_
 unfold D.J at hd
 refine Ae ?_
 refine Ac f Z λa f=>Aa (Ag (Ae ?_))
 refine Ab f Z λa f=>AO underlying26 f Z Z h0 λa f=>Ab f Z λa f=>Ai f Z Z Cf λa f=>Aa ?_
 rcases Af hd with⟨aa,hd⟩|⟨aa,hd⟩
 ·refine Al f Z aa ?_
  refine Ae ?_
  refine Ac f Z λa f=>Aa ?_
  refine Aq ?_
  obtain rfl:=sj hd
  exact⟨[(.bool false)],f.g Z,f.d,_,[],gr,m,Z,Z⟩
 ·refine Ah f Z aa ?_
  refine Am ?_
  refine Ag (Ae ?_)
  refine Ac f Z λa f=>Aa ?_
  have⟨ab,ac,hd⟩:=bind_some hd
  refine AH (λa w=>∃q_150':Unit,ab= .inl q_150'∧∃(ad:GH),GLe G ad∧Fr a 40 []∧Mem W ad w (H)) ?_ ?_
  ·refine Ak ?_
   refine AC (λae a w=>∃af:Int,af=ae∧∃(ag:GH),GLe G ag∧Fr a 40 [(0,v0),(1,(iv x1)),(5,(iv af))]∧Mem W ag w (H)) ac ⟨_,Z,_,gr,f.k Z,m⟩ ?_
   clear ac f m
   rintro ae ah ai aj a w ⟨af,rfl,ag,ak,f,m⟩
   have h0:=rd1 ak h0
   refine Ag (Ae ?_)
   refine Ab f Z λa f=>Ab f Z λa f=>AO underlying26 f Z Z h0 λa f=>Ai f Z Z AE λa f=>Aa ?_
   rcases Af ai with⟨al,ai⟩|⟨al,ai⟩
   ·refine Al f Z al ?_
    refine Am ?_
    refine Ag (Ak (Ag ?_))
    refine A3 24 AM (by kernel_rfl) m ?_
    refine Ao 0 24 Z f Z λa f=>Ao 1 24 Z f Z λa f=> ?_
    have⟨am,an,ai⟩:=bind_some ai
    refine BJ 2 24 T26 h0 an Z f Z Z λao ap a aq ar f=> ?_
    subst ar
    refine BI 3 24 Pl2 aq Z f Z λa f=>Ao 4 24 Z f Z λa f=>q_p 5 24 Z f (λ_=>AV (f.e Z) (f.e Z) Bh) λa f=> ?_
    have⟨au,av,ai⟩:=bind_some ai
    refine BX (i:=6) 24 Z (by kernel_rfl) Z f Z Z Z call61 (λ_ _ w aw m=>Wk.d m av) λa f=>q_p 7 24 Z f (λ_=>Bv (f.e Z)) λa f=>Ao 8 24 Z f Z λa f=> ?_
    have⟨ax,ay,ai⟩:=bind_some ai
    refine CS (fuel':=0) (listed':= #[true,true,true,true,true,true,true,true,true,true,true,true,true,true,true,true,true,true,true,true,true,true,true,true]) (λa=>Fr a 40 [(0,v0),(1,(iv x1)),(5,(iv af)),(13,(.bool (decide (af<(x0.length:Int))))),(16,v0),(17,(iv af)),(18,ao),(19,(iv am)),(20,(iv x1)),(21,(iv (i64.wrap (x1-1)))),(22,(.bool au)),(23,(.bool (!au))),(24,(.bool (!au))),(39,(.bool ax))]) ?_ ?_
    ·intro a f
     refine AU λaz w aA m=>Aa ?_
     rcases Af ai with⟨aB,ai⟩|⟨aB,ai⟩
     ·refine Al f Z aB ?_
      refine Ae ?_
      refine Ac f Z λa f=>Aa ?_
      refine Aq ?_
      obtain rfl:=sj ai
      obtain rfl:=aj _ rfl
      obtain rfl:=sj hd
      exact⟨[(.bool false)],f.g Z,f.d,_,[],(gt ak aA),m,Z,Z⟩
     ·refine Ah f Z aB ?_
      refine Am ?_
      refine Aj ?_
      refine Ab f Z λa f=>Ai f Z Z Aw λa f=>Ac f Z λa f=>Aa ?_
      obtain rfl:=sj ai
      exact⟨_,Z,_,Z,_,(gt ak aA),f.k Z,m⟩
    ·intro aC
     rcases Af ay with⟨aD,ay⟩|⟨aD,ay⟩
     ·refine AI 9 24 Z f aD λa f=> ?_
      refine AI 10 24 Z f aD λa f=>AI 11 24 Z f aD λa f=>q_nu 12 24 Z f λa f=>q_nu 13 24 Z f λa f=>q_nu 14 24 Z f λa f=>q_nu 15 24 Z f λa f=>q_nu 16 24 Z f λa f=>q_nu 17 24 Z f λa f=>q_nu 18 24 Z f λa f=>q_nu 19 24 Z f λa f=>q_nu 20 24 Z f λa f=>q_nu 21 24 Z f λa f=>AI 22 24 Z f aD λa f=>q_p 23 24 Z f (λ_=>A4 (f.e Z) aD (f.e Z)) λa f=> ?_
      obtain rfl:=sj ay
      exact aC _ (f.k Z)
     ·refine Ao (hw:=wo f aD) 9 24 Z f Z λa f=> ?_
      refine q_p (hw:=wo f aD) 10 24 Z f (λ_=>AV (f.e Z) (f.e Z) Cf) λa f=>Ao (hw:=wo f aD) 11 24 Z f Z λa f=> ?_
      have⟨aE,aF,ay⟩:=bind_some ay
      refine CS (fuel':=1) (listed':= #[true,true,true,true,true,true,true,true,true,true,true,true,true,true,true,true,true,true,true,true,true,true,true,false]) (λa=>Fr a 40 [(0,v0),(1,(iv x1)),(5,(iv af)),(13,(.bool (decide (af<(x0.length:Int))))),(16,v0),(17,(iv af)),(18,ao),(19,(iv am)),(20,(iv x1)),(21,(iv (i64.wrap (x1-1)))),(22,(.bool au)),(23,(.bool (!au))),(24,(.bool (!au))),(25,(iv af)),(26,(.bool (decide ((0:Int)<af)))),(27,(.bool (decide ((0:Int)<af)))),(38,(.bool aE))]) ?_ ?_
      ·intro a f
       refine q_p 23 24 Z f (λ_=>A5 (f.e Z) aD (f.e Z)) λa f=> ?_
       obtain rfl:=sj ay
       exact aC _ (f.k Z)
      ·intro aG
       rcases Af aF with⟨aH,aF⟩|⟨aH,aF⟩
       ·refine Ao (hw:=wo f aH) 12 24 Z f Z λa f=> ?_
        refine Ao (hw:=wo f aH) 13 24 Z f Z λa f=> ?_
        have⟨aI,aJ,aF⟩:=bind_some aF
        refine BJ (hw:=wo f aH) 14 24 T26 h0 aJ Z f Z Z λaK aL a aM aN f=> ?_
        subst aN
        refine BI (hw:=wo f aH) 15 24 Pl2 aM Z f Z λa f=>Ao (hw:=wo f aH) 16 24 Z f Z λa f=>Ao (hw:=wo f aH) 17 24 Z f Z λa f=>q_p (hw:=wo f aH) 18 24 Z f (λ_=>AV (f.e Z) (f.e Z) Bh) λa f=> ?_
        have⟨aO,aP,aF⟩:=bind_some aF
        refine BJ (hw:=wo f aH) 19 24 T26 h0 aP Z f Z Z λaQ aR a aS aT f=> ?_
        subst aT
        refine BI (hw:=wo f aH) 20 24 Pl2 aS Z f Z λa f=>q_p (hw:=wo f aH) 21 24 Z f (λ_=>AV (f.e Z) (f.e Z) CD) λa f=>q_p (hw:=wo f aD) 22 24 Z f (λ_=>A4 (f.e Z) aH (f.e Z)) λa f=> ?_
        obtain rfl:=sj aF
        exact aG _ (f.k Z)
       ·refine AI 12 24 Z f aH λa f=> ?_
        refine AI 13 24 Z f aH λa f=>AI 14 24 Z f aH λa f=>AI 15 24 Z f aH λa f=>AI 16 24 Z f aH λa f=>AI 17 24 Z f aH λa f=>AI 18 24 Z f aH λa f=>AI 19 24 Z f aH λa f=>AI 20 24 Z f aH λa f=>AI 21 24 Z f aH λa f=>q_p (hw:=wo f aD) 22 24 Z f (λ_=>A5 (f.e Z) aH (f.e Z)) λa f=> ?_
        obtain rfl:=sj aF
        exact aG _ (f.k Z)
   ·refine Ah f Z al ?_
    refine AA Z ?_
    obtain rfl:=sj ai
    obtain rfl:=aj _ rfl
    exact⟨_,Z,_,ak,f.weak trivial,m⟩
  ·rintro a w ⟨_,rfl,ad,aU,f,m⟩
   refine Ae ?_
   refine Ac f Z λa f=>Aa ?_
   refine Aq ?_
   obtain rfl:=sj hd
   exact⟨[(.bool true)],f.g Z,f.d,_,[],aU,m,Z,Z⟩
theorem Wk.c {v0:Value}{x0:LI}{x1:Int}(m:Mem W G w (H))(h0:R1 G v0 x0){y:Bool}(hd:D.c x0 x1=some y):
  Calls prog 39 #[v0,(iv x1)] w (Res W G H (λ_ Ho v=>Ho=[]∧v=(.bool y))):=by
 refine Ar (args:=[v0,(iv x1)]) (N:=18) [.tmp 4] func39 Z Z (lb Z) Z λa f=> ?_
 unfold D.c at hd
 refine Ae ?_
 refine Ac f Z λa f=>Aa (Ag (Ae ?_))
 refine Ac f Z λa f=>Aa ?_
 have⟨aa,ab,hd⟩:=bind_some hd
 refine AH (λa w=>∃q_19':Unit,aa= .inl q_19'∧∃(ac:GH),GLe G ac∧Fr a 18 []∧Mem W ac w (H)) ?_ ?_
 ·refine Ak ?_
  refine AC (λad a w=>∃ae:Int,ae=ad∧∃(af:GH),GLe G af∧Fr a 18 [(0,v0),(1,(iv x1)),(5,(iv ae))]∧Mem W af w (H)) ab ⟨_,Z,_,gr,f.k Z,m⟩ ?_
  clear ab f m
  rintro ad ag ah ai a w ⟨ae,rfl,af,aj,f,m⟩
  have h0:=rd1 aj h0
  refine Ag (Ae ?_)
  refine Ab f Z λa f=>Ab f Z λa f=>AO underlying26 f Z Z h0 λa f=>Ai f Z Z AE λa f=>Aa ?_
  rcases Af ah with⟨ak,ah⟩|⟨ak,ah⟩
  ·refine Al f Z ak ?_
   refine Am ?_
   refine Ag (Ak (Ae ?_))
   refine Ab f Z λa f=>Ab f Z λa f=> ?_
   have⟨al,am,ah⟩:=bind_some ah
   refine A2 T26 f Z Z Z h0 am λan ao a ap aq f=> ?_
   subst aq
   refine Ax m Pl2 f Z Z ap λa f=>Ab f Z λa f=>Ai f Z Z BS λa f=>Aa ?_
   rcases Af ah with⟨ar,ah⟩|⟨ar,ah⟩
   ·refine Al f Z ar ?_
    refine Ae ?_
    refine Ac f Z λa f=>Aa ?_
    refine Aq ?_
    obtain rfl:=sj ah
    obtain rfl:=ai _ rfl
    obtain rfl:=sj hd
    exact⟨[(.bool true)],f.g Z,f.d,_,[],aj,m,Z,Z⟩
   ·refine Ah f Z ar ?_
    refine Am ?_
    refine Aj ?_
    refine Ab f Z λa f=>Ai f Z Z Aw λa f=>Ac f Z λa f=>Aa ?_
    obtain rfl:=sj ah
    exact⟨_,Z,_,Z,_,aj,f.k Z,m⟩
  ·refine Ah f Z ak ?_
   refine AA Z ?_
   obtain rfl:=sj ah
   obtain rfl:=ai _ rfl
   exact⟨_,Z,_,aj,f.weak trivial,m⟩
 ·rintro a w ⟨_,rfl,ac,au,f,m⟩
  refine Ae ?_
  refine Ac f Z λa f=>Aa ?_
  refine Aq ?_
  obtain rfl:=sj hd
  exact⟨[(.bool false)],f.g Z,f.d,_,[],au,m,Z,Z⟩
theorem Wk.I {aa:Value}{ab:LL}(m:Mem W G w (H))(ac:R2 G aa ab){y:Bool}(hd:D.I ab=some y):
  Calls prog 30 #[(.agg #[aa])] w (Res W G H (λ_ Ho v=>Ho=[]∧v=(.bool y))):=by
 refine Ar (args:=[(.agg #[aa])]) (N:=64) [.tmp 2] func30 Z Z (lb Z) Z λa f=> ?_
 unfold D.I at hd
 refine Ae ?_
 refine Bi (cs:=[aa]) m f Z Z Z λad w a m f=>Ac f Z λa f=>Ay ?_
 refine AB 0 0 (ds:=[aa]) m Bj f Z Z Z Z Z λa f=> ?_
 have⟨ae,af,hd⟩:=bind_some hd
 refine A6 f Z call31 (Wk.a m ac af) λag w ah m a f=> ?_
 have ac:=rd2 ah ac
 refine Ac f Z λa f=>Aa (Ag (Ae ?_))
 refine Ab f Z λa f=> ?_
 have⟨ai,aj,hd⟩:=bind_some hd
 refine A6 f Z call61 (Wk.d m aj) λak w al m a f=> ?_
 have ac:=rd2 al ac
 refine l_o f (Bv (f.e Z)) λa f=>Aa ?_
 rcases Af hd with⟨am,hd⟩|⟨am,hd⟩
 ·refine Al f Z am ?_
  refine Ae ?_
  refine Ac f Z λa f=>Aa ?_
  refine Aq ?_
  have m:Mem W ak w H:=Mem.drop (H':=[ib ad 31 [aa]]) m
  obtain rfl:=sj hd
  exact⟨[(.bool false)],f.g Z,f.d,_,[],(gt ah al),m,Z,Z⟩
 ·refine Ah f Z am ?_
  refine Am ?_
  refine Ag (Ae ?_)
  refine Ac f Z λa f=>Aa ?_
  have⟨an,ao,hd⟩:=bind_some hd
  refine AH (λa w=>∃q_138':Unit,an= .inl q_138'∧∃(ap:GH),GLe ak ap∧Fr a 64 [(1,(pb ad)),(3,(iv ae))]∧Mem W ap w (ib ad 31 [aa]::H)) ?_ ?_
  ·refine Ak ?_
   refine AC (λaq a w=>∃ar:Int,ar=aq∧∃(au:GH),GLe ak au∧Fr a 64 [(1,(pb ad)),(3,(iv ae)),(4,(iv ar))]∧Mem W au w (ib ad 31 [aa]::H)) ao ⟨_,Z,_,gr,f.k Z,m⟩ ?_
   clear ao f m
   rintro aq av aw ax a w ⟨ar,rfl,au,ay,f,m⟩
   have ac:=rd2 ay ac
   refine Ag (Ae ?_)
   refine Ab f Z λa f=>Ab f Z λa f=>Ai f Z Z AE λa f=>Aa ?_
   rcases Af aw with⟨az,aw⟩|⟨az,aw⟩
   ·refine Al f Z az ?_
    refine Am ?_
    refine Ag (Ak (Ae ?_))
    refine Bu underlying31 Z sizeOf22 f Z λa f=>AJ 0 0 m Bb f Z Z Z Z λa f=>Ab f Z λa f=> ?_
    have⟨aA,aB,aw⟩:=bind_some aw
    refine A2 T22 f Z Z Z ac aB λaC aD a aE aF f=>Ax m AT f Z Z aE λa f=>Ab f Z λa f=> ?_
    have⟨aG,aH,aw⟩:=bind_some aw
    refine A6 f Z call62 (Wk.J m aF aH) λaI w aJ m a f=> ?_
    have ac:=rd2 aJ ac
    refine l_o f (Bv (f.e Z)) λa f=>Ab f Z λa f=> ?_
    have⟨aK,aL,aw⟩:=bind_some aw
    refine BH 8 (λa w=>∃aM,GLe aI aM∧Mem W aM w (ib ad 31 [aa]::H)∧Fr a 64 [(1,(pb ad)),(3,(iv ae)),(4,(iv ar)),(14,(.bool (decide (ar<ae)))),(17,(pb ad)),(18,aa),(19,(iv ar)),(20,aC),(21,aD),(22,(iv ae)),(23,(.bool aG)),(24,(.bool (!aG))),(25,(.bool (!aG))),(33,(.bool aK))]) ?_ ?_
    ·rcases Af aL with⟨aN,aL⟩|⟨aN,aL⟩
     ·refine AG f aN λa f=> ?_
      refine AG f aN λa f=>AG f aN λa f=>AG f aN λa f=>AG f aN λa f=>AG f aN λa f=>AG f aN λa f=>l_o f (A4 (f.e Z) aN (f.e Z)) λa f=> ?_
      obtain rfl:=sj aL
      exact⟨_,gr,m,f.k Z⟩
     ·refine AF f aN ?_
      refine Bu underlying31 Z sizeOf22 f Z λa f=>AF f aN ?_
      refine AJ 0 0 m Bb f Z Z Z Z λa f=>AF f aN ?_
      refine Ab f Z λa f=>AF f aN ?_
      have⟨aO,aP,aL⟩:=bind_some aL
      refine A2 T22 f Z Z Z ac aP λaQ aR a aS aT f=>AF f aN ?_
      refine Ax m AT f Z Z aS λa f=>AF f aN ?_
      refine Ab f Z λa f=>AF f aN ?_
      have⟨aU,aV,aL⟩:=bind_some aL
      refine A6 f Z call39 (Wk.c m aT aV) λaW w aX m a f=>l_o f (A5 (f.e Z) aN (f.e Z)) λa f=> ?_
      obtain rfl:=sj aL
      exact⟨_,aX,m,f.k Z⟩
    ·rintro a w ⟨aM,aY,m,f⟩
     refine Aa ?_
     rcases Af aw with⟨aZ,aw⟩|⟨aZ,aw⟩
     ·refine Al f Z aZ ?_
      refine Ae ?_
      refine Ac f Z λa f=>Aa ?_
      refine Aq ?_
      have m:Mem W aM w H:=Mem.drop (H':=[ib ad 31 [aa]]) m
      obtain rfl:=sj aw
      obtain rfl:=ax _ rfl
      obtain rfl:=sj hd
      exact⟨[(.bool false)],f.g Z,f.d,_,[],(gt ah (gt al (gt ay (gt aJ aY)))),m,Z,Z⟩
     ·refine Ah f Z aZ ?_
      refine Am ?_
      refine Aj ?_
      refine Ab f Z λa f=>Ai f Z Z Aw λa f=>Ac f Z λa f=>Aa ?_
      obtain rfl:=sj aw
      exact⟨_,Z,_,Z,_,(gt ay (gt aJ aY)),f.k Z,m⟩
   ·refine Ah f Z az ?_
    refine AA Z ?_
    obtain rfl:=sj aw
    obtain rfl:=ax _ rfl
    exact⟨_,Z,_,ay,f.k Z,m⟩
  ·rintro a w ⟨_,rfl,ap,a0,f,m⟩
   have ac:=rd2 a0 ac
   refine Ag (Ae ?_)
   refine Ac f Z λa f=>Aa ?_
   have⟨a1,a2,hd⟩:=bind_some hd
   refine AH (λa w=>∃q_545':Unit,a1= .inl q_545'∧∃(a3:GH),GLe ap a3∧Fr a 64 []∧Mem W a3 w (H)) ?_ ?_
   ·refine Ak ?_
    refine AC (λa4 a w=>∃a5:Int,a5=a4∧∃(a6:GH),GLe ap a6∧Fr a 64 [(1,(pb ad)),(3,(iv ae)),(5,(iv a5))]∧Mem W a6 w (ib ad 31 [aa]::H)) a2 ⟨_,Z,_,gr,f.k Z,m⟩ ?_
    clear a2 f m
    rintro a4 a7 a8 a9 a w ⟨a5,rfl,a6,ba,f,m⟩
    have ac:=rd2 ba ac
    refine Ag (Ae ?_)
    refine Ab f Z λa f=>Ab f Z λa f=>Ai f Z Z AE λa f=>Aa ?_
    rcases Af a8 with⟨bb,a8⟩|⟨bb,a8⟩
    ·refine Al f Z bb ?_
     refine Am ?_
     refine Ag (Ak (Ae ?_))
     refine Ac f Z λa f=>Aa ?_
     have⟨bc,bd,a8⟩:=bind_some a8
     refine AH (λa w=>∃q_759':Unit,bc= .inl q_759'∧∃(be:GH),GLe a6 be∧Fr a 64 [(1,(pb ad)),(3,(iv ae)),(5,(iv a5))]∧Mem W be w (ib ad 31 [aa]::H)) ?_ ?_
     ·refine Ak ?_
      refine AC (λbf a w=>∃bg:Int,bg=bf∧∃(bh:GH),GLe a6 bh∧Fr a 64 [(1,(pb ad)),(3,(iv ae)),(5,(iv a5)),(6,(iv bg))]∧Mem W bh w (ib ad 31 [aa]::H)) bd ⟨_,Z,_,gr,f.k Z,m⟩ ?_
      clear bd f m
      rintro bf bi bj bk a w ⟨bg,rfl,bh,bl,f,m⟩
      have ac:=rd2 bl ac
      refine Ag (Ae ?_)
      refine Ab f Z λa f=>Bu underlying31 Z sizeOf22 f Z λa f=>AJ 0 0 m Bb f Z Z Z Z λa f=>Ab f Z λa f=> ?_
      have⟨bm,bn,bj⟩:=bind_some bj
      refine A2 T22 f Z Z Z ac bn λbo bp a bq br f=>Ax m AT f Z Z bq λa f=>AO underlying26 f Z Z br λa f=>Ai f Z Z AE λa f=>Aa ?_
      rcases Af bj with⟨bs,bj⟩|⟨bs,bj⟩
      ·refine Al f Z bs ?_
       refine Am ?_
       refine Ag (Ak (Ag ?_))
       refine A3 15 AM (by kernel_rfl) m ?_
       refine BW 0 15 underlying31 Z sizeOf22 Z f Z λa f=>BK 1 15 0 Bb Z Z Z f Z λa f=>BW 2 15 underlying31 Z sizeOf22 Z f Z λa f=>BK 3 15 0 Bb Z Z Z f Z λa f=>Ao 4 15 Z f Z λa f=> ?_
       have⟨bt,bu,bj⟩:=bind_some bj
       refine BJ 5 15 T22 ac bu Z f Z Z λbv bw a bx bz f=>BI 6 15 AT bx Z f Z λa f=>Ao 7 15 Z f Z λa f=> ?_
       have⟨bA,bB,bj⟩:=bind_some bj
       refine BJ 8 15 T26 bz bB Z f Z Z λbC bD a bE bF f=> ?_
       subst bF
       refine BI 9 15 Pl2 bE Z f Z λa f=> ?_
       have⟨bG,bH,bj⟩:=bind_some bj
       refine BJ 10 15 T22 ac bH Z f Z Z λbI bJ a bK bL f=>BI 11 15 AT bK Z f Z λa f=>Ao 12 15 Z f Z λa f=> ?_
       have⟨bM,bN,bj⟩:=bind_some bj
       refine BX (i:=13) 15 Z (by kernel_rfl) Z f Z Z Z call39 (λ_ _ w bO m=>Wk.c m (rd1 bO bL) bN) λa f=>q_p 14 15 Z f (λ_=>Bv (f.e Z)) λa f=>AU λbP w bQ m=>Aa ?_
       rcases Af bj with⟨bR,bj⟩|⟨bR,bj⟩
       ·refine Al f Z bR ?_
        refine Ae ?_
        refine Ac f Z λa f=>Aa ?_
        refine Aq ?_
        have m:Mem W bP w H:=Mem.drop (H':=[ib ad 31 [aa]]) m
        obtain rfl:=sj bj
        obtain rfl:=bk _ rfl
        obtain rfl:=sj a8
        obtain rfl:=a9 _ rfl
        obtain rfl:=sj hd
        exact⟨[(.bool false)],f.g Z,f.d,_,[],(gt ah (gt al (gt a0 (gt ba (gt bl bQ))))),m,Z,Z⟩
       ·refine Ah f Z bR ?_
        refine Am ?_
        refine Aj ?_
        refine Ab f Z λa f=>Ai f Z Z Aw λa f=>Ac f Z λa f=>Aa ?_
        obtain rfl:=sj bj
        exact⟨_,Z,_,Z,_,(gt bl bQ),f.k Z,m⟩
      ·refine Ah f Z bs ?_
       refine AA Z ?_
       obtain rfl:=sj bj
       obtain rfl:=bk _ rfl
       exact⟨_,Z,_,bl,f.k Z,m⟩
     ·rintro a w ⟨_,rfl,be,bS,f,m⟩
      refine Aj ?_
      refine Ab f Z λa f=>Ai f Z Z Aw λa f=>Ac f Z λa f=>Aa ?_
      obtain rfl:=sj a8
      exact⟨_,Z,_,Z,_,(gt ba bS),f.k Z,m⟩
    ·refine Ah f Z bb ?_
     refine AA Z ?_
     have m:Mem W a6 w H:=Mem.drop (H':=[ib ad 31 [aa]]) m
     obtain rfl:=sj a8
     obtain rfl:=a9 _ rfl
     exact⟨_,Z,_,ba,f.weak trivial,m⟩
   ·rintro a w ⟨_,rfl,a3,bT,f,m⟩
    refine Ae ?_
    refine Ac f Z λa f=>Aa ?_
    refine Aq ?_
    obtain rfl:=sj hd
    exact⟨[(.bool true)],f.g Z,f.d,_,[],(gt ah (gt al (gt a0 bT))),m,Z,Z⟩
theorem Wk.S {aa:Value}{ab:LL}(m:Mem W G w (H))(ac:R2 G aa ab){y:Bool}(hd:D.S ab=some y):
  Calls prog 14 #[(.agg #[aa])] w (Res W G H (λ_ Ho v=>Ho=[]∧v=(.bool y))):=by
 refine Ar (args:=[(.agg #[aa])]) (N:=10) [.tmp 2] func14 Z Z (lb Z) Z λa f=> ?_
 unfold D.S at hd
 refine Ae ?_
 refine Bi (cs:=[aa]) m f Z Z Z λad w a m f=>Ac f Z λa f=>Ay ?_
 refine AB 0 0 (ds:=[aa]) m Bj f Z Z Z Z Z λa f=> ?_
 have⟨ae,af,hd⟩:=bind_some hd
 refine A6 f Z call30 (Wk.I m ac af) λag w ah m a f=> ?_
 have ac:=rd2 ah ac
 refine Ab f Z λa f=> ?_
 have⟨ai,aj,hd⟩:=bind_some hd
 refine BH 4 (λa w=>∃ak,GLe ag ak∧Mem W ak w (ib ad 31 [aa]::H)∧Fr a 10 [(0,(.agg #[aa])),(1,(pb ad)),(3,(.agg #[aa])),(4,(.bool ae)),(5,(.bool ae)),(9,(.bool ai))]) ?_ ?_
 ·rcases Af aj with⟨al,aj⟩|⟨al,aj⟩
  ·refine AF f al ?_
   refine AB 0 0 (ds:=[aa]) m Bj f Z Z Z Z Z λa f=>AF f al ?_
   have⟨am,an,aj⟩:=bind_some aj
   refine A6 f Z call31 (Wk.a m ac an) λao w ap m a f=>AF f al ?_
   refine Ai f Z Z CD λa f=>l_o f (A4 (f.e Z) al (f.e Z)) λa f=> ?_
   obtain rfl:=sj aj
   exact⟨_,ap,m,f.k Z⟩
  ·refine AG f al λa f=> ?_
   refine AG f al λa f=>AG f al λa f=>l_o f (A5 (f.e Z) al (f.e Z)) λa f=> ?_
   obtain rfl:=sj aj
   exact⟨_,gr,m,f.k Z⟩
 ·rintro a w ⟨ak,aq,m,f⟩
  refine Ac f Z λa f=>Aa ?_
  refine Aq ?_
  have m:Mem W ak w H:=Mem.drop (H':=[ib ad 31 [aa]]) m
  obtain rfl:=sj hd
  exact⟨[(.bool ai)],f.g Z,f.d,_,[],(gt ah aq),m,Z,Z⟩
theorem Wk.Q {aa:Value}{ab:LL}(m:Mem W G w (H))(ac:R2 G aa ab){y:Bool}(hd:D.Q ab=some y):
  Calls prog 32 #[(.agg #[aa])] w (Res W G H (λ_ Ho v=>Ho=[]∧v=(.bool y))):=by
 refine Ar (args:=[(.agg #[aa])]) (N:=10) [.tmp 2] func32 Z Z (lb Z) Z λa f=> ?_
 unfold D.Q at hd
 refine Ae ?_
 refine Bi (cs:=[aa]) m f Z Z Z λad w a m f=>Ac f Z λa f=>Ay ?_
 refine AB 0 0 (ds:=[aa]) m Bj f Z Z Z Z Z λa f=> ?_
 have⟨ae,af,hd⟩:=bind_some hd
 refine A6 f Z call30 (Wk.I m ac af) λag w ah m a f=> ?_
 have ac:=rd2 ah ac
 refine Ab f Z λa f=> ?_
 have⟨ai,aj,hd⟩:=bind_some hd
 refine BH 4 (λa w=>∃ak,GLe ag ak∧Mem W ak w (ib ad 31 [aa]::H)∧Fr a 10 [(0,(.agg #[aa])),(1,(pb ad)),(3,(.agg #[aa])),(4,(.bool ae)),(5,(.bool ae)),(9,(.bool ai))]) ?_ ?_
 ·rcases Af aj with⟨al,aj⟩|⟨al,aj⟩
  ·refine AF f al ?_
   refine AB 0 0 (ds:=[aa]) m Bj f Z Z Z Z Z λa f=>AF f al ?_
   have⟨am,an,aj⟩:=bind_some aj
   refine A6 f Z call31 (Wk.a m ac an) λao w ap m a f=>AF f al ?_
   refine Ai f Z Z CD λa f=>l_o f (A4 (f.e Z) al (f.e Z)) λa f=> ?_
   obtain rfl:=sj aj
   exact⟨_,ap,m,f.k Z⟩
  ·refine AG f al λa f=> ?_
   refine AG f al λa f=>AG f al λa f=>l_o f (A5 (f.e Z) al (f.e Z)) λa f=> ?_
   obtain rfl:=sj aj
   exact⟨_,gr,m,f.k Z⟩
 ·rintro a w ⟨ak,aq,m,f⟩
  refine Ac f Z λa f=>Aa ?_
  refine Aq ?_
  have m:Mem W ak w H:=Mem.drop (H':=[ib ad 31 [aa]]) m
  obtain rfl:=sj hd
  exact⟨[(.bool ai)],f.g Z,f.d,_,[],(gt ah aq),m,Z,Z⟩
theorem Wk.u0 {aa:Value}{ab:LL}(m:Mem W G w (H))(ac:R2 G aa ab){y:(LI)}(hd:D.u0 ab=some y):
  Calls prog 67 #[(.agg #[aa])] w (Res W G H (λG' Ho v=>∃r0:Value,∃i0:Itm,Ho=[i0]∧r0=v∧Ow R0 2 G' i0 r0 y)):=by
 refine Ar (args:=[(.agg #[aa])]) (N:=26) [.tmp 2] func67 Z Z (lb Z) Z λa f=> ?_
 unfold D.u0 at hd
 refine Ae ?_
 refine Bi (cs:=[aa]) m f Z Z Z λad w a m f=>Ac f Z λa f=>Ay ?_
 refine Ac f Z λa f=>Aa (Ag (Ae ?_))
 refine Ac f Z λa f=>Aa ?_
 have⟨ae,af,hd⟩:=bind_some hd
 refine AH (λa w=>∃ag:Int,ag=ae∧∃(ah:GH),GLe G ah∧Fr a 26 [(3,(iv ag))]∧Mem W ah w (H)) ?_ ?_
 ·refine Ak ?_
  refine AC (λai a w=>∃aj:Int,∃ak:Int,(aj,ak)=ai∧∃(al:GH),GLe G al∧Fr a 26 [(1,(pb ad)),(3,(iv aj)),(4,(iv ak))]∧Mem W al w (ib ad 31 [aa]::H)) af ⟨_,_,Z,_,gr,f.k Z,m⟩ ?_
  clear af f m
  rintro ai am an ao a w ⟨aj,ak,rfl,al,ap,f,m⟩
  have ac:=rd2 ap ac
  refine Ag (Ae ?_)
  refine Ab f Z λa f=>AB 0 0 (ds:=[aa]) m Bj f Z Z Z Z Z λa f=> ?_
  have⟨aq,ar,an⟩:=bind_some an
  refine A6 f Z call31 (Wk.a m ac ar) λau w av m a f=>Ai f Z Z AE λa f=>Aa ?_
  rcases Af an with⟨aw,an⟩|⟨aw,an⟩
  ·refine Al f Z aw ?_
   refine Am ?_
   refine Ag (Ak (Aj ?_))
   refine Ab f Z λa f=>Ai f Z Z DX λa f=>Ac f Z λa f=>Aa (Aj ?_)
   refine Ab f Z λa f=>Ai f Z Z Aw λa f=>Ac f Z λa f=>Aa ?_
   obtain rfl:=sj an
   exact⟨_,Z,_,_,Z,_,(gt ap av),f.k Z,m⟩
  ·refine Ah f Z aw ?_
   refine AA Z ?_
   have m:Mem W au w H:=Mem.drop (H':=[ib ad 31 [aa]]) m
   obtain rfl:=sj an
   obtain rfl:=ao _ rfl
   exact⟨_,Z,_,(gt ap av),f.k Z,m⟩
 ·rintro a w ⟨ag,rfl,ah,ax,f,m⟩
  refine Ae ?_
  refine Ab f Z λa f=> ?_
  have⟨ay,az,hd⟩:=bind_some hd
  refine CU (R:=R0) m T26 Z (by decide) Z f Z Z Z az λaA aB w a m aC f=>Ac f Z λa f=>Aa (Ag (Ae ?_))
  refine Ac f Z λa f=>Aa ?_
  have⟨aD,aE,hd⟩:=bind_some hd
  refine AH (λa w=>∃aF:LI,aF=aD∧∃(aG:GH) (aH:Itm),GLe ah aG∧Fr a 26 [(5,aB)]∧Mem W aG w (aH::H)∧Ow R0 2 aG aH aB aF) ?_ ?_
  ·refine Ak ?_
   refine AC (λaI a w=>∃aJ:LI,∃aK:Int,(aJ,aK)=aI∧∃(aL:GH) (aM:Itm),GLe ah aL∧Fr a 26 [(3,(iv ag)),(5,aB),(6,(iv aK))]∧Mem W aL w (aM::H)∧Ow R0 2 aL aM aB aJ) aE ⟨_,_,Z,_,aA,gr,f.k Z,m,aC⟩ ?_
   clear aE f m
   rintro aI aN aO aP a w ⟨aJ,aK,rfl,aL,aM,aQ,f,m,aR⟩
   refine Ag (Ae ?_)
   refine Ab f Z λa f=>Ab f Z λa f=>Ai f Z Z AE λa f=>Aa ?_
   rcases Af aO with⟨aS,aO⟩|⟨aS,aO⟩
   ·refine Al f Z aS ?_
    refine Am ?_
    refine Ag (Ak (Aj ?_))
    refine Ab f Z λa f=>Ab f Z λa f=> ?_
    have⟨aT,aU,aO⟩:=bind_some aO
    refine AZ 0 m aR Z T26 f Z Z Z aU λaV a aW f=>AQ 0 m aR Z sizeOf2 f Z Z aW aU Z Z Z λaX w m aY=>Aa (Aj ?_)
    refine Ab f Z λa f=>Ai f Z Z Aw λa f=>Ac f Z λa f=>Aa ?_
    obtain rfl:=sj aO
    exact⟨_,Z,_,_,Z,_,aX,aQ,f.k Z,m,aY⟩
   ·refine Ah f Z aS ?_
    refine AA Z ?_
    obtain rfl:=sj aO
    obtain rfl:=aP _ rfl
    exact⟨_,Z,_,aM,aQ,f.k Z,m,aR⟩
  ·rintro a w ⟨aF,rfl,aG,aH,aZ,f,m,a0⟩
   refine Ae ?_
   refine Ab f Z λa f=>Ac f Z λa f=>Aa ?_
   refine Aq ?_
   obtain rfl:=sj hd
   exact⟨[aB],f.g Z,f.d,_,[aH],(gt ax aZ),m,_,_,Z,Z,a0⟩
theorem Wk.m {x0:Bool}(m:Mem W G w (H)){y:Int}(hd:D.m x0=some y):
  Calls prog 116 #[(.bool x0)] w (Res W G H (λ_ Ho v=>Ho=[]∧v=(iv y))):=by
 refine Ar (args:=[(.bool x0)]) (N:=4) [.tmp 2] func116 Z Z (lb Z) Z λa f=> ?_
 unfold D.m at hd
 refine Ae ?_
 refine Ac f Z λa f=>Aa (Ag (Ae ?_))
 refine Ab f Z λa f=>Aa ?_
 rcases Af hd with⟨aa,hd⟩|⟨aa,hd⟩
 ·refine Al f Z aa ?_
  refine Ae ?_
  refine Ac f Z λa f=>Aa ?_
  refine Aq ?_
  obtain rfl:=sj hd
  exact⟨[(iv 1)],f.g Z,f.d,_,[],gr,m,Z,Z⟩
 ·refine Ah f Z aa ?_
  refine Am ?_
  refine Ae ?_
  refine Ac f Z λa f=>Aa ?_
  refine Aq ?_
  obtain rfl:=sj hd
  exact⟨[(iv 0)],f.g Z,f.d,_,[],gr,m,Z,Z⟩
theorem Wk.e1 {v0:Value}{x0:(List Bool)}(m:Mem W G w (H))(h0:RSl RB G v0 x0){y:Int}(hd:D.e1 x0=some y):
  Calls prog 109 #[v0] w (Res W G H (λ_ Ho v=>Ho=[]∧v=(iv y))):=by
 refine Ar (args:=[v0]) (N:=21) [.tmp 2] func109 Z Z (lb Z) Z λa f=> ?_
 unfold D.e1 at hd
 refine Ae ?_
 refine Ac f Z λa f=>Ay ?_
 refine Ac f Z λa f=>Aa (Ag (Ae ?_))
 refine Ab f Z λa f=>AO underlying85 f Z Z h0 λa f=>Ai f Z Z Bh λa f=>Ac f Z λa f=>Aa ?_
 have⟨aa,ab,hd⟩:=bind_some hd
 refine AH (λa w=>∃ac:Int,ac=aa∧∃(ad:GH),GLe G ad∧Fr a 21 [(3,(iv ac))]∧Mem W ad w (H)) ?_ ?_
 ·refine Ak ?_
  refine AC (λae a w=>∃af:Int,∃ag:Int,(af,ag)=ae∧∃(ah:GH),GLe G ah∧Fr a 21 [(0,v0),(3,(iv af)),(4,(iv ag))]∧Mem W ah w (H)) ab ⟨_,_,Z,_,gr,f.k Z,m⟩ ?_
  clear ab f m
  rintro ae ai aj ak a w ⟨af,ag,rfl,ah,al,f,m⟩
  have h0:=RSl.mono RB.mono _ _ _ _ al h0
  refine Ag (Ae ?_)
  refine Ab f Z λa f=>Ai f Z Z Cs λa f=>Aa ?_
  rcases Af aj with⟨am,aj⟩|⟨am,aj⟩
  ·refine Al f Z am ?_
   refine Am ?_
   refine Ag (Ak (Aj ?_))
   refine Ab f Z λa f=>Ai f Z Z DX λa f=>Ab f Z λa f=>Ab f Z λa f=> ?_
   have⟨an,ao,aj⟩:=bind_some aj
   refine A2 T85 f Z Z Z h0 ao λap aq a ar au f=> ?_
   subst au
   refine Ax m Pl4 f Z Z ar λa f=> ?_
   have⟨av,aw,aj⟩:=bind_some aj
   refine A6 f Z call116 (Wk.m m aw) λax w ay m a f=>Ai f Z Z Aw λa f=>Ac f Z λa f=>Aa (Aj ?_)
   refine Ab f Z λa f=>Ai f Z Z Bh λa f=>Ac f Z λa f=>Aa ?_
   obtain rfl:=sj aj
   exact⟨_,Z,_,_,Z,_,(gt al ay),f.k Z,m⟩
  ·refine Ah f Z am ?_
   refine AA Z ?_
   obtain rfl:=sj aj
   obtain rfl:=ak _ rfl
   exact⟨_,Z,_,al,f.k Z,m⟩
 ·rintro a w ⟨ac,rfl,ad,az,f,m⟩
  refine Ae ?_
  refine Ab f Z λa f=>Ac f Z λa f=>Aa ?_
  refine Aq ?_
  obtain rfl:=sj hd
  exact⟨[(iv ac)],f.g Z,f.d,_,[],az,m,Z,Z⟩
theorem Wk.e {v0:Value}{x0:LI}(m:Mem W G w (H))(h0:R1 G v0 x0){y:(LI)}(hd:D.e x0=some y):
  Calls prog 43 #[v0] w (Res W G H (λG' Ho v=>∃r0:Value,∃i0:Itm,Ho=[i0]∧r0=v∧Ow R0 2 G' i0 r0 y)):=by
 refine Ar (args:=[v0]) (N:=6) [.tmp 2] func43 Z Z (lb Z) Z λa f=> ?_
 unfold D.e at hd
 refine Ae ?_
 refine Ac f Z λa f=>Ay ?_
 refine AP (R:=R0) (xs:=([]:LI)) (RI.one _) m T26 f Z Z Z (by decide) (All2.nil _) λaa ab w a m ac f=>Ab f Z λa f=> ?_
 have⟨ad,ae,hd⟩:=bind_some hd
 refine AW (RI.one _) 0 m ac Z T26 Z (by decide) f Z Z Z (h0.src m) ae λaf ag w a m ah f=>Ac f Z λa f=>Aa ?_
 refine Aq ?_
 obtain rfl:=sj hd
 exact⟨[ag],f.g Z,f.d,_,[af],gr,m,_,_,Z,Z,ah⟩
theorem Wk.j {v0:Value}{x0:LI}{x1:Int}(m:Mem W G w (H))(h0:R1 G v0 x0){y:(LI)}(hd:D.j x0 x1=some y):
  Calls prog 65 #[v0,(iv x1)] w (Res W G H (λG' Ho v=>∃r0:Value,Ho=[]∧r0=v∧R1 G' r0 y)):=by
 refine Ar (args:=[v0,(iv x1)]) (N:=46) [.tmp 4] func65 Z Z (lb Z) Z λa f=> ?_
 unfold D.j at hd
 refine Ae ?_
 refine Ac f Z λa f=>Ay ?_
 refine Ac f Z λa f=>Aa (Ag ?_)
 have⟨aa,ab,hd⟩:=bind_some hd
 refine AH (λa w=>∃ac:Int,ac=aa∧∃(ad:GH),GLe G ad∧Fr a 46 [(0,v0),(1,(iv x1)),(5,(iv ac))]∧Mem W ad w (H)) ?_ ?_
 ·refine Ak ?_
  refine AC (λae a w=>∃af:Int,af=ae∧∃(ag:GH),GLe G ag∧Fr a 46 [(0,v0),(1,(iv x1)),(5,(iv af))]∧Mem W ag w (H)) ab ⟨_,Z,_,gr,f.k Z,m⟩ ?_
  clear ab f m
  rintro ae ah ai aj a w ⟨af,rfl,ag,ak,f,m⟩
  have h0:=rd1 ak h0
  refine Ag (Ae ?_)
  refine Ab f Z λa f=>Ab f Z λa f=>AO underlying26 f Z Z h0 λa f=>Ai f Z Z AE λa f=>Ab f Z λa f=> ?_
  have⟨al,am,ai⟩:=bind_some ai
  refine BH 7 (λa w=>∃an,GLe ag an∧Mem W an w (H)∧Fr a 46 [(0,v0),(1,(iv x1)),(5,(iv af)),(7,(iv af)),(8,v0),(9,(iv (x0.length:Int))),(10,(.bool (decide (af<(x0.length:Int))))),(11,(.bool (decide (af<(x0.length:Int))))),(18,(.bool al))]) ?_ ?_
  ·rcases Af am with⟨ao,am⟩|⟨ao,am⟩
   ·refine AF f ao ?_
    refine Ab f Z λa f=>AF f ao ?_
    refine Ab f Z λa f=>AF f ao ?_
    have⟨ap,aq,am⟩:=bind_some am
    refine A2 T26 f Z Z Z h0 aq λar au a av aw f=> ?_
    subst aw
    refine AF f ao ?_
    refine Ax m Pl2 f Z Z av λa f=>AF f ao ?_
    refine Ab f Z λa f=>AF f ao ?_
    refine Ai f Z Z AE λa f=>l_o f (A4 (f.e Z) ao (f.e Z)) λa f=> ?_
    obtain rfl:=sj am
    exact⟨_,gr,m,f.k Z⟩
   ·refine AG f ao λa f=> ?_
    refine AG f ao λa f=>AG f ao λa f=>AG f ao λa f=>AG f ao λa f=>AG f ao λa f=>l_o f (A5 (f.e Z) ao (f.e Z)) λa f=> ?_
    obtain rfl:=sj am
    exact⟨_,gr,m,f.k Z⟩
  ·rintro a w ⟨an,ax,m,f⟩
   refine Aa ?_
   rcases Af ai with⟨ay,ai⟩|⟨ay,ai⟩
   ·refine Al f Z ay ?_
    refine Am ?_
    refine Ak (Aj ?_)
    refine Ab f Z λa f=>Ai f Z Z Aw λa f=>Ac f Z λa f=>Aa ?_
    obtain rfl:=sj ai
    exact⟨_,Z,_,Z,_,(gt ak ax),f.k Z,m⟩
   ·refine Ah f Z ay ?_
    refine AA Z ?_
    obtain rfl:=sj ai
    obtain rfl:=aj _ rfl
    exact⟨_,Z,_,(gt ak ax),f.k Z,m⟩
 ·rintro a w ⟨ac,rfl,ad,az,f,m⟩
  have h0:=rd1 az h0
  refine Ag (Ae ?_)
  refine Ab f Z λa f=>Ab f Z λa f=>AO underlying26 f Z Z h0 λa f=>Ai f Z Z AE λa f=>Ab f Z λa f=> ?_
  have⟨aA,aB,hd⟩:=bind_some hd
  refine BH 7 (λa w=>∃aC,GLe ad aC∧Mem W aC w (H)∧Fr a 46 [(0,v0),(1,(iv x1)),(5,(iv ac)),(21,(iv ac)),(22,v0),(23,(iv (x0.length:Int))),(24,(.bool (decide (ac<(x0.length:Int))))),(25,(.bool (decide (ac<(x0.length:Int))))),(32,(.bool aA))]) ?_ ?_
  ·rcases Af aB with⟨aD,aB⟩|⟨aD,aB⟩
   ·refine AF f aD ?_
    refine Ab f Z λa f=>AF f aD ?_
    refine Ab f Z λa f=>AF f aD ?_
    have⟨aE,aF,aB⟩:=bind_some aB
    refine A2 T26 f Z Z Z h0 aF λaG aH a aI aJ f=> ?_
    subst aJ
    refine AF f aD ?_
    refine Ax m Pl2 f Z Z aI λa f=>AF f aD ?_
    refine Ab f Z λa f=>AF f aD ?_
    refine Ai f Z Z BS λa f=>l_o f (A4 (f.e Z) aD (f.e Z)) λa f=> ?_
    obtain rfl:=sj aB
    exact⟨_,gr,m,f.k Z⟩
   ·refine AG f aD λa f=> ?_
    refine AG f aD λa f=>AG f aD λa f=>AG f aD λa f=>AG f aD λa f=>AG f aD λa f=>l_o f (A5 (f.e Z) aD (f.e Z)) λa f=> ?_
    obtain rfl:=sj aB
    exact⟨_,gr,m,f.k Z⟩
  ·rintro a w ⟨aC,aK,m,f⟩
   have h0:=rd1 aK h0
   refine Aa ?_
   rcases Af hd with⟨aL,hd⟩|⟨aL,hd⟩
   ·refine Al f Z aL ?_
    refine Ae ?_
    refine Ab f Z λa f=>Ac f Z λa f=>Aa ?_
    refine Aq ?_
    obtain rfl:=sj hd
    exact⟨[v0],f.g Z,f.d,_,[],(gt az aK),m,_,Z,Z,h0⟩
   ·refine Ah f Z aL ?_
    refine Am ?_
    refine Ae ?_
    refine Ab f Z λa f=>Ab f Z λa f=> ?_
    have⟨aM,aN,hd⟩:=bind_some hd
    refine FC T26 f Z Z h0 (.inl ⟨Z,Z⟩) (.inr ⟨_,_,Z,Z⟩) aN λaO a aP f=> ?_
    have⟨aQ,aR,hd⟩:=bind_some hd
    refine AL f Z call43 (Wk.e m aP aR) λaS aT aU w aV m aW a f=> ?_
    obtain⟨aX,aY,rfl,rfl,aZ⟩:=aW
    have h0:=rd1 aV h0
    refine Ab f Z λa f=>AP (R:=R0) (xs:=([x1]:LI)) (RI.one _) m T26 f Z Z Z (by decide) (All2.cons Z (All2.nil _)) λa0 a1 w a m a2 f=> ?_
    have⟨a3,a4,hd⟩:=bind_some hd
    refine AW (RI.one _) 1 m aZ Z T26 Z (by decide) f Z Z Z (Ow.src (j:=0) a2 m Z) a4 λa5 a6 w a m a7 f=>Ac f Z λa f=>Ay ?_
    refine Ab f Z λa f=>Ab f Z λa f=>Ab f Z λa f=> ?_
    have⟨a8,a9,hd⟩:=bind_some hd
    refine FC T26 f Z Z h0 (.inr ⟨_,_,Z,Z⟩) (.inl ⟨Z,Z⟩) a9 λba a bb f=> ?_
    have⟨bc,bd,hd⟩:=bind_some hd
    refine AW (RI.one _) 1 m a7 Z T26 Z (by decide) f Z Z Z (bb.src m) bd λbe bf w a m bg f=>Ac f Z λa f=>Aa ?_
    refine Aq ?_
    have m:=m.fr 1
    obtain⟨bh,bi,m,bj⟩:=Ow.stamp (RI.mono _) bg m
    have m:Mem W bh w H:=Mem.drop (H':=[a0]) m
    obtain rfl:=sj hd
    exact⟨[bf],f.g Z,f.d,_,[],(gt az (gt aK (gt aV bi))),m,_,Z,Z,bj⟩
theorem Wk.V1 {v0:Value}{it0:Itm}{x0:LI}{x1:Int}(m:Mem W G w (it0::H))(o0:Ow R0 2 G it0 v0 x0){y:(LI)}(hd:D.V1 x0 x1=some y):
  Calls prog 65 #[v0,(iv x1)] w (Res W G H (λG' Ho v=>∃r0:Value,∃i0:Itm,Ho=[i0]∧r0=v∧Ow R0 2 G' i0 r0 y)):=by
 refine Ar (args:=[v0,(iv x1)]) (N:=46) [.tmp 4] func65 Z Z (lb Z) Z λa f=> ?_
 unfold D.V1 at hd
 refine Ae ?_
 refine Ac f Z λa f=>Ay ?_
 refine Ac f Z λa f=>Aa (Ag ?_)
 have⟨aa,ab,hd⟩:=bind_some hd
 refine AH (λa w=>∃ac:Int,ac=aa∧∃(ad:GH),GLe G ad∧Fr a 46 [(0,v0),(1,(iv x1)),(5,(iv ac))]∧Mem W ad w (it0::H)) ?_ ?_
 ·refine Ak ?_
  refine AC (λae a w=>∃af:Int,af=ae∧∃(ag:GH),GLe G ag∧Fr a 46 [(0,v0),(1,(iv x1)),(5,(iv af))]∧Mem W ag w (it0::H)) ab ⟨_,Z,_,gr,f.k Z,m⟩ ?_
  clear ab f m
  rintro ae ah ai aj a w ⟨af,rfl,ag,ak,f,m⟩
  have o0:=od1 ak o0
  refine Ag (Ae ?_)
  refine Ab f Z λa f=>Ab f Z λa f=>BE 0 m o0 Z underlying26 f Z Z λa f=>Ai f Z Z AE λa f=>Ab f Z λa f=> ?_
  have⟨al,am,ai⟩:=bind_some ai
  refine BH 7 (λa w=>∃an,GLe ag an∧Mem W an w (it0::H)∧Fr a 46 [(0,v0),(1,(iv x1)),(5,(iv af)),(7,(iv af)),(8,v0),(9,(iv (x0.length:Int))),(10,(.bool (decide (af<(x0.length:Int))))),(11,(.bool (decide (af<(x0.length:Int))))),(18,(.bool al))]) ?_ ?_
  ·rcases Af am with⟨ao,am⟩|⟨ao,am⟩
   ·refine AF f ao ?_
    refine Ab f Z λa f=>AF f ao ?_
    refine Ab f Z λa f=>AF f ao ?_
    have⟨ap,aq,am⟩:=bind_some am
    refine AZ 0 m o0 Z T26 f Z Z Z aq λar a au f=>AF f ao ?_
    refine BA 0 m o0 Z Pl2 f Z Z au aq λav a aw f=> ?_
    subst aw
    refine AF f ao ?_
    refine Ab f Z λa f=>AF f ao ?_
    refine Ai f Z Z AE λa f=>l_o f (A4 (f.e Z) ao (f.e Z)) λa f=> ?_
    obtain rfl:=sj am
    exact⟨_,gr,m,f.k Z⟩
   ·refine AG f ao λa f=> ?_
    refine AG f ao λa f=>AG f ao λa f=>AG f ao λa f=>AG f ao λa f=>AG f ao λa f=>l_o f (A5 (f.e Z) ao (f.e Z)) λa f=> ?_
    obtain rfl:=sj am
    exact⟨_,gr,m,f.k Z⟩
  ·rintro a w ⟨an,ax,m,f⟩
   refine Aa ?_
   rcases Af ai with⟨ay,ai⟩|⟨ay,ai⟩
   ·refine Al f Z ay ?_
    refine Am ?_
    refine Ak (Aj ?_)
    refine Ab f Z λa f=>Ai f Z Z Aw λa f=>Ac f Z λa f=>Aa ?_
    obtain rfl:=sj ai
    exact⟨_,Z,_,Z,_,(gt ak ax),f.k Z,m⟩
   ·refine Ah f Z ay ?_
    refine AA Z ?_
    obtain rfl:=sj ai
    obtain rfl:=aj _ rfl
    exact⟨_,Z,_,(gt ak ax),f.k Z,m⟩
 ·rintro a w ⟨ac,rfl,ad,az,f,m⟩
  have o0:=od1 az o0
  refine Ag (Ae ?_)
  refine Ab f Z λa f=>Ab f Z λa f=>BE 0 m o0 Z underlying26 f Z Z λa f=>Ai f Z Z AE λa f=>Ab f Z λa f=> ?_
  have⟨aA,aB,hd⟩:=bind_some hd
  refine BH 7 (λa w=>∃aC,GLe ad aC∧Mem W aC w (it0::H)∧Fr a 46 [(0,v0),(1,(iv x1)),(5,(iv ac)),(21,(iv ac)),(22,v0),(23,(iv (x0.length:Int))),(24,(.bool (decide (ac<(x0.length:Int))))),(25,(.bool (decide (ac<(x0.length:Int))))),(32,(.bool aA))]) ?_ ?_
  ·rcases Af aB with⟨aD,aB⟩|⟨aD,aB⟩
   ·refine AF f aD ?_
    refine Ab f Z λa f=>AF f aD ?_
    refine Ab f Z λa f=>AF f aD ?_
    have⟨aE,aF,aB⟩:=bind_some aB
    refine AZ 0 m o0 Z T26 f Z Z Z aF λaG a aH f=>AF f aD ?_
    refine BA 0 m o0 Z Pl2 f Z Z aH aF λaI a aJ f=> ?_
    subst aJ
    refine AF f aD ?_
    refine Ab f Z λa f=>AF f aD ?_
    refine Ai f Z Z BS λa f=>l_o f (A4 (f.e Z) aD (f.e Z)) λa f=> ?_
    obtain rfl:=sj aB
    exact⟨_,gr,m,f.k Z⟩
   ·refine AG f aD λa f=> ?_
    refine AG f aD λa f=>AG f aD λa f=>AG f aD λa f=>AG f aD λa f=>AG f aD λa f=>l_o f (A5 (f.e Z) aD (f.e Z)) λa f=> ?_
    obtain rfl:=sj aB
    exact⟨_,gr,m,f.k Z⟩
  ·rintro a w ⟨aC,aK,m,f⟩
   have o0:=od1 aK o0
   refine Aa ?_
   rcases Af hd with⟨aL,hd⟩|⟨aL,hd⟩
   ·refine Al f Z aL ?_
    refine Ae ?_
    refine Ab f Z λa f=>Ac f Z λa f=>Aa ?_
    refine Aq ?_
    obtain rfl:=sj hd
    exact⟨[v0],f.g Z,f.d,_,[it0],(gt az aK),m,_,_,Z,Z,o0⟩
   ·refine Ah f Z aL ?_
    refine Am ?_
    refine Ae ?_
    refine Ab f Z λa f=>Ab f Z λa f=> ?_
    obtain⟨aM,aN,m,aO⟩:=Ow.stamp (RI.mono _) o0 m
    have⟨aP,aQ,hd⟩:=bind_some hd
    refine FC T26 f Z Z aO (.inl ⟨Z,Z⟩) (.inr ⟨_,_,Z,Z⟩) aQ λaR a aS f=> ?_
    have⟨aT,aU,hd⟩:=bind_some hd
    refine AL f Z call43 (Wk.e m aS aU) λaV aW aX w aY m aZ a f=> ?_
    obtain⟨a0,a1,rfl,rfl,a2⟩:=aZ
    have aO:=rd1 aY aO
    refine Ab f Z λa f=>AP (R:=R0) (xs:=([x1]:LI)) (RI.one _) m T26 f Z Z Z (by decide) (All2.cons Z (All2.nil _)) λa3 a4 w a m a5 f=> ?_
    have⟨a6,a7,hd⟩:=bind_some hd
    refine AW (RI.one _) 1 m a2 Z T26 Z (by decide) f Z Z Z (Ow.src (j:=0) a5 m Z) a7 λa8 a9 w a m ba f=>Ac f Z λa f=>Ay ?_
    refine Ab f Z λa f=>Ab f Z λa f=>Ab f Z λa f=> ?_
    have⟨bb,bc,hd⟩:=bind_some hd
    refine FC T26 f Z Z aO (.inr ⟨_,_,Z,Z⟩) (.inl ⟨Z,Z⟩) bc λbd a be f=> ?_
    have⟨bf,bg,hd⟩:=bind_some hd
    refine AW (RI.one _) 1 m ba Z T26 Z (by decide) f Z Z Z (be.src m) bg λbh bi w a m bj f=>Ac f Z λa f=>Aa ?_
    refine Aq ?_
    have m:=m.fr 1
    have m:=m.eraseAt 1
    obtain rfl:=sj hd
    exact⟨[bi],f.g Z,f.d,_,[bh],(gt az (gt aK (gt aN aY))),m,_,_,Z,Z,bj⟩
theorem Wk.T {aa v1:Value}{ab:LL}{x1:(List Bool)}{x2:Int}(m:Mem W G w (H))(ac:R2 G aa ab)(h1:RSl RB G v1 x1){y:(LI)}(hd:D.T ab x1 x2=some y):
  Calls prog 69 #[(.agg #[aa]),v1,(iv x2)] w (Res W G H (λG' Ho v=>∃r0:Value,∃i0:Itm,Ho=[i0]∧r0=v∧Ow R0 2 G' i0 r0 y)):=by
 refine Ar (args:=[(.agg #[aa]),v1,(iv x2)]) (N:=81) [.tmp 6] func69 Z Z (lb Z) Z λa f=> ?_
 unfold D.T at hd
 refine Ae ?_
 refine Bi (cs:=[aa]) m f Z Z Z λad w a m f=>Ac f Z λa f=>Ay ?_
 refine Ab f Z λa f=>AP (R:=R0) (xs:=([x2]:LI)) (RI.one _) m T26 f Z Z Z (by decide) (All2.cons Z (All2.nil _)) λae af w a m ag f=>Ac f Z λa f=>Ay ?_
 refine AP (R:=R0) (xs:=([]:LI)) (RI.one _) m T26 f Z Z Z (by decide) (All2.nil _) λah ai w a m aj f=>Ac f Z λa f=>Aa (Ag (Ae ?_))
 refine Ac f Z λa f=>Aa ?_
 have⟨ak,al,hd⟩:=bind_some hd
 refine AH (λa w=>∃am:LI,am=ak∧∃(an:GH) (ao:Value) (ap:Itm),GLe G an∧Fr a 81 [(8,ao)]∧Mem W an w (ap::H)∧Ow R0 2 an ap ao am) ?_ ?_
 ·refine Ak ?_
  have m:=m.fr 1
  have m:=m.fr 2
  refine AC (λaq a w=>∃ar:LI,∃au:LI,∃av:Int,(ar,au,av)=aq∧∃(aw:GH) (ax:Value) (ay:Itm) (az:Value) (aA:Itm),GLe G aw∧Fr a 81 [(1,v1),(2,(iv x2)),(3,(pb ad)),(7,ax),(8,az),(9,(iv av))]∧Mem W aw w (ib ad 31 [aa]::ay::aA::H)∧Ow R0 2 aw ay ax ar∧Ow R0 2 aw aA az au) al ⟨_,_,_,Z,_,af,ae,ai,ah,gr,f.k Z,m,ag,aj⟩ ?_
  clear al f m
  rintro aq aB aC aD a w ⟨ar,au,av,rfl,aw,ax,ay,az,aA,aE,f,m,aF,aG⟩
  have h1:=RSl.mono RB.mono _ _ _ _ aE h1
  have ac:=rd2 aE ac
  refine Ag (Ae ?_)
  refine Ab f Z λa f=>Ab f Z λa f=>BE 1 m aF Z underlying26 f Z Z λa f=>Ai f Z Z AE λa f=>Aa ?_
  rcases Af aC with⟨aH,aC⟩|⟨aH,aC⟩
  ·refine Al f Z aH ?_
   refine Am ?_
   refine Ag (Ak (Ag ?_))
   refine A3 9 AM (by kernel_rfl) m ?_
   refine BW 0 9 underlying31 Z sizeOf22 Z f Z λa f=>BK 1 9 0 Bb Z Z Z f Z λa f=>Ao 2 9 Z f Z λa f=>Ao 3 9 Z f Z λa f=> ?_
   have⟨aI,aJ,aC⟩:=bind_some aC
   refine A8 4 9 1 m aF T26 aJ Z f Z Z λaK a aL f=>Bo 5 9 1 aF Pl2 aL aJ Z f Z λaM a aN f=> ?_
   subst aN
   have⟨aO,aP,aC⟩:=bind_some aC
   refine BJ 6 9 T22 ac aP Z f Z Z λaQ aR a aS aT f=>BI 7 9 AT aS Z f Z λa f=>q_p 8 9 Z f (λ_=>Br (f.e Z)) λa f=>AU λaU w aV m=> ?_
   have h1:=RSl.mono RB.mono _ _ _ _ aV h1
   have aT:=rd1 aV aT
   have aF:=od1 aV aF
   have aG:=od1 aV aG
   refine Ay ?_
   refine Ac f Z λa f=>Aa ?_
   have⟨aW,aX,aC⟩:=bind_some aC
   refine AH (λa w=>∃aY:LI,∃aZ:LI,(aY,aZ)=aW∧∃(a0:GH) (a1:Value) (a2:Itm) (a3:Value) (a4:Itm),GLe aU a0∧Fr a 81 [(1,v1),(2,(iv x2)),(3,(pb ad)),(7,a1),(8,a3),(9,(iv av))]∧Mem W a0 w (ib ad 31 [aa]::a2::a4::H)∧Ow R0 2 a0 a2 a1 aY∧Ow R0 2 a0 a4 a3 aZ) ?_ ?_
   ·refine Ak ?_
    refine AC (λa5 a w=>∃a6:LI,∃a7:LI,∃a8:Int,(a6,a7,a8)=a5∧∃(a9:GH) (ba:Value) (bb:Itm) (bc:Value) (bd:Itm),GLe aU a9∧Fr a 81 [(1,v1),(2,(iv x2)),(3,(pb ad)),(7,ba),(8,bc),(9,(iv av)),(10,aR),(11,(iv a8))]∧Mem W a9 w (ib ad 31 [aa]::bb::bd::H)∧Ow R0 2 a9 bb ba a6∧Ow R0 2 a9 bd bc a7) aX ⟨_,_,_,Z,_,ax,ay,az,aA,gr,f.k Z,m,aF,aG⟩ ?_
    clear aX f m
    rintro a5 be bf bg a w ⟨a6,a7,a8,rfl,a9,ba,bb,bc,bd,bh,f,m,bi,bj⟩
    have h1:=RSl.mono RB.mono _ _ _ _ bh h1
    have aT:=rd1 bh aT
    refine Ag (Ae ?_)
    refine Ab f Z λa f=>Ab f Z λa f=>AO underlying26 f Z Z aT λa f=>Ai f Z Z AE λa f=>Aa ?_
    rcases Af bf with⟨bk,bf⟩|⟨bk,bf⟩
    ·refine Al f Z bk ?_
     refine Am ?_
     refine Ag (Ak (Ag (Ae ?_)))
     refine Ab f Z λa f=>Ab f Z λa f=>Ab f Z λa f=> ?_
     have⟨bl,bm,bf⟩:=bind_some bf
     refine A2 T26 f Z Z Z aT bm λbn bo a bp bq f=> ?_
     subst bq
     refine Ax m Pl2 f Z Z bp λa f=> ?_
     have⟨br,bs,bf⟩:=bind_some bf
     refine A2 T85 f Z Z Z h1 bs λbt bu a bv bw f=> ?_
     subst bw
     refine Ax m Pl4 f Z Z bv λa f=>Ab f Z λa f=> ?_
     have⟨bx,bz,bf⟩:=bind_some bf
     refine BH 8 (λa w=>∃bA,GLe a9 bA∧Mem W bA w (ib ad 31 [aa]::bb::bd::H)∧Fr a 81 [(1,v1),(2,(iv x2)),(3,(pb ad)),(7,ba),(8,bc),(9,(iv av)),(10,aR),(11,(iv a8)),(32,(.bool (decide (a8<(aO.length:Int))))),(35,v1),(36,aR),(37,(iv a8)),(38,bn),(39,(iv bl)),(40,bt),(41,(.bool br)),(42,(.bool br)),(50,(.bool bx))]) ?_ ?_
     ·rcases Af bz with⟨bB,bz⟩|⟨bB,bz⟩
      ·refine AF f bB ?_
       refine Ab f Z λa f=>AF f bB ?_
       refine Ab f Z λa f=>AF f bB ?_
       refine Ab f Z λa f=>AF f bB ?_
       have⟨bC,bD,bz⟩:=bind_some bz
       refine A2 T26 f Z Z Z aT bD λbE bF a bG bH f=> ?_
       subst bH
       refine AF f bB ?_
       refine Ax m Pl2 f Z Z bG λa f=>AF f bB ?_
       have⟨bI,bJ,bz⟩:=bind_some bz
       refine AL f Z call39 (Ow.lendCall (RI.mono _) 1 bi m Z (λbK bL m bM=>Wk.c m bM bJ) (λ_ _ _ _ h=>h)) λbN bO bP w bQ m bR a f=> ?_
       obtain⟨rfl,rfl⟩:=bR
       refine AF f bB ?_
       refine l_o f (Bv (f.e Z)) λa f=>l_o f (A4 (f.e Z) bB (f.e Z)) λa f=> ?_
       obtain rfl:=sj bz
       exact⟨_,bQ,m,f.k Z⟩
      ·refine AG f bB λa f=> ?_
       refine AG f bB λa f=>AG f bB λa f=>AG f bB λa f=>AG f bB λa f=>AG f bB λa f=>AG f bB λa f=>l_o f (A5 (f.e Z) bB (f.e Z)) λa f=> ?_
       obtain rfl:=sj bz
       exact⟨_,gr,m,f.k Z⟩
     ·rintro a w ⟨bA,bS,m,f⟩
      have h1:=RSl.mono RB.mono _ _ _ _ bS h1
      have aT:=rd1 bS aT
      have bi:=od1 bS bi
      have bj:=od1 bS bj
      refine Aa ?_
      have⟨bT,bU,bf⟩:=bind_some bf
      refine AH (λa w=>∃bV:LI,bV=bT∧∃(bW:GH) (bX:Value) (bY:Itm),GLe bA bW∧Fr a 81 [(1,v1),(2,(iv x2)),(3,(pb ad)),(7,bX),(8,bc),(9,(iv av)),(10,aR),(11,(iv a8))]∧Mem W bW w (ib ad 31 [aa]::bY::bd::H)∧Ow R0 2 bW bY bX bV) ?_ ?_
      ·rcases Af bU with⟨bZ,bU⟩|⟨bZ,bU⟩
       ·refine Al f Z bZ ?_
        refine Aj ?_
        refine Ab f Z λa f=>Ab f Z λa f=>Ab f Z λa f=> ?_
        have⟨b0,b1,bU⟩:=bind_some bU
        refine A2 T26 f Z Z Z aT b1 λb2 b3 a b4 b5 f=> ?_
        subst b5
        refine Ax m Pl2 f Z Z b4 λa f=>AP (R:=R0) (xs:=([b0]:LI)) (RI.one _) m T26 f Z Z Z (by decide) (All2.cons Z (All2.nil _)) λb6 b7 w a m b8 f=> ?_
        have⟨b9,ca,bU⟩:=bind_some bU
        refine AW (RI.one _) 2 m bi Z T26 Z (by decide) f Z Z Z (Ow.src (j:=0) b8 m Z) ca λcb cc w a m cd f=>Ac f Z λa f=>Aa ?_
        have m:=m.fr 3
        have m:=m.fr 3
        have m:Mem W bA w (ib ad 31 [aa]::cb::bd::b6::H):=m.fr 3
        have m:=m.eraseAt 3
        obtain rfl:=sj bU
        exact⟨_,Z,_,cc,cb,gr,f.k Z,m,cd⟩
       ·refine Ah f Z bZ ?_
        refine Am ?_
        obtain rfl:=sj bU
        exact⟨_,Z,_,ba,bb,gr,f.k Z,m,bi⟩
      ·rintro a w ⟨bV,rfl,bW,bX,bY,ce,f,m,cf⟩
       have h1:=RSl.mono RB.mono _ _ _ _ ce h1
       have aT:=rd1 ce aT
       have bj:=od1 ce bj
       refine Ae ?_
       refine Ab f Z λa f=>Ab f Z λa f=>Ab f Z λa f=> ?_
       have⟨cg,ch,bf⟩:=bind_some bf
       refine A2 T26 f Z Z Z aT ch λci cj a ck cl f=> ?_
       subst cl
       refine Ax m Pl2 f Z Z ck λa f=> ?_
       have⟨cm,cn,bf⟩:=bind_some bf
       refine A2 T85 f Z Z Z h1 cn λco cp a cq cr f=> ?_
       subst cr
       refine Ax m Pl4 f Z Z cq λa f=>l_o f (Bv (f.e Z)) λa f=>Ab f Z λa f=> ?_
       have⟨ct,cu,bf⟩:=bind_some bf
       refine BH 7 (λa w=>∃cv,GLe bW cv∧Mem W cv w (ib ad 31 [aa]::bY::bd::H)∧Fr a 81 [(1,v1),(2,(iv x2)),(3,(pb ad)),(7,bX),(8,bc),(9,(iv av)),(10,aR),(11,(iv a8)),(58,v1),(59,aR),(60,(iv a8)),(61,ci),(62,(iv cg)),(63,co),(64,(.bool cm)),(65,(.bool (!cm))),(66,(.bool (!cm))),(73,(.bool ct))]) ?_ ?_
       ·rcases Af cu with⟨cw,cu⟩|⟨cw,cu⟩
        ·refine AF f cw ?_
         refine Ab f Z λa f=>AF f cw ?_
         refine Ab f Z λa f=>AF f cw ?_
         have⟨cx,cy,cu⟩:=bind_some cu
         refine A2 T26 f Z Z Z aT cy λcz cA a cB cC f=> ?_
         subst cC
         refine AF f cw ?_
         refine Ax m Pl2 f Z Z cB λa f=>AF f cw ?_
         refine Ab f Z λa f=>AF f cw ?_
         refine Ai f Z Z B8 λa f=>l_o f (A4 (f.e Z) cw (f.e Z)) λa f=> ?_
         obtain rfl:=sj cu
         exact⟨_,gr,m,f.k Z⟩
        ·refine AG f cw λa f=> ?_
         refine AG f cw λa f=>AG f cw λa f=>AG f cw λa f=>AG f cw λa f=>AG f cw λa f=>l_o f (A5 (f.e Z) cw (f.e Z)) λa f=> ?_
         obtain rfl:=sj cu
         exact⟨_,gr,m,f.k Z⟩
       ·rintro a w ⟨cv,cD,m,f⟩
        have aT:=rd1 cD aT
        have cf:=od1 cD cf
        have bj:=od1 cD bj
        refine Aa ?_
        rcases Af bf with⟨cE,bf⟩|⟨cE,bf⟩
        ·refine Al f Z cE ?_
         refine Aj ?_
         refine Ab f Z λa f=>Ab f Z λa f=>Ab f Z λa f=> ?_
         have⟨cF,cG,bf⟩:=bind_some bf
         refine A2 T26 f Z Z Z aT cG λcH cI a cJ cK f=> ?_
         subst cK
         refine Ax m Pl2 f Z Z cJ λa f=> ?_
         have m:=m.fr 2
         have⟨cL,cM,bf⟩:=bind_some bf
         refine AL f Z call65 (Wk.V1 m bj cM) λcN cO cP w cQ m cR a f=> ?_
         obtain⟨cS,cT,rfl,rfl,cU⟩:=cR
         have cf:=od1 cQ cf
         refine Ac f Z λa f=>Aa (Aj ?_)
         refine Ab f Z λa f=>Ai f Z Z Aw λa f=>Ac f Z λa f=>Aa ?_
         have m:=m.fr 2
         have m:=m.fr 2
         obtain rfl:=sj bf
         exact⟨_,Z,_,_,_,Z,_,bX,bY,cS,cT,(gt bh (gt bS (gt ce (gt cD cQ)))),f.k Z,m,cf,cU⟩
        ·refine Ah f Z cE ?_
         refine Am ?_
         refine Aj ?_
         refine Ab f Z λa f=>Ai f Z Z Aw λa f=>Ac f Z λa f=>Aa ?_
         obtain rfl:=sj bf
         exact⟨_,Z,_,_,_,Z,_,bX,bY,bc,bd,(gt bh (gt bS (gt ce cD))),f.k Z,m,cf,bj⟩
    ·refine Ah f Z bk ?_
     refine AA Z ?_
     obtain rfl:=sj bf
     obtain rfl:=bg _ rfl
     exact⟨_,_,Z,_,ba,bb,bc,bd,bh,f.k Z,m,bi,bj⟩
   ·rintro a w ⟨aY,aZ,rfl,a0,a1,a2,a3,a4,cV,f,m,cW,cX⟩
    refine Aj ?_
    refine Ab f Z λa f=>Ai f Z Z Aw λa f=>Ac f Z λa f=>Aa ?_
    obtain rfl:=sj aC
    exact⟨_,Z,_,_,_,Z,_,a1,a2,a3,a4,(gt aE (gt aV cV)),f.k Z,m,cW,cX⟩
  ·refine Ah f Z aH ?_
   refine AA Z ?_
   have m:=m.fr 2
   have m:=m.eraseAt 2
   have m:=m.eraseAt 1
   obtain rfl:=sj aC
   obtain rfl:=aD _ rfl
   exact⟨_,Z,_,az,aA,aE,f.k Z,m,aG⟩
 ·rintro a w ⟨am,rfl,an,ao,ap,cY,f,m,cZ⟩
  refine Ae ?_
  refine Ab f Z λa f=>Ac f Z λa f=>Aa ?_
  refine Aq ?_
  obtain rfl:=sj hd
  exact⟨[ao],f.g Z,f.d,_,[ap],cY,m,_,_,Z,Z,cZ⟩
theorem Wk.K {x0 x1:Int}(m:Mem W G w (H)){y:Int}(hd:D.K x0 x1=some y):
  Calls prog 107 #[(iv x0),(iv x1)] w (Res W G H (λ_ Ho v=>Ho=[]∧v=(iv y))):=by
 refine Ar (args:=[(iv x0),(iv x1)]) (N:=10) [.tmp 4] func107 Z Z (lb Z) Z λa f=> ?_
 unfold D.K at hd
 refine Ae ?_
 refine Ac f Z λa f=>Aa (Ag (Ae ?_))
 refine Ab f Z λa f=>Ab f Z λa f=>Ai f Z Z Cf λa f=>Aa ?_
 rcases Af hd with⟨aa,hd⟩|⟨aa,hd⟩
 ·refine Al f Z aa ?_
  refine Ae ?_
  refine Ab f Z λa f=>Ac f Z λa f=>Aa ?_
  refine Aq ?_
  obtain rfl:=sj hd
  exact⟨[(iv x0)],f.g Z,f.d,_,[],gr,m,Z,Z⟩
 ·refine Ah f Z aa ?_
  refine Am ?_
  refine Ae ?_
  refine Ab f Z λa f=>Ac f Z λa f=>Aa ?_
  refine Aq ?_
  obtain rfl:=sj hd
  exact⟨[(iv x1)],f.g Z,f.d,_,[],gr,m,Z,Z⟩
theorem Wk.B0 {W:World}(n:Nat):∀{w:World} {G:GH} {H:List Itm} {aa v1:Value} {it1:Itm} {v2:Value} {it2:Itm} {ab:LL} {x1:(List Bool)} {x2:LI} (m:Mem W G w (it1::it2::H)) (ac:R2 G aa ab) (o1:Ow RB 4 G it1 v1 x1) (o2:Ow R0 2 G it2 v2 x2) {y:Int×((List Bool))×(LI)} (hd:D.B0 n ab x1 x2=some y),
  Calls prog 68 #[(.agg #[aa]),v1,v2] w (Res W G H (λG' Ho v=>∃i0:Itm,∃i1:Itm,Ho=[i0,i1]∧v=(iv y.1)∧Ow RB 4 G' i0 v1 y.2.1∧Ow R0 2 G' i1 v2 y.2.2)):=by
 induction n with
 |zero=>intros;rename_i hd;simp[D.B0] at hd
 |succ fuel ih=>
  intro w G H aa v1 it1 v2 it2 ab x1 x2 m ac o1 o2 y hd
  refine Ar (args:=[(.agg #[aa]),v1,v2]) (N:=66) [.tmp 6] func68 Z Z (lb Z) Z λa f=> ?_
  unfold D.B0 at hd
  refine Ae ?_
  refine Bi (cs:=[aa]) m f Z Z Z λad w a m f=>Ac f Z λa f=>Ay ?_
  refine Ab f Z λa f=> ?_
  have⟨ae,af,hd⟩:=bind_some hd
  refine AL f Z call109 (Ow.lendCall RB.mono 1 o1 m Z (λag ah m ai=>Wk.e1 m ai af) (λ_ _ _ _ h=>h)) λaj ak al w am m an a f=> ?_
  obtain⟨rfl,rfl⟩:=an
  have ac:=rd2 am ac
  have o1:=Ow.mono RB.mono am o1
  have o2:=od1 am o2
  refine Ac f Z λa f=>Aa (Ag (Ae ?_))
  refine Ab f Z λa f=>Ab f Z λa f=> ?_
  have⟨ao,ap,hd⟩:=bind_some hd
  refine AZ 2 m o2 Z T26 f Z Z Z ap λaq a ar f=>BA 2 m o2 Z Pl2 f Z Z ar ap λau a av f=> ?_
  subst av
  refine Ai f Z Z Cs λa f=>Aa ?_
  rcases Af hd with⟨aw,hd⟩|⟨aw,hd⟩
  ·refine Al f Z aw ?_
   refine Ae ?_
   refine Ab f Z λa f=>Ab f Z λa f=> ?_
   have⟨ax,ay,hd⟩:=bind_some hd
   refine AZ 2 m o2 Z T26 f Z Z Z ay λaz a aA f=>BA 2 m o2 Z Pl2 f Z Z aA ay λaB a aC f=> ?_
   subst aC
   refine Ac f Z λa f=>Aa ?_
   refine Aq ?_
   have m:=m.fr 2
   have m:=m.fr 2
   have m:=m.eraseAt 2
   obtain rfl:=sj hd
   exact⟨[(iv ax)],f.g Z,f.d,_,[it1,it2],am,m,_,_,Z,Z,o1,o2⟩
  ·refine Ah f Z aw ?_
   refine Am ?_
   refine Ae ?_
   refine Ac f Z λa f=>Aa (Ag (Ae ?_))
   refine Ac f Z λa f=>Aa ?_
   have⟨aD,aE,hd⟩:=bind_some hd
   refine AH (λa w=>∃aF:LI,∃aG:List Bool,∃aH:Int,(aF,aG,aH)=aD∧∃(aI:GH) (aJ:Itm) (aK:Itm),GLe ak aI∧Fr a 66 [(2,v2),(7,(iv ae)),(8,(iv aH))]∧Mem W aI w (aJ::aK::H)∧Ow R0 2 aI aJ v2 aF∧Ow RB 4 aI aK v1 aG) ?_ ?_
   ·refine Ak ?_
    have m:=m.fr 2
    have m:=m.fr 1
    refine AC (λaL a w=>∃aM:LI,∃aN:List Bool,∃aO:Int,∃aP:Int,(aM,aN,aO,aP)=aL∧∃(aQ:GH) (aR:Itm) (aS:Itm),GLe ak aQ∧Fr a 66 [(1,v1),(2,v2),(3,(pb ad)),(7,(iv ae)),(8,(iv aO)),(9,(iv aP))]∧Mem W aQ w (ib ad 31 [aa]::aR::aS::H)∧Ow R0 2 aQ aR v2 aM∧Ow RB 4 aQ aS v1 aN) aE ⟨_,_,_,_,Z,_,it2,it1,gr,f.k Z,m,o2,o1⟩ ?_
    clear aE f m
    rintro aL aT aU aV a w ⟨aM,aN,aO,aP,rfl,aQ,aR,aS,aW,f,m,aX,aY⟩
    have ac:=rd2 aW ac
    refine Ag (Ae ?_)
    refine Ab f Z λa f=>AB 0 0 (ds:=[aa]) m Bj f Z Z Z Z Z λa f=> ?_
    have⟨aZ,a2,aU⟩:=bind_some aU
    refine A6 f Z call31 (Wk.a m ac a2) λa3 w a4 m a f=> ?_
    have ac:=rd2 a4 ac
    have aX:=od1 a4 aX
    have aY:=Ow.mono RB.mono a4 aY
    refine Ai f Z Z AE λa f=>Aa ?_
    rcases Af aU with⟨a5,aU⟩|⟨a5,aU⟩
    ·refine Al f Z a5 ?_
     refine Am ?_
     refine Ag (Ak (Ag (Ae ?_)))
     refine Ab f Z λa f=>Ab f Z λa f=> ?_
     have⟨a6,a7,aU⟩:=bind_some aU
     refine AZ 2 m aY Z T85 f Z Z Z a7 λa8 a a9 f=>BA 2 m aY Z Pl4 f Z Z a9 a7 λba a bb f=> ?_
     subst bb
     refine Aa ?_
     rcases Af aU with⟨bc,aU⟩|⟨bc,aU⟩
     ·refine Al f Z bc ?_
      refine AA Z ?_
      refine Aj ?_
      refine Ab f Z λa f=>Ai f Z Z Aw λa f=>Ac f Z λa f=>Aa ?_
      obtain rfl:=sj aU
      exact⟨_,Z,_,_,_,_,Z,_,aR,aS,(gt aW a4),f.k Z,m,aX,aY⟩
     ·refine Ah f Z bc ?_
      refine Am ?_
      refine Ae ?_
      refine AB 0 0 (ds:=[aa]) m Bj f Z Z Z Z Z λa f=>Ab f Z λa f=>Ab f Z λa f=> ?_
      have⟨bd,be,aU⟩:=bind_some aU
      refine AL f Z call69 (Ow.lendCall RB.mono 2 aY m Z (λbf bg m bh=>Wk.T m (rd2 bg ac) bh be) (λ_ G' _ _ ⟨a0,a1,e1,e2,o0⟩=>⟨a0,a1,e1,e2,Ow.free (RI.free _) G' o0⟩)) λbi bj bk w bl m bm a f=> ?_
      obtain⟨bn,bo,rfl,rfl,bp⟩:=bm
      have ac:=rd2 bl ac
      have aX:=od1 bl aX
      have aY:=Ow.mono RB.mono bl aY
      refine BE 0 m bp Z underlying26 f Z Z λa f=>Ac f Z λa f=>Ay ?_
      refine Ab f Z λa f=>Ab f Z λa f=> ?_
      have⟨bq,br,aU⟩:=bind_some aU
      refine AZ 3 m aY Z T85 f Z Z Z br λbs a bt f=>AQ 3 m aY Z sizeOf4 f Z Z bt br Z Z Z λbu w m bv=>Ay ?_
      refine Ab f Z λa f=>AB 1 0 (ds:=[aa]) m Bj f Z Z Z Z Z λa f=>Ab f Z λa f=>Ab f Z λa f=> ?_
      have m:=m.fr 2
      have m:=m.fr 3
      have⟨bw,bx,aU⟩:=bind_some aU
      refine AL f Z call68 (ih m ac bv aX bx) λbz bA bB w bC m bD a f=> ?_
      obtain⟨bE,bF,rfl,rfl,bG,bH⟩:=bD
      have⟨bI,bJ,aU⟩:=bind_some aU
      refine A6 f Z call107 (Wk.K m bJ) λbK w bL m a f=> ?_
      have bG:=Ow.mono RB.mono bL bG
      have bH:=od1 bL bH
      refine Ac f Z λa f=>Ay ?_
      refine Ab f Z λa f=>Ab f Z λa f=> ?_
      have⟨bM,bN,aU⟩:=bind_some aU
      refine AZ 0 m bG Z T85 f Z Z Z bN λbO a bP f=>AQ 0 m bG Z sizeOf4 f Z Z bP bN Z Z Z λbQ w m bR=>Ay ?_
      refine Ab f Z λa f=>Ai f Z Z AE λa f=>Ab f Z λa f=> ?_
      refine BH 4 (λa w=>∃bS,GLe bK bS∧Mem W bS w (bQ::bF::bo::ib ad 31 [aa]::H)∧Fr a 66 [(1,v1),(2,v2),(3,(pb ad)),(7,(iv ae)),(8,(iv aO)),(9,(iv aP)),(10,(iv bI)),(49,(iv aO)),(50,(.bool (decide (aO<0)))),(51,(.bool (decide (aO<0)))),(55,(.bool ((decide (aO<0))||(decide (bI<aO)))))]) ?_ ?_
      ·rcases Bool.eq_false_or_eq_true (decide (aO<0)) with bT|bT
       ·refine AG f bT λa f=> ?_
        refine AG f bT λa f=>AG f bT λa f=>l_o f (A4 (f.e Z) bT (f.e Z)) λa f=> ?_
        exact⟨_,gr,m,f.weak ⟨Z,Z,Z,Z,Z,Z,Z,Z,Z,Z,by rw[bT];rfl,trivial⟩⟩
       ·refine AF f bT ?_
        refine Ab f Z λa f=>AF f bT ?_
        refine Ab f Z λa f=>AF f bT ?_
        refine Ai f Z Z AE λa f=>l_o f (A5 (f.e Z) bT (f.e Z)) λa f=> ?_
        exact⟨_,gr,m,f.weak ⟨Z,Z,Z,Z,Z,Z,Z,Z,Z,Z,by rw[bT];rfl,trivial⟩⟩
      ·rintro a w ⟨bS,bU,m,f⟩
       have bR:=Ow.mono RB.mono bU bR
       have bH:=od1 bU bH
       refine Aa ?_
       rcases Af aU with⟨bV,aU⟩|⟨bV,aU⟩
       ·refine Al f Z bV ?_
        refine Aj ?_
        refine Ab f Z λa f=>Ac f Z λa f=>Aa (Aj ?_)
        refine Ab f Z λa f=>Ai f Z Z Aw λa f=>Ac f Z λa f=>Aa ?_
        have m:=m.fr 1
        have m:=m.fr 3
        have m:=m.eraseAt 3
        obtain rfl:=sj aU
        exact⟨_,Z,_,_,_,_,Z,_,bF,bQ,(gt aW (gt a4 (gt bl (gt bC (gt bL bU))))),f.k Z,m,bH,bR⟩
       ·refine Ah f Z bV ?_
        refine Am ?_
        refine Aj ?_
        refine Ab f Z λa f=>Ai f Z Z Aw λa f=>Ac f Z λa f=>Aa ?_
        have m:=m.fr 1
        have m:=m.fr 3
        have m:=m.eraseAt 3
        obtain rfl:=sj aU
        exact⟨_,Z,_,_,_,_,Z,_,bF,bQ,(gt aW (gt a4 (gt bl (gt bC (gt bL bU))))),f.k Z,m,bH,bR⟩
    ·refine Ah f Z a5 ?_
     refine AA Z ?_
     have m:=m.fr 2
     have m:=m.fr 2
     have m:=m.eraseAt 2
     obtain rfl:=sj aU
     obtain rfl:=aV _ rfl
     exact⟨_,_,_,Z,_,aR,aS,(gt aW a4),f.k Z,m,aX,aY⟩
   ·rintro a w ⟨aF,aG,aH,rfl,aI,aJ,aK,bW,f,m,bX,bY⟩
    refine Ae ?_
    refine Ab f Z λa f=>Ab f Z λa f=>Ab f Z λa f=> ?_
    have⟨bZ,b0,hd⟩:=bind_some hd
    refine A6 f Z call107 (Wk.K m b0) λb1 w b2 m a f=> ?_
    have bX:=od1 b2 bX
    have bY:=Ow.mono RB.mono b2 bY
    have⟨b3,b4,hd⟩:=bind_some hd
    refine AZ 0 m bX Z T26 f Z Z Z b4 λb5 a b6 f=>AQ 0 m bX Z sizeOf2 f Z Z b6 b4 Z Z Z λb7 w m b8=>Ay ?_
    refine Ab f Z λa f=>Ab f Z λa f=> ?_
    have⟨b9,ca,hd⟩:=bind_some hd
    refine AZ 0 m b8 Z T26 f Z Z Z ca λcb a cc f=>BA 0 m b8 Z Pl2 f Z Z cc ca λcd a ce f=> ?_
    subst ce
    refine Ac f Z λa f=>Aa ?_
    refine Aq ?_
    have m:=m.fr 1
    obtain rfl:=sj hd
    exact⟨[(iv b9)],f.g Z,f.d,_,[aK,b7],(gt am (gt bW b2)),m,_,_,Z,Z,bY,b8⟩
theorem Wk.k {aa v1:Value}{it1:Itm}{v2:Value}{it2:Itm}{ab:LL}{x1:(List Bool)}{x2:LI}(m:Mem W G w (it1::it2::H))(ac:R2 G aa ab)(o1:Ow RB 4 G it1 v1 x1)(o2:Ow R0 2 G it2 v2 x2){y:Int×((List Bool))×(LI)}(hd:D.k ab x1 x2=some y):
  Calls prog 68 #[(.agg #[aa]),v1,v2] w (Res W G H (λG' Ho v=>∃i0:Itm,∃i1:Itm,Ho=[i0,i1]∧v=(iv y.1)∧Ow RB 4 G' i0 v1 y.2.1∧Ow R0 2 G' i1 v2 y.2.2)):=by
 exact Wk.B0 BL m ac o1 o2 hd
theorem Wk.O0 {aa:Value}{ab:LL}(m:Mem W G w (H))(ac:R2 G aa ab){y:(LI)}(hd:D.O0 ab=some y):
  Calls prog 34 #[(.agg #[aa])] w (Res W G H (λG' Ho v=>∃r0:Value,∃i0:Itm,Ho=[i0]∧r0=v∧Ow R0 2 G' i0 r0 y)):=by
 refine Ar (args:=[(.agg #[aa])]) (N:=63) [.tmp 2] func34 Z Z (lb Z) Z λa f=> ?_
 unfold D.O0 at hd
 refine Ae ?_
 refine Bi (cs:=[aa]) m f Z Z Z λad w a m f=>Ac f Z λa f=>Ay ?_
 refine AP (R:=R0) (xs:=([]:LI)) (RI.one _) m T26 f Z Z Z (by decide) (All2.nil _) λae af w a m ag f=>Ac f Z λa f=>Aa (Ag (Ae ?_))
 refine AB 1 0 (ds:=[aa]) m Bj f Z Z Z Z Z λa f=> ?_
 have⟨ah,ai,hd⟩:=bind_some hd
 refine A6 f Z call32 (Wk.Q m ac ai) λaj w ak m a f=> ?_
 have ac:=rd2 ak ac
 have ag:=od1 ak ag
 refine l_o f (Bv (f.e Z)) λa f=>Aa ?_
 rcases Af hd with⟨al,hd⟩|⟨al,hd⟩
 ·refine Al f Z al ?_
  refine Ae ?_
  refine Ab f Z λa f=>Ac f Z λa f=>Aa ?_
  refine Aq ?_
  have m:=m.eraseAt 1
  obtain rfl:=sj hd
  exact⟨[af],f.g Z,f.d,_,[ae],ak,m,_,_,Z,Z,ag⟩
 ·refine Ah f Z al ?_
  refine Am ?_
  refine Ae ?_
  refine AB 1 0 (ds:=[aa]) m Bj f Z Z Z Z Z λa f=> ?_
  have⟨am,an,hd⟩:=bind_some hd
  refine AL f Z call67 (Wk.u0 m ac an) λao ap aq w ar m au a f=> ?_
  obtain⟨av,aw,rfl,rfl,ax⟩:=au
  have ac:=rd2 ar ac
  have ag:=od1 ar ag
  refine Ac f Z λa f=>Ay ?_
  refine AB 2 0 (ds:=[aa]) m Bj f Z Z Z Z Z λa f=> ?_
  have⟨ay,az,hd⟩:=bind_some hd
  refine A6 f Z call31 (Wk.a m ac az) λaA w aB m a f=> ?_
  have ac:=rd2 aB ac
  have ax:=od1 aB ax
  have ag:=od1 aB ag
  have⟨aC,aD,hd⟩:=bind_some hd
  refine CU (R:=RB) m T85 Z (by decide) Z f Z Z Z aD λaE aF w a m aG f=>Ac f Z λa f=>Ay ?_
  refine AB 3 0 (ds:=[aa]) m Bj f Z Z Z Z Z λa f=>Ab f Z λa f=>Ab f Z λa f=> ?_
  have⟨aH,aI,hd⟩:=bind_some hd
  refine AL f Z call68 (Wk.k m ac aG ax aI) λaJ aK aL w aM m aN a f=> ?_
  obtain⟨aO,aP,rfl,rfl,aQ,aR⟩:=aN
  have ac:=rd2 aM ac
  have ag:=od1 aM ag
  refine Ac f Z λa f=>Aa (Ag ?_)
  have⟨aS,aT,hd⟩:=bind_some hd
  refine AH (λa w=>∃aU:LI,aU=aS∧∃(aV:GH) (aW:Value) (aX:Itm),GLe aK aV∧Fr a 63 [(3,aW)]∧Mem W aV w (aX::H)∧Ow R0 2 aV aX aW aU) ?_ ?_
  ·refine Ak ?_
   have m:=m.fr 1
   have m:=m.fr 2
   have m:=m.fr 3
   refine AC (λaY a w=>∃aZ:LI,∃a2:LI,∃a3:List Bool,(aZ,a2,a3)=aY∧∃(a4:GH) (a5:Value) (a6:Itm) (a7:Itm) (a8:Itm),GLe aK a4∧Fr a 63 [(1,(pb ad)),(3,a5),(4,av),(5,aF),(6,(iv aH.1))]∧Mem W a4 w (ib ad 31 [aa]::a6::a7::a8::H)∧Ow R0 2 a4 a6 a5 aZ∧Ow R0 2 a4 a7 av a2∧Ow RB 4 a4 a8 aF a3) aT ⟨_,_,_,Z,_,af,ae,aP,aO,gr,f.k Z,m,ag,aR,aQ⟩ ?_
   clear aT f m
   rintro aY a9 ba bb a w ⟨aZ,a2,a3,rfl,a4,a5,a6,a7,a8,bc,f,m,bd,be,bf⟩
   have ac:=rd2 bc ac
   refine Ag (Ae ?_)
   refine Ab f Z λa f=>BE 1 m bd Z underlying26 f Z Z λa f=>AB 0 0 (ds:=[aa]) m Bj f Z Z Z Z Z λa f=> ?_
   have⟨bg,bh,ba⟩:=bind_some ba
   refine A6 f Z call31 (Wk.a m ac bh) λbi w bj m a f=> ?_
   have ac:=rd2 bj ac
   have bd:=od1 bj bd
   have be:=od1 bj be
   have bf:=Ow.mono RB.mono bj bf
   refine Ai f Z Z AE λa f=>Aa ?_
   rcases Af ba with⟨bk,ba⟩|⟨bk,ba⟩
   ·refine Al f Z bk ?_
    refine Am ?_
    refine Ak (Ae ?_)
    refine Ac f Z λa f=>Aa ?_
    have⟨bl,bm,ba⟩:=bind_some ba
    refine AH (λa w=>∃bn:LI,∃bo:LI,∃bp:List Bool,(bn,bo,bp)=bl∧∃(bq:GH) (br:Value) (bs:Itm) (bt:Itm) (bu:Itm),GLe bi bq∧Fr a 63 [(1,(pb ad)),(3,br),(4,av),(5,aF),(6,(iv aH.1))]∧Mem W bq w (ib ad 31 [aa]::bs::bt::bu::H)∧Ow R0 2 bq bs br bn∧Ow R0 2 bq bt av bo∧Ow RB 4 bq bu aF bp) ?_ ?_
    ·refine Ak ?_
     refine AC (λbv a w=>∃bw:LI,∃bx:List Bool,∃bz:Int,(bw,bx,bz)=bv∧∃(bA:GH) (bB:Itm) (bC:Itm),GLe bi bA∧Fr a 63 [(1,(pb ad)),(3,a5),(4,av),(5,aF),(6,(iv aH.1)),(7,(iv bz))]∧Mem W bA w (ib ad 31 [aa]::a6::bB::bC::H)∧Ow R0 2 bA bB av bw∧Ow RB 4 bA bC aF bx) bm ⟨_,_,_,Z,_,a7,a8,gr,f.k Z,m,be,bf⟩ ?_
     clear bm f m
     rintro bv bD bE bF a w ⟨bw,bx,bz,rfl,bA,bB,bC,bG,f,m,bH,bI⟩
     have ac:=rd2 bG ac
     have bd:=od1 bG bd
     refine Ag (Ae ?_)
     refine Ab f Z λa f=>AB 0 0 (ds:=[aa]) m Bj f Z Z Z Z Z λa f=> ?_
     have⟨bJ,bK,bE⟩:=bind_some bE
     refine A6 f Z call31 (Wk.a m ac bK) λbL w bM m a f=> ?_
     have ac:=rd2 bM ac
     have bd:=od1 bM bd
     have bH:=od1 bM bH
     have bI:=Ow.mono RB.mono bM bI
     refine Ai f Z Z AE λa f=>Aa ?_
     rcases Af bE with⟨bN,bE⟩|⟨bN,bE⟩
     ·refine Al f Z bN ?_
      refine Am ?_
      refine Ag (Ak (Ag (Ae ?_)))
      refine Ab f Z λa f=>Ab f Z λa f=> ?_
      have⟨bO,bP,bE⟩:=bind_some bE
      refine AZ 3 m bI Z T85 f Z Z Z bP λbQ a bR f=>BA 3 m bI Z Pl4 f Z Z bR bP λbS a bT f=> ?_
      subst bT
      refine Ab f Z λa f=> ?_
      have⟨bU,bV,bE⟩:=bind_some bE
      refine BH 8 (λa w=>∃bW,GLe bL bW∧Mem W bW w (ib ad 31 [aa]::a6::bB::bC::H)∧Fr a 63 [(1,(pb ad)),(3,a5),(4,av),(5,aF),(6,(iv aH.1)),(7,(iv bz)),(30,(.bool (decide (bz<bJ)))),(33,aF),(34,(iv bz)),(35,bQ),(36,(.bool bO)),(37,(.bool bO)),(45,(.bool bU))]) ?_ ?_
      ·rcases Af bV with⟨bX,bV⟩|⟨bX,bV⟩
       ·refine AG f bX λa f=> ?_
        refine AG f bX λa f=>AG f bX λa f=>AG f bX λa f=>AG f bX λa f=>AG f bX λa f=>AG f bX λa f=>l_o f (A4 (f.e Z) bX (f.e Z)) λa f=> ?_
        obtain rfl:=sj bV
        exact⟨_,gr,m,f.k Z⟩
       ·refine AF f bX ?_
        refine AB 0 0 (ds:=[aa]) m Bj f Z Z Z Z Z λa f=>AF f bX ?_
        refine Ab f Z λa f=>AF f bX ?_
        refine Ab f Z λa f=>AF f bX ?_
        have⟨bY,bZ,bV⟩:=bind_some bV
        refine AL f Z call69 (Ow.lendCall RB.mono 3 bI m Z (λb0 b1 m b2=>Wk.T m (rd2 b1 ac) b2 bZ) (λ_ G' _ _ ⟨a0,a1,e1,e2,o0⟩=>⟨a0,a1,e1,e2,Ow.free (RI.free _) G' o0⟩)) λb3 b4 b5 w b6 m b7 a f=> ?_
        obtain⟨b8,b9,rfl,rfl,ca⟩:=b7
        refine AF f bX ?_
        refine BE 0 m ca Z underlying26 f Z Z λa f=>AF f bX ?_
        refine Ab f Z λa f=>AF f bX ?_
        refine Ai f Z Z Cf λa f=>l_o f (A5 (f.e Z) bX (f.e Z)) λa f=> ?_
        obtain rfl:=sj bV
        have m:=m.fr 4
        have m:=m.fr 4
        have m:Mem W b4 w (a6::bB::bC::b9::ib ad 31 [aa]::H):=m.fr 4
        have m:=m.fr 4
        have m:=m.eraseAt 4
        exact⟨_,b6,m,f.k Z⟩
      ·rintro a w ⟨bW,cb,m,f⟩
       have ac:=rd2 cb ac
       have bd:=od1 cb bd
       have bH:=od1 cb bH
       have bI:=Ow.mono RB.mono cb bI
       refine Aa ?_
       rcases Af bE with⟨cc,bE⟩|⟨cc,bE⟩
       ·refine Al f Z cc ?_
        refine AA Z ?_
        refine Aj ?_
        refine Ab f Z λa f=>Ai f Z Z Aw λa f=>Ac f Z λa f=>Aa ?_
        obtain rfl:=sj bE
        exact⟨_,Z,_,_,_,Z,_,bB,bC,(gt bG (gt bM cb)),f.k Z,m,bH,bI⟩
       ·refine Ah f Z cc ?_
        refine Am ?_
        refine Ae ?_
        refine Ab f Z λa f=>Ab f Z λa f=> ?_
        have⟨cd,ce,bE⟩:=bind_some bE
        refine AZ 3 m bI Z T85 f Z Z Z ce λcf a cg f=>AQ 3 m bI Z sizeOf4 f Z Z cg ce Z Z Z λch w m ci=>Aa (Ag (Ae ?_))
        refine AB 0 0 (ds:=[aa]) m Bj f Z Z Z Z Z λa f=>Ab f Z λa f=>Ab f Z λa f=> ?_
        have m:=m.fr 2
        have m:=m.fr 3
        have⟨cj,ck,bE⟩:=bind_some bE
        refine AL f Z call68 (Wk.k m ac ci bH ck) λcl cm cn w co m cp a f=> ?_
        obtain⟨cq,cr,rfl,rfl,ct,cu⟩:=cp
        have bd:=od1 co bd
        refine Ab f Z λa f=>Ai f Z Z CD λa f=>Aa ?_
        rcases Af bE with⟨cv,bE⟩|⟨cv,bE⟩
        ·refine Al f Z cv ?_
         refine Ae ?_
         refine Ab f Z λa f=>Ab f Z λa f=>AP (R:=R0) (xs:=([bz]:LI)) (RI.one _) m T26 f Z Z Z (by decide) (All2.cons Z (All2.nil _)) λcw cx w a m cy f=> ?_
         have⟨cz,cA,bE⟩:=bind_some bE
         refine AW (RI.one _) 4 m bd Z T26 Z (by decide) f Z Z Z (Ow.src (j:=0) cy m Z) cA λcB cC w a m cD f=>Ac f Z λa f=>Aa ?_
         refine AA Z ?_
         have m:=m.fr 1
         have m:=m.fr 2
         have m:Mem W cm w (cB::cr::cq::cw::ib ad 31 [aa]::H):=m.fr 4
         have m:=m.fr 4
         have m:=m.eraseAt 4
         obtain rfl:=sj bE
         obtain rfl:=bF _ rfl
         exact⟨_,_,_,Z,_,cC,cB,cr,cq,(gt bG (gt bM (gt cb co))),f.k Z,m,cD,cu,ct⟩
        ·refine Ah f Z cv ?_
         refine Am ?_
         refine Aj ?_
         refine Ab f Z λa f=>Ab f Z λa f=> ?_
         have⟨cE,cF,bE⟩:=bind_some bE
         refine AZ 0 m ct Z T85 f Z Z Z cF λcG a cH f=>AQ 0 m ct Z sizeOf4 f Z Z cH cF Z Z Z λcI w m cJ=>Aa (Aj ?_)
         refine Ab f Z λa f=>Ai f Z Z Aw λa f=>Ac f Z λa f=>Aa ?_
         have m:=m.fr 1
         have m:=m.fr 3
         have m:=m.fr 3
         obtain rfl:=sj bE
         exact⟨_,Z,_,_,_,Z,_,cr,cI,(gt bG (gt bM (gt cb co))),f.k Z,m,cu,cJ⟩
     ·refine Ah f Z bN ?_
      refine AA Z ?_
      obtain rfl:=sj bE
      obtain rfl:=bF _ rfl
      exact⟨_,_,_,Z,_,a5,a6,bB,bC,(gt bG bM),f.k Z,m,bd,bH,bI⟩
    ·rintro a w ⟨bn,bo,bp,rfl,bq,br,bs,bt,bu,cK,f,m,cL,cM,cN⟩
     obtain rfl:=sj ba
     exact⟨_,Z,_,_,_,Z,_,br,bs,bt,bu,(gt bc (gt bj cK)),f.k Z,m,cL,cM,cN⟩
   ·refine Ah f Z bk ?_
    refine AA Z ?_
    have m:=m.fr 1
    have m:=m.eraseAt 3
    have m:Mem W bi w (a6::ib ad 31 [aa]::H):=m.eraseAt 2
    have m:=m.eraseAt 1
    obtain rfl:=sj ba
    obtain rfl:=bb _ rfl
    exact⟨_,Z,_,a5,a6,(gt bc bj),f.k Z,m,bd⟩
  ·rintro a w ⟨aU,rfl,aV,aW,aX,cO,f,m,cP⟩
   refine Ae ?_
   refine Ab f Z λa f=>Ac f Z λa f=>Aa ?_
   refine Aq ?_
   obtain rfl:=sj hd
   exact⟨[aW],f.g Z,f.d,_,[aX],(gt ak (gt ar (gt aB (gt aM cO)))),m,_,_,Z,Z,cP⟩
end Go.Proofs.YtkoehcencogjpaaGreatDoor

set_option maxRecDepth 100000
namespace Go.Proofs.YtkoehcencogjpaaGreatDoor
open Go Go.Sx
open Go.Proofs.Tryz Go.Proofs.YtkoehcencogjpaaGreatDoor.Tryz IntKind
variable {W w : World} {G : GH} {H : List Itm}
theorem Ck :Agg prog 41 2:=⟨isAgg41,sizeOf41⟩
theorem Wk.l2 {aa:Value}{ab:LL}{x1:Int}(m:Mem W G w (H))(ac:R2 G aa ab){y:Bool}(hd:D.l2 ab x1=some y):
  Calls prog 134 #[(.agg #[aa]),(iv x1)] w (Res W G H (λ_ Ho v=>Ho=[]∧v=(.bool y))):=by
 refine Ar (args:=[(.agg #[aa]),(iv x1)]) (N:=10) [.tmp 4] func134 Z Z (lb Z) Z λa f=> ?_
 unfold D.l2 at hd
 refine Ae ?_
 refine Bi (cs:=[aa]) m f Z Z Z λad w a m f=>Ac f Z λa f=>Ay ?_
 refine Ab f Z λa f=>AB 0 0 (ds:=[aa]) m Bj f Z Z Z Z Z λa f=> ?_
 have⟨ae,af,hd⟩:=bind_some hd
 refine A6 f Z call31 (Wk.a m ac af) λag w ah m a f=>Ai f Z Z Bh λa f=> ?_
 have⟨ai,aj,hd⟩:=bind_some hd
 refine A6 f Z call61 (Wk.d m aj) λak w al m a f=>Ac f Z λa f=>Aa ?_
 refine Aq ?_
 have m:Mem W ak w H:=Mem.drop (H':=[ib ad 31 [aa]]) m
 obtain rfl:=sj hd
 exact⟨[(.bool ai)],f.g Z,f.d,_,[],(gt ah al),m,Z,Z⟩
theorem Wk.j2 {aa v1:Value}{ab:LL}{x1:LI}(m:Mem W G w (H))(ac:R2 G aa ab)(h1:R1 G v1 x1){y:Bool}(hd:D.j2 ab x1=some y):
  Calls prog 103 #[(.agg #[aa]),v1] w (Res W G H (λ_ Ho v=>Ho=[]∧v=(.bool y))):=by
 refine Ar (args:=[(.agg #[aa]),v1]) (N:=34) [.tmp 4] func103 Z Z (lb Z) Z λa f=> ?_
 unfold D.j2 at hd
 refine Ae ?_
 refine Bi (cs:=[aa]) m f Z Z Z λad w a m f=>Ac f Z λa f=>Aa (Ag (Ae ?_))
 refine Ab f Z λa f=>AO underlying26 f Z Z h1 λa f=>AB 0 0 (ds:=[aa]) m Bj f Z Z Z Z Z λa f=> ?_
 have⟨ae,af,hd⟩:=bind_some hd
 refine A6 f Z call31 (Wk.a m ac af) λag w ah m a f=> ?_
 have ac:=rd2 ah ac
 have h1:=rd1 ah h1
 refine Ai f Z Z B8 λa f=>Aa ?_
 rcases Af hd with⟨ai,hd⟩|⟨ai,hd⟩
 ·refine Al f Z ai ?_
  refine Ae ?_
  refine Ac f Z λa f=>Aa ?_
  refine Aq ?_
  have m:Mem W ag w H:=Mem.drop (H':=[ib ad 31 [aa]]) m
  obtain rfl:=sj hd
  exact⟨[(.bool false)],f.g Z,f.d,_,[],ah,m,Z,Z⟩
 ·refine Ah f Z ai ?_
  refine Am ?_
  refine Ag (Ae ?_)
  refine Ac f Z λa f=>Aa ?_
  have⟨aj,ak,hd⟩:=bind_some hd
  refine AH (λa w=>∃q_99':Unit,aj= .inl q_99'∧∃(al:GH),GLe ag al∧Fr a 34 []∧Mem W al w (H)) ?_ ?_
  ·refine Ak ?_
   refine AC (λam a w=>∃an:Int,an=am∧∃(ao:GH),GLe ag ao∧Fr a 34 [(1,v1),(2,(pb ad)),(5,(iv an))]∧Mem W ao w (ib ad 31 [aa]::H)) ak ⟨_,Z,_,gr,f.k Z,m⟩ ?_
   clear ak f m
   rintro am ap aq ar a w ⟨an,rfl,ao,au,f,m⟩
   have h1:=rd1 au h1
   have ac:=rd2 au ac
   refine Ag (Ae ?_)
   refine Ab f Z λa f=>Ab f Z λa f=>AO underlying26 f Z Z h1 λa f=>Ai f Z Z AE λa f=>Aa ?_
   rcases Af aq with⟨av,aq⟩|⟨av,aq⟩
   ·refine Al f Z av ?_
    refine Am ?_
    refine Ag (Ak (Ag ?_))
    refine A3 17 AM (by kernel_rfl) m ?_
    refine BM (i:=0) (ds:=[aa]) 17 0 Bj Z Z Z Z (by kernel_rfl) Z f Z Z Z λa f=>Ao 1 17 Z f Z λa f=>Ao 2 17 Z f Z λa f=> ?_
    have⟨aw,ax,aq⟩:=bind_some aq
    refine BJ 3 17 T26 h1 ax Z f Z Z λay az a aA aB f=> ?_
    subst aB
    refine BI 4 17 Pl2 aA Z f Z λa f=> ?_
    have⟨aC,aD,aq⟩:=bind_some aq
    refine BX (i:=5) 17 Z (by kernel_rfl) Z f Z Z Z call134 (λ_ _ w aE m=>Wk.l2 m (rd2 aE ac) aD) λa f=>q_p 6 17 Z f (λ_=>Bv (f.e Z)) λa f=>Ao 7 17 Z f Z λa f=> ?_
    have⟨aF,aG,aq⟩:=bind_some aq
    refine CS (fuel':=0) (listed':= #[true,true,true,true,true,true,true,true,true,true,true,true,true,true,true,true,true]) (λa=>Fr a 34 [(1,v1),(2,(pb ad)),(5,(iv an)),(14,(.bool (decide (an<(x1.length:Int))))),(17,(.agg #[aa])),(18,v1),(19,(iv an)),(20,ay),(21,(iv aw)),(22,(.bool aC)),(23,(.bool (!aC))),(24,(.bool (!aC))),(33,(.bool aF))]) ?_ ?_
    ·intro a f
     refine AU λaH w aI m=>Aa ?_
     rcases Af aq with⟨aJ,aq⟩|⟨aJ,aq⟩
     ·refine Al f Z aJ ?_
      refine Ae ?_
      refine Ac f Z λa f=>Aa ?_
      refine Aq ?_
      have m:Mem W aH w H:=Mem.drop (H':=[ib ad 31 [aa]]) m
      obtain rfl:=sj aq
      obtain rfl:=ar _ rfl
      obtain rfl:=sj hd
      exact⟨[(.bool false)],f.g Z,f.d,_,[],(gt ah (gt au aI)),m,Z,Z⟩
     ·refine Ah f Z aJ ?_
      refine Am ?_
      refine Aj ?_
      refine Ab f Z λa f=>Ai f Z Z Aw λa f=>Ac f Z λa f=>Aa ?_
      obtain rfl:=sj aq
      exact⟨_,Z,_,Z,_,(gt au aI),f.k Z,m⟩
    ·intro aK
     rcases Af aG with⟨aL,aG⟩|⟨aL,aG⟩
     ·refine AI 8 17 Z f aL λa f=> ?_
      refine AI 9 17 Z f aL λa f=>AI 10 17 Z f aL λa f=>AI 11 17 Z f aL λa f=>AI 12 17 Z f aL λa f=>AI 13 17 Z f aL λa f=>AI 14 17 Z f aL λa f=>AI 15 17 Z f aL λa f=>q_p 16 17 Z f (λ_=>A4 (f.e Z) aL (f.e Z)) λa f=> ?_
      obtain rfl:=sj aG
      exact aK _ (f.k Z)
     ·refine Ao (hw:=wo f aL) 8 17 Z f Z λa f=> ?_
      refine Ao (hw:=wo f aL) 9 17 Z f Z λa f=> ?_
      have⟨aM,aN,aG⟩:=bind_some aG
      refine q_slice (i:=10) 17 T26 h1 aN Z (by kernel_rfl) Z f (BN f Z Z Z aL) Z Z (.inl ⟨Z,Z⟩) (.inr ⟨_,_,Z,Z⟩) λaO a aP f=>Ao (hw:=wo f aL) 11 17 Z f Z λa f=>Ao (hw:=wo f aL) 12 17 Z f Z λa f=> ?_
      have⟨aQ,aR,aG⟩:=bind_some aG
      refine BJ (hw:=wo f aL) 13 17 T26 h1 aR Z f Z Z λaS aT a aU aV f=> ?_
      subst aV
      refine BI (hw:=wo f aL) 14 17 Pl2 aU Z f Z λa f=> ?_
      have⟨aW,aX,aG⟩:=bind_some aG
      refine BX (i:=15) 17 Z (by kernel_rfl) Z f (BN f Z Z Z aL) Z Z call39 (λ_ _ w aY m=>Wk.c m (rd1 aY aP) aX) λa f=>q_p 16 17 Z f (λ_=>A5 (f.e Z) aL (f.e Z)) λa f=> ?_
      obtain rfl:=sj aG
      exact aK _ (f.k Z)
   ·refine Ah f Z av ?_
    refine AA Z ?_
    have m:Mem W ao w H:=Mem.drop (H':=[ib ad 31 [aa]]) m
    obtain rfl:=sj aq
    obtain rfl:=ar _ rfl
    exact⟨_,Z,_,au,f.weak trivial,m⟩
  ·rintro a w ⟨_,rfl,al,aZ,f,m⟩
   refine Ae ?_
   refine Ac f Z λa f=>Aa ?_
   refine Aq ?_
   obtain rfl:=sj hd
   exact⟨[(.bool true)],f.g Z,f.d,_,[],(gt ah aZ),m,Z,Z⟩
theorem Wk.n1 {aa v1:Value}{ab:LL}{x1:LI}(m:Mem W G w (H))(ac:R2 G aa ab)(h1:R1 G v1 x1){y:Bool}(hd:D.n1 ab x1=some y):
  Calls prog 63 #[(.agg #[aa]),v1] w (Res W G H (λ_ Ho v=>Ho=[]∧v=(.bool y))):=by
 refine Ar (args:=[(.agg #[aa]),v1]) (N:=12) [.tmp 4] func63 Z Z (lb Z) Z λa f=> ?_
 unfold D.n1 at hd
 refine Ae ?_
 refine Bi (cs:=[aa]) m f Z Z Z λad w a m f=>Ac f Z λa f=>Ay ?_
 refine AB 0 0 (ds:=[aa]) m Bj f Z Z Z Z Z λa f=> ?_
 have⟨ae,af,hd⟩:=bind_some hd
 refine A6 f Z call30 (Wk.I m ac af) λag w ah m a f=> ?_
 have ac:=rd2 ah ac
 have h1:=rd1 ah h1
 refine Ab f Z λa f=> ?_
 have⟨ai,aj,hd⟩:=bind_some hd
 refine BH 4 (λa w=>∃ak,GLe ag ak∧Mem W ak w (ib ad 31 [aa]::H)∧Fr a 12 [(0,(.agg #[aa])),(1,v1),(2,(pb ad)),(5,(.agg #[aa])),(6,(.bool ae)),(7,(.bool ae)),(11,(.bool ai))]) ?_ ?_
 ·rcases Af aj with⟨al,aj⟩|⟨al,aj⟩
  ·refine AF f al ?_
   refine AB 0 0 (ds:=[aa]) m Bj f Z Z Z Z Z λa f=>AF f al ?_
   refine Ab f Z λa f=>AF f al ?_
   have⟨am,an,aj⟩:=bind_some aj
   refine A6 f Z call103 (Wk.j2 m ac h1 an) λao w ap m a f=>l_o f (A4 (f.e Z) al (f.e Z)) λa f=> ?_
   obtain rfl:=sj aj
   exact⟨_,ap,m,f.k Z⟩
  ·refine AG f al λa f=> ?_
   refine AG f al λa f=>AG f al λa f=>l_o f (A5 (f.e Z) al (f.e Z)) λa f=> ?_
   obtain rfl:=sj aj
   exact⟨_,gr,m,f.k Z⟩
 ·rintro a w ⟨ak,aq,m,f⟩
  refine Ac f Z λa f=>Aa ?_
  refine Aq ?_
  have m:Mem W ak w H:=Mem.drop (H':=[ib ad 31 [aa]]) m
  obtain rfl:=sj hd
  exact⟨[(.bool ai)],f.g Z,f.d,_,[],(gt ah aq),m,Z,Z⟩
theorem Wk.G1 {aa:Value}{ab:LL}(m:Mem W G w (H))(ac:R2 G aa ab){y:(LL)}(hd:D.G1 ab=some y):
  Calls prog 135 #[(.agg #[aa])] w (Res W G H (λG' Ho v=>∃r0:Value,∃i0:Itm,Ho=[i0]∧v=(.agg #[r0])∧Ow R1 26 G' i0 r0 y)):=by
 refine Ar (args:=[(.agg #[aa])]) (N:=25) [.cell 2 31] func135 Z Z (lb Z) Z λa f=> ?_
 unfold D.G1 at hd
 refine Ae ?_
 refine Bi (cs:=[aa]) m f Z Z Z λad w a m f=>Bm (cs:=[sn]) zeroValue31 m f Z Z λae w a m f=>Ay ?_
 have af:∀w,(Instr.build 31 #[]).run prog w= .ok (.agg #[sn]) w:=by intro w;simp[Instr.build,Instr.fill,Bz,Bn,Bc,Bk,A7,Bx]
 refine BG f Z Z af λa f=>Bm (cs:=[sn]) zeroValue31 m f Z Z λag w a m f=>Az 0 0 (ds:=[sn]) m sizeOf31 f Z Z Z (An Z AK) Z (lb Z) Z λw m=>Aa (Ag (Ae ?_))
 refine Ac f Z λa f=>Aa ?_
 obtain⟨ah,m,ai⟩:=Ow.nil R1 26 m
 have⟨aj,ak,hd⟩:=bind_some hd
 refine AH (λa w=>∃al:LL,al=aj∧∃(am:GH) (an:Value) (ao:Itm),GLe G am∧Fr a 25 [(2,(pb ae)),(3,(pb ag))]∧Mem W am w (ib ae 31 [sn]::ib ag 31 [an]::ao::H)∧Ow R1 26 am ao an al) ?_ ?_
 ·refine Ak ?_
  have m:=m.fr 1
  have m:=m.fr 2
  have m:Mem W G w (ib ad 31 [aa]::ib ae 31 [sn]::ib ag 31 [sn]::ah::H):=m.fr 3
  refine AC (λap a w=>∃aq:Int,∃ar:LL,(aq,ar)=ap∧∃(au:GH) (av:Value) (aw:Itm),GLe G au∧Fr a 25 [(1,(pb ad)),(2,(pb ae)),(3,(pb ag)),(4,(iv aq))]∧Mem W au w (ib ad 31 [aa]::ib ae 31 [sn]::ib ag 31 [av]::aw::H)∧Ow R1 26 au aw av ar) ak ⟨_,_,Z,_,sn,ah,gr,f.k Z,m,ai⟩ ?_
  clear ak f m
  rintro ap ax ay az a w ⟨aq,ar,rfl,au,av,aw,aA,f,m,aB⟩
  have ac:=rd2 aA ac
  refine Ag (Ae ?_)
  refine Ab f Z λa f=>Bu underlying31 Z sizeOf22 f Z λa f=>AJ 0 0 m Bb f Z Z Z Z λa f=>AO underlying22 f Z Z ac λa f=>Ai f Z Z AE λa f=>Aa ?_
  rcases Af ay with⟨aC,ay⟩|⟨aC,ay⟩
  ·refine Al f Z aC ?_
   refine Am ?_
   refine Ag (Ak ?_)
   refine A3 9 AM (by kernel_rfl) m ?_
   refine BW 0 9 underlying31 Z sizeOf22 Z f Z λa f=>BK 1 9 2 Bb Z Z Z f Z λa f=>BW 2 9 underlying31 Z sizeOf22 Z f Z λa f=>BK 3 9 0 Bb Z Z Z f Z λa f=>Ao 4 9 Z f Z λa f=> ?_
   have⟨aD,aE,ay⟩:=bind_some ay
   refine BJ 5 9 T22 ac aE Z f Z Z λaF aG a aH aI f=>BI 6 9 AT aH Z f Z λa f=>Bp 7 Z λaJ w aK m aL aL=> ?_
   have aI:=rd1 aK aI
   have aB:=Ow.mono (RSl.mono (RI.mono _)) aK aB
   have⟨aM,aN,ay⟩:=bind_some ay
   refine AL f Z call43 (Wk.e m aI aN) λaO aP aQ w aR m aS a f=> ?_
   obtain⟨aT,aU,rfl,rfl,aV⟩:=aS
   have aB:=Ow.mono (RSl.mono (RI.mono _)) aR aB
   refine Aa ?_
   refine aL aP [aU] _ _ aR m ?_
   refine Bp 8 Z λaW w aX m aY aY=> ?_
   have aV:=od1 aX aV
   have aB:=Ow.mono (RSl.mono (RI.mono _)) aX aB
   obtain⟨aZ,a0,m,a1⟩:=Ow.stamp (RI.mono _) aV m
   have aB:=Ow.mono (RSl.mono (RI.mono _)) a0 aB
   refine AP (R:=R1) (xs:=([aM]:LL)) (RSl.one _) m T22 f Z Z Z (by decide) (All2.cons a1 (All2.nil _)) λa2 a3 w a m a4 f=>Aa ?_
   refine aY aZ [a2] _ _ a0 m ?_
   refine AU λa5 w a6 m=> ?_
   have a4:=Ow.mono (RSl.mono (RI.mono _)) a6 a4
   have aB:=Ow.mono (RSl.mono (RI.mono _)) a6 aB
   have⟨a7,a8,ay⟩:=bind_some ay
   refine AW (RSl.one _) 4 m aB Z T22 Z (by decide) f Z Z Z (Ow.src (j:=0) a4 m Z) a8 λa9 ba w a m bb f=>Bu underlying31 Z sizeOf22 f Z λa f=>Az 3 0 (ds:=[ba]) m sizeOf22 f Z Z (Ow.cells 4 m bb Z) (An (Ow.one1 4 m bb Z) AK) Z (lb Z) Z λw m=>Aa (Aj ?_)
   refine Ab f Z λa f=>Ai f Z Z Aw λa f=>Ac f Z λa f=>Aa ?_
   have m:=m.fr 4
   have m:=m.fr 4
   have m:Mem W a5 w (ib ae 31 [sn]::ib ag 31 [ba]::a9::a2::ib ad 31 [aa]::H):=m.fr 4
   have m:=m.fr 4
   have m:Mem W a5 w (ib ad 31 [aa]::ib ae 31 [sn]::ib ag 31 [ba]::a9::H):=m.eraseAt 4
   obtain rfl:=sj ay
   exact⟨_,Z,_,_,Z,_,ba,a9,(gt aA (gt aK (gt aR (gt aX (gt a0 a6))))),f.k Z,m,bb⟩
  ·refine Ah f Z aC ?_
   refine AA Z ?_
   have m:=m.fr 3
   have m:=m.fr 3
   have m:Mem W au w (ib ae 31 [sn]::ib ag 31 [av]::aw::ib ad 31 [aa]::H):=m.fr 3
   have m:=m.eraseAt 3
   obtain rfl:=sj ay
   obtain rfl:=az _ rfl
   exact⟨_,Z,_,av,aw,aA,f.k Z,m,aB⟩
 ·rintro a w ⟨al,rfl,am,an,ao,bc,f,m,bd⟩
  refine Ae ?_
  refine AB 1 0 (ds:=[an]) m Bj f Z Z Z Z Z λa f=>Az 0 0 (ds:=[an]) m sizeOf31 f Z Z Z (An (Ow.one1 2 m bd Z) AK) Z (lb Z) Z λw m=>Aa ?_
  refine Aq ?_
  have be:=BY (P:=prog) 0 m Bj f (s:=2) rfl rfl rfl
  have m:=m.fr 2
  have m:=m.eraseAt 2
  have m:=m.eraseAt 1
  obtain rfl:=sj hd
  exact⟨[(.agg #[an])],⟨be,trivial⟩,f.d,_,[ao],bc,m,_,_,Z,Z,bd⟩
theorem Wk.L0 {aa v2:Value}{ab:LL}{x1:Int}{x2:(List Bool)}(m:Mem W G w (H))(ac:R2 G aa ab)(h2:RSl RB G v2 x2){y:(LI)}(hd:D.L0 ab x1 x2=some y):
  Calls prog 105 #[(.agg #[aa]),(iv x1),v2] w (Res W G H (λG' Ho v=>∃r0:Value,∃i0:Itm,Ho=[i0]∧r0=v∧Ow R0 2 G' i0 r0 y)):=by
 refine Ar (args:=[(.agg #[aa]),(iv x1),v2]) (N:=44) [.tmp 6] func105 Z Z (lb Z) Z λa f=> ?_
 unfold D.L0 at hd
 refine Ae ?_
 refine Bi (cs:=[aa]) m f Z Z Z λad w a m f=>Ac f Z λa f=>Ay ?_
 refine AP (R:=R0) (xs:=([]:LI)) (RI.one _) m T26 f Z Z Z (by decide) (All2.nil _) λae af w a m ag f=>Ac f Z λa f=>Aa (Ag (Ae ?_))
 refine Ac f Z λa f=>Aa ?_
 have⟨ah,ai,hd⟩:=bind_some hd
 refine AH (λa w=>∃aj:LI,aj=ah∧∃(ak:GH) (al:Value) (am:Itm),GLe G ak∧Fr a 44 [(7,al)]∧Mem W ak w (am::H)∧Ow R0 2 ak am al aj) ?_ ?_
 ·refine Ak ?_
  have m:=m.fr 1
  refine AC (λan a w=>∃ao:LI,∃ap:Int,(ao,ap)=an∧∃(aq:GH) (ar:Value) (au:Itm),GLe G aq∧Fr a 44 [(1,(iv x1)),(2,v2),(3,(pb ad)),(7,ar),(8,(iv ap))]∧Mem W aq w (ib ad 31 [aa]::au::H)∧Ow R0 2 aq au ar ao) ai ⟨_,_,Z,_,af,ae,gr,f.k Z,m,ag⟩ ?_
  clear ai f m
  rintro an av aw ax a w ⟨ao,ap,rfl,aq,ar,au,ay,f,m,az⟩
  have h2:=RSl.mono RB.mono _ _ _ _ ay h2
  have ac:=rd2 ay ac
  refine Ag (Ae ?_)
  refine Ab f Z λa f=>Bu underlying31 Z sizeOf22 f Z λa f=>AJ 0 0 m Bb f Z Z Z Z λa f=>Ab f Z λa f=> ?_
  have⟨aA,aB,aw⟩:=bind_some aw
  refine A2 T22 f Z Z Z ac aB λaC aD a aE aF f=>Ax m AT f Z Z aE λa f=>AO underlying26 f Z Z aF λa f=>Ai f Z Z AE λa f=>Aa ?_
  rcases Af aw with⟨aG,aw⟩|⟨aG,aw⟩
  ·refine Al f Z aG ?_
   refine Am ?_
   refine Ag (Ak (Ae ?_))
   refine Ab f Z λa f=>Bu underlying31 Z sizeOf22 f Z λa f=>AJ 0 0 m Bb f Z Z Z Z λa f=>Ab f Z λa f=> ?_
   have⟨aH,aI,aw⟩:=bind_some aw
   refine A2 T22 f Z Z Z ac aI λaJ aK a aL aM f=>Ax m AT f Z Z aL λa f=>Ab f Z λa f=> ?_
   have⟨aN,aO,aw⟩:=bind_some aw
   refine A2 T26 f Z Z Z aM aO λaP aQ a aR aS f=> ?_
   subst aS
   refine Ax m Pl2 f Z Z aR λa f=> ?_
   have⟨aT,aU,aw⟩:=bind_some aw
   refine A2 T85 f Z Z Z h2 aU λaV aW a aX aY f=> ?_
   subst aY
   refine Ax m Pl4 f Z Z aX λa f=>l_o f (Bv (f.e Z)) λa f=>Aa ?_
   rcases Af aw with⟨aZ,aw⟩|⟨aZ,aw⟩
   ·refine Al f Z aZ ?_
    refine Aj ?_
    refine Ab f Z λa f=>Bu underlying31 Z sizeOf22 f Z λa f=>AJ 0 0 m Bb f Z Z Z Z λa f=>Ab f Z λa f=> ?_
    have⟨a0,a1,aw⟩:=bind_some aw
    refine A2 T22 f Z Z Z ac a1 λa2 a3 a a4 a5 f=>Ax m AT f Z Z a4 λa f=>Ab f Z λa f=> ?_
    have⟨a6,a7,aw⟩:=bind_some aw
    refine A2 T26 f Z Z Z a5 a7 λa8 a9 a ba bb f=> ?_
    subst bb
    refine Ax m Pl2 f Z Z ba λa f=>AP (R:=R0) (xs:=([a6]:LI)) (RI.one _) m T26 f Z Z Z (by decide) (All2.cons Z (All2.nil _)) λbc bd w a m be f=> ?_
    have⟨bf,bg,aw⟩:=bind_some aw
    refine AW (RI.one _) 2 m az Z T26 Z (by decide) f Z Z Z (Ow.src (j:=0) be m Z) bg λbh bi w a m bj f=>Ac f Z λa f=>Aa (Aj ?_)
    refine Ab f Z λa f=>Ai f Z Z Aw λa f=>Ac f Z λa f=>Aa ?_
    have m:=m.fr 2
    have m:=m.fr 2
    have m:=m.eraseAt 2
    obtain rfl:=sj aw
    exact⟨_,Z,_,_,Z,_,bi,bh,ay,f.k Z,m,bj⟩
   ·refine Ah f Z aZ ?_
    refine Am ?_
    refine Aj ?_
    refine Ab f Z λa f=>Ai f Z Z Aw λa f=>Ac f Z λa f=>Aa ?_
    obtain rfl:=sj aw
    exact⟨_,Z,_,_,Z,_,ar,au,ay,f.k Z,m,az⟩
  ·refine Ah f Z aG ?_
   refine AA Z ?_
   have m:=m.fr 1
   have m:=m.eraseAt 1
   obtain rfl:=sj aw
   obtain rfl:=ax _ rfl
   exact⟨_,Z,_,ar,au,ay,f.k Z,m,az⟩
 ·rintro a w ⟨aj,rfl,ak,al,am,bk,f,m,bl⟩
  refine Ae ?_
  refine Ab f Z λa f=>Ac f Z λa f=>Aa ?_
  refine Aq ?_
  obtain rfl:=sj hd
  exact⟨[al],f.g Z,f.d,_,[am],bk,m,_,_,Z,Z,bl⟩
theorem Wk.m1 {aa:Value}{ab:Itm}{ac:LL}{x1 x2:Int}(m:Mem W G w (ab::H))(ad:Ow R1 26 G ab aa ac){y:(LL)}(hd:D.m1 ac x1 x2=some y):
  Calls prog 154 #[(.agg #[aa]),(iv x1),(iv x2)] w (Res W G H (λG' Ho v=>∃i0:Itm,Ho=[i0]∧v=(.agg #[aa])∧Ow R1 26 G' i0 aa y)):=by
 refine Ar (args:=[(.agg #[aa]),(iv x1),(iv x2)]) (N:=30) [.cell 6 31] func154 Z Z (lb Z) Z λa f=> ?_
 unfold D.m1 at hd
 refine Ae ?_
 refine Bi (cs:=[aa]) m f Z Z Z λae w a m f=>Bm (cs:=[sn]) zeroValue31 m f Z Z λaf w a m f=>Aa (Ag ?_)
 refine A3 11 AM (by kernel_rfl) m ?_
 refine BW 0 11 underlying31 Z sizeOf22 Z f Z λa f=>BK 1 11 1 Bb Z Z Z f Z λa f=>Ao 2 11 Z f Z λa f=>BW 3 11 underlying31 Z sizeOf22 Z f Z λa f=>BK 4 11 1 Bb Z Z Z f Z λa f=>Ao 5 11 Z f Z λa f=> ?_
 have⟨ag,ah,hd⟩:=bind_some hd
 refine A8 6 11 2 m ad T22 ah Z f Z Z λai a aj f=>Bo 7 11 2 ad AT aj ah Z f Z λak a al f=>Ao 8 11 Z f Z λa f=>Bp 9 Z λam w an m ao ao=> ?_
 have al:=rd1 an al
 have ad:=Ow.mono (RSl.mono (RI.mono _)) an ad
 have⟨ap,aq,hd⟩:=bind_some hd
 refine AL f Z call65 (Wk.j m al aq) λar au av w aw m ax a f=> ?_
 obtain⟨ay,rfl,rfl,az⟩:=ax
 have ad:=Ow.mono (RSl.mono (RI.mono _)) aw ad
 refine Aa ?_
 refine ao au [] _ _ aw m ?_
 have⟨aA,aB,hd⟩:=bind_some hd
 refine A8 10 11 2 m ad T22 aB Z f Z Z λaC a aD f=>AU λaE w aF m=> ?_
 have az:=rd1 aF az
 have ad:=Ow.mono (RSl.mono (RI.mono _)) aF ad
 refine AQ 2 m ad Z sizeOf26 f Z Z aD aB az.cells az.one1 az λaG w m aH=>Aa (Ag ?_)
 refine A3 11 AM (by kernel_rfl) m ?_
 refine BW 0 11 underlying31 Z sizeOf22 Z f Z λa f=>BK 1 11 1 Bb Z Z Z f Z λa f=>Ao 2 11 Z f Z λa f=>BW 3 11 underlying31 Z sizeOf22 Z f Z λa f=>BK 4 11 1 Bb Z Z Z f Z λa f=>Ao 5 11 Z f Z λa f=> ?_
 have⟨aI,aJ,hd⟩:=bind_some hd
 refine A8 6 11 2 m aH T22 aJ Z f Z Z λaK a aL f=>Bo 7 11 2 aH AT aL aJ Z f Z λaM a aN f=>Ao 8 11 Z f Z λa f=>Bp 9 Z λaO w aP m aQ aQ=> ?_
 have aN:=rd1 aP aN
 have aH:=Ow.mono (RSl.mono (RI.mono _)) aP aH
 have⟨aR,aS,hd⟩:=bind_some hd
 refine AL f Z call65 (Wk.j m aN aS) λaT aU aV w aW m aX a f=> ?_
 obtain⟨aY,rfl,rfl,aZ⟩:=aX
 have aH:=Ow.mono (RSl.mono (RI.mono _)) aW aH
 refine Aa ?_
 refine aQ aU [] _ _ aW m ?_
 have⟨a0,a1,hd⟩:=bind_some hd
 refine A8 10 11 2 m aH T22 a1 Z f Z Z λa2 a a3 f=>AU λa4 w a5 m=> ?_
 have aZ:=rd1 a5 aZ
 have aH:=Ow.mono (RSl.mono (RI.mono _)) a5 aH
 refine AQ 2 m aH Z sizeOf26 f Z Z a3 a1 aZ.cells aZ.one1 aZ λa6 w m a7=>Ay ?_
 refine AB 1 0 (ds:=[aa]) m Bj f Z Z Z Z Z λa f=>Az 0 0 (ds:=[aa]) m sizeOf31 f Z Z Z (An (Ow.one1 2 m a7 Z) AK) Z (lb Z) Z λw m=>Aa ?_
 refine Aq ?_
 have a8:=BY (P:=prog) 0 m Bj f (s:=6) rfl rfl rfl
 have m:=m.fr 2
 have m:=m.eraseAt 2
 have m:=m.eraseAt 1
 obtain rfl:=sj hd
 exact⟨[(.agg #[aa])],⟨a8,trivial⟩,f.d,_,[a6],(gt an (gt aw (gt aF (gt aP (gt aW a5))))),m,_,Z,Z,a7⟩
theorem Wk.N0 {aa:Value}{ab:Itm}{v1:Value}{ac:LL}{x1:LI}(m:Mem W G w (ab::H))(ad:Ow R1 26 G ab aa ac)(h1:R1 G v1 x1){y:(LL)}(hd:D.N0 ac x1=some y):
  Calls prog 136 #[(.agg #[aa]),v1] w (Res W G H (λG' Ho v=>∃i0:Itm,Ho=[i0]∧v=(.agg #[aa])∧Ow R1 26 G' i0 aa y)):=by
 refine Ar (args:=[(.agg #[aa]),v1]) (N:=29) [.cell 4 31] func136 Z Z (lb Z) Z λa f=> ?_
 unfold D.N0 at hd
 refine Ae ?_
 refine Bi (cs:=[aa]) m f Z Z Z λae w a m f=>Bm (cs:=[sn]) zeroValue31 m f Z Z λaf w a m f=>Aa (Ag (Ae ?_))
 refine Ac f Z λa f=>Aa ?_
 have⟨ag,ah,hd⟩:=bind_some hd
 refine AH (λa w=>∃ai:LL,ai=ag∧∃(aj:GH) (ak:Itm),GLe G aj∧Fr a 29 [(2,(pb ae)),(4,(pb af))]∧Mem W aj w (ib ae 31 [aa]::ib af 31 [sn]::ak::H)∧Ow R1 26 aj ak aa ai) ?_ ?_
 ·refine Ak ?_
  have m:=m.fr 1
  refine AC (λal a w=>∃am:LL,∃an:Int,(am,an)=al∧∃(ao:GH) (ap:Itm),GLe G ao∧Fr a 29 [(1,v1),(2,(pb ae)),(4,(pb af)),(5,(iv an))]∧Mem W ao w (ib ae 31 [aa]::ib af 31 [sn]::ap::H)∧Ow R1 26 ao ap aa am) ah ⟨_,_,Z,_,ab,gr,f.k Z,m,ad⟩ ?_
  clear ah f m
  rintro al aq ar au a w ⟨am,an,rfl,ao,ap,av,f,m,aw⟩
  have h1:=rd1 av h1
  refine Ag (Ae ?_)
  refine Ab f Z λa f=>Ab f Z λa f=>AO underlying26 f Z Z h1 λa f=>Ai f Z Z AE λa f=>Aa ?_
  rcases Af ar with⟨ax,ar⟩|⟨ax,ar⟩
  ·refine Al f Z ax ?_
   refine Am ?_
   refine Ag (Ak (Ae ?_))
   refine Ac f Z λa f=>Aa ?_
   have⟨ay,az,ar⟩:=bind_some ar
   refine AH (λa w=>∃aA:LL,aA=ay∧∃(aB:GH) (aC:Itm),GLe ao aB∧Fr a 29 [(1,v1),(2,(pb ae)),(4,(pb af)),(5,(iv an))]∧Mem W aB w (ib ae 31 [aa]::ib af 31 [sn]::aC::H)∧Ow R1 26 aB aC aa aA) ?_ ?_
   ·refine Ak ?_
    refine AC (λaD a w=>∃aE:LL,∃aF:Int,(aE,aF)=aD∧∃(aG:GH) (aH:Itm),GLe ao aG∧Fr a 29 [(1,v1),(2,(pb ae)),(4,(pb af)),(5,(iv an)),(6,(iv aF))]∧Mem W aG w (ib ae 31 [aa]::ib af 31 [sn]::aH::H)∧Ow R1 26 aG aH aa aE) az ⟨_,_,Z,_,ap,gr,f.k Z,m,aw⟩ ?_
    clear az f m
    rintro aD aI aJ aK a w ⟨aE,aF,rfl,aG,aH,aL,f,m,aM⟩
    have h1:=rd1 aL h1
    refine Ag (Ae ?_)
    refine Ab f Z λa f=>Ab f Z λa f=>Ai f Z Z AE λa f=>Aa ?_
    rcases Af aJ with⟨aN,aJ⟩|⟨aN,aJ⟩
    ·refine Al f Z aN ?_
     refine Am ?_
     refine Ag (Ak ?_)
     refine A3 9 AM (by kernel_rfl) m ?_
     refine BM (i:=0) (ds:=[aa]) 9 0 Bj Z Z Z Z (by kernel_rfl) Z f Z Z Z λa f=>Ao 1 9 Z f Z λa f=>Ao 2 9 Z f Z λa f=> ?_
     have⟨aO,aP,aJ⟩:=bind_some aJ
     refine BJ 3 9 T26 h1 aP Z f Z Z λaQ aR a aS aT f=> ?_
     subst aT
     refine BI 4 9 Pl2 aS Z f Z λa f=>Ao 5 9 Z f Z λa f=>Ao 6 9 Z f Z λa f=> ?_
     have⟨aU,aV,aJ⟩:=bind_some aJ
     refine BJ 7 9 T26 h1 aV Z f Z Z λaW aX a aY aZ f=> ?_
     subst aZ
     refine BI 8 9 Pl2 aY Z f Z λa f=>AU λa0 w a1 m=> ?_
     have aM:=Ow.mono (RSl.mono (RI.mono _)) a1 aM
     have m:=m.fr 2
     have⟨a2,a3,aJ⟩:=bind_some aJ
     refine AL f Z call154 (Wk.m1 m aM a3) λa4 a5 a6 w a7 m a8 a f=> ?_
     obtain⟨a9,rfl,rfl,ba⟩:=a8
     refine Az 1 0 (ds:=[aa]) m sizeOf31 f Z Z Z (An (Ow.one1 0 m ba Z) AK) Z (lb Z) Z λw m=>Aa (Aj ?_)
     refine Ab f Z λa f=>Ai f Z Z Aw λa f=>Ac f Z λa f=>Aa ?_
     have m:=m.fr 2
     have m:=m.fr 2
     obtain rfl:=sj aJ
     exact⟨_,Z,_,_,Z,_,a9,(gt aL (gt a1 a7)),f.k Z,m,ba⟩
    ·refine Ah f Z aN ?_
     refine AA Z ?_
     obtain rfl:=sj aJ
     obtain rfl:=aK _ rfl
     exact⟨_,Z,_,aH,aL,f.k Z,m,aM⟩
   ·rintro a w ⟨aA,rfl,aB,aC,bb,f,m,bc⟩
    refine Aj ?_
    refine Ab f Z λa f=>Ai f Z Z Aw λa f=>Ac f Z λa f=>Aa ?_
    obtain rfl:=sj ar
    exact⟨_,Z,_,_,Z,_,aC,(gt av bb),f.k Z,m,bc⟩
  ·refine Ah f Z ax ?_
   refine AA Z ?_
   obtain rfl:=sj ar
   obtain rfl:=au _ rfl
   exact⟨_,Z,_,ap,av,f.k Z,m,aw⟩
 ·rintro a w ⟨ai,rfl,aj,ak,bd,f,m,be⟩
  refine Ae ?_
  refine AB 0 0 (ds:=[aa]) m Bj f Z Z Z Z Z λa f=>Az 1 0 (ds:=[aa]) m sizeOf31 f Z Z Z (An (Ow.one1 2 m be Z) AK) Z (lb Z) Z λw m=>Aa ?_
  refine Aq ?_
  have bf:=BY (P:=prog) 1 m Bj f (s:=4) rfl rfl rfl
  have m:=m.fr 2
  have m:=m.eraseAt 2
  have m:=m.eraseAt 1
  obtain rfl:=sj hd
  exact⟨[(.agg #[aa])],⟨bf,trivial⟩,f.d,_,[ak],bd,m,_,Z,Z,be⟩
theorem Wk.T0 {aa v1:Value}{ab:LL}{x1:LI}(m:Mem W G w (H))(ac:R2 G aa ab)(h1:R1 G v1 x1){y:(LL)}(hd:D.T0 ab x1=some y):
  Calls prog 104 #[(.agg #[aa]),v1] w (Res W G H (λG' Ho v=>∃r0:Value,∃i0:Itm,Ho=[i0]∧v=(.agg #[r0])∧Ow R1 26 G' i0 r0 y)):=by
 refine Ar (args:=[(.agg #[aa]),v1]) (N:=35) [.cell 4 31] func104 Z Z (lb Z) Z λa f=> ?_
 unfold D.T0 at hd
 refine Ae ?_
 refine Bi (cs:=[aa]) m f Z Z Z λad w a m f=>Bm (cs:=[sn]) zeroValue31 m f Z Z λae w a m f=>Ay ?_
 refine AB 1 0 (ds:=[aa]) m Bj f Z Z Z Z Z λa f=> ?_
 have⟨af,ag,hd⟩:=bind_some hd
 refine AL f Z call135 (Wk.G1 m ac ag) λah ai aj w ak m al a f=> ?_
 obtain⟨am,an,rfl,rfl,ao⟩:=al
 have ac:=rd2 ak ac
 have h1:=rd1 ak h1
 refine Bm (cs:=[sn]) zeroValue31 m f Z Z λap w a m f=>Az 0 0 (ds:=[am]) m sizeOf31 f Z Z Z (An (Ow.one1 1 m ao Z) AK) Z (lb Z) Z λw m=>Ay ?_
 refine AB 3 0 (ds:=[aa]) m Bj f Z Z Z Z Z λa f=> ?_
 have⟨aq,ar,hd⟩:=bind_some hd
 refine A6 f Z call31 (Wk.a m ac ar) λau w av m a f=> ?_
 have h1:=rd1 av h1
 have ao:=Ow.mono (RSl.mono (RI.mono _)) av ao
 have⟨aw,ax,hd⟩:=bind_some hd
 refine CU (R:=RB) m T85 Z (by decide) Z f Z Z Z ax λay az w a m aA f=>Ac f Z λa f=>Aa (Ag (Ae ?_))
 refine Ac f Z λa f=>Aa ?_
 have⟨aB,aC,hd⟩:=bind_some hd
 refine AH (λa w=>∃aD:LL,aD=aB∧∃(aE:GH) (aF:Itm),GLe au aE∧Fr a 35 [(4,(pb ae)),(5,(pb ap))]∧Mem W aE w (ib ae 31 [sn]::ib ap 31 [am]::aF::H)∧Ow R1 26 aE aF am aD) ?_ ?_
 ·refine Ak ?_
  have m:=m.fr 1
  have m:=m.fr 3
  have m:=m.eraseAt 4
  refine AC (λaG a w=>∃aH:List Bool,∃aI:Int,∃aJ:LL,(aH,aI,aJ)=aG∧∃(aK:GH) (aL:Itm) (aM:Itm),GLe au aK∧Fr a 35 [(1,v1),(4,(pb ae)),(5,(pb ap)),(6,az),(7,(iv aI))]∧Mem W aK w (ib ae 31 [sn]::ib ap 31 [am]::aL::aM::H)∧Ow RB 4 aK aL az aH∧Ow R1 26 aK aM am aJ) aC ⟨_,_,_,Z,_,ay,an,gr,f.k Z,m,aA,ao⟩ ?_
  clear aC f m
  rintro aG aN aO aP a w ⟨aH,aI,aJ,rfl,aK,aL,aM,aQ,f,m,aR,aS⟩
  have h1:=rd1 aQ h1
  refine Ag (Ae ?_)
  refine Ab f Z λa f=>Ab f Z λa f=>AO underlying26 f Z Z h1 λa f=>Ai f Z Z AE λa f=>Aa ?_
  rcases Af aO with⟨aT,aO⟩|⟨aT,aO⟩
  ·refine Al f Z aT ?_
   refine Am ?_
   refine Ag (Ak (Ae ?_))
   refine Ab f Z λa f=>Ab f Z λa f=>Ab f Z λa f=> ?_
   have⟨aU,aV,aO⟩:=bind_some aO
   refine A2 T26 f Z Z Z h1 aV λaW aX a aY aZ f=> ?_
   subst aZ
   refine Ax m Pl2 f Z Z aY λa f=> ?_
   have⟨a2,a3,aO⟩:=bind_some aO
   refine AZ 2 m aR Z T85 f Z Z Z a3 λa4 a a5 f=>AQ 2 m aR Z sizeOf4 f Z Z a5 a3 Z Z Z λa6 w m a7=>Aa ?_
   refine A3 8 AM (by kernel_rfl) m ?_
   refine BM (i:=0) (ds:=[am]) 8 1 Bj Z Z Z Z (by kernel_rfl) Z f Z Z Z λa f=>BM (i:=1) (ds:=[am]) 8 1 Bj Z Z Z Z (by kernel_rfl) Z f Z Z Z λa f=>Ao 2 8 Z f Z λa f=>Ao 3 8 Z f Z λa f=> ?_
   have⟨a8,a9,aO⟩:=bind_some aO
   refine BJ 4 8 T26 h1 a9 Z f Z Z λba bb a bc bd f=> ?_
   subst bd
   refine BI 5 8 Pl2 bc Z f Z λa f=>Ao 6 8 Z f Z λa f=>Bp 7 Z λbe w bf m bg bg=> ?_
   have a7:=Ow.mono RB.mono bf a7
   have aS:=Ow.mono (RSl.mono (RI.mono _)) bf aS
   have⟨bh,bi,aO⟩:=bind_some aO
   refine AL f Z call105 (Ow.lendCall (RSl.mono (RI.mono _)) 3 aS m Z (λbj bk m bl=>(Ow.lendCall RB.mono 2 (Ow.mono RB.mono bk a7) m Z (λbm bn m bo=>Wk.L0 m (rd2 bn bl) bo bi) (λ_ G' _ _ ⟨a0,a1,e1,e2,o0⟩=>⟨a0,a1,e1,e2,Ow.free (RI.free _) G' o0⟩))) (λ_ G' _ _ ⟨a0,a1,e1,e2,o0⟩=>⟨a0,a1,e1,e2,Ow.free (RI.free _) G' o0⟩)) λbp bq br w bs m bt a f=> ?_
   obtain⟨bu,bv,rfl,rfl,bw⟩:=bt
   have a7:=Ow.mono RB.mono bs a7
   have aS:=Ow.mono (RSl.mono (RI.mono _)) bs aS
   refine Aa ?_
   refine bg bq [bv] _ _ bs m ?_
   refine AU λbx w bz m=> ?_
   have bw:=od1 bz bw
   have a7:=Ow.mono RB.mono bz a7
   have aS:=Ow.mono (RSl.mono (RI.mono _)) bz aS
   obtain⟨bA,bB,m,bC⟩:=Ow.stamp (RI.mono _) bw m
   have a7:=Ow.mono RB.mono bB a7
   have aS:=Ow.mono (RSl.mono (RI.mono _)) bB aS
   have m:Mem W bA w (aM::ib ae 31 [sn]::ib ap 31 [am]::a6::H):=m.fr 3
   have⟨bD,bE,aO⟩:=bind_some aO
   refine AL f Z call136 (Wk.N0 m aS bC bE) λbF bG bH w bI m bJ a f=> ?_
   obtain⟨bK,rfl,rfl,bL⟩:=bJ
   have a7:=Ow.mono RB.mono bI a7
   refine Az 2 0 (ds:=[am]) m sizeOf31 f Z Z Z (An (Ow.one1 0 m bL Z) AK) Z (lb Z) Z λw m=>Aa (Aj ?_)
   refine Ab f Z λa f=>Ai f Z Z Aw λa f=>Ac f Z λa f=>Aa ?_
   have m:=m.fr 3
   have m:=m.fr 3
   have m:Mem W bG w (ib ae 31 [sn]::ib ap 31 [am]::a6::bK::H):=m.fr 3
   obtain rfl:=sj aO
   exact⟨_,Z,_,_,_,Z,_,a6,bK,(gt aQ (gt bf (gt bs (gt bz (gt bB bI))))),f.k Z,m,a7,bL⟩
  ·refine Ah f Z aT ?_
   refine AA Z ?_
   have m:=m.fr 3
   have m:=m.fr 2
   have m:Mem W aK w (ib ae 31 [sn]::ib ap 31 [am]::aM::aL::H):=m.fr 2
   have m:=m.eraseAt 3
   obtain rfl:=sj aO
   obtain rfl:=aP _ rfl
   exact⟨_,Z,_,aM,aQ,f.k Z,m,aS⟩
 ·rintro a w ⟨aD,rfl,aE,aF,bM,f,m,bN⟩
  refine Ae ?_
  refine AB 1 0 (ds:=[am]) m Bj f Z Z Z Z Z λa f=>Az 0 0 (ds:=[am]) m sizeOf31 f Z Z Z (An (Ow.one1 2 m bN Z) AK) Z (lb Z) Z λw m=>Aa ?_
  refine Aq ?_
  have bO:=BY (P:=prog) 0 m Bj f (s:=4) rfl rfl rfl
  have m:=m.fr 2
  have m:=m.eraseAt 2
  have m:=m.eraseAt 1
  obtain rfl:=sj hd
  exact⟨[(.agg #[am])],⟨bO,trivial⟩,f.d,_,[aF],(gt ak (gt av bM)),m,_,_,Z,Z,bN⟩
theorem Wk.c1 {aa v1:Value}{ab:LL}{x1:LI}(m:Mem W G w (H))(ac:R2 G aa ab)(h1:R1 G v1 x1){y:(LL)}(hd:D.c1 ab x1=some y):
  Calls prog 64 #[(.agg #[aa]),v1] w (Res W G H (λG' Ho v=>∃r0:Value,∃i0:Itm,Ho=[i0]∧r0=v∧Ow R1 26 G' i0 r0 y)):=by
 refine Ar (args:=[(.agg #[aa]),v1]) (N:=44) [.tmp 4] func64 Z Z (lb Z) Z λa f=> ?_
 unfold D.c1 at hd
 refine Ae ?_
 refine Bi (cs:=[aa]) m f Z Z Z λad w a m f=>Ac f Z λa f=>Ay ?_
 refine AB 0 0 (ds:=[aa]) m Bj f Z Z Z Z Z λa f=>Ab f Z λa f=> ?_
 have⟨ae,af,hd⟩:=bind_some hd
 refine AL f Z call104 (Wk.T0 m ac h1 af) λag ah ai w aj m ak a f=> ?_
 obtain⟨al,am,rfl,rfl,an⟩:=ak
 have ac:=rd2 aj ac
 have h1:=rd1 aj h1
 refine Bm (cs:=[sn]) zeroValue31 m f Z Z λao w a m f=>Az 0 0 (ds:=[al]) m sizeOf31 f Z Z Z (An (Ow.one1 1 m an Z) AK) Z (lb Z) Z λw m=>Ay ?_
 refine AB 2 0 (ds:=[aa]) m Bj f Z Z Z Z Z λa f=> ?_
 have⟨ap,aq,hd⟩:=bind_some hd
 refine A6 f Z call31 (Wk.a m ac aq) λar w au m a f=> ?_
 have ac:=rd2 au ac
 have h1:=rd1 au h1
 have an:=Ow.mono (RSl.mono (RI.mono _)) au an
 have⟨av,aw,hd⟩:=bind_some hd
 refine CU (R:=RB) m T85 Z (by decide) Z f Z Z Z aw λax ay w a m az f=>Ac f Z λa f=>Ay ?_
 refine AB 3 0 (ds:=[aa]) m Bj f Z Z Z Z Z λa f=> ?_
 have⟨aA,aB,hd⟩:=bind_some hd
 refine A6 f Z call31 (Wk.a m ac aB) λaC w aD m a f=> ?_
 have h1:=rd1 aD h1
 have az:=Ow.mono RB.mono aD az
 have an:=Ow.mono (RSl.mono (RI.mono _)) aD an
 have⟨aE,aF,hd⟩:=bind_some hd
 refine CU (R:=R1) m T22 Z (by decide) (RSl.nil R0 aC) f Z Z Z aF λaG aH w a m aI f=>Ac f Z λa f=>Aa (Ag (Ae ?_))
 refine Ac f Z λa f=>Aa ?_
 have⟨aJ,aK,hd⟩:=bind_some hd
 refine AH (λa w=>∃aL:LL,aL=aJ∧∃(aM:GH) (aN:Itm),GLe aC aM∧Fr a 44 [(7,aH)]∧Mem W aM w (aN::H)∧Ow R1 26 aM aN aH aL) ?_ ?_
 ·refine Ak ?_
  have m:=m.fr 1
  have m:=m.fr 2
  have m:=m.eraseAt 4
  refine AC (λaO a w=>∃aP:List Bool,∃aQ:LL,∃aR:Int,(aP,aQ,aR)=aO∧∃(aS:GH) (aT:Itm) (aU:Itm),GLe aC aS∧Fr a 44 [(1,v1),(5,(pb ao)),(6,ay),(7,aH),(8,(iv aR))]∧Mem W aS w (ib ao 31 [al]::aT::aU::am::H)∧Ow RB 4 aS aT ay aP∧Ow R1 26 aS aU aH aQ) aK ⟨_,_,_,Z,_,ax,aG,gr,f.k Z,m,az,aI⟩ ?_
  clear aK f m
  rintro aO aV aW aX a w ⟨aP,aQ,aR,rfl,aS,aT,aU,aY,f,m,aZ,a2⟩
  have h1:=rd1 aY h1
  have an:=Ow.mono (RSl.mono (RI.mono _)) aY an
  refine Ag (Ae ?_)
  refine Ab f Z λa f=>Ab f Z λa f=>AO underlying26 f Z Z h1 λa f=>Ai f Z Z AE λa f=>Aa ?_
  rcases Af aW with⟨a3,aW⟩|⟨a3,aW⟩
  ·refine Al f Z a3 ?_
   refine Am ?_
   refine Ag (Ak (Ae ?_))
   refine Ab f Z λa f=>Ab f Z λa f=>Ab f Z λa f=> ?_
   have⟨a4,a5,aW⟩:=bind_some aW
   refine A2 T26 f Z Z Z h1 a5 λa6 a7 a a8 a9 f=> ?_
   subst a9
   refine Ax m Pl2 f Z Z a8 λa f=> ?_
   have⟨ba,bb,aW⟩:=bind_some aW
   refine AZ 1 m aZ Z T85 f Z Z Z bb λbc a bd f=>AQ 1 m aZ Z sizeOf4 f Z Z bd bb Z Z Z λbe w m bf=>Aa ?_
   refine A3 13 AM (by kernel_rfl) m ?_
   refine Ao 0 13 Z f Z λa f=>Ao 1 13 Z f Z λa f=>Ao 2 13 Z f Z λa f=> ?_
   have⟨bg,bh,aW⟩:=bind_some aW
   refine BJ 3 13 T26 h1 bh Z f Z Z λbi bj a bk bl f=> ?_
   subst bl
   refine BI 4 13 Pl2 bk Z f Z λa f=>BM (i:=5) (ds:=[al]) 13 0 Bj Z Z Z Z (by kernel_rfl) Z f Z Z Z λa f=>Ao 6 13 Z f Z λa f=>Ao 7 13 Z f Z λa f=> ?_
   have⟨bm,bn,aW⟩:=bind_some aW
   refine BJ 8 13 T26 h1 bn Z f Z Z λbo bp a bq br f=> ?_
   subst br
   refine BI 9 13 Pl2 bq Z f Z λa f=>Ao 10 13 Z f Z λa f=>Bp 11 Z λbs w bt m bu bu=> ?_
   have bf:=Ow.mono RB.mono bt bf
   have a2:=Ow.mono (RSl.mono (RI.mono _)) bt a2
   have an:=Ow.mono (RSl.mono (RI.mono _)) bt an
   have⟨bv,bw,aW⟩:=bind_some aW
   refine AL f Z call105 (Ow.lendCall (RSl.mono (RI.mono _)) 3 an m Z (λbx bz m bA=>(Ow.lendCall RB.mono 1 (Ow.mono RB.mono bz bf) m Z (λbB bC m bD=>Wk.L0 m (rd2 bC bA) bD bw) (λ_ G' _ _ ⟨a0,a1,e1,e2,o0⟩=>⟨a0,a1,e1,e2,Ow.free (RI.free _) G' o0⟩))) (λ_ G' _ _ ⟨a0,a1,e1,e2,o0⟩=>⟨a0,a1,e1,e2,Ow.free (RI.free _) G' o0⟩)) λbE bF bG w bH m bI a f=> ?_
   obtain⟨bJ,bK,rfl,rfl,bL⟩:=bI
   have bf:=Ow.mono RB.mono bH bf
   have a2:=Ow.mono (RSl.mono (RI.mono _)) bH a2
   refine Aa ?_
   refine bu bF [bK] _ _ bH m ?_
   have⟨bM,bN,aW⟩:=bind_some aW
   refine A8 12 13 3 m a2 T22 bN Z f Z Z λbO a bP f=>AU λbQ w bR m=> ?_
   have bL:=od1 bR bL
   have bf:=Ow.mono RB.mono bR bf
   have a2:=Ow.mono (RSl.mono (RI.mono _)) bR a2
   obtain⟨bS,bT,m,bU⟩:=Ow.stamp (RI.mono _) bL m
   have bf:=Ow.mono RB.mono bT bf
   have a2:=Ow.mono (RSl.mono (RI.mono _)) bT a2
   refine AQ 2 m a2 Z sizeOf26 f Z Z bP bN bU.cells bU.one1 bU λbV w m bW=>Aa (Aj ?_)
   refine Ab f Z λa f=>Ai f Z Z Aw λa f=>Ac f Z λa f=>Aa ?_
   obtain rfl:=sj aW
   exact⟨_,Z,_,_,_,Z,_,be,bV,(gt aY (gt bt (gt bH (gt bR bT)))),f.k Z,m,bf,bW⟩
  ·refine Ah f Z a3 ?_
   refine AA Z ?_
   have m:=m.fr 2
   have m:=m.fr 3
   have m:Mem W aS w (aT::am::aU::ib ao 31 [al]::H):=m.fr 3
   have m:=m.fr 2
   have m:=m.eraseAt 3
   have m:Mem W aS w (aU::aT::H):=m.eraseAt 2
   have m:=m.eraseAt 1
   obtain rfl:=sj aW
   obtain rfl:=aX _ rfl
   exact⟨_,Z,_,aU,aY,f.k Z,m,a2⟩
 ·rintro a w ⟨aL,rfl,aM,aN,bX,f,m,bY⟩
  refine Ae ?_
  refine Ab f Z λa f=>Ac f Z λa f=>Aa ?_
  refine Aq ?_
  obtain rfl:=sj hd
  exact⟨[aH],f.g Z,f.d,_,[aN],(gt aj (gt au (gt aD bX))),m,_,_,Z,Z,bY⟩
theorem Wk.q1 {x0 x1:Int}(m:Mem W G w (H)){y:Int}(hd:D.q1 x0 x1=some y):
  Calls prog 106 #[(iv x0),(iv x1)] w (Res W G H (λ_ Ho v=>Ho=[]∧v=(iv y))):=by
 refine Ar (args:=[(iv x0),(iv x1)]) (N:=10) [.tmp 4] func106 Z Z (lb Z) Z λa f=> ?_
 unfold D.q1 at hd
 refine Ae ?_
 refine Ac f Z λa f=>Aa (Ag (Ae ?_))
 refine Ab f Z λa f=>Ab f Z λa f=>Ai f Z Z AE λa f=>Aa ?_
 rcases Af hd with⟨aa,hd⟩|⟨aa,hd⟩
 ·refine Al f Z aa ?_
  refine Ae ?_
  refine Ab f Z λa f=>Ac f Z λa f=>Aa ?_
  refine Aq ?_
  obtain rfl:=sj hd
  exact⟨[(iv x0)],f.g Z,f.d,_,[],gr,m,Z,Z⟩
 ·refine Ah f Z aa ?_
  refine Am ?_
  refine Ae ?_
  refine Ab f Z λa f=>Ac f Z λa f=>Aa ?_
  refine Aq ?_
  obtain rfl:=sj hd
  exact⟨[(iv x1)],f.g Z,f.d,_,[],gr,m,Z,Z⟩
theorem Wk.c0 {v0 v1:Value}{x0 x1:LI}(m:Mem W G w (H))(h0:R1 G v0 x0)(h1:R1 G v1 x1){y:Bool}(hd:D.c0 x0 x1=some y):
  Calls prog 108 #[v0,v1] w (Res W G H (λ_ Ho v=>Ho=[]∧v=(.bool y))):=by
 refine Ar (args:=[v0,v1]) (N:=40) [.tmp 4] func108 Z Z (lb Z) Z λa f=> ?_
 unfold D.c0 at hd
 refine Ae ?_
 refine Ac f Z λa f=>Aa (Ag (Ae ?_))
 refine Ab f Z λa f=>AO underlying26 f Z Z h0 λa f=>Ab f Z λa f=>AO underlying26 f Z Z h1 λa f=>Ai f Z Z B8 λa f=>Aa ?_
 rcases Af hd with⟨aa,hd⟩|⟨aa,hd⟩
 ·refine Al f Z aa ?_
  refine Ae ?_
  refine Ab f Z λa f=>AO underlying26 f Z Z h0 λa f=>Ab f Z λa f=>AO underlying26 f Z Z h1 λa f=>Ai f Z Z AE λa f=>Ac f Z λa f=>Aa ?_
  refine Aq ?_
  obtain rfl:=sj hd
  exact⟨[(.bool (decide ((x0.length:Int)<(x1.length:Int))))],f.g Z,f.d,_,[],gr,m,Z,Z⟩
 ·refine Ah f Z aa ?_
  refine Am ?_
  refine Ag (Ae ?_)
  refine Ac f Z λa f=>Aa ?_
  have⟨ab,ac,hd⟩:=bind_some hd
  refine AH (λa w=>∃q_64':Unit,ab= .inl q_64'∧∃(ad:GH),GLe G ad∧Fr a 40 []∧Mem W ad w (H)) ?_ ?_
  ·refine Ak ?_
   refine AC (λae a w=>∃af:Int,af=ae∧∃(ag:GH),GLe G ag∧Fr a 40 [(0,v0),(1,v1),(5,(iv af))]∧Mem W ag w (H)) ac ⟨_,Z,_,gr,f.k Z,m⟩ ?_
   clear ac f m
   rintro ae ah ai aj a w ⟨af,rfl,ag,ak,f,m⟩
   have h0:=rd1 ak h0
   have h1:=rd1 ak h1
   refine Ag (Ae ?_)
   refine Ab f Z λa f=>Ab f Z λa f=>AO underlying26 f Z Z h0 λa f=>Ai f Z Z AE λa f=>Aa ?_
   rcases Af ai with⟨al,ai⟩|⟨al,ai⟩
   ·refine Al f Z al ?_
    refine Am ?_
    refine Ag (Ak (Ag ?_))
    refine A3 9 AM (by kernel_rfl) m ?_
    refine Ao 0 9 Z f Z λa f=>Ao 1 9 Z f Z λa f=> ?_
    have⟨am,an,ai⟩:=bind_some ai
    refine BJ 2 9 T26 h0 an Z f Z Z λao ap a aq ar f=> ?_
    subst ar
    refine BI 3 9 Pl2 aq Z f Z λa f=>Ao 4 9 Z f Z λa f=>Ao 5 9 Z f Z λa f=> ?_
    have⟨au,av,ai⟩:=bind_some ai
    refine BJ 6 9 T26 h1 av Z f Z Z λaw ax a ay az f=> ?_
    subst az
    refine BI 7 9 Pl2 ay Z f Z λa f=>q_p 8 9 Z f (λ_=>AV (f.e Z) (f.e Z) B8) λa f=>AU λaA w aB m=> ?_
    have h0:=rd1 aB h0
    have h1:=rd1 aB h1
    refine Aa ?_
    rcases Af ai with⟨aC,ai⟩|⟨aC,ai⟩
    ·refine Al f Z aC ?_
     refine Ag ?_
     refine A3 10 AM (by kernel_rfl) m ?_
     refine Ao 0 10 Z f Z λa f=>Ao 1 10 Z f Z λa f=> ?_
     have⟨aD,aE,ai⟩:=bind_some ai
     refine BJ 2 10 T26 h0 aE Z f Z Z λaF aG a aH aI f=> ?_
     subst aI
     refine BI 3 10 Pl2 aH Z f Z λa f=>Ao 4 10 Z f Z λa f=>Ao 5 10 Z f Z λa f=> ?_
     have⟨aJ,aK,ai⟩:=bind_some ai
     refine BJ 6 10 T26 h1 aK Z f Z Z λaL aM a aN aO f=> ?_
     subst aO
     refine BI 7 10 Pl2 aN Z f Z λa f=>q_p 8 10 Z f (λ_=>AV (f.e Z) (f.e Z) AE) λa f=>q_p 9 10 Z f (λ_=>Br (f.e Z)) λa f=>AU λaP w aQ m=>Aa ?_
     refine Aq ?_
     obtain rfl:=sj ai
     obtain rfl:=aj _ rfl
     obtain rfl:=sj hd
     exact⟨[(.bool (decide (aD<aJ)))],f.g Z,f.d,_,[],(gt ak (gt aB aQ)),m,Z,Z⟩
    ·refine Ah f Z aC ?_
     refine Am ?_
     refine Aj ?_
     refine Ab f Z λa f=>Ai f Z Z Aw λa f=>Ac f Z λa f=>Aa ?_
     obtain rfl:=sj ai
     exact⟨_,Z,_,Z,_,(gt ak aB),f.k Z,m⟩
   ·refine Ah f Z al ?_
    refine AA Z ?_
    obtain rfl:=sj ai
    obtain rfl:=aj _ rfl
    exact⟨_,Z,_,ak,f.weak trivial,m⟩
  ·rintro a w ⟨_,rfl,ad,aR,f,m⟩
   refine Ae ?_
   refine Ac f Z λa f=>Aa ?_
   refine Aq ?_
   obtain rfl:=sj hd
   exact⟨[(.bool false)],f.g Z,f.d,_,[],aR,m,Z,Z⟩
theorem Wk.R {v0:Value}{x0:LL}{x1 x2:Int}(m:Mem W G w (H))(h0:R2 G v0 x0){y:(LL)}(hd:D.R x0 x1 x2=some y):
  Calls prog 66 #[v0,(iv x1),(iv x2)] w (Res W G H (λG' Ho v=>∃r0:Value,∃i0:Itm,Ho=[i0]∧r0=v∧Ow R1 26 G' i0 r0 y)):=by
 refine Ar (args:=[v0,(iv x1),(iv x2)]) (N:=53) [.tmp 6] func66 Z Z (lb Z) Z λa f=> ?_
 unfold D.R at hd
 refine Ae ?_
 refine Ac f Z λa f=>Ay ?_
 refine Ab f Z λa f=>Ab f Z λa f=> ?_
 have⟨aa,ab,hd⟩:=bind_some hd
 refine A6 f Z call106 (Wk.q1 m ab) λac w ad m a f=> ?_
 have h0:=rd2 ad h0
 refine Ab f Z λa f=>Ab f Z λa f=> ?_
 have⟨ae,af,hd⟩:=bind_some hd
 refine A6 f Z call107 (Wk.K m af) λag w ah m a f=> ?_
 have h0:=rd2 ah h0
 refine AP (R:=R0) (xs:=([aa,ae]:LI)) (RI.one _) m T26 f Z Z Z (by decide) (All2.cons Z (All2.cons Z (All2.nil _))) λai aj w a m ak f=>Ac f Z λa f=>Ay ?_
 refine AP (R:=R1) (xs:=([]:LL)) (RSl.one _) m T22 f Z Z Z (by decide) (All2.nil _) λal am w a m an f=>Ac f Z λa f=>Ay ?_
 refine Ac f Z λa f=>Aa (Ag (Ae ?_))
 refine Ac f Z λa f=>Aa ?_
 have m:=m.fr 1
 obtain⟨ao,ap,m,aq⟩:=Ow.stamp (RI.mono _) ak m
 have h0:=rd2 ap h0
 have an:=Ow.mono (RSl.mono (RI.mono _)) ap an
 have⟨ar,au,hd⟩:=bind_some hd
 refine AH (λa w=>∃av:LI,∃aw:LL,∃ax:Bool,(av,aw,ax)=ar∧∃(ay:GH) (az:Value) (aA:Value) (aB:Itm),GLe ao ay∧Fr a 53 [(7,az),(8,aA),(9,(.bool ax))]∧Mem W ay w (aB::H)∧R1 ay az av∧Ow R1 26 ay aB aA aw) ?_ ?_
 ·refine Ak ?_
  refine AC (λaC a w=>∃aD:LI,∃aE:LL,∃aF:Bool,∃aG:Int,(aD,aE,aF,aG)=aC∧∃(aH:GH) (aI:Value) (aJ:Value) (aK:Itm),GLe ao aH∧Fr a 53 [(0,v0),(7,aI),(8,aJ),(9,(.bool aF)),(10,(iv aG))]∧Mem W aH w (aK::H)∧R1 aH aI aD∧Ow R1 26 aH aK aJ aE) au ⟨_,_,_,_,Z,_,aj,am,al,gr,f.k Z,m,aq,an⟩ ?_
  clear au f m
  rintro aC aL aM aN a w ⟨aD,aE,aF,aG,rfl,aH,aI,aJ,aK,aO,f,m,aP,aQ⟩
  have h0:=rd2 aO h0
  refine Ag (Ae ?_)
  refine Ab f Z λa f=>Ab f Z λa f=>AO underlying22 f Z Z h0 λa f=>Ai f Z Z AE λa f=>Aa ?_
  rcases Af aM with⟨aR,aM⟩|⟨aR,aM⟩
  ·refine Al f Z aR ?_
   refine Am ?_
   refine Ag (Ak (Ag (Ae ?_)))
   refine Ab f Z λa f=>l_o f (Bv (f.e Z)) λa f=>Ab f Z λa f=> ?_
   have⟨aS,aT,aM⟩:=bind_some aM
   refine BH 7 (λa w=>∃aU,GLe aH aU∧Mem W aU w (aK::H)∧Fr a 53 [(0,v0),(7,aI),(8,aJ),(9,(.bool aF)),(10,(iv aG)),(22,(.bool (decide (aG<(x0.length:Int))))),(25,(.bool aF)),(26,(.bool (!aF))),(27,(.bool (!aF))),(34,(.bool aS))]) ?_ ?_
   ·rcases Af aT with⟨aV,aT⟩|⟨aV,aT⟩
    ·refine AF f aV ?_
     refine Ab f Z λa f=>AF f aV ?_
     refine Ab f Z λa f=>AF f aV ?_
     refine Ab f Z λa f=>AF f aV ?_
     have⟨aW,aX,aT⟩:=bind_some aT
     refine A2 T22 f Z Z Z h0 aX λaY aZ a a0 a1 f=>AF f aV ?_
     refine Ax m AT f Z Z a0 λa f=>AF f aV ?_
     have⟨a2,a3,aT⟩:=bind_some aT
     refine A6 f Z call108 (Wk.c0 m aP a1 a3) λa4 w a5 m a f=>l_o f (A4 (f.e Z) aV (f.e Z)) λa f=> ?_
     obtain rfl:=sj aT
     exact⟨_,a5,m,f.k Z⟩
    ·refine AG f aV λa f=> ?_
     refine AG f aV λa f=>AG f aV λa f=>AG f aV λa f=>AG f aV λa f=>AG f aV λa f=>l_o f (A5 (f.e Z) aV (f.e Z)) λa f=> ?_
     obtain rfl:=sj aT
     exact⟨_,gr,m,f.k Z⟩
   ·rintro a w ⟨aU,a6,m,f⟩
    have h0:=rd2 a6 h0
    have aP:=rd1 a6 aP
    have aQ:=Ow.mono (RSl.mono (RI.mono _)) a6 aQ
    refine Aa ?_
    rcases Af aM with⟨a7,aM⟩|⟨a7,aM⟩
    ·refine Al f Z a7 ?_
     refine Ae ?_
     refine Ab f Z λa f=>Ab f Z λa f=>AP (R:=R1) (xs:=([aD]:LL)) (RSl.one _) m T22 f Z Z Z (by decide) (All2.cons aP (All2.nil _)) λa8 a9 w a m ba f=> ?_
     have⟨bb,bc,aM⟩:=bind_some aM
     refine AW (RSl.one _) 1 m aQ Z T22 Z (by decide) f Z Z Z (Ow.src (j:=0) ba m Z) bc λbd be w a m bf f=>Ac f Z λa f=>Aa (Aj ?_)
     refine Ac f Z λa f=>Aa (Aj ?_)
     refine Ab f Z λa f=>Ab f Z λa f=>Ab f Z λa f=> ?_
     have⟨bg,bh,aM⟩:=bind_some aM
     refine A2 T22 f Z Z Z h0 bh λbi bj a bk bl f=>Ax m AT f Z Z bk λa f=>AP (R:=R1) (xs:=([bg]:LL)) (RSl.one _) m T22 f Z Z Z (by decide) (All2.cons bl (All2.nil _)) λbm bn w a m bo f=> ?_
     have⟨bp,bq,aM⟩:=bind_some aM
     refine AW (RSl.one _) 2 m bf Z T22 Z (by decide) f Z Z Z (Ow.src (j:=0) bo m Z) bq λbr bs w a m bt f=>Ac f Z λa f=>Aa (Aj ?_)
     refine Ab f Z λa f=>Ai f Z Z Aw λa f=>Ac f Z λa f=>Aa ?_
     have m:=m.fr 2
     have m:=m.eraseAt 2
     have m:=m.eraseAt 1
     obtain rfl:=sj aM
     exact⟨_,Z,_,_,_,_,Z,_,aI,bs,br,(gt aO a6),f.k Z,m,aP,bt⟩
    ·refine Ah f Z a7 ?_
     refine Am ?_
     refine Aj ?_
     refine Ab f Z λa f=>Ab f Z λa f=>Ab f Z λa f=> ?_
     have⟨bu,bv,aM⟩:=bind_some aM
     refine A2 T22 f Z Z Z h0 bv λbw bx a bz bA f=>Ax m AT f Z Z bz λa f=>AP (R:=R1) (xs:=([bu]:LL)) (RSl.one _) m T22 f Z Z Z (by decide) (All2.cons bA (All2.nil _)) λbB bC w a m bD f=> ?_
     have⟨bE,bF,aM⟩:=bind_some aM
     refine AW (RSl.one _) 1 m aQ Z T22 Z (by decide) f Z Z Z (Ow.src (j:=0) bD m Z) bF λbG bH w a m bI f=>Ac f Z λa f=>Aa (Aj ?_)
     refine Ab f Z λa f=>Ai f Z Z Aw λa f=>Ac f Z λa f=>Aa ?_
     have m:=m.fr 1
     have m:=m.eraseAt 1
     obtain rfl:=sj aM
     exact⟨_,Z,_,_,_,_,Z,_,aI,bH,bG,(gt aO a6),f.k Z,m,aP,bI⟩
  ·refine Ah f Z aR ?_
   refine AA Z ?_
   obtain rfl:=sj aM
   obtain rfl:=aN _ rfl
   exact⟨_,_,_,Z,_,aI,aJ,aK,aO,f.k Z,m,aP,aQ⟩
 ·rintro a w ⟨av,aw,ax,rfl,ay,az,aA,aB,bJ,f,m,bK,bL⟩
  refine Ag (Ae ?_)
  refine Ab f Z λa f=>l_o f (Bv (f.e Z)) λa f=>Aa ?_
  rcases Af hd with⟨bM,hd⟩|⟨bM,hd⟩
  ·refine Al f Z bM ?_
   refine Aj ?_
   refine Ab f Z λa f=>Ab f Z λa f=>AP (R:=R1) (xs:=([av]:LL)) (RSl.one _) m T22 f Z Z Z (by decide) (All2.cons bK (All2.nil _)) λbN bO w a m bP f=> ?_
   have⟨bQ,bR,hd⟩:=bind_some hd
   refine AW (RSl.one _) 1 m bL Z T22 Z (by decide) f Z Z Z (Ow.src (j:=0) bP m Z) bR λbS bT w a m bU f=>Ac f Z λa f=>Ay ?_
   refine Ab f Z λa f=>Ac f Z λa f=>Aa ?_
   refine Aq ?_
   have m:=m.fr 1
   have m:=m.eraseAt 1
   obtain rfl:=sj hd
   exact⟨[bT],f.g Z,f.d,_,[bS],(gt ad (gt ah (gt ap bJ))),m,_,_,Z,Z,bU⟩
  ·refine Ah f Z bM ?_
   refine Am ?_
   refine Ae ?_
   refine Ab f Z λa f=>Ac f Z λa f=>Aa ?_
   refine Aq ?_
   obtain rfl:=sj hd
   exact⟨[aA],f.g Z,f.d,_,[aB],(gt ad (gt ah (gt ap bJ))),m,_,_,Z,Z,bL⟩
theorem Wk.Y {aa v1:Value}{ab:LL}{x1:LI}(m:Mem W G w (H))(ac:R2 G aa ab)(h1:R1 G v1 x1){y:(LL)×(LL)×Bool}(hd:D.Y ab x1=some y):
  Calls prog 33 #[(.agg #[aa]),v1] w (Res W G H (λG' Ho v=>∃r0:Value,∃i0:Itm,∃r2:Value,∃i2:Itm,Ho=[i0,i2]∧v= .tuple #[(.agg #[r0,r2]),(.bool y.2.2)]∧Ow R1 26 G' i0 r0 y.1∧Ow R1 26 G' i2 r2 y.2.1)):=by
 refine Ar (args:=[(.agg #[aa]),v1]) (N:=78) [.cell 4 41,.tmp 5] func33 Z Z (lb Z) Z λa f=> ?_
 unfold D.Y at hd
 refine Ae ?_
 refine Bi (cs:=[aa]) m f Z Z Z λad w a m f=>Bm (cs:=[sn,sn]) zeroValue41 m f Z Z λae w a m f=>Ac f Z λa f=>Aa (Ag (Ae ?_))
 refine AB 1 0 (ds:=[aa]) m Bj f Z Z Z Z Z λa f=>Ab f Z λa f=> ?_
 have⟨af,ag,hd⟩:=bind_some hd
 refine A6 f Z call63 (Wk.n1 m ac h1 ag) λah w ai m a f=> ?_
 have ac:=rd2 ai ac
 have h1:=rd1 ai h1
 refine l_o f (Bv (f.e Z)) λa f=>Aa ?_
 rcases Af hd with⟨aj,hd⟩|⟨aj,hd⟩
 ·refine Al f Z aj ?_
  refine Ae ?_
  have ak:∀w,(Instr.build 41 #[]).run prog w= .ok (.agg #[sn,sn]) w:=by intro w;simp[Instr.build,Instr.fill,Bz,Bn,Bc,Bk,A7,Bx]
  refine BG f Z Z ak λa f=>Az 0 0 (ds:=[sn,sn]) m sizeOf41 f Z Z Z (An Z (An Z AK)) Z (lb Z) Z λw m=>Ac f Z λa f=>Aa ?_
  refine Aq ?_
  obtain⟨al,m,am⟩:=Ow.nil R1 26 m
  obtain⟨an,m,ao⟩:=Ow.nil R1 26 m
  have ap:=BY (P:=prog) 2 m Ck f (s:=4) rfl rfl rfl
  have m:=m.fr 1
  have m:=m.eraseAt 3
  have m:=m.eraseAt 2
  obtain rfl:=sj hd
  exact⟨[(.agg #[sn,sn]),(.bool false)],⟨ap,f.get _ _ Z,trivial⟩,f.d,_,[al,an],ai,m,_,_,_,_,Z,Z,am,ao⟩
 ·refine Ah f Z aj ?_
  refine Am ?_
  refine Ae ?_
  refine AB 1 0 (ds:=[aa]) m Bj f Z Z Z Z Z λa f=>Ab f Z λa f=> ?_
  have⟨aq,ar,hd⟩:=bind_some hd
  refine AL f Z call64 (Wk.c1 m ac h1 ar) λau av aw w ax m ay a f=> ?_
  obtain⟨az,aA,rfl,rfl,aB⟩:=ay
  have h1:=rd1 ax h1
  refine Ac f Z λa f=>Ay ?_
  have aC:∀w,(Instr.build 41 #[]).run prog w= .ok (.agg #[sn,sn]) w:=by intro w;simp[Instr.build,Instr.fill,Bz,Bn,Bc,Bk,A7,Bx]
  refine BG f Z Z aC λa f=>Bm (cs:=[sn,sn]) zeroValue41 m f Z Z λaD w a m f=>Az 0 0 (ds:=[sn,sn]) m sizeOf41 f Z Z Z (An Z (An Z AK)) Z (lb Z) Z λw m=>Ay ?_
  refine Ab f Z λa f=>AO underlying26 f Z Z h1 λa f=>Ac f Z λa f=>Aa (Ag (Ae ?_))
  refine Ac f Z λa f=>Aa ?_
  obtain⟨aE,m,aF⟩:=Ow.nil R1 26 m
  obtain⟨aG,m,aH⟩:=Ow.nil R1 26 m
  have⟨aI,aJ,hd⟩:=bind_some hd
  refine AH (λa w=>∃aK:LL,∃aL:LL,(aK,aL)=aI∧∃(aM:GH) (aN:Value) (aO:Itm) (aP:Value) (aQ:Itm),GLe av aM∧Fr a 78 [(4,(pb ae)),(7,(pb aD))]∧Mem W aM w (ib ae 41 [sn,sn]::ib aD 41 [aN,aP]::aO::aQ::H)∧Ow R1 26 aM aO aN aK∧Ow R1 26 aM aQ aP aL) ?_ ?_
  ·refine Ak ?_
   have m:=m.fr 1
   have m:=m.fr 3
   have m:Mem W av w (ib aD 41 [sn,sn]::aA::aE::aG::ib ae 41 [sn,sn]::ib ad 31 [aa]::H):=m.fr 3
   have m:=m.fr 4
   have m:Mem W av w (ib ae 41 [sn,sn]::ib aD 41 [sn,sn]::aA::aE::aG::H):=m.eraseAt 5
   refine AC (λaR a w=>∃aS:Int,∃aT:LL,∃aU:LL,(aS,aT,aU)=aR∧∃(aV:GH) (aW:Value) (aX:Itm) (aY:Value) (aZ:Itm),GLe av aV∧Fr a 78 [(1,v1),(4,(pb ae)),(6,az),(7,(pb aD)),(8,(iv (x1.length:Int))),(9,(iv aS))]∧Mem W aV w (ib ae 41 [sn,sn]::ib aD 41 [aW,aY]::aA::aX::aZ::H)∧Ow R1 26 aV aX aW aT∧Ow R1 26 aV aZ aY aU) aJ ⟨_,_,_,Z,_,sn,aE,sn,aG,gr,f.k Z,m,aF,aH⟩ ?_
   clear aJ f m
   rintro aR a0 a1 a2 a w ⟨aS,aT,aU,rfl,aV,aW,aX,aY,aZ,a3,f,m,a4,a5⟩
   have h1:=rd1 a3 h1
   have aB:=Ow.mono (RSl.mono (RI.mono _)) a3 aB
   refine Ag (Ae ?_)
   refine Ab f Z λa f=>Ab f Z λa f=>Ai f Z Z AE λa f=>Aa ?_
   rcases Af a1 with⟨a6,a1⟩|⟨a6,a1⟩
   ·refine Al f Z a6 ?_
    refine Am ?_
    refine Ag (Ak (Ae ?_))
    refine Ab f Z λa f=>Ab f Z λa f=>Ab f Z λa f=> ?_
    have⟨a7,a8,a1⟩:=bind_some a1
    refine A2 T26 f Z Z Z h1 a8 λa9 ba a bb bc f=> ?_
    subst bc
    refine Ax m Pl2 f Z Z bb λa f=> ?_
    have⟨bd,be,a1⟩:=bind_some a1
    refine AZ 2 m aB Z T22 f Z Z Z be λbf a bg f=>BA 2 m aB Z AT f Z Z bg be λbh a bi f=>Ac f Z λa f=>Aa (Ag ?_)
    refine A3 10 AM (by kernel_rfl) m ?_
    refine BW 0 10 underlying41 Z sizeOf22 Z f Z λa f=>BK 1 10 1 Bb Z Z Z f Z λa f=>Ao 2 10 Z f Z λa f=>Ao 4 10 Z f Z λa f=>Ao 5 10 Z f Z λa f=> ?_
    have⟨bj,bk,a1⟩:=bind_some a1
    refine BJ 6 10 T26 h1 bk Z f Z Z λbl bm a bn bo f=> ?_
    subst bo
    refine BI 7 10 Pl2 bn Z f Z λa f=>Bp 3 Z λbp w bq m br br=> ?_
    have h1:=rd1 bq h1
    have bi:=rd1 bq bi
    have a4:=Ow.mono (RSl.mono (RI.mono _)) bq a4
    have a5:=Ow.mono (RSl.mono (RI.mono _)) bq a5
    have⟨bs,bt,a1⟩:=bind_some a1
    refine AL f Z call43 (Wk.e m bi bt) λbu bv bw w bx m bz a f=> ?_
    obtain⟨bA,bB,rfl,rfl,bC⟩:=bz
    have h1:=rd1 bx h1
    have bi:=rd1 bx bi
    have a4:=Ow.mono (RSl.mono (RI.mono _)) bx a4
    have a5:=Ow.mono (RSl.mono (RI.mono _)) bx a5
    refine Aa ?_
    refine br bv [bB] _ _ bx m ?_
    refine Bp 8 Z λbD w bE m bF bF=> ?_
    have h1:=rd1 bE h1
    have bi:=rd1 bE bi
    have bC:=od1 bE bC
    have a4:=Ow.mono (RSl.mono (RI.mono _)) bE a4
    have a5:=Ow.mono (RSl.mono (RI.mono _)) bE a5
    obtain⟨bG,bH,m,bI⟩:=Ow.stamp (RI.mono _) bC m
    have h1:=rd1 bH h1
    have bi:=rd1 bH bi
    have a4:=Ow.mono (RSl.mono (RI.mono _)) bH a4
    have a5:=Ow.mono (RSl.mono (RI.mono _)) bH a5
    have⟨bJ,bK,a1⟩:=bind_some a1
    refine AL f Z call65 (Wk.j m bI bK) λbL bM bN w bO m bP a f=> ?_
    obtain⟨bQ,rfl,rfl,bR⟩:=bP
    have h1:=rd1 bO h1
    have bi:=rd1 bO bi
    have a4:=Ow.mono (RSl.mono (RI.mono _)) bO a4
    have a5:=Ow.mono (RSl.mono (RI.mono _)) bO a5
    refine Aa ?_
    refine bF bM [] _ _ (gt bH bO) m ?_
    refine Bp 9 Z λbS w bT m bU bU=> ?_
    have h1:=rd1 bT h1
    have bi:=rd1 bT bi
    have bR:=rd1 bT bR
    have a4:=Ow.mono (RSl.mono (RI.mono _)) bT a4
    have a5:=Ow.mono (RSl.mono (RI.mono _)) bT a5
    refine AP (R:=R1) (xs:=([bJ]:LL)) (RSl.one _) m T22 f Z Z Z (by decide) (All2.cons bR (All2.nil _)) λbV bW w a m bX f=>Aa ?_
    refine bU bS [bV] _ _ gr m ?_
    refine AU λbY w bZ m=> ?_
    have h1:=rd1 bZ h1
    have bi:=rd1 bZ bi
    have bX:=Ow.mono (RSl.mono (RI.mono _)) bZ bX
    have a4:=Ow.mono (RSl.mono (RI.mono _)) bZ a4
    have a5:=Ow.mono (RSl.mono (RI.mono _)) bZ a5
    have⟨b0,b1,a1⟩:=bind_some a1
    refine AW (RSl.one _) 4 m a4 Z T22 Z (by decide) f Z Z Z (Ow.src (j:=0) bX m Z) b1 λb2 b3 w a m b4 f=>Bu underlying41 Z sizeOf22 f Z λa f=>Az 2 0 (ds:=[b3]) m sizeOf22 f Z Z (Ow.cells 4 m b4 Z) (An (Ow.one1 4 m b4 Z) AK) Z (lb Z) Z λw m=>Ay ?_
    refine Ab f Z λa f=>Ai f Z Z Aw λa f=>Ac f Z λa f=>Aa (Ag ?_)
    have⟨b5,b6,a1⟩:=bind_some a1
    refine AH (λa w=>∃b7:Int,b7=b5∧∃(b8:GH),GLe bY b8∧Fr a 78 [(1,v1),(4,(pb ae)),(6,az),(7,(pb aD)),(8,(iv (x1.length:Int))),(9,(iv aS)),(11,(iv b7))]∧Mem W b8 w (ib ae 41 [sn,sn]::ib aD 41 [b3,aY]::aA::b2::aZ::H)) ?_ ?_
    ·refine Ak ?_
     have m:=m.fr 5
     have m:=m.fr 5
     have m:Mem W bY w (aA::b2::aZ::bV::ib ae 41 [sn,sn]::ib aD 41 [b3,aY]::H):=m.fr 5
     have m:=m.fr 5
     have m:=m.fr 5
     have m:Mem W bY w (ib ae 41 [sn,sn]::ib aD 41 [b3,aY]::aA::b2::aZ::H):=m.eraseAt 5
     refine AC (λb9 a w=>∃ca:Int,ca=b9∧∃(cb:GH),GLe bY cb∧Fr a 78 [(1,v1),(4,(pb ae)),(6,az),(7,(pb aD)),(8,(iv (x1.length:Int))),(9,(iv aS)),(10,bh),(11,(iv ca))]∧Mem W cb w (ib ae 41 [sn,sn]::ib aD 41 [b3,aY]::aA::b2::aZ::H)) b6 ⟨_,Z,_,gr,f.k Z,m⟩ ?_
     clear b6 f m
     rintro b9 cc cd ce a w ⟨ca,rfl,cb,cf,f,m⟩
     have h1:=rd1 cf h1
     have bi:=rd1 cf bi
     refine Ag (Ae ?_)
     refine Ab f Z λa f=>Ab f Z λa f=>Ai f Z Z AE λa f=>Ab f Z λa f=> ?_
     refine BH 4 (λa w=>∃cg,GLe cb cg∧Mem W cg w (ib ae 41 [sn,sn]::ib aD 41 [b3,aY]::aA::b2::aZ::H)∧Fr a 78 [(1,v1),(4,(pb ae)),(6,az),(7,(pb aD)),(8,(iv (x1.length:Int))),(9,(iv aS)),(10,bh),(11,(iv ca)),(49,(iv ca)),(50,(iv (x1.length:Int))),(51,(.bool (decide (ca<(x1.length:Int))))),(52,(.bool (decide (ca<(x1.length:Int))))),(56,(.bool ((decide (ca<(x1.length:Int)))&&(decide ((0:Int)<(bd.length:Int))))))]) ?_ ?_
     ·rcases Bool.eq_false_or_eq_true (decide (ca<(x1.length:Int))) with ch|ch
      ·refine AF f ch ?_
       refine Ab f Z λa f=>AF f ch ?_
       refine AO underlying26 f Z Z bi λa f=>AF f ch ?_
       refine Ai f Z Z Cf λa f=>l_o f (A4 (f.e Z) ch (f.e Z)) λa f=> ?_
       exact⟨_,gr,m,f.weak ⟨Z,Z,Z,Z,Z,Z,Z,Z,Z,Z,Z,Z,by rw[ch];rfl,trivial⟩⟩
      ·refine AG f ch λa f=> ?_
       refine AG f ch λa f=>AG f ch λa f=>l_o f (A5 (f.e Z) ch (f.e Z)) λa f=> ?_
       exact⟨_,gr,m,f.weak ⟨Z,Z,Z,Z,Z,Z,Z,Z,Z,Z,Z,Z,by rw[ch];rfl,trivial⟩⟩
     ·rintro a w ⟨cg,ci,m,f⟩
      have h1:=rd1 ci h1
      have bi:=rd1 ci bi
      refine Ab f Z λa f=> ?_
      have⟨cj,ck,cd⟩:=bind_some cd
      refine BH 8 (λa w=>∃cl,GLe cg cl∧Mem W cl w (ib ae 41 [sn,sn]::ib aD 41 [b3,aY]::aA::b2::aZ::H)∧Fr a 78 [(1,v1),(4,(pb ae)),(6,az),(7,(pb aD)),(8,(iv (x1.length:Int))),(9,(iv aS)),(10,bh),(11,(iv ca)),(49,(iv ca)),(50,(iv (x1.length:Int))),(51,(.bool (decide (ca<(x1.length:Int))))),(52,(.bool (decide (ca<(x1.length:Int))))),(56,(.bool ((decide (ca<(x1.length:Int)))&&(decide ((0:Int)<(bd.length:Int)))))),(57,(.bool ((decide (ca<(x1.length:Int)))&&(decide ((0:Int)<(bd.length:Int)))))),(65,(.bool cj))]) ?_ ?_
      ·rcases Af ck with⟨cm,ck⟩|⟨cm,ck⟩
       ·refine AF f cm ?_
        refine Ab f Z λa f=>AF f cm ?_
        refine Ab f Z λa f=>AF f cm ?_
        refine Ab f Z λa f=>AF f cm ?_
        have⟨cn,co,ck⟩:=bind_some ck
        refine A2 T26 f Z Z Z h1 co λcp cq a cr ct f=> ?_
        subst ct
        refine AF f cm ?_
        refine Ax m Pl2 f Z Z cr λa f=>AF f cm ?_
        have⟨cu,cv,ck⟩:=bind_some ck
        refine A6 f Z call39 (Wk.c m bi cv) λcw w cx m a f=>AF f cm ?_
        refine l_o f (Bv (f.e Z)) λa f=>l_o f (A4 (f.e Z) cm (f.e Z)) λa f=> ?_
        obtain rfl:=sj ck
        exact⟨_,cx,m,f.k Z⟩
       ·refine AG f cm λa f=> ?_
        refine AG f cm λa f=>AG f cm λa f=>AG f cm λa f=>AG f cm λa f=>AG f cm λa f=>AG f cm λa f=>l_o f (A5 (f.e Z) cm (f.e Z)) λa f=> ?_
        obtain rfl:=sj ck
        exact⟨_,gr,m,f.k Z⟩
      ·rintro a w ⟨cl,cy,m,f⟩
       refine Aa ?_
       rcases Af cd with⟨cz,cd⟩|⟨cz,cd⟩
       ·refine Al f Z cz ?_
        refine Am ?_
        refine Ak (Aj ?_)
        refine Ab f Z λa f=>Ai f Z Z Aw λa f=>Ac f Z λa f=>Aa ?_
        obtain rfl:=sj cd
        exact⟨_,Z,_,Z,_,(gt cf (gt ci cy)),f.k Z,m⟩
       ·refine Ah f Z cz ?_
        refine AA Z ?_
        obtain rfl:=sj cd
        obtain rfl:=ce _ rfl
        exact⟨_,Z,_,(gt cf (gt ci cy)),f.k Z,m⟩
    ·rintro a w ⟨b7,rfl,b8,cA,f,m⟩
     have b4:=Ow.mono (RSl.mono (RI.mono _)) cA b4
     have a5:=Ow.mono (RSl.mono (RI.mono _)) cA a5
     refine Ae ?_
     refine Ab f Z λa f=>Ab f Z λa f=>Ai f Z Z AE λa f=>Aa ?_
     rcases Af a1 with⟨cB,a1⟩|⟨cB,a1⟩
     ·refine Al f Z cB ?_
      refine Aj ?_
      refine Bu underlying41 Z sizeOf22 f Z λa f=>AJ 1 1 m Bb f Z Z Z Z λa f=>Ab f Z λa f=>Ab f Z λa f=> ?_
      have m:Mem W b8 w (aZ::ib ae 41 [sn,sn]::ib aD 41 [b3,aY]::aA::b2::H):=m.fr 4
      obtain⟨cC,cD,m,cE⟩:=Ow.stamp (RSl.mono (RI.mono _)) a5 m
      have b4:=Ow.mono (RSl.mono (RI.mono _)) cD b4
      have⟨cF,cG,a1⟩:=bind_some a1
      refine AL f Z call66 (Wk.R m cE cG) λcH cI cJ w cK m cL a f=> ?_
      obtain⟨cM,cN,rfl,rfl,cO⟩:=cL
      have b4:=Ow.mono (RSl.mono (RI.mono _)) cK b4
      refine Bu underlying41 Z sizeOf22 f Z λa f=>Az 2 1 (ds:=[cM]) m sizeOf22 f Z Z (Ow.cells 0 m cO Z) (An (Ow.one1 0 m cO Z) AK) Z (lb Z) Z λw m=>Aa (Aj ?_)
      refine Ab f Z λa f=>Ai f Z Z Aw λa f=>Ac f Z λa f=>Aa ?_
      have m:=m.fr 4
      have m:=m.fr 4
      have m:Mem W cI w (ib aD 41 [b3,cM]::aA::b2::cN::ib ae 41 [sn,sn]::H):=m.fr 4
      have m:Mem W cI w (ib ae 41 [sn,sn]::ib aD 41 [b3,cM]::aA::b2::cN::H):=m.fr 4
      obtain rfl:=sj a1
      exact⟨_,Z,_,_,_,Z,_,b3,b2,cM,cN,(gt a3 (gt bq (gt bx (gt bE (gt bH (gt bO (gt bT (gt bZ (gt cA (gt cD cK)))))))))),f.k Z,m,b4,cO⟩
     ·refine Ah f Z cB ?_
      refine Am ?_
      refine Aj ?_
      refine Ab f Z λa f=>Ai f Z Z Aw λa f=>Ac f Z λa f=>Aa ?_
      obtain rfl:=sj a1
      exact⟨_,Z,_,_,_,Z,_,b3,b2,aY,aZ,(gt a3 (gt bq (gt bx (gt bE (gt bH (gt bO (gt bT (gt bZ cA)))))))),f.k Z,m,b4,a5⟩
   ·refine Ah f Z a6 ?_
    refine AA Z ?_
    have m:=m.fr 4
    have m:=m.fr 4
    have m:Mem W aV w (ib aD 41 [aW,aY]::aX::aZ::ib ae 41 [sn,sn]::aA::H):=m.fr 3
    have m:=m.fr 3
    have m:Mem W aV w (ib ae 41 [sn,sn]::ib aD 41 [aW,aY]::aX::aZ::H):=m.eraseAt 4
    obtain rfl:=sj a1
    obtain rfl:=a2 _ rfl
    exact⟨_,_,Z,_,aW,aX,aY,aZ,a3,f.k Z,m,a4,a5⟩
  ·rintro a w ⟨aK,aL,rfl,aM,aN,aO,aP,aQ,cP,f,m,cQ,cR⟩
   refine Ae ?_
   refine AB 1 0 (ds:=[aN,aP]) m Ck f Z Z Z Z Z λa f=>Az 0 0 (ds:=[aN,aP]) m sizeOf41 f Z Z Z (An (Ow.one1 2 m cQ Z) (An (Ow.one1 3 m cR Z) AK)) Z (lb Z) Z λw m=>Ac f Z λa f=>Aa ?_
   refine Aq ?_
   have cS:=BY (P:=prog) 0 m Ck f (s:=4) rfl rfl rfl
   have m:=m.fr 3
   have m:=m.fr 3
   have m:Mem W aM w (aO::aQ::ib ae 41 [aN,aP]::H):=m.eraseAt 3
   have m:=m.eraseAt 2
   obtain rfl:=sj hd
   exact⟨[(.agg #[aN,aP]),(.bool true)],⟨cS,f.get _ _ Z,trivial⟩,f.d,_,[aO,aQ],(gt ai (gt ax cP)),m,_,_,_,_,Z,Z,cQ,cR⟩
theorem Wk.b1 {aa ab:Value}{ac ad:LL}(m:Mem W G w (H))(ae:R2 G aa ac)(af:R2 G ab ad){y:Bool}(hd:D.b1 ac ad=some y):
  Calls prog 137 #[(.agg #[aa,ab])] w (Res W G H (λ_ Ho v=>Ho=[]∧v=(.bool y))):=by
 refine Ar (args:=[(.agg #[aa,ab])]) (N:=41) [.tmp 2] func137 Z Z (lb Z) Z λa f=> ?_
 unfold D.b1 at hd
 refine Ae ?_
 refine Bi (cs:=[aa,ab]) m f Z Z Z λag w a m f=>Ac f Z λa f=>Ay ?_
 refine Bu underlying41 Z sizeOf22 f Z λa f=>AJ 0 0 m Bb f Z Z Z Z λa f=>AO underlying22 f Z Z ae λa f=>Ac f Z λa f=>Aa (Ag (Ae ?_))
 refine Ab f Z λa f=> ?_
 have⟨ah,ai,hd⟩:=bind_some hd
 refine A6 f Z call61 (Wk.d m ai) λaj w ak m a f=> ?_
 have af:=rd2 ak af
 refine l_o f (Bv (f.e Z)) λa f=>Ab f Z λa f=> ?_
 refine BH 5 (λa w=>∃al,GLe aj al∧Mem W al w (ib ag 41 [aa,ab]::H)∧Fr a 41 [(0,(.agg #[aa,ab])),(1,(pb ag)),(3,(iv (ac.length:Int))),(8,(iv (ac.length:Int))),(9,(.bool ah)),(10,(.bool (!ah))),(11,(.bool (!ah))),(16,(.bool ((!ah)||(decide ((16:Int)<(ad.length:Int))))))]) ?_ ?_
 ·rcases Bool.eq_false_or_eq_true (!ah) with am|am
  ·refine AG f am λa f=> ?_
   refine AG f am λa f=>AG f am λa f=>AG f am λa f=>l_o f (A4 (f.e Z) am (f.e Z)) λa f=> ?_
   exact⟨_,gr,m,f.weak ⟨Z,Z,Z,Z,Z,Z,Z,by rw[am];rfl,trivial⟩⟩
  ·refine AF f am ?_
   refine Bu underlying41 Z sizeOf22 f Z λa f=>AF f am ?_
   refine AJ 0 1 m Bb f Z Z Z Z λa f=>AF f am ?_
   refine AO underlying22 f Z Z af λa f=>AF f am ?_
   refine Ai f Z Z Cf λa f=>l_o f (A5 (f.e Z) am (f.e Z)) λa f=> ?_
   exact⟨_,gr,m,f.weak ⟨Z,Z,Z,Z,Z,Z,Z,by rw[am];rfl,trivial⟩⟩
 ·rintro a w ⟨al,an,m,f⟩
  have af:=rd2 an af
  refine Aa ?_
  rcases Af hd with⟨ao,hd⟩|⟨ao,hd⟩
  ·refine Al f Z ao ?_
   refine Ae ?_
   refine Ac f Z λa f=>Aa ?_
   refine Aq ?_
   have m:Mem W al w H:=Mem.drop (H':=[ib ag 41 [aa,ab]]) m
   obtain rfl:=sj hd
   exact⟨[(.bool false)],f.g Z,f.d,_,[],(gt ak an),m,Z,Z⟩
  ·refine Ah f Z ao ?_
   refine Am ?_
   refine Ag (Ae ?_)
   refine Ac f Z λa f=>Aa ?_
   have⟨ap,aq,hd⟩:=bind_some hd
   refine AH (λa w=>∃q_120':Unit,ap= .inl q_120'∧∃(ar:GH),GLe al ar∧Fr a 41 []∧Mem W ar w (H)) ?_ ?_
   ·refine Ak ?_
    refine AC (λau a w=>∃av:Int,av=au∧∃(aw:GH),GLe al aw∧Fr a 41 [(1,(pb ag)),(3,(iv (ac.length:Int))),(4,(iv av))]∧Mem W aw w (ib ag 41 [aa,ab]::H)) aq ⟨_,Z,_,gr,f.k Z,m⟩ ?_
    clear aq f m
    rintro au ax ay az a w ⟨av,rfl,aw,aA,f,m⟩
    have af:=rd2 aA af
    refine Ag (Ae ?_)
    refine Ab f Z λa f=>Bu underlying41 Z sizeOf22 f Z λa f=>AJ 0 1 m Bb f Z Z Z Z λa f=>AO underlying22 f Z Z af λa f=>Ai f Z Z AE λa f=>Aa ?_
    rcases Af ay with⟨aB,ay⟩|⟨aB,ay⟩
    ·refine Al f Z aB ?_
     refine Am ?_
     refine Ag (Ak (Ae ?_))
     refine Bu underlying41 Z sizeOf22 f Z λa f=>AJ 0 1 m Bb f Z Z Z Z λa f=>Ab f Z λa f=> ?_
     have⟨aC,aD,ay⟩:=bind_some ay
     refine A2 T22 f Z Z Z af aD λaE aF a aG aH f=>Ax m AT f Z Z aG λa f=>AO underlying26 f Z Z aH λa f=>Ai f Z Z B8 λa f=>Ab f Z λa f=> ?_
     have⟨aI,aJ,ay⟩:=bind_some ay
     refine BH 9 (λa w=>∃aK,GLe aw aK∧Mem W aK w (ib ag 41 [aa,ab]::H)∧Fr a 41 [(1,(pb ag)),(3,(iv (ac.length:Int))),(4,(iv av)),(21,(.bool (decide (av<(ad.length:Int))))),(24,(.pointer (some ⟨ag,1,none⟩))),(25,ab),(26,(iv av)),(27,aE),(28,aF),(29,(iv (aC.length:Int))),(30,(.bool ((aC.length:Int) !=2))),(31,(.bool ((aC.length:Int) !=2))),(40,(.bool aI))]) ?_ ?_
     ·rcases Af aJ with⟨aL,aJ⟩|⟨aL,aJ⟩
      ·refine AG f aL λa f=> ?_
       refine AG f aL λa f=>AG f aL λa f=>AG f aL λa f=>AG f aL λa f=>AG f aL λa f=>AG f aL λa f=>AG f aL λa f=>l_o f (A4 (f.e Z) aL (f.e Z)) λa f=> ?_
       obtain rfl:=sj aJ
       exact⟨_,gr,m,f.k Z⟩
      ·refine AF f aL ?_
       refine Bu underlying41 Z sizeOf22 f Z λa f=>AF f aL ?_
       refine AJ 0 1 m Bb f Z Z Z Z λa f=>AF f aL ?_
       refine Ab f Z λa f=>AF f aL ?_
       have⟨aM,aN,aJ⟩:=bind_some aJ
       refine A2 T22 f Z Z Z af aN λaO aP a aQ aR f=>AF f aL ?_
       refine Ax m AT f Z Z aQ λa f=>AF f aL ?_
       refine Ab f Z λa f=>AF f aL ?_
       have⟨aS,aT,aJ⟩:=bind_some aJ
       refine A6 f Z call62 (Wk.J m aR aT) λaU w aV m a f=>AF f aL ?_
       refine l_o f (Bv (f.e Z)) λa f=>l_o f (A5 (f.e Z) aL (f.e Z)) λa f=> ?_
       obtain rfl:=sj aJ
       exact⟨_,aV,m,f.k Z⟩
     ·rintro a w ⟨aK,aW,m,f⟩
      refine Aa ?_
      rcases Af ay with⟨aX,ay⟩|⟨aX,ay⟩
      ·refine Al f Z aX ?_
       refine Ae ?_
       refine Ac f Z λa f=>Aa ?_
       refine Aq ?_
       have m:Mem W aK w H:=Mem.drop (H':=[ib ag 41 [aa,ab]]) m
       obtain rfl:=sj ay
       obtain rfl:=az _ rfl
       obtain rfl:=sj hd
       exact⟨[(.bool false)],f.g Z,f.d,_,[],(gt ak (gt an (gt aA aW))),m,Z,Z⟩
      ·refine Ah f Z aX ?_
       refine Am ?_
       refine Aj ?_
       refine Ab f Z λa f=>Ai f Z Z Aw λa f=>Ac f Z λa f=>Aa ?_
       obtain rfl:=sj ay
       exact⟨_,Z,_,Z,_,(gt aA aW),f.k Z,m⟩
    ·refine Ah f Z aB ?_
     refine AA Z ?_
     have m:Mem W aw w H:=Mem.drop (H':=[ib ag 41 [aa,ab]]) m
     obtain rfl:=sj ay
     obtain rfl:=az _ rfl
     exact⟨_,Z,_,aA,f.weak trivial,m⟩
   ·rintro a w ⟨_,rfl,ar,aY,f,m⟩
    refine Ae ?_
    refine Ac f Z λa f=>Aa ?_
    refine Aq ?_
    obtain rfl:=sj hd
    exact⟨[(.bool true)],f.g Z,f.d,_,[],(gt ak (gt an aY)),m,Z,Z⟩
theorem Wk.j1 {x0:Int}(m:Mem W G w (H)){y:(LI)}(hd:D.j1 x0=some y):
  Calls prog 138 #[(iv x0)] w (Res W G H (λG' Ho v=>∃r0:Value,∃i0:Itm,Ho=[i0]∧r0=v∧Ow R0 2 G' i0 r0 y)):=by
 refine Ar (args:=[(iv x0)]) (N:=16) [.tmp 2] func138 Z Z (lb Z) Z λa f=> ?_
 unfold D.j1 at hd
 refine Ae ?_
 refine Ac f Z λa f=>Ay ?_
 refine AP (R:=R0) (xs:=([]:LI)) (RI.one _) m T26 f Z Z Z (by decide) (All2.nil _) λaa ab w a m ac f=>Ac f Z λa f=>Aa (Ag (Ae ?_))
 refine Ac f Z λa f=>Aa ?_
 have⟨ad,ae,hd⟩:=bind_some hd
 refine AH (λa w=>∃af:LI,af=ad∧∃(ag:GH) (ah:Value) (ai:Itm),GLe G ag∧Fr a 16 [(3,ah)]∧Mem W ag w (ai::H)∧Ow R0 2 ag ai ah af) ?_ ?_
 ·refine Ak ?_
  refine AC (λaj a w=>∃ak:LI,∃al:Int,(ak,al)=aj∧∃(am:GH) (an:Value) (ao:Itm),GLe G am∧Fr a 16 [(0,(iv x0)),(3,an),(4,(iv al))]∧Mem W am w (ao::H)∧Ow R0 2 am ao an ak) ae ⟨_,_,Z,_,ab,aa,gr,f.k Z,m,ac⟩ ?_
  clear ae f m
  rintro aj ap aq ar a w ⟨ak,al,rfl,am,an,ao,au,f,m,av⟩
  refine Ag (Ae ?_)
  refine Ab f Z λa f=>Ab f Z λa f=>Ai f Z Z AE λa f=>Aa ?_
  rcases Af aq with⟨aw,aq⟩|⟨aw,aq⟩
  ·refine Al f Z aw ?_
   refine Am ?_
   refine Ag (Ak (Aj ?_))
   refine Ab f Z λa f=>Ab f Z λa f=>AP (R:=R0) (xs:=([al]:LI)) (RI.one _) m T26 f Z Z Z (by decide) (All2.cons Z (All2.nil _)) λax ay w a m az f=> ?_
   have⟨aA,aB,aq⟩:=bind_some aq
   refine AW (RI.one _) 1 m av Z T26 Z (by decide) f Z Z Z (Ow.src (j:=0) az m Z) aB λaC aD w a m aE f=>Ac f Z λa f=>Aa (Aj ?_)
   refine Ab f Z λa f=>Ai f Z Z Aw λa f=>Ac f Z λa f=>Aa ?_
   have m:=m.fr 1
   have m:=m.eraseAt 1
   obtain rfl:=sj aq
   exact⟨_,Z,_,_,Z,_,aD,aC,au,f.k Z,m,aE⟩
  ·refine Ah f Z aw ?_
   refine AA Z ?_
   obtain rfl:=sj aq
   obtain rfl:=ar _ rfl
   exact⟨_,Z,_,an,ao,au,f.k Z,m,av⟩
 ·rintro a w ⟨af,rfl,ag,ah,ai,aF,f,m,aG⟩
  refine Ae ?_
  refine Ab f Z λa f=>Ac f Z λa f=>Aa ?_
  refine Aq ?_
  obtain rfl:=sj hd
  exact⟨[ah],f.g Z,f.d,_,[ai],aF,m,_,_,Z,Z,aG⟩
theorem Wk.v1 {aa ab:Value}{ac ad:LL}{x1:Int}(m:Mem W G w (H))(ae:R2 G aa ac)(af:R2 G ab ad){y:(LI)}(hd:D.v1 ac ad x1=some y):
  Calls prog 139 #[(.agg #[aa,ab]),(iv x1)] w (Res W G H (λG' Ho v=>∃r0:Value,Ho=[]∧r0=v∧R1 G' r0 y)):=by
 refine Ar (args:=[(.agg #[aa,ab]),(iv x1)]) (N:=52) [.tmp 4] func139 Z Z (lb Z) Z λa f=> ?_
 unfold D.v1 at hd
 refine Ae ?_
 refine Bi (cs:=[aa,ab]) m f Z Z Z λag w a m f=>Ac f Z λa f=>Ay ?_
 refine AP (R:=R0) (xs:=([]:LI)) (RI.one _) m T26 f Z Z Z (by decide) (All2.nil _) λah ai w a m aj f=>Ac f Z λa f=>Aa (Ag (Ae ?_))
 refine Ac f Z λa f=>Aa ?_
 obtain⟨ak,al,m,am⟩:=Ow.stamp (RI.mono _) aj m
 have af:=rd2 al af
 have⟨an,ao,hd⟩:=bind_some hd
 refine AH (λa w=>∃ap:LI,ap=an∧∃(aq:GH) (ar:Value),GLe ak aq∧Fr a 52 [(5,ar)]∧Mem W aq w (H)∧R1 aq ar ap) ?_ ?_
 ·refine Ak ?_
  refine AC (λau a w=>∃av:LI,∃aw:Int,(av,aw)=au∧∃(ax:GH) (ay:Value),GLe ak ax∧Fr a 52 [(1,(iv x1)),(2,(pb ag)),(5,ay),(6,(iv aw))]∧Mem W ax w (ib ag 41 [aa,ab]::H)∧R1 ax ay av) ao ⟨_,_,Z,_,ai,gr,f.k Z,m,am⟩ ?_
  clear ao f m
  rintro au az aA aB a w ⟨av,aw,rfl,ax,ay,aC,f,m,aD⟩
  have af:=rd2 aC af
  refine Ag (Ae ?_)
  refine Ab f Z λa f=>Bu underlying41 Z sizeOf22 f Z λa f=>AJ 0 1 m Bb f Z Z Z Z λa f=>AO underlying22 f Z Z af λa f=>Ai f Z Z AE λa f=>Aa ?_
  rcases Af aA with⟨aE,aA⟩|⟨aE,aA⟩
  ·refine Al f Z aE ?_
   refine Am ?_
   refine Ag (Ak (Ag (Ae ?_)))
   refine Bu underlying41 Z sizeOf22 f Z λa f=>AJ 0 1 m Bb f Z Z Z Z λa f=>Ab f Z λa f=> ?_
   have⟨aF,aG,aA⟩:=bind_some aA
   refine A2 T22 f Z Z Z af aG λaH aI a aJ aK f=>Ax m AT f Z Z aJ λa f=> ?_
   have⟨aL,aM,aA⟩:=bind_some aA
   refine A2 T26 f Z Z Z aK aM λaN aO a aP aQ f=> ?_
   subst aQ
   refine Ax m Pl2 f Z Z aP λa f=>Ab f Z λa f=>Ai f Z Z BS λa f=>Aa ?_
   have⟨aR,aS,aA⟩:=bind_some aA
   refine AH (λa w=>∃aT:LI,aT=aR∧∃(aU:GH) (aV:Value),GLe ax aU∧Fr a 52 [(1,(iv x1)),(2,(pb ag)),(5,aV),(6,(iv aw))]∧Mem W aU w (ib ag 41 [aa,ab]::H)∧R1 aU aV aT) ?_ ?_
   ·rcases Af aS with⟨aW,aS⟩|⟨aW,aS⟩
    ·refine Al f Z aW ?_
     refine Aj ?_
     refine Ab f Z λa f=>Bu underlying41 Z sizeOf22 f Z λa f=>AJ 0 1 m Bb f Z Z Z Z λa f=>Ab f Z λa f=> ?_
     have⟨aX,aY,aS⟩:=bind_some aS
     refine A2 T22 f Z Z Z af aY λaZ a0 a a1 a2 f=>Ax m AT f Z Z a1 λa f=> ?_
     have⟨a3,a4,aS⟩:=bind_some aS
     refine A2 T26 f Z Z Z a2 a4 λa5 a6 a a7 a8 f=> ?_
     subst a8
     refine Ax m Pl2 f Z Z a7 λa f=> ?_
     have⟨a9,ba,aS⟩:=bind_some aS
     refine AL f Z call65 (Wk.j m aD ba) λbb bc bd w be m bf a f=> ?_
     obtain⟨bg,rfl,rfl,bh⟩:=bf
     refine Ac f Z λa f=>Aa ?_
     obtain rfl:=sj aS
     exact⟨_,Z,_,bg,be,f.k Z,m,bh⟩
    ·refine Ah f Z aW ?_
     refine Am ?_
     obtain rfl:=sj aS
     exact⟨_,Z,_,ay,gr,f.k Z,m,aD⟩
   ·rintro a w ⟨aT,rfl,aU,aV,bi,f,m,bj⟩
    have af:=rd2 bi af
    refine Ae ?_
    refine Bu underlying41 Z sizeOf22 f Z λa f=>AJ 0 1 m Bb f Z Z Z Z λa f=>Ab f Z λa f=> ?_
    have⟨bk,bl,aA⟩:=bind_some aA
    refine A2 T22 f Z Z Z af bl λbm bn a bo bp f=>Ax m AT f Z Z bo λa f=> ?_
    have⟨bq,br,aA⟩:=bind_some aA
    refine A2 T26 f Z Z Z bp br λbs bt a bu bv f=> ?_
    subst bv
    refine Ax m Pl2 f Z Z bu λa f=>Ab f Z λa f=>Ai f Z Z BS λa f=>Aa ?_
    rcases Af aA with⟨bw,aA⟩|⟨bw,aA⟩
    ·refine Al f Z bw ?_
     refine Aj ?_
     refine Ab f Z λa f=>Bu underlying41 Z sizeOf22 f Z λa f=>AJ 0 1 m Bb f Z Z Z Z λa f=>Ab f Z λa f=> ?_
     have⟨bx,bz,aA⟩:=bind_some aA
     refine A2 T22 f Z Z Z af bz λbA bB a bC bD f=>Ax m AT f Z Z bC λa f=> ?_
     have⟨bE,bF,aA⟩:=bind_some aA
     refine A2 T26 f Z Z Z bD bF λbG bH a bI bJ f=> ?_
     subst bJ
     refine Ax m Pl2 f Z Z bI λa f=> ?_
     have⟨bK,bL,aA⟩:=bind_some aA
     refine AL f Z call65 (Wk.j m bj bL) λbM bN bO w bP m bQ a f=> ?_
     obtain⟨bR,rfl,rfl,bS⟩:=bQ
     refine Ac f Z λa f=>Aa (Aj ?_)
     refine Ab f Z λa f=>Ai f Z Z Aw λa f=>Ac f Z λa f=>Aa ?_
     obtain rfl:=sj aA
     exact⟨_,Z,_,_,Z,_,bR,(gt aC (gt bi bP)),f.k Z,m,bS⟩
    ·refine Ah f Z bw ?_
     refine Am ?_
     refine Aj ?_
     refine Ab f Z λa f=>Ai f Z Z Aw λa f=>Ac f Z λa f=>Aa ?_
     obtain rfl:=sj aA
     exact⟨_,Z,_,_,Z,_,aV,(gt aC bi),f.k Z,m,bj⟩
  ·refine Ah f Z aE ?_
   refine AA Z ?_
   have m:Mem W ax w H:=Mem.drop (H':=[ib ag 41 [aa,ab]]) m
   obtain rfl:=sj aA
   obtain rfl:=aB _ rfl
   exact⟨_,Z,_,ay,aC,f.k Z,m,aD⟩
 ·rintro a w ⟨ap,rfl,aq,ar,bT,f,m,bU⟩
  refine Ae ?_
  refine Ab f Z λa f=>Ac f Z λa f=>Aa ?_
  refine Aq ?_
  obtain rfl:=sj hd
  exact⟨[ar],f.g Z,f.d,_,[],(gt al bT),m,_,Z,Z,bU⟩
theorem Wk.U {aa ab v1:Value}{ac ad:LL}{x1:LI}(m:Mem W G w (H))(ae:R2 G aa ac)(af:R2 G ab ad)(h1:R1 G v1 x1){y:Int}(hd:D.U ac ad x1=some y):
  Calls prog 114 #[(.agg #[aa,ab]),v1] w (Res W G H (λ_ Ho v=>Ho=[]∧v=(iv y))):=by
 refine Ar (args:=[(.agg #[aa,ab]),v1]) (N:=58) [.tmp 4] func114 Z Z (lb Z) Z λa f=> ?_
 unfold D.U at hd
 refine Ae ?_
 refine Bi (cs:=[aa,ab]) m f Z Z Z λag w a m f=>Ac f Z λa f=>Aa (Ag (Ae ?_))
 refine Ab f Z λa f=>AO underlying26 f Z Z h1 λa f=>Ai f Z Z BS λa f=>Aa ?_
 rcases Af hd with⟨ah,hd⟩|⟨ah,hd⟩
 ·refine Al f Z ah ?_
  refine Ae ?_
  refine Ac f Z λa f=>Aa ?_
  refine Aq ?_
  have m:Mem W G w H:=Mem.drop (H':=[ib ag 41 [aa,ab]]) m
  obtain rfl:=sj hd
  exact⟨[(iv 0)],f.g Z,f.d,_,[],gr,m,Z,Z⟩
 ·refine Ah f Z ah ?_
  refine Am ?_
  refine Ae ?_
  refine Ab f Z λa f=> ?_
  have⟨ai,aj,hd⟩:=bind_some hd
  refine A2 T26 f Z Z Z h1 aj λak al a am an f=> ?_
  subst an
  refine Ax m Pl2 f Z Z am λa f=>AP (R:=R0) (xs:=([ai]:LI)) (RI.one _) m T26 f Z Z Z (by decide) (All2.cons Z (All2.nil _)) λao ap w a m aq f=>Ac f Z λa f=>Aa (Ag (Ae ?_))
  refine Ac f Z λa f=>Aa ?_
  have⟨ar,au,hd⟩:=bind_some hd
  refine AH (λa w=>∃av:LI,av=ar∧∃(aw:GH) (ax:Value) (ay:Itm),GLe G aw∧Fr a 58 [(5,ax)]∧Mem W aw w (ay::H)∧Ow R0 2 aw ay ax av) ?_ ?_
  ·refine Ak ?_
   have m:=m.fr 1
   refine AC (λaz a w=>∃aA:LI,∃aB:Int,(aA,aB)=az∧∃(aC:GH) (aD:Value) (aE:Itm),GLe G aC∧Fr a 58 [(1,v1),(2,(pb ag)),(5,aD),(6,(iv aB))]∧Mem W aC w (ib ag 41 [aa,ab]::aE::H)∧Ow R0 2 aC aE aD aA) au ⟨_,_,Z,_,ap,ao,gr,f.k Z,m,aq⟩ ?_
   clear au f m
   rintro az aF aG aH a w ⟨aA,aB,rfl,aC,aD,aE,aI,f,m,aJ⟩
   have h1:=rd1 aI h1
   have ae:=rd2 aI ae
   have af:=rd2 aI af
   refine Ag (Ae ?_)
   refine Ab f Z λa f=>Ab f Z λa f=>BE 1 m aJ Z underlying26 f Z Z λa f=>Ai f Z Z AE λa f=>Aa ?_
   rcases Af aG with⟨aK,aG⟩|⟨aK,aG⟩
   ·refine Al f Z aK ?_
    refine Am ?_
    refine Ag (Ak (Ag ?_))
    refine A3 7 AM (by kernel_rfl) m ?_
    refine BM (i:=0) (ds:=[aa,ab]) 7 0 Ck Z Z Z Z (by kernel_rfl) Z f Z Z Z λa f=>Ao 1 7 Z f Z λa f=>Ao 2 7 Z f Z λa f=> ?_
    have⟨aL,aM,aG⟩:=bind_some aG
    refine A8 3 7 1 m aJ T26 aM Z f Z Z λaN a aO f=>Bo 4 7 1 aJ Pl2 aO aM Z f Z λaP a aQ f=> ?_
    subst aQ
    refine Bp 5 Z λaR w aS m aT aT=> ?_
    have h1:=rd1 aS h1
    have ae:=rd2 aS ae
    have af:=rd2 aS af
    have aJ:=od1 aS aJ
    have⟨aU,aV,aG⟩:=bind_some aG
    refine AL f Z call139 (Wk.v1 m ae af aV) λaW aX aY w aZ m a0 a f=> ?_
    obtain⟨a1,rfl,rfl,a2⟩:=a0
    have h1:=rd1 aZ h1
    have aJ:=od1 aZ aJ
    refine Aa ?_
    refine aT aX [] _ _ aZ m ?_
    refine q_p 6 7 Z f (λ_=>Br (f.e Z)) λa f=>AU λa3 w a4 m=> ?_
    have h1:=rd1 a4 h1
    have a2:=rd1 a4 a2
    have aJ:=od1 a4 aJ
    refine Ay ?_
    refine Ac f Z λa f=>Aa ?_
    have⟨a5,a6,aG⟩:=bind_some aG
    refine AH (λa w=>∃a7:LI,a7=a5∧∃(a8:GH) (a9:Value) (ba:Itm),GLe a3 a8∧Fr a 58 [(1,v1),(2,(pb ag)),(5,a9),(6,(iv aB))]∧Mem W a8 w (ib ag 41 [aa,ab]::ba::H)∧Ow R0 2 a8 ba a9 a7) ?_ ?_
    ·refine Ak ?_
     refine AC (λbb a w=>∃bc:LI,∃bd:Int,(bc,bd)=bb∧∃(be:GH) (bf:Value) (bg:Itm),GLe a3 be∧Fr a 58 [(1,v1),(2,(pb ag)),(5,bf),(6,(iv aB)),(7,a1),(8,(iv bd))]∧Mem W be w (ib ag 41 [aa,ab]::bg::H)∧Ow R0 2 be bg bf bc) a6 ⟨_,_,Z,_,aD,aE,gr,f.k Z,m,aJ⟩ ?_
     clear a6 f m
     rintro bb bh bi bj a w ⟨bc,bd,rfl,be,bf,bg,bk,f,m,bl⟩
     have h1:=rd1 bk h1
     have a2:=rd1 bk a2
     refine Ag (Ae ?_)
     refine Ab f Z λa f=>Ab f Z λa f=>AO underlying26 f Z Z a2 λa f=>Ai f Z Z AE λa f=>Aa ?_
     rcases Af bi with⟨bm,bi⟩|⟨bm,bi⟩
     ·refine Al f Z bm ?_
      refine Am ?_
      refine Ag (Ak (Ae ?_))
      refine Ab f Z λa f=>Ab f Z λa f=>Ab f Z λa f=> ?_
      have⟨bn,bo,bi⟩:=bind_some bi
      refine A2 T26 f Z Z Z a2 bo λbp bq a br bs f=> ?_
      subst bs
      refine Ax m Pl2 f Z Z br λa f=> ?_
      have⟨bt,bu,bi⟩:=bind_some bi
      refine A6 f Z call39 (Wk.c m h1 bu) λbv w bw m a f=> ?_
      have a2:=rd1 bw a2
      have bl:=od1 bw bl
      refine Ab f Z λa f=> ?_
      have⟨bx,bz,bi⟩:=bind_some bi
      refine BH 8 (λa w=>∃bA,GLe bv bA∧Mem W bA w (ib ag 41 [aa,ab]::bg::H)∧Fr a 58 [(1,v1),(2,(pb ag)),(5,bf),(6,(iv aB)),(7,a1),(8,(iv bd)),(31,(.bool (decide (bd<(aU.length:Int))))),(34,v1),(35,a1),(36,(iv bd)),(37,bp),(38,(iv bn)),(39,(.bool bt)),(40,(.bool bt)),(48,(.bool bx))]) ?_ ?_
      ·rcases Af bz with⟨bB,bz⟩|⟨bB,bz⟩
       ·refine AF f bB ?_
        refine Ab f Z λa f=>AF f bB ?_
        refine Ab f Z λa f=>AF f bB ?_
        refine Ab f Z λa f=>AF f bB ?_
        have⟨bC,bD,bz⟩:=bind_some bz
        refine A2 T26 f Z Z Z a2 bD λbE bF a bG bH f=> ?_
        subst bH
        refine AF f bB ?_
        refine Ax m Pl2 f Z Z bG λa f=>AF f bB ?_
        have⟨bI,bJ,bz⟩:=bind_some bz
        refine AL f Z call39 (Ow.lendCall (RI.mono _) 1 bl m Z (λbK bL m bM=>Wk.c m bM bJ) (λ_ _ _ _ h=>h)) λbN bO bP w bQ m bR a f=> ?_
        obtain⟨rfl,rfl⟩:=bR
        refine AF f bB ?_
        refine l_o f (Bv (f.e Z)) λa f=>l_o f (A4 (f.e Z) bB (f.e Z)) λa f=> ?_
        obtain rfl:=sj bz
        exact⟨_,bQ,m,f.k Z⟩
       ·refine AG f bB λa f=> ?_
        refine AG f bB λa f=>AG f bB λa f=>AG f bB λa f=>AG f bB λa f=>AG f bB λa f=>AG f bB λa f=>l_o f (A5 (f.e Z) bB (f.e Z)) λa f=> ?_
        obtain rfl:=sj bz
        exact⟨_,gr,m,f.k Z⟩
      ·rintro a w ⟨bA,bS,m,f⟩
       have a2:=rd1 bS a2
       have bl:=od1 bS bl
       refine Aa ?_
       rcases Af bi with⟨bT,bi⟩|⟨bT,bi⟩
       ·refine Al f Z bT ?_
        refine Aj ?_
        refine Ab f Z λa f=>Ab f Z λa f=>Ab f Z λa f=> ?_
        have⟨bU,bV,bi⟩:=bind_some bi
        refine A2 T26 f Z Z Z a2 bV λbW bX a bY bZ f=> ?_
        subst bZ
        refine Ax m Pl2 f Z Z bY λa f=>AP (R:=R0) (xs:=([bU]:LI)) (RI.one _) m T26 f Z Z Z (by decide) (All2.cons Z (All2.nil _)) λb0 b1 w a m b2 f=> ?_
        have⟨b3,b4,bi⟩:=bind_some bi
        refine AW (RI.one _) 2 m bl Z T26 Z (by decide) f Z Z Z (Ow.src (j:=0) b2 m Z) b4 λb5 b6 w a m b7 f=>Ac f Z λa f=>Aa (Aj ?_)
        refine Ab f Z λa f=>Ai f Z Z Aw λa f=>Ac f Z λa f=>Aa ?_
        have m:=m.fr 2
        have m:=m.fr 2
        have m:=m.eraseAt 2
        obtain rfl:=sj bi
        exact⟨_,Z,_,_,Z,_,b6,b5,(gt bk (gt bw bS)),f.k Z,m,b7⟩
       ·refine Ah f Z bT ?_
        refine Am ?_
        refine Aj ?_
        refine Ab f Z λa f=>Ai f Z Z Aw λa f=>Ac f Z λa f=>Aa ?_
        obtain rfl:=sj bi
        exact⟨_,Z,_,_,Z,_,bf,bg,(gt bk (gt bw bS)),f.k Z,m,bl⟩
     ·refine Ah f Z bm ?_
      refine AA Z ?_
      obtain rfl:=sj bi
      obtain rfl:=bj _ rfl
      exact⟨_,Z,_,bf,bg,bk,f.k Z,m,bl⟩
    ·rintro a w ⟨a7,rfl,a8,a9,ba,b8,f,m,b9⟩
     refine Aj ?_
     refine Ab f Z λa f=>Ai f Z Z Aw λa f=>Ac f Z λa f=>Aa ?_
     obtain rfl:=sj aG
     exact⟨_,Z,_,_,Z,_,a9,ba,(gt aI (gt aS (gt aZ (gt a4 b8)))),f.k Z,m,b9⟩
   ·refine Ah f Z aK ?_
    refine AA Z ?_
    have m:=m.fr 1
    have m:=m.eraseAt 1
    obtain rfl:=sj aG
    obtain rfl:=aH _ rfl
    exact⟨_,Z,_,aD,aE,aI,f.k Z,m,aJ⟩
  ·rintro a w ⟨av,rfl,aw,ax,ay,ca,f,m,cb⟩
   refine Ae ?_
   refine Ab f Z λa f=>BE 0 m cb Z underlying26 f Z Z λa f=>Ac f Z λa f=>Aa ?_
   refine Aq ?_
   have m:Mem W aw w H:=Mem.drop (H':=[ay]) m
   obtain rfl:=sj hd
   exact⟨[(iv (av.length:Int))],f.g Z,f.d,_,[],ca,m,Z,Z⟩
theorem Wk.k2 {aa ab:Value}{ac ad:LL}(m:Mem W G w (H))(ae:R2 G aa ac)(af:R2 G ab ad){y:Bool}(hd:D.k2 ac ad=some y):
  Calls prog 110 #[(.agg #[aa,ab])] w (Res W G H (λ_ Ho v=>Ho=[]∧v=(.bool y))):=by
 refine Ar (args:=[(.agg #[aa,ab])]) (N:=27) [.tmp 2] func110 Z Z (lb Z) Z λa f=> ?_
 unfold D.k2 at hd
 refine Ae ?_
 refine Bi (cs:=[aa,ab]) m f Z Z Z λag w a m f=>Ac f Z λa f=>Aa (Ag ?_)
 refine A3 25 AM (by kernel_rfl) m ?_
 refine BM (i:=0) (ds:=[aa,ab]) 25 0 Ck Z Z Z Z (by kernel_rfl) Z f Z Z Z λa f=> ?_
 have⟨ah,ai,hd⟩:=bind_some hd
 refine BX (i:=1) 25 Z (by kernel_rfl) Z f Z Z Z call137 (λ_ _ w aj m=>Wk.b1 m (rd2 aj ae) (rd2 aj af) ai) λa f=>Ao 2 25 Z f Z λa f=>CS (fuel':=13) (listed':= #[true,true,true,true,true,true,true,true,true,true,true,true,false,false,false,false,false,false,false,false,false,false,false,false,false]) (λa=>Fr a 27 [(0,(.agg #[aa,ab])),(1,(pb ag)),(3,(.agg #[aa,ab])),(4,(.bool ah)),(5,(.bool ah)),(14,(.bool (ah&&((ad.length:Int)==(i64.wrap ((ac.length:Int)-1))))))]) ?_ ?_
 ·intro a f
  refine Ao 12 25 Z f Z λa f=> ?_
  rcases Af hd with⟨ak,hd⟩|⟨ak,hd⟩
  ·refine BM (i:=13) (ds:=[aa,ab]) 25 0 Ck Z Z Z Z (by kernel_rfl) Z f (BN f Z Z Z ak) Z Z λa f=> ?_
   refine BW (hw:=wo f ak) 14 25 underlying41 Z sizeOf22 Z f Z λa f=>BK (hw:=wo f ak) 15 25 0 Bb Z Z Z f Z λa f=>q_len (i:=16) 25 underlying22 ae Z (by kernel_rfl) Z f (BN f Z Z Z ak) Z Z λa f=>BW (hw:=wo f ak) 19 25 underlying41 Z sizeOf22 Z f Z λa f=>BK (hw:=wo f ak) 20 25 0 Bb Z Z Z f Z λa f=>q_len (i:=21) 25 underlying22 ae Z (by kernel_rfl) Z f (BN f Z Z Z ak) Z Z λa f=>Bp 17 Z λal w am m an an=> ?_
   have ae:=rd2 am ae
   have af:=rd2 am af
   refine AF f ak ?_
   have⟨ao,ap,hd⟩:=bind_some hd
   refine AL f Z call138 (Wk.j1 m ap) λaq ar au w av m aw a f=> ?_
   obtain⟨ax,ay,rfl,rfl,az⟩:=aw
   have ae:=rd2 av ae
   have af:=rd2 av af
   refine Aa ?_
   refine an ar [ay] _ _ av m ?_
   refine Bp 18 Z λaA w aB m aC aC=> ?_
   have ae:=rd2 aB ae
   have af:=rd2 aB af
   have az:=od1 aB az
   refine AF f ak ?_
   have⟨aD,aE,hd⟩:=bind_some hd
   refine AL f Z call114 (Ow.lendCall (RI.mono _) 0 az m Z (λaF aG m aH=>Wk.U m (rd2 aG ae) (rd2 aG af) aH aE) (λ_ _ _ _ h=>h)) λaI aJ aK w aL m aM a f=> ?_
   obtain⟨rfl,rfl⟩:=aM
   refine Aa ?_
   refine aC aJ [ay] _ _ aL m ?_
   refine q_p (hw:=wo f ak) 22 25 Z f (λ_=>AV (f.e Z) (f.e Z) BS) λa f=>q_p 23 25 Z f (λ_=>A4 (f.e Z) ak (f.e Z)) λa f=>q_p 24 25 Z f (λ_=>Br (f.e Z)) λa f=>AU λaN w aO m=>Aa ?_
   refine Aq ?_
   have m:Mem W aN w H:=Mem.drop (H':=[ay,ib ag 41 [aa,ab]]) m
   obtain rfl:=sj hd
   exact⟨[(.bool (aD==(ac.length:Int)))],f.g Z,f.d,_,[],(gt am (gt av (gt aB (gt aL aO)))),m,Z,Z⟩
  ·refine AI 13 25 Z f ak λa f=> ?_
   refine AI 14 25 Z f ak λa f=>AI 15 25 Z f ak λa f=>AI 16 25 Z f ak λa f=>AI 17 25 Z f ak λa f=>AI 18 25 Z f ak λa f=>AI 19 25 Z f ak λa f=>AI 20 25 Z f ak λa f=>AI 21 25 Z f ak λa f=>AI 22 25 Z f ak λa f=>q_p 23 25 Z f (λ_=>A5 (f.e Z) ak (f.e Z)) λa f=>q_p 24 25 Z f (λ_=>Br (f.e Z)) λa f=>AU λaP w aQ m=>Aa ?_
   refine Aq ?_
   have m:Mem W aP w H:=Mem.drop (H':=[ib ag 41 [aa,ab]]) m
   obtain rfl:=sj hd
   exact⟨[(.bool false)],f.g Z,f.d,_,[],aQ,m,Z,Z⟩
 ·intro aR
  rcases Bool.eq_false_or_eq_true ah with aS|aS
  ·refine BW (hw:=wo f aS) 3 25 underlying41 Z sizeOf22 Z f Z λa f=> ?_
   refine BK (hw:=wo f aS) 4 25 0 Bb Z Z Z f Z λa f=>q_len (i:=5) 25 underlying22 af Z (by kernel_rfl) Z f (BN f Z Z Z aS) Z Z λa f=>BW (hw:=wo f aS) 6 25 underlying41 Z sizeOf22 Z f Z λa f=>BK (hw:=wo f aS) 7 25 0 Bb Z Z Z f Z λa f=>q_len (i:=8) 25 underlying22 ae Z (by kernel_rfl) Z f (BN f Z Z Z aS) Z Z λa f=>q_p (hw:=wo f aS) 9 25 Z f (λ_=>AV (f.e Z) (f.e Z) Bh) λa f=>q_p (hw:=wo f aS) 10 25 Z f (λ_=>AV (f.e Z) (f.e Z) BS) λa f=>q_p 11 25 Z f (λ_=>A4 (f.e Z) aS (f.e Z)) λa f=> ?_
   exact aR _ (f.weak ⟨Z,Z,Z,Z,Z,by rw[aS];rfl,trivial⟩)
  ·refine AI 3 25 Z f aS λa f=> ?_
   refine AI 4 25 Z f aS λa f=>AI 5 25 Z f aS λa f=>AI 6 25 Z f aS λa f=>AI 7 25 Z f aS λa f=>AI 8 25 Z f aS λa f=>AI 9 25 Z f aS λa f=>AI 10 25 Z f aS λa f=>q_p 11 25 Z f (λ_=>A5 (f.e Z) aS (f.e Z)) λa f=> ?_
   exact aR _ (f.weak ⟨Z,Z,Z,Z,Z,by rw[aS];rfl,trivial⟩)
theorem Wk.o0 {aa:Value}{ab:LL}(m:Mem W G w (H))(ac:R2 G aa ab){y:(LL)}(hd:D.o0 ab=some y):
  Calls prog 111 #[(.agg #[aa])] w (Res W G H (λG' Ho v=>∃r0:Value,∃i0:Itm,Ho=[i0]∧r0=v∧Ow R1 26 G' i0 r0 y)):=by
 refine Ar (args:=[(.agg #[aa])]) (N:=47) [.tmp 2] func111 Z Z (lb Z) Z λa f=> ?_
 unfold D.o0 at hd
 refine Ae ?_
 refine Bi (cs:=[aa]) m f Z Z Z λad w a m f=>Ac f Z λa f=>Ay ?_
 refine AP (R:=R1) (xs:=([]:LL)) (RSl.one _) m T22 f Z Z Z (by decide) (All2.nil _) λae af w a m ag f=>Ac f Z λa f=>Aa (Ag (Ae ?_))
 refine Ac f Z λa f=>Aa ?_
 have⟨ah,ai,hd⟩:=bind_some hd
 refine AH (λa w=>∃aj:LL,aj=ah∧∃(ak:GH) (al:Value) (am:Itm),GLe G ak∧Fr a 47 [(3,al)]∧Mem W ak w (am::H)∧Ow R1 26 ak am al aj) ?_ ?_
 ·refine Ak ?_
  have m:=m.fr 1
  refine AC (λan a w=>∃ao:LL,∃ap:Int,(ao,ap)=an∧∃(aq:GH) (ar:Value) (au:Itm),GLe G aq∧Fr a 47 [(1,(pb ad)),(3,ar),(4,(iv ap))]∧Mem W aq w (ib ad 31 [aa]::au::H)∧Ow R1 26 aq au ar ao) ai ⟨_,_,Z,_,af,ae,gr,f.k Z,m,ag⟩ ?_
  clear ai f m
  rintro an av aw ax a w ⟨ao,ap,rfl,aq,ar,au,ay,f,m,az⟩
  have ac:=rd2 ay ac
  refine Ag (Ae ?_)
  refine Ab f Z λa f=>AB 0 0 (ds:=[aa]) m Bj f Z Z Z Z Z λa f=> ?_
  have⟨aA,aB,aw⟩:=bind_some aw
  refine A6 f Z call31 (Wk.a m ac aB) λaC w aD m a f=> ?_
  have ac:=rd2 aD ac
  have az:=Ow.mono (RSl.mono (RI.mono _)) aD az
  refine Ai f Z Z AE λa f=>Aa ?_
  rcases Af aw with⟨aE,aw⟩|⟨aE,aw⟩
  ·refine Al f Z aE ?_
   refine Am ?_
   refine Ag (Ak (Ae ?_))
   refine Ac f Z λa f=>Aa ?_
   have⟨aF,aG,aw⟩:=bind_some aw
   refine AH (λa w=>∃aH:LL,aH=aF∧∃(aI:GH) (aJ:Value) (aK:Itm),GLe aC aI∧Fr a 47 [(1,(pb ad)),(3,aJ),(4,(iv ap))]∧Mem W aI w (ib ad 31 [aa]::aK::H)∧Ow R1 26 aI aK aJ aH) ?_ ?_
   ·refine Ak ?_
    refine AC (λaL a w=>∃aM:LL,∃aN:Int,(aM,aN)=aL∧∃(aO:GH) (aP:Value) (aQ:Itm),GLe aC aO∧Fr a 47 [(1,(pb ad)),(3,aP),(4,(iv ap)),(5,(iv aN))]∧Mem W aO w (ib ad 31 [aa]::aQ::H)∧Ow R1 26 aO aQ aP aM) aG ⟨_,_,Z,_,ar,au,gr,f.k Z,m,az⟩ ?_
    clear aG f m
    rintro aL aR aS aT a w ⟨aM,aN,rfl,aO,aP,aQ,aU,f,m,aV⟩
    have ac:=rd2 aU ac
    refine Ag (Ae ?_)
    refine Ab f Z λa f=>Bu underlying31 Z sizeOf22 f Z λa f=>AJ 0 0 m Bb f Z Z Z Z λa f=>Ab f Z λa f=> ?_
    have⟨aW,aX,aS⟩:=bind_some aS
    refine A2 T22 f Z Z Z ac aX λaY aZ a a0 a1 f=>Ax m AT f Z Z a0 λa f=>AO underlying26 f Z Z a1 λa f=>Ai f Z Z AE λa f=>Aa ?_
    rcases Af aS with⟨a2,aS⟩|⟨a2,aS⟩
    ·refine Al f Z a2 ?_
     refine Am ?_
     refine Ag (Ak (Ae ?_))
     refine Bu underlying31 Z sizeOf22 f Z λa f=>AJ 0 0 m Bb f Z Z Z Z λa f=>Ab f Z λa f=> ?_
     have⟨a3,a4,aS⟩:=bind_some aS
     refine A2 T22 f Z Z Z ac a4 λa5 a6 a a7 a8 f=>Ax m AT f Z Z a7 λa f=>Ab f Z λa f=> ?_
     have⟨a9,ba,aS⟩:=bind_some aS
     refine A2 T26 f Z Z Z a8 ba λbb bc a bd be f=> ?_
     subst be
     refine Ax m Pl2 f Z Z bd λa f=>Ab f Z λa f=>Ai f Z Z Cf λa f=>Aa ?_
     rcases Af aS with⟨bf,aS⟩|⟨bf,aS⟩
     ·refine Al f Z bf ?_
      refine Aj ?_
      refine Ab f Z λa f=>Ab f Z λa f=>Bu underlying31 Z sizeOf22 f Z λa f=>AJ 0 0 m Bb f Z Z Z Z λa f=>Ab f Z λa f=> ?_
      have⟨bg,bh,aS⟩:=bind_some aS
      refine A2 T22 f Z Z Z ac bh λbi bj a bk bl f=>Ax m AT f Z Z bk λa f=>Ab f Z λa f=> ?_
      have⟨bm,bn,aS⟩:=bind_some aS
      refine A2 T26 f Z Z Z bl bn λbo bp a bq br f=> ?_
      subst br
      refine Ax m Pl2 f Z Z bq λa f=>AP (R:=R0) (xs:=([ap,bm]:LI)) (RI.one _) m T26 f Z Z Z (by decide) (All2.cons Z (All2.cons Z (All2.nil _))) λbs bt w a m bu f=> ?_
      obtain⟨bv,bw,m,bx⟩:=Ow.stamp (RI.mono _) bu m
      have aV:=Ow.mono (RSl.mono (RI.mono _)) bw aV
      refine AP (R:=R1) (xs:=([([ap,bm]:LI)]:LL)) (RSl.one _) m T22 f Z Z Z (by decide) (All2.cons bx (All2.nil _)) λbz bA w a m bB f=> ?_
      have⟨bC,bD,aS⟩:=bind_some aS
      refine AW (RSl.one _) 2 m aV Z T22 Z (by decide) f Z Z Z (Ow.src (j:=0) bB m Z) bD λbE bF w a m bG f=>Ac f Z λa f=>Aa (Aj ?_)
      refine Ab f Z λa f=>Ai f Z Z Aw λa f=>Ac f Z λa f=>Aa ?_
      have m:=m.fr 2
      have m:=m.fr 2
      have m:=m.eraseAt 2
      obtain rfl:=sj aS
      exact⟨_,Z,_,_,Z,_,bF,bE,(gt aU bw),f.k Z,m,bG⟩
     ·refine Ah f Z bf ?_
      refine Am ?_
      refine Aj ?_
      refine Ab f Z λa f=>Ai f Z Z Aw λa f=>Ac f Z λa f=>Aa ?_
      obtain rfl:=sj aS
      exact⟨_,Z,_,_,Z,_,aP,aQ,aU,f.k Z,m,aV⟩
    ·refine Ah f Z a2 ?_
     refine AA Z ?_
     obtain rfl:=sj aS
     obtain rfl:=aT _ rfl
     exact⟨_,Z,_,aP,aQ,aU,f.k Z,m,aV⟩
   ·rintro a w ⟨aH,rfl,aI,aJ,aK,bH,f,m,bI⟩
    refine Aj ?_
    refine Ab f Z λa f=>Ai f Z Z Aw λa f=>Ac f Z λa f=>Aa ?_
    obtain rfl:=sj aw
    exact⟨_,Z,_,_,Z,_,aJ,aK,(gt ay (gt aD bH)),f.k Z,m,bI⟩
  ·refine Ah f Z aE ?_
   refine AA Z ?_
   have m:=m.fr 1
   have m:=m.eraseAt 1
   obtain rfl:=sj aw
   obtain rfl:=ax _ rfl
   exact⟨_,Z,_,ar,au,(gt ay aD),f.k Z,m,az⟩
 ·rintro a w ⟨aj,rfl,ak,al,am,bJ,f,m,bK⟩
  refine Ae ?_
  refine Ab f Z λa f=>Ac f Z λa f=>Aa ?_
  refine Aq ?_
  obtain rfl:=sj hd
  exact⟨[al],f.g Z,f.d,_,[am],bJ,m,_,_,Z,Z,bK⟩
theorem Wk.L1 {v0 v1:Value}{x0 x1:LI}(m:Mem W G w (H))(h0:R1 G v0 x0)(h1:R1 G v1 x1){y:(LI)}(hd:D.L1 x0 x1=some y):
  Calls prog 140 #[v0,v1] w (Res W G H (λG' Ho v=>∃r0:Value,∃i0:Itm,Ho=[i0]∧r0=v∧Ow R0 2 G' i0 r0 y)):=by
 refine Ar (args:=[v0,v1]) (N:=28) [.tmp 4] func140 Z Z (lb Z) Z λa f=> ?_
 unfold D.L1 at hd
 refine Ae ?_
 refine Ac f Z λa f=>Ay ?_
 refine AP (R:=R0) (xs:=([]:LI)) (RI.one _) m T26 f Z Z Z (by decide) (All2.nil _) λaa ab w a m ac f=>Ac f Z λa f=>Aa (Ag (Ae ?_))
 refine Ac f Z λa f=>Aa ?_
 have⟨ad,ae,hd⟩:=bind_some hd
 refine AH (λa w=>∃af:LI,af=ad∧∃(ag:GH) (ah:Value) (ai:Itm),GLe G ag∧Fr a 28 [(5,ah)]∧Mem W ag w (ai::H)∧Ow R0 2 ag ai ah af) ?_ ?_
 ·refine Ak ?_
  refine AC (λaj a w=>∃ak:LI,∃al:Int,(ak,al)=aj∧∃(am:GH) (an:Value) (ao:Itm),GLe G am∧Fr a 28 [(0,v0),(1,v1),(5,an),(6,(iv al))]∧Mem W am w (ao::H)∧Ow R0 2 am ao an ak) ae ⟨_,_,Z,_,ab,aa,gr,f.k Z,m,ac⟩ ?_
  clear ae f m
  rintro aj ap aq ar a w ⟨ak,al,rfl,am,an,ao,au,f,m,av⟩
  have h0:=rd1 au h0
  have h1:=rd1 au h1
  refine Ag (Ae ?_)
  refine Ab f Z λa f=>Ab f Z λa f=>AO underlying26 f Z Z h0 λa f=>Ai f Z Z AE λa f=>Aa ?_
  rcases Af aq with⟨aw,aq⟩|⟨aw,aq⟩
  ·refine Al f Z aw ?_
   refine Am ?_
   refine Ag (Ak (Ae ?_))
   refine Ab f Z λa f=>Ab f Z λa f=>Ab f Z λa f=> ?_
   have⟨ax,ay,aq⟩:=bind_some aq
   refine A2 T26 f Z Z Z h0 ay λaz aA a aB aC f=> ?_
   subst aC
   refine Ax m Pl2 f Z Z aB λa f=> ?_
   have⟨aD,aE,aq⟩:=bind_some aq
   refine A6 f Z call39 (Wk.c m h1 aE) λaF w aG m a f=> ?_
   have h0:=rd1 aG h0
   have av:=od1 aG av
   refine Aa ?_
   rcases Af aq with⟨aH,aq⟩|⟨aH,aq⟩
   ·refine Al f Z aH ?_
    refine Aj ?_
    refine Ab f Z λa f=>Ab f Z λa f=>Ab f Z λa f=> ?_
    have⟨aI,aJ,aq⟩:=bind_some aq
    refine A2 T26 f Z Z Z h0 aJ λaK aL a aM aN f=> ?_
    subst aN
    refine Ax m Pl2 f Z Z aM λa f=>AP (R:=R0) (xs:=([aI]:LI)) (RI.one _) m T26 f Z Z Z (by decide) (All2.cons Z (All2.nil _)) λaO aP w a m aQ f=> ?_
    have⟨aR,aS,aq⟩:=bind_some aq
    refine AW (RI.one _) 1 m av Z T26 Z (by decide) f Z Z Z (Ow.src (j:=0) aQ m Z) aS λaT aU w a m aV f=>Ac f Z λa f=>Aa (Aj ?_)
    refine Ab f Z λa f=>Ai f Z Z Aw λa f=>Ac f Z λa f=>Aa ?_
    have m:=m.fr 1
    have m:=m.eraseAt 1
    obtain rfl:=sj aq
    exact⟨_,Z,_,_,Z,_,aU,aT,(gt au aG),f.k Z,m,aV⟩
   ·refine Ah f Z aH ?_
    refine Am ?_
    refine Aj ?_
    refine Ab f Z λa f=>Ai f Z Z Aw λa f=>Ac f Z λa f=>Aa ?_
    obtain rfl:=sj aq
    exact⟨_,Z,_,_,Z,_,an,ao,(gt au aG),f.k Z,m,av⟩
  ·refine Ah f Z aw ?_
   refine AA Z ?_
   obtain rfl:=sj aq
   obtain rfl:=ar _ rfl
   exact⟨_,Z,_,an,ao,au,f.k Z,m,av⟩
 ·rintro a w ⟨af,rfl,ag,ah,ai,aW,f,m,aX⟩
  refine Ae ?_
  refine Ab f Z λa f=>Ac f Z λa f=>Aa ?_
  refine Aq ?_
  obtain rfl:=sj hd
  exact⟨[ah],f.g Z,f.d,_,[ai],aW,m,_,_,Z,Z,aX⟩
theorem Wk.B {v0 v1:Value}{x0 x1:LI}(m:Mem W G w (H))(h0:R1 G v0 x0)(h1:R1 G v1 x1){y:Bool}(hd:D.B x0 x1=some y):
  Calls prog 115 #[v0,v1] w (Res W G H (λ_ Ho v=>Ho=[]∧v=(.bool y))):=by
 refine Ar (args:=[v0,v1]) (N:=12) [.tmp 4] func115 Z Z (lb Z) Z λa f=> ?_
 unfold D.B at hd
 refine Ae ?_
 refine Ac f Z λa f=>Ay ?_
 refine Ab f Z λa f=>Ab f Z λa f=> ?_
 have⟨aa,ab,hd⟩:=bind_some hd
 refine AL f Z call140 (Wk.L1 m h0 h1 ab) λac ad ae w af m ag a f=> ?_
 obtain⟨ah,ai,rfl,rfl,aj⟩:=ag
 have h0:=rd1 af h0
 refine BE 0 m aj Z underlying26 f Z Z λa f=>Ab f Z λa f=>AO underlying26 f Z Z h0 λa f=>Ai f Z Z BS λa f=>Ac f Z λa f=>Aa ?_
 refine Aq ?_
 have m:Mem W ad w H:=Mem.drop (H':=[ai]) m
 obtain rfl:=sj hd
 exact⟨[(.bool ((aa.length:Int)==(x0.length:Int)))],f.g Z,f.d,_,[],af,m,Z,Z⟩
theorem Wk.X0 {aa ab v1:Value}{ac ad:LL}{x1:LI}(m:Mem W G w (H))(ae:R2 G aa ac)(af:R2 G ab ad)(h1:R1 G v1 x1){y:Bool}(hd:D.X0 ac ad x1=some y):
  Calls prog 112 #[(.agg #[aa,ab]),v1] w (Res W G H (λ_ Ho v=>Ho=[]∧v=(.bool y))):=by
 refine Ar (args:=[(.agg #[aa,ab]),v1]) (N:=20) [.tmp 4] func112 Z Z (lb Z) Z λa f=> ?_
 unfold D.X0 at hd
 refine Ae ?_
 refine Bi (cs:=[aa,ab]) m f Z Z Z λag w a m f=>Ac f Z λa f=>Aa (Ag (Ae ?_))
 refine Ac f Z λa f=>Aa ?_
 have⟨ah,ai,hd⟩:=bind_some hd
 refine AH (λa w=>∃q_35':Unit,ah= .inl q_35'∧∃(aj:GH),GLe G aj∧Fr a 20 []∧Mem W aj w (H)) ?_ ?_
 ·refine Ak ?_
  refine AC (λak a w=>∃al:Int,al=ak∧∃(am:GH),GLe G am∧Fr a 20 [(1,v1),(2,(pb ag)),(5,(iv al))]∧Mem W am w (ib ag 41 [aa,ab]::H)) ai ⟨_,Z,_,gr,f.k Z,m⟩ ?_
  clear ai f m
  rintro ak an ao ap a w ⟨al,rfl,am,aq,f,m⟩
  have h1:=rd1 aq h1
  have ae:=rd2 aq ae
  refine Ag (Ae ?_)
  refine Ab f Z λa f=>Bu underlying41 Z sizeOf22 f Z λa f=>AJ 0 0 m Bb f Z Z Z Z λa f=>AO underlying22 f Z Z ae λa f=>Ai f Z Z AE λa f=>Aa ?_
  rcases Af ao with⟨ar,ao⟩|⟨ar,ao⟩
  ·refine Al f Z ar ?_
   refine Am ?_
   refine Ag (Ak (Ae ?_))
   refine Ab f Z λa f=>Bu underlying41 Z sizeOf22 f Z λa f=>AJ 0 0 m Bb f Z Z Z Z λa f=>Ab f Z λa f=> ?_
   have⟨au,av,ao⟩:=bind_some ao
   refine A2 T22 f Z Z Z ae av λaw ax a ay az f=>Ax m AT f Z Z ay λa f=> ?_
   have⟨aA,aB,ao⟩:=bind_some ao
   refine A6 f Z call115 (Wk.B m h1 az aB) λaC w aD m a f=>Aa ?_
   rcases Af ao with⟨aE,ao⟩|⟨aE,ao⟩
   ·refine Al f Z aE ?_
    refine Ae ?_
    refine Ac f Z λa f=>Aa ?_
    refine Aq ?_
    have m:Mem W aC w H:=Mem.drop (H':=[ib ag 41 [aa,ab]]) m
    obtain rfl:=sj ao
    obtain rfl:=ap _ rfl
    obtain rfl:=sj hd
    exact⟨[(.bool true)],f.g Z,f.d,_,[],(gt aq aD),m,Z,Z⟩
   ·refine Ah f Z aE ?_
    refine Am ?_
    refine Aj ?_
    refine Ab f Z λa f=>Ai f Z Z Aw λa f=>Ac f Z λa f=>Aa ?_
    obtain rfl:=sj ao
    exact⟨_,Z,_,Z,_,(gt aq aD),f.k Z,m⟩
  ·refine Ah f Z ar ?_
   refine AA Z ?_
   have m:Mem W am w H:=Mem.drop (H':=[ib ag 41 [aa,ab]]) m
   obtain rfl:=sj ao
   obtain rfl:=ap _ rfl
   exact⟨_,Z,_,aq,f.weak trivial,m⟩
 ·rintro a w ⟨_,rfl,aj,aF,f,m⟩
  refine Ae ?_
  refine Ac f Z λa f=>Aa ?_
  refine Aq ?_
  obtain rfl:=sj hd
  exact⟨[(.bool false)],f.g Z,f.d,_,[],aF,m,Z,Z⟩
end Go.Proofs.YtkoehcencogjpaaGreatDoor
