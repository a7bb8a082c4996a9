/- Parts. -/
import Derived.Test.YtoakbbefbhdaaaaGreatDoorRm3
import Derived.Test.YtoakbbefbhdaaaaGreatDoorProg
import Derived.KernelRfl
set_option linter.unusedVariables false
set_option linter.unusedSimpArgs false
set_option linter.unusedSectionVars false
set_option maxRecDepth 100000
namespace Go.Proofs.YtoakbbefbhdaaaaGreatDoor
open Go Go.Sx
open Go.Proofs.Tryz Go.Proofs.YtoakbbefbhdaaaaGreatDoor.Tryz IntKind
variable {W w : World} {G : GH} {H : List Itm}
theorem BH :BX prog 39:=isAgg39
theorem T22 :SlT prog 22 39 1 24 sn:=⟨underlying22,Tryz.t39,by kernel_rfl,by kernel_rfl,by kernel_rfl,by kernel_rfl⟩
theorem Bu :BX prog 22:=isAgg22
theorem BG :Agg prog 30 1:=⟨isAgg30,sizeOf30⟩
theorem Cr :Agg prog 32 1:=⟨isAgg32,sizeOf32⟩
theorem Pl4 :BX prog 4:=isAgg4
theorem T71 :SlT prog 71 4 1 1 (.bool false):=⟨underlying71,Tryz.t4,by kernel_rfl,by kernel_rfl,by kernel_rfl,by kernel_rfl⟩
theorem Wk.g {v0:Value}{x0:LI}{x1:Int}(m:Mem W G w (H))(h0:R1 G v0 x0){y:Int}(hd:D.g x0 x1=some y):
  Calls prog 24 #[v0,(iv x1)] w (Res W G H (λ_ Ho v=>Ho=[]∧v=(iv y))):=by
 refine As (args:=[v0,(iv x1)]) (N:=12) [.tmp 4] func24 Z Z (lb Z) Z λa f=> ?_
 unfold D.g at hd
 refine Af ?_
 refine Ac f Z λa f=>Aw ?_
 refine Ab f Z λa f=>Ab f Z λa f=>A2 underlying39 f Z Z h0 λa f=>Ai f Z Z AC λa f=>Ac f Z λa f=>Aa (Ah (Af ?_))
 refine Ab f Z λa f=>Ai f Z Z AT λa f=>Aa ?_
 rcases Ae hd with⟨aa,hd⟩|⟨aa,hd⟩
 ·refine Al f Z aa ?_
  refine Af ?_
  refine Ac f Z λa f=>Aa ?_
  refine Ap ?_
  obtain rfl:=sj hd
  exact⟨[(iv (-1))],f.g Z,f.d,_,[],gr,m,Z,Z⟩
 ·refine Aj f Z aa ?_
  refine Ao ?_
  refine Af ?_
  refine Ab f Z λa f=>Ac f Z λa f=>Aa ?_
  refine Ap ?_
  obtain rfl:=sj hd
  exact⟨[(iv (i64.wrap (x1-(x0.length:Int))))],f.g Z,f.d,_,[],gr,m,Z,Z⟩
theorem Wk.s0 {v0:Value}{x0:LL}{x1:Int}(m:Mem W G w (H))(h0:R2 G v0 x0){y:Int}(hd:D.s0 x0 x1=some y):
  Calls prog 12 #[v0,(iv x1)] w (Res W G H (λ_ Ho v=>Ho=[]∧v=(iv y))):=by
 refine As (args:=[v0,(iv x1)]) (N:=27) [.tmp 4] func12 Z Z (lb Z) Z λa f=> ?_
 unfold D.s0 at hd
 refine Af ?_
 refine Ac f Z λa f=>Aw ?_
 refine Ab f Z λa f=>Ab f Z λa f=>A2 underlying22 f Z Z h0 λa f=>Ai f Z Z AC λa f=>Ac f Z λa f=>Aa (Ah (Af ?_))
 refine Ab f Z λa f=>Ai f Z Z AT λa f=>Aa ?_
 rcases Ae hd with⟨aa,hd⟩|⟨aa,hd⟩
 ·refine Al f Z aa ?_
  refine Af ?_
  refine Ac f Z λa f=>Aa ?_
  refine Ap ?_
  obtain rfl:=sj hd
  exact⟨[(iv (-1))],f.g Z,f.d,_,[],gr,m,Z,Z⟩
 ·refine Aj f Z aa ?_
  refine Ao ?_
  refine Ah (Af ?_)
  refine Ac f Z λa f=>Aa ?_
  have⟨ab,ac,hd⟩:=bind_some hd
  refine AD (λa w=>∃q_35':Int,ab= .inl q_35'∧∃ad:Int,ad=q_35'∧∃(ae:GH),GLe G ae∧Fr a 27 [(1,(iv ad))]∧Mem W ae w (H)) ?_ ?_
  ·refine Ak ?_
   refine AB (λaf a w=>∃ag:Int,∃ah:Int,(ag,ah)=af∧∃(ai:GH),GLe G ai∧Fr a 27 [(0,v0),(1,(iv ag)),(5,(iv ah))]∧Mem W ai w (H)) ac ⟨_,_,Z,_,gr,f.k Z,m⟩ ?_
   clear ac f m
   rintro af aj ak al a w ⟨ag,ah,rfl,ai,am,f,m⟩
   have h0:=rd2 am h0
   refine Ah (Af ?_)
   refine Ab f Z λa f=>Ab f Z λa f=>A2 underlying22 f Z Z h0 λa f=>Ai f Z Z AT λa f=>Aa ?_
   rcases Ae ak with⟨an,ak⟩|⟨an,ak⟩
   ·refine Al f Z an ?_
    refine Ao ?_
    refine Ah (Ak (Af ?_))
    refine Ab f Z λa f=>Ab f Z λa f=> ?_
    have⟨ao,ap,ak⟩:=bind_some ak
    refine Bq T22 f Z Z Z h0 ap λaq ar a au av f=>AW m BH f Z Z au λa f=>Ab f Z λa f=> ?_
    have⟨aw,ax,ak⟩:=bind_some ak
    refine Ba f Z call24 (Wk.g m av ax) λay w az m a f=>Ac f Z λa f=>Aw ?_
    refine Ab f Z λa f=>Ai f Z Z AT λa f=>Aa ?_
    rcases Ae ak with⟨aA,ak⟩|⟨aA,ak⟩
    ·refine Al f Z aA ?_
     refine Af ?_
     refine Ac f Z λa f=>Aa ?_
     refine Ap ?_
     obtain rfl:=sj ak
     obtain rfl:=al _ rfl
     obtain rfl:=sj hd
     exact⟨[(iv (-1))],f.g Z,f.d,_,[],(gt am az),m,Z,Z⟩
    ·refine Aj f Z aA ?_
     refine Ao ?_
     refine Am ?_
     refine Ab f Z λa f=>Ai f Z Z Ar λa f=>Ac f Z λa f=>Aa ?_
     obtain rfl:=sj ak
     exact⟨_,Z,_,_,Z,_,(gt am az),f.k Z,m⟩
   ·refine Aj f Z an ?_
    refine Ay Z ?_
    obtain rfl:=sj ak
    obtain rfl:=al _ rfl
    exact⟨_,Z,_,Z,_,am,f.k Z,m⟩
  ·rintro a w ⟨_,rfl,ad,rfl,ae,aB,f,m⟩
   refine Af ?_
   refine Ab f Z λa f=>Ac f Z λa f=>Aa ?_
   refine Ap ?_
   obtain rfl:=sj hd
   exact⟨[(iv ad)],f.g Z,f.d,_,[],aB,m,Z,Z⟩
theorem Wk.W0 {aa:Value}{ab:LL}{x1:Int}(m:Mem W G w (H))(ac:R2 G aa ab){y:Int}(hd:D.W0 ab x1=some y):
  Calls prog 4 #[(.agg #[aa]),(iv x1)] w (Res W G H (λ_ Ho v=>Ho=[]∧v=(iv y))):=by
 refine As (args:=[(.agg #[aa]),(iv x1)]) (N:=12) [.tmp 4] func4 Z Z (lb Z) Z λa f=> ?_
 unfold D.W0 at hd
 refine Af ?_
 refine Bh (cs:=[aa]) m f Z Z Z λad w a m f=>Ac f Z λa f=>Aw ?_
 refine BD underlying24 Z sizeOf22 f Z λa f=>AS 0 0 m Bu f Z Z Z Z λa f=>Ab f Z λa f=> ?_
 have⟨ae,af,hd⟩:=bind_some hd
 refine Ba f Z call12 (Wk.s0 m ac af) λag w ah m a f=>Ac f Z λa f=>Aa (Ah (Af ?_))
 refine Ab f Z λa f=>Ai f Z Z AT λa f=>Aa ?_
 rcases Ae hd with⟨ai,hd⟩|⟨ai,hd⟩
 ·refine Al f Z ai ?_
  refine Af ?_
  refine Ac f Z λa f=>Aa ?_
  refine Ap ?_
  have m:Mem W ag w H:=Mem.drop (H':=[ib ad 24 [aa]]) m
  obtain rfl:=sj hd
  exact⟨[(iv (-1))],f.g Z,f.d,_,[],ah,m,Z,Z⟩
 ·refine Aj f Z ai ?_
  refine Ao ?_
  refine Af ?_
  refine Ab f Z λa f=>Ac f Z λa f=>Aa ?_
  refine Ap ?_
  have m:Mem W ag w H:=Mem.drop (H':=[ib ad 24 [aa]]) m
  obtain rfl:=sj hd
  exact⟨[(iv ae)],f.g Z,f.d,_,[],ah,m,Z,Z⟩
theorem Wk.j1 {aa:Value}{ab:LL}{x1:Int}(m:Mem W G w (H))(ac:R2 G aa ab){y:Int}(hd:D.j1 ab x1=some y):
  Calls prog 5 #[(.agg #[aa]),(iv x1)] w (Res W G H (λ_ Ho v=>Ho=[]∧v=(iv y))):=by
 refine As (args:=[(.agg #[aa]),(iv x1)]) (N:=12) [.tmp 4] func5 Z Z (lb Z) Z λa f=> ?_
 unfold D.j1 at hd
 refine Af ?_
 refine Bh (cs:=[aa]) m f Z Z Z λad w a m f=>Ac f Z λa f=>Aw ?_
 refine BD underlying26 Z sizeOf22 f Z λa f=>AS 0 0 m Bu f Z Z Z Z λa f=>Ab f Z λa f=> ?_
 have⟨ae,af,hd⟩:=bind_some hd
 refine Ba f Z call12 (Wk.s0 m ac af) λag w ah m a f=>Ac f Z λa f=>Aa (Ah (Af ?_))
 refine Ab f Z λa f=>Ai f Z Z AT λa f=>Aa ?_
 rcases Ae hd with⟨ai,hd⟩|⟨ai,hd⟩
 ·refine Al f Z ai ?_
  refine Af ?_
  refine Ac f Z λa f=>Aa ?_
  refine Ap ?_
  have m:Mem W ag w H:=Mem.drop (H':=[ib ad 26 [aa]]) m
  obtain rfl:=sj hd
  exact⟨[(iv (-1))],f.g Z,f.d,_,[],ah,m,Z,Z⟩
 ·refine Aj f Z ai ?_
  refine Ao ?_
  refine Af ?_
  refine Ab f Z λa f=>Ac f Z λa f=>Aa ?_
  refine Ap ?_
  have m:Mem W ag w H:=Mem.drop (H':=[ib ad 26 [aa]]) m
  obtain rfl:=sj hd
  exact⟨[(iv ae)],f.g Z,f.d,_,[],ah,m,Z,Z⟩
theorem Wk.j {v0:Value}{x0:LI}(m:Mem W G w (H))(h0:R1 G v0 x0){y:(LI)}(hd:D.j x0=some y):
  Calls prog 30 #[v0] w (Res W G H (λG' Ho v=>∃r0:Value,∃i0:Itm,Ho=[i0]∧r0=v∧Ow R0 2 G' i0 r0 y)):=by
 refine As (args:=[v0]) (N:=22) [.tmp 2] func30 Z Z (lb Z) Z λa f=> ?_
 unfold D.j at hd
 refine Af ?_
 refine Ac f Z λa f=>Aw ?_
 refine Ab f Z λa f=>A2 underlying39 f Z Z h0 λa f=> ?_
 have⟨aa,ab,hd⟩:=bind_some hd
 refine l_make (R:=R0) m T39 Z (by decide) Z f Z Z Z ab λac ad w a m ae f=>Ac f Z λa f=>Aa (Ah (Af ?_))
 refine Ac f Z λa f=>Aa ?_
 have⟨af,ag,hd⟩:=bind_some hd
 refine AD (λa w=>∃ah:LI,ah=af∧∃(ai:GH) (aj:Itm),GLe G ai∧Fr a 22 [(3,ad)]∧Mem W ai w (aj::H)∧Ow R0 2 ai aj ad ah) ?_ ?_
 ·refine Ak ?_
  refine AB (λak a w=>∃al:LI,∃am:Int,(al,am)=ak∧∃(an:GH) (ao:Itm),GLe G an∧Fr a 22 [(0,v0),(3,ad),(4,(iv am))]∧Mem W an w (ao::H)∧Ow R0 2 an ao ad al) ag ⟨_,_,Z,_,ac,gr,f.k Z,m,ae⟩ ?_
  clear ag f m
  rintro ak ap aq ar a w ⟨al,am,rfl,an,ao,au,f,m,av⟩
  have h0:=rd1 au h0
  refine Ah (Af ?_)
  refine Ab f Z λa f=>Ab f Z λa f=>A2 underlying39 f Z Z h0 λa f=>Ai f Z Z AT λa f=>Aa ?_
  rcases Ae aq with⟨aw,aq⟩|⟨aw,aq⟩
  ·refine Al f Z aw ?_
   refine Ao ?_
   refine Ah (Ak (Am ?_))
   refine Ab f Z λa f=>Ab f Z λa f=>Ab f Z λa f=>Ab f Z λa f=> ?_
   have⟨ax,ay,aq⟩:=bind_some aq
   refine Bq T39 f Z Z Z h0 ay λaz aA a aB aC f=> ?_
   subst aC
   refine AW m Pl2 f Z Z aB λa f=> ?_
   have⟨aD,aE,aq⟩:=bind_some aq
   refine AV 0 m av Z T39 f Z Z Z aE λaF a aG f=>Au 0 m av Z sizeOf2 f Z Z aG aE Z Z Z λaH w m aI=>Aa (Am ?_)
   refine Ab f Z λa f=>Ai f Z Z Ar λa f=>Ac f Z λa f=>Aa ?_
   obtain rfl:=sj aq
   exact⟨_,Z,_,_,Z,_,aH,au,f.k Z,m,aI⟩
  ·refine Aj f Z aw ?_
   refine Ay Z ?_
   obtain rfl:=sj aq
   obtain rfl:=ar _ rfl
   exact⟨_,Z,_,ao,au,f.k Z,m,av⟩
 ·rintro a w ⟨ah,rfl,ai,aj,aJ,f,m,aK⟩
  refine Af ?_
  refine Ab f Z λa f=>Ac f Z λa f=>Aa ?_
  refine Ap ?_
  obtain rfl:=sj hd
  exact⟨[ad],f.g Z,f.d,_,[aj],aJ,m,_,_,Z,Z,aK⟩
theorem Wk.k0 {v0:Value}{x0:LL}(m:Mem W G w (H))(h0:R2 G v0 x0){y:(LL)}(hd:D.k0 x0=some y):
  Calls prog 17 #[v0] w (Res W G H (λG' Ho v=>∃r0:Value,∃i0:Itm,Ho=[i0]∧r0=v∧Ow2 R0 39 2 G' i0 r0 y)):=by
 refine As (args:=[v0]) (N:=23) [.tmp 2] func17 Z Z (lb Z) Z λa f=> ?_
 unfold D.k0 at hd
 refine Af ?_
 refine Ac f Z λa f=>Aw ?_
 refine Ab f Z λa f=>A2 underlying22 f Z Z h0 λa f=> ?_
 have⟨aa,ab,hd⟩:=bind_some hd
 refine l_make2 (R:=R0) (t2:=2) m T22 (by decide) f Z Z Z ab λac ad w a m ae f=>Ac f Z λa f=>Aa (Ah (Af ?_))
 refine Ac f Z λa f=>Aa ?_
 have⟨af,ag,hd⟩:=bind_some hd
 refine AD (λa w=>∃ah:LL,ah=af∧∃(ai:GH) (aj:Itm),GLe G ai∧Fr a 23 [(3,ad)]∧Mem W ai w (aj::H)∧Ow2 R0 39 2 ai aj ad ah) ?_ ?_
 ·refine Ak ?_
  refine AB (λak a w=>∃al:LL,∃am:Int,(al,am)=ak∧∃(an:GH) (ao:Itm),GLe G an∧Fr a 23 [(0,v0),(3,ad),(4,(iv am))]∧Mem W an w (ao::H)∧Ow2 R0 39 2 an ao ad al) ag ⟨_,_,Z,_,ac,gr,f.k Z,m,ae⟩ ?_
  clear ag f m
  rintro ak ap aq ar a w ⟨al,am,rfl,an,ao,au,f,m,av⟩
  have h0:=rd2 au h0
  refine Ah (Af ?_)
  refine Ab f Z λa f=>Ab f Z λa f=>A2 underlying22 f Z Z h0 λa f=>Ai f Z Z AT λa f=>Aa ?_
  rcases Ae aq with⟨aw,aq⟩|⟨aw,aq⟩
  ·refine Al f Z aw ?_
   refine Ao ?_
   refine Ah (Ak (Am ?_))
   refine Ab f Z λa f=>Ab f Z λa f=>Ab f Z λa f=>Ab f Z λa f=> ?_
   have⟨ax,ay,aq⟩:=bind_some aq
   refine Bq T22 f Z Z Z h0 ay λaz aA a aB aC f=>AW m BH f Z Z aB λa f=> ?_
   have⟨aD,aE,aq⟩:=bind_some aq
   refine AM f Z call30 (Wk.j m aC aE) λaF aG aH w aI m aJ a f=> ?_
   obtain⟨aK,aL,rfl,rfl,aM⟩:=aJ
   have av:=od2 aI av
   have⟨aN,aO,aq⟩:=bind_some aq
   refine l_own2_at 1 m av Z T22 f Z Z Z aO λaP a aQ f=> ?_
   have m:=m.fr 1
   refine l_own2_store m av aM sizeOf39 f Z Z aQ aO λaR w m aS=>Aa (Am ?_)
   refine Ab f Z λa f=>Ai f Z Z Ar λa f=>Ac f Z λa f=>Aa ?_
   obtain rfl:=sj aq
   exact⟨_,Z,_,_,Z,_,aR,(gt au aI),f.k Z,m,aS⟩
  ·refine Aj f Z aw ?_
   refine Ay Z ?_
   obtain rfl:=sj aq
   obtain rfl:=ar _ rfl
   exact⟨_,Z,_,ao,au,f.k Z,m,av⟩
 ·rintro a w ⟨ah,rfl,ai,aj,aT,f,m,aU⟩
  refine Af ?_
  refine Ab f Z λa f=>Ac f Z λa f=>Aa ?_
  refine Ap ?_
  obtain rfl:=sj hd
  exact⟨[ad],f.g Z,f.d,_,[aj],aT,m,_,_,Z,Z,aU⟩
theorem Wk.O {aa:Value}{ab:LL}(m:Mem W G w (H))(ac:R2 G aa ab){y:(LL)}(hd:D.O ab=some y):
  Calls prog 7 #[(.agg #[aa])] w (Res W G H (λG' Ho v=>∃r0:Value,∃i0:Itm,Ho=[i0]∧v=(.agg #[r0])∧Ow2 R0 39 2 G' i0 r0 y)):=by
 refine As (args:=[(.agg #[aa])]) (N:=9) [.cell 2 30] func7 Z Z (lb Z) Z λa f=> ?_
 unfold D.O at hd
 refine Af ?_
 refine Bh (cs:=[aa]) m f Z Z Z λad w a m f=>B9 (cs:=[sn]) zeroValue30 m f Z Z λae w a m f=>Aw ?_
 refine B9 (cs:=[sn]) zeroValue30 m f Z Z λaf w a m f=>Aw ?_
 refine BD underlying24 Z sizeOf22 f Z λa f=>AS 2 0 m Bu f Z Z Z Z λa f=> ?_
 have⟨ag,ah,hd⟩:=bind_some hd
 refine AM f Z call17 (Wk.k0 m ac ah) λai aj ak w al m am a f=> ?_
 obtain⟨an,ao,rfl,rfl,ap⟩:=am
 refine BD underlying30 Z sizeOf22 f Z λa f=>Bk 1 0 (ds:=[an]) m sizeOf22 f Z Z (Ow2.cells 0 m ap Z) (Bi (Ow2.one1 0 m ap Z) BA) Z (lb Z) Z λw m=>Aw ?_
 refine AU 1 0 (ds:=[an]) m BG f Z Z Z Z Z λa f=>Bk 2 0 (ds:=[an]) m sizeOf30 f Z Z Z (Bi (Ow2.one1 0 m ap Z) BA) Z (lb Z) Z λw m=>Aa ?_
 refine Ap ?_
 have aq:=rr_agg (P:=prog) 2 m BG f (s:=2) rfl rfl rfl
 have m:=m.eraseAt 3
 have m:=m.eraseAt 2
 have m:=m.eraseAt 1
 obtain rfl:=sj hd
 exact⟨[(.agg #[an])],⟨aq,trivial⟩,f.d,_,[ao],al,m,_,_,Z,Z,ap⟩
theorem Wk.M {aa:Value}{ab:LL}(m:Mem W G w (H))(ac:R2 G aa ab){y:(LL)}(hd:D.M ab=some y):
  Calls prog 8 #[(.agg #[aa])] w (Res W G H (λG' Ho v=>∃r0:Value,∃i0:Itm,Ho=[i0]∧v=(.agg #[r0])∧Ow2 R0 39 2 G' i0 r0 y)):=by
 refine As (args:=[(.agg #[aa])]) (N:=9) [.cell 2 32] func8 Z Z (lb Z) Z λa f=> ?_
 unfold D.M at hd
 refine Af ?_
 refine Bh (cs:=[aa]) m f Z Z Z λad w a m f=>B9 (cs:=[sn]) zeroValue32 m f Z Z λae w a m f=>Aw ?_
 refine B9 (cs:=[sn]) zeroValue32 m f Z Z λaf w a m f=>Aw ?_
 refine BD underlying26 Z sizeOf22 f Z λa f=>AS 2 0 m Bu f Z Z Z Z λa f=> ?_
 have⟨ag,ah,hd⟩:=bind_some hd
 refine AM f Z call17 (Wk.k0 m ac ah) λai aj ak w al m am a f=> ?_
 obtain⟨an,ao,rfl,rfl,ap⟩:=am
 refine BD underlying32 Z sizeOf22 f Z λa f=>Bk 1 0 (ds:=[an]) m sizeOf22 f Z Z (Ow2.cells 0 m ap Z) (Bi (Ow2.one1 0 m ap Z) BA) Z (lb Z) Z λw m=>Aw ?_
 refine AU 1 0 (ds:=[an]) m Cr f Z Z Z Z Z λa f=>Bk 2 0 (ds:=[an]) m sizeOf32 f Z Z Z (Bi (Ow2.one1 0 m ap Z) BA) Z (lb Z) Z λw m=>Aa ?_
 refine Ap ?_
 have aq:=rr_agg (P:=prog) 2 m Cr f (s:=2) rfl rfl rfl
 have m:=m.eraseAt 3
 have m:=m.eraseAt 2
 have m:=m.eraseAt 1
 obtain rfl:=sj hd
 exact⟨[(.agg #[an])],⟨aq,trivial⟩,f.d,_,[ao],al,m,_,_,Z,Z,ap⟩
theorem Wk.B {aa:Value}{ab:LL}(m:Mem W G w (H))(ac:R2 G aa ab){y:Int}(hd:D.B ab=some y):
  Calls prog 16 #[(.agg #[aa])] w (Res W G H (λ_ Ho v=>Ho=[]∧v=(iv y))):=by
 refine As (args:=[(.agg #[aa])]) (N:=6) [.tmp 2] func16 Z Z (lb Z) Z λa f=> ?_
 unfold D.B at hd
 refine Af ?_
 refine Bh (cs:=[aa]) m f Z Z Z λad w a m f=>Ac f Z λa f=>Aw ?_
 refine BD underlying30 Z sizeOf22 f Z λa f=>AS 0 0 m Bu f Z Z Z Z λa f=>A2 underlying22 f Z Z ac λa f=>Ac f Z λa f=>Aa ?_
 refine Ap ?_
 have m:Mem W G w H:=Mem.drop (H':=[ib ad 30 [aa]]) m
 obtain rfl:=sj hd
 exact⟨[(iv (ab.length:Int))],f.g Z,f.d,_,[],gr,m,Z,Z⟩
theorem Wk.F0 {x0 x1 x2:Int}(m:Mem W G w (H)){y:Bool}(hd:D.F0 x0 x1 x2=some y):
  Calls prog 61 #[(iv x0),(iv x1),(iv x2)] w (Res W G H (λ_ Ho v=>Ho=[]∧v=(.bool y))):=by
 refine As (args:=[(iv x0),(iv x1),(iv x2)]) (N:=15) [.tmp 6] func61 Z Z (lb Z) Z λa f=> ?_
 unfold D.F0 at hd
 refine Af ?_
 refine Ac f Z λa f=>Aw ?_
 refine Ab f Z λa f=>Ab f Z λa f=>Ai f Z Z Br λa f=>Ab f Z λa f=> ?_
 refine BF 4 (λa w=>∃aa,GLe G aa∧Mem W aa w (H)∧Fr a 15 [(0,(iv x0)),(1,(iv x1)),(2,(iv x2)),(7,(iv x0)),(8,(iv x1)),(9,(.bool (decide (x1≤x0)))),(10,(.bool (decide (x1≤x0)))),(14,(.bool ((decide (x1≤x0))&&(decide (x0≤x2)))))]) ?_ ?_
 ·rcases Bool.eq_false_or_eq_true (decide (x1≤x0)) with ab|ab
  ·refine AG f ab ?_
   refine Ab f Z λa f=>AG f ab ?_
   refine Ab f Z λa f=>AG f ab ?_
   refine Ai f Z Z BW λa f=>l_o f (AO (f.e Z) ab (f.e Z)) λa f=> ?_
   exact⟨_,gr,m,f.weak ⟨Z,Z,Z,Z,Z,Z,Z,by rw[ab];rfl,trivial⟩⟩
  ·refine AL f ab λa f=> ?_
   refine AL f ab λa f=>AL f ab λa f=>l_o f (AP (f.e Z) ab (f.e Z)) λa f=> ?_
   exact⟨_,gr,m,f.weak ⟨Z,Z,Z,Z,Z,Z,Z,by rw[ab];rfl,trivial⟩⟩
 ·rintro a w ⟨aa,ac,m,f⟩
  refine Ac f Z λa f=>Aa ?_
  refine Ap ?_
  obtain rfl:=sj hd
  exact⟨[(.bool ((decide (x1≤x0))&&(decide (x0≤x2))))],f.g Z,f.d,_,[],ac,m,Z,Z⟩
theorem Wk.b0 {v0:Value}{x0:LI}{x1:Int}(m:Mem W G w (H))(h0:R1 G v0 x0){y:Bool}(hd:D.b0 x0 x1=some y):
  Calls prog 47 #[v0,(iv x1)] w (Res W G H (λ_ Ho v=>Ho=[]∧v=(.bool y))):=by
 refine As (args:=[v0,(iv x1)]) (N:=40) [.tmp 4] func47 Z Z (lb Z) Z λa f=> ?_
 unfold D.b0 at hd
 refine Af ?_
 refine Ac f Z λa f=>Aa (Ah (Af ?_))
 refine Ab f Z λa f=>A2 underlying39 f Z Z h0 λa f=>Ab f Z λa f=>Ai f Z Z BV λa f=>Aa ?_
 rcases Ae hd with⟨aa,hd⟩|⟨aa,hd⟩
 ·refine Al f Z aa ?_
  refine Af ?_
  refine Ac f Z λa f=>Aa ?_
  refine Ap ?_
  obtain rfl:=sj hd
  exact⟨[(.bool false)],f.g Z,f.d,_,[],gr,m,Z,Z⟩
 ·refine Aj f Z aa ?_
  refine Ao ?_
  refine Ah (Af ?_)
  refine Ac f Z λa f=>Aa ?_
  have⟨ab,ac,hd⟩:=bind_some hd
  refine AD (λa w=>∃q_150':Unit,ab= .inl q_150'∧∃(ad:GH),GLe G ad∧Fr a 40 []∧Mem W ad w (H)) ?_ ?_
  ·refine Ak ?_
   refine AB (λae a w=>∃af:Int,af=ae∧∃(ag:GH),GLe G ag∧Fr a 40 [(0,v0),(1,(iv x1)),(5,(iv af))]∧Mem W ag w (H)) ac ⟨_,Z,_,gr,f.k Z,m⟩ ?_
   clear ac f m
   rintro ae ah ai aj a w ⟨af,rfl,ag,ak,f,m⟩
   have h0:=rd1 ak h0
   refine Ah (Af ?_)
   refine Ab f Z λa f=>Ab f Z λa f=>A2 underlying39 f Z Z h0 λa f=>Ai f Z Z AT λa f=>Aa ?_
   rcases Ae ai with⟨al,ai⟩|⟨al,ai⟩
   ·refine Al f Z al ?_
    refine Ao ?_
    refine Ah (Ak (Ah ?_))
    refine A1 24 AA (by kernel_rfl) m ?_
    refine Ag 0 24 Z f Z λa f=>Ag 1 24 Z f Z λa f=> ?_
    have⟨am,an,ai⟩:=bind_some ai
    refine BR 2 24 T39 h0 an Z f Z Z λao ap a aq ar f=> ?_
    subst ar
    refine BU 3 24 Pl2 aq Z f Z λa f=>Ag 4 24 Z f Z λa f=>q_p 5 24 Z f (λ_=>AE (f.e Z) (f.e Z) AC) λa f=> ?_
    have⟨au,av,ai⟩:=bind_some ai
    refine Bb (i:=6) 24 Z (by kernel_rfl) Z f Z Z Z call61 (λ_ _ w aw m=>Wk.F0 m av) λa f=>q_p 7 24 Z f (λ_=>Be (f.e Z)) λa f=>Ag 8 24 Z f Z λa f=> ?_
    have⟨ax,ay,ai⟩:=bind_some ai
    refine Bx (fuel':=0) (listed':= #[true,true,true,true,true,true,true,true,true,true,true,true,true,true,true,true,true,true,true,true,true,true,true,true]) (λa=>Fr a 40 [(0,v0),(1,(iv x1)),(5,(iv af)),(13,(.bool (decide (af<(x0.length:Int))))),(16,v0),(17,(iv af)),(18,ao),(19,(iv am)),(20,(iv x1)),(21,(iv (i64.wrap (x1-1)))),(22,(.bool au)),(23,(.bool (!au))),(24,(.bool (!au))),(39,(.bool ax))]) ?_ ?_
    ·intro a f
     refine AJ λaz w aA m=>Aa ?_
     rcases Ae ai with⟨aB,ai⟩|⟨aB,ai⟩
     ·refine Al f Z aB ?_
      refine Af ?_
      refine Ac f Z λa f=>Aa ?_
      refine Ap ?_
      obtain rfl:=sj ai
      obtain rfl:=aj _ rfl
      obtain rfl:=sj hd
      exact⟨[(.bool false)],f.g Z,f.d,_,[],(gt ak aA),m,Z,Z⟩
     ·refine Aj f Z aB ?_
      refine Ao ?_
      refine Am ?_
      refine Ab f Z λa f=>Ai f Z Z Ar λa f=>Ac f Z λa f=>Aa ?_
      obtain rfl:=sj ai
      exact⟨_,Z,_,Z,_,(gt ak aA),f.k Z,m⟩
    ·intro aC
     rcases Ae ay with⟨aD,ay⟩|⟨aD,ay⟩
     ·refine An 9 24 Z f aD λa f=> ?_
      refine An 10 24 Z f aD λa f=>An 11 24 Z f aD λa f=>BE 12 24 Z f λa f=>BE 13 24 Z f λa f=>BE 14 24 Z f λa f=>BE 15 24 Z f λa f=>BE 16 24 Z f λa f=>BE 17 24 Z f λa f=>BE 18 24 Z f λa f=>BE 19 24 Z f λa f=>BE 20 24 Z f λa f=>BE 21 24 Z f λa f=>An 22 24 Z f aD λa f=>q_p 23 24 Z f (λ_=>AO (f.e Z) aD (f.e Z)) λa f=> ?_
      obtain rfl:=sj ay
      exact aC _ (f.k Z)
     ·refine Ag (hw:=wo f aD) 9 24 Z f Z λa f=> ?_
      refine q_p (hw:=wo f aD) 10 24 Z f (λ_=>AE (f.e Z) (f.e Z) BV) λa f=>Ag (hw:=wo f aD) 11 24 Z f Z λa f=> ?_
      have⟨aE,aF,ay⟩:=bind_some ay
      refine Bx (fuel':=1) (listed':= #[true,true,true,true,true,true,true,true,true,true,true,true,true,true,true,true,true,true,true,true,true,true,true,false]) (λa=>Fr a 40 [(0,v0),(1,(iv x1)),(5,(iv af)),(13,(.bool (decide (af<(x0.length:Int))))),(16,v0),(17,(iv af)),(18,ao),(19,(iv am)),(20,(iv x1)),(21,(iv (i64.wrap (x1-1)))),(22,(.bool au)),(23,(.bool (!au))),(24,(.bool (!au))),(25,(iv af)),(26,(.bool (decide ((0:Int)<af)))),(27,(.bool (decide ((0:Int)<af)))),(38,(.bool aE))]) ?_ ?_
      ·intro a f
       refine q_p 23 24 Z f (λ_=>AP (f.e Z) aD (f.e Z)) λa f=> ?_
       obtain rfl:=sj ay
       exact aC _ (f.k Z)
      ·intro aG
       rcases Ae aF with⟨aH,aF⟩|⟨aH,aF⟩
       ·refine Ag (hw:=wo f aH) 12 24 Z f Z λa f=> ?_
        refine Ag (hw:=wo f aH) 13 24 Z f Z λa f=> ?_
        have⟨aI,aJ,aF⟩:=bind_some aF
        refine BR (hw:=wo f aH) 14 24 T39 h0 aJ Z f Z Z λaK aL a aM aN f=> ?_
        subst aN
        refine BU (hw:=wo f aH) 15 24 Pl2 aM Z f Z λa f=>Ag (hw:=wo f aH) 16 24 Z f Z λa f=>Ag (hw:=wo f aH) 17 24 Z f Z λa f=>q_p (hw:=wo f aH) 18 24 Z f (λ_=>AE (f.e Z) (f.e Z) AC) λa f=> ?_
        have⟨aO,aP,aF⟩:=bind_some aF
        refine BR (hw:=wo f aH) 19 24 T39 h0 aP Z f Z Z λaQ aR a aS aT f=> ?_
        subst aT
        refine BU (hw:=wo f aH) 20 24 Pl2 aS Z f Z λa f=>q_p (hw:=wo f aH) 21 24 Z f (λ_=>AE (f.e Z) (f.e Z) BW) λa f=>q_p (hw:=wo f aD) 22 24 Z f (λ_=>AO (f.e Z) aH (f.e Z)) λa f=> ?_
        obtain rfl:=sj aF
        exact aG _ (f.k Z)
       ·refine An 12 24 Z f aH λa f=> ?_
        refine An 13 24 Z f aH λa f=>An 14 24 Z f aH λa f=>An 15 24 Z f aH λa f=>An 16 24 Z f aH λa f=>An 17 24 Z f aH λa f=>An 18 24 Z f aH λa f=>An 19 24 Z f aH λa f=>An 20 24 Z f aH λa f=>An 21 24 Z f aH λa f=>q_p (hw:=wo f aD) 22 24 Z f (λ_=>AP (f.e Z) aH (f.e Z)) λa f=> ?_
        obtain rfl:=sj aF
        exact aG _ (f.k Z)
   ·refine Aj f Z al ?_
    refine Ay Z ?_
    obtain rfl:=sj ai
    obtain rfl:=aj _ rfl
    exact⟨_,Z,_,ak,f.weak trivial,m⟩
  ·rintro a w ⟨_,rfl,ad,aU,f,m⟩
   refine Af ?_
   refine Ac f Z λa f=>Aa ?_
   refine Ap ?_
   obtain rfl:=sj hd
   exact⟨[(.bool true)],f.g Z,f.d,_,[],aU,m,Z,Z⟩
theorem Wk.m {v0:Value}{x0:LI}{x1:Int}(m:Mem W G w (H))(h0:R1 G v0 x0){y:Bool}(hd:D.m x0 x1=some y):
  Calls prog 43 #[v0,(iv x1)] w (Res W G H (λ_ Ho v=>Ho=[]∧v=(.bool y))):=by
 refine As (args:=[v0,(iv x1)]) (N:=18) [.tmp 4] func43 Z Z (lb Z) Z λa f=> ?_
 unfold D.m at hd
 refine Af ?_
 refine Ac f Z λa f=>Aa (Ah (Af ?_))
 refine Ac f Z λa f=>Aa ?_
 have⟨aa,ab,hd⟩:=bind_some hd
 refine AD (λa w=>∃q_19':Unit,aa= .inl q_19'∧∃(ac:GH),GLe G ac∧Fr a 18 []∧Mem W ac w (H)) ?_ ?_
 ·refine Ak ?_
  refine AB (λad a w=>∃ae:Int,ae=ad∧∃(af:GH),GLe G af∧Fr a 18 [(0,v0),(1,(iv x1)),(5,(iv ae))]∧Mem W af w (H)) ab ⟨_,Z,_,gr,f.k Z,m⟩ ?_
  clear ab f m
  rintro ad ag ah ai a w ⟨ae,rfl,af,aj,f,m⟩
  have h0:=rd1 aj h0
  refine Ah (Af ?_)
  refine Ab f Z λa f=>Ab f Z λa f=>A2 underlying39 f Z Z h0 λa f=>Ai f Z Z AT λa f=>Aa ?_
  rcases Ae ah with⟨ak,ah⟩|⟨ak,ah⟩
  ·refine Al f Z ak ?_
   refine Ao ?_
   refine Ah (Ak (Af ?_))
   refine Ab f Z λa f=>Ab f Z λa f=> ?_
   have⟨al,am,ah⟩:=bind_some ah
   refine Bq T39 f Z Z Z h0 am λan ao a ap aq f=> ?_
   subst aq
   refine AW m Pl2 f Z Z ap λa f=>Ab f Z λa f=>Ai f Z Z Bv λa f=>Aa ?_
   rcases Ae ah with⟨ar,ah⟩|⟨ar,ah⟩
   ·refine Al f Z ar ?_
    refine Af ?_
    refine Ac f Z λa f=>Aa ?_
    refine Ap ?_
    obtain rfl:=sj ah
    obtain rfl:=ai _ rfl
    obtain rfl:=sj hd
    exact⟨[(.bool true)],f.g Z,f.d,_,[],aj,m,Z,Z⟩
   ·refine Aj f Z ar ?_
    refine Ao ?_
    refine Am ?_
    refine Ab f Z λa f=>Ai f Z Z Ar λa f=>Ac f Z λa f=>Aa ?_
    obtain rfl:=sj ah
    exact⟨_,Z,_,Z,_,aj,f.k Z,m⟩
  ·refine Aj f Z ak ?_
   refine Ay Z ?_
   obtain rfl:=sj ah
   obtain rfl:=ai _ rfl
   exact⟨_,Z,_,aj,f.weak trivial,m⟩
 ·rintro a w ⟨_,rfl,ac,au,f,m⟩
  refine Af ?_
  refine Ac f Z λa f=>Aa ?_
  refine Ap ?_
  obtain rfl:=sj hd
  exact⟨[(.bool false)],f.g Z,f.d,_,[],au,m,Z,Z⟩
theorem Wk.c0 {aa:Value}{ab:LL}(m:Mem W G w (H))(ac:R2 G aa ab){y:Bool}(hd:D.c0 ab=some y):
  Calls prog 42 #[(.agg #[aa])] w (Res W G H (λ_ Ho v=>Ho=[]∧v=(.bool y))):=by
 refine As (args:=[(.agg #[aa])]) (N:=64) [.tmp 2] func42 Z Z (lb Z) Z λa f=> ?_
 unfold D.c0 at hd
 refine Af ?_
 refine Bh (cs:=[aa]) m f Z Z Z λad w a m f=>Ac f Z λa f=>Aw ?_
 refine AU 0 0 (ds:=[aa]) m BG f Z Z Z Z Z λa f=> ?_
 have⟨ae,af,hd⟩:=bind_some hd
 refine Ba f Z call16 (Wk.B m ac af) λag w ah m a f=> ?_
 have ac:=rd2 ah ac
 refine Ac f Z λa f=>Aa (Ah (Af ?_))
 refine Ab f Z λa f=> ?_
 have⟨ai,aj,hd⟩:=bind_some hd
 refine Ba f Z call61 (Wk.F0 m aj) λak w al m a f=> ?_
 have ac:=rd2 al ac
 refine l_o f (Be (f.e Z)) λa f=>Aa ?_
 rcases Ae hd with⟨am,hd⟩|⟨am,hd⟩
 ·refine Al f Z am ?_
  refine Af ?_
  refine Ac f Z λa f=>Aa ?_
  refine Ap ?_
  have m:Mem W ak w H:=Mem.drop (H':=[ib ad 30 [aa]]) m
  obtain rfl:=sj hd
  exact⟨[(.bool false)],f.g Z,f.d,_,[],(gt ah al),m,Z,Z⟩
 ·refine Aj f Z am ?_
  refine Ao ?_
  refine Ah (Af ?_)
  refine Ac f Z λa f=>Aa ?_
  have⟨an,ao,hd⟩:=bind_some hd
  refine AD (λa w=>∃q_138':Unit,an= .inl q_138'∧∃(ap:GH),GLe ak ap∧Fr a 64 [(1,(pb ad)),(3,(iv ae))]∧Mem W ap w (ib ad 30 [aa]::H)) ?_ ?_
  ·refine Ak ?_
   refine AB (λaq a w=>∃ar:Int,ar=aq∧∃(au:GH),GLe ak au∧Fr a 64 [(1,(pb ad)),(3,(iv ae)),(4,(iv ar))]∧Mem W au w (ib ad 30 [aa]::H)) ao ⟨_,Z,_,gr,f.k Z,m⟩ ?_
   clear ao f m
   rintro aq av aw ax a w ⟨ar,rfl,au,ay,f,m⟩
   have ac:=rd2 ay ac
   refine Ah (Af ?_)
   refine Ab f Z λa f=>Ab f Z λa f=>Ai f Z Z AT λa f=>Aa ?_
   rcases Ae aw with⟨az,aw⟩|⟨az,aw⟩
   ·refine Al f Z az ?_
    refine Ao ?_
    refine Ah (Ak (Af ?_))
    refine BD underlying30 Z sizeOf22 f Z λa f=>AS 0 0 m Bu f Z Z Z Z λa f=>Ab f Z λa f=> ?_
    have⟨aA,aB,aw⟩:=bind_some aw
    refine Bq T22 f Z Z Z ac aB λaC aD a aE aF f=>AW m BH f Z Z aE λa f=>Ab f Z λa f=> ?_
    have⟨aG,aH,aw⟩:=bind_some aw
    refine Ba f Z call47 (Wk.b0 m aF aH) λaI w aJ m a f=> ?_
    have ac:=rd2 aJ ac
    refine l_o f (Be (f.e Z)) λa f=>Ab f Z λa f=> ?_
    have⟨aK,aL,aw⟩:=bind_some aw
    refine BF 8 (λa w=>∃aM,GLe aI aM∧Mem W aM w (ib ad 30 [aa]::H)∧Fr a 64 [(1,(pb ad)),(3,(iv ae)),(4,(iv ar)),(14,(.bool (decide (ar<ae)))),(17,(pb ad)),(18,aa),(19,(iv ar)),(20,aC),(21,aD),(22,(iv ae)),(23,(.bool aG)),(24,(.bool (!aG))),(25,(.bool (!aG))),(33,(.bool aK))]) ?_ ?_
    ·rcases Ae aL with⟨aN,aL⟩|⟨aN,aL⟩
     ·refine AL f aN λa f=> ?_
      refine AL f aN λa f=>AL f aN λa f=>AL f aN λa f=>AL f aN λa f=>AL f aN λa f=>AL f aN λa f=>l_o f (AO (f.e Z) aN (f.e Z)) λa f=> ?_
      obtain rfl:=sj aL
      exact⟨_,gr,m,f.k Z⟩
     ·refine AG f aN ?_
      refine BD underlying30 Z sizeOf22 f Z λa f=>AG f aN ?_
      refine AS 0 0 m Bu f Z Z Z Z λa f=>AG f aN ?_
      refine Ab f Z λa f=>AG f aN ?_
      have⟨aO,aP,aL⟩:=bind_some aL
      refine Bq T22 f Z Z Z ac aP λaQ aR a aS aT f=>AG f aN ?_
      refine AW m BH f Z Z aS λa f=>AG f aN ?_
      refine Ab f Z λa f=>AG f aN ?_
      have⟨aU,aV,aL⟩:=bind_some aL
      refine Ba f Z call43 (Wk.m m aT aV) λaW w aX m a f=>l_o f (AP (f.e Z) aN (f.e Z)) λa f=> ?_
      obtain rfl:=sj aL
      exact⟨_,aX,m,f.k Z⟩
    ·rintro a w ⟨aM,aY,m,f⟩
     refine Aa ?_
     rcases Ae aw with⟨aZ,aw⟩|⟨aZ,aw⟩
     ·refine Al f Z aZ ?_
      refine Af ?_
      refine Ac f Z λa f=>Aa ?_
      refine Ap ?_
      have m:Mem W aM w H:=Mem.drop (H':=[ib ad 30 [aa]]) m
      obtain rfl:=sj aw
      obtain rfl:=ax _ rfl
      obtain rfl:=sj hd
      exact⟨[(.bool false)],f.g Z,f.d,_,[],(gt ah (gt al (gt ay (gt aJ aY)))),m,Z,Z⟩
     ·refine Aj f Z aZ ?_
      refine Ao ?_
      refine Am ?_
      refine Ab f Z λa f=>Ai f Z Z Ar λa f=>Ac f Z λa f=>Aa ?_
      obtain rfl:=sj aw
      exact⟨_,Z,_,Z,_,(gt ay (gt aJ aY)),f.k Z,m⟩
   ·refine Aj f Z az ?_
    refine Ay Z ?_
    obtain rfl:=sj aw
    obtain rfl:=ax _ rfl
    exact⟨_,Z,_,ay,f.k Z,m⟩
  ·rintro a w ⟨_,rfl,ap,a0,f,m⟩
   have ac:=rd2 a0 ac
   refine Ah (Af ?_)
   refine Ac f Z λa f=>Aa ?_
   have⟨a1,a2,hd⟩:=bind_some hd
   refine AD (λa w=>∃q_545':Unit,a1= .inl q_545'∧∃(a3:GH),GLe ap a3∧Fr a 64 []∧Mem W a3 w (H)) ?_ ?_
   ·refine Ak ?_
    refine AB (λa4 a w=>∃a5:Int,a5=a4∧∃(a6:GH),GLe ap a6∧Fr a 64 [(1,(pb ad)),(3,(iv ae)),(5,(iv a5))]∧Mem W a6 w (ib ad 30 [aa]::H)) a2 ⟨_,Z,_,gr,f.k Z,m⟩ ?_
    clear a2 f m
    rintro a4 a7 a8 a9 a w ⟨a5,rfl,a6,ba,f,m⟩
    have ac:=rd2 ba ac
    refine Ah (Af ?_)
    refine Ab f Z λa f=>Ab f Z λa f=>Ai f Z Z AT λa f=>Aa ?_
    rcases Ae a8 with⟨bb,a8⟩|⟨bb,a8⟩
    ·refine Al f Z bb ?_
     refine Ao ?_
     refine Ah (Ak (Af ?_))
     refine Ac f Z λa f=>Aa ?_
     have⟨bc,bd,a8⟩:=bind_some a8
     refine AD (λa w=>∃q_759':Unit,bc= .inl q_759'∧∃(be:GH),GLe a6 be∧Fr a 64 [(1,(pb ad)),(3,(iv ae)),(5,(iv a5))]∧Mem W be w (ib ad 30 [aa]::H)) ?_ ?_
     ·refine Ak ?_
      refine AB (λbf a w=>∃bg:Int,bg=bf∧∃(bh:GH),GLe a6 bh∧Fr a 64 [(1,(pb ad)),(3,(iv ae)),(5,(iv a5)),(6,(iv bg))]∧Mem W bh w (ib ad 30 [aa]::H)) bd ⟨_,Z,_,gr,f.k Z,m⟩ ?_
      clear bd f m
      rintro bf bi bj bk a w ⟨bg,rfl,bh,bl,f,m⟩
      have ac:=rd2 bl ac
      refine Ah (Af ?_)
      refine Ab f Z λa f=>BD underlying30 Z sizeOf22 f Z λa f=>AS 0 0 m Bu f Z Z Z Z λa f=>Ab f Z λa f=> ?_
      have⟨bm,bn,bj⟩:=bind_some bj
      refine Bq T22 f Z Z Z ac bn λbo bp a bq br f=>AW m BH f Z Z bq λa f=>A2 underlying39 f Z Z br λa f=>Ai f Z Z AT λa f=>Aa ?_
      rcases Ae bj with⟨bs,bj⟩|⟨bs,bj⟩
      ·refine Al f Z bs ?_
       refine Ao ?_
       refine Ah (Ak (Ah ?_))
       refine A1 15 AA (by kernel_rfl) m ?_
       refine q_fa 0 15 underlying30 Z sizeOf22 Z f Z λa f=>CD 1 15 0 Bu Z Z Z f Z λa f=>q_fa 2 15 underlying30 Z sizeOf22 Z f Z λa f=>CD 3 15 0 Bu Z Z Z f Z λa f=>Ag 4 15 Z f Z λa f=> ?_
       have⟨bt,bu,bj⟩:=bind_some bj
       refine BR 5 15 T22 ac bu Z f Z Z λbv bw a bx bz f=>BU 6 15 BH bx Z f Z λa f=>Ag 7 15 Z f Z λa f=> ?_
       have⟨bA,bB,bj⟩:=bind_some bj
       refine BR 8 15 T39 bz bB Z f Z Z λbC bD a bE bF f=> ?_
       subst bF
       refine BU 9 15 Pl2 bE Z f Z λa f=> ?_
       have⟨bG,bH,bj⟩:=bind_some bj
       refine BR 10 15 T22 ac bH Z f Z Z λbI bJ a bK bL f=>BU 11 15 BH bK Z f Z λa f=>Ag 12 15 Z f Z λa f=> ?_
       have⟨bM,bN,bj⟩:=bind_some bj
       refine Bb (i:=13) 15 Z (by kernel_rfl) Z f Z Z Z call43 (λ_ _ w bO m=>Wk.m m (rd1 bO bL) bN) λa f=>q_p 14 15 Z f (λ_=>Be (f.e Z)) λa f=>AJ λbP w bQ m=>Aa ?_
       rcases Ae bj with⟨bR,bj⟩|⟨bR,bj⟩
       ·refine Al f Z bR ?_
        refine Af ?_
        refine Ac f Z λa f=>Aa ?_
        refine Ap ?_
        have m:Mem W bP w H:=Mem.drop (H':=[ib ad 30 [aa]]) m
        obtain rfl:=sj bj
        obtain rfl:=bk _ rfl
        obtain rfl:=sj a8
        obtain rfl:=a9 _ rfl
        obtain rfl:=sj hd
        exact⟨[(.bool false)],f.g Z,f.d,_,[],(gt ah (gt al (gt a0 (gt ba (gt bl bQ))))),m,Z,Z⟩
       ·refine Aj f Z bR ?_
        refine Ao ?_
        refine Am ?_
        refine Ab f Z λa f=>Ai f Z Z Ar λa f=>Ac f Z λa f=>Aa ?_
        obtain rfl:=sj bj
        exact⟨_,Z,_,Z,_,(gt bl bQ),f.k Z,m⟩
      ·refine Aj f Z bs ?_
       refine Ay Z ?_
       obtain rfl:=sj bj
       obtain rfl:=bk _ rfl
       exact⟨_,Z,_,bl,f.k Z,m⟩
     ·rintro a w ⟨_,rfl,be,bS,f,m⟩
      refine Am ?_
      refine Ab f Z λa f=>Ai f Z Z Ar λa f=>Ac f Z λa f=>Aa ?_
      obtain rfl:=sj a8
      exact⟨_,Z,_,Z,_,(gt ba bS),f.k Z,m⟩
    ·refine Aj f Z bb ?_
     refine Ay Z ?_
     have m:Mem W a6 w H:=Mem.drop (H':=[ib ad 30 [aa]]) m
     obtain rfl:=sj a8
     obtain rfl:=a9 _ rfl
     exact⟨_,Z,_,ba,f.weak trivial,m⟩
   ·rintro a w ⟨_,rfl,a3,bT,f,m⟩
    refine Af ?_
    refine Ac f Z λa f=>Aa ?_
    refine Ap ?_
    obtain rfl:=sj hd
    exact⟨[(.bool true)],f.g Z,f.d,_,[],(gt ah (gt al (gt a0 bT))),m,Z,Z⟩
theorem Wk.i0 {aa ab:Value}{ac ad:LL}(m:Mem W G w (H))(ae:R2 G aa ac)(af:R2 G ab ad){y:Bool}(hd:D.i0 ac ad=some y):
  Calls prog 25 #[(.agg #[aa]),(.agg #[ab])] w (Res W G H (λ_ Ho v=>Ho=[]∧v=(.bool y))):=by
 refine As (args:=[(.agg #[aa]),(.agg #[ab])]) (N:=86) [.tmp 4] func25 Z Z (lb Z) Z λa f=> ?_
 unfold D.i0 at hd
 refine Af ?_
 refine Bh (cs:=[aa]) m f Z Z Z λag w a m f=>Bh (cs:=[ab]) m f Z Z Z λah w a m f=>Ac f Z λa f=>Aa (Ah (Af ?_))
 refine AU 1 0 (ds:=[aa]) m BG f Z Z Z Z Z λa f=> ?_
 have⟨ai,aj,hd⟩:=bind_some hd
 refine Ba f Z call42 (Wk.c0 m ae aj) λak w al m a f=> ?_
 have ae:=rd2 al ae
 have af:=rd2 al af
 refine l_o f (Be (f.e Z)) λa f=>Ab f Z λa f=> ?_
 refine BF 8 (λa w=>∃am,GLe ak am∧Mem W am w (ib ah 32 [ab]::ib ag 30 [aa]::H)∧Fr a 86 [(0,(.agg #[aa])),(1,(.agg #[ab])),(2,(pb ag)),(3,(pb ah)),(8,(.agg #[aa])),(9,(.bool ai)),(10,(.bool (!ai))),(11,(.bool (!ai))),(19,(.bool ((!ai)||((ad.length:Int) !=(ac.length:Int)))))]) ?_ ?_
 ·rcases Bool.eq_false_or_eq_true (!ai) with an|an
  ·refine AL f an λa f=> ?_
   refine AL f an λa f=>AL f an λa f=>AL f an λa f=>AL f an λa f=>AL f an λa f=>AL f an λa f=>l_o f (AO (f.e Z) an (f.e Z)) λa f=> ?_
   exact⟨_,gr,m,f.weak ⟨Z,Z,Z,Z,Z,Z,Z,Z,by rw[an];rfl,trivial⟩⟩
  ·refine AG f an ?_
   refine BD underlying32 Z sizeOf22 f Z λa f=>AG f an ?_
   refine AS 0 0 m Bu f Z Z Z Z λa f=>AG f an ?_
   refine A2 underlying22 f Z Z af λa f=>AG f an ?_
   refine BD underlying30 Z sizeOf22 f Z λa f=>AG f an ?_
   refine AS 1 0 m Bu f Z Z Z Z λa f=>AG f an ?_
   refine A2 underlying22 f Z Z ae λa f=>AG f an ?_
   refine Ai f Z Z Ck λa f=>l_o f (AP (f.e Z) an (f.e Z)) λa f=> ?_
   exact⟨_,gr,m,f.weak ⟨Z,Z,Z,Z,Z,Z,Z,Z,by rw[an];rfl,trivial⟩⟩
 ·rintro a w ⟨am,ao,m,f⟩
  have ae:=rd2 ao ae
  have af:=rd2 ao af
  refine Aa ?_
  rcases Ae hd with⟨ap,hd⟩|⟨ap,hd⟩
  ·refine Al f Z ap ?_
   refine Af ?_
   refine Ac f Z λa f=>Aa ?_
   refine Ap ?_
   have m:Mem W am w H:=Mem.drop (H':=[ib ah 32 [ab],ib ag 30 [aa]]) m
   obtain rfl:=sj hd
   exact⟨[(.bool false)],f.g Z,f.d,_,[],(gt al ao),m,Z,Z⟩
  ·refine Aj f Z ap ?_
   refine Ao ?_
   refine Ah (Af ?_)
   refine Ac f Z λa f=>Aa ?_
   have⟨aq,ar,hd⟩:=bind_some hd
   refine AD (λa w=>∃q_636':Unit,aq= .inl q_636'∧∃(au:GH),GLe am au∧Fr a 86 []∧Mem W au w (H)) ?_ ?_
   ·refine Ak ?_
    have m:=m.fr 1
    refine AB (λav a w=>∃aw:Int,aw=av∧∃(ax:GH),GLe am ax∧Fr a 86 [(2,(pb ag)),(3,(pb ah)),(5,(iv aw))]∧Mem W ax w (ib ag 30 [aa]::ib ah 32 [ab]::H)) ar ⟨_,Z,_,gr,f.k Z,m⟩ ?_
    clear ar f m
    rintro av ay az aA a w ⟨aw,rfl,ax,aB,f,m⟩
    have ae:=rd2 aB ae
    have af:=rd2 aB af
    refine Ah (Af ?_)
    refine Ab f Z λa f=>BD underlying32 Z sizeOf22 f Z λa f=>AS 1 0 m Bu f Z Z Z Z λa f=>A2 underlying22 f Z Z af λa f=>Ai f Z Z AT λa f=>Aa ?_
    rcases Ae az with⟨aC,az⟩|⟨aC,az⟩
    ·refine Al f Z aC ?_
     refine Ao ?_
     refine Ah (Ak (Af ?_))
     refine BD underlying32 Z sizeOf22 f Z λa f=>AS 1 0 m Bu f Z Z Z Z λa f=>Ab f Z λa f=> ?_
     have⟨aD,aE,az⟩:=bind_some az
     refine Bq T22 f Z Z Z af aE λaF aG a aH aI f=>AW m BH f Z Z aH λa f=>Ac f Z λa f=>Aa (Ah (Ah ?_))
     refine A1 27 AA (by kernel_rfl) m ?_
     refine Ag 0 27 Z f Z λa f=>q_len (i:=1) 27 underlying39 aI Z (by kernel_rfl) Z f Z Z Z λa f=>q_fa 2 27 underlying30 Z sizeOf22 Z f Z λa f=>CD 3 27 0 Bu Z Z Z f Z λa f=>Ag 4 27 Z f Z λa f=> ?_
     have⟨aJ,aK,az⟩:=bind_some az
     refine BR 5 27 T22 ae aK Z f Z Z λaL aM a aN aO f=>BU 6 27 BH aN Z f Z λa f=>q_len (i:=7) 27 underlying39 aO Z (by kernel_rfl) Z f Z Z Z λa f=>q_p 8 27 Z f (λ_=>AE (f.e Z) (f.e Z) Ck) λa f=>Ag 9 27 Z f Z λa f=> ?_
     have⟨aP,aQ,az⟩:=bind_some az
     refine Bx (fuel':=0) (listed':= #[true,true,true,true,true,true,true,true,true,true,true,true,true,true,true,true,true,true,true,true,true,true,true,true,true,true,true]) (λa=>Fr a 86 [(2,(pb ag)),(3,(pb ah)),(5,(iv aw)),(6,aG),(32,aG),(33,(iv (aD.length:Int))),(34,(pb ag)),(35,aa),(36,(iv aw)),(37,aL),(38,aM),(39,(iv (aJ.length:Int))),(40,(.bool ((aD.length:Int) !=(aJ.length:Int)))),(41,(.bool ((aD.length:Int) !=(aJ.length:Int)))),(58,(.bool aP))]) ?_ ?_
     ·intro a f
      refine AJ λaR w aS m=> ?_
      have aI:=rd1 aS aI
      have ae:=rd2 aS ae
      refine Aa ?_
      rcases Ae az with⟨aT,az⟩|⟨aT,az⟩
      ·refine Al f Z aT ?_
       refine Af ?_
       refine Ac f Z λa f=>Aa ?_
       refine Ap ?_
       have m:Mem W aR w H:=Mem.drop (H':=[ib ag 30 [aa],ib ah 32 [ab]]) m
       obtain rfl:=sj az
       obtain rfl:=aA _ rfl
       obtain rfl:=sj hd
       exact⟨[(.bool false)],f.g Z,f.d,_,[],(gt al (gt ao (gt aB aS))),m,Z,Z⟩
      ·refine Aj f Z aT ?_
       refine Ao ?_
       refine Af ?_
       refine Ac f Z λa f=>Aa ?_
       have⟨aU,aV,az⟩:=bind_some az
       refine AD (λa w=>∃q_1156':Unit,aU= .inl q_1156'∧∃(aW:GH),GLe aR aW∧Fr a 86 [(2,(pb ag)),(3,(pb ah)),(5,(iv aw))]∧Mem W aW w (ib ag 30 [aa]::ib ah 32 [ab]::H)) ?_ ?_
       ·refine Ak ?_
        refine AB (λaX a w=>∃aY:Int,aY=aX∧∃(aZ:GH),GLe aR aZ∧Fr a 86 [(2,(pb ag)),(3,(pb ah)),(5,(iv aw)),(6,aG),(7,(iv aY))]∧Mem W aZ w (ib ag 30 [aa]::ib ah 32 [ab]::H)) aV ⟨_,Z,_,gr,f.k Z,m⟩ ?_
        clear aV f m
        rintro aX a0 a1 a2 a w ⟨aY,rfl,aZ,a3,f,m⟩
        have aI:=rd1 a3 aI
        have ae:=rd2 a3 ae
        refine Ah (Af ?_)
        refine Ab f Z λa f=>Ab f Z λa f=>A2 underlying39 f Z Z aI λa f=>Ai f Z Z AT λa f=>Aa ?_
        rcases Ae a1 with⟨a4,a1⟩|⟨a4,a1⟩
        ·refine Al f Z a4 ?_
         refine Ao ?_
         refine Ah (Ak (Ah ?_))
         refine A1 21 AA (by kernel_rfl) m ?_
         refine q_fa 0 21 underlying30 Z sizeOf22 Z f Z λa f=>CD 1 21 0 Bu Z Z Z f Z λa f=>Ag 2 21 Z f Z λa f=> ?_
         have⟨a5,a6,a1⟩:=bind_some a1
         refine BR 3 21 T22 ae a6 Z f Z Z λa7 a8 a a9 ba f=>BU 4 21 BH a9 Z f Z λa f=>Ag 5 21 Z f Z λa f=>Ag 6 21 Z f Z λa f=> ?_
         have⟨bb,bc,a1⟩:=bind_some a1
         refine BR 7 21 T39 aI bc Z f Z Z λbd be a bf bg f=> ?_
         subst bg
         refine BU 8 21 Pl2 bf Z f Z λa f=> ?_
         have⟨bh,bi,a1⟩:=bind_some a1
         refine Bb (i:=9) 21 Z (by kernel_rfl) Z f Z Z Z call43 (λ_ _ w bj m=>Wk.m m (rd1 bj ba) bi) λa f=>q_p 10 21 Z f (λ_=>Be (f.e Z)) λa f=>Ag 11 21 Z f Z λa f=> ?_
         have⟨bk,bl,a1⟩:=bind_some a1
         refine Bx (fuel':=0) (listed':= #[true,true,true,true,true,true,true,true,true,true,true,true,true,true,true,true,true,true,true,true,true]) (λa=>Fr a 86 [(2,(pb ag)),(3,(pb ah)),(5,(iv aw)),(6,aG),(7,(iv aY)),(62,(.bool (decide (aY<(aD.length:Int))))),(65,(pb ag)),(66,aa),(67,(iv aw)),(68,a7),(69,a8),(70,aG),(71,(iv aY)),(72,bd),(73,(iv bb)),(74,(.bool bh)),(75,(.bool (!bh))),(76,(.bool (!bh))),(85,(.bool bk))]) ?_ ?_
         ·intro a f
          refine AJ λbm w bn m=>Aa ?_
          rcases Ae a1 with⟨bo,a1⟩|⟨bo,a1⟩
          ·refine Al f Z bo ?_
           refine Af ?_
           refine Ac f Z λa f=>Aa ?_
           refine Ap ?_
           have m:Mem W bm w H:=Mem.drop (H':=[ib ag 30 [aa],ib ah 32 [ab]]) m
           obtain rfl:=sj a1
           obtain rfl:=a2 _ rfl
           obtain rfl:=sj az
           obtain rfl:=aA _ rfl
           obtain rfl:=sj hd
           exact⟨[(.bool false)],f.g Z,f.d,_,[],(gt al (gt ao (gt aB (gt aS (gt a3 bn))))),m,Z,Z⟩
          ·refine Aj f Z bo ?_
           refine Ao ?_
           refine Am ?_
           refine Ab f Z λa f=>Ai f Z Z Ar λa f=>Ac f Z λa f=>Aa ?_
           obtain rfl:=sj a1
           exact⟨_,Z,_,Z,_,(gt a3 bn),f.k Z,m⟩
         ·intro bp
          rcases Ae bl with⟨bq,bl⟩|⟨bq,bl⟩
          ·refine An 12 21 Z f bq λa f=> ?_
           refine An 13 21 Z f bq λa f=>An 14 21 Z f bq λa f=>An 15 21 Z f bq λa f=>An 16 21 Z f bq λa f=>An 17 21 Z f bq λa f=>An 18 21 Z f bq λa f=>An 19 21 Z f bq λa f=>q_p 20 21 Z f (λ_=>AO (f.e Z) bq (f.e Z)) λa f=> ?_
           obtain rfl:=sj bl
           exact bp _ (f.k Z)
          ·refine Ag (hw:=wo f bq) 12 21 Z f Z λa f=> ?_
           refine Ag (hw:=wo f bq) 13 21 Z f Z λa f=> ?_
           have⟨br,bs,bl⟩:=bind_some bl
           refine q_slice (i:=14) 21 T39 aI bs Z (by kernel_rfl) Z f (AZ f Z Z Z bq) Z Z (.inl ⟨Z,Z⟩) (.inr ⟨_,_,Z,Z⟩) λbt a bu f=>Ag (hw:=wo f bq) 15 21 Z f Z λa f=>Ag (hw:=wo f bq) 16 21 Z f Z λa f=> ?_
           have⟨bv,bw,bl⟩:=bind_some bl
           refine BR (hw:=wo f bq) 17 21 T39 aI bw Z f Z Z λbx bz a bA bB f=> ?_
           subst bB
           refine BU (hw:=wo f bq) 18 21 Pl2 bA Z f Z λa f=> ?_
           have⟨bC,bD,bl⟩:=bind_some bl
           refine Bb (i:=19) 21 Z (by kernel_rfl) Z f (AZ f Z Z Z bq) Z Z call43 (λ_ _ w bE m=>Wk.m m (rd1 bE bu) bD) λa f=>q_p 20 21 Z f (λ_=>AP (f.e Z) bq (f.e Z)) λa f=> ?_
           obtain rfl:=sj bl
           exact bp _ (f.k Z)
        ·refine Aj f Z a4 ?_
         refine Ay Z ?_
         obtain rfl:=sj a1
         obtain rfl:=a2 _ rfl
         exact⟨_,Z,_,a3,f.k Z,m⟩
       ·rintro a w ⟨_,rfl,aW,bF,f,m⟩
        refine Am ?_
        refine Ab f Z λa f=>Ai f Z Z Ar λa f=>Ac f Z λa f=>Aa ?_
        obtain rfl:=sj az
        exact⟨_,Z,_,Z,_,(gt aB (gt aS bF)),f.k Z,m⟩
     ·intro bG
      rcases Ae aQ with⟨bH,aQ⟩|⟨bH,aQ⟩
      ·refine An 10 27 Z f bH λa f=> ?_
       refine An 11 27 Z f bH λa f=>An 12 27 Z f bH λa f=>An 13 27 Z f bH λa f=>BE 14 27 Z f λa f=>BE 15 27 Z f λa f=>BE 16 27 Z f λa f=>BE 17 27 Z f λa f=>BE 18 27 Z f λa f=>BE 19 27 Z f λa f=>BE 20 27 Z f λa f=>BE 21 27 Z f λa f=>BE 22 27 Z f λa f=>BE 23 27 Z f λa f=>BE 24 27 Z f λa f=>An 25 27 Z f bH λa f=>q_p 26 27 Z f (λ_=>AO (f.e Z) bH (f.e Z)) λa f=> ?_
       obtain rfl:=sj aQ
       exact bG _ (f.k Z)
      ·refine Ag (hw:=wo f bH) 10 27 Z f Z λa f=> ?_
       refine q_len (i:=11) 27 underlying39 aI Z (by kernel_rfl) Z f (AZ f Z Z Z bH) Z Z λa f=>q_p (hw:=wo f bH) 12 27 Z f (λ_=>AE (f.e Z) (f.e Z) BV) λa f=>Ag (hw:=wo f bH) 13 27 Z f Z λa f=> ?_
       have⟨bI,bJ,aQ⟩:=bind_some aQ
       refine Bx (fuel':=1) (listed':= #[true,true,true,true,true,true,true,true,true,true,true,true,true,true,true,true,true,true,true,true,true,true,true,true,true,true,false]) (λa=>Fr a 86 [(2,(pb ag)),(3,(pb ah)),(5,(iv aw)),(6,aG),(32,aG),(33,(iv (aD.length:Int))),(34,(pb ag)),(35,aa),(36,(iv aw)),(37,aL),(38,aM),(39,(iv (aJ.length:Int))),(40,(.bool ((aD.length:Int) !=(aJ.length:Int)))),(41,(.bool ((aD.length:Int) !=(aJ.length:Int)))),(42,aG),(43,(iv (aD.length:Int))),(44,(.bool (decide ((0:Int)<(aD.length:Int))))),(45,(.bool (decide ((0:Int)<(aD.length:Int))))),(57,(.bool bI))]) ?_ ?_
       ·intro a f
        refine q_p 26 27 Z f (λ_=>AP (f.e Z) bH (f.e Z)) λa f=> ?_
        obtain rfl:=sj aQ
        exact bG _ (f.k Z)
       ·intro bK
        rcases Ae bJ with⟨bL,bJ⟩|⟨bL,bJ⟩
        ·refine Ag (hw:=wo f bL) 14 27 Z f Z λa f=> ?_
         have⟨bM,bN,bJ⟩:=bind_some bJ
         refine BR (hw:=wo f bL) 15 27 T39 aI bN Z f Z Z λbO bP a bQ bR f=> ?_
         subst bR
         refine BU (hw:=wo f bL) 16 27 Pl2 bQ Z f Z λa f=>q_fa (hw:=wo f bL) 17 27 underlying30 Z sizeOf22 Z f Z λa f=>CD (hw:=wo f bL) 18 27 0 Bu Z Z Z f Z λa f=>Ag (hw:=wo f bL) 19 27 Z f Z λa f=> ?_
         have⟨bS,bT,bJ⟩:=bind_some bJ
         refine BR (hw:=wo f bL) 20 27 T22 ae bT Z f Z Z λbU bV a bW bX f=>BU (hw:=wo f bL) 21 27 BH bW Z f Z λa f=> ?_
         have⟨bY,bZ,bJ⟩:=bind_some bJ
         refine BR (hw:=wo f bL) 22 27 T39 bX bZ Z f Z Z λb0 b1 a b2 b3 f=> ?_
         subst b3
         refine BU (hw:=wo f bL) 23 27 Pl2 b2 Z f Z λa f=>q_p (hw:=wo f bL) 24 27 Z f (λ_=>AE (f.e Z) (f.e Z) Ck) λa f=>q_p (hw:=wo f bH) 25 27 Z f (λ_=>AO (f.e Z) bL (f.e Z)) λa f=> ?_
         obtain rfl:=sj bJ
         exact bK _ (f.k Z)
        ·refine An 14 27 Z f bL λa f=> ?_
         refine An 15 27 Z f bL λa f=>An 16 27 Z f bL λa f=>An 17 27 Z f bL λa f=>An 18 27 Z f bL λa f=>An 19 27 Z f bL λa f=>An 20 27 Z f bL λa f=>An 21 27 Z f bL λa f=>An 22 27 Z f bL λa f=>An 23 27 Z f bL λa f=>An 24 27 Z f bL λa f=>q_p (hw:=wo f bH) 25 27 Z f (λ_=>AP (f.e Z) bL (f.e Z)) λa f=> ?_
         obtain rfl:=sj bJ
         exact bK _ (f.k Z)
    ·refine Aj f Z aC ?_
     refine Ay Z ?_
     have m:Mem W ax w H:=Mem.drop (H':=[ib ag 30 [aa],ib ah 32 [ab]]) m
     obtain rfl:=sj az
     obtain rfl:=aA _ rfl
     exact⟨_,Z,_,aB,f.weak trivial,m⟩
   ·rintro a w ⟨_,rfl,au,b4,f,m⟩
    refine Af ?_
    refine Ac f Z λa f=>Aa ?_
    refine Ap ?_
    obtain rfl:=sj hd
    exact⟨[(.bool true)],f.g Z,f.d,_,[],(gt al (gt ao b4)),m,Z,Z⟩
theorem Wk.u {v0:Value}{x0:LI}(m:Mem W G w (H))(h0:R1 G v0 x0){y:Int}(hd:D.u x0=some y):
  Calls prog 29 #[v0] w (Res W G H (λ_ Ho v=>Ho=[]∧v=(iv y))):=by
 refine As (args:=[v0]) (N:=20) [.tmp 2] func29 Z Z (lb Z) Z λa f=> ?_
 unfold D.u at hd
 refine Af ?_
 refine Ac f Z λa f=>Aw ?_
 refine Ac f Z λa f=>Aa (Ah (Af ?_))
 refine Ac f Z λa f=>Aa ?_
 have⟨aa,ab,hd⟩:=bind_some hd
 refine AD (λa w=>∃ac:Int,ac=aa∧∃(ad:GH),GLe G ad∧Fr a 20 [(3,(iv ac))]∧Mem W ad w (H)) ?_ ?_
 ·refine Ak ?_
  refine AB (λae a w=>∃af:Int,∃ag:Int,(af,ag)=ae∧∃(ah:GH),GLe G ah∧Fr a 20 [(0,v0),(3,(iv af)),(4,(iv ag))]∧Mem W ah w (H)) ab ⟨_,_,Z,_,gr,f.k Z,m⟩ ?_
  clear ab f m
  rintro ae ai aj ak a w ⟨af,ag,rfl,ah,al,f,m⟩
  have h0:=rd1 al h0
  refine Ah (Af ?_)
  refine Ab f Z λa f=>Ab f Z λa f=>A2 underlying39 f Z Z h0 λa f=>Ai f Z Z AT λa f=>Aa ?_
  rcases Ae aj with⟨am,aj⟩|⟨am,aj⟩
  ·refine Al f Z am ?_
   refine Ao ?_
   refine Ah (Ak (Am ?_))
   refine Ab f Z λa f=>Ab f Z λa f=>Ab f Z λa f=> ?_
   have⟨an,ao,aj⟩:=bind_some aj
   refine Bq T39 f Z Z Z h0 ao λap aq a ar au f=> ?_
   subst au
   refine AW m Pl2 f Z Z ar λa f=>l_o f (Cb (f.e Z) ⟨_,underlying2⟩ underlying68) λa f=> ?_
   obtain⟨av,aj⟩:=BY aj
   refine l_o f (DB (f.e Z) (f.e Z) av) λa f=>Ai f Z Z b_or λa f=>Ac f Z λa f=>Aa (Am ?_)
   refine Ab f Z λa f=>Ai f Z Z Ar λa f=>Ac f Z λa f=>Aa ?_
   obtain rfl:=sj aj
   exact⟨_,Z,_,_,Z,_,al,f.k Z,m⟩
  ·refine Aj f Z am ?_
   refine Ay Z ?_
   obtain rfl:=sj aj
   obtain rfl:=ak _ rfl
   exact⟨_,Z,_,al,f.k Z,m⟩
 ·rintro a w ⟨ac,rfl,ad,aw,f,m⟩
  refine Af ?_
  refine Ab f Z λa f=>Ac f Z λa f=>Aa ?_
  refine Ap ?_
  obtain rfl:=sj hd
  exact⟨[(iv ac)],f.g Z,f.d,_,[],aw,m,Z,Z⟩
theorem Wk.j0 {x0:Int}(m:Mem W G w (H)){y:Int}(hd:D.j0 x0=some y):
  Calls prog 45 #[(iv x0)] w (Res W G H (λ_ Ho v=>Ho=[]∧v=(iv y))):=by
 refine As (args:=[(iv x0)]) (N:=13) [.tmp 2] func45 Z Z (lb Z) Z λa f=> ?_
 unfold D.j0 at hd
 refine Af ?_
 refine Ac f Z λa f=>Aw ?_
 refine Ac f Z λa f=>Aa (Ah ?_)
 have⟨aa,ab,hd⟩:=bind_some hd
 refine AD (λa w=>∃ac:Int,ac=aa∧∃(ad:GH),GLe G ad∧Fr a 13 [(3,(iv ac))]∧Mem W ad w (H)) ?_ ?_
 ·refine Ak ?_
  refine AB (λae a w=>∃af:Int,af=ae∧∃(ag:GH),GLe G ag∧Fr a 13 [(0,(iv x0)),(3,(iv af))]∧Mem W ag w (H)) ab ⟨_,Z,_,gr,f.k Z,m⟩ ?_
  clear ab f m
  rintro ae ah ai aj a w ⟨af,rfl,ag,ak,f,m⟩
  refine Ah (Af ?_)
  refine Ab f Z λa f=>Ab f Z λa f=>l_o f (Cb (f.e Z) ⟨_,underlying2⟩ underlying68) λa f=> ?_
  obtain⟨al,ai⟩:=BY ai
  refine l_o f (r_shr (f.e Z) (f.e Z) al) λa f=>Ai f Z Z Cv λa f=>Ai f Z Z Bv λa f=>Aa ?_
  rcases Ae ai with⟨am,ai⟩|⟨am,ai⟩
  ·refine Al f Z am ?_
   refine Ao ?_
   refine Ak (Am ?_)
   refine Ab f Z λa f=>Ai f Z Z Ar λa f=>Ac f Z λa f=>Aa ?_
   obtain rfl:=sj ai
   exact⟨_,Z,_,Z,_,ak,f.k Z,m⟩
  ·refine Aj f Z am ?_
   refine Ay Z ?_
   obtain rfl:=sj ai
   obtain rfl:=aj _ rfl
   exact⟨_,Z,_,ak,f.k Z,m⟩
 ·rintro a w ⟨ac,rfl,ad,an,f,m⟩
  refine Af ?_
  refine Ab f Z λa f=>Ac f Z λa f=>Aa ?_
  refine Ap ?_
  obtain rfl:=sj hd
  exact⟨[(iv ac)],f.g Z,f.d,_,[],an,m,Z,Z⟩
theorem Wk.g0 {v0:Value}{x0:LI}{x1 x2:Int}(m:Mem W G w (H))(h0:R1 G v0 x0){y:Int}(hd:D.g0 x0 x1 x2=some y):
  Calls prog 44 #[v0,(iv x1),(iv x2)] w (Res W G H (λ_ Ho v=>Ho=[]∧v=(iv y))):=by
 refine As (args:=[v0,(iv x1),(iv x2)]) (N:=46) [.tmp 6] func44 Z Z (lb Z) Z λa f=> ?_
 unfold D.g0 at hd
 refine Af ?_
 refine Ac f Z λa f=>Aw ?_
 refine Ab f Z λa f=>l_o f (Cb (f.e Z) ⟨_,underlying2⟩ underlying68) λa f=> ?_
 obtain⟨aa,hd⟩:=BY hd
 refine l_o f (DB (f.e Z) (f.e Z) aa) λa f=>Ac f Z λa f=>Aa (Ah (Af ?_))
 refine Ac f Z λa f=>Aa ?_
 have⟨ab,ac,hd⟩:=bind_some hd
 refine AD (λa w=>∃ad:Int,ad=ab∧∃(ae:GH),GLe G ae∧Fr a 46 [(7,(iv ad))]∧Mem W ae w (H)) ?_ ?_
 ·refine Ak ?_
  refine AB (λaf a w=>∃ag:Int,∃ah:Bool,(ag,ah)=af∧∃(ai:GH),GLe G ai∧Fr a 46 [(0,v0),(2,(iv x2)),(7,(iv ag)),(8,(.bool ah))]∧Mem W ai w (H)) ac ⟨_,_,Z,_,gr,f.k Z,m⟩ ?_
  clear ac f m
  rintro af aj ak al a w ⟨ag,ah,rfl,ai,am,f,m⟩
  have h0:=rd1 am h0
  refine Ah (Af ?_)
  refine Ab f Z λa f=>Aa ?_
  rcases Ae ak with⟨an,ak⟩|⟨an,ak⟩
  ·refine Al f Z an ?_
   refine Ao ?_
   refine Ak (Af ?_)
   refine Ac f Z λa f=>Aw ?_
   refine Ac f Z λa f=>Aa ?_
   have⟨ao,ap,ak⟩:=bind_some ak
   refine AD (λa w=>∃aq:Int,∃ar:Bool,(aq,ar)=ao∧∃(au:GH),GLe ai au∧Fr a 46 [(0,v0),(2,(iv x2)),(7,(iv aq)),(8,(.bool ar))]∧Mem W au w (H)) ?_ ?_
   ·refine Ak ?_
    refine AB (λav a w=>∃aw:Int,∃ax:Bool,∃ay:Int,(aw,ax,ay)=av∧∃(az:GH),GLe ai az∧Fr a 46 [(0,v0),(2,(iv x2)),(7,(iv aw)),(8,(.bool ax)),(9,(iv ay))]∧Mem W az w (H)) ap ⟨_,_,_,Z,_,gr,f.k Z,m⟩ ?_
    clear ap f m
    rintro av aA aB aC a w ⟨aw,ax,ay,rfl,az,aD,f,m⟩
    have h0:=rd1 aD h0
    refine Ah (Af ?_)
    refine Ab f Z λa f=>Ab f Z λa f=>A2 underlying39 f Z Z h0 λa f=>Ai f Z Z AT λa f=>Aa ?_
    rcases Ae aB with⟨aE,aB⟩|⟨aE,aB⟩
    ·refine Al f Z aE ?_
     refine Ao ?_
     refine Ah (Ak (Af ?_))
     refine Ab f Z λa f=>Ab f Z λa f=>l_o f (Cb (f.e Z) ⟨_,underlying2⟩ underlying68) λa f=> ?_
     obtain⟨aF,aB⟩:=BY aB
     refine l_o f (r_shr (f.e Z) (f.e Z) aF) λa f=>Ai f Z Z Cv λa f=>Ai f Z Z Bv λa f=>Ab f Z λa f=> ?_
     have⟨aG,aH,aB⟩:=bind_some aB
     refine BF 10 (λa w=>∃aI,GLe az aI∧Mem W aI w (H)∧Fr a 46 [(0,v0),(2,(iv x2)),(7,(iv aw)),(8,(.bool ax)),(9,(iv ay)),(17,(.bool (decide (ay<(x0.length:Int))))),(20,(iv aw)),(21,(iv ay)),(22,(.int .u64 (IntKind.u64.wrap ay))),(23,(iv (Bn .i64 aw (IntKind.u64.wrap ay)))),(24,(iv (iand .i64 (Bn .i64 aw (IntKind.u64.wrap ay)) 1))),(25,(.bool ((iand .i64 (Bn .i64 aw (IntKind.u64.wrap ay)) 1)==1))),(26,(.bool ((iand .i64 (Bn .i64 aw (IntKind.u64.wrap ay)) 1)==1))),(36,(.bool aG))]) ?_ ?_
     ·rcases Ae aH with⟨aJ,aH⟩|⟨aJ,aH⟩
      ·refine AG f aJ ?_
       refine Ab f Z λa f=>AG f aJ ?_
       refine Ab f Z λa f=>AG f aJ ?_
       have⟨aK,aL,aH⟩:=bind_some aH
       refine Bq T39 f Z Z Z h0 aL λaM aN a aO aP f=> ?_
       subst aP
       refine AG f aJ ?_
       refine AW m Pl2 f Z Z aO λa f=>AG f aJ ?_
       refine Ab f Z λa f=>AG f aJ ?_
       refine Ai f Z Z Cv λa f=>AG f aJ ?_
       refine Ab f Z λa f=>AG f aJ ?_
       refine Ai f Z Z Dl λa f=>AG f aJ ?_
       refine Ai f Z Z Ck λa f=>l_o f (AO (f.e Z) aJ (f.e Z)) λa f=> ?_
       obtain rfl:=sj aH
       exact⟨_,gr,m,f.k Z⟩
      ·refine AL f aJ λa f=> ?_
       refine AL f aJ λa f=>AL f aJ λa f=>AL f aJ λa f=>AL f aJ λa f=>AL f aJ λa f=>AL f aJ λa f=>AL f aJ λa f=>AL f aJ λa f=>l_o f (AP (f.e Z) aJ (f.e Z)) λa f=> ?_
       obtain rfl:=sj aH
       exact⟨_,gr,m,f.k Z⟩
     ·rintro a w ⟨aI,aQ,m,f⟩
      have h0:=rd1 aQ h0
      refine Aa ?_
      rcases Ae aB with⟨aR,aB⟩|⟨aR,aB⟩
      ·refine Al f Z aR ?_
       refine Af ?_
       refine Ab f Z λa f=>Ab f Z λa f=>Ab f Z λa f=> ?_
       have⟨aS,aT,aB⟩:=bind_some aB
       refine Bq T39 f Z Z Z h0 aT λaU aV a aW aX f=> ?_
       subst aX
       refine AW m Pl2 f Z Z aW λa f=>Ab f Z λa f=>Ai f Z Z Cv λa f=>Ai f Z Z b_or λa f=>Ac f Z λa f=>Aa (Am ?_)
       refine Ac f Z λa f=>Aa (Am ?_)
       refine Ab f Z λa f=>Ai f Z Z Ar λa f=>Ac f Z λa f=>Aa ?_
       obtain rfl:=sj aB
       exact⟨_,Z,_,_,_,Z,_,(gt aD aQ),f.k Z,m⟩
      ·refine Aj f Z aR ?_
       refine Ao ?_
       refine Am ?_
       refine Ab f Z λa f=>Ai f Z Z Ar λa f=>Ac f Z λa f=>Aa ?_
       obtain rfl:=sj aB
       exact⟨_,Z,_,_,_,Z,_,(gt aD aQ),f.k Z,m⟩
    ·refine Aj f Z aE ?_
     refine Ay Z ?_
     obtain rfl:=sj aB
     obtain rfl:=aC _ rfl
     exact⟨_,_,Z,_,aD,f.k Z,m⟩
   ·rintro a w ⟨aq,ar,rfl,au,aY,f,m⟩
    obtain rfl:=sj ak
    exact⟨_,Z,_,_,Z,_,(gt am aY),f.k Z,m⟩
  ·refine Aj f Z an ?_
   refine Ay Z ?_
   obtain rfl:=sj ak
   obtain rfl:=al _ rfl
   exact⟨_,Z,_,am,f.k Z,m⟩
 ·rintro a w ⟨ad,rfl,ae,aZ,f,m⟩
  refine Af ?_
  refine Ab f Z λa f=>Ac f Z λa f=>Aa ?_
  refine Ap ?_
  obtain rfl:=sj hd
  exact⟨[(iv ad)],f.g Z,f.d,_,[],aZ,m,Z,Z⟩
theorem Wk.I {x0:Int}(m:Mem W G w (H)){y:Int}(hd:D.I x0=some y):
  Calls prog 46 #[(iv x0)] w (Res W G H (λ_ Ho v=>Ho=[]∧v=(iv y))):=by
 refine As (args:=[(iv x0)]) (N:=13) [.tmp 2] func46 Z Z (lb Z) Z λa f=> ?_
 unfold D.I at hd
 refine Af ?_
 refine Ac f Z λa f=>Aw ?_
 refine Ac f Z λa f=>Aa (Ah ?_)
 have⟨aa,ab,hd⟩:=bind_some hd
 refine AD (λa w=>∃ac:Int,ac=aa∧∃(ad:GH),GLe G ad∧Fr a 13 [(3,(iv ac))]∧Mem W ad w (H)) ?_ ?_
 ·refine Ak ?_
  refine AB (λae a w=>∃af:Int,∃ag:Int,(af,ag)=ae∧∃(ah:GH),GLe G ah∧Fr a 13 [(0,(iv af)),(3,(iv ag))]∧Mem W ah w (H)) ab ⟨_,_,Z,_,gr,f.k Z,m⟩ ?_
  clear ab f m
  rintro ae ai aj ak a w ⟨af,ag,rfl,ah,al,f,m⟩
  refine Ah (Af ?_)
  refine Ab f Z λa f=>Ai f Z Z BV λa f=>Aa ?_
  rcases Ae aj with⟨am,aj⟩|⟨am,aj⟩
  ·refine Al f Z am ?_
   refine Ao ?_
   refine Ah (Ak (Am ?_))
   refine Ab f Z λa f=>Ai f Z Z Ar λa f=>Ac f Z λa f=>Aa (Am ?_)
   refine Ab f Z λa f=>Ab f Z λa f=>Ai f Z Z AC λa f=>Ai f Z Z Cv λa f=>Ac f Z λa f=>Aa ?_
   obtain rfl:=sj aj
   exact⟨_,Z,_,_,Z,_,al,f.k Z,m⟩
  ·refine Aj f Z am ?_
   refine Ay Z ?_
   obtain rfl:=sj aj
   obtain rfl:=ak _ rfl
   exact⟨_,Z,_,al,f.k Z,m⟩
 ·rintro a w ⟨ac,rfl,ad,an,f,m⟩
  refine Af ?_
  refine Ab f Z λa f=>Ac f Z λa f=>Aa ?_
  refine Ap ?_
  obtain rfl:=sj hd
  exact⟨[(iv ac)],f.g Z,f.d,_,[],an,m,Z,Z⟩
theorem Wk.B0 {v0:Value}{x0:LI}{x1:Int}(m:Mem W G w (H))(h0:R1 G v0 x0){y:Int}(hd:D.B0 x0 x1=some y):
  Calls prog 48 #[v0,(iv x1)] w (Res W G H (λ_ Ho v=>Ho=[]∧v=(iv y))):=by
 refine As (args:=[v0,(iv x1)]) (N:=26) [.tmp 4] func48 Z Z (lb Z) Z λa f=> ?_
 unfold D.B0 at hd
 refine Af ?_
 refine Ac f Z λa f=>Aa (Ah (Af ?_))
 refine Ac f Z λa f=>Aa ?_
 have⟨aa,ab,hd⟩:=bind_some hd
 refine AD (λa w=>∃q_33':Unit,aa= .inl q_33'∧∃(ac:GH),GLe G ac∧Fr a 26 []∧Mem W ac w (H)) ?_ ?_
 ·refine Ak ?_
  refine AB (λad a w=>∃ae:Int,ae=ad∧∃(af:GH),GLe G af∧Fr a 26 [(0,v0),(1,(iv x1)),(5,(iv ae))]∧Mem W af w (H)) ab ⟨_,Z,_,gr,f.k Z,m⟩ ?_
  clear ab f m
  rintro ad ag ah ai a w ⟨ae,rfl,af,aj,f,m⟩
  have h0:=rd1 aj h0
  refine Ah (Af ?_)
  refine Ab f Z λa f=>Ab f Z λa f=>A2 underlying39 f Z Z h0 λa f=>Ai f Z Z AT λa f=>Aa ?_
  rcases Ae ah with⟨ak,ah⟩|⟨ak,ah⟩
  ·refine Al f Z ak ?_
   refine Ao ?_
   refine Ah (Ak (Af ?_))
   refine Ab f Z λa f=>Ab f Z λa f=> ?_
   have⟨al,am,ah⟩:=bind_some ah
   refine Bq T39 f Z Z Z h0 am λan ao a ap aq f=> ?_
   subst aq
   refine AW m Pl2 f Z Z ap λa f=>Ab f Z λa f=>Ai f Z Z Bv λa f=>Aa ?_
   rcases Ae ah with⟨ar,ah⟩|⟨ar,ah⟩
   ·refine Al f Z ar ?_
    refine Af ?_
    refine Ab f Z λa f=>Ab f Z λa f=>Ai f Z Z Ar λa f=>Ab f Z λa f=>A2 underlying39 f Z Z h0 λa f=> ?_
    obtain⟨au,ah⟩:=BY ah
    refine Ai f Z Z (b_rem au) λa f=> ?_
    have⟨av,aw,ah⟩:=bind_some ah
    refine Bq T39 f Z Z Z h0 aw λax ay a az aA f=> ?_
    subst aA
    refine AW m Pl2 f Z Z az λa f=>Ac f Z λa f=>Aa ?_
    refine Ap ?_
    obtain rfl:=sj ah
    obtain rfl:=ai _ rfl
    obtain rfl:=sj hd
    exact⟨[(iv av)],f.g Z,f.d,_,[],aj,m,Z,Z⟩
   ·refine Aj f Z ar ?_
    refine Ao ?_
    refine Am ?_
    refine Ab f Z λa f=>Ai f Z Z Ar λa f=>Ac f Z λa f=>Aa ?_
    obtain rfl:=sj ah
    exact⟨_,Z,_,Z,_,aj,f.k Z,m⟩
  ·refine Aj f Z ak ?_
   refine Ay Z ?_
   obtain rfl:=sj ah
   obtain rfl:=ai _ rfl
   exact⟨_,Z,_,aj,f.weak trivial,m⟩
 ·rintro a w ⟨_,rfl,ac,aB,f,m⟩
  refine Af ?_
  refine Ac f Z λa f=>Aa ?_
  refine Ap ?_
  obtain rfl:=sj hd
  exact⟨[(iv (-1))],f.g Z,f.d,_,[],aB,m,Z,Z⟩
theorem Wk.o0 {v0:Value}{x0:LL}(m:Mem W G w (H))(h0:R2 G v0 x0){y:(LL)}(hd:D.o0 x0=some y):
  Calls prog 28 #[v0] w (Res W G H (λG' Ho v=>∃r0:Value,∃i0:Itm,Ho=[i0]∧r0=v∧Ow R1 39 G' i0 r0 y)):=by
 refine As (args:=[v0]) (N:=82) [.tmp 2] func28 Z Z (lb Z) Z λa f=> ?_
 unfold D.o0 at hd
 refine Af ?_
 refine Ac f Z λa f=>Aw ?_
 refine Ab f Z λa f=>A2 underlying22 f Z Z h0 λa f=>Ac f Z λa f=>Aw ?_
 refine Ab f Z λa f=>Ab f Z λa f=>Ai f Z Z B6 λa f=> ?_
 have⟨aa,ab,hd⟩:=bind_some hd
 refine l_make (R:=RB) m T71 Z (by decide) Z f Z Z Z ab λac ad w a m ae f=>Ac f Z λa f=>Aw ?_
 refine Bl (R:=R1) (xs:=([]:LL)) (RSl.one _) m T22 f Z Z Z (by decide) (All2.nil _) λaf ag w a m ah f=>Ac f Z λa f=>Aa (Ah (Af ?_))
 refine Ac f Z λa f=>Aa ?_
 have⟨ai,aj,hd⟩:=bind_some hd
 refine AD (λa w=>∃ak:LL,ak=ai∧∃(al:GH) (am:Value) (an:Itm),GLe G al∧Fr a 82 [(5,am)]∧Mem W al w (an::H)∧Ow R1 39 al an am ak) ?_ ?_
 ·refine Ak ?_
  have m:=m.fr 1
  refine AB (λao a w=>∃ap:List Bool,∃aq:LL,∃ar:Int,(ap,aq,ar)=ao∧∃(au:GH) (av:Itm) (aw:Value) (ax:Itm),GLe G au∧Fr a 82 [(0,v0),(3,(iv (x0.length:Int))),(4,ad),(5,aw),(6,(iv ar))]∧Mem W au w (av::ax::H)∧Ow RB 4 au av ad ap∧Ow R1 39 au ax aw aq) aj ⟨_,_,_,Z,_,ac,ag,af,gr,f.k Z,m,ae,ah⟩ ?_
  clear aj f m
  rintro ao ay az aA a w ⟨ap,aq,ar,rfl,au,av,aw,ax,aB,f,m,aC,aD⟩
  have h0:=rd2 aB h0
  refine Ah (Af ?_)
  refine Ab f Z λa f=>Ab f Z λa f=>Ai f Z Z AT λa f=>Aa ?_
  rcases Ae az with⟨aE,az⟩|⟨aE,az⟩
  ·refine Al f Z aE ?_
   refine Ao ?_
   refine Ah (Ak (Af ?_))
   refine Ac f Z λa f=>Aa ?_
   have⟨aF,aG,az⟩:=bind_some az
   refine AD (λa w=>∃aH:List Bool,∃aI:LL,(aH,aI)=aF∧∃(aJ:GH) (aK:Itm) (aL:Value) (aM:Itm),GLe au aJ∧Fr a 82 [(0,v0),(3,(iv (x0.length:Int))),(4,ad),(5,aL),(6,(iv ar))]∧Mem W aJ w (aK::aM::H)∧Ow RB 4 aJ aK ad aH∧Ow R1 39 aJ aM aL aI) ?_ ?_
   ·refine Ak ?_
    refine AB (λaN a w=>∃aO:List Bool,∃aP:LL,∃aQ:Int,(aO,aP,aQ)=aN∧∃(aR:GH) (aS:Itm) (aT:Value) (aU:Itm),GLe au aR∧Fr a 82 [(0,v0),(3,(iv (x0.length:Int))),(4,ad),(5,aT),(6,(iv ar)),(7,(iv aQ))]∧Mem W aR w (aS::aU::H)∧Ow RB 4 aR aS ad aO∧Ow R1 39 aR aU aT aP) aG ⟨_,_,_,Z,_,av,aw,ax,gr,f.k Z,m,aC,aD⟩ ?_
    clear aG f m
    rintro aN aV aW aX a w ⟨aO,aP,aQ,rfl,aR,aS,aT,aU,aY,f,m,aZ,a0⟩
    have h0:=rd2 aY h0
    refine Ah (Af ?_)
    refine Ab f Z λa f=>Ab f Z λa f=>Ai f Z Z AT λa f=>Aa ?_
    rcases Ae aW with⟨a1,aW⟩|⟨a1,aW⟩
    ·refine Al f Z a1 ?_
     refine Ao ?_
     refine Ah (Ak (Ah (Af ?_)))
     refine Ab f Z λa f=>Ab f Z λa f=> ?_
     have⟨a2,a3,aW⟩:=bind_some aW
     refine Bq T22 f Z Z Z h0 a3 λa4 a5 a a6 a7 f=>AW m BH f Z Z a6 λa f=>Ab f Z λa f=> ?_
     have⟨a8,a9,aW⟩:=bind_some aW
     refine Ba f Z call43 (Wk.m m a7 a9) λba w bb m a f=> ?_
     have h0:=rd2 bb h0
     have aZ:=Ow.mono RB.mono bb aZ
     have a0:=Ow.mono (RSl.mono (RI.mono _)) bb a0
     refine l_o f (Be (f.e Z)) λa f=>Ab f Z λa f=> ?_
     have⟨bc,bd,aW⟩:=bind_some aW
     refine BF 9 (λa w=>∃be,GLe ba be∧Mem W be w (aS::aU::H)∧Fr a 82 [(0,v0),(3,(iv (x0.length:Int))),(4,ad),(5,aT),(6,(iv ar)),(7,(iv aQ)),(26,(.bool (decide (aQ<(x0.length:Int))))),(29,v0),(30,(iv ar)),(31,a4),(32,a5),(33,(iv aQ)),(34,(.bool a8)),(35,(.bool (!a8))),(36,(.bool (!a8))),(45,(.bool bc))]) ?_ ?_
     ·rcases Ae bd with⟨bf,bd⟩|⟨bf,bd⟩
      ·refine AL f bf λa f=> ?_
       refine AL f bf λa f=>AL f bf λa f=>AL f bf λa f=>AL f bf λa f=>AL f bf λa f=>AL f bf λa f=>AL f bf λa f=>l_o f (AO (f.e Z) bf (f.e Z)) λa f=> ?_
       obtain rfl:=sj bd
       exact⟨_,gr,m,f.k Z⟩
      ·refine AG f bf ?_
       refine Ab f Z λa f=>AG f bf ?_
       refine Ab f Z λa f=>AG f bf ?_
       refine Ab f Z λa f=>AG f bf ?_
       refine Ai f Z Z B6 λa f=>AG f bf ?_
       refine Ab f Z λa f=>AG f bf ?_
       refine Ai f Z Z Ar λa f=>AG f bf ?_
       have⟨bg,bh,bd⟩:=bind_some bd
       refine AV 0 m aZ Z T71 f Z Z Z bh λbi a bj f=>AG f bf ?_
       refine Cw 0 m aZ Z Pl4 f Z Z bj bh λbk a bl f=> ?_
       subst bl
       refine l_o f (AP (f.e Z) bf (f.e Z)) λa f=> ?_
       obtain rfl:=sj bd
       exact⟨_,gr,m,f.k Z⟩
     ·rintro a w ⟨be,bm,m,f⟩
      have h0:=rd2 bm h0
      have aZ:=Ow.mono RB.mono bm aZ
      have a0:=Ow.mono (RSl.mono (RI.mono _)) bm a0
      refine Aa ?_
      rcases Ae aW with⟨bn,aW⟩|⟨bn,aW⟩
      ·refine Al f Z bn ?_
       refine Ay Z ?_
       refine Am ?_
       refine Ab f Z λa f=>Ai f Z Z Ar λa f=>Ac f Z λa f=>Aa ?_
       obtain rfl:=sj aW
       exact⟨_,Z,_,_,_,Z,_,aS,aT,aU,(gt aY (gt bb bm)),f.k Z,m,aZ,a0⟩
      ·refine Aj f Z bn ?_
       refine Ao ?_
       refine Af ?_
       refine Bl (R:=R0) (xs:=([]:LI)) (RI.one _) m T39 f Z Z Z (by decide) (All2.nil _) λbo bp w a m bq f=>Ac f Z λa f=>Aw ?_
       refine Ab f Z λa f=>Ac f Z λa f=>Aw ?_
       refine Ab f Z λa f=>Ac f Z λa f=>Aa (Ah ?_)
       have⟨br,bs,aW⟩:=bind_some aW
       refine AD (λa w=>∃bt:List Bool,∃bu:LI,(bt,bu)=br∧∃(bv:GH) (bw:Itm) (bx:Value) (bz:Itm),GLe be bv∧Fr a 82 [(0,v0),(3,(iv (x0.length:Int))),(4,ad),(5,aT),(6,(iv ar)),(7,(iv aQ)),(8,bx)]∧Mem W bv w (bw::aU::bz::H)∧Ow RB 4 bv bw ad bt∧Ow R0 2 bv bz bx bu) ?_ ?_
       ·refine Ak ?_
        have m:=m.fr 2
        have m:=m.fr 2
        refine AB (λbA a w=>∃bB:List Bool,∃bC:LI,∃bD:Int,∃bE:Int,(bB,bC,bD,bE)=bA∧∃(bF:GH) (bG:Itm) (bH:Value) (bI:Itm),GLe be bF∧Fr a 82 [(0,v0),(3,(iv (x0.length:Int))),(4,ad),(5,aT),(6,(iv ar)),(7,(iv aQ)),(8,bH),(9,(iv bD)),(10,(iv bE))]∧Mem W bF w (bG::aU::bI::H)∧Ow RB 4 bF bG ad bB∧Ow R0 2 bF bI bH bC) bs ⟨_,_,_,_,Z,_,aS,bp,bo,gr,f.k Z,m,aZ,bq⟩ ?_
        clear bs f m
        rintro bA bJ bK bL a w ⟨bB,bC,bD,bE,rfl,bF,bG,bH,bI,bM,f,m,bN,bO⟩
        have h0:=rd2 bM h0
        refine Ah (Af ?_)
        refine Ab f Z λa f=>Ab f Z λa f=>Ab f Z λa f=>Ai f Z Z B6 λa f=>Ab f Z λa f=>Ai f Z Z Ar λa f=> ?_
        have⟨bP,bQ,bK⟩:=bind_some bK
        refine AV 0 m bN Z T71 f Z Z Z bQ λbR a bS f=>Cw 0 m bN Z Pl4 f Z Z bS bQ λbT a bU f=> ?_
        subst bU
        refine l_o f (Be (f.e Z)) λa f=>Aa ?_
        rcases Ae bK with⟨bV,bK⟩|⟨bV,bK⟩
        ·refine Al f Z bV ?_
         refine Ao ?_
         refine Ak (Af ?_)
         refine Ab f Z λa f=>Ab f Z λa f=>Ab f Z λa f=>Ai f Z Z B6 λa f=>Ab f Z λa f=>Ai f Z Z Ar λa f=> ?_
         have⟨bW,bX,bK⟩:=bind_some bK
         refine AV 0 m bN Z T71 f Z Z Z bX λbY a bZ f=>Au 0 m bN Z sizeOf4 f Z Z bZ bX Z Z Z λb0 w m b1=>Aw ?_
         refine Ab f Z λa f=>Ab f Z λa f=>Bl (R:=R0) (xs:=([bD]:LI)) (RI.one _) m T39 f Z Z Z (by decide) (All2.cons Z (All2.nil _)) λb2 b3 w a m b4 f=> ?_
         have⟨b5,b6,bK⟩:=bind_some bK
         refine BJ (RI.one _) 3 m bO Z T39 Z (by decide) f Z Z Z (Ow.src (j:=0) b4 m Z) b6 λb7 b8 w a m b9 f=>Ac f Z λa f=>Aw ?_
         refine Ab f Z λa f=>Ab f Z λa f=> ?_
         have⟨ca,cb,bK⟩:=bind_some bK
         refine Bq T22 f Z Z Z h0 cb λcc cd a ce cf f=>AW m BH f Z Z ce λa f=>Ab f Z λa f=> ?_
         have⟨cg,ch,bK⟩:=bind_some bK
         refine Ba f Z call48 (Wk.B0 m cf ch) λci w cj m a f=> ?_
         have b1:=Ow.mono RB.mono cj b1
         have b9:=od1 cj b9
         refine Ac f Z λa f=>Aw ?_
         refine Ab f Z λa f=>Ac f Z λa f=>Aa (Am ?_)
         refine Ab f Z λa f=>Ac f Z λa f=>Aa ?_
         have m:=m.fr 3
         have m:=m.fr 3
         have m:Mem W ci w (b0::aU::b7::b2::H):=m.fr 3
         have m:=m.eraseAt 3
         obtain rfl:=sj bK
         exact⟨_,Z,_,_,_,_,Z,_,b0,b8,b7,(gt bM cj),f.k Z,m,b1,b9⟩
        ·refine Aj f Z bV ?_
         refine Ay Z ?_
         obtain rfl:=sj bK
         obtain rfl:=bL _ rfl
         exact⟨_,_,Z,_,bG,bH,bI,bM,f.k Z,m,bN,bO⟩
       ·rintro a w ⟨bt,bu,rfl,bv,bw,bx,bz,ck,f,m,cl,cm⟩
        have a0:=Ow.mono (RSl.mono (RI.mono _)) ck a0
        refine Am ?_
        refine Ab f Z λa f=>Ab f Z λa f=> ?_
        have m:=m.fr 2
        obtain⟨cn,co,m,cp⟩:=Ow.stamp (RI.mono _) cm m
        have cl:=Ow.mono RB.mono co cl
        have a0:=Ow.mono (RSl.mono (RI.mono _)) co a0
        refine Bl (R:=R1) (xs:=([bu]:LL)) (RSl.one _) m T22 f Z Z Z (by decide) (All2.cons cp (All2.nil _)) λcq cr w a m cs f=> ?_
        have⟨ct,cu,aW⟩:=bind_some aW
        refine BJ (RSl.one _) 2 m a0 Z T22 Z (by decide) f Z Z Z (Ow.src (j:=0) cs m Z) cu λcv cw w a m cx f=>Ac f Z λa f=>Aa (Am ?_)
        refine Ab f Z λa f=>Ai f Z Z Ar λa f=>Ac f Z λa f=>Aa ?_
        have m:=m.fr 2
        have m:=m.fr 2
        have m:=m.eraseAt 2
        obtain rfl:=sj aW
        exact⟨_,Z,_,_,_,Z,_,bw,cw,cv,(gt aY (gt bb (gt bm (gt ck co)))),f.k Z,m,cl,cx⟩
    ·refine Aj f Z a1 ?_
     refine Ay Z ?_
     obtain rfl:=sj aW
     obtain rfl:=aX _ rfl
     exact⟨_,_,Z,_,aS,aT,aU,aY,f.k Z,m,aZ,a0⟩
   ·rintro a w ⟨aH,aI,rfl,aJ,aK,aL,aM,cy,f,m,cz,cA⟩
    refine Am ?_
    refine Ab f Z λa f=>Ai f Z Z Ar λa f=>Ac f Z λa f=>Aa ?_
    obtain rfl:=sj az
    exact⟨_,Z,_,_,_,Z,_,aK,aL,aM,(gt aB cy),f.k Z,m,cz,cA⟩
  ·refine Aj f Z aE ?_
   refine Ay Z ?_
   have m:=m.fr 1
   have m:=m.eraseAt 1
   obtain rfl:=sj az
   obtain rfl:=aA _ rfl
   exact⟨_,Z,_,aw,ax,aB,f.k Z,m,aD⟩
 ·rintro a w ⟨ak,rfl,al,am,an,cB,f,m,cC⟩
  refine Af ?_
  refine Ab f Z λa f=>Ac f Z λa f=>Aa ?_
  refine Ap ?_
  obtain rfl:=sj hd
  exact⟨[am],f.g Z,f.d,_,[an],cB,m,_,_,Z,Z,cC⟩
theorem Wk.Z0 {v0:Value}{x0:LL}(m:Mem W G w (H))(h0:R2 G v0 x0){y:Int}(hd:D.Z0 x0=some y):
  Calls prog 26 #[v0] w (Res W G H (λ_ Ho v=>Ho=[]∧v=(iv y))):=by
 refine As (args:=[v0]) (N:=67) [.tmp 2] func26 Z Z (lb Z) Z λa f=> ?_
 unfold D.Z0 at hd
 refine Af ?_
 refine Ac f Z λa f=>Aw ?_
 refine Bl (R:=R0) (xs:=([]:LI)) (RI.one _) m T39 f Z Z Z (by decide) (All2.nil _) λaa ab w a m ac f=>Ac f Z λa f=>Aw ?_
 refine Ac f Z λa f=>Aa (Ah (Af ?_))
 refine Ac f Z λa f=>Aa ?_
 have⟨ad,ae,hd⟩:=bind_some hd
 refine AD (λa w=>∃af:LI,∃ag:Int,(af,ag)=ad∧∃(ah:GH) (ai:Value) (aj:Itm),GLe G ah∧Fr a 67 [(0,v0),(3,ai),(4,(iv ag))]∧Mem W ah w (aj::H)∧Ow R0 2 ah aj ai af) ?_ ?_
 ·refine Ak ?_
  refine AB (λak a w=>∃al:LI,∃am:Int,∃an:Int,(al,am,an)=ak∧∃(ao:GH) (ap:Value) (aq:Itm),GLe G ao∧Fr a 67 [(0,v0),(3,ap),(4,(iv am)),(5,(iv an))]∧Mem W ao w (aq::H)∧Ow R0 2 ao aq ap al) ae ⟨_,_,_,Z,_,ab,aa,gr,f.k Z,m,ac⟩ ?_
  clear ae f m
  rintro ak ar au av a w ⟨al,am,an,rfl,ao,ap,aq,aw,f,m,ax⟩
  have h0:=rd2 aw h0
  refine Ah (Af ?_)
  refine Ab f Z λa f=>Ab f Z λa f=>A2 underlying22 f Z Z h0 λa f=>Ai f Z Z AT λa f=>Aa ?_
  rcases Ae au with⟨ay,au⟩|⟨ay,au⟩
  ·refine Al f Z ay ?_
   refine Ao ?_
   refine Ah (Ak (Af ?_))
   refine Ab f Z λa f=>Ab f Z λa f=>Ab f Z λa f=> ?_
   have⟨az,aA,au⟩:=bind_some au
   refine Bq T22 f Z Z Z h0 aA λaB aC a aD aE f=>AW m BH f Z Z aD λa f=> ?_
   have⟨aF,aG,au⟩:=bind_some au
   refine Ba f Z call29 (Wk.u m aE aG) λaH w aI m a f=> ?_
   have h0:=rd2 aI h0
   have ax:=od1 aI ax
   refine Bl (R:=R0) (xs:=([aF]:LI)) (RI.one _) m T39 f Z Z Z (by decide) (All2.cons Z (All2.nil _)) λaJ aK w a m aL f=> ?_
   have⟨aM,aN,au⟩:=bind_some au
   refine BJ (RI.one _) 1 m ax Z T39 Z (by decide) f Z Z Z (Ow.src (j:=0) aL m Z) aN λaO aP w a m aQ f=>Ac f Z λa f=>Aa (Am ?_)
   refine Ab f Z λa f=>Ab f Z λa f=>Ab f Z λa f=> ?_
   have⟨aR,aS,au⟩:=bind_some au
   refine Bq T22 f Z Z Z h0 aS λaT aU a aV aW f=>AW m BH f Z Z aV λa f=>A2 underlying39 f Z Z aW λa f=>Ai f Z Z Ar λa f=>Ac f Z λa f=>Aa (Am ?_)
   refine Ab f Z λa f=>Ai f Z Z Ar λa f=>Ac f Z λa f=>Aa ?_
   have m:=m.fr 1
   have m:=m.eraseAt 1
   obtain rfl:=sj au
   exact⟨_,Z,_,_,_,Z,_,aP,aO,(gt aw aI),f.k Z,m,aQ⟩
  ·refine Aj f Z ay ?_
   refine Ay Z ?_
   obtain rfl:=sj au
   obtain rfl:=av _ rfl
   exact⟨_,_,Z,_,ap,aq,aw,f.k Z,m,ax⟩
 ·rintro a w ⟨af,ag,rfl,ah,ai,aj,aX,f,m,aY⟩
  have h0:=rd2 aX h0
  refine Af ?_
  refine Ac f Z λa f=>Aw ?_
  refine Ac f Z λa f=>Aw ?_
  refine Ab f Z λa f=>A2 underlying22 f Z Z h0 λa f=>l_o f (Cb (f.e Z) ⟨_,underlying3⟩ underlying68) λa f=> ?_
  obtain⟨aZ,hd⟩:=BY hd
  refine l_o f (DB (f.e Z) (f.e Z) aZ) λa f=>Ai f Z Z AC λa f=>Ac f Z λa f=>Aa (Ah ?_)
  have⟨a0,a1,hd⟩:=bind_some hd
  refine AD (λa w=>∃a2:Int,∃a3:Int,(a2,a3)=a0∧∃(a4:GH),GLe ah a4∧Fr a 67 [(0,v0),(4,(iv ag)),(6,(iv a2)),(7,(iv a3))]∧Mem W a4 w (H)) ?_ ?_
  ·refine Ak ?_
   refine AB (λa5 a w=>∃a6:Int,∃a7:Int,∃a8:Int,(a6,a7,a8)=a5∧∃(a9:GH),GLe ah a9∧Fr a 67 [(0,v0),(3,ai),(4,(iv ag)),(6,(iv a6)),(7,(iv a7)),(8,(iv a8))]∧Mem W a9 w (aj::H)) a1 ⟨_,_,_,Z,_,gr,f.k Z,m⟩ ?_
   clear a1 f m
   rintro a5 ba bb bc a w ⟨a6,a7,a8,rfl,a9,bd,f,m⟩
   have aY:=od1 bd aY
   refine Ah (Af ?_)
   refine Ab f Z λa f=>Ai f Z Z BV λa f=>Aa ?_
   rcases Ae bb with⟨be,bb⟩|⟨be,bb⟩
   ·refine Al f Z be ?_
    refine Ao ?_
    refine Ak (Af ?_)
    refine Ab f Z λa f=>Ab f Z λa f=> ?_
    have⟨bf,bg,bb⟩:=bind_some bb
    refine Ba f Z call45 (Wk.j0 m bg) λbh w bi m a f=> ?_
    have aY:=od1 bi aY
    refine Ab f Z λa f=> ?_
    have⟨bj,bk,bb⟩:=bind_some bb
    refine AM f Z call44 (Ow.lendCall (RI.mono _) 0 aY m Z (λbl bm m bn=>Wk.g0 m bn bk) (λ_ _ _ _ h=>h)) λbo bp bq w br m bs a f=> ?_
    obtain⟨rfl,rfl⟩:=bs
    refine Ac f Z λa f=>Aw ?_
    refine Ab f Z λa f=>Ab f Z λa f=>Ai f Z Z Dl λa f=>Ac f Z λa f=>Aw ?_
    refine Ab f Z λa f=> ?_
    have⟨bt,bu,bb⟩:=bind_some bb
    refine Ba f Z call46 (Wk.I m bu) λbv w bw m a f=>Ai f Z Z BV λa f=>Aa ?_
    rcases Ae bb with⟨bx,bb⟩|⟨bx,bb⟩
    ·refine Al f Z bx ?_
     refine Af ?_
     refine Ab f Z λa f=>Ai f Z Z Ar λa f=>Ac f Z λa f=>Aa (Am ?_)
     refine Ab f Z λa f=>Ab f Z λa f=> ?_
     have⟨bz,bA,bb⟩:=bind_some bb
     refine Ba f Z call46 (Wk.I m bA) λbB w bC m a f=>Ai f Z Z Ar λa f=>Ac f Z λa f=>Aa ?_
     obtain rfl:=sj bb
     exact⟨_,Z,_,_,_,Z,_,(gt bd (gt bi (gt br (gt bw bC)))),f.k Z,m⟩
    ·refine Aj f Z bx ?_
     refine Ao ?_
     obtain rfl:=sj bb
     exact⟨_,Z,_,_,_,Z,_,(gt bd (gt bi (gt br bw))),f.k Z,m⟩
   ·refine Aj f Z be ?_
    refine Ay Z ?_
    have m:Mem W a9 w H:=Mem.drop (H':=[aj]) m
    obtain rfl:=sj bb
    obtain rfl:=bc _ rfl
    exact⟨_,_,Z,_,bd,f.k Z,m⟩
  ·rintro a w ⟨a2,a3,rfl,a4,bD,f,m⟩
   have h0:=rd2 bD h0
   refine Af ?_
   refine Ab f Z λa f=>Ai f Z Z B6 λa f=>Ab f Z λa f=>Ai f Z Z (Cg Z) λa f=>Ai f Z Z Ar λa f=>Ab f Z λa f=>Ai f Z Z AC λa f=>Ab f Z λa f=> ?_
   have⟨bE,bF,hd⟩:=bind_some hd
   refine AM f Z call28 (Wk.o0 m h0 bF) λbG bH bI w bJ m bK a f=> ?_
   obtain⟨bL,bM,rfl,rfl,bN⟩:=bK
   refine BT 0 m bN Z underlying22 f Z Z λa f=>Ai f Z Z AC λa f=>Ac f Z λa f=>Aa ?_
   refine Ap ?_
   have m:Mem W bH w H:=Mem.drop (H':=[bM]) m
   obtain rfl:=sj hd
   exact⟨[(iv (i64.wrap ((i64.wrap ((i64.wrap ((i64.wrap (2*a3))+(i64.wrap (Int.tdiv ag 2))))-a2))-(bE.length:Int))))],f.g Z,f.d,_,[],(gt aX (gt bD bJ)),m,Z,Z⟩
theorem Wk.x0 {aa ab:Value}{ac ad:LL}(m:Mem W G w (H))(ae:R2 G aa ac)(af:R2 G ab ad){y:Bool}(hd:D.x0 ac ad=some y):
  Calls prog 13 #[(.agg #[aa]),(.agg #[ab])] w (Res W G H (λ_ Ho v=>Ho=[]∧v=(.bool y))):=by
 refine As (args:=[(.agg #[aa]),(.agg #[ab])]) (N:=14) [.tmp 4] func13 Z Z (lb Z) Z λa f=> ?_
 unfold D.x0 at hd
 refine Af ?_
 refine Bh (cs:=[aa]) m f Z Z Z λag w a m f=>Bh (cs:=[ab]) m f Z Z Z λah w a m f=>Ac f Z λa f=>Aw ?_
 refine AU 1 0 (ds:=[aa]) m BG f Z Z Z Z Z λa f=>AU 0 0 (ds:=[ab]) m Cr f Z Z Z Z Z λa f=> ?_
 have⟨ai,aj,hd⟩:=bind_some hd
 refine Ba f Z call25 (Wk.i0 m ae af aj) λak w al m a f=> ?_
 have af:=rd2 al af
 refine Ab f Z λa f=> ?_
 have⟨am,an,hd⟩:=bind_some hd
 refine BF 5 (λa w=>∃ao,GLe ak ao∧Mem W ao w (ib ah 32 [ab]::ib ag 30 [aa]::H)∧Fr a 14 [(0,(.agg #[aa])),(1,(.agg #[ab])),(2,(pb ag)),(3,(pb ah)),(5,(.agg #[aa])),(6,(.agg #[ab])),(7,(.bool ai)),(8,(.bool ai)),(13,(.bool am))]) ?_ ?_
 ·rcases Ae an with⟨ap,an⟩|⟨ap,an⟩
  ·refine AG f ap ?_
   refine BD underlying32 Z sizeOf22 f Z λa f=>AG f ap ?_
   refine AS 0 0 m Bu f Z Z Z Z λa f=>AG f ap ?_
   have⟨aq,ar,an⟩:=bind_some an
   refine Ba f Z call26 (Wk.Z0 m af ar) λau w av m a f=>AG f ap ?_
   refine Ai f Z Z Bv λa f=>l_o f (AO (f.e Z) ap (f.e Z)) λa f=> ?_
   obtain rfl:=sj an
   exact⟨_,av,m,f.k Z⟩
  ·refine AL f ap λa f=> ?_
   refine AL f ap λa f=>AL f ap λa f=>AL f ap λa f=>l_o f (AP (f.e Z) ap (f.e Z)) λa f=> ?_
   obtain rfl:=sj an
   exact⟨_,gr,m,f.k Z⟩
 ·rintro a w ⟨ao,aw,m,f⟩
  refine Ac f Z λa f=>Aa ?_
  refine Ap ?_
  have m:Mem W ao w H:=Mem.drop (H':=[ib ah 32 [ab],ib ag 30 [aa]]) m
  obtain rfl:=sj hd
  exact⟨[(.bool am)],f.g Z,f.d,_,[],(gt al aw),m,Z,Z⟩
end Go.Proofs.YtoakbbefbhdaaaaGreatDoor

set_option maxRecDepth 100000
namespace Go.Proofs.YtoakbbefbhdaaaaGreatDoor
open Go Go.Sx
open Go.Proofs.Tryz Go.Proofs.YtoakbbefbhdaaaaGreatDoor.Tryz IntKind
variable {W w : World} {G : GH} {H : List Itm}
theorem T76 :SlT prog 76 63 1 24 sn:=⟨underlying76,Tryz.t63,by kernel_rfl,by kernel_rfl,by kernel_rfl,by kernel_rfl⟩
theorem Pl63 :BX prog 63:=isAgg63
theorem Mk94 :∃f0 f1,PrK prog 94 3 f0 f1:=⟨_,_,⟨underlying94,rfl,rfl,rfl,rfl,by decide,by decide,underlying3,isAgg3,Tryz.stoodInHeld94⟩⟩
theorem Ag94 :Agg prog 94 2:=⟨isAgg94,sizeOf94⟩
theorem T73 :SlT prog 73 63 1 24 sn:=⟨underlying73,Tryz.t63,by kernel_rfl,by kernel_rfl,by kernel_rfl,by kernel_rfl⟩
theorem T46 :SlT prog 46 44 1 4 (.int .u32 0):=⟨underlying46,Tryz.t44,by kernel_rfl,by kernel_rfl,by kernel_rfl,by kernel_rfl⟩
theorem Wk.X0 {x0:Int}(m:Mem W G w (H)){y:(LI)}(hd:D.X0 x0=some y):
  Calls prog 15 #[(iv x0)] w (Res W G H (λG' Ho v=>∃r0:Value,∃i0:Itm,Ho=[i0]∧r0=v∧Ow R0 2 G' i0 r0 y)):=by
 refine As (args:=[(iv x0)]) (N:=16) [.tmp 2] func15 Z Z (lb Z) Z λa f=> ?_
 unfold D.X0 at hd
 refine Af ?_
 refine Ac f Z λa f=>Aw ?_
 refine Bl (R:=R0) (xs:=([]:LI)) (RI.one _) m T39 f Z Z Z (by decide) (All2.nil _) λaa ab w a m ac f=>Ac f Z λa f=>Aa (Ah (Af ?_))
 refine Ac f Z λa f=>Aa ?_
 have⟨ad,ae,hd⟩:=bind_some hd
 refine AD (λa w=>∃af:LI,af=ad∧∃(ag:GH) (ah:Value) (ai:Itm),GLe G ag∧Fr a 16 [(3,ah)]∧Mem W ag w (ai::H)∧Ow R0 2 ag ai ah af) ?_ ?_
 ·refine Ak ?_
  refine AB (λaj a w=>∃ak:LI,∃al:Int,(ak,al)=aj∧∃(am:GH) (an:Value) (ao:Itm),GLe G am∧Fr a 16 [(0,(iv x0)),(3,an),(4,(iv al))]∧Mem W am w (ao::H)∧Ow R0 2 am ao an ak) ae ⟨_,_,Z,_,ab,aa,gr,f.k Z,m,ac⟩ ?_
  clear ae f m
  rintro aj ap aq ar a w ⟨ak,al,rfl,am,an,ao,au,f,m,av⟩
  refine Ah (Af ?_)
  refine Ab f Z λa f=>Ab f Z λa f=>Ai f Z Z AT λa f=>Aa ?_
  rcases Ae aq with⟨aw,aq⟩|⟨aw,aq⟩
  ·refine Al f Z aw ?_
   refine Ao ?_
   refine Ah (Ak (Am ?_))
   refine Ab f Z λa f=>Ab f Z λa f=>Bl (R:=R0) (xs:=([al]:LI)) (RI.one _) m T39 f Z Z Z (by decide) (All2.cons Z (All2.nil _)) λax ay w a m az f=> ?_
   have⟨aA,aB,aq⟩:=bind_some aq
   refine BJ (RI.one _) 1 m av Z T39 Z (by decide) f Z Z Z (Ow.src (j:=0) az m Z) aB λaC aD w a m aE f=>Ac f Z λa f=>Aa (Am ?_)
   refine Ab f Z λa f=>Ai f Z Z Ar λa f=>Ac f Z λa f=>Aa ?_
   have m:=m.fr 1
   have m:=m.eraseAt 1
   obtain rfl:=sj aq
   exact⟨_,Z,_,_,Z,_,aD,aC,au,f.k Z,m,aE⟩
  ·refine Aj f Z aw ?_
   refine Ay Z ?_
   obtain rfl:=sj aq
   obtain rfl:=ar _ rfl
   exact⟨_,Z,_,an,ao,au,f.k Z,m,av⟩
 ·rintro a w ⟨af,rfl,ag,ah,ai,aF,f,m,aG⟩
  refine Af ?_
  refine Ab f Z λa f=>Ac f Z λa f=>Aa ?_
  refine Ap ?_
  obtain rfl:=sj hd
  exact⟨[ah],f.g Z,f.d,_,[ai],aF,m,_,_,Z,Z,aG⟩
theorem Wk.L0 {aa v1:Value}{ab:LL}{x1:LI}(m:Mem W G w (H))(ac:R2 G aa ab)(h1:R1 G v1 x1){y:Bool}(hd:D.L0 ab x1=some y):
  Calls prog 27 #[(.agg #[aa]),v1] w (Res W G H (λ_ Ho v=>Ho=[]∧v=(.bool y))):=by
 refine As (args:=[(.agg #[aa]),v1]) (N:=13) [.tmp 4] func27 Z Z (lb Z) Z λa f=> ?_
 unfold D.L0 at hd
 refine Af ?_
 refine Bh (cs:=[aa]) m f Z Z Z λad w a m f=>Ac f Z λa f=>Aw ?_
 refine AU 0 0 (ds:=[aa]) m BG f Z Z Z Z Z λa f=> ?_
 have⟨ae,af,hd⟩:=bind_some hd
 refine Ba f Z call42 (Wk.c0 m ac af) λag w ah m a f=> ?_
 have ac:=rd2 ah ac
 have h1:=rd1 ah h1
 refine Ab f Z λa f=> ?_
 have⟨ai,aj,hd⟩:=bind_some hd
 refine BF 5 (λa w=>∃ak,GLe ag ak∧Mem W ak w (ib ad 30 [aa]::H)∧Fr a 13 [(0,(.agg #[aa])),(1,v1),(2,(pb ad)),(5,(.agg #[aa])),(6,(.bool ae)),(7,(.bool ae)),(12,(.bool ai))]) ?_ ?_
 ·rcases Ae aj with⟨al,aj⟩|⟨al,aj⟩
  ·refine AG f al ?_
   refine Ab f Z λa f=>AG f al ?_
   refine AU 0 0 (ds:=[aa]) m BG f Z Z Z Z Z λa f=>AG f al ?_
   have⟨am,an,aj⟩:=bind_some aj
   refine Ba f Z call16 (Wk.B m ac an) λao w ap m a f=> ?_
   have h1:=rd1 ap h1
   refine AG f al ?_
   have⟨aq,ar,aj⟩:=bind_some aj
   refine Ba f Z call47 (Wk.b0 m h1 ar) λau w av m a f=>l_o f (AO (f.e Z) al (f.e Z)) λa f=> ?_
   obtain rfl:=sj aj
   exact⟨_,(gt ap av),m,f.k Z⟩
  ·refine AL f al λa f=> ?_
   refine AL f al λa f=>AL f al λa f=>AL f al λa f=>l_o f (AP (f.e Z) al (f.e Z)) λa f=> ?_
   obtain rfl:=sj aj
   exact⟨_,gr,m,f.k Z⟩
 ·rintro a w ⟨ak,aw,m,f⟩
  refine Ac f Z λa f=>Aa ?_
  refine Ap ?_
  have m:Mem W ak w H:=Mem.drop (H':=[ib ad 30 [aa]]) m
  obtain rfl:=sj hd
  exact⟨[(.bool ai)],f.g Z,f.d,_,[],(gt ah aw),m,Z,Z⟩
theorem Wk.f1 {aa ab v2:Value}{ac ad:LL}{x2:LI}(m:Mem W G w (H))(ae:R2 G aa ac)(af:R2 G ab ad)(h2:R1 G v2 x2){y:Int}(hd:D.f1 ac ad x2=some y):
  Calls prog 14 #[(.agg #[aa]),(.agg #[ab]),v2] w (Res W G H (λ_ Ho v=>Ho=[]∧v=(iv y))):=by
 refine As (args:=[(.agg #[aa]),(.agg #[ab]),v2]) (N:=38) [.tmp 6] func14 Z Z (lb Z) Z λa f=> ?_
 unfold D.f1 at hd
 refine Af ?_
 refine Bh (cs:=[aa]) m f Z Z Z λag w a m f=>Bh (cs:=[ab]) m f Z Z Z λah w a m f=>Ac f Z λa f=>Aa (Ah (Af ?_))
 refine AU 1 0 (ds:=[aa]) m BG f Z Z Z Z Z λa f=>AU 0 0 (ds:=[ab]) m Cr f Z Z Z Z Z λa f=> ?_
 have⟨ai,aj,hd⟩:=bind_some hd
 refine Ba f Z call25 (Wk.i0 m ae af aj) λak w al m a f=> ?_
 have ae:=rd2 al ae
 have af:=rd2 al af
 have h2:=rd1 al h2
 refine l_o f (Be (f.e Z)) λa f=>Ab f Z λa f=> ?_
 have⟨am,an,hd⟩:=bind_some hd
 refine BF 5 (λa w=>∃ao,GLe ak ao∧Mem W ao w (ib ah 32 [ab]::ib ag 30 [aa]::H)∧Fr a 38 [(0,(.agg #[aa])),(1,(.agg #[ab])),(2,v2),(3,(pb ag)),(4,(pb ah)),(9,(.agg #[aa])),(10,(.agg #[ab])),(11,(.bool ai)),(12,(.bool (!ai))),(13,(.bool (!ai))),(18,(.bool am))]) ?_ ?_
 ·rcases Ae an with⟨ap,an⟩|⟨ap,an⟩
  ·refine AL f ap λa f=> ?_
   refine AL f ap λa f=>AL f ap λa f=>AL f ap λa f=>l_o f (AO (f.e Z) ap (f.e Z)) λa f=> ?_
   obtain rfl:=sj an
   exact⟨_,gr,m,f.k Z⟩
  ·refine AG f ap ?_
   refine AU 1 0 (ds:=[aa]) m BG f Z Z Z Z Z λa f=>AG f ap ?_
   refine Ab f Z λa f=>AG f ap ?_
   have⟨aq,ar,an⟩:=bind_some an
   refine Ba f Z call27 (Wk.L0 m ae h2 ar) λau w av m a f=>AG f ap ?_
   refine l_o f (Be (f.e Z)) λa f=>l_o f (AP (f.e Z) ap (f.e Z)) λa f=> ?_
   obtain rfl:=sj an
   exact⟨_,av,m,f.k Z⟩
 ·rintro a w ⟨ao,aw,m,f⟩
  have af:=rd2 aw af
  have h2:=rd1 aw h2
  refine Aa ?_
  rcases Ae hd with⟨ax,hd⟩|⟨ax,hd⟩
  ·refine Al f Z ax ?_
   refine Af ?_
   refine Ac f Z λa f=>Aa ?_
   refine Ap ?_
   have m:Mem W ao w H:=Mem.drop (H':=[ib ah 32 [ab],ib ag 30 [aa]]) m
   obtain rfl:=sj hd
   exact⟨[(iv (-1))],f.g Z,f.d,_,[],(gt al aw),m,Z,Z⟩
  ·refine Aj f Z ax ?_
   refine Ao ?_
   refine Af ?_
   refine BD underlying32 Z sizeOf22 f Z λa f=>AS 0 0 m Bu f Z Z Z Z λa f=> ?_
   have⟨ay,az,hd⟩:=bind_some hd
   refine AM f Z call28 (Wk.o0 m af az) λaA aB aC w aD m aE a f=> ?_
   obtain⟨aF,aG,rfl,rfl,aH⟩:=aE
   have h2:=rd1 aD h2
   refine Ac f Z λa f=>Aa (Ah (Af ?_))
   refine Ac f Z λa f=>Aa ?_
   have⟨aI,aJ,hd⟩:=bind_some hd
   refine AD (λa w=>∃q_84':Unit,aI= .inl q_84'∧∃(aK:GH),GLe aB aK∧Fr a 38 []∧Mem W aK w (H)) ?_ ?_
   ·refine Ak ?_
    have m:=m.eraseAt 2
    have m:=m.eraseAt 1
    refine AB (λaL a w=>∃aM:Int,aM=aL∧∃(aN:GH),GLe aB aN∧Fr a 38 [(2,v2),(7,aF),(8,(iv aM))]∧Mem W aN w (aG::H)) aJ ⟨_,Z,_,gr,f.k Z,m⟩ ?_
    clear aJ f m
    rintro aL aO aP aQ a w ⟨aM,rfl,aN,aR,f,m⟩
    have h2:=rd1 aR h2
    have aH:=Ow.mono (RSl.mono (RI.mono _)) aR aH
    refine Ah (Af ?_)
    refine Ab f Z λa f=>Ab f Z λa f=>BT 0 m aH Z underlying22 f Z Z λa f=>Ai f Z Z AT λa f=>Aa ?_
    rcases Ae aP with⟨aS,aP⟩|⟨aS,aP⟩
    ·refine Al f Z aS ?_
     refine Ao ?_
     refine Ah (Ak (Ah ?_))
     refine A1 9 AA (by kernel_rfl) m ?_
     refine Ag 0 9 Z f Z λa f=> ?_
     have⟨aT,aU,aP⟩:=bind_some aP
     refine Bb (i:=1) 9 Z (by kernel_rfl) Z f Z Z Z call29 (λ_ _ w aV m=>Wk.u m (rd1 aV h2) aU) λa f=>Ag 2 9 Z f Z λa f=>Ag 3 9 Z f Z λa f=> ?_
     have⟨aW,aX,aP⟩:=bind_some aP
     refine Ax 4 9 0 m aH T22 aX Z f Z Z λaY a aZ f=>AF 5 9 0 aH BH aZ aX Z f Z λa0 a a1 f=> ?_
     have⟨a2,a3,aP⟩:=bind_some aP
     refine Bb (i:=6) 9 Z (by kernel_rfl) Z f Z Z Z call29 (λ_ _ w a4 m=>Wk.u m (rd1 a4 a1) a3) λa f=>q_p 7 9 Z f (λ_=>AE (f.e Z) (f.e Z) Dl) λa f=>q_p 8 9 Z f (λ_=>AE (f.e Z) (f.e Z) Bv) λa f=>AJ λa5 w a6 m=>Aa ?_
     rcases Ae aP with⟨a7,aP⟩|⟨a7,aP⟩
     ·refine Al f Z a7 ?_
      refine Af ?_
      refine Ab f Z λa f=>Ac f Z λa f=>Aa ?_
      refine Ap ?_
      have m:Mem W a5 w H:=Mem.drop (H':=[aG]) m
      obtain rfl:=sj aP
      obtain rfl:=aQ _ rfl
      obtain rfl:=sj hd
      exact⟨[(iv aM)],f.g Z,f.d,_,[],(gt al (gt aw (gt aD (gt aR a6)))),m,Z,Z⟩
     ·refine Aj f Z a7 ?_
      refine Ao ?_
      refine Am ?_
      refine Ab f Z λa f=>Ai f Z Z Ar λa f=>Ac f Z λa f=>Aa ?_
      obtain rfl:=sj aP
      exact⟨_,Z,_,Z,_,(gt aR a6),f.k Z,m⟩
    ·refine Aj f Z aS ?_
     refine Ay Z ?_
     have m:Mem W aN w H:=Mem.drop (H':=[aG]) m
     obtain rfl:=sj aP
     obtain rfl:=aQ _ rfl
     exact⟨_,Z,_,aR,f.weak trivial,m⟩
   ·rintro a w ⟨_,rfl,aK,a8,f,m⟩
    refine Af ?_
    refine Ac f Z λa f=>Aa ?_
    refine Ap ?_
    obtain rfl:=sj hd
    exact⟨[(iv (-1))],f.g Z,f.d,_,[],(gt al (gt aw (gt aD a8))),m,Z,Z⟩
theorem Wk.C0 {aa ab:Value}{ac ad:LL}(m:Mem W G w (H))(ae:R2 G aa ac)(af:R2 G ab ad){y:Bool}(hd:D.C0 ac ad=some y):
  Calls prog 6 #[(.agg #[aa]),(.agg #[ab])] w (Res W G H (λ_ Ho v=>Ho=[]∧v=(.bool y))):=by
 refine As (args:=[(.agg #[aa]),(.agg #[ab])]) (N:=17) [.tmp 4] func6 Z Z (lb Z) Z λa f=> ?_
 unfold D.C0 at hd
 refine Af ?_
 refine Bh (cs:=[aa]) m f Z Z Z λag w a m f=>Bh (cs:=[ab]) m f Z Z Z λah w a m f=>Ac f Z λa f=>Aa (Ah ?_)
 refine A1 13 AA (by kernel_rfl) m ?_
 refine By (i:=0) (ds:=[aa]) 13 1 BG Z Z Z Z (by kernel_rfl) Z f Z Z Z λa f=>By (i:=1) (ds:=[ab]) 13 0 Cr Z Z Z Z (by kernel_rfl) Z f Z Z Z λa f=> ?_
 have⟨ai,aj,hd⟩:=bind_some hd
 refine Bb (i:=2) 13 Z (by kernel_rfl) Z f Z Z Z call13 (λ_ _ w ak m=>Wk.x0 m (rd2 ak ae) (rd2 ak af) aj) λa f=>Ag 3 13 Z f Z λa f=> ?_
 rcases Ae hd with⟨al,hd⟩|⟨al,hd⟩
 ·refine By (i:=4) (ds:=[aa]) 13 1 BG Z Z Z Z (by kernel_rfl) Z f (AZ f Z Z Z al) Z Z λa f=> ?_
  refine By (i:=5) (ds:=[ab]) 13 0 Cr Z Z Z Z (by kernel_rfl) Z f (AZ f Z Z Z al) Z Z λa f=>By (i:=6) (ds:=[aa]) 13 1 BG Z Z Z Z (by kernel_rfl) Z f (AZ f Z Z Z al) Z Z λa f=> ?_
  have⟨am,an,hd⟩:=bind_some hd
  refine Bb (i:=7) 13 Z (by kernel_rfl) Z f (AZ f Z Z Z al) Z Z call16 (λ_ _ w ao m=>Wk.B m (rd2 ao ae) an) λa f=>CC 8 Z λap w aq m ar ar=> ?_
  have ae:=rd2 aq ae
  have af:=rd2 aq af
  refine AG f al ?_
  have⟨au,av,hd⟩:=bind_some hd
  refine AM f Z call15 (Wk.X0 m av) λaw ax ay w az m aA a f=> ?_
  obtain⟨aB,aC,rfl,rfl,aD⟩:=aA
  have ae:=rd2 az ae
  have af:=rd2 az af
  refine Aa ?_
  refine ar ax [aC] _ _ az m ?_
  refine CC 9 Z λaE w aF m aG aG=> ?_
  have ae:=rd2 aF ae
  have af:=rd2 aF af
  have aD:=od1 aF aD
  refine AG f al ?_
  have⟨aH,aI,hd⟩:=bind_some hd
  refine AM f Z call14 (Ow.lendCall (RI.mono _) 0 aD m Z (λaJ aK m aL=>Wk.f1 m (rd2 aK ae) (rd2 aK af) aL aI) (λ_ _ _ _ h=>h)) λaM aN aO w aP m aQ a f=> ?_
  obtain⟨rfl,rfl⟩:=aQ
  refine Aa ?_
  refine aG aN [aC] _ _ aP m ?_
  refine q_p (hw:=wo f al) 10 13 Z f (λ_=>AE (f.e Z) (f.e Z) Br) λa f=>q_p 11 13 Z f (λ_=>AO (f.e Z) al (f.e Z)) λa f=>q_p 12 13 Z f (λ_=>Ct (f.e Z)) λa f=>AJ λaR w aS m=>Aa ?_
  refine Ap ?_
  have m:Mem W aR w H:=Mem.drop (H':=[aC,ib ah 32 [ab],ib ag 30 [aa]]) m
  obtain rfl:=sj hd
  exact⟨[(.bool (decide ((0:Int)≤aH)))],f.g Z,f.d,_,[],(gt aq (gt az (gt aF (gt aP aS)))),m,Z,Z⟩
 ·refine An 4 13 Z f al λa f=> ?_
  refine An 5 13 Z f al λa f=>An 6 13 Z f al λa f=>An 7 13 Z f al λa f=>An 8 13 Z f al λa f=>An 9 13 Z f al λa f=>An 10 13 Z f al λa f=>q_p 11 13 Z f (λ_=>AP (f.e Z) al (f.e Z)) λa f=>q_p 12 13 Z f (λ_=>Ct (f.e Z)) λa f=>AJ λaT w aU m=>Aa ?_
  refine Ap ?_
  have m:Mem W aT w H:=Mem.drop (H':=[ib ah 32 [ab],ib ag 30 [aa]]) m
  obtain rfl:=sj hd
  exact⟨[(.bool false)],f.g Z,f.d,_,[],aU,m,Z,Z⟩
theorem Wk.o1 {x0 x1 x2:Int}(m:Mem W G w (H)){y:Bool}(hd:D.o1 x0 x1 x2=some y):
  Calls prog 73 #[(iv x0),(iv x1),(iv x2)] w (Res W G H (λ_ Ho v=>Ho=[]∧v=(.bool y))):=by
 refine As (args:=[(iv x0),(iv x1),(iv x2)]) (N:=15) [.tmp 6] func73 Z Z (lb Z) Z λa f=> ?_
 unfold D.o1 at hd
 refine Af ?_
 refine Ac f Z λa f=>Aw ?_
 refine Ab f Z λa f=>Ab f Z λa f=>Ai f Z Z BW λa f=>Ab f Z λa f=> ?_
 refine BF 4 (λa w=>∃aa,GLe G aa∧Mem W aa w (H)∧Fr a 15 [(0,(iv x0)),(1,(iv x1)),(2,(iv x2)),(7,(iv x1)),(8,(iv x0)),(9,(.bool (decide (x1≤x0)))),(10,(.bool (decide (x1≤x0)))),(14,(.bool ((decide (x1≤x0))&&(decide (x0≤x2)))))]) ?_ ?_
 ·rcases Bool.eq_false_or_eq_true (decide (x1≤x0)) with ab|ab
  ·refine AG f ab ?_
   refine Ab f Z λa f=>AG f ab ?_
   refine Ab f Z λa f=>AG f ab ?_
   refine Ai f Z Z BW λa f=>l_o f (AO (f.e Z) ab (f.e Z)) λa f=> ?_
   exact⟨_,gr,m,f.weak ⟨Z,Z,Z,Z,Z,Z,Z,by rw[ab];rfl,trivial⟩⟩
  ·refine AL f ab λa f=> ?_
   refine AL f ab λa f=>AL f ab λa f=>l_o f (AP (f.e Z) ab (f.e Z)) λa f=> ?_
   exact⟨_,gr,m,f.weak ⟨Z,Z,Z,Z,Z,Z,Z,by rw[ab];rfl,trivial⟩⟩
 ·rintro a w ⟨aa,ac,m,f⟩
  refine Ac f Z λa f=>Aa ?_
  refine Ap ?_
  obtain rfl:=sj hd
  exact⟨[(.bool ((decide (x1≤x0))&&(decide (x0≤x2))))],f.g Z,f.d,_,[],ac,m,Z,Z⟩
theorem Wk.d0 {v0:Value}{x0:LI}{x1:Int}(m:Mem W G w (H))(h0:R1 G v0 x0){y:Bool}(hd:D.d0 x0 x1=some y):
  Calls prog 58 #[v0,(iv x1)] w (Res W G H (λ_ Ho v=>Ho=[]∧v=(.bool y))):=by
 refine As (args:=[v0,(iv x1)]) (N:=33) [.tmp 4] func58 Z Z (lb Z) Z λa f=> ?_
 unfold D.d0 at hd
 refine Af ?_
 refine Ac f Z λa f=>Aa (Ah (Af ?_))
 refine Ab f Z λa f=>A2 underlying39 f Z Z h0 λa f=>Ab f Z λa f=>Aa ?_
 have⟨aa,ab,hd⟩:=bind_some hd
 refine AD (λa w=>∃q_181':Unit,aa= .inl q_181'∧∃(ac:GH),GLe G ac∧Fr a 33 []∧Mem W ac w (H)) ?_ ?_
 ·refine Ak ?_
  refine AB (λad a w=>∃ae:Int,ae=ad∧∃(af:GH),GLe G af∧Fr a 33 [(0,v0),(1,(iv x1)),(7,v0),(8,(iv (x0.length:Int))),(9,(iv ae))]∧Mem W af w (H)) ab ⟨_,Z,_,gr,f.k Z,m⟩ ?_
  clear ab f m
  rintro ad ag ah ai a w ⟨ae,rfl,af,aj,f,m⟩
  have h0:=rd1 aj h0
  refine Af ?_
  refine Ai f Z Z AT λa f=>Aa (Ah ?_)
  rcases Ae ah with⟨ak,ah⟩|⟨ak,ah⟩
  ·refine Al f Z ak ?_
   refine Ao ?_
   refine Ah (Ak (Af ?_))
   refine Ab f Z λa f=> ?_
   have⟨al,am,ah⟩:=bind_some ah
   refine Bq T39 f Z Z Z h0 am λan ao a ap aq f=> ?_
   subst aq
   refine AW m Pl2 f Z Z ap λa f=>Ac f Z λa f=>Ac f Z λa f=>Aw ?_
   refine Ab f Z λa f=>Ab f Z λa f=>Ai f Z Z AC λa f=> ?_
   have⟨ar,au,ah⟩:=bind_some ah
   refine Ba f Z call73 (Wk.o1 m au) λav w aw m a f=> ?_
   have h0:=rd1 aw h0
   refine l_o f (Be (f.e Z)) λa f=>Ab f Z λa f=> ?_
   have⟨ax,ay,ah⟩:=bind_some ah
   refine BF 12 (λa w=>∃az,GLe av az∧Mem W az w (H)∧Fr a 33 [(0,v0),(1,(iv x1)),(5,(iv ae)),(6,(iv al)),(7,v0),(8,(iv (x0.length:Int))),(9,(iv ae)),(14,(iv al)),(15,(iv x1)),(16,(iv (i64.wrap (x1-1)))),(17,(.bool ar)),(18,(.bool (!ar))),(19,(.bool (!ar))),(31,(.bool ax))]) ?_ ?_
   ·rcases Ae ay with⟨aA,ay⟩|⟨aA,ay⟩
    ·refine AL f aA λa f=> ?_
     refine AL f aA λa f=>AL f aA λa f=>Do f Z Z Z λa f=>Do f Z Z Z λa f=>Do f Z Z Z λa f=>Do f Z Z Z λa f=>Do f Z Z Z λa f=>Do f Z Z Z λa f=>Do f Z Z Z λa f=>AL f aA λa f=>l_o f (AO (f.e Z) aA (f.e Z)) λa f=> ?_
     obtain rfl:=sj ay
     exact⟨_,gr,m,f.k Z⟩
    ·refine AG f aA ?_
     refine Ab f Z λa f=>AG f aA ?_
     refine Ai f Z Z BV λa f=>AG f aA ?_
     refine Ab f Z λa f=> ?_
     have⟨aB,aC,ay⟩:=bind_some ay
     refine BF 8 (λa w=>∃aD,GLe av aD∧Mem W aD w (H)∧Fr a 33 [(0,v0),(1,(iv x1)),(5,(iv ae)),(6,(iv al)),(7,v0),(8,(iv (x0.length:Int))),(9,(iv ae)),(14,(iv al)),(15,(iv x1)),(16,(iv (i64.wrap (x1-1)))),(17,(.bool ar)),(18,(.bool (!ar))),(19,(.bool (!ar))),(20,(iv ae)),(21,(.bool (decide ((0:Int)<ae)))),(22,(.bool (decide ((0:Int)<ae)))),(30,(.bool aB))]) ?_ ?_
     ·rcases Ae aC with⟨aE,aC⟩|⟨aE,aC⟩
      ·refine AG f aE ?_
       refine Ab f Z λa f=>AG f aE ?_
       refine Ab f Z λa f=>AG f aE ?_
       refine Ai f Z Z AC λa f=>AG f aE ?_
       have⟨aF,aG,aC⟩:=bind_some aC
       refine Bq T39 f Z Z Z h0 aG λaH aI a aJ aK f=> ?_
       subst aK
       refine AG f aE ?_
       refine AW m Pl2 f Z Z aJ λa f=>AG f aE ?_
       refine Ab f Z λa f=>AG f aE ?_
       refine Ai f Z Z Br λa f=>AG f aA ?_
       refine l_o f (AO (f.e Z) aE (f.e Z)) λa f=> ?_
       obtain rfl:=sj aC
       exact⟨_,gr,m,f.k Z⟩
      ·refine AL f aE λa f=> ?_
       refine AL f aE λa f=>AL f aE λa f=>AL f aE λa f=>AL f aE λa f=>AL f aE λa f=>AL f aE λa f=>AG f aA ?_
       refine l_o f (AP (f.e Z) aE (f.e Z)) λa f=> ?_
       obtain rfl:=sj aC
       exact⟨_,gr,m,f.k Z⟩
     ·rintro a w ⟨aD,aL,m,f⟩
      refine l_o f (AP (f.e Z) aA (f.e Z)) λa f=> ?_
      obtain rfl:=sj ay
      exact⟨_,aL,m,f.k Z⟩
   ·rintro a w ⟨az,aM,m,f⟩
    refine Aa ?_
    rcases Ae ah with⟨aN,ah⟩|⟨aN,ah⟩
    ·refine Al f Z aN ?_
     refine Af ?_
     refine Ac f Z λa f=>Aa ?_
     refine Ap ?_
     obtain rfl:=sj ah
     obtain rfl:=ai _ rfl
     obtain rfl:=sj hd
     exact⟨[(.bool false)],f.g Z,f.d,_,[],(gt aj (gt aw aM)),m,Z,Z⟩
    ·refine Aj f Z aN ?_
     refine Ao ?_
     refine Am ?_
     refine Ai f Z Z Ar λa f=>Ab f Z λa f=>Aa ?_
     obtain rfl:=sj ah
     exact⟨_,Z,_,Z,_,(gt aj (gt aw aM)),f.k Z,m⟩
  ·refine Aj f Z ak ?_
   refine Ay Z ?_
   obtain rfl:=sj ah
   obtain rfl:=ai _ rfl
   exact⟨_,Z,_,aj,f.weak trivial,m⟩
 ·rintro a w ⟨_,rfl,ac,aO,f,m⟩
  refine Af ?_
  refine Ac f Z λa f=>Aa ?_
  refine Ap ?_
  obtain rfl:=sj hd
  exact⟨[(.bool true)],f.g Z,f.d,_,[],aO,m,Z,Z⟩
theorem Wk.J {aa:Value}{ab:LL}(m:Mem W G w (H))(ac:R2 G aa ab){y:Bool}(hd:D.J ab=some y):
  Calls prog 54 #[(.agg #[aa])] w (Res W G H (λ_ Ho v=>Ho=[]∧v=(.bool y))):=by
 refine As (args:=[(.agg #[aa])]) (N:=61) [.tmp 2] func54 Z Z (lb Z) Z λa f=> ?_
 unfold D.J at hd
 refine Af ?_
 refine Bh (cs:=[aa]) m f Z Z Z λad w a m f=>Ac f Z λa f=>Aw ?_
 refine BD underlying30 Z sizeOf22 f Z λa f=>AS 0 0 m Bu f Z Z Z Z λa f=>A2 underlying22 f Z Z ac λa f=>Ac f Z λa f=>Aa (Ah (Af ?_))
 refine Ab f Z λa f=>Ai f Z Z AT λa f=>Ab f Z λa f=> ?_
 refine BF 3 (λa w=>∃ae,GLe G ae∧Mem W ae w (ib ad 30 [aa]::H)∧Fr a 61 [(0,(.agg #[aa])),(1,(pb ad)),(3,(iv (ab.length:Int))),(13,(iv (ab.length:Int))),(14,(.bool (decide ((ab.length:Int)<1)))),(15,(.bool (decide ((ab.length:Int)<1)))),(18,(.bool ((decide ((ab.length:Int)<1))||(decide ((16:Int)<(ab.length:Int))))))]) ?_ ?_
 ·rcases Bool.eq_false_or_eq_true (decide ((ab.length:Int)<1)) with af|af
  ·refine AL f af λa f=> ?_
   refine AL f af λa f=>l_o f (AO (f.e Z) af (f.e Z)) λa f=> ?_
   exact⟨_,gr,m,f.weak ⟨Z,Z,Z,Z,Z,Z,by rw[af];rfl,trivial⟩⟩
  ·refine AG f af ?_
   refine Ab f Z λa f=>AG f af ?_
   refine Ai f Z Z BV λa f=>l_o f (AP (f.e Z) af (f.e Z)) λa f=> ?_
   exact⟨_,gr,m,f.weak ⟨Z,Z,Z,Z,Z,Z,by rw[af];rfl,trivial⟩⟩
 ·rintro a w ⟨ae,ag,m,f⟩
  have ac:=rd2 ag ac
  refine Aa ?_
  rcases Ae hd with⟨ah,hd⟩|⟨ah,hd⟩
  ·refine Al f Z ah ?_
   refine Af ?_
   refine Ac f Z λa f=>Aa ?_
   refine Ap ?_
   have m:Mem W ae w H:=Mem.drop (H':=[ib ad 30 [aa]]) m
   obtain rfl:=sj hd
   exact⟨[(.bool false)],f.g Z,f.d,_,[],ag,m,Z,Z⟩
  ·refine Aj f Z ah ?_
   refine Ao ?_
   refine Ah (Af ?_)
   refine BD underlying30 Z sizeOf22 f Z λa f=>AS 0 0 m Bu f Z Z Z Z λa f=>A2 underlying22 f Z Z ac λa f=>Ab f Z λa f=>Aa ?_
   have⟨ai,aj,hd⟩:=bind_some hd
   refine AD (λa w=>∃q_91':Unit,ai= .inl q_91'∧∃(ak:GH),GLe ae ak∧Fr a 61 [(1,(pb ad))]∧Mem W ak w (ib ad 30 [aa]::H)) ?_ ?_
   ·refine Ak ?_
    refine AB (λal a w=>∃am:Int,am=al∧∃(an:GH),GLe ae an∧Fr a 61 [(1,(pb ad)),(3,(iv (ab.length:Int))),(20,aa),(21,(iv (ab.length:Int))),(22,(iv am))]∧Mem W an w (ib ad 30 [aa]::H)) aj ⟨_,Z,_,gr,f.k Z,m⟩ ?_
    clear aj f m
    rintro al ao ap aq a w ⟨am,rfl,an,ar,f,m⟩
    have ac:=rd2 ar ac
    refine Af ?_
    refine Ai f Z Z AT λa f=>Aa (Ah ?_)
    rcases Ae ap with⟨au,ap⟩|⟨au,ap⟩
    ·refine Al f Z au ?_
     refine Ao ?_
     refine Ah (Ak (Af ?_))
     refine Ab f Z λa f=> ?_
     have⟨av,aw,ap⟩:=bind_some ap
     refine Bq T22 f Z Z Z ac aw λax ay a az aA f=>AW m BH f Z Z az λa f=>Ac f Z λa f=>Ac f Z λa f=>Aw ?_
     refine Ab f Z λa f=>Ab f Z λa f=> ?_
     have⟨aB,aC,ap⟩:=bind_some ap
     refine Ba f Z call58 (Wk.d0 m aA aC) λaD w aE m a f=> ?_
     have aA:=rd1 aE aA
     refine l_o f (Be (f.e Z)) λa f=>Ab f Z λa f=> ?_
     have⟨aF,aG,ap⟩:=bind_some ap
     refine BF 4 (λa w=>∃aH,GLe aD aH∧Mem W aH w (ib ad 30 [aa]::H)∧Fr a 61 [(1,(pb ad)),(3,(iv (ab.length:Int))),(4,(iv am)),(5,ay),(20,aa),(21,(iv (ab.length:Int))),(22,(iv am)),(27,ay),(28,(iv (ab.length:Int))),(29,(.bool aB)),(30,(.bool (!aB))),(31,(.bool (!aB))),(35,(.bool aF))]) ?_ ?_
     ·rcases Ae aG with⟨aI,aG⟩|⟨aI,aG⟩
      ·refine AL f aI λa f=> ?_
       refine AL f aI λa f=>AL f aI λa f=>l_o f (AO (f.e Z) aI (f.e Z)) λa f=> ?_
       obtain rfl:=sj aG
       exact⟨_,gr,m,f.k Z⟩
      ·refine AG f aI ?_
       refine Ab f Z λa f=>AG f aI ?_
       refine Ab f Z λa f=>AG f aI ?_
       have⟨aJ,aK,aG⟩:=bind_some aG
       refine Ba f Z call69 (Wk.q0 m aA aK) λaL w aM m a f=>l_o f (AP (f.e Z) aI (f.e Z)) λa f=> ?_
       obtain rfl:=sj aG
       exact⟨_,aM,m,f.k Z⟩
     ·rintro a w ⟨aH,aN,m,f⟩
      refine Aa ?_
      rcases Ae ap with⟨aO,ap⟩|⟨aO,ap⟩
      ·refine Al f Z aO ?_
       refine Af ?_
       refine Ac f Z λa f=>Aa ?_
       refine Ap ?_
       have m:Mem W aH w H:=Mem.drop (H':=[ib ad 30 [aa]]) m
       obtain rfl:=sj ap
       obtain rfl:=aq _ rfl
       obtain rfl:=sj hd
       exact⟨[(.bool false)],f.g Z,f.d,_,[],(gt ag (gt ar (gt aE aN))),m,Z,Z⟩
      ·refine Aj f Z aO ?_
       refine Ao ?_
       refine Am ?_
       refine Ai f Z Z Ar λa f=>Ab f Z λa f=>Aa ?_
       obtain rfl:=sj ap
       exact⟨_,Z,_,Z,_,(gt ar (gt aE aN)),f.k Z,m⟩
    ·refine Aj f Z au ?_
     refine Ay Z ?_
     obtain rfl:=sj ap
     obtain rfl:=aq _ rfl
     exact⟨_,Z,_,ar,f.k Z,m⟩
   ·rintro a w ⟨_,rfl,ak,aP,f,m⟩
    have ac:=rd2 aP ac
    refine Ah (Af ?_)
    refine BD underlying30 Z sizeOf22 f Z λa f=>AS 0 0 m Bu f Z Z Z Z λa f=>A2 underlying22 f Z Z ac λa f=>Ab f Z λa f=>Aa ?_
    have⟨aQ,aR,hd⟩:=bind_some hd
    refine AD (λa w=>∃q_394':Unit,aQ= .inl q_394'∧∃(aS:GH),GLe ak aS∧Fr a 61 []∧Mem W aS w (H)) ?_ ?_
    ·refine Ak ?_
     refine AB (λaT a w=>∃aU:Int,aU=aT∧∃(aV:GH),GLe ak aV∧Fr a 61 [(1,(pb ad)),(38,aa),(39,(iv (ab.length:Int))),(40,(iv aU))]∧Mem W aV w (ib ad 30 [aa]::H)) aR ⟨_,Z,_,gr,f.k Z,m⟩ ?_
     clear aR f m
     rintro aT aW aX aY a w ⟨aU,rfl,aV,aZ,f,m⟩
     have ac:=rd2 aZ ac
     refine Af ?_
     refine Ai f Z Z AT λa f=>Aa (Ah ?_)
     rcases Ae aX with⟨a0,aX⟩|⟨a0,aX⟩
     ·refine Al f Z a0 ?_
      refine Ao ?_
      refine Ah (Ak (Af ?_))
      refine Ab f Z λa f=> ?_
      have⟨a1,a2,aX⟩:=bind_some aX
      refine Bq T22 f Z Z Z ac a2 λa3 a4 a a5 a6 f=>AW m BH f Z Z a5 λa f=>Ac f Z λa f=>Ac f Z λa f=>Aw ?_
      refine Ab f Z λa f=>A2 underlying39 f Z Z a6 λa f=>Ab f Z λa f=>Aa ?_
      have⟨a7,a8,aX⟩:=bind_some aX
      refine AD (λa w=>∃q_560':Unit,a7= .inl q_560'∧∃(a9:GH),GLe aV a9∧Fr a 61 [(1,(pb ad)),(38,aa),(39,(iv (ab.length:Int))),(40,(iv aU))]∧Mem W a9 w (ib ad 30 [aa]::H)) ?_ ?_
      ·refine Ak ?_
       refine AB (λba a w=>∃bb:Int,bb=ba∧∃(bc:GH),GLe aV bc∧Fr a 61 [(1,(pb ad)),(6,(iv aU)),(38,aa),(39,(iv (ab.length:Int))),(40,(iv aU)),(45,a4),(46,(iv (a1.length:Int))),(47,(iv bb))]∧Mem W bc w (ib ad 30 [aa]::H)) a8 ⟨_,Z,_,gr,f.k Z,m⟩ ?_
       clear a8 f m
       rintro ba bd be bf a w ⟨bb,rfl,bc,bg,f,m⟩
       have ac:=rd2 bg ac
       have a6:=rd1 bg a6
       refine Af ?_
       refine Ai f Z Z AT λa f=>Aa (Ah ?_)
       rcases Ae be with⟨bh,be⟩|⟨bh,be⟩
       ·refine Al f Z bh ?_
        refine Ao ?_
        refine Ah (Ak (Af ?_))
        have⟨bi,bj,be⟩:=bind_some be
        refine Bq T39 f Z Z Z a6 bj λbk bl a bm bn f=> ?_
        subst bn
        refine AW m Pl2 f Z Z bm λa f=>Ac f Z λa f=>Aw ?_
        refine BD underlying30 Z sizeOf22 f Z λa f=>AS 0 0 m Bu f Z Z Z Z λa f=>Ab f Z λa f=> ?_
        have⟨bo,bp,be⟩:=bind_some be
        refine Bq T22 f Z Z Z ac bp λbq br a bs bt f=>AW m BH f Z Z bs λa f=>Ab f Z λa f=> ?_
        have⟨bu,bv,be⟩:=bind_some be
        refine Ba f Z call69 (Wk.q0 m bt bv) λbw w bx m a f=>l_o f (Be (f.e Z)) λa f=>Aa ?_
        rcases Ae be with⟨bz,be⟩|⟨bz,be⟩
        ·refine Al f Z bz ?_
         refine Af ?_
         refine Ac f Z λa f=>Aa ?_
         refine Ap ?_
         have m:Mem W bw w H:=Mem.drop (H':=[ib ad 30 [aa]]) m
         obtain rfl:=sj be
         obtain rfl:=bf _ rfl
         obtain rfl:=sj aX
         obtain rfl:=aY _ rfl
         obtain rfl:=sj hd
         exact⟨[(.bool false)],f.g Z,f.d,_,[],(gt ag (gt aP (gt aZ (gt bg bx)))),m,Z,Z⟩
        ·refine Aj f Z bz ?_
         refine Ao ?_
         refine Am ?_
         refine Ai f Z Z Ar λa f=>Ab f Z λa f=>Aa ?_
         obtain rfl:=sj be
         exact⟨_,Z,_,Z,_,(gt bg bx),f.k Z,m⟩
       ·refine Aj f Z bh ?_
        refine Ay Z ?_
        obtain rfl:=sj be
        obtain rfl:=bf _ rfl
        exact⟨_,Z,_,bg,f.k Z,m⟩
      ·rintro a w ⟨_,rfl,a9,bA,f,m⟩
       refine Am ?_
       refine Ai f Z Z Ar λa f=>Ab f Z λa f=>Aa ?_
       obtain rfl:=sj aX
       exact⟨_,Z,_,Z,_,(gt aZ bA),f.k Z,m⟩
     ·refine Aj f Z a0 ?_
      refine Ay Z ?_
      have m:Mem W aV w H:=Mem.drop (H':=[ib ad 30 [aa]]) m
      obtain rfl:=sj aX
      obtain rfl:=aY _ rfl
      exact⟨_,Z,_,aZ,f.weak trivial,m⟩
    ·rintro a w ⟨_,rfl,aS,bB,f,m⟩
     refine Af ?_
     refine Ac f Z λa f=>Aa ?_
     refine Ap ?_
     obtain rfl:=sj hd
     exact⟨[(.bool true)],f.g Z,f.d,_,[],(gt ag (gt aP bB)),m,Z,Z⟩
theorem Wk.Q {aa ab:Value}{ac ad:LL}(m:Mem W G w (H))(ae:R2 G aa ac)(af:R2 G ab ad){y:Bool}(hd:D.Q ac ad=some y):
  Calls prog 32 #[(.agg #[aa]),(.agg #[ab])] w (Res W G H (λ_ Ho v=>Ho=[]∧v=(.bool y))):=by
 refine As (args:=[(.agg #[aa]),(.agg #[ab])]) (N:=56) [.tmp 4] func32 Z Z (lb Z) Z λa f=> ?_
 unfold D.Q at hd
 refine Af ?_
 refine Bh (cs:=[aa]) m f Z Z Z λag w a m f=>Bh (cs:=[ab]) m f Z Z Z λah w a m f=>Ac f Z λa f=>Aa (Ah (Af ?_))
 refine AU 1 0 (ds:=[aa]) m BG f Z Z Z Z Z λa f=> ?_
 have⟨ai,aj,hd⟩:=bind_some hd
 refine Ba f Z call54 (Wk.J m ae aj) λak w al m a f=> ?_
 have ae:=rd2 al ae
 have af:=rd2 al af
 refine l_o f (Be (f.e Z)) λa f=>Ab f Z λa f=> ?_
 refine BF 8 (λa w=>∃am,GLe ak am∧Mem W am w (ib ah 32 [ab]::ib ag 30 [aa]::H)∧Fr a 56 [(0,(.agg #[aa])),(1,(.agg #[ab])),(2,(pb ag)),(3,(pb ah)),(7,(.agg #[aa])),(8,(.bool ai)),(9,(.bool (!ai))),(10,(.bool (!ai))),(18,(.bool ((!ai)||((ad.length:Int) !=(ac.length:Int)))))]) ?_ ?_
 ·rcases Bool.eq_false_or_eq_true (!ai) with an|an
  ·refine AL f an λa f=> ?_
   refine AL f an λa f=>AL f an λa f=>AL f an λa f=>AL f an λa f=>AL f an λa f=>AL f an λa f=>l_o f (AO (f.e Z) an (f.e Z)) λa f=> ?_
   exact⟨_,gr,m,f.weak ⟨Z,Z,Z,Z,Z,Z,Z,Z,by rw[an];rfl,trivial⟩⟩
  ·refine AG f an ?_
   refine BD underlying32 Z sizeOf22 f Z λa f=>AG f an ?_
   refine AS 0 0 m Bu f Z Z Z Z λa f=>AG f an ?_
   refine A2 underlying22 f Z Z af λa f=>AG f an ?_
   refine BD underlying30 Z sizeOf22 f Z λa f=>AG f an ?_
   refine AS 1 0 m Bu f Z Z Z Z λa f=>AG f an ?_
   refine A2 underlying22 f Z Z ae λa f=>AG f an ?_
   refine Ai f Z Z Ck λa f=>l_o f (AP (f.e Z) an (f.e Z)) λa f=> ?_
   exact⟨_,gr,m,f.weak ⟨Z,Z,Z,Z,Z,Z,Z,Z,by rw[an];rfl,trivial⟩⟩
 ·rintro a w ⟨am,ao,m,f⟩
  have ae:=rd2 ao ae
  have af:=rd2 ao af
  refine Aa ?_
  rcases Ae hd with⟨ap,hd⟩|⟨ap,hd⟩
  ·refine Al f Z ap ?_
   refine Af ?_
   refine Ac f Z λa f=>Aa ?_
   refine Ap ?_
   have m:Mem W am w H:=Mem.drop (H':=[ib ah 32 [ab],ib ag 30 [aa]]) m
   obtain rfl:=sj hd
   exact⟨[(.bool false)],f.g Z,f.d,_,[],(gt al ao),m,Z,Z⟩
  ·refine Aj f Z ap ?_
   refine Ao ?_
   refine Ah (Af ?_)
   refine BD underlying32 Z sizeOf22 f Z λa f=>AS 0 0 m Bu f Z Z Z Z λa f=>A2 underlying22 f Z Z af λa f=>Ab f Z λa f=>Aa ?_
   have⟨aq,ar,hd⟩:=bind_some hd
   refine AD (λa w=>∃q_292':Unit,aq= .inl q_292'∧∃(au:GH),GLe am au∧Fr a 56 []∧Mem W au w (H)) ?_ ?_
   ·refine Ak ?_
    have m:=m.fr 1
    have m:=m.eraseAt 1
    refine AB (λav a w=>∃aw:Int,aw=av∧∃(ax:GH),GLe am ax∧Fr a 56 [(2,(pb ag)),(20,ab),(21,(iv (ad.length:Int))),(22,(iv aw))]∧Mem W ax w (ib ag 30 [aa]::H)) ar ⟨_,Z,_,gr,f.k Z,m⟩ ?_
    clear ar f m
    rintro av ay az aA a w ⟨aw,rfl,ax,aB,f,m⟩
    have af:=rd2 aB af
    have ae:=rd2 aB ae
    refine Af ?_
    refine Ai f Z Z AT λa f=>Aa (Ah ?_)
    rcases Ae az with⟨aC,az⟩|⟨aC,az⟩
    ·refine Al f Z aC ?_
     refine Ao ?_
     refine Ah (Ak (Af ?_))
     refine Ab f Z λa f=> ?_
     have⟨aD,aE,az⟩:=bind_some az
     refine Bq T22 f Z Z Z af aE λaF aG a aH aI f=>AW m BH f Z Z aH λa f=>Ac f Z λa f=>Ac f Z λa f=>Aa (Ah ?_)
     refine A1 28 AA (by kernel_rfl) m ?_
     refine Ag 0 28 Z f Z λa f=>q_fa 3 28 underlying30 Z sizeOf22 Z f Z λa f=>CD 4 28 0 Bu Z Z Z f Z λa f=>Ag 5 28 Z f Z λa f=> ?_
     have⟨aJ,aK,az⟩:=bind_some az
     refine BR 6 28 T22 ae aK Z f Z Z λaL aM a aN aO f=>BU 7 28 BH aN Z f Z λa f=>CC 1 Z λaP w aQ m aR aR=> ?_
     have aI:=rd1 aQ aI
     have ae:=rd2 aQ ae
     have aO:=rd1 aQ aO
     refine AM f Z call57 (Wk.q1 m aI) λaS aT aU w aV m aW a f=> ?_
     obtain⟨aX,rfl,rfl⟩:=aW
     have aI:=rd1 aV aI
     have ae:=rd2 aV ae
     have aO:=rd1 aV aO
     refine Aa ?_
     refine aR aT [ib aX 39 [aG]] _ _ aV m ?_
     refine CC 2 Z λaY w aZ m a0 a0=> ?_
     have aI:=rd1 aZ aI
     have ae:=rd2 aZ ae
     have aO:=rd1 aZ aO
     have⟨a1,a2,az⟩:=bind_some az
     refine AM f Z call56 (Wk.O0 m aI a2) λa3 a4 a5 w a6 m a7 a f=> ?_
     obtain⟨a8,a9,rfl,rfl,ba⟩:=a7
     have aI:=rd1 a6 aI
     have ae:=rd2 a6 ae
     have aO:=rd1 a6 aO
     refine Aa ?_
     refine a0 a4 [a9] _ _ a6 m ?_
     refine CC 8 Z λbb w bc m bd bd=> ?_
     have aI:=rd1 bc aI
     have ae:=rd2 bc ae
     have aO:=rd1 bc aO
     have ba:=od1 bc ba
     have⟨be,bf,az⟩:=bind_some az
     refine AM f Z call55 (Ow.lendCall (RI.mono _) 0 ba m Z (λbg bh m bi=>Wk.Q0 m bi (rd1 bh aO) bf) (λ_ _ _ _ h=>h)) λbj bk bl w bm m bn a f=> ?_
     obtain⟨rfl,rfl⟩:=bn
     have aI:=rd1 bm aI
     have ae:=rd2 bm ae
     refine Aa ?_
     refine bd bk [a9] _ _ bm m ?_
     refine q_p 9 28 Z f (λ_=>Be (f.e Z)) λa f=>Ag 10 28 Z f Z λa f=> ?_
     have⟨bo,bp,az⟩:=bind_some az
     refine Bx (fuel':=0) (listed':= #[true,true,true,true,true,true,true,true,true,true,true,true,true,true,true,true,true,true,true,true,true,true,true,true,true,true,true,true]) (λa=>Fr a 56 [(2,(pb ag)),(5,(iv aw)),(6,aG),(20,ab),(21,(iv (ad.length:Int))),(22,(iv aw)),(27,aG),(29,a8),(30,(pb ag)),(31,aa),(32,(iv aw)),(33,aL),(34,aM),(35,(.bool be)),(36,(.bool (!be))),(37,(.bool (!be))),(54,(.bool bo))]) ?_ ?_
     ·intro a f
      refine AJ λbq w br m=>Aa ?_
      rcases Ae az with⟨bs,az⟩|⟨bs,az⟩
      ·refine Al f Z bs ?_
       refine Af ?_
       refine Ac f Z λa f=>Aa ?_
       refine Ap ?_
       have m:Mem W bq w H:=Mem.drop (H':=[a9,ib ag 30 [aa]]) m
       obtain rfl:=sj az
       obtain rfl:=aA _ rfl
       obtain rfl:=sj hd
       exact⟨[(.bool false)],f.g Z,f.d,_,[],(gt al (gt ao (gt aB (gt aQ (gt aV (gt aZ (gt a6 (gt bc (gt bm br))))))))),m,Z,Z⟩
      ·refine Aj f Z bs ?_
       refine Ao ?_
       refine Am ?_
       refine Ai f Z Z Ar λa f=>Ab f Z λa f=>Aa ?_
       have m:=m.fr 1
       have m:=m.eraseAt 1
       obtain rfl:=sj az
       exact⟨_,Z,_,Z,_,(gt aB (gt aQ (gt aV (gt aZ (gt a6 (gt bc (gt bm br))))))),f.k Z,m⟩
     ·intro bt
      rcases Ae bp with⟨bu,bp⟩|⟨bu,bp⟩
      ·refine An 11 28 Z f bu λa f=> ?_
       refine An 12 28 Z f bu λa f=>An 13 28 Z f bu λa f=>An 14 28 Z f bu λa f=>BE 15 28 Z f λa f=>BE 16 28 Z f λa f=>BE 17 28 Z f λa f=>BE 18 28 Z f λa f=>BE 19 28 Z f λa f=>BE 20 28 Z f λa f=>BE 21 28 Z f λa f=>BE 22 28 Z f λa f=>BE 23 28 Z f λa f=>BE 24 28 Z f λa f=>BE 25 28 Z f λa f=>An 26 28 Z f bu λa f=>q_p 27 28 Z f (λ_=>AO (f.e Z) bu (f.e Z)) λa f=> ?_
       obtain rfl:=sj bp
       exact bt _ (f.k Z)
      ·refine Ag (hw:=wo f bu) 11 28 Z f Z λa f=> ?_
       refine q_len (i:=12) 28 underlying39 aI Z (by kernel_rfl) Z f (AZ f Z Z Z bu) Z Z λa f=>q_p (hw:=wo f bu) 13 28 Z f (λ_=>AE (f.e Z) (f.e Z) BV) λa f=>Ag (hw:=wo f bu) 14 28 Z f Z λa f=> ?_
       have⟨bv,bw,bp⟩:=bind_some bp
       refine Bx (fuel':=1) (listed':= #[true,true,true,true,true,true,true,true,true,true,true,true,true,true,true,true,true,true,true,true,true,true,true,true,true,true,true,false]) (λa=>Fr a 56 [(2,(pb ag)),(5,(iv aw)),(6,aG),(20,ab),(21,(iv (ad.length:Int))),(22,(iv aw)),(27,aG),(29,a8),(30,(pb ag)),(31,aa),(32,(iv aw)),(33,aL),(34,aM),(35,(.bool be)),(36,(.bool (!be))),(37,(.bool (!be))),(38,aG),(39,(iv (aD.length:Int))),(40,(.bool (decide ((0:Int)<(aD.length:Int))))),(41,(.bool (decide ((0:Int)<(aD.length:Int))))),(53,(.bool bv))]) ?_ ?_
       ·intro a f
        refine q_p 27 28 Z f (λ_=>AP (f.e Z) bu (f.e Z)) λa f=> ?_
        obtain rfl:=sj bp
        exact bt _ (f.k Z)
       ·intro bx
        rcases Ae bw with⟨bz,bw⟩|⟨bz,bw⟩
        ·refine Ag (hw:=wo f bz) 15 28 Z f Z λa f=> ?_
         have⟨bA,bB,bw⟩:=bind_some bw
         refine BR (hw:=wo f bz) 16 28 T39 aI bB Z f Z Z λbC bD a bE bF f=> ?_
         subst bF
         refine BU (hw:=wo f bz) 17 28 Pl2 bE Z f Z λa f=>q_fa (hw:=wo f bz) 18 28 underlying30 Z sizeOf22 Z f Z λa f=>CD (hw:=wo f bz) 19 28 0 Bu Z Z Z f Z λa f=>Ag (hw:=wo f bz) 20 28 Z f Z λa f=> ?_
         have⟨bG,bH,bw⟩:=bind_some bw
         refine BR (hw:=wo f bz) 21 28 T22 ae bH Z f Z Z λbI bJ a bK bL f=>BU (hw:=wo f bz) 22 28 BH bK Z f Z λa f=> ?_
         have⟨bM,bN,bw⟩:=bind_some bw
         refine BR (hw:=wo f bz) 23 28 T39 bL bN Z f Z Z λbO bP a bQ bR f=> ?_
         subst bR
         refine BU (hw:=wo f bz) 24 28 Pl2 bQ Z f Z λa f=>q_p (hw:=wo f bz) 25 28 Z f (λ_=>AE (f.e Z) (f.e Z) Ck) λa f=>q_p (hw:=wo f bu) 26 28 Z f (λ_=>AO (f.e Z) bz (f.e Z)) λa f=> ?_
         obtain rfl:=sj bw
         exact bx _ (f.k Z)
        ·refine An 15 28 Z f bz λa f=> ?_
         refine An 16 28 Z f bz λa f=>An 17 28 Z f bz λa f=>An 18 28 Z f bz λa f=>An 19 28 Z f bz λa f=>An 20 28 Z f bz λa f=>An 21 28 Z f bz λa f=>An 22 28 Z f bz λa f=>An 23 28 Z f bz λa f=>An 24 28 Z f bz λa f=>An 25 28 Z f bz λa f=>q_p (hw:=wo f bu) 26 28 Z f (λ_=>AP (f.e Z) bz (f.e Z)) λa f=> ?_
         obtain rfl:=sj bw
         exact bx _ (f.k Z)
    ·refine Aj f Z aC ?_
     refine Ay Z ?_
     have m:Mem W ax w H:=Mem.drop (H':=[ib ag 30 [aa]]) m
     obtain rfl:=sj az
     obtain rfl:=aA _ rfl
     exact⟨_,Z,_,aB,f.weak trivial,m⟩
   ·rintro a w ⟨_,rfl,au,bS,f,m⟩
    refine Af ?_
    refine Ac f Z λa f=>Aa ?_
    refine Ap ?_
    obtain rfl:=sj hd
    exact⟨[(.bool true)],f.g Z,f.d,_,[],(gt al (gt ao bS)),m,Z,Z⟩
theorem Wk.V0 {v0:Value}{x0:LI}(m:Mem W G w (H))(h0:R1 G v0 x0){y:(LI)}(hd:D.V0 x0=some y):
  Calls prog 62 #[v0] w (Res W G H (λG' Ho v=>∃r0:Value,∃i0:Itm,Ho=[i0]∧r0=v∧Ow R0 3 G' i0 r0 y)):=by
 refine As (args:=[v0]) (N:=21) [.tmp 2] func62 Z Z (lb Z) Z λa f=> ?_
 unfold D.V0 at hd
 refine Af ?_
 refine Ac f Z λa f=>Aw ?_
 refine Ab f Z λa f=>A2 underlying39 f Z Z h0 λa f=> ?_
 have⟨aa,ab,hd⟩:=bind_some hd
 refine l_make (R:=R0) m T63 Z (by decide) Z f Z Z Z ab λac ad w a m ae f=>Ac f Z λa f=>Aa (Ah (Af ?_))
 refine Ab f Z λa f=>A2 underlying39 f Z Z h0 λa f=>Ab f Z λa f=>Aa ?_
 have⟨af,ag,hd⟩:=bind_some hd
 refine AD (λa w=>∃ah:LI,ah=af∧∃(ai:GH) (aj:Value) (ak:Itm),GLe G ai∧Fr a 21 [(3,aj)]∧Mem W ai w (ak::H)∧Ow R0 3 ai ak aj ah) ?_ ?_
 ·refine Ak ?_
  refine AB (λal a w=>∃am:LI,∃an:Int,(am,an)=al∧∃(ao:GH) (ap:Value) (aq:Itm),GLe G ao∧Fr a 21 [(3,ap),(9,v0),(10,(iv (x0.length:Int))),(11,(iv an))]∧Mem W ao w (aq::H)∧Ow R0 3 ao aq ap am) ag ⟨_,_,Z,_,ad,ac,gr,f.k Z,m,ae⟩ ?_
  clear ag f m
  rintro al ar au av a w ⟨am,an,rfl,ao,ap,aq,aw,f,m,ax⟩
  have h0:=rd1 aw h0
  refine Af ?_
  refine Ai f Z Z AT λa f=>Aa (Ah ?_)
  rcases Ae au with⟨ay,au⟩|⟨ay,au⟩
  ·refine Al f Z ay ?_
   refine Ao ?_
   refine Ah (Ak (Af ?_))
   have⟨az,aA,au⟩:=bind_some au
   refine Bq T39 f Z Z Z h0 aA λaB aC a aD aE f=> ?_
   subst aE
   refine AW m Pl2 f Z Z aD λa f=>Ac f Z λa f=>Aa (Am ?_)
   refine Ab f Z λa f=>Ab f Z λa f=>Bl (R:=R0) (xs:=([az]:LI)) (RI.one _) m T63 f Z Z Z (by decide) (All2.cons Z (All2.nil _)) λaF aG w a m aH f=> ?_
   have⟨aI,aJ,au⟩:=bind_some au
   refine BJ (RI.one _) 1 m ax Z T63 Z (by decide) f Z Z Z (Ow.src (j:=0) aH m Z) aJ λaK aL w a m aM f=>Ac f Z λa f=>Aa (Am ?_)
   refine Ai f Z Z Ar λa f=>Ab f Z λa f=>Aa ?_
   have m:=m.fr 1
   have m:=m.eraseAt 1
   obtain rfl:=sj au
   exact⟨_,Z,_,_,Z,_,aL,aK,aw,f.k Z,m,aM⟩
  ·refine Aj f Z ay ?_
   refine Ay Z ?_
   obtain rfl:=sj au
   obtain rfl:=av _ rfl
   exact⟨_,Z,_,ap,aq,aw,f.k Z,m,ax⟩
 ·rintro a w ⟨ah,rfl,ai,aj,ak,aN,f,m,aO⟩
  refine Af ?_
  refine Ab f Z λa f=>Ac f Z λa f=>Aa ?_
  refine Ap ?_
  obtain rfl:=sj hd
  exact⟨[aj],f.g Z,f.d,_,[ak],aN,m,_,_,Z,Z,aO⟩
theorem Wk.P {aa:Value}{ab:LL}(m:Mem W G w (H))(ac:R2 G aa ab){y:(LL)}(hd:D.P ab=some y):
  Calls prog 49 #[(.agg #[aa])] w (Res W G H (λG' Ho v=>∃r0:Value,∃i0:Itm,Ho=[i0]∧r0=v∧Ow R1 63 G' i0 r0 y)):=by
 refine As (args:=[(.agg #[aa])]) (N:=21) [.tmp 2] func49 Z Z (lb Z) Z λa f=> ?_
 unfold D.P at hd
 refine Af ?_
 refine Bh (cs:=[aa]) m f Z Z Z λad w a m f=>Ac f Z λa f=>Aw ?_
 refine Bl (R:=R1) (xs:=([]:LL)) (RSl.one _) m T76 f Z Z Z (by decide) (All2.nil _) λae af w a m ag f=>Ac f Z λa f=>Aa (Ah (Af ?_))
 refine BD underlying32 Z sizeOf22 f Z λa f=>AS 1 0 m Bu f Z Z Z Z λa f=>A2 underlying22 f Z Z ac λa f=>Ab f Z λa f=>Aa ?_
 have⟨ah,ai,hd⟩:=bind_some hd
 refine AD (λa w=>∃aj:LL,aj=ah∧∃(ak:GH) (al:Value) (am:Itm),GLe G ak∧Fr a 21 [(3,al)]∧Mem W ak w (am::H)∧Ow R1 63 ak am al aj) ?_ ?_
 ·refine Ak ?_
  have m:=m.eraseAt 1
  refine AB (λan a w=>∃ao:LL,∃ap:Int,(ao,ap)=an∧∃(aq:GH) (ar:Value) (au:Itm),GLe G aq∧Fr a 21 [(3,ar),(8,aa),(9,(iv (ab.length:Int))),(10,(iv ap))]∧Mem W aq w (au::H)∧Ow R1 63 aq au ar ao) ai ⟨_,_,Z,_,af,ae,gr,f.k Z,m,ag⟩ ?_
  clear ai f m
  rintro an av aw ax a w ⟨ao,ap,rfl,aq,ar,au,ay,f,m,az⟩
  have ac:=rd2 ay ac
  refine Af ?_
  refine Ai f Z Z AT λa f=>Aa (Ah ?_)
  rcases Ae aw with⟨aA,aw⟩|⟨aA,aw⟩
  ·refine Al f Z aA ?_
   refine Ao ?_
   refine Ah (Ak (Af ?_))
   have⟨aB,aC,aw⟩:=bind_some aw
   refine Bq T22 f Z Z Z ac aC λaD aE a aF aG f=>AW m BH f Z Z aF λa f=>Ac f Z λa f=>Aa (Am ?_)
   refine Ab f Z λa f=>Ab f Z λa f=> ?_
   have⟨aH,aI,aw⟩:=bind_some aw
   refine AM f Z call62 (Wk.V0 m aG aI) λaJ aK aL w aM m aN a f=> ?_
   obtain⟨aO,aP,rfl,rfl,aQ⟩:=aN
   have az:=Ow.mono (RSl.mono (RI.mono _)) aM az
   obtain⟨aR,aS,m,aT⟩:=Ow.stamp (RI.mono _) aQ m
   have az:=Ow.mono (RSl.mono (RI.mono _)) aS az
   refine Bl (R:=R1) (xs:=([aH]:LL)) (RSl.one _) m T76 f Z Z Z (by decide) (All2.cons aT (All2.nil _)) λaU aV w a m aW f=> ?_
   have⟨aX,aY,aw⟩:=bind_some aw
   refine BJ (RSl.one _) 1 m az Z T76 Z (by decide) f Z Z Z (Ow.src (j:=0) aW m Z) aY λaZ a0 w a m a1 f=>Ac f Z λa f=>Aa (Am ?_)
   refine Ai f Z Z Ar λa f=>Ab f Z λa f=>Aa ?_
   have m:=m.fr 1
   have m:=m.eraseAt 1
   obtain rfl:=sj aw
   exact⟨_,Z,_,_,Z,_,a0,aZ,(gt ay (gt aM aS)),f.k Z,m,a1⟩
  ·refine Aj f Z aA ?_
   refine Ay Z ?_
   obtain rfl:=sj aw
   obtain rfl:=ax _ rfl
   exact⟨_,Z,_,ar,au,ay,f.k Z,m,az⟩
 ·rintro a w ⟨aj,rfl,ak,al,am,a2,f,m,a3⟩
  refine Af ?_
  refine Ab f Z λa f=>Ac f Z λa f=>Aa ?_
  refine Ap ?_
  obtain rfl:=sj hd
  exact⟨[al],f.g Z,f.d,_,[am],a2,m,_,_,Z,Z,a3⟩
theorem Wk.v0 {v0:Value}{x0:LL}{x1 x2:Int}(m:Mem W G w (H))(h0:R2 G v0 x0){y:Int}(hd:D.v0 x0 x1 x2=some y):
  Calls prog 65 #[v0,(iv x1),(iv x2)] w (Res W G H (λ_ Ho v=>Ho=[]∧v=(iv y))):=by
 refine As (args:=[v0,(iv x1),(iv x2)]) (N:=28) [.tmp 6] func65 Z Z (lb Z) Z λa f=> ?_
 unfold D.v0 at hd
 refine Af ?_
 refine Ac f Z λa f=>Aw ?_
 refine Ab f Z λa f=>Ab f Z λa f=> ?_
 have⟨aa,ab,hd⟩:=bind_some hd
 refine Bq T76 f Z Z Z h0 ab λac ad a ae af f=>AW m Pl63 f Z Z ae λa f=>Ab f Z λa f=> ?_
 have⟨ag,ah,hd⟩:=bind_some hd
 refine Ba f Z call78 (Wk.S0 m af ah) λai w aj m a f=> ?_
 have h0:=rd2 aj h0
 refine Ac f Z λa f=>Aa (Ah ?_)
 refine A1 15 AA (by kernel_rfl) m ?_
 refine Ag 0 15 Z f Z λa f=>Ag 1 15 Z f Z λa f=> ?_
 have⟨ak,al,hd⟩:=bind_some hd
 refine BR 2 15 T76 h0 al Z f Z Z λam an a ao ap f=>BU 3 15 Pl63 ao Z f Z λa f=>Ag 4 15 Z f Z λa f=>q_p 5 15 Z f (λ_=>AE (f.e Z) (f.e Z) Ar) λa f=>Ag 6 15 Z f Z λa f=>Ag 7 15 Z f Z λa f=> ?_
 have⟨aq,ar,hd⟩:=bind_some hd
 refine BR 8 15 T76 h0 ar Z f Z Z λau av a aw ax f=>BU 9 15 Pl63 aw Z f Z λa f=>q_len (i:=10) 15 underlying63 ax Z (by kernel_rfl) Z f Z Z Z λa f=> ?_
 obtain⟨ay,hd⟩:=BY hd
 refine q_p 11 15 Z f (λ_=>AE (f.e Z) (f.e Z) (b_rem ay)) λa f=> ?_
 have⟨az,aA,hd⟩:=bind_some hd
 refine BR 12 15 T63 ap aA Z f Z Z λaB aC a aD aE f=> ?_
 subst aE
 refine BU 13 15 Pl3 aD Z f Z λa f=>q_p 14 15 Z f (λ_=>Ct (f.e Z)) λa f=>AJ λaF w aG m=>Aa ?_
 refine Ap ?_
 obtain rfl:=sj hd
 exact⟨[(iv az)],f.g Z,f.d,_,[],(gt aj aG),m,Z,Z⟩
theorem Wk.l0 {v0:Value}{x0:LL}(m:Mem W G w (H))(h0:R2 G v0 x0){y:(LL)×((List ((Int×Int)×Int)))}(hd:D.l0 x0=some y):
  Calls prog 50 #[v0] w (Res W G H (λG' Ho v=>∃r0:Value,∃i0:Itm,∃r2:Value,∃i2:Itm,Ho=[i0,i2]∧v= .tuple #[r0,r2]∧Ow R1 63 G' i0 r0 y.1∧OwMq G' i2 r2 y.2)):=by
 refine As (args:=[v0]) (N:=80) [.tmp 2,.tmp 3] func50 Z Z (lb Z) Z λa f=> ?_
 unfold D.l0 at hd
 refine Af ?_
 refine Ac f Z λa f=>Ac f Z λa f=>Aw ?_
 refine Bl (R:=R1) (xs:=([]:LL)) (RSl.one _) m T73 f Z Z Z (by decide) (All2.nil _) λaa ab w a m ac f=>l_makeMq m f Z λad ae w a m af f=>Ac f Z λa f=>Ac f Z λa f=>Aa (Ah (Af ?_))
 refine Ab f Z λa f=>A2 underlying76 f Z Z h0 λa f=>Ab f Z λa f=>Aa ?_
 have⟨ag,ah,hd⟩:=bind_some hd
 refine AD (λa w=>∃ai:LL,∃aj:List ((Int×Int)×Int),(ai,aj)=ag∧∃(ak:GH) (al:Value) (am:Itm) (an:Itm),GLe G ak∧Fr a 80 [(4,al),(5,ae)]∧Mem W ak w (am::an::H)∧Ow R1 63 ak am al ai∧OwMq ak an ae aj) ?_ ?_
 ·refine Ak ?_
  have m:=m.fr 1
  refine AB (λao a w=>∃ap:LL,∃aq:List ((Int×Int)×Int),∃ar:Int,(ap,aq,ar)=ao∧∃(au:GH) (av:Value) (aw:Itm) (ax:Itm),GLe G au∧Fr a 80 [(0,v0),(4,av),(5,ae),(18,v0),(19,(iv (x0.length:Int))),(20,(iv ar))]∧Mem W au w (aw::ax::H)∧Ow R1 63 au aw av ap∧OwMq au ax ae aq) ah ⟨_,_,_,Z,_,ab,aa,ad,gr,f.k Z,m,ac,af⟩ ?_
  clear ah f m
  rintro ao ay az aA a w ⟨ap,aq,ar,rfl,au,av,aw,ax,aB,f,m,aC,aD⟩
  have h0:=rd2 aB h0
  refine Af ?_
  refine Ai f Z Z AT λa f=>Aa (Ah ?_)
  rcases Ae az with⟨aE,az⟩|⟨aE,az⟩
  ·refine Al f Z aE ?_
   refine Ao ?_
   refine Ah (Ak (Af ?_))
   refine Ab f Z λa f=> ?_
   have⟨aF,aG,az⟩:=bind_some az
   refine Bq T76 f Z Z Z h0 aG λaH aI a aJ aK f=>AW m Pl63 f Z Z aJ λa f=>Ac f Z λa f=>Ac f Z λa f=>Aw ?_
   refine Ab f Z λa f=>AM f Z call64 (Wk.r1 m aK) λaL aM aN w aO m aP a f=> ?_
   obtain⟨aQ,rfl,rfl⟩:=aP
   have h0:=rd2 aO h0
   have aK:=rd1 aO aK
   have aC:=Ow.mono (RSl.mono (RI.mono _)) aO aC
   have aD:=OwMq.mono trivial aO aD
   have⟨aR,aS,az⟩:=bind_some az
   refine AM f Z call63 (Wk.s m aK aS) λaT aU aV w aW m aX a f=> ?_
   obtain⟨aY,aZ,rfl,rfl,a0⟩:=aX
   have h0:=rd2 aW h0
   have aC:=Ow.mono (RSl.mono (RI.mono _)) aW aC
   have aD:=OwMq.mono trivial aW aD
   refine BT 0 m a0 Z underlying63 f Z Z λa f=>Ab f Z λa f=>Aa ?_
   have⟨a1,a2,az⟩:=bind_some az
   refine AD (λa w=>∃a3:LL,∃a4:List ((Int×Int)×Int),(a3,a4)=a1∧∃(a5:GH) (a6:Value) (a7:Itm) (a8:Itm),GLe aU a5∧Fr a 80 [(0,v0),(4,a6),(5,ae),(18,v0),(19,(iv (x0.length:Int))),(20,(iv ar))]∧Mem W a5 w (a7::a8::H)∧Ow R1 63 a5 a7 a6 a3∧OwMq a5 a8 ae a4) ?_ ?_
   ·refine Ak ?_
    have m:=m.fr 2
    have m:=m.fr 2
    refine AB (λa9 a w=>∃ba:LL,∃bb:List ((Int×Int)×Int),∃bc:Int,(ba,bb,bc)=a9∧∃(bd:GH) (be:Value) (bf:Itm) (bg:Itm),GLe aU bd∧Fr a 80 [(0,v0),(4,be),(5,ae),(6,(iv ar)),(18,v0),(19,(iv (x0.length:Int))),(20,(iv ar)),(27,aY),(28,(iv (aR.length:Int))),(29,(iv bc))]∧Mem W bd w (bf::bg::aZ::H)∧Ow R1 63 bd bf be ba∧OwMq bd bg ae bb) a2 ⟨_,_,_,Z,_,av,aw,ax,gr,f.k Z,m,aC,aD⟩ ?_
    clear a2 f m
    rintro a9 bh bi bj a w ⟨ba,bb,bc,rfl,bd,be,bf,bg,bk,f,m,bl,bm⟩
    have h0:=rd2 bk h0
    have a0:=od1 bk a0
    refine Af ?_
    refine Ai f Z Z AT λa f=>Aa (Ah ?_)
    rcases Ae bi with⟨bn,bi⟩|⟨bn,bi⟩
    ·refine Al f Z bn ?_
     refine Ao ?_
     refine Ah (Ak (Af ?_))
     have⟨bo,bp,bi⟩:=bind_some bi
     refine AV 2 m a0 Z T63 f Z Z Z bp λbq a br f=>Cw 2 m a0 Z Pl3 f Z Z br bp λbs a bt f=> ?_
     subst bt
     refine Ac f Z λa f=>Aa (Ah (Af ?_))
     refine Ab f Z λa f=>Ab f Z λa f=>Ab f Z λa f=> ?_
     have bu:∀w,(Instr.build 94 #[(0,(iv ar)),(1,(iv bo))]).run prog w= .ok (.agg #[(iv ar),(iv bo)]) w:=by intro w;simp[Instr.build,Instr.fill,Eb,DV,Di,DH,C4,D7]
     refine l_build f Z Z bu λa f=>l_lookMq Mk94 (i:=(ar,bo)) 1 m bm Z underlying74 zeroValue3 f Z Z Z λa f=>Ab f Z λa f=>l_o f (A6 (f.e Z) Z) λa f=>l_o f (A6 (f.e Z) Z) λa f=>Ac f Z λa f=>Ac f Z λa f=>Aw ?_
     refine Ab f Z λa f=>Aa ?_
     rcases Ae bi with⟨bv,bi⟩|⟨bv,bi⟩
     ·refine Al f Z bv ?_
      refine Ay Z ?_
      refine Am ?_
      refine Ai f Z Z Ar λa f=>Ab f Z λa f=>Aa ?_
      obtain rfl:=sj bi
      exact⟨_,Z,_,_,_,Z,_,be,bf,bg,bk,f.k Z,m,bl,bm⟩
     ·refine Aj f Z bv ?_
      refine Ao ?_
      refine Af ?_
      refine Bl (R:=R0) (xs:=([]:LI)) (RI.one _) m T63 f Z Z Z (by decide) (All2.nil _) λbw bx w a m bz f=>Ac f Z λa f=>Aa (Ah (Af ?_))
      refine Ab f Z λa f=>Ab f Z λa f=> ?_
      have bA:∀w,(Instr.build 94 #[(0,(iv ar)),(1,(iv bo))]).run prog w= .ok (.agg #[(iv ar),(iv bo)]) w:=by intro w;simp[Instr.build,Instr.fill,Eb,DV,Di,DH,C4,D7]
      refine l_build f Z Z bA λa f=>B9 (cs:=[(iv 0),(iv 0)]) zeroValue94 m f Z Z λbB w a m f=>Bk 0 0 (ds:=[(iv ar),(iv bo)]) m sizeOf94 f Z Z Z (Bi Z (Bi Z BA)) Z (lb Z) Z λw m=>Aa ?_
      have⟨bC,bD,bi⟩:=bind_some bi
      refine AD (λa w=>∃bE:List ((Int×Int)×Int),∃bF:LI,(bE,bF)=bC∧∃(bG:GH) (bH:Itm) (bI:Value) (bJ:Itm),GLe bd bG∧Fr a 80 [(0,v0),(4,be),(5,ae),(6,(iv ar)),(12,bI),(18,v0),(19,(iv (x0.length:Int))),(20,(iv ar)),(27,aY),(28,(iv (aR.length:Int))),(29,(iv bc))]∧Mem W bG w (bf::bH::bJ::aZ::H)∧OwMq bG bH ae bE∧Ow R0 3 bG bJ bI bF) ?_ ?_
      ·refine Ak ?_
       have m:=m.fr 1
       have m:=m.fr 3
       have m:Mem W bd w (bf::bg::bw::ib bB 94 [(iv ar),(iv bo)]::aZ::H):=m.fr 3
       refine AB (λbK a w=>∃bL:List ((Int×Int)×Int),∃bM:LI,∃bN:Int,∃bO:Int,(bL,bM,bN,bO)=bK∧∃(bP:GH) (bQ:Itm) (bR:Value) (bS:Itm) (bT:Nat),GLe bd bP∧Fr a 80 [(0,v0),(4,be),(5,ae),(6,(iv ar)),(12,bR),(13,(pb bT)),(18,v0),(19,(iv (x0.length:Int))),(20,(iv ar)),(27,aY),(28,(iv (aR.length:Int))),(29,(iv bc))]∧Mem W bP w (bf::bQ::bS::ib bT 94 [(iv bN),(iv bO)]::aZ::H)∧OwMq bP bQ ae bL∧Ow R0 3 bP bS bR bM) bD ⟨_,_,_,_,Z,_,bg,bx,bw,bB,gr,f.k Z,m,bm,bz⟩ ?_
       clear bD f m
       rintro bK bU bV bW a w ⟨bL,bM,bN,bO,rfl,bP,bQ,bR,bS,bT,bX,f,m,bY,bZ⟩
       have h0:=rd2 bX h0
       have bl:=Ow.mono (RSl.mono (RI.mono _)) bX bl
       refine Ah (Ak (Ah (Af ?_)))
       refine Ab f Z λa f=>AU 3 0 (ds:=[(iv bN),(iv bO)]) m Ag94 f Z Z Z Z Z λa f=>l_lookMq Mk94 (i:=(bN,bO)) 1 m bY Z underlying74 zeroValue3 f Z Z Z λa f=>Ab f Z λa f=>l_o f (A6 (f.e Z) Z) λa f=>l_o f (A6 (f.e Z) Z) λa f=>Ac f Z λa f=>Ac f Z λa f=>Aw ?_
       refine Ab f Z λa f=>Aa ?_
       rcases Ae bV with⟨b0,bV⟩|⟨b0,bV⟩
       ·refine Al f Z b0 ?_
        refine Ay Z ?_
        have m:=m.fr 4
        have m:=m.fr 3
        have m:Mem W bP w (bQ::bS::aZ::bf::ib bT 94 [(iv bN),(iv bO)]::H):=m.fr 3
        have m:=m.fr 3
        have m:=m.eraseAt 4
        obtain rfl:=sj bV
        obtain rfl:=bW _ rfl
        exact⟨_,_,Z,_,bQ,bR,bS,bX,f.k Z,m,bY,bZ⟩
       ·refine Aj f Z b0 ?_
        refine Ao ?_
        refine Af ?_
        refine Ab f Z λa f=>AU 3 0 (ds:=[(iv bN),(iv bO)]) m Ag94 f Z Z Z Z Z λa f=>Ab f Z λa f=>BT 0 m bl Z underlying73 f Z Z λa f=> ?_
        have⟨b1,b2,bV⟩:=bind_some bV
        refine l_putMq Mk94 (i:=(bN,bO)) 1 m bY Z underlying74 f Z Z Z b2 λb3 w m b4=>Aa (Am ?_)
        refine Ab f Z λa f=>BD underlying94 Z sizeOf3 f Z λa f=>AS 3 0 m Pl3 f Z Z Z Z λa f=>Bl (R:=R0) (xs:=([bN]:LI)) (RI.one _) m T63 f Z Z Z (by decide) (All2.cons Z (All2.nil _)) λb5 b6 w a m b7 f=> ?_
        have⟨b8,b9,bV⟩:=bind_some bV
        refine BJ (RI.one _) 3 m bZ Z T63 Z (by decide) f Z Z Z (Ow.src (j:=0) b7 m Z) b9 λca cb w a m cc f=>Ac f Z λa f=>Aa (Ah (Af ?_))
        refine AU 4 0 (ds:=[(iv bN),(iv bO)]) m Ag94 f Z Z Z Z Z λa f=>Aa (Am ?_)
        refine B9 (cs:=[(iv 0),(iv 0)]) zeroValue94 m f Z Z λcd w a m f=>Bk 0 0 (ds:=[(iv bN),(iv bO)]) m sizeOf94 f Z Z Z (Bi Z (Bi Z BA)) Z (lb Z) Z λw m=>Aa ?_
        refine A1 8 AA (by kernel_rfl) m ?_
        refine q_fa 0 8 underlying94 Z sizeOf3 Z f Z λa f=>CD 1 8 0 Pl3 Z Z Z f Z λa f=>Ag 2 8 Z f Z λa f=>q_fa 3 8 underlying94 Z sizeOf3 Z f Z λa f=>CD 4 8 0 Pl3 Z Z Z f Z λa f=>q_fa 5 8 underlying94 Z sizeOf3 Z f Z λa f=>CD 6 8 0 Pl3 Z Z Z f Z λa f=> ?_
        have⟨ce,cf,bV⟩:=bind_some bV
        refine Bb (i:=7) 8 Z (by kernel_rfl) Z f Z Z Z call65 (λ_ _ w cg m=>Wk.v0 m (rd2 cg h0) cf) λa f=>AJ λch w ci m=> ?_
        have b4:=OwMq.mono trivial ci b4
        have cc:=od1 ci cc
        have cj:∀w,(Instr.build 94 #[(0,(iv bO)),(1,(iv ce))]).run prog w= .ok (.agg #[(iv bO),(iv ce)]) w:=by intro w;simp[Instr.build,Instr.fill,Eb,DV,Di,DH,C4,D7]
        refine l_build f Z Z cj λa f=>Bk 0 0 (ds:=[(iv bO),(iv ce)]) m sizeOf94 f Z Z Z (Bi Z (Bi Z BA)) Z (lb Z) Z λw m=>Aa ?_
        have m:=m.fr 6
        have m:=m.fr 1
        have m:Mem W ch w (ca::ib cd 94 [(iv bO),(iv ce)]::aZ::b5::bf::b3::ib bT 94 [(iv bN),(iv bO)]::H):=m.fr 5
        have m:=m.fr 5
        have m:=m.fr 5
        have m:Mem W ch w (bf::b3::ca::ib cd 94 [(iv bO),(iv ce)]::aZ::b5::H):=m.eraseAt 6
        have m:Mem W ch w (bf::b3::ca::ib cd 94 [(iv bO),(iv ce)]::aZ::H):=m.eraseAt 5
        obtain rfl:=sj bV
        exact⟨_,Z,_,_,_,_,Z,_,b3,cb,ca,cd,(gt bX ci),f.k Z,m,b4,cc⟩
      ·rintro a w ⟨bE,bF,rfl,bG,bH,bI,bJ,ck,f,m,cl,cm⟩
       have bl:=Ow.mono (RSl.mono (RI.mono _)) ck bl
       refine Am ?_
       refine Ab f Z λa f=>Ab f Z λa f=> ?_
       have m:=m.fr 2
       obtain⟨cn,co,m,cp⟩:=Ow.stamp (RI.mono _) cm m
       have bl:=Ow.mono (RSl.mono (RI.mono _)) co bl
       have cl:=OwMq.mono trivial co cl
       refine Bl (R:=R1) (xs:=([bF]:LL)) (RSl.one _) m T73 f Z Z Z (by decide) (All2.cons cp (All2.nil _)) λcq cr w a m ct f=> ?_
       have⟨cu,cv,bi⟩:=bind_some bi
       refine BJ (RSl.one _) 1 m bl Z T73 Z (by decide) f Z Z Z (Ow.src (j:=0) ct m Z) cv λcw cx w a m cy f=>Ac f Z λa f=>Aa (Am ?_)
       refine Ai f Z Z Ar λa f=>Ab f Z λa f=>Aa ?_
       have m:=m.fr 3
       have m:=m.fr 3
       have m:Mem W cn w (cw::bH::aZ::cq::H):=m.fr 3
       have m:=m.eraseAt 3
       obtain rfl:=sj bi
       exact⟨_,Z,_,_,_,Z,_,cx,cw,bH,(gt bk (gt ck co)),f.k Z,m,cy,cl⟩
    ·refine Aj f Z bn ?_
     refine Ay Z ?_
     have m:=m.eraseAt 2
     obtain rfl:=sj bi
     obtain rfl:=bj _ rfl
     exact⟨_,_,Z,_,be,bf,bg,bk,f.k Z,m,bl,bm⟩
   ·rintro a w ⟨a3,a4,rfl,a5,a6,a7,a8,cz,f,m,cA,cB⟩
    refine Am ?_
    refine Ai f Z Z Ar λa f=>Ab f Z λa f=>Aa ?_
    obtain rfl:=sj az
    exact⟨_,Z,_,_,_,Z,_,a6,a7,a8,(gt aB (gt aO (gt aW cz))),f.k Z,m,cA,cB⟩
  ·refine Aj f Z aE ?_
   refine Ay Z ?_
   obtain rfl:=sj az
   obtain rfl:=aA _ rfl
   exact⟨_,_,Z,_,av,aw,ax,aB,f.k Z,m,aC,aD⟩
 ·rintro a w ⟨ai,aj,rfl,ak,al,am,an,cC,f,m,cD,cE⟩
  refine Af ?_
  refine Ab f Z λa f=>Ab f Z λa f=>Ac f Z λa f=>Ac f Z λa f=>Aa ?_
  refine Ap ?_
  obtain rfl:=sj hd
  exact⟨[al,ae],⟨f.get _ _ Z,f.get _ _ Z,trivial⟩,f.d,_,[am,an],cC,m,_,_,_,_,Z,Z,cD,cE⟩
theorem Wk.T0 {aa:Value}{ab:LL}(m:Mem W G w (H))(ac:R2 G aa ab){y:(LL)}(hd:D.T0 ab=some y):
  Calls prog 79 #[(.agg #[aa])] w (Res W G H (λG' Ho v=>∃r0:Value,∃i0:Itm,Ho=[i0]∧r0=v∧Ow R1 39 G' i0 r0 y)):=by
 refine As (args:=[(.agg #[aa])]) (N:=35) [.tmp 2] func79 Z Z (lb Z) Z λa f=> ?_
 unfold D.T0 at hd
 refine Af ?_
 refine Bh (cs:=[aa]) m f Z Z Z λad w a m f=>Ac f Z λa f=>Aw ?_
 refine Bl (R:=R1) (xs:=([]:LL)) (RSl.one _) m T22 f Z Z Z (by decide) (All2.nil _) λae af w a m ag f=>Ac f Z λa f=>Aa (Ah (Af ?_))
 refine BD underlying30 Z sizeOf22 f Z λa f=>AS 1 0 m Bu f Z Z Z Z λa f=>A2 underlying22 f Z Z ac λa f=>Ab f Z λa f=>Aa ?_
 have⟨ah,ai,hd⟩:=bind_some hd
 refine AD (λa w=>∃aj:LL,aj=ah∧∃(ak:GH) (al:Value) (am:Itm),GLe G ak∧Fr a 35 [(3,al)]∧Mem W ak w (am::H)∧Ow R1 39 ak am al aj) ?_ ?_
 ·refine Ak ?_
  have m:=m.eraseAt 1
  refine AB (λan a w=>∃ao:LL,∃ap:Int,(ao,ap)=an∧∃(aq:GH) (ar:Value) (au:Itm),GLe G aq∧Fr a 35 [(3,ar),(10,aa),(11,(iv (ab.length:Int))),(12,(iv ap))]∧Mem W aq w (au::H)∧Ow R1 39 aq au ar ao) ai ⟨_,_,Z,_,af,ae,gr,f.k Z,m,ag⟩ ?_
  clear ai f m
  rintro an av aw ax a w ⟨ao,ap,rfl,aq,ar,au,ay,f,m,az⟩
  have ac:=rd2 ay ac
  refine Af ?_
  refine Ai f Z Z AT λa f=>Aa (Ah ?_)
  rcases Ae aw with⟨aA,aw⟩|⟨aA,aw⟩
  ·refine Al f Z aA ?_
   refine Ao ?_
   refine Ah (Ak (Af ?_))
   refine Ab f Z λa f=> ?_
   have⟨aB,aC,aw⟩:=bind_some aw
   refine Bq T22 f Z Z Z ac aC λaD aE a aF aG f=>AW m BH f Z Z aF λa f=>Ac f Z λa f=>Ac f Z λa f=>Aw ?_
   refine Ab f Z λa f=>A2 underlying39 f Z Z aG λa f=>Ab f Z λa f=>Aa ?_
   have⟨aH,aI,aw⟩:=bind_some aw
   refine AD (λa w=>∃aJ:LL,aJ=aH∧∃(aK:GH) (aL:Value) (aM:Itm),GLe aq aK∧Fr a 35 [(3,aL),(10,aa),(11,(iv (ab.length:Int))),(12,(iv ap))]∧Mem W aK w (aM::H)∧Ow R1 39 aK aM aL aJ) ?_ ?_
   ·refine Ak ?_
    refine AB (λaN a w=>∃aO:LL,∃aP:Int,(aO,aP)=aN∧∃(aQ:GH) (aR:Value) (aS:Itm),GLe aq aQ∧Fr a 35 [(3,aR),(4,(iv ap)),(10,aa),(11,(iv (ab.length:Int))),(12,(iv ap)),(17,aE),(18,(iv (aB.length:Int))),(19,(iv aP))]∧Mem W aQ w (aS::H)∧Ow R1 39 aQ aS aR aO) aI ⟨_,_,Z,_,ar,au,gr,f.k Z,m,az⟩ ?_
    clear aI f m
    rintro aN aT aU aV a w ⟨aO,aP,rfl,aQ,aR,aS,aW,f,m,aX⟩
    have aG:=rd1 aW aG
    refine Af ?_
    refine Ai f Z Z AT λa f=>Aa (Ah ?_)
    rcases Ae aU with⟨aY,aU⟩|⟨aY,aU⟩
    ·refine Al f Z aY ?_
     refine Ao ?_
     refine Ah (Ak (Af ?_))
     have⟨aZ,a0,aU⟩:=bind_some aU
     refine Bq T39 f Z Z Z aG a0 λa1 a2 a a3 a4 f=> ?_
     subst a4
     refine AW m Pl2 f Z Z a3 λa f=>Ac f Z λa f=>Aw ?_
     refine Ab f Z λa f=>Ab f Z λa f=>Ai f Z Z AT λa f=>Aa ?_
     rcases Ae aU with⟨a5,aU⟩|⟨a5,aU⟩
     ·refine Al f Z a5 ?_
      refine Am ?_
      refine Ab f Z λa f=>Ab f Z λa f=>Ab f Z λa f=>Bl (R:=R0) (xs:=([ap,aZ]:LI)) (RI.one _) m T39 f Z Z Z (by decide) (All2.cons Z (All2.cons Z (All2.nil _))) λa6 a7 w a m a8 f=> ?_
      obtain⟨a9,ba,m,bb⟩:=Ow.stamp (RI.mono _) a8 m
      have aX:=Ow.mono (RSl.mono (RI.mono _)) ba aX
      refine Bl (R:=R1) (xs:=([([ap,aZ]:LI)]:LL)) (RSl.one _) m T22 f Z Z Z (by decide) (All2.cons bb (All2.nil _)) λbc bd w a m be f=> ?_
      have⟨bf,bg,aU⟩:=bind_some aU
      refine BJ (RSl.one _) 1 m aX Z T22 Z (by decide) f Z Z Z (Ow.src (j:=0) be m Z) bg λbh bi w a m bj f=>Ac f Z λa f=>Aa (Am ?_)
      refine Ai f Z Z Ar λa f=>Ab f Z λa f=>Aa ?_
      have m:=m.fr 1
      have m:=m.eraseAt 1
      obtain rfl:=sj aU
      exact⟨_,Z,_,_,Z,_,bi,bh,(gt aW ba),f.k Z,m,bj⟩
     ·refine Aj f Z a5 ?_
      refine Ao ?_
      refine Am ?_
      refine Ai f Z Z Ar λa f=>Ab f Z λa f=>Aa ?_
      obtain rfl:=sj aU
      exact⟨_,Z,_,_,Z,_,aR,aS,aW,f.k Z,m,aX⟩
    ·refine Aj f Z aY ?_
     refine Ay Z ?_
     obtain rfl:=sj aU
     obtain rfl:=aV _ rfl
     exact⟨_,Z,_,aR,aS,aW,f.k Z,m,aX⟩
   ·rintro a w ⟨aJ,rfl,aK,aL,aM,bk,f,m,bl⟩
    refine Am ?_
    refine Ai f Z Z Ar λa f=>Ab f Z λa f=>Aa ?_
    obtain rfl:=sj aw
    exact⟨_,Z,_,_,Z,_,aL,aM,(gt ay bk),f.k Z,m,bl⟩
  ·refine Aj f Z aA ?_
   refine Ay Z ?_
   obtain rfl:=sj aw
   obtain rfl:=ax _ rfl
   exact⟨_,Z,_,ar,au,ay,f.k Z,m,az⟩
 ·rintro a w ⟨aj,rfl,ak,al,am,bm,f,m,bn⟩
  refine Af ?_
  refine Ab f Z λa f=>Ac f Z λa f=>Aa ?_
  refine Ap ?_
  obtain rfl:=sj hd
  exact⟨[al],f.g Z,f.d,_,[am],bm,m,_,_,Z,Z,bn⟩
theorem Wk.i1 {aa:Value}{ab:LL}(m:Mem W G w (H))(ac:R2 G aa ab){y:(LL)}(hd:D.i1 ab=some y):
  Calls prog 66 #[(.agg #[aa])] w (Res W G H (λG' Ho v=>∃r0:Value,∃i0:Itm,Ho=[i0]∧r0=v∧Ow R1 39 G' i0 r0 y)):=by
 refine As (args:=[(.agg #[aa])]) (N:=8) [.tmp 2] func66 Z Z (lb Z) Z λa f=> ?_
 unfold D.i1 at hd
 refine Af ?_
 refine Bh (cs:=[aa]) m f Z Z Z λad w a m f=>Ac f Z λa f=>Aa (Ah (Af ?_))
 refine AU 0 0 (ds:=[aa]) m BG f Z Z Z Z Z λa f=> ?_
 have⟨ae,af,hd⟩:=bind_some hd
 refine Ba f Z call54 (Wk.J m ac af) λag w ah m a f=> ?_
 have ac:=rd2 ah ac
 refine l_o f (Be (f.e Z)) λa f=>Aa ?_
 rcases Ae hd with⟨ai,hd⟩|⟨ai,hd⟩
 ·refine Al f Z ai ?_
  refine Af ?_
  refine Ac f Z λa f=>Aa ?_
  refine Ap ?_
  obtain⟨aj,m,ak⟩:=Ow.nil R1 39 m
  have m:=m.eraseAt 1
  obtain rfl:=sj hd
  exact⟨[sn],f.g Z,f.d,_,[aj],ah,m,_,_,Z,Z,ak⟩
 ·refine Aj f Z ai ?_
  refine Ao ?_
  refine Af ?_
  refine AU 0 0 (ds:=[aa]) m BG f Z Z Z Z Z λa f=> ?_
  have⟨al,am,hd⟩:=bind_some hd
  refine AM f Z call79 (Wk.T0 m ac am) λan ao ap w aq m ar a f=> ?_
  obtain⟨au,av,rfl,rfl,aw⟩:=ar
  refine Ac f Z λa f=>Aa ?_
  refine Ap ?_
  have m:=m.eraseAt 1
  obtain rfl:=sj hd
  exact⟨[au],f.g Z,f.d,_,[av],(gt ah aq),m,_,_,Z,Z,aw⟩
theorem Wk.P0 {aa:Value}{ab:LL}(m:Mem W G w (H))(ac:R2 G aa ab){y:Int}(hd:D.P0 ab=some y):
  Calls prog 51 #[(.agg #[aa])] w (Res W G H (λ_ Ho v=>Ho=[]∧v=(iv y))):=by
 refine As (args:=[(.agg #[aa])]) (N:=6) [.tmp 2] func51 Z Z (lb Z) Z λa f=> ?_
 unfold D.P0 at hd
 refine Af ?_
 refine Bh (cs:=[aa]) m f Z Z Z λad w a m f=>Ac f Z λa f=>Aw ?_
 refine AU 0 0 (ds:=[aa]) m BG f Z Z Z Z Z λa f=> ?_
 have⟨ae,af,hd⟩:=bind_some hd
 refine AM f Z call66 (Wk.i1 m ac af) λag ah ai w aj m ak a f=> ?_
 obtain⟨al,am,rfl,rfl,an⟩:=ak
 refine BT 0 m an Z underlying22 f Z Z λa f=>Ac f Z λa f=>Aa ?_
 refine Ap ?_
 have m:Mem W ah w H:=Mem.drop (H':=[am,ib ad 30 [aa]]) m
 obtain rfl:=sj hd
 exact⟨[(iv (ae.length:Int))],f.g Z,f.d,_,[],aj,m,Z,Z⟩
theorem Wk.y {x0:Int}(m:Mem W G w (H)){y:Int}(hd:D.y x0=some y):
  Calls prog 59 #[(iv x0)] w (Res W G H (λ_ Ho v=>Ho=[]∧v=(.int .u32 y))):=by
 refine As (args:=[(iv x0)]) (N:=5) [.tmp 2] func59 Z Z (lb Z) Z λa f=> ?_
 unfold D.y at hd
 refine Af ?_
 refine Ac f Z λa f=>Aw ?_
 refine Ab f Z λa f=> ?_
 obtain⟨aa,hd⟩:=BY hd
 refine l_o f (DB (f.e Z) (f.e Z) aa) λa f=>Ac f Z λa f=>Aa ?_
 refine Ap ?_
 obtain rfl:=sj hd
 exact⟨[(.int .u32 (ishl .u32 1 x0))],f.g Z,f.d,_,[],gr,m,Z,Z⟩
theorem Wk.N {v0:Value}{x0:LI}(m:Mem W G w (H))(h0:R1 G v0 x0){y:Int}(hd:D.N x0=some y):
  Calls prog 37 #[v0] w (Res W G H (λ_ Ho v=>Ho=[]∧v=(.int .u32 y))):=by
 refine As (args:=[v0]) (N:=18) [.tmp 2] func37 Z Z (lb Z) Z λa f=> ?_
 unfold D.N at hd
 refine Af ?_
 refine Ac f Z λa f=>Aw ?_
 refine Ac f Z λa f=>Aa (Ah (Af ?_))
 refine Ab f Z λa f=>A2 underlying39 f Z Z h0 λa f=>Ab f Z λa f=>Aa ?_
 have⟨aa,ab,hd⟩:=bind_some hd
 refine AD (λa w=>∃ac:Int,ac=aa∧∃(ad:GH),GLe G ad∧Fr a 18 [(3,(.int .u32 ac))]∧Mem W ad w (H)) ?_ ?_
 ·refine Ak ?_
  refine AB (λae a w=>∃af:Int,∃ag:Int,(af,ag)=ae∧∃(ah:GH),GLe G ah∧Fr a 18 [(3,(.int .u32 af)),(6,v0),(7,(iv (x0.length:Int))),(8,(iv ag))]∧Mem W ah w (H)) ab ⟨_,_,Z,_,gr,f.k Z,m⟩ ?_
  clear ab f m
  rintro ae ai aj ak a w ⟨af,ag,rfl,ah,al,f,m⟩
  have h0:=rd1 al h0
  refine Af ?_
  refine Ai f Z Z AT λa f=>Aa (Ah ?_)
  rcases Ae aj with⟨am,aj⟩|⟨am,aj⟩
  ·refine Al f Z am ?_
   refine Ao ?_
   refine Ah (Ak (Af ?_))
   have⟨an,ao,aj⟩:=bind_some aj
   refine Bq T39 f Z Z Z h0 ao λap aq a ar au f=> ?_
   subst au
   refine AW m Pl2 f Z Z ar λa f=>Ac f Z λa f=>Aa (Am ?_)
   refine Ab f Z λa f=>Ab f Z λa f=> ?_
   have⟨av,aw,aj⟩:=bind_some aj
   refine Ba f Z call59 (Wk.y m aw) λax w ay m a f=>Ai f Z Z b_or λa f=>Ac f Z λa f=>Aa (Am ?_)
   refine Ai f Z Z Ar λa f=>Ab f Z λa f=>Aa ?_
   obtain rfl:=sj aj
   exact⟨_,Z,_,_,Z,_,(gt al ay),f.k Z,m⟩
  ·refine Aj f Z am ?_
   refine Ay Z ?_
   obtain rfl:=sj aj
   obtain rfl:=ak _ rfl
   exact⟨_,Z,_,al,f.k Z,m⟩
 ·rintro a w ⟨ac,rfl,ad,az,f,m⟩
  refine Af ?_
  refine Ab f Z λa f=>Ac f Z λa f=>Aa ?_
  refine Ap ?_
  obtain rfl:=sj hd
  exact⟨[(.int .u32 ac)],f.g Z,f.d,_,[],az,m,Z,Z⟩
theorem Wk.n0 {aa:Value}{ab:LL}(m:Mem W G w (H))(ac:R2 G aa ab){y:(LI)}(hd:D.n0 ab=some y):
  Calls prog 20 #[(.agg #[aa])] w (Res W G H (λG' Ho v=>∃r0:Value,∃i0:Itm,Ho=[i0]∧r0=v∧Ow (RI .u32) 44 G' i0 r0 y)):=by
 refine As (args:=[(.agg #[aa])]) (N:=21) [.tmp 2] func20 Z Z (lb Z) Z λa f=> ?_
 unfold D.n0 at hd
 refine Af ?_
 refine Bh (cs:=[aa]) m f Z Z Z λad w a m f=>Ac f Z λa f=>Aw ?_
 refine Bl (R:=(RI .u32)) (xs:=([]:LI)) (RI.one _) m T46 f Z Z Z (by decide) (All2.nil _) λae af w a m ag f=>Ac f Z λa f=>Aa (Ah (Af ?_))
 refine BD underlying30 Z sizeOf22 f Z λa f=>AS 1 0 m Bu f Z Z Z Z λa f=>A2 underlying22 f Z Z ac λa f=>Ab f Z λa f=>Aa ?_
 have⟨ah,ai,hd⟩:=bind_some hd
 refine AD (λa w=>∃aj:LI,aj=ah∧∃(ak:GH) (al:Value) (am:Itm),GLe G ak∧Fr a 21 [(3,al)]∧Mem W ak w (am::H)∧Ow (RI .u32) 44 ak am al aj) ?_ ?_
 ·refine Ak ?_
  have m:=m.eraseAt 1
  refine AB (λan a w=>∃ao:LI,∃ap:Int,(ao,ap)=an∧∃(aq:GH) (ar:Value) (au:Itm),GLe G aq∧Fr a 21 [(3,ar),(8,aa),(9,(iv (ab.length:Int))),(10,(iv ap))]∧Mem W aq w (au::H)∧Ow (RI .u32) 44 aq au ar ao) ai ⟨_,_,Z,_,af,ae,gr,f.k Z,m,ag⟩ ?_
  clear ai f m
  rintro an av aw ax a w ⟨ao,ap,rfl,aq,ar,au,ay,f,m,az⟩
  have ac:=rd2 ay ac
  refine Af ?_
  refine Ai f Z Z AT λa f=>Aa (Ah ?_)
  rcases Ae aw with⟨aA,aw⟩|⟨aA,aw⟩
  ·refine Al f Z aA ?_
   refine Ao ?_
   refine Ah (Ak (Af ?_))
   have⟨aB,aC,aw⟩:=bind_some aw
   refine Bq T22 f Z Z Z ac aC λaD aE a aF aG f=>AW m BH f Z Z aF λa f=>Ac f Z λa f=>Aa (Am ?_)
   refine Ab f Z λa f=>Ab f Z λa f=> ?_
   have⟨aH,aI,aw⟩:=bind_some aw
   refine Ba f Z call37 (Wk.N m aG aI) λaJ w aK m a f=> ?_
   have az:=od1 aK az
   refine Bl (R:=(RI .u32)) (xs:=([aH]:LI)) (RI.one _) m T46 f Z Z Z (by decide) (All2.cons Z (All2.nil _)) λaL aM w a m aN f=> ?_
   have⟨aO,aP,aw⟩:=bind_some aw
   refine BJ (RI.one _) 1 m az Z T46 Z (by decide) f Z Z Z (Ow.src (j:=0) aN m Z) aP λaQ aR w a m aS f=>Ac f Z λa f=>Aa (Am ?_)
   refine Ai f Z Z Ar λa f=>Ab f Z λa f=>Aa ?_
   have m:=m.fr 1
   have m:=m.eraseAt 1
   obtain rfl:=sj aw
   exact⟨_,Z,_,_,Z,_,aR,aQ,(gt ay aK),f.k Z,m,aS⟩
  ·refine Aj f Z aA ?_
   refine Ay Z ?_
   obtain rfl:=sj aw
   obtain rfl:=ax _ rfl
   exact⟨_,Z,_,ar,au,ay,f.k Z,m,az⟩
 ·rintro a w ⟨aj,rfl,ak,al,am,aT,f,m,aU⟩
  refine Af ?_
  refine Ab f Z λa f=>Ac f Z λa f=>Aa ?_
  refine Ap ?_
  obtain rfl:=sj hd
  exact⟨[al],f.g Z,f.d,_,[am],aT,m,_,_,Z,Z,aU⟩
theorem Wk.e1 {x0:Int}(m:Mem W G w (H)){y:Int}(hd:D.e1 x0=some y):
  Calls prog 38 #[(iv x0)] w (Res W G H (λ_ Ho v=>Ho=[]∧v=(.int .u32 y))):=by
 refine As (args:=[(iv x0)]) (N:=6) [.tmp 2] func38 Z Z (lb Z) Z λa f=> ?_
 unfold D.e1 at hd
 refine Af ?_
 refine Ac f Z λa f=>Aw ?_
 refine Ab f Z λa f=> ?_
 obtain⟨aa,hd⟩:=BY hd
 refine l_o f (DB (f.e Z) (f.e Z) aa) λa f=>Ai f Z Z AC λa f=>Ac f Z λa f=>Aa ?_
 refine Ap ?_
 obtain rfl:=sj hd
 exact⟨[(.int .u32 (IntKind.u32.wrap ((ishl .u32 1 x0)-1)))],f.g Z,f.d,_,[],gr,m,Z,Z⟩
theorem Wk.T {v0:Value}{x0:LI}(m:Mem W G w (H))(h0:RSl (RI .u32) G v0 x0){y:Int}(hd:D.T x0=some y):
  Calls prog 21 #[v0] w (Res W G H (λ_ Ho v=>Ho=[]∧v=(.int .u32 y))):=by
 refine As (args:=[v0]) (N:=6) [.tmp 2] func21 Z Z (lb Z) Z λa f=> ?_
 unfold D.T at hd
 refine Af ?_
 refine Ac f Z λa f=>Aw ?_
 refine Ab f Z λa f=>A2 underlying46 f Z Z h0 λa f=> ?_
 have⟨aa,ab,hd⟩:=bind_some hd
 refine Ba f Z call38 (Wk.e1 m ab) λac w ad m a f=>Ac f Z λa f=>Aa ?_
 refine Ap ?_
 obtain rfl:=sj hd
 exact⟨[(.int .u32 aa)],f.g Z,f.d,_,[],ad,m,Z,Z⟩
theorem Wk.E {x0:Int}(hW:CZ W)(m:Mem W G w (H)){y:Int}(hd:D.E x0=some y):
  Calls prog 60 #[(.int .u32 x0)] w (Res W G H (λ_ Ho v=>Ho=[]∧v=(iv y))):=by
 refine As (args:=[(.int .u32 x0)]) (N:=5) [.tmp 2] func60 Z Z (lb Z) Z λa f=> ?_
 unfold D.E at hd
 refine Af ?_
 refine Ac f Z λa f=>Aw ?_
 refine Ab f Z λa f=> ?_
 have⟨aa,ab,hd⟩:=bind_some hd
 refine Ba f Z call74 (Wk.l1 hW m ab) λac w ad m a f=>Ac f Z λa f=>Aa ?_
 refine Ap ?_
 obtain rfl:=sj hd
 exact⟨[(iv aa)],f.g Z,f.d,_,[],ad,m,Z,Z⟩
theorem Wk.R {x0:Int}(hW:CZ W)(m:Mem W G w (H)){y:(LI)}(hd:D.R x0=some y):
  Calls prog 40 #[(.int .u32 x0)] w (Res W G H (λG' Ho v=>∃r0:Value,∃i0:Itm,Ho=[i0]∧r0=v∧Ow R0 3 G' i0 r0 y)):=by
 refine As (args:=[(.int .u32 x0)]) (N:=17) [.tmp 2] func40 Z Z (lb Z) Z λa f=> ?_
 unfold D.R at hd
 refine Af ?_
 refine Ac f Z λa f=>Aw ?_
 refine Bl (R:=R0) (xs:=([]:LI)) (RI.one _) m T63 f Z Z Z (by decide) (All2.nil _) λaa ab w a m ac f=>Ac f Z λa f=>Aa (Ah ?_)
 have⟨ad,ae,hd⟩:=bind_some hd
 refine AD (λa w=>∃af:LI,af=ad∧∃(ag:GH) (ah:Value) (ai:Itm),GLe G ag∧Fr a 17 [(3,ah)]∧Mem W ag w (ai::H)∧Ow R0 3 ag ai ah af) ?_ ?_
 ·refine Ak ?_
  refine AB (λaj a w=>∃ak:Int,∃al:LI,(ak,al)=aj∧∃(am:GH) (an:Value) (ao:Itm),GLe G am∧Fr a 17 [(0,(.int .u32 ak)),(3,an)]∧Mem W am w (ao::H)∧Ow R0 3 am ao an al) ae ⟨_,_,Z,_,ab,aa,gr,f.k Z,m,ac⟩ ?_
  clear ae f m
  rintro aj ap aq ar a w ⟨ak,al,rfl,am,an,ao,au,f,m,av⟩
  refine Ah (Af ?_)
  refine Ab f Z λa f=>Ai f Z Z Ck λa f=>Aa ?_
  rcases Ae aq with⟨aw,aq⟩|⟨aw,aq⟩
  ·refine Al f Z aw ?_
   refine Ao ?_
   refine Ah (Ak (Am ?_))
   refine Ab f Z λa f=>Ab f Z λa f=> ?_
   have⟨ax,ay,aq⟩:=bind_some aq
   refine Ba f Z call60 (Wk.E hW m ay) λaz w aA m a f=> ?_
   have av:=od1 aA av
   refine Bl (R:=R0) (xs:=([ax]:LI)) (RI.one _) m T63 f Z Z Z (by decide) (All2.cons Z (All2.nil _)) λaB aC w a m aD f=> ?_
   have⟨aE,aF,aq⟩:=bind_some aq
   refine BJ (RI.one _) 1 m av Z T63 Z (by decide) f Z Z Z (Ow.src (j:=0) aD m Z) aF λaG aH w a m aI f=>Ac f Z λa f=>Aa (Am ?_)
   refine Ab f Z λa f=>Ab f Z λa f=>Ai f Z Z AC λa f=>Ai f Z Z Cv λa f=>Ac f Z λa f=>Aa ?_
   have m:=m.fr 1
   have m:=m.eraseAt 1
   obtain rfl:=sj aq
   exact⟨_,Z,_,_,Z,_,aH,aG,(gt au aA),f.k Z,m,aI⟩
  ·refine Aj f Z aw ?_
   refine Ay Z ?_
   obtain rfl:=sj aq
   obtain rfl:=ar _ rfl
   exact⟨_,Z,_,an,ao,au,f.k Z,m,av⟩
 ·rintro a w ⟨af,rfl,ag,ah,ai,aJ,f,m,aK⟩
  refine Af ?_
  refine Ab f Z λa f=>Ac f Z λa f=>Aa ?_
  refine Ap ?_
  obtain rfl:=sj hd
  exact⟨[ah],f.g Z,f.d,_,[ai],aJ,m,_,_,Z,Z,aK⟩
end Go.Proofs.YtoakbbefbhdaaaaGreatDoor

set_option maxRecDepth 100000
namespace Go.Proofs.YtoakbbefbhdaaaaGreatDoor
open Go Go.Sx
open Go.Proofs.Tryz Go.Proofs.YtoakbbefbhdaaaaGreatDoor.Tryz IntKind
variable {W w : World} {G : GH} {H : List Itm}
theorem Pl44 :BX prog 44:=isAgg44
theorem T45 :SlT prog 45 44 1 4 (.int .u32 0):=⟨underlying45,Tryz.t44,by kernel_rfl,by kernel_rfl,by kernel_rfl,by kernel_rfl⟩
theorem Ag26 :Agg prog 26 1:=⟨isAgg26,sizeOf26⟩
theorem Ag24 :Agg prog 24 1:=⟨isAgg24,sizeOf24⟩
theorem Wk.U {v0:Value}{x0:LI}{x1 x2:Int}(hW:CZ W)(m:Mem W G w (H))(h0:RSl (RI .u32) G v0 x0){y:Int}(hd:D.U x0 x1 x2=some y):
  Calls prog 67 #[v0,(iv x1),(.int .u32 x2)] w (Res W G H (λ_ Ho v=>Ho=[]∧v=(.int .u32 y))):=by
 refine As (args:=[v0,(iv x1),(.int .u32 x2)]) (N:=35) [.tmp 6] func67 Z Z (lb Z) Z λa f=> ?_
 unfold D.U at hd
 refine Af ?_
 refine Ac f Z λa f=>Aw ?_
 refine Ab f Z λa f=> ?_
 have⟨aa,ab,hd⟩:=bind_some hd
 refine Ba f Z call59 (Wk.y m ab) λac w ad m a f=> ?_
 have h0:=rd1 ad h0
 refine Ac f Z λa f=>Aa ?_
 have⟨ae,af,hd⟩:=bind_some hd
 refine Ak ?_
 refine AB (λag a w=>∃ah:Int,ah=ag∧∃(ai:GH),GLe ac ai∧Fr a 35 [(0,v0),(2,(.int .u32 x2)),(7,(.int .u32 ah))]∧Mem W ai w (H)) af ⟨_,Z,_,gr,f.k Z,m⟩ ?_
 clear af f m
 rintro ag aj ak al a w ⟨ah,rfl,ai,am,f,m⟩
 have h0:=rd1 am h0
 refine Ak (Af ?_)
 refine Ab f Z λa f=>Ac f Z λa f=>Aa (Ah (Af ?_))
 refine Ab f Z λa f=> ?_
 have⟨an,ao,ak⟩:=bind_some ak
 refine AM f Z call40 (Wk.R hW m ao) λap aq ar w au m av a f=> ?_
 obtain⟨aw,ax,rfl,rfl,ay⟩:=av
 have h0:=rd1 au h0
 refine BT 0 m ay Z underlying63 f Z Z λa f=>Ab f Z λa f=>Aa ?_
 have⟨az,aA,ak⟩:=bind_some ak
 refine AD (λa w=>∃aB:Int,aB=az∧∃(aC:GH),GLe aq aC∧Fr a 35 [(0,v0),(2,(.int .u32 x2)),(7,(.int .u32 ah)),(8,(.int .u32 aB))]∧Mem W aC w (H)) ?_ ?_
 ·refine Ak ?_
  refine AB (λaD a w=>∃aE:Int,∃aF:Int,(aE,aF)=aD∧∃(aG:GH),GLe aq aG∧Fr a 35 [(0,v0),(2,(.int .u32 x2)),(7,(.int .u32 ah)),(8,(.int .u32 aE)),(15,aw),(16,(iv (an.length:Int))),(17,(iv aF))]∧Mem W aG w (ax::H)) aA ⟨_,_,Z,_,gr,f.k Z,m⟩ ?_
  clear aA f m
  rintro aD aH aI aJ a w ⟨aE,aF,rfl,aG,aK,f,m⟩
  have h0:=rd1 aK h0
  have ay:=od1 aK ay
  refine Af ?_
  refine Ai f Z Z AT λa f=>Aa (Ah ?_)
  rcases Ae aI with⟨aL,aI⟩|⟨aL,aI⟩
  ·refine Al f Z aL ?_
   refine Ao ?_
   refine Ah (Ak (Af ?_))
   have⟨aM,aN,aI⟩:=bind_some aI
   refine AV 0 m ay Z T63 f Z Z Z aN λaO a aP f=>Cw 0 m ay Z Pl3 f Z Z aP aN λaQ a aR f=> ?_
   subst aR
   refine Ac f Z λa f=>Aa (Am ?_)
   refine Ab f Z λa f=>Ab f Z λa f=>Ab f Z λa f=> ?_
   have⟨aS,aT,aI⟩:=bind_some aI
   refine Bq T46 f Z Z Z h0 aT λaU aV a aW aX f=> ?_
   subst aX
   refine AW m Pl44 f Z Z aW λa f=>Ab f Z λa f=>Ai f Z Z Cv λa f=>Ai f Z Z b_or λa f=>Ac f Z λa f=>Aa (Am ?_)
   refine Ai f Z Z Ar λa f=>Ab f Z λa f=>Aa ?_
   obtain rfl:=sj aI
   exact⟨_,Z,_,_,Z,_,aK,f.k Z,m⟩
  ·refine Aj f Z aL ?_
   refine Ay Z ?_
   have m:Mem W aG w H:=Mem.drop (H':=[ax]) m
   obtain rfl:=sj aI
   obtain rfl:=aJ _ rfl
   exact⟨_,Z,_,aK,f.k Z,m⟩
 ·rintro a w ⟨aB,rfl,aC,aY,f,m⟩
  refine Ah (Af ?_)
  refine Ab f Z λa f=>Ab f Z λa f=>Ai f Z Z Bv λa f=>Aa ?_
  rcases Ae ak with⟨aZ,ak⟩|⟨aZ,ak⟩
  ·refine Al f Z aZ ?_
   refine Af ?_
   refine Ab f Z λa f=>Ac f Z λa f=>Aa ?_
   refine Ap ?_
   obtain rfl:=sj ak
   obtain rfl:=al _ rfl
   obtain rfl:=sj hd
   exact⟨[(.int .u32 ah)],f.g Z,f.d,_,[],(gt ad (gt am (gt au aY))),m,Z,Z⟩
  ·refine Aj f Z aZ ?_
   refine Ao ?_
   refine Am ?_
   refine Ab f Z λa f=>Ac f Z λa f=>Aa ?_
   obtain rfl:=sj ak
   exact⟨_,Z,_,Z,_,(gt am (gt au aY)),f.k Z,m⟩
theorem Wk.e0 {v0:Value}{x0:LI}{x1:Int}(hW:CZ W)(m:Mem W G w (H))(h0:RSl (RI .u32) G v0 x0){y:(LI)}(hd:D.e0 x0 x1=some y):
  Calls prog 52 #[v0,(.int .u32 x1)] w (Res W G H (λG' Ho v=>∃r0:Value,∃i0:Itm,Ho=[i0]∧r0=v∧Ow (RI .u32) 44 G' i0 r0 y)):=by
 refine As (args:=[v0,(.int .u32 x1)]) (N:=23) [.tmp 4] func52 Z Z (lb Z) Z λa f=> ?_
 unfold D.e0 at hd
 refine Af ?_
 refine Ac f Z λa f=>Aw ?_
 refine Bl (R:=(RI .u32)) (xs:=([]:LI)) (RI.one _) m T45 f Z Z Z (by decide) (All2.nil _) λaa ab w a m ac f=>Ac f Z λa f=>Aa (Ah ?_)
 have⟨ad,ae,hd⟩:=bind_some hd
 refine AD (λa w=>∃af:LI,af=ad∧∃(ag:GH) (ah:Value) (ai:Itm),GLe G ag∧Fr a 23 [(5,ah)]∧Mem W ag w (ai::H)∧Ow (RI .u32) 44 ag ai ah af) ?_ ?_
 ·refine Ak ?_
  refine AB (λaj a w=>∃ak:Int,∃al:LI,(ak,al)=aj∧∃(am:GH) (an:Value) (ao:Itm),GLe G am∧Fr a 23 [(0,v0),(1,(.int .u32 ak)),(5,an)]∧Mem W am w (ao::H)∧Ow (RI .u32) 44 am ao an al) ae ⟨_,_,Z,_,ab,aa,gr,f.k Z,m,ac⟩ ?_
  clear ae f m
  rintro aj ap aq ar a w ⟨ak,al,rfl,am,an,ao,au,f,m,av⟩
  have h0:=rd1 au h0
  refine Ah (Af ?_)
  refine Ab f Z λa f=>Ai f Z Z Ck λa f=>Aa ?_
  rcases Ae aq with⟨aw,aq⟩|⟨aw,aq⟩
  ·refine Al f Z aw ?_
   refine Ao ?_
   refine Ak (Af ?_)
   refine Ab f Z λa f=>Ab f Z λa f=> ?_
   have⟨ax,ay,aq⟩:=bind_some aq
   refine Ba f Z call60 (Wk.E hW m ay) λaz w aA m a f=> ?_
   have h0:=rd1 aA h0
   have av:=od1 aA av
   refine Ab f Z λa f=> ?_
   have⟨aB,aC,aq⟩:=bind_some aq
   refine Ba f Z call67 (Wk.U hW m h0 aC) λaD w aE m a f=> ?_
   have av:=od1 aE av
   refine Ac f Z λa f=>Aw ?_
   refine Ab f Z λa f=>Ab f Z λa f=>Bl (R:=(RI .u32)) (xs:=([aB]:LI)) (RI.one _) m T45 f Z Z Z (by decide) (All2.cons Z (All2.nil _)) λaF aG w a m aH f=> ?_
   have⟨aI,aJ,aq⟩:=bind_some aq
   refine BJ (RI.one _) 1 m av Z T45 Z (by decide) f Z Z Z (Ow.src (j:=0) aH m Z) aJ λaK aL w a m aM f=>Ac f Z λa f=>Aa (Am ?_)
   refine Ab f Z λa f=>Ab f Z λa f=>Ai f Z Z Dl λa f=>Ac f Z λa f=>Aa ?_
   have m:=m.fr 1
   have m:=m.eraseAt 1
   obtain rfl:=sj aq
   exact⟨_,Z,_,_,Z,_,aL,aK,(gt au (gt aA aE)),f.k Z,m,aM⟩
  ·refine Aj f Z aw ?_
   refine Ay Z ?_
   obtain rfl:=sj aq
   obtain rfl:=ar _ rfl
   exact⟨_,Z,_,an,ao,au,f.k Z,m,av⟩
 ·rintro a w ⟨af,rfl,ag,ah,ai,aN,f,m,aO⟩
  refine Af ?_
  refine Ab f Z λa f=>Ac f Z λa f=>Aa ?_
  refine Ap ?_
  obtain rfl:=sj hd
  exact⟨[ah],f.g Z,f.d,_,[ai],aN,m,_,_,Z,Z,aO⟩
theorem Wk.S {x0:Int}(m:Mem W G w (H)){y:Int}(hd:D.S x0=some y):
  Calls prog 53 #[(.int .u32 x0)] w (Res W G H (λ_ Ho v=>Ho=[]∧v=(iv y))):=by
 refine As (args:=[(.int .u32 x0)]) (N:=5) [.tmp 2] func53 Z Z (lb Z) Z λa f=> ?_
 unfold D.S at hd
 refine Af ?_
 refine Ac f Z λa f=>Aw ?_
 refine Ab f Z λa f=> ?_
 have⟨aa,ab,hd⟩:=bind_some hd
 refine Ba f Z call68 (Wk.K0 m ab) λac w ad m a f=>Ac f Z λa f=>Aa ?_
 refine Ap ?_
 obtain rfl:=sj hd
 exact⟨[(iv aa)],f.g Z,f.d,_,[],ad,m,Z,Z⟩
theorem Wk.D0 {aa ab:Value}{ac ad:LL}(hW:CZ W)(m:Mem W G w (H))(ae:R2 G aa ac)(af:R2 G ab ad){y:Int}(hd:D.D0 ac ad=some y):
  Calls prog 31 #[(.agg #[aa]),(.agg #[ab])] w (Res W G H (λ_ Ho v=>Ho=[]∧v=(iv y))):=by
 refine As (args:=[(.agg #[aa]),(.agg #[ab])]) (N:=48) [.tmp 4] func31 Z Z (lb Z) Z λa f=> ?_
 unfold D.D0 at hd
 refine Af ?_
 refine Bh (cs:=[aa]) m f Z Z Z λag w a m f=>Bh (cs:=[ab]) m f Z Z Z λah w a m f=>Ac f Z λa f=>Aa (Ah (Af ?_))
 refine AU 1 0 (ds:=[aa]) m BG f Z Z Z Z Z λa f=>AU 0 0 (ds:=[ab]) m Cr f Z Z Z Z Z λa f=> ?_
 have⟨ai,aj,hd⟩:=bind_some hd
 refine Ba f Z call32 (Wk.Q m ae af aj) λak w al m a f=> ?_
 have ae:=rd2 al ae
 have af:=rd2 al af
 refine l_o f (Be (f.e Z)) λa f=>Aa ?_
 rcases Ae hd with⟨am,hd⟩|⟨am,hd⟩
 ·refine Al f Z am ?_
  refine Af ?_
  refine Ac f Z λa f=>Aa ?_
  refine Ap ?_
  have m:Mem W ak w H:=Mem.drop (H':=[ib ah 32 [ab],ib ag 30 [aa]]) m
  obtain rfl:=sj hd
  exact⟨[(iv (-1))],f.g Z,f.d,_,[],al,m,Z,Z⟩
 ·refine Aj f Z am ?_
  refine Ao ?_
  refine Af ?_
  refine AU 0 0 (ds:=[ab]) m Cr f Z Z Z Z Z λa f=> ?_
  have⟨an,ao,hd⟩:=bind_some hd
  refine AM f Z call49 (Wk.P m af ao) λap aq ar w au m av a f=> ?_
  obtain⟨aw,ax,rfl,rfl,ay⟩:=av
  have ae:=rd2 au ae
  obtain⟨az,aA,m,aB⟩:=Ow.stamp (RSl.mono (RI.mono _)) ay m
  have ae:=rd2 aA ae
  have⟨aC,aD,hd⟩:=bind_some hd
  refine AM f Z call50 (Wk.l0 m aB aD) λaE aF aG w aH m aI a f=> ?_
  obtain⟨aJ,aK,aL,aM,rfl,rfl,aN,aO⟩:=aI
  have ae:=rd2 aH ae
  refine Ab f Z λa f=>l_o f (A6 (f.e Z) Z) λa f=>l_o f (A6 (f.e Z) Z) λa f=>Ac f Z λa f=>Ac f Z λa f=>Aw ?_
  refine AU 3 0 (ds:=[aa]) m BG f Z Z Z Z Z λa f=> ?_
  have⟨aP,aQ,hd⟩:=bind_some hd
  refine Ba f Z call51 (Wk.P0 m ae aQ) λaR w aS m a f=> ?_
  have ae:=rd2 aS ae
  have aN:=Ow.mono (RSl.mono (RI.mono _)) aS aN
  have aO:=OwMq.mono trivial aS aO
  refine Ab f Z λa f=>BT 0 m aN Z underlying73 f Z Z λa f=>Ai f Z Z AC λa f=>Ac f Z λa f=>Aw ?_
  refine AU 3 0 (ds:=[aa]) m BG f Z Z Z Z Z λa f=> ?_
  have⟨aT,aU,hd⟩:=bind_some hd
  refine AM f Z call20 (Wk.n0 m ae aU) λaV aW aX w aY m aZ a f=> ?_
  obtain⟨a2,a3,rfl,rfl,a4⟩:=aZ
  have aO:=OwMq.mono trivial aY aO
  refine Ac f Z λa f=>Aa (Ah (Af ?_))
  refine Ab f Z λa f=>Ab f Z λa f=> ?_
  have⟨a5,a6,hd⟩:=bind_some hd
  refine AM f Z call21 (Ow.lendCall (RI.mono _) 0 a4 m Z (λa7 a8 m a9=>Wk.T m a9 a6) (λ_ _ _ _ h=>h)) λba bb bc w bd m be a f=> ?_
  obtain⟨rfl,rfl⟩:=be
  have a4:=od1 bd a4
  have aO:=OwMq.mono trivial bd aO
  have⟨bf,bg,hd⟩:=bind_some hd
  refine AM f Z call52 (Ow.lendCall (RI.mono _) 0 a4 m Z (λbh bi m bj=>Wk.e0 hW m bj bg) (λ_ G' _ _ ⟨a0,a1,e1,e2,o0⟩=>⟨a0,a1,e1,e2,Ow.free (RI.free _) G' o0⟩)) λbk bl bm w bn m bo a f=> ?_
  obtain⟨bp,bq,rfl,rfl,br⟩:=bo
  have aO:=OwMq.mono trivial bn aO
  refine BT 0 m br Z underlying45 f Z Z λa f=>Ab f Z λa f=>Aa ?_
  have⟨bs,bt,hd⟩:=bind_some hd
  refine AD (λa w=>∃bu:Int,bu=bs∧∃(bv:GH),GLe bl bv∧Fr a 48 [(7,(iv bu))]∧Mem W bv w (H)) ?_ ?_
  ·refine Ak ?_
   have m:=m.eraseAt 5
   have m:=m.eraseAt 4
   have m:Mem W bl w (bq::a3::aK::H):=m.eraseAt 3
   have m:=m.eraseAt 2
   have m:=m.eraseAt 1
   refine AB (λbw a w=>∃bx:Int,∃bz:Int,(bx,bz)=bw∧∃(bA:GH),GLe bl bA∧Fr a 48 [(7,(iv bx)),(31,bp),(32,(iv (bf.length:Int))),(33,(iv bz))]∧Mem W bA w (bq::H)) bt ⟨_,_,Z,_,gr,f.k Z,m⟩ ?_
   clear bt f m
   rintro bw bB bC bD a w ⟨bx,bz,rfl,bA,bE,f,m⟩
   have br:=od1 bE br
   refine Af ?_
   refine Ai f Z Z AT λa f=>Aa (Ah ?_)
   rcases Ae bC with⟨bF,bC⟩|⟨bF,bC⟩
   ·refine Al f Z bF ?_
    refine Ao ?_
    refine Ah (Ak (Af ?_))
    have⟨bG,bH,bC⟩:=bind_some bC
    refine AV 0 m br Z T45 f Z Z Z bH λbI a bJ f=>Cw 0 m br Z Pl44 f Z Z bJ bH λbK a bL f=> ?_
    subst bL
    refine Ac f Z λa f=>Aw ?_
    refine Ab f Z λa f=> ?_
    have⟨bM,bN,bC⟩:=bind_some bC
    refine Ba f Z call53 (Wk.S m bN) λbO w bP m a f=>Ai f Z Z BV λa f=>Aa ?_
    rcases Ae bC with⟨bQ,bC⟩|⟨bQ,bC⟩
    ·refine Al f Z bQ ?_
     refine Am ?_
     refine Ab f Z λa f=>Ab f Z λa f=> ?_
     have⟨bR,bS,bC⟩:=bind_some bC
     refine Ba f Z call53 (Wk.S m bS) λbT w bU m a f=>Ai f Z Z AC λa f=>Ai f Z Z Ar λa f=>Ac f Z λa f=>Aa (Am ?_)
     refine Ai f Z Z Ar λa f=>Ab f Z λa f=>Aa ?_
     obtain rfl:=sj bC
     exact⟨_,Z,_,_,Z,_,(gt bE (gt bP bU)),f.k Z,m⟩
    ·refine Aj f Z bQ ?_
     refine Ao ?_
     refine Am ?_
     refine Ai f Z Z Ar λa f=>Ab f Z λa f=>Aa ?_
     obtain rfl:=sj bC
     exact⟨_,Z,_,_,Z,_,(gt bE bP),f.k Z,m⟩
   ·refine Aj f Z bF ?_
    refine Ay Z ?_
    have m:Mem W bA w H:=Mem.drop (H':=[bq]) m
    obtain rfl:=sj bC
    obtain rfl:=bD _ rfl
    exact⟨_,Z,_,bE,f.k Z,m⟩
  ·rintro a w ⟨bu,rfl,bv,bV,f,m⟩
   refine Af ?_
   refine Ab f Z λa f=>Ai f Z Z (Cg Z) λa f=>Ac f Z λa f=>Aa ?_
   refine Ap ?_
   obtain rfl:=sj hd
   exact⟨[(iv (i64.wrap (Int.tdiv bu 2)))],f.g Z,f.d,_,[],(gt al (gt au (gt aA (gt aH (gt aS (gt aY (gt bd (gt bn bV)))))))),m,Z,Z⟩
theorem Wk.A0 {aa ab:Value}{ac ad:LL}(hW:CZ W)(m:Mem W G w (H))(ae:R2 G aa ac)(af:R2 G ab ad){y:Bool}(hd:D.A0 ac ad=some y):
  Calls prog 18 #[(.agg #[aa]),(.agg #[ab])] w (Res W G H (λ_ Ho v=>Ho=[]∧v=(.bool y))):=by
 refine As (args:=[(.agg #[aa]),(.agg #[ab])]) (N:=9) [.tmp 4] func18 Z Z (lb Z) Z λa f=> ?_
 unfold D.A0 at hd
 refine Af ?_
 refine Bh (cs:=[aa]) m f Z Z Z λag w a m f=>Bh (cs:=[ab]) m f Z Z Z λah w a m f=>Ac f Z λa f=>Aw ?_
 refine AU 1 0 (ds:=[aa]) m BG f Z Z Z Z Z λa f=>AU 0 0 (ds:=[ab]) m Cr f Z Z Z Z Z λa f=> ?_
 have⟨ai,aj,hd⟩:=bind_some hd
 refine Ba f Z call31 (Wk.D0 hW m ae af aj) λak w al m a f=>Ai f Z Z Bv λa f=>Ac f Z λa f=>Aa ?_
 refine Ap ?_
 have m:Mem W ak w H:=Mem.drop (H':=[ib ah 32 [ab],ib ag 30 [aa]]) m
 obtain rfl:=sj hd
 exact⟨[(.bool (ai==0))],f.g Z,f.d,_,[],al,m,Z,Z⟩
theorem Wk.h0 {v0:Value}{x0:LI}(m:Mem W G w (H))(h0:R1 G v0 x0){y:(LI)}(hd:D.h0 x0=some y):
  Calls prog 39 #[v0] w (Res W G H (λG' Ho v=>∃r0:Value,∃i0:Itm,Ho=[i0]∧r0=v∧Ow R0 2 G' i0 r0 y)):=by
 refine As (args:=[v0]) (N:=21) [.tmp 2] func39 Z Z (lb Z) Z λa f=> ?_
 unfold D.h0 at hd
 refine Af ?_
 refine Ac f Z λa f=>Aw ?_
 refine Ab f Z λa f=>A2 underlying63 f Z Z h0 λa f=> ?_
 have⟨aa,ab,hd⟩:=bind_some hd
 refine l_make (R:=R0) m T39 Z (by decide) Z f Z Z Z ab λac ad w a m ae f=>Ac f Z λa f=>Aa (Ah (Af ?_))
 refine Ab f Z λa f=>A2 underlying63 f Z Z h0 λa f=>Ab f Z λa f=>Aa ?_
 have⟨af,ag,hd⟩:=bind_some hd
 refine AD (λa w=>∃ah:LI,ah=af∧∃(ai:GH) (aj:Value) (ak:Itm),GLe G ai∧Fr a 21 [(3,aj)]∧Mem W ai w (ak::H)∧Ow R0 2 ai ak aj ah) ?_ ?_
 ·refine Ak ?_
  refine AB (λal a w=>∃am:LI,∃an:Int,(am,an)=al∧∃(ao:GH) (ap:Value) (aq:Itm),GLe G ao∧Fr a 21 [(3,ap),(9,v0),(10,(iv (x0.length:Int))),(11,(iv an))]∧Mem W ao w (aq::H)∧Ow R0 2 ao aq ap am) ag ⟨_,_,Z,_,ad,ac,gr,f.k Z,m,ae⟩ ?_
  clear ag f m
  rintro al ar au av a w ⟨am,an,rfl,ao,ap,aq,aw,f,m,ax⟩
  have h0:=rd1 aw h0
  refine Af ?_
  refine Ai f Z Z AT λa f=>Aa (Ah ?_)
  rcases Ae au with⟨ay,au⟩|⟨ay,au⟩
  ·refine Al f Z ay ?_
   refine Ao ?_
   refine Ah (Ak (Af ?_))
   have⟨az,aA,au⟩:=bind_some au
   refine Bq T63 f Z Z Z h0 aA λaB aC a aD aE f=> ?_
   subst aE
   refine AW m Pl3 f Z Z aD λa f=>Ac f Z λa f=>Aa (Am ?_)
   refine Ab f Z λa f=>Ab f Z λa f=>Bl (R:=R0) (xs:=([az]:LI)) (RI.one _) m T39 f Z Z Z (by decide) (All2.cons Z (All2.nil _)) λaF aG w a m aH f=> ?_
   have⟨aI,aJ,au⟩:=bind_some au
   refine BJ (RI.one _) 1 m ax Z T39 Z (by decide) f Z Z Z (Ow.src (j:=0) aH m Z) aJ λaK aL w a m aM f=>Ac f Z λa f=>Aa (Am ?_)
   refine Ai f Z Z Ar λa f=>Ab f Z λa f=>Aa ?_
   have m:=m.fr 1
   have m:=m.eraseAt 1
   obtain rfl:=sj au
   exact⟨_,Z,_,_,Z,_,aL,aK,aw,f.k Z,m,aM⟩
  ·refine Aj f Z ay ?_
   refine Ay Z ?_
   obtain rfl:=sj au
   obtain rfl:=av _ rfl
   exact⟨_,Z,_,ap,aq,aw,f.k Z,m,ax⟩
 ·rintro a w ⟨ah,rfl,ai,aj,ak,aN,f,m,aO⟩
  refine Af ?_
  refine Ab f Z λa f=>Ac f Z λa f=>Aa ?_
  refine Ap ?_
  obtain rfl:=sj hd
  exact⟨[aj],f.g Z,f.d,_,[ak],aN,m,_,_,Z,Z,aO⟩
theorem Wk.U0 {x0:Int}(hW:CZ W)(m:Mem W G w (H)){y:(LI)}(hd:D.U0 x0=some y):
  Calls prog 22 #[(.int .u32 x0)] w (Res W G H (λG' Ho v=>∃r0:Value,∃i0:Itm,Ho=[i0]∧r0=v∧Ow R0 2 G' i0 r0 y)):=by
 refine As (args:=[(.int .u32 x0)]) (N:=6) [.tmp 2] func22 Z Z (lb Z) Z λa f=> ?_
 unfold D.U0 at hd
 refine Af ?_
 refine Ac f Z λa f=>Aw ?_
 refine Ab f Z λa f=> ?_
 have⟨aa,ab,hd⟩:=bind_some hd
 refine AM f Z call40 (Wk.R hW m ab) λac ad ae w af m ag a f=> ?_
 obtain⟨ah,ai,rfl,rfl,aj⟩:=ag
 have⟨ak,al,hd⟩:=bind_some hd
 refine AM f Z call39 (Ow.lendCall (RI.mono _) 0 aj m Z (λam an m ao=>Wk.h0 m ao al) (λ_ G' _ _ ⟨a0,a1,e1,e2,o0⟩=>⟨a0,a1,e1,e2,Ow.free (RI.free _) G' o0⟩)) λap aq ar w au m av a f=> ?_
 obtain⟨aw,ax,rfl,rfl,ay⟩:=av
 refine Ac f Z λa f=>Aa ?_
 refine Ap ?_
 have m:=m.eraseAt 1
 obtain rfl:=sj hd
 exact⟨[aw],f.g Z,f.d,_,[ax],(gt af au),m,_,_,Z,Z,ay⟩
theorem Wk.N0 {aa v1:Value}{ab:LL}{x1:LI}(m:Mem W G w (H))(ac:R2 G aa ab)(h1:R1 G v1 x1){y:Bool}(hd:D.N0 ab x1=some y):
  Calls prog 33 #[(.agg #[aa]),v1] w (Res W G H (λ_ Ho v=>Ho=[]∧v=(.bool y))):=by
 refine As (args:=[(.agg #[aa]),v1]) (N:=14) [.tmp 4] func33 Z Z (lb Z) Z λa f=> ?_
 unfold D.N0 at hd
 refine Af ?_
 refine Bh (cs:=[aa]) m f Z Z Z λad w a m f=>Ac f Z λa f=>Aw ?_
 refine AU 0 0 (ds:=[aa]) m BG f Z Z Z Z Z λa f=> ?_
 have⟨ae,af,hd⟩:=bind_some hd
 refine Ba f Z call54 (Wk.J m ac af) λag w ah m a f=> ?_
 have ac:=rd2 ah ac
 have h1:=rd1 ah h1
 refine Ab f Z λa f=> ?_
 have⟨ai,aj,hd⟩:=bind_some hd
 refine BF 6 (λa w=>∃ak,GLe ag ak∧Mem W ak w (ib ad 30 [aa]::H)∧Fr a 14 [(0,(.agg #[aa])),(1,v1),(2,(pb ad)),(5,(.agg #[aa])),(6,(.bool ae)),(7,(.bool ae)),(13,(.bool ai))]) ?_ ?_
 ·rcases Ae aj with⟨al,aj⟩|⟨al,aj⟩
  ·refine AG f al ?_
   refine Ab f Z λa f=>AG f al ?_
   refine BD underlying30 Z sizeOf22 f Z λa f=>AG f al ?_
   refine AS 0 0 m Bu f Z Z Z Z λa f=>AG f al ?_
   refine A2 underlying22 f Z Z ac λa f=>AG f al ?_
   have⟨am,an,aj⟩:=bind_some aj
   refine Ba f Z call58 (Wk.d0 m h1 an) λao w ap m a f=>l_o f (AO (f.e Z) al (f.e Z)) λa f=> ?_
   obtain rfl:=sj aj
   exact⟨_,ap,m,f.k Z⟩
  ·refine AL f al λa f=> ?_
   refine AL f al λa f=>AL f al λa f=>AL f al λa f=>AL f al λa f=>l_o f (AP (f.e Z) al (f.e Z)) λa f=> ?_
   obtain rfl:=sj aj
   exact⟨_,gr,m,f.k Z⟩
 ·rintro a w ⟨ak,aq,m,f⟩
  refine Ac f Z λa f=>Aa ?_
  refine Ap ?_
  have m:Mem W ak w H:=Mem.drop (H':=[ib ad 30 [aa]]) m
  obtain rfl:=sj hd
  exact⟨[(.bool ai)],f.g Z,f.d,_,[],(gt ah aq),m,Z,Z⟩
theorem Wk.c1 {aa ab:Value}{ac ad:LL}(m:Mem W G w (H))(ae:R2 G aa ac)(af:R2 G ab ad){y:(LL)}(hd:D.c1 ac ad=some y):
  Calls prog 35 #[(.agg #[aa]),(.agg #[ab])] w (Res W G H (λG' Ho v=>∃r0:Value,∃i0:Itm,Ho=[i0]∧r0=v∧Ow R1 39 G' i0 r0 y)):=by
 refine As (args:=[(.agg #[aa]),(.agg #[ab])]) (N:=34) [.tmp 4] func35 Z Z (lb Z) Z λa f=> ?_
 unfold D.c1 at hd
 refine Af ?_
 refine Bh (cs:=[aa]) m f Z Z Z λag w a m f=>Bh (cs:=[ab]) m f Z Z Z λah w a m f=>Ac f Z λa f=>Aa (Ah (Af ?_))
 refine AU 1 0 (ds:=[aa]) m BG f Z Z Z Z Z λa f=>AU 0 0 (ds:=[ab]) m Cr f Z Z Z Z Z λa f=> ?_
 have⟨ai,aj,hd⟩:=bind_some hd
 refine Ba f Z call32 (Wk.Q m ae af aj) λak w al m a f=> ?_
 have af:=rd2 al af
 refine l_o f (Be (f.e Z)) λa f=>Aa ?_
 rcases Ae hd with⟨am,hd⟩|⟨am,hd⟩
 ·refine Al f Z am ?_
  refine Af ?_
  refine Ac f Z λa f=>Aa ?_
  refine Ap ?_
  obtain⟨an,m,ao⟩:=Ow.nil R1 39 m
  have m:=m.eraseAt 2
  have m:=m.eraseAt 1
  obtain rfl:=sj hd
  exact⟨[sn],f.g Z,f.d,_,[an],al,m,_,_,Z,Z,ao⟩
 ·refine Aj f Z am ?_
  refine Ao ?_
  refine Af ?_
  refine AU 0 0 (ds:=[ab]) m Cr f Z Z Z Z Z λa f=> ?_
  have⟨ap,aq,hd⟩:=bind_some hd
  refine AM f Z call49 (Wk.P m af aq) λar au av w aw m ax a f=> ?_
  obtain⟨ay,az,rfl,rfl,aA⟩:=ax
  obtain⟨aB,aC,m,aD⟩:=Ow.stamp (RSl.mono (RI.mono _)) aA m
  have⟨aE,aF,hd⟩:=bind_some hd
  refine AM f Z call50 (Wk.l0 m aD aF) λaG aH aI w aJ m aK a f=> ?_
  obtain⟨aL,aM,aN,aO,rfl,rfl,aP,aQ⟩:=aK
  refine Ab f Z λa f=>l_o f (A6 (f.e Z) Z) λa f=>l_o f (A6 (f.e Z) Z) λa f=>Ac f Z λa f=>Ac f Z λa f=>Aw ?_
  refine Bl (R:=R1) (xs:=([]:LL)) (RSl.one _) m T22 f Z Z Z (by decide) (All2.nil _) λaR aS w a m aT f=>Ac f Z λa f=>Aa (Ah (Af ?_))
  refine Ab f Z λa f=>BT 1 m aP Z underlying73 f Z Z λa f=>Ab f Z λa f=>Aa ?_
  have⟨aU,aV,hd⟩:=bind_some hd
  refine AD (λa w=>∃aW:LL,aW=aU∧∃(aX:GH) (aY:Value) (aZ:Itm),GLe aH aX∧Fr a 34 [(7,aY)]∧Mem W aX w (aZ::H)∧Ow R1 39 aX aZ aY aW) ?_ ?_
  ·refine Ak ?_
   have m:=m.eraseAt 4
   have m:=m.eraseAt 3
   have m:=m.eraseAt 2
   refine AB (λa0 a w=>∃a1:LL,∃a2:Int,(a1,a2)=a0∧∃(a3:GH) (a4:Value) (a5:Itm),GLe aH a3∧Fr a 34 [(7,a4),(21,aL),(22,(iv (aE.1.length:Int))),(23,(iv a2))]∧Mem W a3 w (a5::aM::H)∧Ow R1 39 a3 a5 a4 a1) aV ⟨_,_,Z,_,aS,aR,gr,f.k Z,m,aT⟩ ?_
   clear aV f m
   rintro a0 a6 a7 a8 a w ⟨a1,a2,rfl,a3,a4,a5,a9,f,m,ba⟩
   have aP:=Ow.mono (RSl.mono (RI.mono _)) a9 aP
   refine Af ?_
   refine Ai f Z Z AT λa f=>Aa (Ah ?_)
   rcases Ae a7 with⟨bb,a7⟩|⟨bb,a7⟩
   ·refine Al f Z bb ?_
    refine Ao ?_
    refine Ah (Ak (Af ?_))
    have⟨bc,bd,a7⟩:=bind_some a7
    refine AV 1 m aP Z T73 f Z Z Z bd λbe a bf f=>Cw 1 m aP Z Pl63 f Z Z bf bd λbg a bh f=>Ac f Z λa f=>Aa (Am ?_)
    refine Ab f Z λa f=>Ab f Z λa f=> ?_
    have⟨bi,bj,a7⟩:=bind_some a7
    refine AM f Z call39 (Wk.h0 m bh bj) λbk bl bm w bn m bo a f=> ?_
    obtain⟨bp,bq,rfl,rfl,br⟩:=bo
    have ba:=Ow.mono (RSl.mono (RI.mono _)) bn ba
    obtain⟨bs,bt,m,bu⟩:=Ow.stamp (RI.mono _) br m
    have ba:=Ow.mono (RSl.mono (RI.mono _)) bt ba
    refine Bl (R:=R1) (xs:=([bi]:LL)) (RSl.one _) m T22 f Z Z Z (by decide) (All2.cons bu (All2.nil _)) λbv bw w a m bx f=> ?_
    have⟨bz,bA,a7⟩:=bind_some a7
    refine BJ (RSl.one _) 1 m ba Z T22 Z (by decide) f Z Z Z (Ow.src (j:=0) bx m Z) bA λbB bC w a m bD f=>Ac f Z λa f=>Aa (Am ?_)
    refine Ai f Z Z Ar λa f=>Ab f Z λa f=>Aa ?_
    have m:=m.fr 2
    have m:=m.fr 2
    have m:=m.eraseAt 2
    obtain rfl:=sj a7
    exact⟨_,Z,_,_,Z,_,bC,bB,(gt a9 (gt bn bt)),f.k Z,m,bD⟩
   ·refine Aj f Z bb ?_
    refine Ay Z ?_
    have m:=m.eraseAt 1
    obtain rfl:=sj a7
    obtain rfl:=a8 _ rfl
    exact⟨_,Z,_,a4,a5,a9,f.k Z,m,ba⟩
  ·rintro a w ⟨aW,rfl,aX,aY,aZ,bE,f,m,bF⟩
   refine Af ?_
   refine Ab f Z λa f=>Ac f Z λa f=>Aa ?_
   refine Ap ?_
   obtain rfl:=sj hd
   exact⟨[aY],f.g Z,f.d,_,[aZ],(gt al (gt aw (gt aC (gt aJ bE)))),m,_,_,Z,Z,bF⟩
theorem Wk.d1 {v0 aa:Value}{b1:Nat}{x0 ab:LI}(m:Mem W G w (ib b1 39 [aa]::H))(h0:R1 G v0 x0)(ac:R1 G aa ab){y:Bool}(hd:D.d1 x0 ab=some y):
  Calls prog 36 #[v0,(pb b1)] w (Res W G H (λ_ Ho v=>Ho=[ib b1 39 [aa]]∧v=(.bool y))):=by
 refine As (args:=[v0,(pb b1)]) (N:=10) [.tmp 3] func36 Z Z (lb Z) Z λa f=> ?_
 unfold D.d1 at hd
 refine Af ?_
 refine Ac f Z λa f=>Aw ?_
 refine AS 0 0 m BH f Z Z Z Z λa f=> ?_
 have⟨ad,ae,hd⟩:=bind_some hd
 refine Ba f Z call37 (Wk.N m ac ae) λaf w ag m a f=> ?_
 have h0:=rd1 ag h0
 refine Ab f Z λa f=> ?_
 have⟨ah,ai,hd⟩:=bind_some hd
 refine Ba f Z call37 (Wk.N m h0 ai) λaj w ak m a f=>Ai f Z Z Dl λa f=>Ai f Z Z Bv λa f=>Ac f Z λa f=>Aa ?_
 refine Ap ?_
 obtain rfl:=sj hd
 exact⟨[(.bool ((iandNot .u32 ad ah)==0))],f.g Z,f.d,_,[ib b1 39 [aa]],(gt ag ak),m,Z,Z⟩
theorem Wk.b1 {v0 aa:Value}{b1c0:Nat}{x0:LL}{ab:LI}(m:Mem W G w (ib b1c0 39 [aa]::H))(h0:R2 G v0 x0)(ac:R1 G aa ab){y:Int}(hd:D.b1 x0 ab=some y):
  Calls prog 34 #[v0,(.func (.func 36) #[] #[(pb b1c0)])] w (Res W G H (λ_ Ho v=>Ho=[ib b1c0 39 [aa]]∧v=(iv y))):=by
 refine As (args:=[v0,(.func (.func 36) #[] #[(pb b1c0)])]) (N:=19) [.tmp 4] func34 Z Z (lb Z) Z λa f=> ?_
 unfold D.b1 at hd
 refine Af ?_
 refine Ac f Z λa f=>Aa (Ah (Af ?_))
 refine Ab f Z λa f=>A2 underlying22 f Z Z h0 λa f=>Ab f Z λa f=>Aa ?_
 have⟨ad,ae,hd⟩:=bind_some hd
 refine AD (λa w=>∃q_33':Unit,ad= .inl q_33'∧∃(af:GH),GLe G af∧Fr a 19 []∧Mem W af w (ib b1c0 39 [aa]::H)) ?_ ?_
 ·refine Ak ?_
  refine AB (λag a w=>∃ah:Int,ah=ag∧∃(ai:GH),GLe G ai∧Fr a 19 [(0,v0),(1,(.func (.func 36) #[] #[(pb b1c0)])),(7,(iv (x0.length:Int))),(8,(iv ah))]∧Mem W ai w (ib b1c0 39 [aa]::H)) ae ⟨_,Z,_,gr,f.k Z,m⟩ ?_
  clear ae f m
  rintro ag aj ak al a w ⟨ah,rfl,ai,am,f,m⟩
  have h0:=rd2 am h0
  have ac:=rd1 am ac
  refine Af ?_
  refine Ai f Z Z AT λa f=>Aa (Ah ?_)
  rcases Ae ak with⟨an,ak⟩|⟨an,ak⟩
  ·refine Al f Z an ?_
   refine Ao ?_
   refine Ah (Ak (Af ?_))
   refine Ab f Z λa f=>Ac f Z λa f=>Aw ?_
   refine Ab f Z λa f=>Ab f Z λa f=>Ab f Z λa f=> ?_
   have⟨ao,ap,ak⟩:=bind_some ak
   refine Bq T22 f Z Z Z h0 ap λaq ar a au av f=>AW m BH f Z Z au λa f=> ?_
   have⟨aw,ax,ak⟩:=bind_some ak
   refine l_resv0 f Z Z Z call36 (Wk.d1 m av ac ax) λay az aA w aB m aC a f=> ?_
   obtain⟨rfl,rfl⟩:=aC
   refine Aa ?_
   rcases Ae ak with⟨aD,ak⟩|⟨aD,ak⟩
   ·refine Al f Z aD ?_
    refine Af ?_
    refine Ab f Z λa f=>Ac f Z λa f=>Aa ?_
    refine Ap ?_
    obtain rfl:=sj ak
    obtain rfl:=al _ rfl
    obtain rfl:=sj hd
    exact⟨[(iv ah)],f.g Z,f.d,_,[ib b1c0 39 [aa]],(gt am aB),m,Z,Z⟩
   ·refine Aj f Z aD ?_
    refine Ao ?_
    refine Am ?_
    refine Ai f Z Z Ar λa f=>Ab f Z λa f=>Aa ?_
    obtain rfl:=sj ak
    exact⟨_,Z,_,Z,_,(gt am aB),f.k Z,m⟩
  ·refine Aj f Z an ?_
   refine Ay Z ?_
   obtain rfl:=sj ak
   obtain rfl:=al _ rfl
   exact⟨_,Z,_,am,f.weak trivial,m⟩
 ·rintro a w ⟨_,rfl,af,aE,f,m⟩
  refine Af ?_
  refine Ac f Z λa f=>Aa ?_
  refine Ap ?_
  obtain rfl:=sj hd
  exact⟨[(iv (-1))],f.g Z,f.d,_,[ib b1c0 39 [aa]],aE,m,Z,Z⟩
theorem Wk.z {aa ab v2:Value}{ac ad:LL}{x2:LI}(m:Mem W G w (H))(ae:R2 G aa ac)(af:R2 G ab ad)(h2:R1 G v2 x2){y:Int}(hd:D.z ac ad x2=some y):
  Calls prog 19 #[(.agg #[aa]),(.agg #[ab]),v2] w (Res W G H (λ_ Ho v=>Ho=[]∧v=(iv y))):=by
 refine As (args:=[(.agg #[aa]),(.agg #[ab]),v2]) (N:=22) [.tmp 6] func19 Z Z (lb Z) Z λa f=> ?_
 unfold D.z at hd
 refine Af ?_
 refine Bh (cs:=[aa]) m f Z Z Z λag w a m f=>Bh (cs:=[ab]) m f Z Z Z λah w a m f=>Bh (cs:=[v2]) m f Z Z h2.cells λai w a m f=>Ac f Z λa f=>Aa (Ah (Af ?_))
 refine AU 2 0 (ds:=[aa]) m BG f Z Z Z Z Z λa f=>AU 1 0 (ds:=[ab]) m Cr f Z Z Z Z Z λa f=> ?_
 have⟨aj,ak,hd⟩:=bind_some hd
 refine Ba f Z call32 (Wk.Q m ae af ak) λal w am m a f=> ?_
 have ae:=rd2 am ae
 have af:=rd2 am af
 have h2:=rd1 am h2
 refine l_o f (Be (f.e Z)) λa f=>Ab f Z λa f=> ?_
 have⟨an,ao,hd⟩:=bind_some hd
 refine BF 5 (λa w=>∃ap,GLe al ap∧Mem W ap w (ib ai 39 [v2]::ib ah 32 [ab]::ib ag 30 [aa]::H)∧Fr a 22 [(0,(.agg #[aa])),(1,(.agg #[ab])),(2,v2),(3,(pb ag)),(4,(pb ah)),(5,(pb ai)),(7,(.agg #[aa])),(8,(.agg #[ab])),(9,(.bool aj)),(10,(.bool (!aj))),(11,(.bool (!aj))),(16,(.bool an))]) ?_ ?_
 ·rcases Ae ao with⟨aq,ao⟩|⟨aq,ao⟩
  ·refine AL f aq λa f=> ?_
   refine AL f aq λa f=>AL f aq λa f=>AL f aq λa f=>l_o f (AO (f.e Z) aq (f.e Z)) λa f=> ?_
   obtain rfl:=sj ao
   exact⟨_,gr,m,f.k Z⟩
  ·refine AG f aq ?_
   refine AU 2 0 (ds:=[aa]) m BG f Z Z Z Z Z λa f=>AG f aq ?_
   refine AS 0 0 m BH f Z Z Z Z λa f=>AG f aq ?_
   have⟨ar,au,ao⟩:=bind_some ao
   refine Ba f Z call33 (Wk.N0 m ae h2 au) λav w aw m a f=>AG f aq ?_
   refine l_o f (Be (f.e Z)) λa f=>l_o f (AP (f.e Z) aq (f.e Z)) λa f=> ?_
   obtain rfl:=sj ao
   exact⟨_,aw,m,f.k Z⟩
 ·rintro a w ⟨ap,ax,m,f⟩
  have ae:=rd2 ax ae
  have af:=rd2 ax af
  have h2:=rd1 ax h2
  refine Aa ?_
  rcases Ae hd with⟨ay,hd⟩|⟨ay,hd⟩
  ·refine Al f Z ay ?_
   refine Af ?_
   refine Ac f Z λa f=>Aa ?_
   refine Ap ?_
   have m:Mem W ap w H:=Mem.drop (H':=[ib ai 39 [v2],ib ah 32 [ab],ib ag 30 [aa]]) m
   obtain rfl:=sj hd
   exact⟨[(iv (-1))],f.g Z,f.d,_,[],(gt am ax),m,Z,Z⟩
  ·refine Aj f Z ay ?_
   refine Ao ?_
   refine Af ?_
   refine AU 2 0 (ds:=[aa]) m BG f Z Z Z Z Z λa f=>AU 1 0 (ds:=[ab]) m Cr f Z Z Z Z Z λa f=> ?_
   have⟨az,aA,hd⟩:=bind_some hd
   refine AM f Z call35 (Wk.c1 m ae af aA) λaB aC aD w aE m aF a f=> ?_
   obtain⟨aG,aH,rfl,rfl,aI⟩:=aF
   have h2:=rd1 aE h2
   refine l_makeFunc f Z Z Z λa f=> ?_
   obtain⟨aJ,aK,m,aL⟩:=Ow.stamp (RSl.mono (RI.mono _)) aI m
   have h2:=rd1 aK h2
   have⟨aM,aN,hd⟩:=bind_some hd
   refine AM f Z call34 (Wk.b1 m aL h2 aN) λaO aP aQ w aR m aS a f=> ?_
   obtain⟨rfl,rfl⟩:=aS
   refine Ac f Z λa f=>Aa ?_
   refine Ap ?_
   have m:Mem W aP w H:=Mem.drop (H':=[ib ai 39 [v2],ib ah 32 [ab],ib ag 30 [aa]]) m
   obtain rfl:=sj hd
   exact⟨[(iv aM)],f.g Z,f.d,_,[],(gt am (gt ax (gt aE (gt aK aR)))),m,Z,Z⟩
theorem Wk.t0 {aa ab:Value}{ac ad:LL}(hW:CZ W)(m:Mem W G w (H))(ae:R2 G aa ac)(af:R2 G ab ad){y:Bool}(hd:D.t0 ac ad=some y):
  Calls prog 9 #[(.agg #[aa]),(.agg #[ab])] w (Res W G H (λ_ Ho v=>Ho=[]∧v=(.bool y))):=by
 refine As (args:=[(.agg #[aa]),(.agg #[ab])]) (N:=18) [.tmp 4] func9 Z Z (lb Z) Z λa f=> ?_
 unfold D.t0 at hd
 refine Af ?_
 refine Bh (cs:=[aa]) m f Z Z Z λag w a m f=>Bh (cs:=[ab]) m f Z Z Z λah w a m f=>Ac f Z λa f=>Aa (Ah ?_)
 refine A1 14 AA (by kernel_rfl) m ?_
 refine By (i:=0) (ds:=[aa]) 14 1 BG Z Z Z Z (by kernel_rfl) Z f Z Z Z λa f=>By (i:=1) (ds:=[ab]) 14 0 Cr Z Z Z Z (by kernel_rfl) Z f Z Z Z λa f=> ?_
 have⟨ai,aj,hd⟩:=bind_some hd
 refine Bb (i:=2) 14 Z (by kernel_rfl) Z f Z Z Z call18 (λ_ _ w ak m=>Wk.A0 hW m (rd2 ak ae) (rd2 ak af) aj) λa f=>Ag 3 14 Z f Z λa f=> ?_
 rcases Ae hd with⟨al,hd⟩|⟨al,hd⟩
 ·refine By (i:=4) (ds:=[aa]) 14 1 BG Z Z Z Z (by kernel_rfl) Z f (AZ f Z Z Z al) Z Z λa f=> ?_
  refine By (i:=5) (ds:=[ab]) 14 0 Cr Z Z Z Z (by kernel_rfl) Z f (AZ f Z Z Z al) Z Z λa f=>By (i:=6) (ds:=[aa]) 14 1 BG Z Z Z Z (by kernel_rfl) Z f (AZ f Z Z Z al) Z Z λa f=>CC 7 Z λam w an m ao ao=> ?_
  have ae:=rd2 an ae
  have af:=rd2 an af
  refine AG f al ?_
  have⟨ap,aq,hd⟩:=bind_some hd
  refine AM f Z call20 (Wk.n0 m ae aq) λar au av w aw m ax a f=> ?_
  obtain⟨ay,az,rfl,rfl,aA⟩:=ax
  have ae:=rd2 aw ae
  have af:=rd2 aw af
  refine Aa ?_
  refine ao au [az] _ _ aw m ?_
  refine CC 8 Z λaB w aC m aD aD=> ?_
  have ae:=rd2 aC ae
  have af:=rd2 aC af
  have aA:=od1 aC aA
  refine AG f al ?_
  have⟨aE,aF,hd⟩:=bind_some hd
  refine AM f Z call21 (Ow.lendCall (RI.mono _) 0 aA m Z (λaG aH m aI=>Wk.T m aI aF) (λ_ _ _ _ h=>h)) λaJ aK aL w aM m aN a f=> ?_
  obtain⟨rfl,rfl⟩:=aN
  have ae:=rd2 aM ae
  have af:=rd2 aM af
  refine Aa ?_
  refine aD aK [az] _ _ aM m ?_
  refine CC 9 Z λaO w aP m aQ aQ=> ?_
  have ae:=rd2 aP ae
  have af:=rd2 aP af
  refine AG f al ?_
  have⟨aR,aS,hd⟩:=bind_some hd
  refine AM f Z call22 (Wk.U0 hW m aS) λaT aU aV w aW m aX a f=> ?_
  obtain⟨aY,aZ,rfl,rfl,a0⟩:=aX
  have ae:=rd2 aW ae
  have af:=rd2 aW af
  refine Aa ?_
  refine aQ aU [aZ,az] _ _ aW m ?_
  refine CC 10 Z λa1 w a2 m a3 a3=> ?_
  have ae:=rd2 a2 ae
  have af:=rd2 a2 af
  have a0:=od1 a2 a0
  refine AG f al ?_
  have⟨a4,a5,hd⟩:=bind_some hd
  refine AM f Z call19 (Ow.lendCall (RI.mono _) 0 a0 m Z (λa6 a7 m a8=>Wk.z m (rd2 a7 ae) (rd2 a7 af) a8 a5) (λ_ _ _ _ h=>h)) λa9 ba bb w bc m bd a f=> ?_
  obtain⟨rfl,rfl⟩:=bd
  refine Aa ?_
  refine a3 ba [aZ,az] _ _ bc m ?_
  refine q_p (hw:=wo f al) 11 14 Z f (λ_=>AE (f.e Z) (f.e Z) Br) λa f=>q_p 12 14 Z f (λ_=>AO (f.e Z) al (f.e Z)) λa f=>q_p 13 14 Z f (λ_=>Ct (f.e Z)) λa f=>AJ λbe w bf m=>Aa ?_
  refine Ap ?_
  have m:Mem W be w H:=Mem.drop (H':=[aZ,az,ib ah 32 [ab],ib ag 30 [aa]]) m
  obtain rfl:=sj hd
  exact⟨[(.bool (decide ((0:Int)≤a4)))],f.g Z,f.d,_,[],(gt an (gt aw (gt aC (gt aM (gt aP (gt aW (gt a2 (gt bc bf)))))))),m,Z,Z⟩
 ·refine An 4 14 Z f al λa f=> ?_
  refine An 5 14 Z f al λa f=>An 6 14 Z f al λa f=>An 7 14 Z f al λa f=>An 8 14 Z f al λa f=>An 9 14 Z f al λa f=>An 10 14 Z f al λa f=>An 11 14 Z f al λa f=>q_p 12 14 Z f (λ_=>AP (f.e Z) al (f.e Z)) λa f=>q_p 13 14 Z f (λ_=>Ct (f.e Z)) λa f=>AJ λbg w bh m=>Aa ?_
  refine Ap ?_
  have m:Mem W bg w H:=Mem.drop (H':=[ib ah 32 [ab],ib ag 30 [aa]]) m
  obtain rfl:=sj hd
  exact⟨[(.bool false)],f.g Z,f.d,_,[],bh,m,Z,Z⟩
theorem Wk.k {v0 v1:Value}{x0 x1:LI}(m:Mem W G w (H))(h0:R1 G v0 x0)(h1:R1 G v1 x1){y:Bool}(hd:D.k x0 x1=some y):
  Calls prog 41 #[v0,v1] w (Res W G H (λ_ Ho v=>Ho=[]∧v=(.bool y))):=by
 refine As (args:=[v0,v1]) (N:=26) [.tmp 4] func41 Z Z (lb Z) Z λa f=> ?_
 unfold D.k at hd
 refine Af ?_
 refine Ac f Z λa f=>Aa (Ah (Af ?_))
 refine Ab f Z λa f=>A2 underlying39 f Z Z h0 λa f=>Ab f Z λa f=>A2 underlying39 f Z Z h1 λa f=>Ai f Z Z Ck λa f=>Aa ?_
 rcases Ae hd with⟨aa,hd⟩|⟨aa,hd⟩
 ·refine Al f Z aa ?_
  refine Af ?_
  refine Ac f Z λa f=>Aa ?_
  refine Ap ?_
  obtain rfl:=sj hd
  exact⟨[(.bool false)],f.g Z,f.d,_,[],gr,m,Z,Z⟩
 ·refine Aj f Z aa ?_
  refine Ao ?_
  refine Ah (Af ?_)
  refine Ac f Z λa f=>Aa ?_
  have⟨ab,ac,hd⟩:=bind_some hd
  refine AD (λa w=>∃q_36':Unit,ab= .inl q_36'∧∃(ad:GH),GLe G ad∧Fr a 26 []∧Mem W ad w (H)) ?_ ?_
  ·refine Ak ?_
   refine AB (λae a w=>∃af:Int,af=ae∧∃(ag:GH),GLe G ag∧Fr a 26 [(0,v0),(1,v1),(5,(iv af))]∧Mem W ag w (H)) ac ⟨_,Z,_,gr,f.k Z,m⟩ ?_
   clear ac f m
   rintro ae ah ai aj a w ⟨af,rfl,ag,ak,f,m⟩
   have h0:=rd1 ak h0
   have h1:=rd1 ak h1
   refine Ah (Af ?_)
   refine Ab f Z λa f=>Ab f Z λa f=>A2 underlying39 f Z Z h0 λa f=>Ai f Z Z AT λa f=>Aa ?_
   rcases Ae ai with⟨al,ai⟩|⟨al,ai⟩
   ·refine Al f Z al ?_
    refine Ao ?_
    refine Ah (Ak (Ah ?_))
    refine A1 9 AA (by kernel_rfl) m ?_
    refine Ag 0 9 Z f Z λa f=>Ag 1 9 Z f Z λa f=> ?_
    have⟨am,an,ai⟩:=bind_some ai
    refine BR 2 9 T39 h0 an Z f Z Z λao ap a aq ar f=> ?_
    subst ar
    refine BU 3 9 Pl2 aq Z f Z λa f=>Ag 4 9 Z f Z λa f=>Ag 5 9 Z f Z λa f=> ?_
    have⟨au,av,ai⟩:=bind_some ai
    refine BR 6 9 T39 h1 av Z f Z Z λaw ax a ay az f=> ?_
    subst az
    refine BU 7 9 Pl2 ay Z f Z λa f=>q_p 8 9 Z f (λ_=>AE (f.e Z) (f.e Z) Ck) λa f=>AJ λaA w aB m=>Aa ?_
    rcases Ae ai with⟨aC,ai⟩|⟨aC,ai⟩
    ·refine Al f Z aC ?_
     refine Af ?_
     refine Ac f Z λa f=>Aa ?_
     refine Ap ?_
     obtain rfl:=sj ai
     obtain rfl:=aj _ rfl
     obtain rfl:=sj hd
     exact⟨[(.bool false)],f.g Z,f.d,_,[],(gt ak aB),m,Z,Z⟩
    ·refine Aj f Z aC ?_
     refine Ao ?_
     refine Am ?_
     refine Ab f Z λa f=>Ai f Z Z Ar λa f=>Ac f Z λa f=>Aa ?_
     obtain rfl:=sj ai
     exact⟨_,Z,_,Z,_,(gt ak aB),f.k Z,m⟩
   ·refine Aj f Z al ?_
    refine Ay Z ?_
    obtain rfl:=sj ai
    obtain rfl:=aj _ rfl
    exact⟨_,Z,_,ak,f.weak trivial,m⟩
  ·rintro a w ⟨_,rfl,ad,aD,f,m⟩
   refine Af ?_
   refine Ac f Z λa f=>Aa ?_
   refine Ap ?_
   obtain rfl:=sj hd
   exact⟨[(.bool true)],f.g Z,f.d,_,[],aD,m,Z,Z⟩
theorem Wk.r0 {v0 v1:Value}{x0 x1:LL}(m:Mem W G w (H))(h0:R2 G v0 x0)(h1:R2 G v1 x1){y:Bool}(hd:D.r0 x0 x1=some y):
  Calls prog 23 #[v0,v1] w (Res W G H (λ_ Ho v=>Ho=[]∧v=(.bool y))):=by
 refine As (args:=[v0,v1]) (N:=27) [.tmp 4] func23 Z Z (lb Z) Z λa f=> ?_
 unfold D.r0 at hd
 refine Af ?_
 refine Ac f Z λa f=>Aa (Ah (Af ?_))
 refine Ab f Z λa f=>A2 underlying22 f Z Z h0 λa f=>Ab f Z λa f=>A2 underlying22 f Z Z h1 λa f=>Ai f Z Z Ck λa f=>Aa ?_
 rcases Ae hd with⟨aa,hd⟩|⟨aa,hd⟩
 ·refine Al f Z aa ?_
  refine Af ?_
  refine Ac f Z λa f=>Aa ?_
  refine Ap ?_
  obtain rfl:=sj hd
  exact⟨[(.bool false)],f.g Z,f.d,_,[],gr,m,Z,Z⟩
 ·refine Aj f Z aa ?_
  refine Ao ?_
  refine Ah (Af ?_)
  refine Ac f Z λa f=>Aa ?_
  have⟨ab,ac,hd⟩:=bind_some hd
  refine AD (λa w=>∃q_42':Unit,ab= .inl q_42'∧∃(ad:GH),GLe G ad∧Fr a 27 []∧Mem W ad w (H)) ?_ ?_
  ·refine Ak ?_
   refine AB (λae a w=>∃af:Int,af=ae∧∃(ag:GH),GLe G ag∧Fr a 27 [(0,v0),(1,v1),(5,(iv af))]∧Mem W ag w (H)) ac ⟨_,Z,_,gr,f.k Z,m⟩ ?_
   clear ac f m
   rintro ae ah ai aj a w ⟨af,rfl,ag,ak,f,m⟩
   have h0:=rd2 ak h0
   have h1:=rd2 ak h1
   refine Ah (Af ?_)
   refine Ab f Z λa f=>Ab f Z λa f=>A2 underlying22 f Z Z h0 λa f=>Ai f Z Z AT λa f=>Aa ?_
   rcases Ae ai with⟨al,ai⟩|⟨al,ai⟩
   ·refine Al f Z al ?_
    refine Ao ?_
    refine Ah (Ak (Ah ?_))
    refine A1 10 AA (by kernel_rfl) m ?_
    refine Ag 0 10 Z f Z λa f=>Ag 1 10 Z f Z λa f=> ?_
    have⟨am,an,ai⟩:=bind_some ai
    refine BR 2 10 T22 h0 an Z f Z Z λao ap a aq ar f=>BU 3 10 BH aq Z f Z λa f=>Ag 4 10 Z f Z λa f=>Ag 5 10 Z f Z λa f=> ?_
    have⟨au,av,ai⟩:=bind_some ai
    refine BR 6 10 T22 h1 av Z f Z Z λaw ax a ay az f=>BU 7 10 BH ay Z f Z λa f=> ?_
    have⟨aA,aB,ai⟩:=bind_some ai
    refine Bb (i:=8) 10 Z (by kernel_rfl) Z f Z Z Z call41 (λ_ _ w aC m=>Wk.k m (rd1 aC ar) (rd1 aC az) aB) λa f=>q_p 9 10 Z f (λ_=>Be (f.e Z)) λa f=>AJ λaD w aE m=>Aa ?_
    rcases Ae ai with⟨aF,ai⟩|⟨aF,ai⟩
    ·refine Al f Z aF ?_
     refine Af ?_
     refine Ac f Z λa f=>Aa ?_
     refine Ap ?_
     obtain rfl:=sj ai
     obtain rfl:=aj _ rfl
     obtain rfl:=sj hd
     exact⟨[(.bool false)],f.g Z,f.d,_,[],(gt ak aE),m,Z,Z⟩
    ·refine Aj f Z aF ?_
     refine Ao ?_
     refine Am ?_
     refine Ab f Z λa f=>Ai f Z Z Ar λa f=>Ac f Z λa f=>Aa ?_
     obtain rfl:=sj ai
     exact⟨_,Z,_,Z,_,(gt ak aE),f.k Z,m⟩
   ·refine Aj f Z al ?_
    refine Ay Z ?_
    obtain rfl:=sj ai
    obtain rfl:=aj _ rfl
    exact⟨_,Z,_,ak,f.weak trivial,m⟩
  ·rintro a w ⟨_,rfl,ad,aG,f,m⟩
   refine Af ?_
   refine Ac f Z λa f=>Aa ?_
   refine Ap ?_
   obtain rfl:=sj hd
   exact⟨[(.bool true)],f.g Z,f.d,_,[],aG,m,Z,Z⟩
theorem Wk.Y0 {aa ab:Value}{ac ad:LL}(m:Mem W G w (H))(ae:R2 G aa ac)(af:R2 G ab ad){y:Bool}(hd:D.Y0 ac ad=some y):
  Calls prog 10 #[(.agg #[aa]),(.agg #[ab])] w (Res W G H (λ_ Ho v=>Ho=[]∧v=(.bool y))):=by
 refine As (args:=[(.agg #[aa]),(.agg #[ab])]) (N:=11) [.tmp 4] func10 Z Z (lb Z) Z λa f=> ?_
 unfold D.Y0 at hd
 refine Af ?_
 refine Bh (cs:=[aa]) m f Z Z Z λag w a m f=>Bh (cs:=[ab]) m f Z Z Z λah w a m f=>Ac f Z λa f=>Aa (Ah (Af ?_))
 refine BD underlying30 Z sizeOf22 f Z λa f=>AS 1 0 m Bu f Z Z Z Z λa f=>BD underlying30 Z sizeOf22 f Z λa f=>AS 0 0 m Bu f Z Z Z Z λa f=> ?_
 have⟨ai,aj,hd⟩:=bind_some hd
 refine Ba f Z call23 (Wk.r0 m ae af aj) λak w al m a f=>l_o f (Be (f.e Z)) λa f=>Aa ?_
 rcases Ae hd with⟨am,hd⟩|⟨am,hd⟩
 ·refine Al f Z am ?_
  refine Af ?_
  refine Ac f Z λa f=>Aa ?_
  refine Ap ?_
  have m:Mem W ak w H:=Mem.drop (H':=[ib ah 30 [ab],ib ag 30 [aa]]) m
  obtain rfl:=sj hd
  exact⟨[(.bool false)],f.g Z,f.d,_,[],al,m,Z,Z⟩
 ·refine Aj f Z am ?_
  refine Ao ?_
  refine Af ?_
  refine Ac f Z λa f=>Aa ?_
  refine Ap ?_
  have m:Mem W ak w H:=Mem.drop (H':=[ib ah 30 [ab],ib ag 30 [aa]]) m
  obtain rfl:=sj hd
  exact⟨[(.bool true)],f.g Z,f.d,_,[],al,m,Z,Z⟩
theorem Wk.M0 {aa ab:Value}{ac ad:LL}(m:Mem W G w (H))(ae:R2 G aa ac)(af:R2 G ab ad){y:Bool}(hd:D.M0 ac ad=some y):
  Calls prog 11 #[(.agg #[aa]),(.agg #[ab])] w (Res W G H (λ_ Ho v=>Ho=[]∧v=(.bool y))):=by
 refine As (args:=[(.agg #[aa]),(.agg #[ab])]) (N:=11) [.tmp 4] func11 Z Z (lb Z) Z λa f=> ?_
 unfold D.M0 at hd
 refine Af ?_
 refine Bh (cs:=[aa]) m f Z Z Z λag w a m f=>Bh (cs:=[ab]) m f Z Z Z λah w a m f=>Ac f Z λa f=>Aa (Ah (Af ?_))
 refine BD underlying32 Z sizeOf22 f Z λa f=>AS 1 0 m Bu f Z Z Z Z λa f=>BD underlying32 Z sizeOf22 f Z λa f=>AS 0 0 m Bu f Z Z Z Z λa f=> ?_
 have⟨ai,aj,hd⟩:=bind_some hd
 refine Ba f Z call23 (Wk.r0 m ae af aj) λak w al m a f=>l_o f (Be (f.e Z)) λa f=>Aa ?_
 rcases Ae hd with⟨am,hd⟩|⟨am,hd⟩
 ·refine Al f Z am ?_
  refine Af ?_
  refine Ac f Z λa f=>Aa ?_
  refine Ap ?_
  have m:Mem W ak w H:=Mem.drop (H':=[ib ah 32 [ab],ib ag 32 [aa]]) m
  obtain rfl:=sj hd
  exact⟨[(.bool false)],f.g Z,f.d,_,[],al,m,Z,Z⟩
 ·refine Aj f Z am ?_
  refine Ao ?_
  refine Af ?_
  refine Ac f Z λa f=>Aa ?_
  refine Ap ?_
  have m:Mem W ak w H:=Mem.drop (H':=[ib ah 32 [ab],ib ag 32 [aa]]) m
  obtain rfl:=sj hd
  exact⟨[(.bool true)],f.g Z,f.d,_,[],al,m,Z,Z⟩
set_option maxHeartbeats 1000000 in
theorem Wk.m1 {aa ab:Value}{ac ad:LL}(hW:CZ W)(m:Mem W G w (H))(ae:R2 G aa ac)(af:R2 G ab ad){y:Bool}(hd:D.m1 ac ad=some y):
  Calls prog 3 #[(.agg #[aa]),(.agg #[ab])] w (Res W G H (λ_ Ho v=>Ho=[]∧v=(.bool y))):=by
 refine As (args:=[(.agg #[aa]),(.agg #[ab])]) (N:=45) [.tmp 4] func3 Z Z (lb Z) Z λa f=> ?_
 unfold D.m1 at hd
 refine Af ?_
 refine Bh (cs:=[aa]) m f Z Z Z λag w a m f=>Bh (cs:=[ab]) m f Z Z Z λah w a m f=>Ac f Z λa f=>Aw ?_
 refine Ac f Z λa f=>Aw ?_
 refine AU 1 0 (ds:=[aa]) m Ag24 f Z Z Z Z Z λa f=>Ab f Z λa f=> ?_
 have⟨ai,aj,hd⟩:=bind_some hd
 refine Ba f Z call4 (Wk.W0 m ae aj) λak w al m a f=> ?_
 have ae:=rd2 al ae
 have af:=rd2 al af
 refine Ac f Z λa f=>Aa (Ah (Af ?_))
 refine Ab f Z λa f=>Ai f Z Z AT λa f=>Aa ?_
 rcases Ae hd with⟨am,hd⟩|⟨am,hd⟩
 ·refine Al f Z am ?_
  refine Af ?_
  refine Ac f Z λa f=>Aa ?_
  refine Ap ?_
  have m:Mem W ak w H:=Mem.drop (H':=[ib ah 26 [ab],ib ag 24 [aa]]) m
  obtain rfl:=sj hd
  exact⟨[(.bool true)],f.g Z,f.d,_,[],al,m,Z,Z⟩
 ·refine Aj f Z am ?_
  refine Ao ?_
  refine Af ?_
  refine AU 0 0 (ds:=[ab]) m Ag26 f Z Z Z Z Z λa f=>Ab f Z λa f=> ?_
  have⟨an,ao,hd⟩:=bind_some hd
  refine Ba f Z call5 (Wk.j1 m af ao) λap w aq m a f=> ?_
  have ae:=rd2 aq ae
  have af:=rd2 aq af
  refine Ac f Z λa f=>Aa (Ah (Af ?_))
  refine Ab f Z λa f=>Ai f Z Z AT λa f=>Aa ?_
  rcases Ae hd with⟨ar,hd⟩|⟨ar,hd⟩
  ·refine Al f Z ar ?_
   refine Af ?_
   refine Ac f Z λa f=>Aa ?_
   refine Ap ?_
   have m:Mem W ap w H:=Mem.drop (H':=[ib ah 26 [ab],ib ag 24 [aa]]) m
   obtain rfl:=sj hd
   exact⟨[(.bool true)],f.g Z,f.d,_,[],(gt al aq),m,Z,Z⟩
  ·refine Aj f Z ar ?_
   refine Ao ?_
   refine Ah ?_
   refine A1 6 AA (by kernel_rfl) m ?_
   refine By (i:=0) (ds:=[aa]) 6 1 Ag24 Z Z Z Z (by kernel_rfl) Z f Z Z Z λa f=>By (i:=2) (ds:=[ab]) 6 0 Ag26 Z Z Z Z (by kernel_rfl) Z f Z Z Z λa f=>CC 1 Z λau w av m aw aw=> ?_
   have ae:=rd2 av ae
   have af:=rd2 av af
   have⟨ax,ay,hd⟩:=bind_some hd
   refine AM f Z call7 (Wk.O m ae ay) λaz aA aB w aC m aD a f=> ?_
   obtain⟨aE,aF,rfl,rfl,aG⟩:=aD
   have ae:=rd2 aC ae
   have af:=rd2 aC af
   refine Aa ?_
   refine aw aA [aF] _ _ aC m ?_
   refine CC 3 Z λaH w aI m aJ aJ=> ?_
   have ae:=rd2 aI ae
   have af:=rd2 aI af
   have aG:=od2 aI aG
   have⟨aK,aL,hd⟩:=bind_some hd
   refine AM f Z call8 (Wk.M m af aL) λaM aN aO w aP m aQ a f=> ?_
   obtain⟨aR,aS,rfl,rfl,aT⟩:=aQ
   have ae:=rd2 aP ae
   have af:=rd2 aP af
   have aG:=od2 aP aG
   refine Aa ?_
   refine aJ aN [aS,aF] _ _ aP m ?_
   refine CC 4 Z λaU w aV m aW aW=> ?_
   have ae:=rd2 aV ae
   have af:=rd2 aV af
   have aT:=od2 aV aT
   have aG:=od2 aV aG
   have⟨aX,aY,hd⟩:=bind_some hd
   refine AM f Z call6 (Ow2.lendCall (RI.mono _) 1 aG m Z (λaZ a0 m a1=>(Ow2.lendCall (RI.mono _) 0 (od2 a0 aT) m Z (λa2 a3 m a4=>Wk.C0 m (rd2 a3 a1) a4 aY) (λ_ _ _ _ h=>h))) (λ_ _ _ _ h=>h)) λa5 a6 a7 w a8 m a9 a f=> ?_
   obtain⟨rfl,rfl⟩:=a9
   have ae:=rd2 a8 ae
   have af:=rd2 a8 af
   refine Aa ?_
   refine aW a6 [aS,aF] _ _ a8 m ?_
   refine q_p 5 6 Z f (λ_=>Ct (f.e Z)) λa f=>AJ λba w bb m=> ?_
   have ae:=rd2 bb ae
   have af:=rd2 bb af
   refine Aw ?_
   refine AU 3 0 (ds:=[aa]) m Ag24 f Z Z Z Z Z λa f=> ?_
   have⟨bc,bd,hd⟩:=bind_some hd
   refine AM f Z call7 (Wk.O m ae bd) λbe bf bg w bh m bi a f=> ?_
   obtain⟨bj,bk,rfl,rfl,bl⟩:=bi
   have ae:=rd2 bh ae
   have af:=rd2 bh af
   refine B9 (cs:=[sn]) zeroValue30 m f Z Z λbm w a m f=>Bk 0 0 (ds:=[bj]) m sizeOf30 f Z Z Z (Bi (Ow2.one1 1 m bl Z) BA) Z (lb Z) Z λw m=>Aw ?_
   refine AU 4 0 (ds:=[ab]) m Ag26 f Z Z Z Z Z λa f=> ?_
   have⟨bn,bo,hd⟩:=bind_some hd
   refine AM f Z call8 (Wk.M m af bo) λbp bq br w bs m bt a f=> ?_
   obtain⟨bu,bv,rfl,rfl,bw⟩:=bt
   have ae:=rd2 bs ae
   have af:=rd2 bs af
   have bl:=od2 bs bl
   refine B9 (cs:=[sn]) zeroValue32 m f Z Z λbx w a m f=>Bk 0 0 (ds:=[bu]) m sizeOf32 f Z Z Z (Bi (Ow2.one1 1 m bw Z) BA) Z (lb Z) Z λw m=>Aw ?_
   refine AU 2 0 (ds:=[bj]) m BG f Z Z Z Z Z λa f=>AU 0 0 (ds:=[bu]) m Cr f Z Z Z Z Z λa f=> ?_
   have⟨bz,bA,hd⟩:=bind_some hd
   refine AM f Z call9 (Ow2.lendCall (RI.mono _) 3 bl m Z (λbB bC m bD=>(Ow2.lendCall (RI.mono _) 1 (od2 bC bw) m Z (λbE bF m bG=>Wk.t0 hW m (rd2 bF bD) bG bA) (λ_ _ _ _ h=>h))) (λ_ _ _ _ h=>h)) λbH bI bJ w bK m bL a f=> ?_
   obtain⟨rfl,rfl⟩:=bL
   have ae:=rd2 bK ae
   have af:=rd2 bK af
   have bw:=od2 bK bw
   have bl:=od2 bK bl
   refine Ac f Z λa f=>Aa (Ah (Af ?_))
   refine Ab f Z λa f=>Ab f Z λa f=>l_o f (r_bool_neq (f.e Z) (f.e Z) underlying4) λa f=>Aa ?_
   rcases Ae hd with⟨bM,hd⟩|⟨bM,hd⟩
   ·refine Al f Z bM ?_
    refine Af ?_
    refine Ac f Z λa f=>Aa ?_
    refine Ap ?_
    have m:Mem W bI w H:=Mem.drop (H':=[ib bx 32 [bu],bv,ib bm 30 [bj],bk,aS,aF,ib ah 26 [ab],ib ag 24 [aa]]) m
    obtain rfl:=sj hd
    exact⟨[(.bool false)],f.g Z,f.d,_,[],(gt al (gt aq (gt av (gt aC (gt aI (gt aP (gt aV (gt a8 (gt bb (gt bh (gt bs bK))))))))))),m,Z,Z⟩
   ·refine Aj f Z bM ?_
    refine Ao ?_
    refine Ah (Ah ?_)
    refine A1 5 AA (by kernel_rfl) m ?_
    refine By (i:=0) (ds:=[bj]) 5 2 BG Z Z Z Z (by kernel_rfl) Z f Z Z Z λa f=>By (i:=1) (ds:=[aa]) 5 7 Ag24 Z Z Z Z (by kernel_rfl) Z f Z Z Z λa f=>CC 2 Z λbN w bO m bP bP=> ?_
    have ae:=rd2 bO ae
    have af:=rd2 bO af
    have bw:=od2 bO bw
    have bl:=od2 bO bl
    have⟨bQ,bR,hd⟩:=bind_some hd
    refine AM f Z call7 (Wk.O m ae bR) λbS bT bU w bV m bW a f=> ?_
    obtain⟨bX,bY,rfl,rfl,bZ⟩:=bW
    have af:=rd2 bV af
    have bw:=od2 bV bw
    have bl:=od2 bV bl
    refine Aa ?_
    refine bP bT [bY] _ _ bV m ?_
    refine CC 3 Z λb0 w b1 m b2 b2=> ?_
    have af:=rd2 b1 af
    have bZ:=od2 b1 bZ
    have bw:=od2 b1 bw
    have bl:=od2 b1 bl
    have⟨b3,b4,hd⟩:=bind_some hd
    refine AM f Z call10 (Ow2.lendCall (RI.mono _) 4 bl m Z (λb5 b6 m b7=>(Ow2.lendCall (RI.mono _) 0 (od2 b6 bZ) m Z (λb8 b9 m ca=>Wk.Y0 m (rd2 b9 b7) ca b4) (λ_ _ _ _ h=>h))) (λ_ _ _ _ h=>h)) λcb cc cd w ce m cf a f=> ?_
    obtain⟨rfl,rfl⟩:=cf
    have af:=rd2 ce af
    have bw:=od2 ce bw
    refine Aa ?_
    refine b2 cc [bY] _ _ ce m ?_
    refine q_p 4 5 Z f (λ_=>Be (f.e Z)) λa f=>AJ λcg w ch m=> ?_
    have af:=rd2 ch af
    have bw:=od2 ch bw
    refine Aa ?_
    rcases Ae hd with⟨ci,hd⟩|⟨ci,hd⟩
    ·refine Al f Z ci ?_
     refine Af ?_
     refine Ac f Z λa f=>Aa ?_
     refine Ap ?_
     have m:Mem W cg w H:=Mem.drop (H':=[bY,ib bx 32 [bu],bv,ib bm 30 [bj],bk,aS,aF,ib ah 26 [ab],ib ag 24 [aa]]) m
     obtain rfl:=sj hd
     exact⟨[(.bool false)],f.g Z,f.d,_,[],(gt al (gt aq (gt av (gt aC (gt aI (gt aP (gt aV (gt a8 (gt bb (gt bh (gt bs (gt bK (gt bO (gt bV (gt b1 (gt ce ch)))))))))))))))),m,Z,Z⟩
    ·refine Aj f Z ci ?_
     refine Ao ?_
     refine Ah (Ah ?_)
     refine A1 5 AA (by kernel_rfl) m ?_
     refine By (i:=0) (ds:=[bu]) 5 1 Cr Z Z Z Z (by kernel_rfl) Z f Z Z Z λa f=>By (i:=1) (ds:=[ab]) 5 7 Ag26 Z Z Z Z (by kernel_rfl) Z f Z Z Z λa f=>CC 2 Z λcj w ck m cl cl=> ?_
     have af:=rd2 ck af
     have bw:=od2 ck bw
     have⟨cm,cn,hd⟩:=bind_some hd
     refine AM f Z call8 (Wk.M m af cn) λco cp cq w cr m ct a f=> ?_
     obtain⟨cu,cv,rfl,rfl,cw⟩:=ct
     have bw:=od2 cr bw
     refine Aa ?_
     refine cl cp [cv] _ _ cr m ?_
     refine CC 3 Z λcx w cy m cz cz=> ?_
     have cw:=od2 cy cw
     have bw:=od2 cy bw
     have⟨cA,cB,hd⟩:=bind_some hd
     refine AM f Z call11 (Ow2.lendCall (RI.mono _) 3 bw m Z (λcC cD m cE=>(Ow2.lendCall (RI.mono _) 0 (od2 cD cw) m Z (λcF cG m cH=>Wk.M0 m (rd2 cG cE) cH cB) (λ_ _ _ _ h=>h))) (λ_ _ _ _ h=>h)) λcI cJ cK w cL m cM a f=> ?_
     obtain⟨rfl,rfl⟩:=cM
     refine Aa ?_
     refine cz cJ [cv] _ _ cL m ?_
     refine q_p 4 5 Z f (λ_=>Be (f.e Z)) λa f=>AJ λcN w cO m=>Aa ?_
     rcases Ae hd with⟨cP,hd⟩|⟨cP,hd⟩
     ·refine Al f Z cP ?_
      refine Af ?_
      refine Ac f Z λa f=>Aa ?_
      refine Ap ?_
      have m:Mem W cN w H:=Mem.drop (H':=[cv,bY,ib bx 32 [bu],bv,ib bm 30 [bj],bk,aS,aF,ib ah 26 [ab],ib ag 24 [aa]]) m
      obtain rfl:=sj hd
      exact⟨[(.bool false)],f.g Z,f.d,_,[],(gt al (gt aq (gt av (gt aC (gt aI (gt aP (gt aV (gt a8 (gt bb (gt bh (gt bs (gt bK (gt bO (gt bV (gt b1 (gt ce (gt ch (gt ck (gt cr (gt cy (gt cL cO))))))))))))))))))))),m,Z,Z⟩
     ·refine Aj f Z cP ?_
      refine Ao ?_
      refine Af ?_
      refine Ac f Z λa f=>Aa ?_
      refine Ap ?_
      have m:Mem W cN w H:=Mem.drop (H':=[cv,bY,ib bx 32 [bu],bv,ib bm 30 [bj],bk,aS,aF,ib ah 26 [ab],ib ag 24 [aa]]) m
      obtain rfl:=sj hd
      exact⟨[(.bool true)],f.g Z,f.d,_,[],(gt al (gt aq (gt av (gt aC (gt aI (gt aP (gt aV (gt a8 (gt bb (gt bh (gt bs (gt bK (gt bO (gt bV (gt b1 (gt ce (gt ch (gt ck (gt cr (gt cy (gt cL cO))))))))))))))))))))),m,Z,Z⟩
end Go.Proofs.YtoakbbefbhdaaaaGreatDoor

namespace Go.Sx
noncomputable def B5 (a b:Int):Option Int:=(D.c a b).bind λy=>some (cond y (-1) 1)
theorem Dx (y:Bool):decide ((cond y (-1) 1:Int)<0)=y:=by cases y<;>rfl
theorem EB :D.H0=DG.insertionSort B5:=by
 funext x a b
 unfold D.H0 DG.insertionSort
 simp only[B5,Option.bind_assoc,bs,Dx]<;>rfl
theorem ol_siftDown :D.f0=DG.siftDown B5:=by
 funext x a b c
 unfold D.f0 DG.siftDown
 simp only[B5,Option.bind_assoc,bs,Dx]
 refine congrArg (Option.bind _) (funext λzz=> ?_)
 cases zz<;>rfl
theorem ol_heapSort :D.I0=DG.heapSort B5:=by
 funext x a b
 unfold D.I0 DG.heapSort
 rw[ol_siftDown]
theorem EE :D.u0=DG.breakPatterns B5:=by
 funext x a b
 unfold D.u0 DG.breakPatterns
 rfl
theorem ol_order2 :D.L=DG.order2 B5:=by
 funext x a b c
 unfold D.L DG.order2
 simp only[B5,Option.bind_assoc,bs,Dx]<;>rfl
theorem ol_median :D.Y=DG.median B5:=by
 funext x a b c d
 unfold D.Y DG.median
 rw[ol_order2]
theorem Er :D.K=DG.medianAdjacent B5:=by
 funext x a b
 unfold D.K DG.medianAdjacent
 rw[ol_median]
theorem ol_choosePivot :D.z0=DG.choosePivot B5:=by
 funext x a b
 unfold D.z0 DG.choosePivot
 rw[ol_median,Er]
theorem EH :D.w0=DG.reverseRange B5:=by
 funext x a b
 unfold D.w0 DG.reverseRange
 rfl
theorem Dq :D.E0=DG.partialInsertionSort B5:=by
 funext x a b
 unfold D.E0 DG.partialInsertionSort
 simp only[B5,Option.bind_assoc,bs,Dx]
 refine congrArg (Option.bind _) (funext λzz=> ?_)
 cases zz<;>rfl
theorem En :D.y0=DG.partitionEqual B5:=by
 funext x a b c
 unfold D.y0 DG.partitionEqual
 simp only[B5,Option.bind_assoc,bs,Dx]<;>rfl
theorem ol_partition :D.J0=DG.partition B5:=by
 funext x a b c
 unfold D.J0 DG.partition
 simp only[B5,Option.bind_assoc,bs,Dx]<;>rfl
theorem ol_pdqsort :∀(n:Nat) x a b c,D.F n x a b c=DG.pdqsortR B5 n x a b c
 |0,_,_,_,_=>rfl
 |n+1,x,a,b,c=>by
  unfold D.F DG.pdqsortR
  rw[EB,ol_heapSort,EE,ol_choosePivot,EH,Dq,En,ol_partition,funext (λx=>funext λa=>funext λb=>funext λc=>ol_pdqsort n x a b c)]
  simp only[B5,Option.bind_assoc,bs,Dx]
  kernel_rfl
theorem cmpL_eq (x y:Int):B5 x y=some (cond (decide (x<y)) (-1) 1):=by
 have e:∀x:Int,D.m0 x=some false:=λx=>by unfold D.m0;simp
 unfold B5 D.c
 rw[e,bs,cond_false,bs,bs,Bool.false_or]
noncomputable abbrev byInt :Gs.Srtd Int where
 dflt:=0
 key:=id
 good:=λ_=>True
 cmp:=B5
 law:=λx y _ _=>⟨_,cmpL_eq x y,Dx _⟩
theorem sort_any (l:LI)(hl:l.length≤1100000):∃y,D.p0 l=some y∧List.Perm y l∧∀i j,i<j→j<y.length→y.getD i 0≤y.getD j 0:=by
 letI:=byInt
 obtain⟨y,e,hp,hs⟩:=Gs.sort_spec (α:=Int) l (λ_ _=>trivial) hl
 refine⟨y,?_,hp,λi j hij hj=> ?_⟩
 ·unfold D.p0 D.f
  simp only[ol_pdqsort]
  exact e
 ·exact hs i j (by omega) (by omega) (by omega)
theorem EC :D.q=D.H0:=by kernel_rfl
theorem oi_heapSort :D.p=D.I0:=by kernel_rfl
theorem EG :D.o=D.u0:=by kernel_rfl
theorem oi_choosePivot :D.x=D.z0:=by kernel_rfl
theorem EM :D.n=D.w0:=by kernel_rfl
theorem Dr :D.v=D.E0:=by kernel_rfl
theorem Es :D.t=D.y0:=by kernel_rfl
theorem oi_partition :D.r=D.J0:=by kernel_rfl
theorem oi_Less :D.a=D.c:=by kernel_rfl
theorem oi_pdqsort :∀(n:Nat) x a b c,D.V n x a b c=D.F n x a b c
 |0,_,_,_,_=>rfl
 |n+1,x,a,b,c=>by
  unfold D.V D.F
  rw[EC,oi_heapSort,EG,oi_choosePivot,EM,Dr,Es,oi_partition,oi_Less,funext (λx=>funext λa=>funext λb=>funext λc=>oi_pdqsort n x a b c)]
  kernel_rfl
theorem oi_Sort (x:LI):D.a1 x=D.p0 x:=by
 unfold D.a1 D.p0 D.b D.f
 simp only[oi_pdqsort]
theorem sorted_any (l:LI)(hl:l.length≤1100000):∃y,D.O0 l=some y∧D.s l=some y∧List.Perm y l∧∀i j,i<j→j<y.length→y.getD i 0≤y.getD j 0:=by
 obtain⟨y,e,hp,hs⟩:=sort_any l hl
 refine⟨y,?_,?_,hp,hs⟩
 ·unfold D.O0 D.k1 D.n1
  rw[if_pos hl,bs,bs,e];rfl
 ·unfold D.s D.A D.g1
  rw[if_pos hl,bs,bs,oi_Sort,e];rfl
theorem DD :∀(t N:LI),t.Nodup→(∀x∈t,x∈N)→N.length≤t.length→t.Perm N
 |[],N,_,_,h=>by
  have:N=[]:=List.eq_nil_of_length_eq_zero (by simpa using h)
  subst this;exact List.Perm.refl _
 |x::t,N,hn,hs,hl=>by
  have hx:=hs x (by simp)
  rw[List.nodup_cons] at hn
  refine(List.Perm.cons x (DD t (N.erase x) hn.2 (λy hy=> ?_) ?_)).trans (List.perm_cons_erase hx).symm
  ·have hne:y≠x:=λe=>hn.1 (e▸hy)
   exact(List.mem_erase_of_ne hne).2 (hs y (by simp[hy]))
  ·rw[List.length_erase_of_mem hx]
   rw[List.length_cons] at hl
   omega
theorem DE {t:LI}(h:∀k (hk:k<t.length),t[k]∉t.take k):t.Nodup:=by
 rw[List.nodup_iff_pairwise_ne,List.pairwise_iff_getElem]
 intro i j hi hj hij e
 refine h j hj ?_
 rw[←e]
 exact List.mem_take_iff_getElem.2 ⟨i,by omega,rfl⟩
theorem rowIs {y t N:LI}(hp:y.Perm t)(hs:∀i j,i<j→j<y.length→y.getD i 0≤y.getD j 0)(hN:N.Pairwise (·<·)):
  y=N↔(t.length=N.length∧∀k (hk:k<t.length),t[k]∈N∧t[k]∉t.take k):=by
 have hNd:N.Nodup:=by
  rw[List.nodup_iff_pairwise_ne];exact hN.imp (λh=>by omega)
 have hy:y.Pairwise (·≤·):=by
  rw[List.pairwise_iff_getElem]
  intro i j hi hj hij
  have:=hs i j hij hj
  rwa [AI hi,AI hj] at this
 constructor
 ·rintro rfl
  refine⟨hp.length_eq.symm,λk hk=>⟨hp.mem_iff.2 (List.getElem_mem hk),λhm=> ?_⟩⟩
  have hd:t.Nodup:=hp.nodup_iff.1 hNd
  obtain⟨i,hi,e⟩:=List.mem_take_iff_getElem.1 hm
  rw[List.nodup_iff_pairwise_ne,List.pairwise_iff_getElem] at hd
  exact hd i k (by omega) hk (by omega) e
 ·rintro⟨hl,h⟩
  have h1:=DD t N (DE λk hk=>(h k hk).2) (λx hx=>by
   obtain⟨k,hk,rfl⟩:=List.mem_iff_getElem.1 hx
   exact(h k hk).1) (by omega)
  exact(hp.trans h1).eq_of_pairwise (λa b _ _ k1 k2=>by omega) hy (hN.imp (λh=>by omega))
end Go.Sx



namespace Go.Sx
def Sh {α:Type}(xs:List α):Prop:=xs.length≤4294967296
theorem l1In_eq (a b c:Int):D.F0 a b c=some (decide (b≤a)&&decide (a≤c)):=rfl
theorem inRange_eq (a b c:Int):D.o1 a b c=some (decide (b≤a)&&decide (a≤c)):=rfl
theorem any_beq (xs:LI)(n:Int):xs.any (λx=>x==n)=decide (n∈xs):=by
 rw[Bool.eq_iff_iff,List.any_eq_true];simp
theorem Dk (xs:LI)(n:Int)(h:Sh xs):D.m xs n=some (decide (n∈xs)):=by
 unfold Sh at h
 unfold D.m
 refine(loop_anyb xs.length (λi=>xs.getD i 0==n) true (λi hi=> ?_) ?_ rfl rfl).trans ?_
 ·simp only[dlt hi,cond_true,AN hi,bs,wi' hi (by omega),AI hi]
  cases xs[i]==n<;>rfl
 ·simp only[Bo,cond_false]
 ·rw[range_any_list xs (λx=>x==n) _ (λi hi=>by rw[AI hi]),any_beq]
theorem Et (xs:LI)(n:Int)(h:Sh xs):D.q0 xs n=some (decide (n∈xs)):=by
 unfold Sh at h
 unfold D.q0 D.h1
 have e:Aq (σ:=Int) (ρ:=(Unit) ⊕ (Int)) (fun(x_26:Int)=>cond (decide (x_26<(xs.length:Int))) ((idx xs x_26).bind λe_39=>cond (n==e_39) (some (.inr (.inr x_26))) (some (.inl (IntKind.i64.wrap (x_26+1))))) (some (.inr (.inl ())))) 0=
   some (((List.range xs.length).findSome? (λi=>if xs.getD i 0==n then some (Sum.inr (i:Int)) else none)).getD (.inl ())):=by
  refine CL xs.length _ _ (λi hi=> ?_) ?_
  ·simp only[dlt hi,cond_true,AN hi,bs,wi' hi (by omega),AI hi]
   rw[show (n==xs[i])=(xs[i]==n) from Bool.beq_comm ..]
   cases xs[i]==n<;>rfl
  ·simp only[Bo,cond_false]
 rw[e,bs]
 cases hf:(List.range xs.length).findSome? (λi=>if xs.getD i 0==n then some (Sum.inr (i:Int):Unit ⊕ Int) else none) with
 |none=>
  have:n∉xs:=λhm=>by
   obtain⟨i,hi,e⟩:=List.getElem_of_mem hm
   have:=(List.findSome?_eq_none_iff.1 hf) i (List.mem_range.2 hi)
   rw[AI hi,e] at this
   simp at this
  simp[this]
 |some r=>
  obtain⟨i,hi,hr⟩:=List.exists_of_findSome?_eq_some hf
  have hi':=List.mem_range.1 hi
  rw[AI hi'] at hr
  split at hr
  ·rename_i hc
   cases hr
   have:n∈xs:=by rw[←(beq_iff_eq.1 hc)];exact List.getElem_mem _
   simp[this]
  ·cases hr
def SetOf (xs:LI)(n:Int):Prop:=Inc xs∧∀x∈xs,0≤x∧x<n
theorem SetOf.len :∀{xs:LI} {n a:Int},Inc xs→(∀x∈xs,a≤x∧x<n)→xs=[]∨(xs.length:Int)≤n-a
 |[],_,_,_,_=> .inl rfl
 |x::xs,n,a,h,hr=>by
  right
  have h':=List.pairwise_cons.1 h
  have hx:=hr x (by simp)
  rcases SetOf.len (a:=x+1) (n:=n) h'.2 (λy hy=>⟨by have:=h'.1 y hy;omega,(hr y (by simp[hy])).2⟩) with e|e
  ·subst e;simp;omega
  ·simp;omega
theorem SetOf.length_le {xs:LI}{n:Int}(h:SetOf xs n)(hn:0≤n):(xs.length:Int)≤n:=by
 rcases SetOf.len h.1 h.2 with e|e
 ·subst e;simpa using hn
 ·omega
theorem inc_iff (xs:LI):Inc xs↔∀i (hi:i+1<xs.length),xs[i]<xs[i+1]:=by
 unfold Inc
 constructor
 ·intro h i hi
  exact List.pairwise_iff_getElem.1 h i (i+1) (by omega) hi (by omega)
 ·intro h
  rw[List.pairwise_iff_getElem]
  intro i j hi hj hij
  have key:∀k,∀hk:i+k+1<xs.length,xs[i]<xs[i+k+1]:=by
   intro k
   induction k with
   |zero=>intro hk;exact h i hk
   |succ k ih=>intro hk;have:=ih (by omega);have:=h (i+k+1) hk;exact Int.lt_trans (ih (by omega)) this
  obtain⟨k,rfl⟩:∃k,j=i+k+1:=⟨j-i-1,by omega⟩
  exact key k hj
def CM (xs:LI)(n:Int):Bool:=(List.range xs.length).all λi=>(decide (0≤xs.getD i 0)&&decide (xs.getD i 0≤n-1))&& !(decide (0<i)&&decide (xs.getD i 0≤xs.getD (i-1) 0))
theorem DU (xs:LI)(n:Int):CM xs n=true↔SetOf xs n:=by
 unfold CM SetOf
 rw[Cz,inc_iff]
 constructor
 ·intro h
  refine⟨λi hi=> ?_,λx hx=> ?_⟩
  ·have:=h (i+1) hi
   simp[hi,show i<xs.length by omega] at this
   omega
  ·obtain⟨i,hi,rfl⟩:=List.getElem_of_mem hx
   have:=h i hi
   simp[hi] at this
   omega
 ·rintro⟨h1,h2⟩ i hi
  have h3:=h2 _ (List.getElem_mem hi)
  simp[hi]
  refine⟨by omega,?_⟩
  rcases Nat.eq_zero_or_pos i with h0|h0
  ·exact .inl h0
  ·right
   have:=h1 (i-1) (by omega)
   have e:i-1+1=i:=by omega
   simp only[e] at this
   have e2:xs[i-1]?.getD 0=xs[i-1]:=by rw[List.getElem?_eq_getElem (by omega)];rfl
   rw[e2];exact this
theorem D3 (xs:LI)(n:Int)(h:Sh xs)(h0:0≤n)(hn:n≤4294967296):D.d0 xs n=some (CM xs n):=by
 unfold Sh at h
 unfold D.d0
 refine Cd xs.length _ false (λi hi=> ?_) ?_ rfl rfl
 ·simp only[dlt hi,cond_true,AN hi,bs,wi' hi (by omega),AI hi,inRange_eq]
  rw[w64 (x:=n-1) (by omega) (by omega)]
  cases (decide (0≤xs[i])&&decide (xs[i]≤n-1))
  ·simp
  ·by_cases h0:0<i
   ·have e1:IntKind.i64.wrap ((i:Int)-1)=((i-1:Nat):Int):=by rw[w64 (by omega) (by omega)];omega
    have hd:decide ((0:Int)<(i:Int))=true:=by simp;omega
    simp only[Bool.not_true,cond_false,hd,cond_true,e1,AN (show i-1<xs.length by omega),bs,AI (show i-1<xs.length by omega),h0,decide_true,Bool.true_and]
    cases decide (xs[i]≤xs[i-1])<;>rfl
   ·have hd:decide ((0:Int)<(i:Int))=false:=by simp;omega
    simp only[Bool.not_true,cond_false,hd,bs,h0,decide_false,Bool.false_and,Bool.not_false,Bool.and_true,if_true]
 ·simp only[Bo,cond_false]
theorem l1Set_eq (xs:LI)(n:Int)(h:Sh xs)(h0:0≤n)(hn:n≤4294967296):D.b0 xs n=some (CM xs n):=by
 have hh:=h
 unfold Sh at h
 unfold D.b0
 by_cases hl:n<xs.length
 ·have:CM xs n=false:=by
   cases hb:CM xs n
   ·rfl
   ·have:=((DU xs n).1 hb).length_le h0;omega
  simp[hl,this]
 ·simp only[hl,decide_false,cond_false]
  refine Cd xs.length _ false (λi hi=> ?_) ?_ rfl rfl
  ·simp only[dlt hi,cond_true,AN hi,bs,wi' hi (by omega),AI hi,l1In_eq]
   rw[w64 (x:=n-1) (by omega) (by omega)]
   cases (decide (0≤xs[i])&&decide (xs[i]≤n-1))
   ·simp
   ·by_cases h0:0<i
    ·have e1:IntKind.i64.wrap ((i:Int)-1)=((i-1:Nat):Int):=by rw[w64 (by omega) (by omega)];omega
     have hd:decide ((0:Int)<(i:Int))=true:=by simp;omega
     simp only[Bool.not_true,cond_false,hd,cond_true,e1,AN (show i-1<xs.length by omega),bs,AI (show i-1<xs.length by omega),h0,decide_true,Bool.true_and]
     cases decide (xs[i]≤xs[i-1])<;>rfl
    ·have hd:decide ((0:Int)<(i:Int))=false:=by simp;omega
     simp only[Bool.not_true,cond_false,hd,bs,h0,decide_false,Bool.false_and,Bool.not_false,Bool.and_true,if_true]
  ·simp only[Bo,cond_false]
def row (g:LL)(v:Nat):LI:=g.getD v []
theorem C2 {g:LL}{v:Nat}(h:v<g.length):row g v=g[v]:=AI h _
def adj (g:LL)(u v:Nat):Prop:=(v:Int)∈row g u
structure GOk (g:LL):Prop where
 n1:1≤g.length
 n16:g.length≤16
 rows:∀v,v<g.length→SetOf (row g v) g.length
 irr:∀v,v<g.length→¬adj g v v
 sym:∀u v,u<g.length→adj g u v→adj g v u
theorem GOk.mem {g:LL}(h:GOk g){u:Nat}(hu:u<g.length){x:Int}(hx:x∈row g u):∃v:Nat,x=v∧v<g.length∧adj g u v:=by
 have:=(h.rows u hu).2 x hx
 refine⟨x.toNat,by omega,by omega,?_⟩
 unfold adj
 rw[show ((x.toNat:Nat):Int)=x by omega];exact hx
theorem GOk.row_len {g:LL}(h:GOk g){u:Nat}(hu:u<g.length):(row g u).length≤16:=by
 have:=(h.rows u hu).length_le (by omega)
 have:=h.n16
 omega
theorem GOk.lt {g:LL}(h:GOk g){u v:Nat}(hu:u<g.length)(ha:adj g u v):v<g.length:=by
 obtain⟨w,h1,h2,_⟩:=h.mem hu ha
 omega
def Sh2 (g:LL):Prop:=Sh g∧∀r∈g,Sh r
theorem Sh2.row {g:LL}(h:Sh2 g){v:Nat}(hv:v<g.length):Sh (row g v):=by
 rw[C2 hv];exact h.2 _ (List.getElem_mem hv)
theorem BZ {g:LL}{v:Nat}(h:v<g.length):idx g (v:Int)=some (row g v):=by rw[C2 h,AN h]
def gB1 (g:LL):Bool:=(List.range g.length).all λv=>CM (row g v) g.length&& !decide ((v:Int)∈row g v)
def gB2 (g:LL):Bool:=(List.range g.length).all λv=>(row g v).all λx=>decide ((v:Int)∈row g x.toNat)
def gB (g:LL):Bool:=decide (1≤g.length)&&decide (g.length≤16)&&gB1 g&&gB2 g
theorem gB_iff (g:LL):gB g=true↔GOk g:=by
 unfold gB gB1 gB2
 simp only[Bool.and_eq_true,decide_eq_true_eq,DU,Bool.not_eq_true',decide_eq_false_iff_not,List.all_eq_true,List.mem_range]
 constructor
 ·rintro⟨⟨⟨h1,h2⟩,h3⟩,h4⟩
  refine⟨h1,h2,λv hv=>(h3 v hv).1,λv hv=>(h3 v hv).2,λu v hu ha=> ?_⟩
  have:=h4 u hu v ha
  unfold adj
  simpa using this
 ·intro h
  refine⟨⟨⟨h.n1,h.n16⟩,λv hv=>⟨h.rows v hv,h.irr v hv⟩⟩,λv hv x hx=> ?_⟩
  obtain⟨u,rfl,hu,ha⟩:=h.mem hv hx
  have:=h.sym v u hv ha
  simpa [adj] using this
theorem Dt (g:LL)(h:Sh2 g):D.c0 g=some (gB g):=by
 have hl:g.length≤4294967296:=h.1
 unfold D.c0 D.B
 simp only[bs,l1In_eq]
 by_cases hn:1≤g.length∧g.length≤16
 ·have e:(decide ((1:Int)≤(g.length:Int))&&decide ((g.length:Int)≤16))=true:=by simp;omega
  simp only[e,Bool.not_true,cond_false]
  refine(DQ g.length (λv=>CM (row g v) g.length&& !decide ((v:Int)∈row g v)) (.inl ()) (.inr false) (λv hv=> ?_) ?_).trans ?_
  rotate_left
  ·simp only[Bo,cond_false]
  ·show cond (gB1 g) _ _=_
   have e4:gB g=(gB1 g&&gB2 g):=by unfold gB;simp[hn.1,hn.2]
   rw[e4]
   cases hc:gB1 g with
   |false=>rfl
   |true=>
    rw[cond_true,Bool.true_and]
    refine Cd g.length _ false (λv hv=> ?_) ?_ rfl rfl
    ·have hset:SetOf (row g v) g.length:=by
      have:=(Cz _ _).1 hc v hv
      simp only[Bool.and_eq_true] at this
      exact(DU _ _).1 this.1
     simp only[dlt hv,cond_true]
     refine(DQ (row g v).length (λi=>decide ((v:Int)∈row g ((row g v).getD i 0).toNat)) (.inl ()) (.inr false) (λi hi=> ?_) ?_).trans ?_
     ·have hx:=hset.2 _ (List.getElem_mem hi)
      have e5:idx g (row g v)[i]=some (row g ((row g v)[i]).toNat):=by
       have:=BZ (g:=g) (v:=((row g v)[i]).toNat) (by omega)
       rwa [show ((((row g v)[i]).toNat:Nat):Int)=(row g v)[i] by omega] at this
      have hs:=h.row (v:=((row g v)[i]).toNat) (by omega)
      simp only[BZ hv,bs,dlt hi,cond_true,AN hi,e5,Dk _ _ hs,wi (show i<4611686018427387904 by have:=h.row hv;unfold Sh at this;omega),AI hi]
      cases decide ((v:Int)∈row g ((row g v)[i]).toNat)<;>rfl
     ·simp only[BZ hv,bs,Bo,cond_false]
     ·rw[DI (row g v) (λx=>decide ((v:Int)∈row g x.toNat)) _ (λi hi=>by rw[AI hi]),wi' hv (by omega)]
      cases (row g v).all λx=>decide ((v:Int)∈row g x.toNat)<;>rfl
    ·simp only[Bo,cond_false]
  ·simp only[dlt hv,cond_true,BZ hv,bs,l1Set_eq _ _ (h.row hv) (show (0:Int)≤(g.length:Int) by omega) (by omega),Dk _ _ (h.row hv),wi' hv (by omega)]
   cases CM (row g v) g.length
   ·rfl
   ·cases decide ((v:Int)∈row g v)<;>rfl
 ·have e:(decide ((1:Int)≤(g.length:Int))&&decide ((g.length:Int)≤16))=false:=by
   rw[Bool.eq_false_iff];simp;omega
  simp only[e,Bool.not_false,cond_true]
  unfold gB
  congr 1
  symm
  rw[Bool.eq_false_iff]
  simp
  omega
theorem CR (g:LL)(h:Sh2 g):D.J g=some (gB g):=by
 have hl:g.length≤4294967296:=h.1
 unfold D.J
 by_cases hn:1≤g.length∧g.length≤16
 ·have e:(decide ((g.length:Int)<(1:Int))||decide ((16:Int)<(g.length:Int)))=false:=by simp;omega
  simp only[e,cond_false]
  refine(DQ g.length (λv=>CM (row g v) g.length&& !decide ((v:Int)∈row g v)) (.inl ()) (.inr false) (λv hv=> ?_) ?_).trans ?_
  rotate_left
  ·simp only[Bo,cond_false]
  ·show cond (gB1 g) _ _=_
   have e4:gB g=(gB1 g&&gB2 g):=by unfold gB;simp[hn.1,hn.2]
   rw[e4]
   cases hc:gB1 g with
   |false=>rfl
   |true=>
    rw[cond_true,Bool.true_and]
    refine Cd g.length _ false (λv hv=> ?_) ?_ rfl rfl
    ·have hset:SetOf (row g v) g.length:=by
      have:=(Cz _ _).1 hc v hv
      simp only[Bool.and_eq_true] at this
      exact(DU _ _).1 this.1
     simp only[dlt hv,cond_true,BZ hv,bs]
     refine(DQ (row g v).length (λi=>decide ((v:Int)∈row g ((row g v).getD i 0).toNat)) (.inl ()) (.inr false) (λi hi=> ?_) ?_).trans ?_
     ·have hx:=hset.2 _ (List.getElem_mem hi)
      have e5:idx g (row g v)[i]=some (row g ((row g v)[i]).toNat):=by
       have:=BZ (g:=g) (v:=((row g v)[i]).toNat) (by omega)
       rwa [show ((((row g v)[i]).toNat:Nat):Int)=(row g v)[i] by omega] at this
      have hs:=h.row (v:=((row g v)[i]).toNat) (by omega)
      simp only[bs,dlt hi,cond_true,AN hi,e5,Et _ _ hs,wi (show i<4611686018427387904 by have:=h.row hv;unfold Sh at this;omega),AI hi]
      cases decide ((v:Int)∈row g ((row g v)[i]).toNat)<;>rfl
     ·simp only[Bo,cond_false]
     ·rw[DI (row g v) (λx=>decide ((v:Int)∈row g x.toNat)) _ (λi hi=>by rw[AI hi]),wi' hv (by omega)]
      cases (row g v).all λx=>decide ((v:Int)∈row g x.toNat)<;>rfl
    ·simp only[Bo,cond_false]
  ·simp only[dlt hv,cond_true,BZ hv,bs,D3 _ _ (h.row hv) (show (0:Int)≤(g.length:Int) by omega) (by omega),Et _ _ (h.row hv),wi' hv (by omega)]
   cases CM (row g v) g.length
   ·rfl
   ·cases decide ((v:Int)∈row g v)<;>rfl
 ·have e:(decide ((g.length:Int)<(1:Int))||decide ((16:Int)<(g.length:Int)))=true:=by
   simp;omega
  simp only[e,cond_true]
  unfold gB
  congr 1
  symm
  rw[Bool.eq_false_iff]
  simp
  omega
theorem EJ (x y:LI)(h:Sh x):D.Q0 x y=some (decide (x=y)):=by
 unfold D.Q0
 by_cases hl:x.length=y.length
 ·have hb:((x.length:Int) !=(y.length:Int))=false:=by rw[hl];exact bne_self_eq_false _
  rw[hb,cond_false]
  refine(Cd x.length (λi=>decide (x.getD i 0=y.getD i 0)) false (λi hi=> ?_) ?_ rfl rfl).trans ?_
  ·have hi':i<y.length:=by omega
   unfold Sh at h
   rw[dlt hi,cond_true,AN hi,bs,AN hi',bs,AI hi,AI hi']
   by_cases e:x[i]=y[i]
   ·rw[e,bne_self_eq_false,cond_false,wi (by omega)];simp
   ·have:(x[i] !=y[i])=true:=by rw[bne_iff_ne];exact e
    rw[this,cond_true];simp[e]
  ·rw[Bo,cond_false]
  ·congr 1
   rw[Bool.eq_iff_iff,List.all_eq_true,decide_eq_true_eq]
   constructor
   ·intro hh
    refine List.ext_getElem hl λi h1 h2=> ?_
    have:=hh i (by simpa using h1)
    rw[decide_eq_true_eq,AI h1,AI h2] at this
    exact this
   ·rintro rfl i _
    simp
 ·have hb:((x.length:Int) !=(y.length:Int))=true:=by rw[bne_iff_ne];omega
  rw[hb,cond_true,decide_eq_false (λe=>hl (by rw[e]))]
structure OOk (g:LL)(o:LI):Prop where
 len:o.length=g.length
 rng:∀x∈o,0≤x∧x<g.length
 nd:o.Nodup
theorem Ew (v:Nat):D.y (v:Int)=some (ishl .u32 1 (v:Int)):=by
 unfold D.y
 have:decide ((v:Int)<0)=false:=by simp
 rw[this];rfl
theorem impl_one_eq' {x:Int}(h:0≤x):D.y x=some (ishl .u32 1 x):=by
 have:=Ew x.toNat
 rwa [show ((x.toNat:Nat):Int)=x by omega] at this
def mk (xs:LI):Int:=xs.foldl (λs v=>ior .u32 s (ishl .u32 1 v)) 0
theorem Ed (xs:LI)(h:Sh xs)(h0:∀x∈xs,0≤x):D.N xs=some (mk xs):=by
 unfold Sh at h
 unfold D.N
 refine(loop_listb xs (λs i=>(s,i)) (λs v=>ior .u32 s (ishl .u32 1 v)) (λs=>s) (λ_=>True) 0 trivial (λs i hi _=>⟨?_,trivial⟩) (λs _=> ?_)).trans rfl
 ·simp only[dlt hi,cond_true,AN hi,bs,wi' hi (by omega),impl_one_eq' (h0 _ (List.getElem_mem hi))]
 ·simp only[Bo,cond_false]
theorem D6 :∀(xs:LI) (s:Int),VS s→VS (xs.foldl (λs v=>ior .u32 s (ishl .u32 1 v)) s)
 |[],s,h=>h
 |x::xs,s,_=>D6 xs _ (VS.ior _ _)
theorem VS.mk (xs:LI):VS (mk xs):=D6 xs 0 VS.zero
theorem D2 (u:Nat):∀(xs:LI) (s:Int),VS s→(∀x∈xs,0≤x∧x<32)→has (xs.foldl (λs v=>ior .u32 s (ishl .u32 1 v)) s) u=(has s u||decide ((u:Int)∈xs))
 |[],s,_,_=>by simp
 |x::xs,s,hs,h=>by
  have hx:=h x (by simp)
  rw[List.foldl_cons,D2 u xs _ (VS.ior _ _) (λy hy=>h y (by simp[hy])),has_ior hs (VS.ishl _ _)]
  obtain⟨k,rfl⟩:∃k:Nat,x=k:=⟨x.toNat,by omega⟩
  rw[CY (by omega)]
  by_cases hu:u=k
  ·subst hu;simp
  ·have:¬(u:Int)=(k:Int):=by omega
   simp[hu,this]
theorem Dj {xs:LI}(h:∀x∈xs,0≤x∧x<32)(u:Nat):has (mk xs) u=decide ((u:Int)∈xs):=by
 unfold mk;rw[D2 u xs 0 VS.zero h,CI,Bool.false_or]
theorem GOk.mem0 {g:LL}(hg:GOk g){r:LI}(hr:r∈g):r.length≤16∧∀x∈r,0≤x∧x<g.length:=by
 obtain⟨v,hv,rfl⟩:=List.getElem_of_mem hr
 rw[←C2 hv]
 exact⟨hg.row_len hv,(hg.rows v hv).2⟩
theorem netsOf_eq (g:LL)(hg:GOk g):D.n0 g=some (g.map mk):=by
 have h16:=hg.n16
 unfold D.n0
 refine(CV g (λs i=>(s,i)) mk (by omega) (λs i hi _=> ?_) (λs=> ?_)).trans rfl
 ·obtain⟨h1,h2⟩:=hg.mem0 (List.getElem_mem hi)
  simp only[dlt hi,cond_true,AN hi,bs,wi' hi (by omega),Ed g[i] (by unfold Sh;omega) (λx hx=>(h2 x hx).1)]
 ·simp only[Bo,cond_false]
theorem narrow_eq (xs:LI)(h:Sh xs):D.V0 xs=some xs:=by
 unfold Sh at h
 unfold D.V0
 rw[makeD_zero (by omega) (by omega),bs]
 refine(CV xs (λs i=>(s,i)) (λx=>x) h (λs i hi _=> ?_) (λs=> ?_)).trans (by simp)
 ·simp only[dlt hi,cond_true,AN hi,bs,wi' hi (by omega)]
 ·simp only[Bo,cond_false]
theorem wide_eq (xs:LI)(h:Sh xs):D.h0 xs=some xs:=by
 unfold Sh at h
 unfold D.h0
 rw[makeD_zero (by omega) (by omega),bs]
 refine(CV xs (λs i=>(s,i)) (λx=>x) h (λs i hi _=> ?_) (λs=> ?_)).trans (by simp)
 ·simp only[dlt hi,cond_true,AN hi,bs,wi' hi (by omega)]
 ·simp only[Bo,cond_false]
theorem least_eq {s:Int}(h:VS s)(h0:s≠0):∃k:Nat,k<32∧D.E s=some (k:Int)∧has s k=true∧(∀v,v<k→has s v=false)∧
  (∀v,has (iand .u32 s (IntKind.u32.wrap (s-1))) v=(has s v&& !decide (v=k))):=by
 obtain⟨k,h1,h2,h3,h4,h5⟩:=least_spec h h0
 refine⟨k,h1,?_,h2,h3,h5⟩
 unfold D.E D.l1
 have e:(s==0)=false:=by simpa using h0
 simp only[e,cond_false,h4,tz_table k h1,bs]
 rw[w64 (by omega) (by omega)]
theorem list_eq (s:Int)(h:VS s):D.R s=some (Az s):=by
 unfold D.R
 have key:∀(n:Nat) (x:Int) (l:LI),VS x→(Az x).length=n→l.length+n≤32→
   Aq (σ:=Int×LI) (ρ:=(LI)) (fun(s_52:Int×LI)=>match s_52 with|(x_55,l_56)=>cond (x_55 !=0) ((D.E x_55).bind λy_88=>(Bd l_56 ([y_88]:LI)).bind λl_99=>some (.inl ((iand .u32 x_55 (IntKind.u32.wrap (x_55-1))),l_99))) (some (.inr l_56))) (x,l)=some (l++Az x):=by
  intro n
  induction n with
  |zero=>
   intro x l hx hn _
   have e:Az x=[]:=List.eq_nil_of_length_eq_zero hn
   have e0:x=0:=hx.eq_zero.2 λv hv=>by
    cases hc:has x v
    ·rfl
    ·have:=mem_elems.2 ⟨v,hv,hc,rfl⟩;rw[e] at this;simp at this
   rw[e]
   refine BP ?_
   have:(x !=0)=false:=by simp[e0]
   simp only[this,cond_false,List.append_nil]
  |succ n ih=>
   intro x l hx hn hl
   have h0:x≠0:=by rintro rfl;rw[elems_zero] at hn;simp at hn
   obtain⟨k,h1,h2,h3,h4,h5⟩:=least_eq hx h0
   have e:=Ev h1 h3 h4 h5
   have en:(Az (iand .u32 x (IntKind.u32.wrap (x-1)))).length=n:=by rw[e] at hn;simpa using hn
   have hstep:=ih (iand .u32 x (IntKind.u32.wrap (x-1))) (l++[(k:Int)]) (VS.iand _ _) en (by simp;omega)
   have e1:(x !=0)=true:=by simpa using h0
   rw[Cc (s':=(iand .u32 x (IntKind.u32.wrap (x-1)),l++[(k:Int)]))]
   ·rw[hstep,e];simp
   ·simp only[e1,cond_true,h2,bs,BQ (xs:=l) (ys:=[(k:Int)]) (by simp;omega)]
 have:=key (Az s).length s [] h rfl (by simpa using BS s)
 rw[this];simp
theorem elems_sh (s:Int):Sh (Az s):=by have:=BS s;unfold Sh;omega
theorem numbers_eq (s:Int)(h:VS s):D.U0 s=some (Az s):=by
 unfold D.U0
 rw[list_eq s h,bs,wide_eq _ (elems_sh s)];rfl
theorem Inc.short {s:LI}{n:Nat}(h:Inc s)(hr:∀x∈s,0≤x∧x<n):s.length≤n:=by
 rcases SetOf.len h hr with e|e
 ·subst e;simp
 ·omega
end Go.Sx



namespace Go.Sx
end Go.Sx



namespace Go.Sx
def nb (F:LI)(u w:Nat):Bool:=has (F.getD u 0) w
structure FOk (F:LI)(n:Nat):Prop where
 len:F.length=n
 vs:∀u,u<n→VS (F.getD u 0)
 lt:∀u w,u<n→nb F u w=true→w<n
 irr:∀u,u<n→nb F u u=false
 sym:∀u w,u<n→nb F u w=true→nb F w u=true
theorem EA (g:LL)(u:Nat):(g.map mk).getD u 0=mk (row g u):=by
 unfold row
 simp only[List.getD_eq_getElem?_getD,List.getElem?_map]
 cases g[u]? with
 |none=>simp[mk]
 |some r=>rfl
theorem nb_mk {g:LL}(hg:GOk g){u w:Nat}(hu:u<g.length):nb (g.map mk) u w=true↔adj g u w:=by
 have h16:=hg.n16
 unfold nb
 rw[EA,Dj (λx hx=>by have:=(hg.rows u hu).2 x hx;omega)]
 simp[adj]
theorem FOk.of {g:LL}(hg:GOk g):FOk (g.map Sx.mk) g.length:=by
 refine⟨by simp,λu _=>by rw[EA];exact VS.mk _,λu w hu h=>hg.lt hu ((nb_mk hg hu).1 h),λu hu=> ?_,λu w hu h=> ?_⟩
 ·cases h:nb (g.map Sx.mk) u u
  ·rfl
  ·exact absurd ((nb_mk hg hu).1 h) (hg.irr u hu)
 ·have ha:=(nb_mk hg hu).1 h
  exact(nb_mk hg (hg.lt hu ha)).2 (hg.sym u w hu ha)
theorem all_mask :∀n:Fin 17,∀v:Fin 32,has (IntKind.u32.wrap (ishl .u32 1 (n.val:Int)-1)) v.val=decide (v.val<n.val):=by decide+kernel
def PEO (F:LI)(o:LI):Prop:=∀(j:Nat) (v u w:Nat),o[j]? =some (v:Int)→nb F v u=true→nb F v w=true→(u:Int)∉o.take (j+1)→(w:Int)∉o.take (j+1)→u≠w→nb F u w=true
def Lat (F L:LI)(o:LI)(i:Nat):Prop:=∀(j:Nat) (v:Nat),j<i→o[j]? =some (v:Int)→∀w,nb L v w=(nb F v w&&decide ((w:Int)∉o.take (j+1)))
inductive Via (F:LI)(gone:Nat→Prop)(u:Nat):Nat→Prop
 |me:Via F gone u u
 |step {x y:Nat}:Via F gone u x→nb F x y=true→gone y→Via F gone u y
def Bhd (F:LI)(gone:Nat→Prop)(v w:Nat):Prop:=∃x,Via F gone v x∧nb F x w=true
def cnt (n k:Nat):Nat:=((List.range k).filter (λi=>n.testBit i)).length
theorem cnt_add (n a b:Nat):cnt n (a+b)=cnt n a+cnt (n>>>a) b:=by
 unfold cnt
 rw[List.range_add,List.filter_append,List.length_append,List.filter_map,List.length_map]
 congr 2
 apply List.filter_congr
 intro i _
 simp[Nat.testBit_shiftRight]
theorem cnt_mod (n k:Nat):cnt (n%2^k) k=cnt n k:=by
 unfold cnt
 congr 1
 apply List.filter_congr
 intro i hi
 have:=List.mem_range.1 hi
 rw[Nat.testBit_mod_two_pow];simp[this]
theorem elems_length (n:Nat):(Az (n:Int)).length=cnt n 32:=by
 unfold Az cnt
 rw[List.length_map]
 rfl
theorem pop_all :∀b:Fin 256,Ds DP (b.val:Int)=some ((cnt b.val 8:Nat):Int):=by decide+kernel
theorem pop_at {b:Nat}(h:b<256):Ds DP (b:Int)=some ((cnt b 8:Nat):Int):=pop_all ⟨b,h⟩
theorem cnt_le (n k:Nat):cnt n k≤k:=by
 unfold cnt
 exact Nat.le_trans (List.length_filter_le _ _) (by simp)
theorem wrap8 {x:Int}(h0:0≤x)(h:x<256):IntKind.u8.wrap x=x:=by
 simp[IntKind.wrap,IntKind.signed,IntKind.bits];omega
theorem OnesCount32_eq {s:Int}(h:VS s):D.K0 s=some ((Az s).length:Int):=by
 obtain⟨n,rfl,hn⟩:=h.nat
 have s24:Bn .u32 (n:Int) 24=((n>>>24:Nat):Int):=shr_eq (n:Int) 24 h (by omega)
 have s16:Bn .u32 (n:Int) 16=((n>>>16:Nat):Int):=shr_eq (n:Int) 16 h (by omega)
 have s8:Bn .u32 (n:Int) 8=((n>>>8:Nat):Int):=shr_eq (n:Int) 8 h (by omega)
 have lt:∀k,n>>>k<4294967296:=λk=>by
  rw[Nat.shiftRight_eq_div_pow];exact Nat.lt_of_le_of_lt (Nat.div_le_self _ _) hn
 have a255:∀m:Nat,m<4294967296→iand .u32 (m:Int) 255=((m%256:Nat):Int):=λm hm=>by
  have:=CW hm (show (255:Nat)<4294967296 by omega)
  rw[show ((255:Nat):Int)=255 from rfl] at this
  rw[this]
  congr 1
  exact Nat.and_two_pow_sub_one_eq_mod (n:=8) m
 have h24:n>>>24<256:=by rw[Nat.shiftRight_eq_div_pow];exact Nat.div_lt_of_lt_mul (by simpa using hn)
 have ec:cnt n 32=cnt (n%256) 8+cnt (n>>>8%256) 8+cnt (n>>>16%256) 8+cnt (n>>>24) 8:=by
  rw[show (32:Nat)=8+(8+(8+8)) from rfl,cnt_add n 8,cnt_add _ 8,cnt_add _ 8]
  have e1:=cnt_mod n 8;have e2:=cnt_mod (n>>>8) 8;have e3:=cnt_mod (n>>>16) 8
  simp only[show (2:Nat)^8=256 from rfl] at e1 e2 e3
  rw[e1,e2,e3]
  simp only[←Nat.shiftRight_add,Nat.reduceAdd]
  omega
 unfold D.K0
 rw[s24,s16,s8,a255 _ (lt 16),a255 _ (lt 8),a255 n hn,pop_at h24,pop_at (Nat.mod_lt _ (by omega)),pop_at (Nat.mod_lt _ (by omega)),pop_at (Nat.mod_lt _ (by omega))]
 simp only[bs]
 have c1:=cnt_le (n>>>24) 8;have c2:=cnt_le (n>>>16%256) 8;have c3:=cnt_le (n>>>8%256) 8;have c4:=cnt_le (n%256) 8
 generalize cnt (n>>>24) 8=a at*;generalize cnt (n>>>16%256) 8=b at*;generalize cnt (n>>>8%256) 8=c at*;generalize cnt (n%256) 8=d at*
 rw[wrap8 (x:=(a:Int)+b) (by omega) (by omega),wrap8 (x:=(a:Int)+b+c) (by omega) (by omega),wrap8 (x:=(a:Int)+b+c+d) (by omega) (by omega),w64 (by omega) (by omega),elems_length,ec]
 congr 1
 omega
theorem size_eq {s:Int}(h:VS s):D.S s=some ((Az s).length:Int):=by
 unfold D.S;rw[OnesCount32_eq h];rfl
theorem B1 :∀{l m:LI},l.Nodup→(∀x∈l,x∈m)→l.length≤m.length
 |[],_,_,_=>by simp
 |x::l,m,h,hs=>by
  have h':=List.nodup_cons.1 h
  have hx:=hs x (by simp)
  have:=B1 (l:=l) (m:=m.erase x) h'.2 (λy hy=>by
   have hne:y≠x:=λe=>h'.1 (e▸hy)
   exact(List.mem_erase_of_ne hne).2 (hs y (by simp[hy])))
  rw[List.length_erase_of_mem hx] at this
  have hp:0<m.length:=List.length_pos_of_mem hx
  simp;omega
theorem Inc.nodup {l:LI}(h:Inc l):l.Nodup:=List.Pairwise.imp (λh e=>by omega) h
theorem l1All_eq (n:Nat)(hn:n≤4294967295):D.X0 (n:Int)=some ((List.range n).map Int.ofNat):=by
 unfold D.X0
 refine(Ch (λi=>((List.range i).map Int.ofNat,(i:Int))) n ((List.range n).map Int.ofNat) (by simp) (λi hi=> ?_) ?_).trans rfl
 ·simp only[dlt hi,cond_true,wq i]
  rw[BQ (by simp;omega),bs,List.range_succ,List.map_append];rfl
 ·simp only[Bo,cond_false]
def withV (bags:LL)(v:Int):LI:=((List.range bags.length).filter λb=>decide (v∈bags.getD b [])).map Int.ofNat
def Lk (links:LL)(x y:Int):Prop:=[x,y]∈links∨[y,x]∈links
structure Closed (links:LL)(sel m:LI):Prop where
 sub:∀x∈m,x∈sel
 first:∀x,sel.head? =some x→x∈m
 step:∀x∈m,∀y∈sel,Lk links x y→y∈m
def Conn (links:LL)(sel:LI):Prop:=∀m,Closed links sel m→∀x∈sel,x∈m
def LinkIn (n:Nat)(l:LI):Prop:=∃a b:Nat,l=[(a:Int),(b:Int)]∧a<b∧b<n
structure TB (g bags links:LL):Prop where
 n1:1≤bags.length
 n16:bags.length≤16
 many:links.length+1=bags.length
 lks:∀l∈links,LinkIn bags.length l
 sets:∀b∈bags,SetOf b g.length
 tree:Conn links ((List.range bags.length).map Int.ofNat)
 edges:∀u v:Nat,u<g.length→adj g u v→∃b∈bags,(u:Int)∈b∧(v:Int)∈b
 some:∀v,v<g.length→withV bags v≠[]
 conn:∀v,v<g.length→Conn links (withV bags v)
def rowF (r:LI)(u:Nat)(s:LL):LL:=(List.range r.length).foldl (λs i=>if(u:Int)<r.getD i 0 then s++[[(u:Int),r.getD i 0]] else s) s
theorem inner_edges (r:LI)(u:Nat)(s0:LL)(h:s0.length+r.length≤4294967296){step:LL×Int→Option ((LL×Int) ⊕ LL)}
  (hstep:∀s (i:Nat) (hi:i<r.length),step (s,(i:Int))=cond (decide ((u:Int)<r[i])) ((Bd s [[(u:Int),r[i]]]).bind λl=>some (.inl (l,((i+1:Nat):Int)))) (some (.inl (s,((i+1:Nat):Int)))))
  (hend:∀s,step (s,(r.length:Int))=some (.inr s)):Aq step (s0,0)=some (rowF r u s0)∧(rowF r u s0).length≤s0.length+r.length:=by
 have key:=loop_nat (step:=step) r.length (λs i=>(s,i)) (λs i=>if(u:Int)<r.getD i 0 then s++[[(u:Int),r.getD i 0]] else s) (λs=>s) (λi s=>s.length≤s0.length+i) s0 (by omega)
  (λs i hi hs=> ?_) (λs _=>hend s)
 ·exact key
 ·have hg:r.getD i 0=r[i]:=AI hi 0
  refine⟨?_,?_⟩
  ·rw[hstep s i hi,hg]
   by_cases hc:(u:Int)<r[i]
   ·rw[decide_eq_true hc,cond_true,BQ (by simp;omega),if_pos hc];rfl
   ·rw[decide_eq_false hc,cond_false,if_neg hc]
  ·rw[hg]
   split
   ·rw[List.length_append,List.length_singleton];omega
   ·omega
def Ca (g:LL):LL:=(List.range g.length).foldl (λs u=>rowF (row g u) u s) []
theorem EI (g:LL)(hg:GOk g):D.T0 g=some (Ca g):=by
 have h16:=hg.n16
 unfold D.T0
 have key:=loop_nat (ρ:=LL) (step:=(fun(s_288:LL×Int)=>match s_288 with|(l_291,x_296)=>cond (decide (x_296<(g.length:Int))) ((idx g x_296).bind λe_441=>(Aq (σ:=LL×Int) (ρ:=(LL)) (fun(s_508:LL×Int)=>match s_508 with|(l_511,x_516)=>cond (decide (x_516<(e_441.length:Int))) ((idx e_441 x_516).bind λe_551=>cond (decide (x_296<e_551)) ((Bd l_511 ([([x_296,e_551]:LI)]:LL)).bind λl_569=>some (.inl (l_569,(IntKind.i64.wrap (x_516+1))))) (some (.inl (l_511,(IntKind.i64.wrap (x_516+1)))))) (some (.inr l_511))) (l_291,0)).bind λl_544=>some (.inl (l_544,(IntKind.i64.wrap (x_296+1))))) (some (.inr l_291))))
  g.length (λs i=>(s,i)) (λs u=>rowF (row g u) u s) (λs=>s) (λi s=>s.length≤16*i) [] (by simp) (λs u hu hs=> ?_) (λs _=> ?_)
 ·exact congrArg (λz=>Option.bind z λl=>some l) key.1
 ·have hr:=hg.row_len hu
  obtain⟨k1,k2⟩:=inner_edges (row g u) u s (by omega) (step:=(fun(s_508:LL×Int)=>match s_508 with|(l_511,x_516)=>cond (decide (x_516<((row g u).length:Int))) ((idx (row g u) x_516).bind λe_551=>cond (decide ((u:Int)<e_551)) ((Bd l_511 ([([(u:Int),e_551]:LI)]:LL)).bind λl_569=>some (.inl (l_569,(IntKind.i64.wrap (x_516+1))))) (some (.inl (l_511,(IntKind.i64.wrap (x_516+1)))))) (some (.inr l_511)))) (λs i hi=>by
    simp only[dlt hi,cond_true,AN hi,bs,wq i]) (λs=>by simp only[Bo,cond_false])
  refine⟨?_,by omega⟩
  simp only[dlt hu,cond_true,BZ hu,bs,wq u]
  exact(congrArg (λz=>Option.bind z _) k1).trans rfl
 ·simp only[Bo,cond_false]
theorem GOk.sh2 {g:LL}(hg:GOk g):Sh2 g:=by
 have h16:=hg.n16
 exact⟨by unfold Sh;omega,λr hr=>by have:=(hg.mem0 hr).1;unfold Sh;omega⟩
theorem gB_true {g:LL}(hg:GOk g):gB g=true:=(gB_iff g).2 hg
theorem Ep (g:LL)(hg:GOk g):D.P0 g=some ((Ca g).length:Int):=by
 unfold D.P0 D.i1
 rw[CR g hg.sh2,gB_true hg,bs,Bool.not_true,cond_false,EI g hg];rfl
structure Fill (g:LL)(o F L:LI):Prop where
 elim:D.s1 (g.map mk) o=some (F,L)
 f:FOk F g.length
 lenL:L.length=g.length
 vsL:∀u,u<g.length→VS (L.getD u 0)
 mono:∀u w,u<g.length→adj g u w→nb F u w=true
 lat:Lat F L o g.length
 peo:PEO F o
 same:PEO (g.map mk) o→F=g.map mk
 latb:∀(j:Nat) (v:Nat),o[j]? =some (v:Int)→∀w:Nat,nb L v w=true↔(w:Int)∉o.take (j+1)∧Bhd (g.map mk) (λx=>(x:Int)∈o.take j) v w
def RowOk (t N:LI):Prop:=(t.length=N.length∧∀k (hk:k<t.length),t[k]∈N∧t[k]∉t.take k)∧(0<t.length→t.getD 0 0=N.getD 0 0)
open Classical in
noncomputable def CO (t N:LI):Bool:=decide (RowOk t N)
open Classical in
theorem rowB_t {t N:LI}(h:RowOk t N):CO t N=true:=by unfold CO;exact decide_eq_true h
open Classical in
theorem DM {t N:LI}(h:¬RowOk t N):CO t N=false:=by unfold CO;exact decide_eq_false h
theorem Dp {g T:LL}(hs:Sh2 g)(hT:T.length≤1100000)(hT2:∀x∈T,x.length≤1100000):
  D.Q g T=some (gB g&&decide (T.length=g.length)&&(List.range T.length).all λv=>CO (T.getD v []) (g.getD v [])):=by
 unfold D.Q
 rw[CR g hs,bs]
 cases hb:gB g with
 |false=>rfl
 |true=>
  have hg:=(gB_iff g).1 hb
  by_cases hl:T.length=g.length
  ·have h1:((T.length:Int) !=(g.length:Int))=false:=by rw[hl];exact bne_self_eq_false _
   rw[h1,Bool.not_true,Bool.or_false,cond_false,decide_eq_true hl,Bool.true_and,Bool.true_and]
   refine Cd T.length _ false (λi hi=> ?_) ?_ rfl rfl
   ·have hi2:i<g.length:=by omega
    obtain⟨y,e,_,hp,hso⟩:=sorted_any T[i] (hT2 _ (List.getElem_mem hi))
    have hN:g[i].Pairwise (·<·):=by
     have:=(hg.rows i hi2).1
     rw[C2 hi2] at this
     exact this
    have hiff:=rowIs hp hso hN
    have hy:Sh y:=by
     have:=hp.length_eq;have:=hT2 _ (List.getElem_mem hi);unfold Sh;omega
    rw[dlt hi,cond_true,AN hi,bs,AN hi2,bs,e,bs,EJ y _ hy,bs,AI hi,AI hi2]
    by_cases hyN:y=g[i]
    ·have hr:=hiff.1 hyN
     rw[decide_eq_true hyN,Bool.not_true,cond_false]
     by_cases h0:0<T[i].length
     ·have h0':0<g[i].length:=by omega
      rw[decide_eq_true (show (0:Int)<T[i].length by omega),cond_true]
      rw[show (0:Int)=((0:Nat):Int) from rfl,AN h0,bs,bs,AN h0',bs,bs,bs]
      by_cases h5:T[i][0]=g[i][0]
      ·have:CO T[i] g[i]=true:=rowB_t ⟨hr,λ_=>by rw[AI h0,AI h0',h5]⟩
       rw[this,h5,bne_self_eq_false,cond_false,if_pos rfl,wi (by omega)]
      ·have:CO T[i] g[i]=false:=DM λh=>h5 (by have:=h.2 h0;rwa [AI h0,AI h0'] at this)
       have h6:(T[i][0] !=g[i][0])=true:=by rw[bne_iff_ne];exact h5
       rw[this,h6];rfl
     ·have:CO T[i] g[i]=true:=rowB_t ⟨hr,λh=>absurd h h0⟩
      rw[decide_eq_false (show¬(0:Int)<T[i].length by omega),this,if_pos rfl]
      show some (Sum.inl (IntKind.i64.wrap ((i:Int)+1)))=_
      rw[wi (by omega)]
    ·have:CO T[i] g[i]=false:=DM λh=>hyN (hiff.2 h.1)
     rw[decide_eq_false hyN,this];rfl
   ·rw[Bo,cond_false]
  ·have h1:((T.length:Int) !=(g.length:Int))=true:=by rw[bne_iff_ne];omega
   rw[h1,Bool.or_true,decide_eq_false hl];rfl
theorem EF {g T:LL}(hs:Sh2 g)(hT:T.length≤1100000)(hT2:∀x∈T,x.length≤1100000):
  D.i0 g T=some (gB g&&decide (T.length=g.length)&&(List.range T.length).all λv=>CO (T.getD v []) (g.getD v [])):=by
 unfold D.i0
 rw[Dt g hs,bs]
 cases hb:gB g with
 |false=>rfl
 |true=>
  by_cases hl:T.length=g.length
  ·have h1:((T.length:Int) !=(g.length:Int))=false:=by rw[hl];exact bne_self_eq_false _
   rw[h1,Bool.not_true,Bool.or_false,cond_false,decide_eq_true hl,Bool.true_and,Bool.true_and]
   refine Cd T.length _ false (λi hi=> ?_) ?_ rfl rfl
   ·have hi2:i<g.length:=by omega
    have hti:T[i].length≤1100000:=hT2 _ (List.getElem_mem hi)
    have hgi:Sh g[i]:=hs.2 _ (List.getElem_mem hi2)
    rw[dlt hi,cond_true,AN hi,bs,AN hi2,bs,AI hi,AI hi2]
    by_cases hlen:T[i].length=g[i].length
    ·have h2:((T[i].length:Int) !=(g[i].length:Int))=false:=by rw[hlen];exact bne_self_eq_false _
     rw[h2,cond_false]
     have hhead:((cond (decide ((0:Int)<(T[i].length:Int))) ((idx T[i] 0).bind λe_1035=>(some g[i]).bind λe_1041=>(idx e_1041 0).bind λe_1047=>some (e_1035 !=e_1047)) (some false)).bind λb_1033=>some b_1033)=some (decide (0<T[i].length∧T[i].getD 0 0≠g[i].getD 0 0)):=by
      by_cases h0:0<T[i].length
      ·have h0':0<g[i].length:=by omega
       rw[decide_eq_true (show (0:Int)<T[i].length by omega),cond_true,show (0:Int)=((0:Nat):Int) from rfl,AN h0,bs,bs,AN h0',bs,bs,AI h0,AI h0']
       congr 1
       rw[Bool.eq_iff_iff,bne_iff_ne,decide_eq_true_eq]
       exact⟨λh=>⟨h0,h⟩,λh=>h.2⟩
      ·rw[decide_eq_false (show¬(0:Int)<T[i].length by omega),cond_false,bs,decide_eq_false (λh=>h0 h.1)]
     rw[hhead,bs]
     by_cases hh:0<T[i].length∧T[i].getD 0 0≠g[i].getD 0 0
     ·rw[decide_eq_true hh,cond_true,DM (λh=>hh.2 (h.2 hh.1))];rfl
     ·rw[decide_eq_false hh,cond_false]
      refine(DQ T[i].length (λk=>decide (T[i].getD k 0∈g[i])&& !decide (T[i].getD k 0∈T[i].take k)) (.inl ()) (.inr false) (λk hk=> ?_) ?_).trans ?_
      ·rw[dlt hk,cond_true,bs,AN hk,bs,Dk _ _ hgi,bs,AI hk]
       by_cases hm:T[i][k]∈g[i]
       ·rw[decide_eq_true hm,Bool.not_true,cond_false,sliceD_pre (by omega),bs,bs,Dk _ _ (by unfold Sh;rw[List.length_take];omega),bs,bs]
        cases decide (T[i][k]∈T[i].take k) with
        |true=>rfl
        |false=>rw[cond_false,wi (by omega)];rfl
       ·rw[decide_eq_false hm];rfl
      ·rw[Bo,cond_false]
      ·cases hall:(List.range T[i].length).all λk=>decide (T[i].getD k 0∈g[i])&& !decide (T[i].getD k 0∈T[i].take k) with
       |true=>
        rw[rowB_t ⟨⟨hlen,λk hk=> ?_⟩,λh0=>Classical.byContradiction λhn=>hh ⟨h0,hn⟩⟩,cond_true,if_pos rfl,wi (by omega)]
        have:=List.all_eq_true.1 hall k (by simpa using hk)
        rw[AI hk] at this
        simpa using this
       |false=>
        rw[DM (λh=> ?_),cond_false]
        ·rfl
        ·have:(List.range T[i].length).all (λk=>decide (T[i].getD k 0∈g[i])&& !decide (T[i].getD k 0∈T[i].take k))=true:=List.all_eq_true.2 λk hk=>by
          have hk':k<T[i].length:=by simpa using hk
          have:=h.1.2 k hk'
          rw[AI hk']
          simpa using this
         rw[this] at hall;cases hall
    ·have h2:((T[i].length:Int) !=(g[i].length:Int))=true:=by rw[bne_iff_ne];omega
     rw[h2,DM (λh=>hlen h.1.1)];rfl
   ·rw[Bo,cond_false]
  ·have h1:((T.length:Int) !=(g.length:Int))=true:=by rw[bne_iff_ne];omega
   rw[h1,Bool.or_true,decide_eq_false hl];rfl
def cz :LI→LI→Int
 |[],[]=>0
 |[],_::_=> -1
 |_::_,[]=>1
 |a::x,b::y=>if a<b then-1 else if b<a then 1 else cz x y
def lk :Nat→LI→Int
 |0,_=>0
 |_+1,[]=>0
 |d+1,a::l=>(a+1)*33^d+lk d l
def lkey (s:Int):Int:=lk 32 (Az s)
def skey (s:Int):Int:=((Az s).length:Int)*33^32+lkey s
theorem least_of {P:Nat→Prop}(h:∃j,P j):∃j,P j∧∀i,i<j→¬P i:=by
 obtain⟨j,hj⟩:=h
 induction j using Nat.strongRecOn with
 |ind j ih=>
  by_cases hc:∃i,i<j∧P i
  ·obtain⟨i,h1,h2⟩:=hc;exact ih i h1 h2
  ·exact⟨j,hj,λi hi hp=>hc ⟨i,hi,hp⟩⟩
def Bc (f:Nat→Nat):Nat→Nat
 |0=>0
 |n+1=>Bc f n+f n
theorem AX {f g:Nat→Nat}:∀{n:Nat},(∀i,i<n→f i=g i)→Bc f n=Bc g n
 |0,_=>rfl
 |n+1,h=>by simp only[Bc];rw[AX (n:=n) (λi hi=>h i (by omega)),h n (by omega)]
theorem CU (f g:Nat→Nat):∀n,Bc (λi=>f i+g i) n=Bc f n+Bc g n
 |0=>rfl
 |n+1=>by simp only[Bc];rw[CU f g n];omega
theorem CK :∀n,Bc (λ_=>0) n=0
 |0=>rfl
 |n+1=>by simp only[Bc];rw[CK n]
theorem sumN_swap (f:Nat→Nat→Nat)(m:Nat):∀n,Bc (λi=>Bc (f i) m) n=Bc (λj=>Bc (λi=>f i j) n) m
 |0=>by simp only[Bc];rw[CK]
 |n+1=>by simp only[Bc];rw[sumN_swap f m n,←CU]
def bit (b:Bool):Nat:=if b then 1 else 0
theorem Db (p:Nat→Bool):∀n,((List.range n).filter p).length=Bc (λi=>bit (p i)) n
 |0=>rfl
 |n+1=>by
  rw[List.range_succ,List.filter_append,List.length_append,Db p n]
  simp only[Bc,bit]
  cases h:p n<;>simp[h]
theorem sumN_tail {f : Nat → Nat} {n m : Nat} (h : n ≤ m) (hz : ∀ i, n ≤ i → f i = 0) : Bc f m = Bc f n := by
  induction m with
  | zero => obtain rfl : n = 0 := by omega
            rfl
  | succ m ih =>
    by_cases hm : n = m + 1
    · rw [hm]
    · simp only [Bc]; rw [ih (by omega), hz m (by omega)]; rfl
theorem elems_sum {s:Int}{n:Nat}(hn:n≤32)(h:∀v,has s v=true→v<n):(Az s).length=Bc (λv=>bit (has s v)) n:=by
 unfold Az
 rw[List.length_map,Db]
 refine sumN_tail hn (λi hi=> ?_)
 unfold bit
 cases hc:has s i
 ·rfl
 ·have:=h i hc;omega
def S2 (n:Nat)(p:Nat→Nat→Bool):Nat:=Bc (λu=>Bc (λw=>bit (p u w)) n) n
theorem S2_congr {n:Nat}{p q:Nat→Nat→Bool}(h:∀u w,u<n→w<n→p u w=q u w):S2 n p=S2 n q:=
 AX λu hu=>AX λw hw=>by rw[h u w hu hw]
theorem S2_swap (n:Nat)(p:Nat→Nat→Bool):S2 n p=S2 n (λu w=>p w u):=by
 unfold S2
 rw[sumN_swap]
theorem S2_or (n:Nat)(p q:Nat→Nat→Bool)(h:∀u w,u<n→w<n→p u w=true→q u w=true→False):S2 n (λu w=>p u w||q u w)=S2 n p+S2 n q:=by
 unfold S2
 rw[←CU]
 refine AX λu hu=> ?_
 rw[←CU]
 refine AX λw hw=> ?_
 have:=h u w hu hw
 unfold bit
 cases h1:p u w<;>cases h2:q u w<;>simp_all
theorem S2_half {n:Nat}{A:Nat→Nat→Bool}{lt:Nat→Nat→Bool}(hs:∀u w,u<n→w<n→A u w=A w u)(h1:∀u w,u<n→w<n→A u w=true→(lt u w=true∨lt w u=true))(h2:∀u w,u<n→w<n→lt u w=true→lt w u=true→False):
  S2 n A=2*S2 n (λu w=>A u w&&lt u w):=by
 have e1:S2 n A=S2 n (λu w=>(A u w&&lt u w)||(A u w&&lt w u)):=S2_congr λu w hu hw=>by
  have:=h1 u w hu hw
  cases ha:A u w
  ·simp
  ·rcases this ha with h|h<;>simp[h]
 have e2:S2 n (λu w=>A u w&&lt w u)=S2 n (λu w=>A u w&&lt u w):=by
  rw[S2_swap]
  exact S2_congr λu w hu hw=>by rw[hs u w hu hw]
 rw[e1,S2_or,e2]
 ·omega
 ·intro u w hu hw h3 h4
  simp only[Bool.and_eq_true] at h3 h4
  exact h2 u w hu hw h3.2 h4.2
theorem rowF_len (r:LI)(u:Nat)(s:LL):(rowF r u s).length=s.length+(r.filter λx=>decide ((u:Int)<x)).length:=by
 unfold rowF
 have key:∀i,i≤r.length→((List.range i).foldl (λs i=>if(u:Int)<r.getD i 0 then s++[[(u:Int),r.getD i 0]] else s) s).length=s.length+((r.take i).filter λx=>decide ((u:Int)<x)).length:=by
  intro i
  induction i with
  |zero=>intro _;simp
  |succ i ih=>
   intro hi
   have hi':i<r.length:=by omega
   rw[List.range_succ,List.foldl_append,List.foldl_cons,List.foldl_nil,List.take_succ_eq_append_getElem hi',List.filter_append,List.length_append,←Nat.add_assoc,←ih (by omega),AI hi']
   by_cases hc:(u:Int)<r[i]<;>simp[hc]
 have:=key r.length (Nat.le_refl _)
 rwa [List.take_length] at this
theorem edgesF_len (g:LL):(Ca g).length=Bc (λu=>((row g u).filter λx=>decide ((u:Int)<x)).length) g.length:=by
 unfold Ca
 have key:∀n,((List.range n).foldl (λs u=>rowF (row g u) u s) []).length=Bc (λu=>((row g u).filter λx=>decide ((u:Int)<x)).length) n:=by
  intro n
  induction n with
  |zero=>rfl
  |succ n ih=>rw[List.range_succ,List.foldl_append,List.foldl_cons,List.foldl_nil,rowF_len,ih];rfl
 exact key _
theorem Df {s:Int}{n:Nat}(hn:n≤32)(h:∀v,has s v=true→v<n)(p:Int→Bool):((Az s).filter p).length=Bc (λv=>bit (has s v&&p (v:Int))) n:=by
 unfold Az
 rw[List.filter_map,List.length_map,List.filter_filter,Db]
 have e:Bc (λi=>bit ((p∘Int.ofNat) i&&has s i)) 32=Bc (λv=>bit (has s v&&p (v:Int))) 32:=AX λi _=>by
  rw[Bool.and_comm];rfl
 rw[e]
 refine sumN_tail hn (λi hi=> ?_)
 cases hc:has s i
 ·rfl
 ·have:=h i hc;omega
def full (n:Nat):Int:=IntKind.u32.wrap (ishl .u32 1 (n:Int)-1)
theorem full_vs (n:Nat):VS (full n):=VS.wrap _
theorem DX {n:Nat}(h:n≤16)(v:Nat):has (full n) v=decide (v<n):=by
 by_cases hv:v<32
 ·exact all_mask ⟨n,by omega⟩ ⟨v,hv⟩
 ·rw[Eh (full_vs n) (by omega)];symm;simp;omega
theorem DZ (F:LI):D.T F=some (full F.length):=by
 unfold D.T D.e1
 have:decide ((F.length:Int)<0)=false:=by simp
 rw[this];rfl
section
variable {g : LL} {o : LI} (hg : GOk g) (ho : OOk g o)
include hg ho
end
end Go.Sx

namespace Go.Sx
section
variable {g : LL} {o : LI} (hg : GOk g) (ho : OOk g o)
include hg ho
def mx (f:Nat→Int):Nat→Int
 |0=>0
 |n+1=>max (mx f n) (f n)
end
end Go.Sx

namespace Go.Sx
def dg (g:LL)(s:Int)(v:Int):Int:=((Az (iand .u32 (mk (row g v.toNat)) s)).length:Int)
def CQ (F:LI)(K:Int):Prop:=∀u w,has K u=true→has K w=true→u≠w→nb F u w=true
def MX (F:LI)(n:Nat)(K:Int):Prop:=CQ F K∧∀w,w<n→has K w=false→∃u,has K u=true∧nb F u w=false
def In (n:Nat)(K:Int):Prop:=VS K∧∀w,has K w=true→w<n
theorem elems_mk {n:Nat}{x:LI}(hn:n≤16)(hi:Inc x)(hr:∀z∈x,0≤z∧z<n):Az (mk x)=x:=by
 have h32:∀z∈x,0≤z∧z<32:=λz hz=>by have:=hr z hz;omega
 refine Inc.ext (BL _) hi (λz=> ?_)
 rw[mem_elems]
 constructor
 ·rintro⟨v,_,h,rfl⟩
  rw[Dj h32] at h
  exact of_decide_eq_true h
 ·intro hz
  have:=h32 z hz
  refine⟨z.toNat,by omega,?_,by omega⟩
  rw[Dj h32,show ((z.toNat:Nat):Int)=z by omega]
  exact decide_eq_true hz
def Cq (g:LL)(x:LI):Prop:=∀u w:Nat,(u:Int)∈x→(w:Int)∈x→u≠w→adj g u w
theorem inc_len {n:Nat}{x:LI}(hi:Inc x)(hr:∀z∈x,0≤z∧z<n):x.length≤n:=by
 have:=B1 (m:=(List.range n).map Int.ofNat) hi.nodup (λz hz=>by
  have:=hr z hz
  exact List.mem_map.2 ⟨z.toNat,List.mem_range.2 (by omega),by show ((z.toNat:Nat):Int)=z;omega⟩)
 simpa using this
structure GC (g:LL)(l:LI):Prop where
 up:l.Pairwise λa b=>lkey a<lkey b
 mem:∀K,K∈l↔In g.length K∧MX (g.map mk) g.length K
def mis (F:LI)(n:Nat)(S:Int):Nat:=S2 n (λu w=>has S u&&(has S w&&(decide (w<u)&& !nb F w u)))
def cd (F:LI)(s v:Int):Int:=((Az (iand .u32 (F.getD v.toNat 0) s)).length:Int)
def cf (n:Nat)(F:LI)(s v:Int):Int:=(mis F n (iand .u32 (F.getD v.toNat 0) s):Int)
section
variable {g : LL} (hg : GOk g)
include hg
end
end Go.Sx
