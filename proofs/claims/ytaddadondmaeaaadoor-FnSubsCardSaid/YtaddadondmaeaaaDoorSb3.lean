/- Parts. -/
import Derived.Test.YtaddadondmaeaaaDoorSb2
import Derived.Test.YtaddadondmaeaaaDoorProg
import Derived.KernelRfl
set_option linter.unusedVariables false
set_option linter.unusedSimpArgs false
set_option maxRecDepth 100000
namespace Go.Proofs.YtaddadondmaeaaaDoor
open Go Go.Sx
open Go.Proofs.Tryd Go.Proofs.YtaddadondmaeaaaDoor.Tryd IntKind
variable {W w : World} {G : GH} {H : List Itm}
theorem T49 :SlT prog 49 83 1 4 (.int .u32 0):=⟨underlying49,Tryd.t83,by kernel_rfl,by kernel_rfl,by kernel_rfl,by kernel_rfl⟩
theorem T63 :SlT prog 63 66 2 16 (.agg #[(iv 0),(iv 0)]):=⟨underlying63,Tryd.t66,by kernel_rfl,by kernel_rfl,by kernel_rfl,by kernel_rfl⟩
theorem Pl83 :BS prog 83:=isAgg83
theorem Ag66 :Agg prog 66 2:=⟨isAgg66,sizeOf66⟩
theorem Wk.H0 {aa v1:Value}{ab:LL}{x1:LI}(m:Mem W G w (H))(ac:R2 G aa ab)(h1:R1 G v1 x1){y:(LL)}(hd:D.H0 ab x1=some y):
  Calls prog 76 #[(.agg #[aa]),v1] w (Res W G H (λG' Ho v=>∃r0:Value,∃i0:Itm,Ho=[i0]∧v=(.agg #[r0])∧Ow R1 29 G' i0 r0 y)):=by
 refine Aw (args:=[(.agg #[aa]),v1]) (N:=37) [.cell 4 26] func76 Z Z (lb Z) Z λa f=> ?_
 unfold D.H0 at hd
 refine Ae ?_
 refine Bf (cs:=[aa]) m f Z Z Z λad w a m f=>AH (cs:=[sn]) zeroValue26 m f Z Z λae w a m f=>AG ?_
 refine Ab f Z λa f=>Bb underlying29 f Z Z h1 λa f=> ?_
 have⟨af,ag,hd⟩:=bind_some hd
 refine Az f Z call66 (Wk.n m ag) λah ai aj w ak m al a f=> ?_
 obtain⟨am,an,rfl,rfl,ao⟩:=al
 have ac:=rd2 ak ac
 have h1:=rd1 ak h1
 refine AH (cs:=[sn]) zeroValue26 m f Z Z λap w a m f=>Ai 0 0 (ds:=[am]) m sizeOf26 f Z Z Z (Ah (Ow.one1 1 m ao Z) An) Z (lb Z) Z λw m=>Aa (Ag (Ae ?_))
 refine Ac f Z λa f=>Aa ?_
 have⟨aq,ar,hd⟩:=bind_some hd
 refine AR (λa w=>∃au:LL,au=aq∧∃(av:GH) (aw:Itm),GLe ai av∧Fr a 37 [(4,(pb ae)),(5,(pb ap))]∧Mem W av w (ib ae 26 [sn]::ib ap 26 [am]::aw::H)∧Ow R1 29 av aw am au) ?_ ?_
 ·refine Ap ?_
  have m:=m.fr 2
  have m:Mem W ai w (ib ad 26 [aa]::ib ae 26 [sn]::ib ap 26 [am]::an::H):=m.fr 3
  refine AQ (λax a w=>∃ay:Int,∃az:LL,(ay,az)=ax∧∃(aA:GH) (aB:Itm),GLe ai aA∧Fr a 37 [(1,v1),(2,(pb ad)),(4,(pb ae)),(5,(pb ap)),(6,(iv ay))]∧Mem W aA w (ib ad 26 [aa]::ib ae 26 [sn]::ib ap 26 [am]::aB::H)∧Ow R1 29 aA aB am az) ar ⟨_,_,Z,_,an,gr,f.k Z,m,ao⟩ ?_
  clear ar f m
  rintro ax aC aD aE a w ⟨ay,az,rfl,aA,aB,aF,f,m,aG⟩
  have h1:=rd1 aF h1
  have ac:=rd2 aF ac
  refine Ag (Ae ?_)
  refine Ab f Z λa f=>Ab f Z λa f=>Bb underlying29 f Z Z h1 λa f=>Ak f Z Z AV λa f=>Aa ?_
  rcases Af aD with⟨aH,aD⟩|⟨aH,aD⟩
  ·refine Al f Z aH ?_
   refine Ao ?_
   refine Ag (Ap (Ae ?_))
   refine Ac f Z λa f=>Aa ?_
   have⟨aI,aJ,aD⟩:=bind_some aD
   refine AR (λa w=>∃aK:LL,aK=aI∧∃(aL:GH) (aM:Itm),GLe aA aL∧Fr a 37 [(1,v1),(2,(pb ad)),(4,(pb ae)),(5,(pb ap)),(6,(iv ay))]∧Mem W aL w (ib ad 26 [aa]::ib ae 26 [sn]::ib ap 26 [am]::aM::H)∧Ow R1 29 aL aM am aK) ?_ ?_
   ·refine Ap ?_
    refine AQ (λaN a w=>∃aO:Int,∃aP:LL,(aO,aP)=aN∧∃(aQ:GH) (aR:Itm),GLe aA aQ∧Fr a 37 [(1,v1),(2,(pb ad)),(4,(pb ae)),(5,(pb ap)),(6,(iv ay)),(7,(iv aO))]∧Mem W aQ w (ib ad 26 [aa]::ib ae 26 [sn]::ib ap 26 [am]::aR::H)∧Ow R1 29 aQ aR am aP) aJ ⟨_,_,Z,_,aB,gr,f.k Z,m,aG⟩ ?_
    clear aJ f m
    rintro aN aS aT aU a w ⟨aO,aP,rfl,aQ,aR,aV,f,m,aW⟩
    have h1:=rd1 aV h1
    have ac:=rd2 aV ac
    refine Ag (Ae ?_)
    refine Ab f Z λa f=>Ab f Z λa f=>Ak f Z Z AV λa f=>Aa ?_
    rcases Af aT with⟨aX,aT⟩|⟨aX,aT⟩
    ·refine Al f Z aX ?_
     refine Ao ?_
     refine Ag (Ap (Ag ?_))
     refine Bc 10 AW (by kernel_rfl) m ?_
     refine BC (i:=0) (ds:=[aa]) 10 0 AA Z Z Z Z (by kernel_rfl) Z f Z Z Z λa f=>Ay 1 10 Z f Z λa f=>Ay 2 10 Z f Z λa f=> ?_
     have⟨aY,aZ,aT⟩:=bind_some aT
     refine Bs 3 10 T29 h1 aZ Z f Z Z λa0 a1 a a2 a3 f=> ?_
     subst a3
     refine Bq 4 10 Pl2 a2 Z f Z λa f=>Ay 5 10 Z f Z λa f=>Ay 6 10 Z f Z λa f=> ?_
     have⟨a4,a5,aT⟩:=bind_some aT
     refine Bs 7 10 T29 h1 a5 Z f Z Z λa6 a7 a a8 a9 f=> ?_
     subst a9
     refine Bq 8 10 Pl2 a8 Z f Z λa f=> ?_
     have⟨ba,bb,aT⟩:=bind_some aT
     refine BL (i:=9) 10 Z (by kernel_rfl) Z f Z Z Z call61 (λ_ _ w bc m=>Wk.i m (rd2 bc ac) bb) λa f=>A1 λbd w be m=> ?_
     have aW:=Ow.mono (RSl.mono (RI.mono _)) be aW
     refine Aa ?_
     rcases Af aT with⟨bf,aT⟩|⟨bf,aT⟩
     ·refine Al f Z bf ?_
      refine Aq ?_
      refine Au 2 0 (ds:=[am]) m AA f Z Z Z Z Z λa f=>Ab f Z λa f=>Ab f Z λa f=> ?_
      have m:Mem W bd w (aR::ib ad 26 [aa]::ib ae 26 [sn]::ib ap 26 [am]::H):=m.fr 3
      have⟨bg,bh,aT⟩:=bind_some aT
      refine Az f Z call67 (Wk.j m aW bh) λbi bj bk w bl m bm a f=> ?_
      obtain⟨bn,rfl,rfl,bo⟩:=bm
      refine Ai 3 0 (ds:=[am]) m sizeOf26 f Z Z Z (Ah (Ow.one1 0 m bo Z) An) Z (lb Z) Z λw m=>Aa (Aq ?_)
      refine Ab f Z λa f=>Ak f Z Z AD λa f=>Ac f Z λa f=>Aa ?_
      have m:=m.fr 3
      have m:=m.fr 3
      have m:Mem W bj w (ib ad 26 [aa]::ib ae 26 [sn]::ib ap 26 [am]::bn::H):=m.fr 3
      obtain rfl:=sj aT
      exact⟨_,Z,_,_,Z,_,bn,(gt aV (gt be bl)),f.k Z,m,bo⟩
     ·refine Aj f Z bf ?_
      refine Ao ?_
      refine Aq ?_
      refine Ab f Z λa f=>Ak f Z Z AD λa f=>Ac f Z λa f=>Aa ?_
      obtain rfl:=sj aT
      exact⟨_,Z,_,_,Z,_,aR,(gt aV be),f.k Z,m,aW⟩
    ·refine Aj f Z aX ?_
     refine AO Z ?_
     obtain rfl:=sj aT
     obtain rfl:=aU _ rfl
     exact⟨_,Z,_,aR,aV,f.k Z,m,aW⟩
   ·rintro a w ⟨aK,rfl,aL,aM,bp,f,m,bq⟩
    refine Aq ?_
    refine Ab f Z λa f=>Ak f Z Z AD λa f=>Ac f Z λa f=>Aa ?_
    obtain rfl:=sj aD
    exact⟨_,Z,_,_,Z,_,aM,(gt aF bp),f.k Z,m,bq⟩
  ·refine Aj f Z aH ?_
   refine AO Z ?_
   have m:=m.fr 3
   have m:=m.fr 3
   have m:Mem W aA w (ib ae 26 [sn]::ib ap 26 [am]::aB::ib ad 26 [aa]::H):=m.fr 3
   have m:=m.eraseAt 3
   obtain rfl:=sj aD
   obtain rfl:=aE _ rfl
   exact⟨_,Z,_,aB,aF,f.k Z,m,aG⟩
 ·rintro a w ⟨au,rfl,av,aw,br,f,m,bs⟩
  refine Ae ?_
  refine Au 1 0 (ds:=[am]) m AA f Z Z Z Z Z λa f=>Ai 0 0 (ds:=[am]) m sizeOf26 f Z Z Z (Ah (Ow.one1 2 m bs Z) An) Z (lb Z) Z λw m=>Aa ?_
  refine Am ?_
  have bt:=A2 (P:=prog) 0 m AA f (s:=4) rfl rfl rfl
  have m:=m.fr 2
  have m:=m.eraseAt 2
  have m:=m.eraseAt 1
  obtain rfl:=sj hd
  exact⟨[(.agg #[am])],⟨bt,trivial⟩,f.d,_,[aw],(gt ak br),m,_,_,Z,Z,bs⟩
theorem Wk.b0 {aa v1:Value}{ab:LL}{x1:LI}(m:Mem W G w (H))(ac:R2 G aa ab)(h1:R1 G v1 x1){y:(LL)×Bool}(hd:D.b0 ab x1=some y):
  Calls prog 44 #[(.agg #[aa]),v1] w (Res W G H (λG' Ho v=>∃r0:Value,∃i0:Itm,Ho=[i0]∧v= .tuple #[(.agg #[r0]),(.bool y.2)]∧Ow R1 29 G' i0 r0 y.1)):=by
 refine Aw (args:=[(.agg #[aa]),v1]) (N:=14) [.cell 4 26,.tmp 5] func44 Z Z (lb Z) Z λa f=> ?_
 unfold D.b0 at hd
 refine Ae ?_
 refine Bf (cs:=[aa]) m f Z Z Z λad w a m f=>AH (cs:=[sn]) zeroValue26 m f Z Z λae w a m f=>Ac f Z λa f=>Aa (Ag (Ae ?_))
 refine Au 1 0 (ds:=[aa]) m AA f Z Z Z Z Z λa f=>Ab f Z λa f=> ?_
 have⟨af,ag,hd⟩:=bind_some hd
 refine A4 f Z call75 (Wk.M0 m ac h1 ag) λah w ai m a f=> ?_
 have ac:=rd2 ai ac
 have h1:=rd1 ai h1
 refine l_o f (Bp (f.e Z)) λa f=>Aa ?_
 rcases Af hd with⟨aj,hd⟩|⟨aj,hd⟩
 ·refine Al f Z aj ?_
  refine Ae ?_
  have ak:∀w,(Instr.build 26 #[]).run prog w= .ok (.agg #[sn]) w:=by intro w;simp[Instr.build,Instr.fill,A8,A6,AT,AZ,AP,A9]
  refine Bl f Z Z ak λa f=>Ai 0 0 (ds:=[sn]) m sizeOf26 f Z Z Z (Ah Z An) Z (lb Z) Z λw m=>Ac f Z λa f=>Aa ?_
  refine Am ?_
  obtain⟨al,m,am⟩:=Ow.nil R1 29 m
  have an:=A2 (P:=prog) 1 m AA f (s:=4) rfl rfl rfl
  have m:=m.eraseAt 2
  have m:=m.eraseAt 1
  obtain rfl:=sj hd
  exact⟨[(.agg #[sn]),(.bool false)],⟨an,f.get _ _ Z,trivial⟩,f.d,_,[al],ai,m,_,_,Z,Z,am⟩
 ·refine Aj f Z aj ?_
  refine Ao ?_
  refine Ae ?_
  refine Au 1 0 (ds:=[aa]) m AA f Z Z Z Z Z λa f=>Ab f Z λa f=> ?_
  have⟨ao,ap,hd⟩:=bind_some hd
  refine Az f Z call76 (Wk.H0 m ac h1 ap) λaq ar au w av m aw a f=> ?_
  obtain⟨ax,ay,rfl,rfl,az⟩:=aw
  refine Ai 1 0 (ds:=[ax]) m sizeOf26 f Z Z Z (Ah (Ow.one1 0 m az Z) An) Z (lb Z) Z λw m=>Ac f Z λa f=>Aa ?_
  refine Am ?_
  have aA:=A2 (P:=prog) 1 m AA f (s:=4) rfl rfl rfl
  have m:=m.eraseAt 2
  have m:=m.eraseAt 1
  obtain rfl:=sj hd
  exact⟨[(.agg #[ax]),(.bool true)],⟨aA,f.get _ _ Z,trivial⟩,f.d,_,[ay],(gt ai av),m,_,_,Z,Z,az⟩
theorem Wk.y0 {b0:Nat}{aa:Value}{ab:LI}{ac ad:Int}(m:Mem W G w (ib b0 72 [aa,(iv ac),(iv ad)]::H))(ae:RSl (RI .u8) G aa ab){y:(LL)×(LI)×Int×Int}(hd:D.y0 ab ac ad=some y):
  Calls prog 14 #[(pb b0)] w (Res W G H (λG' Ho v=>∃r0:Value,∃r1:Value,Ho=[ib b0 72 [r1,(iv y.2.2.1),(iv y.2.2.2)]]∧v=(.agg #[r0])∧R2 G' r0 y.1∧RSl (RI .u8) G' r1 y.2.1)):=by
 refine Aw (args:=[(pb b0)]) (N:=114) [.cell 2 26] func14 Z Z (lb Z) Z λa f=> ?_
 unfold D.y0 at hd
 refine Ae ?_
 refine AH (cs:=[sn]) zeroValue26 m f Z Z λaf w a m f=>Aa (Ag (Ae ?_))
 refine Ab f Z λa f=> ?_
 have m:Mem W G w (ib b0 72 [aa,(iv ac),(iv ad)]::ib af 26 [sn]::H):=m.fr 1
 have⟨ag,ah,hd⟩:=bind_some hd
 refine Az f Z call15 (Wk.l m ae ah) λai aj ak w al m am a f=> ?_
 obtain⟨an,rfl,rfl,ao⟩:=am
 refine Aa ?_
 rcases Af hd with⟨ap,hd⟩|⟨ap,hd⟩
 ·refine Al f Z ap ?_
  refine Ae ?_
  refine Ab f Z λa f=> ?_
  have⟨aq,ar,hd⟩:=bind_some hd
  refine Az f Z call39 (Wk.D0 m ao ar) λau av aw w ax m ay a f=> ?_
  obtain⟨az,aA,aB,rfl,rfl,aC,aD⟩:=ay
  refine Ai 2 0 (ds:=[az]) m sizeOf26 f Z Z Z (Ah (Ow2.one1 0 m aC Z) An) Z (lb Z) Z λw m=>Aa ?_
  refine Am ?_
  obtain⟨aE,aF,m,aG⟩:=Ow2.stamp (RI.mono _) aC m
  have aD:=rd1 aF aD
  have aH:=A2 (P:=prog) 1 m AA f (s:=2) rfl rfl rfl
  have m:=m.eraseAt 1
  obtain rfl:=sj hd
  exact⟨[(.agg #[az])],⟨aH,trivial⟩,f.d,_,[ib b0 72 [aB,(iv aq.2.2.1),(iv aq.2.2.2)]],(gt al (gt ax aF)),m,_,_,Z,Z,aG,aD⟩
 ·refine Aj f Z ap ?_
  refine Ao ?_
  refine Ae ?_
  refine Ab f Z λa f=> ?_
  have⟨aI,aJ,hd⟩:=bind_some hd
  refine Az f Z call17 (Wk.a m ao aJ) λaK aL aM w aN m aO a f=> ?_
  obtain⟨aP,rfl,rfl,aQ⟩:=aO
  refine Ak f Z Z AD λa f=> ?_
  have⟨aR,aS,hd⟩:=bind_some hd
  refine Az f Z call40 (Wk.J0 m aS) λaT aU aV w aW m aX a f=> ?_
  obtain⟨aY,aZ,rfl,rfl,a0⟩:=aX
  have aQ:=rd1 aW aQ
  refine AH (cs:=[sn]) zeroValue26 m f Z Z λa1 w a m f=>Ai 0 0 (ds:=[aY]) m sizeOf26 f Z Z Z (Ah (Ow.one1 1 m a0 Z) An) Z (lb Z) Z λw m=>Aa (Ag (Ae ?_))
  refine Ab f Z λa f=> ?_
  have m:Mem W aU w (ib b0 72 [aP,(iv aI.2.2.1),(iv aI.2.2.2)]::ib a1 26 [aY]::aZ::ib af 26 [sn]::H):=m.fr 2
  have⟨a2,a3,hd⟩:=bind_some hd
  refine Az f Z call17 (Wk.a m aQ a3) λa4 a5 a6 w a7 m a8 a f=> ?_
  obtain⟨a9,rfl,rfl,ba⟩:=a8
  have a0:=Ow.mono (RSl.mono (RI.mono _)) a7 a0
  refine Ac f Z λa f=>Aa ?_
  have⟨bb,bc,hd⟩:=bind_some hd
  refine AR (λa w=>∃bd:LI,∃be:Int,∃bf:Int,∃bg:LL,(bd,be,bf,bg)=bb∧∃(bh:GH) (bi:Value) (bj:Value) (bk:Itm),GLe a5 bh∧Fr a 114 [(0,(pb b0)),(2,(pb af)),(3,(pb a1))]∧Mem W bh w (ib b0 72 [bi,(iv be),(iv bf)]::ib af 26 [sn]::ib a1 26 [bj]::bk::H)∧RSl (RI .u8) bh bi bd∧Ow R1 29 bh bk bj bg) ?_ ?_
  ·refine Ap ?_
   have m:=m.fr 3
   have m:Mem W a5 w (ib b0 72 [a9,(iv a2.2.2.1),(iv a2.2.2.2)]::ib af 26 [sn]::ib a1 26 [aY]::aZ::H):=m.fr 1
   refine AQ (λbl a w=>∃bm:Int,∃bn:LI,∃bo:Int,∃bp:Int,∃bq:LL,(bm,bn,bo,bp,bq)=bl∧∃(br:GH) (bs:Value) (bt:Value) (bu:Itm),GLe a5 br∧Fr a 114 [(0,(pb b0)),(2,(pb af)),(3,(pb a1)),(4,(iv bm))]∧Mem W br w (ib b0 72 [bs,(iv bo),(iv bp)]::ib af 26 [sn]::ib a1 26 [bt]::bu::H)∧RSl (RI .u8) br bs bn∧Ow R1 29 br bu bt bq) bc ⟨_,_,_,_,_,Z,_,a9,aY,aZ,gr,f.k Z,m,ba,a0⟩ ?_
   clear bc f m
   rintro bl bv bw bx a w ⟨bm,bn,bo,bp,bq,rfl,br,bs,bt,bu,bz,f,m,bA,bB⟩
   refine Ag (Ae ?_)
   refine Ab f Z λa f=>Ak f Z Z Cu λa f=>Ab f Z λa f=> ?_
   have⟨bC,bD,bw⟩:=bind_some bw
   refine Be 4 (λa w=>∃bE,GLe br bE∧Mem W bE w (ib b0 72 [bs,(iv bo),(iv bp)]::ib af 26 [sn]::ib a1 26 [bt]::bu::H)∧Fr a 114 [(0,(pb b0)),(2,(pb af)),(3,(pb a1)),(4,(iv bm)),(29,(iv bm)),(30,(.bool (decide ((0:Int)<bm)))),(31,(.bool (decide ((0:Int)<bm)))),(35,(.bool bC))]) ?_ ?_
   ·rcases Af bD with⟨bF,bD⟩|⟨bF,bD⟩
    ·refine Ar f bF ?_
     refine Au 2 0 (ds:=[bt]) m AA f Z Z Z Z Z λa f=>Ar f bF ?_
     have⟨bG,bH,bD⟩:=bind_some bD
     refine Az f Z call26 (Ow.lendCall (RSl.mono (RI.mono _)) 3 bB m Z (λbI bJ m bK=>Wk.b m bK bH) (λ_ _ _ _ h=>h)) λbL bM bN w bO m bP a f=> ?_
     obtain⟨rfl,rfl⟩:=bP
     refine Ar f bF ?_
     refine Ak f Z Z AV λa f=>l_o f (AK (f.e Z) bF (f.e Z)) λa f=> ?_
     obtain rfl:=sj bD
     exact⟨_,bO,m,f.k Z⟩
    ·refine As f bF λa f=> ?_
     refine As f bF λa f=>As f bF λa f=>l_o f (AL (f.e Z) bF (f.e Z)) λa f=> ?_
     obtain rfl:=sj bD
     exact⟨_,gr,m,f.k Z⟩
   ·rintro a w ⟨bE,bQ,m,f⟩
    have bA:=rd1 bQ bA
    have bB:=Ow.mono (RSl.mono (RI.mono _)) bQ bB
    refine Aa ?_
    rcases Af bw with⟨bR,bw⟩|⟨bR,bw⟩
    ·refine Al f Z bR ?_
     refine Ao ?_
     refine Ag (Ap (Ae ?_))
     refine Au 2 0 (ds:=[bt]) m AA f Z Z Z Z Z λa f=> ?_
     have m:Mem W bE w (bu::ib b0 72 [bs,(iv bo),(iv bp)]::ib af 26 [sn]::ib a1 26 [bt]::H):=m.fr 3
     obtain⟨bS,bT,m,bU⟩:=Ow.stamp (RSl.mono (RI.mono _)) bB m
     have bA:=rd1 bT bA
     have⟨bV,bW,bw⟩:=bind_some bw
     refine Az f Z call38 (Wk.M m bU bW) λbX bY bZ w b1 m b2 a f=> ?_
     obtain⟨b3,b4,rfl,rfl,b5⟩:=b2
     have bU:=rd2 b1 bU
     have bA:=rd1 b1 bA
     refine Ac f Z λa f=>AG ?_
     refine Ab f Z λa f=>Ab f Z λa f=>Ab f Z λa f=>Bw 0 m b5 Z underlying24 f Z Z λa f=> ?_
     have m:Mem W bY w (ib b0 72 [bs,(iv bo),(iv bp)]::b4::ib af 26 [sn]::ib a1 26 [bt]::H):=m.fr 1
     have⟨b6,b7,bw⟩:=bind_some bw
     refine Az f Z call17 (Wk.a m bA b7) λb8 b9 ca w cb m cc a f=> ?_
     obtain⟨cd,rfl,rfl,ce⟩:=cc
     have b5:=Ow.mono (RSl.mono (RI.mono _)) cb b5
     have bU:=rd2 cb bU
     have⟨cf,cg,bw⟩:=bind_some bw
     refine BH 1 m b5 Z T24 f Z Z Z cg λch a ci f=>BF 1 m b5 Z By f Z Z ci cg λcj a ck f=>Ac f Z λa f=>Aa (Ag ?_)
     have⟨cl,cm,bw⟩:=bind_some bw
     refine AR (λa w=>∃cn:LL,cn=cl∧∃(co:GH) (cp:Nat) (cq:Value) (cr:Itm),GLe b9 co∧Fr a 114 [(0,(pb b0)),(2,(pb af)),(3,(pb a1)),(4,(iv bm)),(7,(pb cp))]∧Mem W co w (ib b0 72 [cd,(iv b6.2.2.1),(iv b6.2.2.2)]::ib af 26 [sn]::ib a1 26 [bt]::ib cp 26 [cq]::cr::H)∧Ow R1 29 co cr cq cn) ?_ ?_
     ·refine Bc 13 AW (by kernel_rfl) m ?_
      refine BC (i:=0) (ds:=[bt]) 13 3 AA Z Z Z Z (by kernel_rfl) Z f Z Z Z λa f=>Ay 1 13 Z f Z λa f=> ?_
      have⟨ct,cu,cm⟩:=bind_some cm
      refine Bs 2 13 T29 ck cu Z f Z Z λcv cw a cx cy f=> ?_
      subst cy
      refine Bq 3 13 Pl2 cx Z f Z λa f=>Ay 4 13 Z f Z λa f=> ?_
      have⟨cz,cA,cm⟩:=bind_some cm
      refine Bs 5 13 T29 ck cA Z f Z Z λcB cC a cD cE f=> ?_
      subst cE
      refine Bq 6 13 Pl2 cD Z f Z λa f=>Cf (i:=7) (j:=11) (l1:= #[true,true,true,true,true,true,true,true,false,false,false,false,false,false]) (l2:= #[true,true,true,true,true,true,true,false,false,false,false,true,false,false]) Z Z (by kernel_rfl) Z Z ?_ ?_
      ·intro cF w cG m cH cH
       have bU:=rd2 cG bU
       have⟨cI,cJ,cm⟩:=bind_some cm
       refine Az f Z call41 (Wk.t0 m bU cJ) λcK cL cM w cN m cO a f=> ?_
       obtain⟨cP,cQ,rfl,rfl,cR⟩:=cO
       refine Aa ?_
       refine cH cL [cQ] _ _ cN m ?_
       refine Ay 8 13 Z f Z λa f=>q_p 9 13 Z f (λ_=>AB (f.e Z) Z) λa f=>q_p 10 13 Z f (λ_=>AB (f.e Z) Z) λa f=>A3 11 Z λcS w cT m cU cU=> ?_
       have cR:=Ow.mono (RSl.mono (RI.mono _)) cT cR
       refine AH (cs:=[sn]) zeroValue26 m f Z Z λcV w a m f=>Aa ?_
       refine cU cS [ib cV 26 [sn],cQ] _ _ gr m ?_
       refine A3 12 Z λcW w cX m cY cY=> ?_
       have cR:=Ow.mono (RSl.mono (RI.mono _)) cX cR
       refine Ai 0 0 (ds:=[cP]) m sizeOf26 f Z Z Z (Ah (Ow.one1 1 m cR Z) An) Z (lb Z) Z λw m=>Aa ?_
       refine cY cW [ib cV 26 [cP],cQ] _ _ gr m ?_
       refine A1 λcZ w c0 m=> ?_
       have cR:=Ow.mono (RSl.mono (RI.mono _)) c0 cR
       refine Ac f Z λa f=>Aa ?_
       have m:=m.fr 5
       have m:=m.fr 5
       have m:Mem W cZ w (ib b0 72 [cd,(iv b6.2.2.1),(iv b6.2.2.2)]::ib af 26 [sn]::ib a1 26 [bt]::ib cV 26 [cP]::cQ::b4::H):=m.fr 4
       have m:Mem W cZ w (ib b0 72 [cd,(iv b6.2.2.1),(iv b6.2.2.2)]::ib af 26 [sn]::ib a1 26 [bt]::ib cV 26 [cP]::cQ::H):=m.eraseAt 5
       obtain rfl:=sj cm
       exact⟨_,Z,_,cV,cP,cQ,(gt cG (gt cN (gt cT (gt cX c0)))),f.k Z,m,cR⟩
      ·intro cS w cT m cU cU
       have⟨cI,cJ,cm⟩:=bind_some cm
       have bU:=rd2 cT bU
       refine AH (cs:=[sn]) zeroValue26 m f Z Z λcV w a m f=>Aa ?_
       refine cU cS [ib cV 26 [sn]] _ _ gr m ?_
       refine A3 7 Z λcF w cG m cH cH=> ?_
       have bU:=rd2 cG bU
       refine Az f Z call41 (Wk.t0 m bU cJ) λcK cL cM w cN m cO a f=> ?_
       obtain⟨cP,cQ,rfl,rfl,cR⟩:=cO
       refine Aa ?_
       refine cH cL [cQ,ib cV 26 [sn]] _ _ cN m ?_
       refine Ay 8 13 Z f Z λa f=>q_p 9 13 Z f (λ_=>AB (f.e Z) Z) λa f=>q_p 10 13 Z f (λ_=>AB (f.e Z) Z) λa f=>A3 12 Z λcW w cX m cY cY=> ?_
       have cR:=Ow.mono (RSl.mono (RI.mono _)) cX cR
       refine Ai 1 0 (ds:=[cP]) m sizeOf26 f Z Z Z (Ah (Ow.one1 0 m cR Z) An) Z (lb Z) Z λw m=>Aa ?_
       refine cY cW [cQ,ib cV 26 [cP]] _ _ gr m ?_
       refine A1 λcZ w c0 m=> ?_
       have cR:=Ow.mono (RSl.mono (RI.mono _)) c0 cR
       refine Ac f Z λa f=>Aa ?_
       have m:=m.fr 1
       have m:=m.fr 5
       have m:Mem W cZ w (ib af 26 [sn]::ib a1 26 [bt]::ib cV 26 [cP]::cQ::ib b0 72 [cd,(iv b6.2.2.1),(iv b6.2.2.2)]::b4::H):=m.fr 5
       have m:=m.fr 4
       have m:Mem W cZ w (ib b0 72 [cd,(iv b6.2.2.1),(iv b6.2.2.2)]::ib af 26 [sn]::ib a1 26 [bt]::ib cV 26 [cP]::cQ::H):=m.eraseAt 5
       obtain rfl:=sj cm
       exact⟨_,Z,_,cV,cP,cQ,(gt cT (gt cG (gt cN (gt cX c0)))),f.k Z,m,cR⟩
     ·rintro a w ⟨cn,rfl,co,cp,cq,cr,c1,f,m,c2⟩
      have ce:=rd1 c1 ce
      refine Aq ?_
      refine Au 3 0 (ds:=[cq]) m AA f Z Z Z Z Z λa f=>Ai 2 0 (ds:=[cq]) m sizeOf26 f Z Z Z (Ah (Ow.one1 4 m c2 Z) An) Z (lb Z) Z λw m=>Aa (Aq ?_)
      refine Ab f Z λa f=>Ak f Z Z BO λa f=>Ac f Z λa f=>Aa ?_
      have m:=m.fr 4
      have m:=m.fr 3
      have m:Mem W co w (ib af 26 [sn]::ib a1 26 [cq]::cr::ib b0 72 [cd,(iv b6.2.2.1),(iv b6.2.2.2)]::ib cp 26 [cq]::H):=m.fr 3
      have m:=m.fr 3
      have m:Mem W co w (ib b0 72 [cd,(iv b6.2.2.1),(iv b6.2.2.2)]::ib af 26 [sn]::ib a1 26 [cq]::cr::H):=m.eraseAt 4
      obtain rfl:=sj bw
      exact⟨_,Z,_,_,_,_,_,Z,_,cd,cq,cr,(gt bz (gt bQ (gt bT (gt b1 (gt cb c1))))),f.k Z,m,ce,c2⟩
    ·refine Aj f Z bR ?_
     refine AO Z ?_
     obtain rfl:=sj bw
     obtain rfl:=bx _ rfl
     exact⟨_,_,_,_,Z,_,bs,bt,bu,(gt bz bQ),f.k Z,m,bA,bB⟩
  ·rintro a w ⟨bd,be,bf,bg,rfl,bh,bi,bj,bk,c3,f,m,c4,c5⟩
   refine Ag (Ae ?_)
   refine Ab f Z λa f=> ?_
   have⟨c6,c7,hd⟩:=bind_some hd
   refine Az f Z call15 (Wk.l m c4 c7) λc8 c9 da w db m dc a f=> ?_
   obtain⟨dd,rfl,rfl,de⟩:=dc
   have c5:=Ow.mono (RSl.mono (RI.mono _)) db c5
   refine Aa ?_
   have⟨df,dg,hd⟩:=bind_some hd
   refine AR (λa w=>∃dh:LI,∃di:Int,∃dj:Int,∃dk:LL,(dh,di,dj,dk)=df∧∃(dl:GH) (dm:Value) (dn:Value),GLe c9 dl∧Fr a 114 [(0,(pb b0)),(2,(pb af)),(3,(pb a1))]∧Mem W dl w (ib b0 72 [dm,(iv di),(iv dj)]::ib af 26 [sn]::ib a1 26 [dn]::H)∧RSl (RI .u8) dl dm dh∧R2 dl dn dk) ?_ ?_
   ·rcases Af dg with⟨dp,dg⟩|⟨dp,dg⟩
    ·refine Al f Z dp ?_
     refine Ae ?_
     refine Ab f Z λa f=>Au 2 0 (ds:=[bj]) m AA f Z Z Z Z Z λa f=> ?_
     have⟨dq,dr,dg⟩:=bind_some dg
     refine Az f Z call26 (Ow.lendCall (RSl.mono (RI.mono _)) 3 c5 m Z (λdt du m dv=>Wk.b m dv dr) (λ_ _ _ _ h=>h)) λdw dx dy w dz m dA a f=> ?_
     obtain⟨rfl,rfl⟩:=dA
     have de:=rd1 dz de
     have c5:=Ow.mono (RSl.mono (RI.mono _)) dz c5
     have⟨dB,dC,dg⟩:=bind_some dg
     refine Az f Z call17 (Wk.a m de dC) λdD dE dF w dG m dH a f=> ?_
     obtain⟨dI,rfl,rfl,dJ⟩:=dH
     have c5:=Ow.mono (RSl.mono (RI.mono _)) dG c5
     refine Ac f Z λa f=>AG ?_
     refine Ab f Z λa f=>Au 2 0 (ds:=[bj]) m AA f Z Z Z Z Z λa f=> ?_
     have⟨dK,dL,dg⟩:=bind_some dg
     refine Az f Z call26 (Ow.lendCall (RSl.mono (RI.mono _)) 3 c5 m Z (λdM dN m dO=>Wk.b m dO dL) (λ_ _ _ _ h=>h)) λdP dQ dR w dS m dT a f=> ?_
     obtain⟨rfl,rfl⟩:=dT
     have dJ:=rd1 dS dJ
     have c5:=Ow.mono (RSl.mono (RI.mono _)) dS c5
     have⟨dU,dV,dg⟩:=bind_some dg
     refine Az f Z call17 (Wk.a m dJ dV) λdW dX dY w dZ m d0 a f=> ?_
     obtain⟨d1,rfl,rfl,d2⟩:=d0
     have c5:=Ow.mono (RSl.mono (RI.mono _)) dZ c5
     refine Ac f Z λa f=>AG ?_
     refine Au 2 0 (ds:=[bj]) m AA f Z Z Z Z Z λa f=>Ab f Z λa f=>Ab f Z λa f=> ?_
     have m:Mem W dX w (bk::ib b0 72 [d1,(iv dU.2.2.1),(iv dU.2.2.2)]::ib af 26 [sn]::ib a1 26 [bj]::H):=m.fr 3
     obtain⟨d3,d4,m,d5⟩:=Ow.stamp (RSl.mono (RI.mono _)) c5 m
     have d2:=rd1 d4 d2
     have⟨d6,d7,dg⟩:=bind_some dg
     refine Az f Z call42 (Wk.u0 m d5 d7) λd8 d9 ea w eb m ec a f=> ?_
     obtain⟨ed,ee,rfl,rfl,ef⟩:=ec
     have d5:=rd2 eb d5
     have d2:=rd1 eb d2
     refine Ab f Z λa f=>l_o f (AB (f.e Z) Z) λa f=>l_o f (AB (f.e Z) Z) λa f=>AH (cs:=[sn]) zeroValue26 m f Z Z λeg w a m f=>Ai 0 0 (ds:=[ed]) m sizeOf26 f Z Z Z (Ah (Ow.one1 1 m ef Z) An) Z (lb Z) Z λw m=>Ac f Z λa f=>AG ?_
     refine Ab f Z λa f=>Aa ?_
     rcases Af dg with⟨eh,dg⟩|⟨eh,dg⟩
     ·refine Al f Z eh ?_
      refine Aq ?_
      refine Au 0 0 (ds:=[ed]) m AA f Z Z Z Z Z λa f=>Ai 4 0 (ds:=[ed]) m sizeOf26 f Z Z Z (Ah (Ow.one1 1 m ef Z) An) Z (lb Z) Z λw m=>Aa ?_
      have m:Mem W d9 w (ee::ib eg 26 [ed]::ib b0 72 [d1,(iv dU.2.2.1),(iv dU.2.2.2)]::ib af 26 [sn]::ib a1 26 [ed]::H):=m.fr 1
      obtain⟨ei,ej,m,ek⟩:=Ow.stamp (RSl.mono (RI.mono _)) ef m
      have d2:=rd1 ej d2
      have m:=m.fr 3
      have m:=m.fr 3
      have m:Mem W ei w (ib b0 72 [d1,(iv dU.2.2.1),(iv dU.2.2.2)]::ib af 26 [sn]::ib a1 26 [ed]::ib eg 26 [ed]::H):=m.fr 3
      have m:Mem W ei w (ib b0 72 [d1,(iv dU.2.2.1),(iv dU.2.2.2)]::ib af 26 [sn]::ib a1 26 [ed]::H):=m.eraseAt 3
      obtain rfl:=sj dg
      exact⟨_,_,_,_,Z,_,d1,ed,(gt dz (gt dG (gt dS (gt dZ (gt d4 (gt eb ej)))))),f.k Z,m,d2,ek⟩
     ·refine Aj f Z eh ?_
      refine Ao ?_
      have m:=m.fr 4
      have m:=m.fr 4
      have m:Mem W d9 w (ib b0 72 [d1,(iv dU.2.2.1),(iv dU.2.2.2)]::ib af 26 [sn]::ib a1 26 [bj]::ib eg 26 [ed]::ee::H):=m.fr 4
      have m:=m.fr 4
      have m:=m.fr 3
      have m:Mem W d9 w (ib af 26 [sn]::ib a1 26 [bj]::ee::ib b0 72 [d1,(iv dU.2.2.1),(iv dU.2.2.2)]::ib eg 26 [ed]::H):=m.fr 3
      have m:=m.fr 3
      have m:=m.eraseAt 4
      have m:Mem W d9 w (ib b0 72 [d1,(iv dU.2.2.1),(iv dU.2.2.2)]::ib af 26 [sn]::ib a1 26 [bj]::H):=m.eraseAt 3
      obtain rfl:=sj dg
      exact⟨_,_,_,_,Z,_,d1,bj,(gt dz (gt dG (gt dS (gt dZ (gt d4 eb))))),f.k Z,m,d2,d5⟩
    ·refine Aj f Z dp ?_
     refine Ao ?_
     have m:Mem W c9 w (bk::ib b0 72 [dd,(iv c6.2.2.1),(iv c6.2.2.2)]::ib af 26 [sn]::ib a1 26 [bj]::H):=m.fr 3
     obtain⟨el,em,m,en⟩:=Ow.stamp (RSl.mono (RI.mono _)) c5 m
     have de:=rd1 em de
     obtain rfl:=sj dg
     exact⟨_,_,_,_,Z,_,dd,bj,em,f.k Z,m,de,en⟩
   ·rintro a w ⟨dh,di,dj,dk,rfl,dl,dm,dn,eo,f,m,ep,eq⟩
    refine Ag (Ae ?_)
    refine Ab f Z λa f=> ?_
    have⟨er,es,hd⟩:=bind_some hd
    refine Az f Z call15 (Wk.l m ep es) λet eu ev w ew m ex a f=> ?_
    obtain⟨ey,rfl,rfl,ez⟩:=ex
    have eq:=rd2 ew eq
    refine Aa ?_
    have⟨eA,eB,hd⟩:=bind_some hd
    refine AR (λa w=>∃eC:LI,∃eD:Int,∃eE:Int,∃eF:LL,(eC,eD,eE,eF)=eA∧∃(eG:GH) (eH:Value) (eI:Value),GLe eu eG∧Fr a 114 [(0,(pb b0)),(2,(pb af)),(3,(pb a1))]∧Mem W eG w (ib b0 72 [eH,(iv eD),(iv eE)]::ib af 26 [sn]::ib a1 26 [eI]::H)∧RSl (RI .u8) eG eH eC∧R2 eG eI eF) ?_ ?_
    ·rcases Af eB with⟨eJ,eB⟩|⟨eJ,eB⟩
     ·refine Al f Z eJ ?_
      refine Ae ?_
      refine Au 2 0 (ds:=[dn]) m AA f Z Z Z Z Z λa f=> ?_
      have⟨eK,eL,eB⟩:=bind_some eB
      refine Az f Z call38 (Wk.M m eq eL) λeM eN eO w eP m eQ a f=> ?_
      obtain⟨eR,eS,rfl,rfl,eT⟩:=eQ
      have eq:=rd2 eP eq
      have ez:=rd1 eP ez
      refine Ac f Z λa f=>AG ?_
      refine Ab f Z λa f=>Ab f Z λa f=>Ab f Z λa f=>Bw 0 m eT Z underlying24 f Z Z λa f=> ?_
      have m:Mem W eN w (ib b0 72 [ey,(iv er.2.2.1),(iv er.2.2.2)]::eS::ib af 26 [sn]::ib a1 26 [dn]::H):=m.fr 1
      have⟨eU,eV,eB⟩:=bind_some eB
      refine Az f Z call17 (Wk.a m ez eV) λeW eX eY w eZ m e0 a f=> ?_
      obtain⟨e1,rfl,rfl,e2⟩:=e0
      have eT:=Ow.mono (RSl.mono (RI.mono _)) eZ eT
      have eq:=rd2 eZ eq
      have⟨e3,e4,eB⟩:=bind_some eB
      refine BH 1 m eT Z T24 f Z Z Z e4 λe5 a e6 f=>BF 1 m eT Z By f Z Z e6 e4 λe7 a e8 f=>Ac f Z λa f=>Aa (Ag ?_)
      have⟨e9,fa,eB⟩:=bind_some eB
      refine AR (λa w=>∃fb:LL,fb=e9∧∃(fc:GH) (fd:Nat) (fe:Value) (ff:Itm),GLe eX fc∧Fr a 114 [(0,(pb b0)),(2,(pb af)),(3,(pb a1)),(15,(pb fd))]∧Mem W fc w (ib b0 72 [e1,(iv eU.2.2.1),(iv eU.2.2.2)]::ib af 26 [sn]::ib a1 26 [dn]::ib fd 26 [fe]::ff::H)∧Ow R1 29 fc ff fe fb) ?_ ?_
      ·refine Bc 13 AW (by kernel_rfl) m ?_
       refine BC (i:=0) (ds:=[dn]) 13 3 AA Z Z Z Z (by kernel_rfl) Z f Z Z Z λa f=>Ay 1 13 Z f Z λa f=> ?_
       have⟨fg,fh,fa⟩:=bind_some fa
       refine Bs 2 13 T29 e8 fh Z f Z Z λfi fj a fk fl f=> ?_
       subst fl
       refine Bq 3 13 Pl2 fk Z f Z λa f=>Ay 4 13 Z f Z λa f=> ?_
       have⟨fm,fo,fa⟩:=bind_some fa
       refine Bs 5 13 T29 e8 fo Z f Z Z λfp fq a fs ft f=> ?_
       subst ft
       refine Bq 6 13 Pl2 fs Z f Z λa f=>Cf (i:=7) (j:=11) (l1:= #[true,true,true,true,true,true,true,true,false,false,false,false,false,false]) (l2:= #[true,true,true,true,true,true,true,false,false,false,false,true,false,false]) Z Z (by kernel_rfl) Z Z ?_ ?_
       ·intro fu w fv m fw fw
        have eq:=rd2 fv eq
        have⟨fx,fy,fa⟩:=bind_some fa
        refine Az f Z call43 (Wk.U m eq fy) λfz fA fB w fC m fD a f=> ?_
        obtain⟨fE,fF,rfl,rfl,fG⟩:=fD
        refine Aa ?_
        refine fw fA [fF] _ _ fC m ?_
        refine Ay 8 13 Z f Z λa f=>q_p 9 13 Z f (λ_=>AB (f.e Z) Z) λa f=>q_p 10 13 Z f (λ_=>AB (f.e Z) Z) λa f=>A3 11 Z λfH w fI m fJ fJ=> ?_
        have fG:=Ow.mono (RSl.mono (RI.mono _)) fI fG
        refine AH (cs:=[sn]) zeroValue26 m f Z Z λfK w a m f=>Aa ?_
        refine fJ fH [ib fK 26 [sn],fF] _ _ gr m ?_
        refine A3 12 Z λfL w fM m fN fN=> ?_
        have fG:=Ow.mono (RSl.mono (RI.mono _)) fM fG
        refine Ai 0 0 (ds:=[fE]) m sizeOf26 f Z Z Z (Ah (Ow.one1 1 m fG Z) An) Z (lb Z) Z λw m=>Aa ?_
        refine fN fL [ib fK 26 [fE],fF] _ _ gr m ?_
        refine A1 λfO w fP m=> ?_
        have fG:=Ow.mono (RSl.mono (RI.mono _)) fP fG
        refine Ac f Z λa f=>Aa ?_
        have m:=m.fr 5
        have m:=m.fr 5
        have m:Mem W fO w (ib b0 72 [e1,(iv eU.2.2.1),(iv eU.2.2.2)]::ib af 26 [sn]::ib a1 26 [dn]::ib fK 26 [fE]::fF::eS::H):=m.fr 4
        have m:Mem W fO w (ib b0 72 [e1,(iv eU.2.2.1),(iv eU.2.2.2)]::ib af 26 [sn]::ib a1 26 [dn]::ib fK 26 [fE]::fF::H):=m.eraseAt 5
        obtain rfl:=sj fa
        exact⟨_,Z,_,fK,fE,fF,(gt fv (gt fC (gt fI (gt fM fP)))),f.k Z,m,fG⟩
       ·intro fH w fI m fJ fJ
        have⟨fx,fy,fa⟩:=bind_some fa
        have eq:=rd2 fI eq
        refine AH (cs:=[sn]) zeroValue26 m f Z Z λfK w a m f=>Aa ?_
        refine fJ fH [ib fK 26 [sn]] _ _ gr m ?_
        refine A3 7 Z λfu w fv m fw fw=> ?_
        have eq:=rd2 fv eq
        refine Az f Z call43 (Wk.U m eq fy) λfz fA fB w fC m fD a f=> ?_
        obtain⟨fE,fF,rfl,rfl,fG⟩:=fD
        refine Aa ?_
        refine fw fA [fF,ib fK 26 [sn]] _ _ fC m ?_
        refine Ay 8 13 Z f Z λa f=>q_p 9 13 Z f (λ_=>AB (f.e Z) Z) λa f=>q_p 10 13 Z f (λ_=>AB (f.e Z) Z) λa f=>A3 12 Z λfL w fM m fN fN=> ?_
        have fG:=Ow.mono (RSl.mono (RI.mono _)) fM fG
        refine Ai 1 0 (ds:=[fE]) m sizeOf26 f Z Z Z (Ah (Ow.one1 0 m fG Z) An) Z (lb Z) Z λw m=>Aa ?_
        refine fN fL [fF,ib fK 26 [fE]] _ _ gr m ?_
        refine A1 λfO w fP m=> ?_
        have fG:=Ow.mono (RSl.mono (RI.mono _)) fP fG
        refine Ac f Z λa f=>Aa ?_
        have m:=m.fr 1
        have m:=m.fr 5
        have m:Mem W fO w (ib af 26 [sn]::ib a1 26 [dn]::ib fK 26 [fE]::fF::ib b0 72 [e1,(iv eU.2.2.1),(iv eU.2.2.2)]::eS::H):=m.fr 5
        have m:=m.fr 4
        have m:Mem W fO w (ib b0 72 [e1,(iv eU.2.2.1),(iv eU.2.2.2)]::ib af 26 [sn]::ib a1 26 [dn]::ib fK 26 [fE]::fF::H):=m.eraseAt 5
        obtain rfl:=sj fa
        exact⟨_,Z,_,fK,fE,fF,(gt fI (gt fv (gt fC (gt fM fP)))),f.k Z,m,fG⟩
      ·rintro a w ⟨fb,rfl,fc,fd,fe,ff,fQ,f,m,fR⟩
       have e2:=rd1 fQ e2
       refine Aq ?_
       refine Au 3 0 (ds:=[fe]) m AA f Z Z Z Z Z λa f=>Ai 2 0 (ds:=[fe]) m sizeOf26 f Z Z Z (Ah (Ow.one1 4 m fR Z) An) Z (lb Z) Z λw m=>Aa ?_
       have m:Mem W fc w (ff::ib b0 72 [e1,(iv eU.2.2.1),(iv eU.2.2.2)]::ib af 26 [sn]::ib a1 26 [fe]::ib fd 26 [fe]::H):=m.fr 4
       obtain⟨fS,fT,m,fU⟩:=Ow.stamp (RSl.mono (RI.mono _)) fR m
       have e2:=rd1 fT e2
       have m:Mem W fS w (ib b0 72 [e1,(iv eU.2.2.1),(iv eU.2.2.2)]::ib af 26 [sn]::ib a1 26 [fe]::H):=m.eraseAt 3
       obtain rfl:=sj eB
       exact⟨_,_,_,_,Z,_,e1,fe,(gt eP (gt eZ (gt fQ fT))),f.k Z,m,e2,fU⟩
     ·refine Aj f Z eJ ?_
      refine Ao ?_
      obtain rfl:=sj eB
      exact⟨_,_,_,_,Z,_,ey,dn,gr,f.k Z,m,ez,eq⟩
    ·rintro a w ⟨eC,eD,eE,eF,rfl,eG,eH,eI,fV,f,m,fW,fX⟩
     refine Ag (Ae ?_)
     refine Ab f Z λa f=> ?_
     have⟨fY,fZ,hd⟩:=bind_some hd
     refine Az f Z call15 (Wk.l m fW fZ) λf0 f1 f2 w f3 m f4 a f=> ?_
     obtain⟨f5,rfl,rfl,f6⟩:=f4
     have fX:=rd2 f3 fX
     refine Aa ?_
     rcases Af hd with⟨f7,hd⟩|⟨f7,hd⟩
     ·refine Al f Z f7 ?_
      refine Ag ?_
      have⟨f8,f9,hd⟩:=bind_some hd
      refine AR (λa w=>∃ga:LL,∃gb:Bool,∃gc:LI,∃gd:Int,∃ge:Int,(ga,gb,gc,gd,ge)=f8∧∃(gf:GH) (gg:Nat) (gh:Value) (gi:Itm) (gj:Value),GLe f1 gf∧Fr a 114 [(2,(pb af)),(3,(pb a1)),(17,(pb gg)),(18,(.bool gb))]∧Mem W gf w (ib af 26 [sn]::ib a1 26 [eI]::ib b0 72 [gj,(iv gd),(iv ge)]::ib gg 26 [gh]::gi::H)∧Ow R1 29 gf gi gh ga∧RSl (RI .u8) gf gj gc) ?_ ?_
      ·refine Dd [ib b0 72 [f5,(iv fY.2.2.1),(iv fY.2.2.2)]] (ib af 26 [sn]::ib a1 26 [eI]::H) 10 AW (by kernel_rfl) m ?_
       refine BC (i:=0) (ds:=[eI]) 10 1 AA Z Z Z Z (by kernel_rfl) Z f Z Z Z λa f=>Ay 1 10 Z f Z λa f=>BC (i:=2) (ds:=[eI]) 10 1 AA Z Z Z Z (by kernel_rfl) Z f Z Z Z λa f=>Cf (i:=3) (j:=8) (l1:= #[true,true,true,true,false,false,false,false,false,false,false]) (l2:= #[true,true,true,false,false,false,false,false,true,false,false]) Z Z (by kernel_rfl) Z Z ?_ ?_
       ·intro gk w gl m gm gm
        have fX:=rd2 gl fX
        have f6:=rd1 gl f6
        have⟨gn,go,f9⟩:=bind_some f9
        refine Az f Z call45 (Wk.r0 m f6 fX go) λgp gq gs w gu m gv a f=> ?_
        obtain⟨gw,gx,gy,rfl,rfl,gz,gA⟩:=gv
        have fX:=rd2 gu fX
        refine Aa ?_
        refine gm gq [gx,ib b0 72 [gy,(iv gn.2.2.1),(iv gn.2.2.2)]] _ _ gu m ?_
        refine Cf (i:=4) (j:=8) (l1:= #[true,true,true,true,true,false,false,false,false,false,false]) (l2:= #[true,true,true,true,false,false,false,false,true,false,false]) Z Z (by kernel_rfl) Z Z ?_ ?_
        ·intro gB w gC m gD gD
         have fX:=rd2 gC fX
         have gz:=od1 gC gz
         have gA:=rd1 gC gA
         obtain⟨gE,gF,m,gG⟩:=Ow.stamp (RI.mono _) gz m
         have fX:=rd2 gF fX
         have gA:=rd1 gF gA
         have⟨gH,gI,f9⟩:=bind_some f9
         refine Az f Z call44 (Wk.b0 m fX gG gI) λgJ gK gL w gM m gN a f=> ?_
         obtain⟨gO,gP,rfl,rfl,gQ⟩:=gN
         have gA:=rd1 gM gA
         refine Aa ?_
         refine gD gK [gP,ib b0 72 [gy,(iv gn.2.2.1),(iv gn.2.2.2)]] _ _ (gt gF gM) m ?_
         refine Ay 5 10 Z f Z λa f=>q_p 6 10 Z f (λ_=>AB (f.e Z) Z) λa f=>q_p 7 10 Z f (λ_=>AB (f.e Z) Z) λa f=>A3 8 Z λgR w gS m gT gT=> ?_
         have gQ:=Ow.mono (RSl.mono (RI.mono _)) gS gQ
         have gA:=rd1 gS gA
         refine AH (cs:=[sn]) zeroValue26 m f Z Z λgU w a m f=>Aa ?_
         refine gT gR [ib gU 26 [sn],gP,ib b0 72 [gy,(iv gn.2.2.1),(iv gn.2.2.2)]] _ _ gr m ?_
         refine A3 9 Z λgV w gW m gX gX=> ?_
         have gQ:=Ow.mono (RSl.mono (RI.mono _)) gW gQ
         have gA:=rd1 gW gA
         refine Ai 0 0 (ds:=[gO]) m sizeOf26 f Z Z Z (Ah (Ow.one1 1 m gQ Z) An) Z (lb Z) Z λw m=>Aa ?_
         refine gX gV [ib gU 26 [gO],gP,ib b0 72 [gy,(iv gn.2.2.1),(iv gn.2.2.2)]] _ _ gr m ?_
         refine A1 λgY w gZ m=> ?_
         have gQ:=Ow.mono (RSl.mono (RI.mono _)) gZ gQ
         have gA:=rd1 gZ gA
         refine Ac f Z λa f=>Aa ?_
         have m:=m.fr 2
         have m:=m.fr 4
         have m:Mem W gY w (ib af 26 [sn]::ib a1 26 [eI]::ib b0 72 [gy,(iv gn.2.2.1),(iv gn.2.2.2)]::ib gU 26 [gO]::gP::H):=m.fr 4
         obtain rfl:=sj f9
         exact⟨_,_,_,_,_,Z,_,gU,gO,gP,gy,(gt gl (gt gu (gt gC (gt gF (gt gM (gt gS (gt gW gZ))))))),f.k Z,m,gQ,gA⟩
        ·intro gR w gS m gT gT
         have⟨gH,gI,f9⟩:=bind_some f9
         have fX:=rd2 gS fX
         have gz:=od1 gS gz
         have gA:=rd1 gS gA
         refine AH (cs:=[sn]) zeroValue26 m f Z Z λgU w a m f=>Aa ?_
         refine gT gR [ib gU 26 [sn],gx,ib b0 72 [gy,(iv gn.2.2.1),(iv gn.2.2.2)]] _ _ gr m ?_
         refine A3 4 Z λgB w gC m gD gD=> ?_
         have fX:=rd2 gC fX
         have gz:=od1 gC gz
         have gA:=rd1 gC gA
         have m:Mem W gB w (gx::ib gU 26 [sn]::ib b0 72 [gy,(iv gn.2.2.1),(iv gn.2.2.2)]::ib af 26 [sn]::ib a1 26 [eI]::H):=m.fr 1
         obtain⟨gE,gF,m,gG⟩:=Ow.stamp (RI.mono _) gz m
         have fX:=rd2 gF fX
         have gA:=rd1 gF gA
         refine Az f Z call44 (Wk.b0 m fX gG gI) λgJ gK gL w gM m gN a f=> ?_
         obtain⟨gO,gP,rfl,rfl,gQ⟩:=gN
         have gA:=rd1 gM gA
         refine Aa ?_
         refine gD gK [gP,ib gU 26 [sn],ib b0 72 [gy,(iv gn.2.2.1),(iv gn.2.2.2)]] _ _ (gt gF gM) m ?_
         refine Ay 5 10 Z f Z λa f=>q_p 6 10 Z f (λ_=>AB (f.e Z) Z) λa f=>q_p 7 10 Z f (λ_=>AB (f.e Z) Z) λa f=>A3 9 Z λgV w gW m gX gX=> ?_
         have gQ:=Ow.mono (RSl.mono (RI.mono _)) gW gQ
         have gA:=rd1 gW gA
         refine Ai 1 0 (ds:=[gO]) m sizeOf26 f Z Z Z (Ah (Ow.one1 0 m gQ Z) An) Z (lb Z) Z λw m=>Aa ?_
         refine gX gV [gP,ib gU 26 [gO],ib b0 72 [gy,(iv gn.2.2.1),(iv gn.2.2.2)]] _ _ gr m ?_
         refine A1 λgY w gZ m=> ?_
         have gQ:=Ow.mono (RSl.mono (RI.mono _)) gZ gQ
         have gA:=rd1 gZ gA
         refine Ac f Z λa f=>Aa ?_
         have m:=m.fr 1
         have m:=m.fr 2
         have m:Mem W gY w (ib a1 26 [eI]::ib b0 72 [gy,(iv gn.2.2.1),(iv gn.2.2.2)]::ib gU 26 [gO]::gP::ib af 26 [sn]::H):=m.fr 4
         have m:Mem W gY w (ib af 26 [sn]::ib a1 26 [eI]::ib b0 72 [gy,(iv gn.2.2.1),(iv gn.2.2.2)]::ib gU 26 [gO]::gP::H):=m.fr 4
         obtain rfl:=sj f9
         exact⟨_,_,_,_,_,Z,_,gU,gO,gP,gy,(gt gl (gt gu (gt gS (gt gC (gt gF (gt gM (gt gW gZ))))))),f.k Z,m,gQ,gA⟩
       ·intro gR w gS m gT gT
        have⟨gn,go,f9⟩:=bind_some f9
        have⟨gH,gI,f9⟩:=bind_some f9
        have fX:=rd2 gS fX
        have f6:=rd1 gS f6
        refine AH (cs:=[sn]) zeroValue26 m f Z Z λgU w a m f=>Aa ?_
        refine gT gR [ib gU 26 [sn],ib b0 72 [f5,(iv fY.2.2.1),(iv fY.2.2.2)]] _ _ gr m ?_
        refine A3 3 Z λgk w gl m gm gm=> ?_
        have fX:=rd2 gl fX
        have f6:=rd1 gl f6
        have m:Mem W gk w (ib b0 72 [f5,(iv fY.2.2.1),(iv fY.2.2.2)]::ib gU 26 [sn]::ib af 26 [sn]::ib a1 26 [eI]::H):=m.fr 1
        refine Az f Z call45 (Wk.r0 m f6 fX go) λgp gq gs w gu m gv a f=> ?_
        obtain⟨gw,gx,gy,rfl,rfl,gz,gA⟩:=gv
        have fX:=rd2 gu fX
        refine Aa ?_
        refine gm gq [gx,ib b0 72 [gy,(iv gn.2.2.1),(iv gn.2.2.2)],ib gU 26 [sn]] _ _ gu m ?_
        refine A3 4 Z λgB w gC m gD gD=> ?_
        have fX:=rd2 gC fX
        have gz:=od1 gC gz
        have gA:=rd1 gC gA
        obtain⟨gE,gF,m,gG⟩:=Ow.stamp (RI.mono _) gz m
        have fX:=rd2 gF fX
        have gA:=rd1 gF gA
        refine Az f Z call44 (Wk.b0 m fX gG gI) λgJ gK gL w gM m gN a f=> ?_
        obtain⟨gO,gP,rfl,rfl,gQ⟩:=gN
        have gA:=rd1 gM gA
        refine Aa ?_
        refine gD gK [gP,ib b0 72 [gy,(iv gn.2.2.1),(iv gn.2.2.2)],ib gU 26 [sn]] _ _ (gt gF gM) m ?_
        refine Ay 5 10 Z f Z λa f=>q_p 6 10 Z f (λ_=>AB (f.e Z) Z) λa f=>q_p 7 10 Z f (λ_=>AB (f.e Z) Z) λa f=>A3 9 Z λgV w gW m gX gX=> ?_
        have gQ:=Ow.mono (RSl.mono (RI.mono _)) gW gQ
        have gA:=rd1 gW gA
        refine Ai 2 0 (ds:=[gO]) m sizeOf26 f Z Z Z (Ah (Ow.one1 0 m gQ Z) An) Z (lb Z) Z λw m=>Aa ?_
        refine gX gV [gP,ib b0 72 [gy,(iv gn.2.2.1),(iv gn.2.2.2)],ib gU 26 [gO]] _ _ gr m ?_
        refine A1 λgY w gZ m=> ?_
        have gQ:=Ow.mono (RSl.mono (RI.mono _)) gZ gQ
        have gA:=rd1 gZ gA
        refine Ac f Z λa f=>Aa ?_
        have m:=m.fr 2
        have m:=m.fr 2
        have m:Mem W gY w (ib a1 26 [eI]::ib b0 72 [gy,(iv gn.2.2.1),(iv gn.2.2.2)]::ib gU 26 [gO]::gP::ib af 26 [sn]::H):=m.fr 4
        have m:Mem W gY w (ib af 26 [sn]::ib a1 26 [eI]::ib b0 72 [gy,(iv gn.2.2.1),(iv gn.2.2.2)]::ib gU 26 [gO]::gP::H):=m.fr 4
        obtain rfl:=sj f9
        exact⟨_,_,_,_,_,Z,_,gU,gO,gP,gy,(gt gS (gt gl (gt gu (gt gC (gt gF (gt gM (gt gW gZ))))))),f.k Z,m,gQ,gA⟩
      ·rintro a w ⟨ga,gb,gc,gd,ge,rfl,gf,gg,gh,gi,gj,g0,f,m,g1,g2⟩
       have fX:=rd2 g0 fX
       refine Ae ?_
       refine Ab f Z λa f=>Aa ?_
       rcases Af hd with⟨g3,hd⟩|⟨g3,hd⟩
       ·refine Al f Z g3 ?_
        refine Aq ?_
        refine Au 3 0 (ds:=[gh]) m AA f Z Z Z Z Z λa f=>Ai 1 0 (ds:=[gh]) m sizeOf26 f Z Z Z (Ah (Ow.one1 4 m g1 Z) An) Z (lb Z) Z λw m=>AG ?_
        refine Au 1 0 (ds:=[gh]) m AA f Z Z Z Z Z λa f=>Ai 0 0 (ds:=[gh]) m sizeOf26 f Z Z Z (Ah (Ow.one1 4 m g1 Z) An) Z (lb Z) Z λw m=>Aa ?_
        refine Am ?_
        have m:Mem W gf w (gi::ib af 26 [gh]::ib a1 26 [gh]::ib b0 72 [gj,(iv gd),(iv ge)]::ib gg 26 [gh]::H):=m.fr 4
        obtain⟨g4,g5,m,g6⟩:=Ow.stamp (RSl.mono (RI.mono _)) g1 m
        have g2:=rd1 g5 g2
        have g7:=A2 (P:=prog) 0 m AA f (s:=2) rfl rfl rfl
        have m:=m.fr 2
        have m:=m.eraseAt 3
        have m:Mem W g4 w (ib b0 72 [gj,(iv gd),(iv ge)]::ib af 26 [gh]::H):=m.eraseAt 2
        have m:=m.eraseAt 1
        obtain rfl:=sj hd
        exact⟨[(.agg #[gh])],⟨g7,trivial⟩,f.d,_,[ib b0 72 [gj,(iv gd),(iv ge)]],(gt al (gt aN (gt aW (gt a7 (gt c3 (gt db (gt eo (gt ew (gt fV (gt f3 (gt g0 g5))))))))))),m,_,_,Z,Z,g6,g2⟩
       ·refine Aj f Z g3 ?_
        refine Ao ?_
        refine Ae ?_
        refine Au 1 0 (ds:=[eI]) m AA f Z Z Z Z Z λa f=>Ai 0 0 (ds:=[eI]) m sizeOf26 f Z Z Z (Ah fX.one1 An) Z (lb Z) Z λw m=>Aa ?_
        refine Am ?_
        have g8:=A2 (P:=prog) 0 m AA f (s:=2) rfl rfl rfl
        have m:=m.fr 2
        have m:=m.fr 4
        have m:Mem W gf w (ib b0 72 [gj,(iv gd),(iv ge)]::gi::ib af 26 [eI]::ib a1 26 [eI]::ib gg 26 [gh]::H):=m.fr 1
        have m:=m.eraseAt 4
        have m:=m.eraseAt 3
        have m:Mem W gf w (ib b0 72 [gj,(iv gd),(iv ge)]::gi::H):=m.eraseAt 2
        have m:=m.eraseAt 1
        obtain rfl:=sj hd
        exact⟨[(.agg #[eI])],⟨g8,trivial⟩,f.d,_,[ib b0 72 [gj,(iv gd),(iv ge)]],(gt al (gt aN (gt aW (gt a7 (gt c3 (gt db (gt eo (gt ew (gt fV (gt f3 g0)))))))))),m,_,_,Z,Z,fX,g2⟩
     ·refine Aj f Z f7 ?_
      refine Ao ?_
      refine Ae ?_
      refine Au 2 0 (ds:=[eI]) m AA f Z Z Z Z Z λa f=>Ai 1 0 (ds:=[eI]) m sizeOf26 f Z Z Z (Ah fX.one1 An) Z (lb Z) Z λw m=>Aa ?_
      refine Am ?_
      have g9:=A2 (P:=prog) 1 m AA f (s:=2) rfl rfl rfl
      have m:=m.eraseAt 2
      have m:Mem W f1 w (ib b0 72 [f5,(iv fY.2.2.1),(iv fY.2.2.2)]::H):=m.eraseAt 1
      obtain rfl:=sj hd
      exact⟨[(.agg #[eI])],⟨g9,trivial⟩,f.d,_,[ib b0 72 [f5,(iv fY.2.2.1),(iv fY.2.2.2)]],(gt al (gt aN (gt aW (gt a7 (gt c3 (gt db (gt eo (gt ew (gt fV f3))))))))),m,_,_,Z,Z,fX,f6⟩
theorem Wk.E0 {v0:Value}{x0:LI}(m:Mem W G w (H))(h0:RSl (RI .u8) G v0 x0){y:(LL)×Int}(hd:D.E0 x0=some y):
  Calls prog 5 #[v0] w (Res W G H (λG' Ho v=>∃r0:Value,Ho=[]∧v= .tuple #[(.agg #[r0]),(iv y.2)]∧R2 G' r0 y.1)):=by
 refine Aw (args:=[v0]) (N:=19) [.cell 2 26,.tmp 3] func5 Z Z (lb Z) Z λa f=> ?_
 unfold D.E0 at hd
 refine Ae ?_
 refine AH (cs:=[sn]) zeroValue26 m f Z Z λaa w a m f=>Ac f Z λa f=>AG ?_
 refine Ab f Z λa f=> ?_
 have⟨ab,ac,hd⟩:=bind_some hd
 refine Az f Z call13 (Wk.v0 m h0 ac) λad ae af w ag m ah a f=> ?_
 obtain⟨ai,aj,rfl,rfl,ak⟩:=ah
 refine Ac f Z λa f=>AG ?_
 refine Ab f Z λa f=> ?_
 have⟨al,am,hd⟩:=bind_some hd
 refine Az f Z call14 (Wk.y0 m ak am) λan ao ap w aq m ar a f=> ?_
 obtain⟨au,av,rfl,rfl,aw,ax⟩:=ar
 refine AH (cs:=[sn]) zeroValue26 m f Z Z λay w a m f=>Ai 0 0 (ds:=[au]) m sizeOf26 f Z Z Z (Ah aw.one1 An) Z (lb Z) Z λw m=>Aa (Ag (Ae ?_))
 refine Ab f Z λa f=> ?_
 have m:Mem W ao w (ib aj 72 [av,(iv al.2.2.1),(iv al.2.2.2)]::ib ay 26 [au]::ib aa 26 [sn]::H):=m.fr 1
 have⟨az,aA,hd⟩:=bind_some hd
 refine Az f Z call15 (Wk.l m ax aA) λaB aC aD w aE m aF a f=> ?_
 obtain⟨aG,rfl,rfl,aH⟩:=aF
 have aw:=rd2 aE aw
 refine Aa ?_
 rcases Af hd with⟨aI,hd⟩|⟨aI,hd⟩
 ·refine Al f Z aI ?_
  refine Ag ?_
  refine Dd [ib aj 72 [aG,(iv az.2.2.1),(iv az.2.2.2)]] (ib ay 26 [au]::ib aa 26 [sn]::H) 3 AW (by kernel_rfl) m ?_
  refine BC (i:=0) (ds:=[au]) 3 0 AA Z Z Z Z (by kernel_rfl) Z f Z Z Z λa f=>Ay 1 3 Z f Z λa f=>A3 2 Z λaJ w aK m aL aL=> ?_
  have aw:=rd2 aK aw
  have aH:=rd1 aK aH
  have⟨aM,aN,hd⟩:=bind_some hd
  refine Az f Z call16 (Wk.n0 m aH aN) λaO aP aQ w aR m aS a f=> ?_
  obtain⟨aT,rfl,rfl,aU⟩:=aS
  have aw:=rd2 aR aw
  refine Aa ?_
  refine aL aP [ib aj 72 [aT,(iv aM.2.2.1),(iv aM.2.2.2)]] _ _ aR m ?_
  refine A1 λaV w aW m=> ?_
  have aw:=rd2 aW aw
  refine Ai 2 0 (ds:=[au]) m sizeOf26 f Z Z Z (Ah aw.one1 An) Z (lb Z) Z λw m=>Ac f Z λa f=>Aa ?_
  refine Am ?_
  have aX:=A2 (P:=prog) 2 m AA f (s:=2) rfl rfl rfl
  have m:Mem W aV w H:=Mem.drop (H':=[ib aj 72 [aT,(iv aM.2.2.1),(iv aM.2.2.2)],ib ay 26 [au],ib aa 26 [au]]) m
  obtain rfl:=sj hd
  exact⟨[(.agg #[au]),(iv aM.1)],⟨aX,f.get _ _ Z,trivial⟩,f.d,_,[],(gt ag (gt aq (gt aE (gt aK (gt aR aW))))),m,_,Z,Z,aw⟩
 ·refine Aj f Z aI ?_
  refine Ao ?_
  refine Ag ?_
  have m:=m.fr 2
  have m:Mem W aC w (ib aj 72 [aG,(iv az.2.2.1),(iv az.2.2.2)]::ib aa 26 [sn]::ib ay 26 [au]::H):=m.fr 1
  refine Dd [ib aj 72 [aG,(iv az.2.2.1),(iv az.2.2.2)],ib aa 26 [sn]] (ib ay 26 [au]::H) 5 AW (by kernel_rfl) m ?_
  refine BC (i:=0) (ds:=[au]) 5 0 AA Z Z Z Z (by kernel_rfl) Z f Z Z Z λa f=>Ay 1 5 Z f Z λa f=>A3 2 Z λaY w aZ m a0 a0=> ?_
  have aw:=rd2 aZ aw
  have aH:=rd1 aZ aH
  have⟨a1,a2,hd⟩:=bind_some hd
  refine Az f Z call17 (Wk.a m aH a2) λa3 a4 a5 w a6 m a7 a f=> ?_
  obtain⟨a8,rfl,rfl,a9⟩:=a7
  have aw:=rd2 a6 aw
  refine Aa ?_
  refine a0 a4 [ib aj 72 [a8,(iv a1.2.2.1),(iv a1.2.2.2)],ib aa 26 [sn]] _ _ a6 m ?_
  refine q_p 3 5 Z f (λ_=>Bi (f.e Z) (f.e Z) AD) λa f=>A3 4 Z λba w bb m bc bc=> ?_
  have aw:=rd2 bb aw
  refine Ai 1 0 (ds:=[au]) m sizeOf26 f Z Z Z (Ah aw.one1 An) Z (lb Z) Z λw m=>Aa ?_
  refine bc ba [ib aj 72 [a8,(iv a1.2.2.1),(iv a1.2.2.2)],ib aa 26 [au]] _ _ gr m ?_
  refine A1 λbd w be m=> ?_
  have aw:=rd2 be aw
  refine Ac f Z λa f=>Aa ?_
  refine Am ?_
  have bf:=A2 (P:=prog) 1 m AA f (s:=2) rfl rfl rfl
  have m:Mem W bd w H:=Mem.drop (H':=[ib aj 72 [a8,(iv a1.2.2.1),(iv a1.2.2.2)],ib aa 26 [au],ib ay 26 [au]]) m
  obtain rfl:=sj hd
  exact⟨[(.agg #[au]),(iv (i64.wrap (1+a1.1)))],⟨bf,f.get _ _ Z,trivial⟩,f.d,_,[],(gt ag (gt aq (gt aE (gt aZ (gt a6 (gt bb be)))))),m,_,Z,Z,aw⟩
theorem Wk.v {x0:Int}(m:Mem W G w (H)){y:Int×Int}(hd:D.v x0=some y):
  Calls prog 18 #[(iv x0)] w (Res W G H (λ_ Ho v=>Ho=[]∧v= .tuple #[(iv y.1),(iv y.2)])):=by
 refine Aw (args:=[(iv x0)]) (N:=13) [.tmp 2,.tmp 3] func18 Z Z (lb Z) Z λa f=> ?_
 unfold D.v at hd
 refine Ae ?_
 refine Ac f Z λa f=>Ac f Z λa f=>Aa (Ag (Ae ?_))
 refine Ab f Z λa f=>Aa (Ap (Ae ?_))
 refine Ak f Z Z Bj λa f=>Ac f Z λa f=>Aa ?_
 rcases Af hd with⟨aa,hd⟩|⟨aa,hd⟩
 ·refine Al f Z aa ?_
  refine Ae ?_
  refine Ac f Z λa f=>Ac f Z λa f=>Aa ?_
  refine Am ?_
  obtain rfl:=sj hd
  exact⟨[(iv 5),(iv 0)],⟨f.get _ _ Z,f.get _ _ Z,trivial⟩,f.d,_,[],gr,m,Z,Z⟩
 ·refine Aj f Z aa ?_
  refine Ae ?_
  refine Ak f Z Z Bj λa f=>Ac f Z λa f=>Aa ?_
  rcases Af hd with⟨ab,hd⟩|⟨ab,hd⟩
  ·refine Al f Z ab ?_
   refine Ae ?_
   refine Ac f Z λa f=>Ac f Z λa f=>Aa ?_
   refine Am ?_
   obtain rfl:=sj hd
   exact⟨[(iv 3),(iv 3)],⟨f.get _ _ Z,f.get _ _ Z,trivial⟩,f.d,_,[],gr,m,Z,Z⟩
  ·refine Aj f Z ab ?_
   refine Ae ?_
   refine Ak f Z Z Bj λa f=>Ac f Z λa f=>Aa ?_
   rcases Af hd with⟨ac,hd⟩|⟨ac,hd⟩
   ·refine Al f Z ac ?_
    refine Ae ?_
    refine Ac f Z λa f=>Ac f Z λa f=>Aa ?_
    refine Am ?_
    obtain rfl:=sj hd
    exact⟨[(iv 4),(iv 0)],⟨f.get _ _ Z,f.get _ _ Z,trivial⟩,f.d,_,[],gr,m,Z,Z⟩
   ·refine Aj f Z ac ?_
    refine Ae ?_
    refine Ak f Z Z Bj λa f=>Ac f Z λa f=>Aa ?_
    rcases Af hd with⟨ad,hd⟩|⟨ad,hd⟩
    ·refine Al f Z ad ?_
     refine Ae ?_
     refine Ac f Z λa f=>Ac f Z λa f=>Aa ?_
     refine Am ?_
     obtain rfl:=sj hd
     exact⟨[(iv 2),(iv 3)],⟨f.get _ _ Z,f.get _ _ Z,trivial⟩,f.d,_,[],gr,m,Z,Z⟩
    ·refine Aj f Z ad ?_
     refine Ao ?_
     refine Ae ?_
     refine Ac f Z λa f=>Ac f Z λa f=>Aa ?_
     refine Am ?_
     obtain rfl:=sj hd
     exact⟨[(iv 0),(iv 0)],⟨f.get _ _ Z,f.get _ _ Z,trivial⟩,f.d,_,[],gr,m,Z,Z⟩
theorem Wk.g1 {x0 x1 x2:Int}(m:Mem W G w (H)){y:Bool}(hd:D.g1 x0 x1 x2=some y):
  Calls prog 92 #[(iv x0),(iv x1),(iv x2)] w (Res W G H (λ_ Ho v=>Ho=[]∧v=(.bool y))):=by
 refine Aw (args:=[(iv x0),(iv x1),(iv x2)]) (N:=15) [.tmp 6] func92 Z Z (lb Z) Z λa f=> ?_
 unfold D.g1 at hd
 refine Ae ?_
 refine Ac f Z λa f=>AG ?_
 refine Ab f Z λa f=>Ab f Z λa f=>Ak f Z Z Ch λa f=>Ab f Z λa f=> ?_
 refine Be 4 (λa w=>∃aa,GLe G aa∧Mem W aa w (H)∧Fr a 15 [(0,(iv x0)),(1,(iv x1)),(2,(iv x2)),(7,(iv x1)),(8,(iv x0)),(9,(.bool (decide (x1≤x0)))),(10,(.bool (decide (x1≤x0)))),(14,(.bool ((decide (x1≤x0))&&(decide (x0≤x2)))))]) ?_ ?_
 ·rcases Bool.eq_false_or_eq_true (decide (x1≤x0)) with ab|ab
  ·refine Ar f ab ?_
   refine Ab f Z λa f=>Ar f ab ?_
   refine Ab f Z λa f=>Ar f ab ?_
   refine Ak f Z Z Ch λa f=>l_o f (AK (f.e Z) ab (f.e Z)) λa f=> ?_
   exact⟨_,gr,m,f.weak ⟨Z,Z,Z,Z,Z,Z,Z,by rw[ab];rfl,trivial⟩⟩
  ·refine As f ab λa f=> ?_
   refine As f ab λa f=>As f ab λa f=>l_o f (AL (f.e Z) ab (f.e Z)) λa f=> ?_
   exact⟨_,gr,m,f.weak ⟨Z,Z,Z,Z,Z,Z,Z,by rw[ab];rfl,trivial⟩⟩
 ·rintro a w ⟨aa,ac,m,f⟩
  refine Ac f Z λa f=>Aa ?_
  refine Am ?_
  obtain rfl:=sj hd
  exact⟨[(.bool ((decide (x1≤x0))&&(decide (x0≤x2))))],f.g Z,f.d,_,[],ac,m,Z,Z⟩
theorem Wk.L0 {v0:Value}{x0:LI}{x1:Int}(m:Mem W G w (H))(h0:R1 G v0 x0){y:Bool}(hd:D.L0 x0 x1=some y):
  Calls prog 78 #[v0,(iv x1)] w (Res W G H (λ_ Ho v=>Ho=[]∧v=(.bool y))):=by
 refine Aw (args:=[v0,(iv x1)]) (N:=33) [.tmp 4] func78 Z Z (lb Z) Z λa f=> ?_
 unfold D.L0 at hd
 refine Ae ?_
 refine Ac f Z λa f=>Aa (Ag (Ae ?_))
 refine Ab f Z λa f=>Bb underlying29 f Z Z h0 λa f=>Ab f Z λa f=>Aa ?_
 have⟨aa,ab,hd⟩:=bind_some hd
 refine AR (λa w=>∃q_181':Unit,aa= .inl q_181'∧∃(ac:GH),GLe G ac∧Fr a 33 []∧Mem W ac w (H)) ?_ ?_
 ·refine Ap ?_
  refine AQ (λad a w=>∃ae:Int,ae=ad∧∃(af:GH),GLe G af∧Fr a 33 [(0,v0),(1,(iv x1)),(7,v0),(8,(iv (x0.length:Int))),(9,(iv ae))]∧Mem W af w (H)) ab ⟨_,Z,_,gr,f.k Z,m⟩ ?_
  clear ab f m
  rintro ad ag ah ai a w ⟨ae,rfl,af,aj,f,m⟩
  have h0:=rd1 aj h0
  refine Ae ?_
  refine Ak f Z Z AV λa f=>Aa (Ag ?_)
  rcases Af ah with⟨ak,ah⟩|⟨ak,ah⟩
  ·refine Al f Z ak ?_
   refine Ao ?_
   refine Ag (Ap (Ae ?_))
   refine Ab f Z λa f=> ?_
   have⟨al,am,ah⟩:=bind_some ah
   refine Bo T29 f Z Z Z h0 am λan ao a ap aq f=> ?_
   subst aq
   refine AN m Pl2 f Z Z ap λa f=>Ac f Z λa f=>Ac f Z λa f=>AG ?_
   refine Ab f Z λa f=>Ab f Z λa f=>Ak f Z Z BO λa f=> ?_
   have⟨ar,au,ah⟩:=bind_some ah
   refine A4 f Z call92 (Wk.g1 m au) λav w aw m a f=> ?_
   have h0:=rd1 aw h0
   refine l_o f (Bp (f.e Z)) λa f=>Ab f Z λa f=> ?_
   have⟨ax,ay,ah⟩:=bind_some ah
   refine Be 12 (λa w=>∃az,GLe av az∧Mem W az w (H)∧Fr a 33 [(0,v0),(1,(iv x1)),(5,(iv ae)),(6,(iv al)),(7,v0),(8,(iv (x0.length:Int))),(9,(iv ae)),(14,(iv al)),(15,(iv x1)),(16,(iv (i64.wrap (x1-1)))),(17,(.bool ar)),(18,(.bool (!ar))),(19,(.bool (!ar))),(31,(.bool ax))]) ?_ ?_
   ·rcases Af ay with⟨aA,ay⟩|⟨aA,ay⟩
    ·refine As f aA λa f=> ?_
     refine As f aA λa f=>As f aA λa f=>Bv f Z Z Z λa f=>Bv f Z Z Z λa f=>Bv f Z Z Z λa f=>Bv f Z Z Z λa f=>Bv f Z Z Z λa f=>Bv f Z Z Z λa f=>Bv f Z Z Z λa f=>As f aA λa f=>l_o f (AK (f.e Z) aA (f.e Z)) λa f=> ?_
     obtain rfl:=sj ay
     exact⟨_,gr,m,f.k Z⟩
    ·refine Ar f aA ?_
     refine Ab f Z λa f=>Ar f aA ?_
     refine Ak f Z Z Cu λa f=>Ar f aA ?_
     refine Ab f Z λa f=> ?_
     have⟨aB,aC,ay⟩:=bind_some ay
     refine Be 8 (λa w=>∃aD,GLe av aD∧Mem W aD w (H)∧Fr a 33 [(0,v0),(1,(iv x1)),(5,(iv ae)),(6,(iv al)),(7,v0),(8,(iv (x0.length:Int))),(9,(iv ae)),(14,(iv al)),(15,(iv x1)),(16,(iv (i64.wrap (x1-1)))),(17,(.bool ar)),(18,(.bool (!ar))),(19,(.bool (!ar))),(20,(iv ae)),(21,(.bool (decide ((0:Int)<ae)))),(22,(.bool (decide ((0:Int)<ae)))),(30,(.bool aB))]) ?_ ?_
     ·rcases Af aC with⟨aE,aC⟩|⟨aE,aC⟩
      ·refine Ar f aE ?_
       refine Ab f Z λa f=>Ar f aE ?_
       refine Ab f Z λa f=>Ar f aE ?_
       refine Ak f Z Z BO λa f=>Ar f aE ?_
       have⟨aF,aG,aC⟩:=bind_some aC
       refine Bo T29 f Z Z Z h0 aG λaH aI a aJ aK f=> ?_
       subst aK
       refine Ar f aE ?_
       refine AN m Pl2 f Z Z aJ λa f=>Ar f aE ?_
       refine Ab f Z λa f=>Ar f aE ?_
       refine Ak f Z Z b_geq λa f=>Ar f aA ?_
       refine l_o f (AK (f.e Z) aE (f.e Z)) λa f=> ?_
       obtain rfl:=sj aC
       exact⟨_,gr,m,f.k Z⟩
      ·refine As f aE λa f=> ?_
       refine As f aE λa f=>As f aE λa f=>As f aE λa f=>As f aE λa f=>As f aE λa f=>As f aE λa f=>Ar f aA ?_
       refine l_o f (AL (f.e Z) aE (f.e Z)) λa f=> ?_
       obtain rfl:=sj aC
       exact⟨_,gr,m,f.k Z⟩
     ·rintro a w ⟨aD,aL,m,f⟩
      refine l_o f (AL (f.e Z) aA (f.e Z)) λa f=> ?_
      obtain rfl:=sj ay
      exact⟨_,aL,m,f.k Z⟩
   ·rintro a w ⟨az,aM,m,f⟩
    refine Aa ?_
    rcases Af ah with⟨aN,ah⟩|⟨aN,ah⟩
    ·refine Al f Z aN ?_
     refine Ae ?_
     refine Ac f Z λa f=>Aa ?_
     refine Am ?_
     obtain rfl:=sj ah
     obtain rfl:=ai _ rfl
     obtain rfl:=sj hd
     exact⟨[(.bool false)],f.g Z,f.d,_,[],(gt aj (gt aw aM)),m,Z,Z⟩
    ·refine Aj f Z aN ?_
     refine Ao ?_
     refine Aq ?_
     refine Ak f Z Z AD λa f=>Ab f Z λa f=>Aa ?_
     obtain rfl:=sj ah
     exact⟨_,Z,_,Z,_,(gt aj (gt aw aM)),f.k Z,m⟩
  ·refine Aj f Z ak ?_
   refine AO Z ?_
   obtain rfl:=sj ah
   obtain rfl:=ai _ rfl
   exact⟨_,Z,_,aj,f.weak trivial,m⟩
 ·rintro a w ⟨_,rfl,ac,aO,f,m⟩
  refine Ae ?_
  refine Ac f Z λa f=>Aa ?_
  refine Am ?_
  obtain rfl:=sj hd
  exact⟨[(.bool true)],f.g Z,f.d,_,[],aO,m,Z,Z⟩
theorem Wk.Z0 {aa:Value}{ab:LL}(m:Mem W G w (H))(ac:R2 G aa ab){y:Bool}(hd:D.Z0 ab=some y):
  Calls prog 47 #[(.agg #[aa])] w (Res W G H (λ_ Ho v=>Ho=[]∧v=(.bool y))):=by
 refine Aw (args:=[(.agg #[aa])]) (N:=61) [.tmp 2] func47 Z Z (lb Z) Z λa f=> ?_
 unfold D.Z0 at hd
 refine Ae ?_
 refine Bf (cs:=[aa]) m f Z Z Z λad w a m f=>Ac f Z λa f=>AG ?_
 refine Bh underlying26 Z sizeOf24 f Z λa f=>AE 0 0 m Bk f Z Z Z Z λa f=>Bb underlying24 f Z Z ac λa f=>Ac f Z λa f=>Aa (Ag (Ae ?_))
 refine Ab f Z λa f=>Ak f Z Z AV λa f=>Ab f Z λa f=> ?_
 refine Be 3 (λa w=>∃ae,GLe G ae∧Mem W ae w (ib ad 26 [aa]::H)∧Fr a 61 [(0,(.agg #[aa])),(1,(pb ad)),(3,(iv (ab.length:Int))),(13,(iv (ab.length:Int))),(14,(.bool (decide ((ab.length:Int)<1)))),(15,(.bool (decide ((ab.length:Int)<1)))),(18,(.bool ((decide ((ab.length:Int)<1))||(decide ((16:Int)<(ab.length:Int))))))]) ?_ ?_
 ·rcases Bool.eq_false_or_eq_true (decide ((ab.length:Int)<1)) with af|af
  ·refine As f af λa f=> ?_
   refine As f af λa f=>l_o f (AK (f.e Z) af (f.e Z)) λa f=> ?_
   exact⟨_,gr,m,f.weak ⟨Z,Z,Z,Z,Z,Z,by rw[af];rfl,trivial⟩⟩
  ·refine Ar f af ?_
   refine Ab f Z λa f=>Ar f af ?_
   refine Ak f Z Z Cu λa f=>l_o f (AL (f.e Z) af (f.e Z)) λa f=> ?_
   exact⟨_,gr,m,f.weak ⟨Z,Z,Z,Z,Z,Z,by rw[af];rfl,trivial⟩⟩
 ·rintro a w ⟨ae,ag,m,f⟩
  have ac:=rd2 ag ac
  refine Aa ?_
  rcases Af hd with⟨ah,hd⟩|⟨ah,hd⟩
  ·refine Al f Z ah ?_
   refine Ae ?_
   refine Ac f Z λa f=>Aa ?_
   refine Am ?_
   have m:Mem W ae w H:=Mem.drop (H':=[ib ad 26 [aa]]) m
   obtain rfl:=sj hd
   exact⟨[(.bool false)],f.g Z,f.d,_,[],ag,m,Z,Z⟩
  ·refine Aj f Z ah ?_
   refine Ao ?_
   refine Ag (Ae ?_)
   refine Bh underlying26 Z sizeOf24 f Z λa f=>AE 0 0 m Bk f Z Z Z Z λa f=>Bb underlying24 f Z Z ac λa f=>Ab f Z λa f=>Aa ?_
   have⟨ai,aj,hd⟩:=bind_some hd
   refine AR (λa w=>∃q_91':Unit,ai= .inl q_91'∧∃(ak:GH),GLe ae ak∧Fr a 61 [(1,(pb ad))]∧Mem W ak w (ib ad 26 [aa]::H)) ?_ ?_
   ·refine Ap ?_
    refine AQ (λal a w=>∃am:Int,am=al∧∃(an:GH),GLe ae an∧Fr a 61 [(1,(pb ad)),(3,(iv (ab.length:Int))),(20,aa),(21,(iv (ab.length:Int))),(22,(iv am))]∧Mem W an w (ib ad 26 [aa]::H)) aj ⟨_,Z,_,gr,f.k Z,m⟩ ?_
    clear aj f m
    rintro al ao ap aq a w ⟨am,rfl,an,ar,f,m⟩
    have ac:=rd2 ar ac
    refine Ae ?_
    refine Ak f Z Z AV λa f=>Aa (Ag ?_)
    rcases Af ap with⟨au,ap⟩|⟨au,ap⟩
    ·refine Al f Z au ?_
     refine Ao ?_
     refine Ag (Ap (Ae ?_))
     refine Ab f Z λa f=> ?_
     have⟨av,aw,ap⟩:=bind_some ap
     refine Bo T24 f Z Z Z ac aw λax ay a az aA f=>AN m By f Z Z az λa f=>Ac f Z λa f=>Ac f Z λa f=>AG ?_
     refine Ab f Z λa f=>Ab f Z λa f=> ?_
     have⟨aB,aC,ap⟩:=bind_some ap
     refine A4 f Z call78 (Wk.L0 m aA aC) λaD w aE m a f=> ?_
     have aA:=rd1 aE aA
     refine l_o f (Bp (f.e Z)) λa f=>Ab f Z λa f=> ?_
     have⟨aF,aG,ap⟩:=bind_some ap
     refine Be 4 (λa w=>∃aH,GLe aD aH∧Mem W aH w (ib ad 26 [aa]::H)∧Fr a 61 [(1,(pb ad)),(3,(iv (ab.length:Int))),(4,(iv am)),(5,ay),(20,aa),(21,(iv (ab.length:Int))),(22,(iv am)),(27,ay),(28,(iv (ab.length:Int))),(29,(.bool aB)),(30,(.bool (!aB))),(31,(.bool (!aB))),(35,(.bool aF))]) ?_ ?_
     ·rcases Af aG with⟨aI,aG⟩|⟨aI,aG⟩
      ·refine As f aI λa f=> ?_
       refine As f aI λa f=>As f aI λa f=>l_o f (AK (f.e Z) aI (f.e Z)) λa f=> ?_
       obtain rfl:=sj aG
       exact⟨_,gr,m,f.k Z⟩
      ·refine Ar f aI ?_
       refine Ab f Z λa f=>Ar f aI ?_
       refine Ab f Z λa f=>Ar f aI ?_
       have⟨aJ,aK,aG⟩:=bind_some aG
       refine A4 f Z call79 (Wk.h0 m aA aK) λaL w aM m a f=>l_o f (AL (f.e Z) aI (f.e Z)) λa f=> ?_
       obtain rfl:=sj aG
       exact⟨_,aM,m,f.k Z⟩
     ·rintro a w ⟨aH,aN,m,f⟩
      refine Aa ?_
      rcases Af ap with⟨aO,ap⟩|⟨aO,ap⟩
      ·refine Al f Z aO ?_
       refine Ae ?_
       refine Ac f Z λa f=>Aa ?_
       refine Am ?_
       have m:Mem W aH w H:=Mem.drop (H':=[ib ad 26 [aa]]) m
       obtain rfl:=sj ap
       obtain rfl:=aq _ rfl
       obtain rfl:=sj hd
       exact⟨[(.bool false)],f.g Z,f.d,_,[],(gt ag (gt ar (gt aE aN))),m,Z,Z⟩
      ·refine Aj f Z aO ?_
       refine Ao ?_
       refine Aq ?_
       refine Ak f Z Z AD λa f=>Ab f Z λa f=>Aa ?_
       obtain rfl:=sj ap
       exact⟨_,Z,_,Z,_,(gt ar (gt aE aN)),f.k Z,m⟩
    ·refine Aj f Z au ?_
     refine AO Z ?_
     obtain rfl:=sj ap
     obtain rfl:=aq _ rfl
     exact⟨_,Z,_,ar,f.k Z,m⟩
   ·rintro a w ⟨_,rfl,ak,aP,f,m⟩
    have ac:=rd2 aP ac
    refine Ag (Ae ?_)
    refine Bh underlying26 Z sizeOf24 f Z λa f=>AE 0 0 m Bk f Z Z Z Z λa f=>Bb underlying24 f Z Z ac λa f=>Ab f Z λa f=>Aa ?_
    have⟨aQ,aR,hd⟩:=bind_some hd
    refine AR (λa w=>∃q_394':Unit,aQ= .inl q_394'∧∃(aS:GH),GLe ak aS∧Fr a 61 []∧Mem W aS w (H)) ?_ ?_
    ·refine Ap ?_
     refine AQ (λaT a w=>∃aU:Int,aU=aT∧∃(aV:GH),GLe ak aV∧Fr a 61 [(1,(pb ad)),(38,aa),(39,(iv (ab.length:Int))),(40,(iv aU))]∧Mem W aV w (ib ad 26 [aa]::H)) aR ⟨_,Z,_,gr,f.k Z,m⟩ ?_
     clear aR f m
     rintro aT aW aX aY a w ⟨aU,rfl,aV,aZ,f,m⟩
     have ac:=rd2 aZ ac
     refine Ae ?_
     refine Ak f Z Z AV λa f=>Aa (Ag ?_)
     rcases Af aX with⟨a0,aX⟩|⟨a0,aX⟩
     ·refine Al f Z a0 ?_
      refine Ao ?_
      refine Ag (Ap (Ae ?_))
      refine Ab f Z λa f=> ?_
      have⟨a1,a2,aX⟩:=bind_some aX
      refine Bo T24 f Z Z Z ac a2 λa3 a4 a a5 a6 f=>AN m By f Z Z a5 λa f=>Ac f Z λa f=>Ac f Z λa f=>AG ?_
      refine Ab f Z λa f=>Bb underlying29 f Z Z a6 λa f=>Ab f Z λa f=>Aa ?_
      have⟨a7,a8,aX⟩:=bind_some aX
      refine AR (λa w=>∃q_560':Unit,a7= .inl q_560'∧∃(a9:GH),GLe aV a9∧Fr a 61 [(1,(pb ad)),(38,aa),(39,(iv (ab.length:Int))),(40,(iv aU))]∧Mem W a9 w (ib ad 26 [aa]::H)) ?_ ?_
      ·refine Ap ?_
       refine AQ (λba a w=>∃bb:Int,bb=ba∧∃(bc:GH),GLe aV bc∧Fr a 61 [(1,(pb ad)),(6,(iv aU)),(38,aa),(39,(iv (ab.length:Int))),(40,(iv aU)),(45,a4),(46,(iv (a1.length:Int))),(47,(iv bb))]∧Mem W bc w (ib ad 26 [aa]::H)) a8 ⟨_,Z,_,gr,f.k Z,m⟩ ?_
       clear a8 f m
       rintro ba bd be bf a w ⟨bb,rfl,bc,bg,f,m⟩
       have ac:=rd2 bg ac
       have a6:=rd1 bg a6
       refine Ae ?_
       refine Ak f Z Z AV λa f=>Aa (Ag ?_)
       rcases Af be with⟨bh,be⟩|⟨bh,be⟩
       ·refine Al f Z bh ?_
        refine Ao ?_
        refine Ag (Ap (Ae ?_))
        have⟨bi,bj,be⟩:=bind_some be
        refine Bo T29 f Z Z Z a6 bj λbk bl a bm bn f=> ?_
        subst bn
        refine AN m Pl2 f Z Z bm λa f=>Ac f Z λa f=>AG ?_
        refine Bh underlying26 Z sizeOf24 f Z λa f=>AE 0 0 m Bk f Z Z Z Z λa f=>Ab f Z λa f=> ?_
        have⟨bo,bp,be⟩:=bind_some be
        refine Bo T24 f Z Z Z ac bp λbq br a bs bt f=>AN m By f Z Z bs λa f=>Ab f Z λa f=> ?_
        have⟨bu,bv,be⟩:=bind_some be
        refine A4 f Z call79 (Wk.h0 m bt bv) λbw w bx m a f=>l_o f (Bp (f.e Z)) λa f=>Aa ?_
        rcases Af be with⟨bz,be⟩|⟨bz,be⟩
        ·refine Al f Z bz ?_
         refine Ae ?_
         refine Ac f Z λa f=>Aa ?_
         refine Am ?_
         have m:Mem W bw w H:=Mem.drop (H':=[ib ad 26 [aa]]) m
         obtain rfl:=sj be
         obtain rfl:=bf _ rfl
         obtain rfl:=sj aX
         obtain rfl:=aY _ rfl
         obtain rfl:=sj hd
         exact⟨[(.bool false)],f.g Z,f.d,_,[],(gt ag (gt aP (gt aZ (gt bg bx)))),m,Z,Z⟩
        ·refine Aj f Z bz ?_
         refine Ao ?_
         refine Aq ?_
         refine Ak f Z Z AD λa f=>Ab f Z λa f=>Aa ?_
         obtain rfl:=sj be
         exact⟨_,Z,_,Z,_,(gt bg bx),f.k Z,m⟩
       ·refine Aj f Z bh ?_
        refine AO Z ?_
        obtain rfl:=sj be
        obtain rfl:=bf _ rfl
        exact⟨_,Z,_,bg,f.k Z,m⟩
      ·rintro a w ⟨_,rfl,a9,bA,f,m⟩
       refine Aq ?_
       refine Ak f Z Z AD λa f=>Ab f Z λa f=>Aa ?_
       obtain rfl:=sj aX
       exact⟨_,Z,_,Z,_,(gt aZ bA),f.k Z,m⟩
     ·refine Aj f Z a0 ?_
      refine AO Z ?_
      have m:Mem W aV w H:=Mem.drop (H':=[ib ad 26 [aa]]) m
      obtain rfl:=sj aX
      obtain rfl:=aY _ rfl
      exact⟨_,Z,_,aZ,f.weak trivial,m⟩
    ·rintro a w ⟨_,rfl,aS,bB,f,m⟩
     refine Ae ?_
     refine Ac f Z λa f=>Aa ?_
     refine Am ?_
     obtain rfl:=sj hd
     exact⟨[(.bool true)],f.g Z,f.d,_,[],(gt ag (gt aP bB)),m,Z,Z⟩
theorem Wk.p0 {aa:Value}{ab:LL}(m:Mem W G w (H))(ac:R2 G aa ab){y:Bool}(hd:D.p0 ab=some y):
  Calls prog 19 #[(.agg #[aa])] w (Res W G H (λ_ Ho v=>Ho=[]∧v=(.bool y))):=by
 refine Aw (args:=[(.agg #[aa])]) (N:=11) [.tmp 2] func19 Z Z (lb Z) Z λa f=> ?_
 unfold D.p0 at hd
 refine Ae ?_
 refine Bf (cs:=[aa]) m f Z Z Z λad w a m f=>Ac f Z λa f=>AG ?_
 refine Au 0 0 (ds:=[aa]) m AA f Z Z Z Z Z λa f=> ?_
 have⟨ae,af,hd⟩:=bind_some hd
 refine A4 f Z call47 (Wk.Z0 m ac af) λag w ah m a f=> ?_
 have ac:=rd2 ah ac
 refine Ab f Z λa f=> ?_
 refine Be 5 (λa w=>∃ai,GLe ag ai∧Mem W ai w (ib ad 26 [aa]::H)∧Fr a 11 [(0,(.agg #[aa])),(1,(pb ad)),(3,(.agg #[aa])),(4,(.bool ae)),(5,(.bool ae)),(10,(.bool (ae&&(decide ((ab.length:Int)≤8)))))]) ?_ ?_
 ·rcases Bool.eq_false_or_eq_true ae with aj|aj
  ·refine Ar f aj ?_
   refine Bh underlying26 Z sizeOf24 f Z λa f=>Ar f aj ?_
   refine AE 0 0 m Bk f Z Z Z Z λa f=>Ar f aj ?_
   refine Bb underlying24 f Z Z ac λa f=>Ar f aj ?_
   refine Ak f Z Z Ch λa f=>l_o f (AK (f.e Z) aj (f.e Z)) λa f=> ?_
   exact⟨_,gr,m,f.weak ⟨Z,Z,Z,Z,Z,by rw[aj];rfl,trivial⟩⟩
  ·refine As f aj λa f=> ?_
   refine As f aj λa f=>As f aj λa f=>As f aj λa f=>l_o f (AL (f.e Z) aj (f.e Z)) λa f=> ?_
   exact⟨_,gr,m,f.weak ⟨Z,Z,Z,Z,Z,by rw[aj];rfl,trivial⟩⟩
 ·rintro a w ⟨ai,ak,m,f⟩
  refine Ac f Z λa f=>Aa ?_
  refine Am ?_
  have m:Mem W ai w H:=Mem.drop (H':=[ib ad 26 [aa]]) m
  obtain rfl:=sj hd
  exact⟨[(.bool (ae&&(decide ((ab.length:Int)≤8))))],f.g Z,f.d,_,[],(gt ah ak),m,Z,Z⟩
theorem Wk.f {x0:Int}(m:Mem W G w (H)){y:Int}(hd:D.f x0=some y):
  Calls prog 62 #[(iv x0)] w (Res W G H (λ_ Ho v=>Ho=[]∧v=(.int .u32 y))):=by
 refine Aw (args:=[(iv x0)]) (N:=5) [.tmp 2] func62 Z Z (lb Z) Z λa f=> ?_
 unfold D.f at hd
 refine Ae ?_
 refine Ac f Z λa f=>AG ?_
 refine Ab f Z λa f=> ?_
 obtain⟨aa,hd⟩:=C3 hd
 refine l_o f (r_shl (f.e Z) (f.e Z) aa) λa f=>Ac f Z λa f=>Aa ?_
 refine Am ?_
 obtain rfl:=sj hd
 exact⟨[(.int .u32 (ishl .u32 1 x0))],f.g Z,f.d,_,[],gr,m,Z,Z⟩
theorem Wk.O0 {v0:Value}{x0:LI}(m:Mem W G w (H))(h0:R1 G v0 x0){y:Int}(hd:D.O0 x0=some y):
  Calls prog 57 #[v0] w (Res W G H (λ_ Ho v=>Ho=[]∧v=(.int .u32 y))):=by
 refine Aw (args:=[v0]) (N:=18) [.tmp 2] func57 Z Z (lb Z) Z λa f=> ?_
 unfold D.O0 at hd
 refine Ae ?_
 refine Ac f Z λa f=>AG ?_
 refine Ac f Z λa f=>Aa (Ag (Ae ?_))
 refine Ab f Z λa f=>Bb underlying29 f Z Z h0 λa f=>Ab f Z λa f=>Aa ?_
 have⟨aa,ab,hd⟩:=bind_some hd
 refine AR (λa w=>∃ac:Int,ac=aa∧∃(ad:GH),GLe G ad∧Fr a 18 [(3,(.int .u32 ac))]∧Mem W ad w (H)) ?_ ?_
 ·refine Ap ?_
  refine AQ (λae a w=>∃af:Int,∃ag:Int,(af,ag)=ae∧∃(ah:GH),GLe G ah∧Fr a 18 [(3,(.int .u32 af)),(6,v0),(7,(iv (x0.length:Int))),(8,(iv ag))]∧Mem W ah w (H)) ab ⟨_,_,Z,_,gr,f.k Z,m⟩ ?_
  clear ab f m
  rintro ae ai aj ak a w ⟨af,ag,rfl,ah,al,f,m⟩
  have h0:=rd1 al h0
  refine Ae ?_
  refine Ak f Z Z AV λa f=>Aa (Ag ?_)
  rcases Af aj with⟨am,aj⟩|⟨am,aj⟩
  ·refine Al f Z am ?_
   refine Ao ?_
   refine Ag (Ap (Ae ?_))
   have⟨an,ao,aj⟩:=bind_some aj
   refine Bo T29 f Z Z Z h0 ao λap aq a ar au f=> ?_
   subst au
   refine AN m Pl2 f Z Z ar λa f=>Ac f Z λa f=>Aa (Aq ?_)
   refine Ab f Z λa f=>Ab f Z λa f=> ?_
   have⟨av,aw,aj⟩:=bind_some aj
   refine A4 f Z call62 (Wk.f m aw) λax w ay m a f=>Ak f Z Z b_or λa f=>Ac f Z λa f=>Aa (Aq ?_)
   refine Ak f Z Z AD λa f=>Ab f Z λa f=>Aa ?_
   obtain rfl:=sj aj
   exact⟨_,Z,_,_,Z,_,(gt al ay),f.k Z,m⟩
  ·refine Aj f Z am ?_
   refine AO Z ?_
   obtain rfl:=sj aj
   obtain rfl:=ak _ rfl
   exact⟨_,Z,_,al,f.k Z,m⟩
 ·rintro a w ⟨ac,rfl,ad,az,f,m⟩
  refine Ae ?_
  refine Ab f Z λa f=>Ac f Z λa f=>Aa ?_
  refine Am ?_
  obtain rfl:=sj hd
  exact⟨[(.int .u32 ac)],f.g Z,f.d,_,[],az,m,Z,Z⟩
theorem Wk.e0 {aa:Value}{ab:LL}(m:Mem W G w (H))(ac:R2 G aa ab){y:(LI)}(hd:D.e0 ab=some y):
  Calls prog 21 #[(.agg #[aa])] w (Res W G H (λG' Ho v=>∃r0:Value,∃i0:Itm,Ho=[i0]∧r0=v∧Ow (RI .u32) 83 G' i0 r0 y)):=by
 refine Aw (args:=[(.agg #[aa])]) (N:=21) [.tmp 2] func21 Z Z (lb Z) Z λa f=> ?_
 unfold D.e0 at hd
 refine Ae ?_
 refine Bf (cs:=[aa]) m f Z Z Z λad w a m f=>Ac f Z λa f=>AG ?_
 refine AU (R:=(RI .u32)) (xs:=([]:LI)) (RI.one _) m T49 f Z Z Z (by decide) (All2.nil _) λae af w a m ag f=>Ac f Z λa f=>Aa (Ag (Ae ?_))
 refine Bh underlying26 Z sizeOf24 f Z λa f=>AE 1 0 m Bk f Z Z Z Z λa f=>Bb underlying24 f Z Z ac λa f=>Ab f Z λa f=>Aa ?_
 have⟨ah,ai,hd⟩:=bind_some hd
 refine AR (λa w=>∃aj:LI,aj=ah∧∃(ak:GH) (al:Value) (am:Itm),GLe G ak∧Fr a 21 [(3,al)]∧Mem W ak w (am::H)∧Ow (RI .u32) 83 ak am al aj) ?_ ?_
 ·refine Ap ?_
  have m:=m.eraseAt 1
  refine AQ (λan a w=>∃ao:LI,∃ap:Int,(ao,ap)=an∧∃(aq:GH) (ar:Value) (au:Itm),GLe G aq∧Fr a 21 [(3,ar),(8,aa),(9,(iv (ab.length:Int))),(10,(iv ap))]∧Mem W aq w (au::H)∧Ow (RI .u32) 83 aq au ar ao) ai ⟨_,_,Z,_,af,ae,gr,f.k Z,m,ag⟩ ?_
  clear ai f m
  rintro an av aw ax a w ⟨ao,ap,rfl,aq,ar,au,ay,f,m,az⟩
  have ac:=rd2 ay ac
  refine Ae ?_
  refine Ak f Z Z AV λa f=>Aa (Ag ?_)
  rcases Af aw with⟨aA,aw⟩|⟨aA,aw⟩
  ·refine Al f Z aA ?_
   refine Ao ?_
   refine Ag (Ap (Ae ?_))
   have⟨aB,aC,aw⟩:=bind_some aw
   refine Bo T24 f Z Z Z ac aC λaD aE a aF aG f=>AN m By f Z Z aF λa f=>Ac f Z λa f=>Aa (Aq ?_)
   refine Ab f Z λa f=>Ab f Z λa f=> ?_
   have⟨aH,aI,aw⟩:=bind_some aw
   refine A4 f Z call57 (Wk.O0 m aG aI) λaJ w aK m a f=> ?_
   have az:=od1 aK az
   refine AU (R:=(RI .u32)) (xs:=([aH]:LI)) (RI.one _) m T49 f Z Z Z (by decide) (All2.cons Z (All2.nil _)) λaL aM w a m aN f=> ?_
   have⟨aO,aP,aw⟩:=bind_some aw
   refine AX (RI.one _) 1 m az Z T49 Z (by decide) f Z Z Z (Ow.src (j:=0) aN m Z) aP λaQ aR w a m aS f=>Ac f Z λa f=>Aa (Aq ?_)
   refine Ak f Z Z AD λa f=>Ab f Z λa f=>Aa ?_
   have m:=m.fr 1
   have m:=m.eraseAt 1
   obtain rfl:=sj aw
   exact⟨_,Z,_,_,Z,_,aR,aQ,(gt ay aK),f.k Z,m,aS⟩
  ·refine Aj f Z aA ?_
   refine AO Z ?_
   obtain rfl:=sj aw
   obtain rfl:=ax _ rfl
   exact⟨_,Z,_,ar,au,ay,f.k Z,m,az⟩
 ·rintro a w ⟨aj,rfl,ak,al,am,aT,f,m,aU⟩
  refine Ae ?_
  refine Ab f Z λa f=>Ac f Z λa f=>Aa ?_
  refine Am ?_
  obtain rfl:=sj hd
  exact⟨[al],f.g Z,f.d,_,[am],aT,m,_,_,Z,Z,aU⟩
theorem Wk.F {x0:Int}(m:Mem W G w (H)){y:((List (Int×Int)))}(hd:D.F x0=some y):
  Calls prog 33 #[(iv x0)] w (Res W G H (λG' Ho v=>∃r0:Value,∃i0:Itm,Ho=[i0]∧r0=v∧OwR P2 66 G' i0 r0 y)):=by
 refine Aw (args:=[(iv x0)]) (N:=49) [.tmp 2] func33 Z Z (lb Z) Z λa f=> ?_
 unfold D.F at hd
 refine Ae ?_
 refine Ac f Z λa f=>AG ?_
 refine Ab f Z λa f=> ?_
 have⟨aa,ab,hd⟩:=bind_some hd
 refine A4 f Z call18 (Wk.v m ab) λac w ad m a f=>Ab f Z λa f=>l_o f (AB (f.e Z) Z) λa f=>l_o f (AB (f.e Z) Z) λa f=>Ac f Z λa f=>Ac f Z λa f=>AG ?_
 refine l_slitR0 (E:=P2) m T63 f Z λae af w a m ag f=>Ac f Z λa f=>Aa (Ag (Ae ?_))
 refine Ab f Z λa f=>Ab f Z λa f=>Aa ?_
 have⟨ah,ai,hd⟩:=bind_some hd
 refine AR (λa w=>∃aj:List (Int×Int),aj=ah∧∃(ak:GH) (al:Value) (am:Itm),GLe ac ak∧Fr a 49 [(5,al)]∧Mem W ak w (am::H)∧OwR P2 66 ak am al aj) ?_ ?_
 ·refine Ap ?_
  refine AQ (λan a w=>∃ao:List (Int×Int),∃ap:Int,(ao,ap)=an∧∃(aq:GH) (ar:Value) (au:Itm),GLe ac aq∧Fr a 49 [(3,(iv aa.1)),(4,(iv aa.2)),(5,ar),(15,(iv aa.1)),(16,(iv ap))]∧Mem W aq w (au::H)∧OwR P2 66 aq au ar ao) ai ⟨_,_,Z,_,af,ae,gr,f.k Z,m,ag⟩ ?_
  clear ai f m
  rintro an av aw ax a w ⟨ao,ap,rfl,aq,ar,au,ay,f,m,az⟩
  refine Ae ?_
  refine Ak f Z Z AV λa f=>Aa (Ag ?_)
  rcases Af aw with⟨aA,aw⟩|⟨aA,aw⟩
  ·refine Al f Z aA ?_
   refine Ao ?_
   refine Ag (Ap (Ae ?_))
   refine Ab f Z λa f=>Ac f Z λa f=>Aa (Ag (Ae ?_))
   refine Ab f Z λa f=>Ak f Z Z Bj λa f=>Aa ?_
   have⟨aB,aC,aw⟩:=bind_some aw
   refine AR (λa w=>∃aD:List (Int×Int),aD=aB∧∃(aE:GH) (aF:Value) (aG:Itm),GLe aq aE∧Fr a 49 [(3,(iv aa.1)),(4,(iv aa.2)),(5,aF),(6,(iv ap)),(15,(iv aa.1)),(16,(iv ap))]∧Mem W aE w (aG::H)∧OwR P2 66 aE aG aF aD) ?_ ?_
   ·rcases Af aC with⟨aH,aC⟩|⟨aH,aC⟩
    ·refine Al f Z aH ?_
     refine Ae ?_
     refine Ab f Z λa f=>Ak f Z Z AD λa f=>Ac f Z λa f=>Aa ?_
     have⟨aI,aJ,aC⟩:=bind_some aC
     refine AR (λa w=>∃aK:List (Int×Int),aK=aI∧∃(aL:GH) (aM:Value) (aN:Itm),GLe aq aL∧Fr a 49 [(3,(iv aa.1)),(4,(iv aa.2)),(5,aM),(6,(iv ap)),(15,(iv aa.1)),(16,(iv ap))]∧Mem W aL w (aN::H)∧OwR P2 66 aL aN aM aK) ?_ ?_
     ·refine Ap ?_
      refine AQ (λaO a w=>∃aP:List (Int×Int),∃aQ:Int,(aP,aQ)=aO∧∃(aR:GH) (aS:Value) (aT:Itm),GLe aq aR∧Fr a 49 [(3,(iv aa.1)),(4,(iv aa.2)),(5,aS),(6,(iv ap)),(7,(iv aQ)),(15,(iv aa.1)),(16,(iv ap))]∧Mem W aR w (aT::H)∧OwR P2 66 aR aT aS aP) aJ ⟨_,_,Z,_,ar,au,gr,f.k Z,m,az⟩ ?_
      clear aJ f m
      rintro aO aU aV aW a w ⟨aP,aQ,rfl,aR,aS,aT,aX,f,m,aY⟩
      refine Ag (Ae ?_)
      refine Ab f Z λa f=>Ab f Z λa f=>Ak f Z Z AV λa f=>Aa ?_
      rcases Af aV with⟨aZ,aV⟩|⟨aZ,aV⟩
      ·refine Al f Z aZ ?_
       refine Ao ?_
       refine Ag (Ap (Aq ?_))
       refine Ab f Z λa f=>Ab f Z λa f=>Ab f Z λa f=> ?_
       have a0:∀w,(Instr.build 66 #[(0,(iv ap)),(1,(iv aQ))]).run prog w= .ok (.agg #[(iv ap),(iv aQ)]) w:=by intro w;simp[Instr.build,Instr.fill,A8,A6,AT,AZ,AP,A9]
       refine Bl f Z Z a0 λa f=>l_slitR (E:=P2) (y:=(ap,aQ)) (cs:=[(iv ap),(iv aQ)]) m T63 f Z Z Z (lb Z) λa1 a2 w a m a3 f=> ?_
       have⟨a4,a5,aV⟩:=bind_some aV
       refine l_appendR (E:=P2) (z:= .agg #[(iv 0),(iv 0)]) 1 0 m aY Z a3 Z (by simp) T63 Z (by decide) f Z Z Z a5 λa6 a7 w a m a8 f=>Ac f Z λa f=>Aa (Aq ?_)
       refine Ab f Z λa f=>Ak f Z Z AD λa f=>Ac f Z λa f=>Aa ?_
       have m:=m.fr 1
       have m:=m.eraseAt 1
       obtain rfl:=sj aV
       exact⟨_,Z,_,_,Z,_,a7,a6,aX,f.k Z,m,a8⟩
      ·refine Aj f Z aZ ?_
       refine AO Z ?_
       obtain rfl:=sj aV
       obtain rfl:=aW _ rfl
       exact⟨_,Z,_,aS,aT,aX,f.k Z,m,aY⟩
     ·rintro a w ⟨aK,rfl,aL,aM,aN,a9,f,m,ba⟩
      obtain rfl:=sj aC
      exact⟨_,Z,_,aM,aN,a9,f.k Z,m,ba⟩
    ·refine Aj f Z aH ?_
     refine Ao ?_
     obtain rfl:=sj aC
     exact⟨_,Z,_,ar,au,gr,f.k Z,m,az⟩
   ·rintro a w ⟨aD,rfl,aE,aF,aG,bb,f,m,bc⟩
    refine Ae ?_
    refine Ab f Z λa f=>Ab f Z λa f=>Aa ?_
    have⟨bd,be,aw⟩:=bind_some aw
    refine AR (λa w=>∃bf:List (Int×Int),bf=bd∧∃(bg:GH) (bh:Value) (bi:Itm),GLe aE bg∧Fr a 49 [(3,(iv aa.1)),(4,(iv aa.2)),(5,bh),(15,(iv aa.1)),(16,(iv ap))]∧Mem W bg w (bi::H)∧OwR P2 66 bg bi bh bf) ?_ ?_
    ·refine Ap ?_
     refine AQ (λbj a w=>∃bk:List (Int×Int),∃bl:Int,(bk,bl)=bj∧∃(bm:GH) (bn:Value) (bo:Itm),GLe aE bm∧Fr a 49 [(3,(iv aa.1)),(4,(iv aa.2)),(5,bn),(6,(iv ap)),(15,(iv aa.1)),(16,(iv ap)),(34,(iv aa.2)),(35,(iv bl))]∧Mem W bm w (bo::H)∧OwR P2 66 bm bo bn bk) be ⟨_,_,Z,_,aF,aG,gr,f.k Z,m,bc⟩ ?_
     clear be f m
     rintro bj bp bq br a w ⟨bk,bl,rfl,bm,bn,bo,bs,f,m,bt⟩
     refine Ae ?_
     refine Ak f Z Z AV λa f=>Aa (Ag ?_)
     rcases Af bq with⟨bu,bq⟩|⟨bu,bq⟩
     ·refine Al f Z bu ?_
      refine Ao ?_
      refine Ag (Ap (Ae ?_))
      refine Ab f Z λa f=>Ac f Z λa f=>Aa (Aq ?_)
      refine Ab f Z λa f=>Ab f Z λa f=>Ab f Z λa f=>Ab f Z λa f=>Ak f Z Z AD λa f=> ?_
      have bv:∀w,(Instr.build 66 #[(0,(iv ap)),(1,(iv (i64.wrap (aa.1+bl))))]).run prog w= .ok (.agg #[(iv ap),(iv (i64.wrap (aa.1+bl)))]) w:=by intro w;simp[Instr.build,Instr.fill,A8,A6,AT,AZ,AP,A9]
      refine Bl f Z Z bv λa f=>l_slitR (E:=P2) (y:=(ap,(i64.wrap (aa.1+bl)))) (cs:=[(iv ap),(iv (i64.wrap (aa.1+bl)))]) m T63 f Z Z Z (lb Z) λbw bx w a m bz f=> ?_
      have⟨bA,bB,bq⟩:=bind_some bq
      refine l_appendR (E:=P2) (z:= .agg #[(iv 0),(iv 0)]) 1 0 m bt Z bz Z (by simp) T63 Z (by decide) f Z Z Z bB λbC bD w a m bE f=>Ac f Z λa f=>Aa (Aq ?_)
      refine Ak f Z Z AD λa f=>Ab f Z λa f=>Aa ?_
      have m:=m.fr 1
      have m:=m.eraseAt 1
      obtain rfl:=sj bq
      exact⟨_,Z,_,_,Z,_,bD,bC,bs,f.k Z,m,bE⟩
     ·refine Aj f Z bu ?_
      refine AO Z ?_
      obtain rfl:=sj bq
      obtain rfl:=br _ rfl
      exact⟨_,Z,_,bn,bo,bs,f.k Z,m,bt⟩
    ·rintro a w ⟨bf,rfl,bg,bh,bi,bF,f,m,bG⟩
     refine Aq ?_
     refine Ak f Z Z AD λa f=>Ab f Z λa f=>Aa ?_
     obtain rfl:=sj aw
     exact⟨_,Z,_,_,Z,_,bh,bi,(gt ay (gt bb bF)),f.k Z,m,bG⟩
  ·refine Aj f Z aA ?_
   refine AO Z ?_
   obtain rfl:=sj aw
   obtain rfl:=ax _ rfl
   exact⟨_,Z,_,ar,au,ay,f.k Z,m,az⟩
 ·rintro a w ⟨aj,rfl,ak,al,am,bH,f,m,bI⟩
  refine Ae ?_
  refine Ab f Z λa f=>Ac f Z λa f=>Aa ?_
  refine Am ?_
  obtain rfl:=sj hd
  exact⟨[al],f.g Z,f.d,_,[am],(gt ad bH),m,_,_,Z,Z,bI⟩
theorem Wk.o0 {v0:Value}{it0:Itm}{x0:LI}{x1 x2:Int}(m:Mem W G w (it0::H))(o0:Ow (RI .u32) 83 G it0 v0 x0){y:(LI)}(hd:D.o0 x0 x1 x2=some y):
  Calls prog 34 #[v0,(iv x1),(iv x2)] w (Res W G H (λG' Ho _=>∃i0:Itm,Ho=[i0]∧Ow (RI .u32) 83 G' i0 v0 y)):=by
 refine Aw (args:=[v0,(iv x1),(iv x2)]) (N:=22) [] func34 Z Z (lb Z) Z λa f=> ?_
 unfold D.o0 at hd
 refine Ag ?_
 refine Bc 8 AW (by kernel_rfl) m ?_
 refine Ay 0 8 Z f Z λa f=>Ay 1 8 Z f Z λa f=> ?_
 have⟨aa,ab,hd⟩:=bind_some hd
 refine Ck 2 8 0 m o0 T49 ab Z f Z Z λac a ad f=>q_ol 3 8 0 o0 Pl83 ad ab Z f Z λae a af f=> ?_
 subst af
 refine Ay 4 8 Z f Z λa f=> ?_
 have⟨ag,ah,hd⟩:=bind_some hd
 refine BL (i:=5) 8 Z (by kernel_rfl) Z f Z Z Z call62 (λ_ _ w ai m=>Wk.f m ah) λa f=>q_p 6 8 Z f (λ_=>Bi (f.e Z) (f.e Z) b_or) λa f=> ?_
 have⟨aj,ak,hd⟩:=bind_some hd
 refine Ck 7 8 0 m o0 T49 ak Z f Z Z λal a am f=>A1 λan w ao m=> ?_
 have o0:=od1 ao o0
 refine BK 0 m o0 Z sizeOf83 f Z Z am ak Z Z Z λap w m aq=>Aa ?_
 refine Bc 8 AW (by kernel_rfl) m ?_
 refine Ay 0 8 Z f Z λa f=>Ay 1 8 Z f Z λa f=> ?_
 have⟨ar,au,hd⟩:=bind_some hd
 refine Ck 2 8 0 m aq T49 au Z f Z Z λav a aw f=>q_ol 3 8 0 aq Pl83 aw au Z f Z λax a ay f=> ?_
 subst ay
 refine Ay 4 8 Z f Z λa f=> ?_
 have⟨az,aA,hd⟩:=bind_some hd
 refine BL (i:=5) 8 Z (by kernel_rfl) Z f Z Z Z call62 (λ_ _ w aB m=>Wk.f m aA) λa f=>q_p 6 8 Z f (λ_=>Bi (f.e Z) (f.e Z) b_or) λa f=> ?_
 have⟨aC,aD,hd⟩:=bind_some hd
 refine Ck 7 8 0 m aq T49 aD Z f Z Z λaE a aF f=>A1 λaG w aH m=> ?_
 have aq:=od1 aH aq
 refine BK 0 m aq Z sizeOf83 f Z Z aF aD Z Z Z λaI w m aJ=>Aa ?_
 obtain rfl:=sj hd
 exact⟨[],trivial,f.d,_,[aI],(gt ao aH),m,_,Z,aJ⟩
theorem Wk.B {x0:Int}(hW:B4 W)(m:Mem W G w (H)){y:Int}(hd:D.B x0=some y):
  Calls prog 51 #[(.int .u32 x0)] w (Res W G H (λ_ Ho v=>Ho=[]∧v=(iv y))):=by
 refine Aw (args:=[(.int .u32 x0)]) (N:=5) [.tmp 2] func51 Z Z (lb Z) Z λa f=> ?_
 unfold D.B at hd
 refine Ae ?_
 refine Ac f Z λa f=>AG ?_
 refine Ab f Z λa f=> ?_
 have⟨aa,ab,hd⟩:=bind_some hd
 refine A4 f Z call80 (Wk.b1 hW m ab) λac w ad m a f=>Ac f Z λa f=>Aa ?_
 refine Am ?_
 obtain rfl:=sj hd
 exact⟨[(iv aa)],f.g Z,f.d,_,[],ad,m,Z,Z⟩
theorem Wk.t {x0:Int}(hW:B4 W)(m:Mem W G w (H)){y:(LI)}(hd:D.t x0=some y):
  Calls prog 52 #[(.int .u32 x0)] w (Res W G H (λG' Ho v=>∃r0:Value,∃i0:Itm,Ho=[i0]∧r0=v∧Ow R0 3 G' i0 r0 y)):=by
 refine Aw (args:=[(.int .u32 x0)]) (N:=17) [.tmp 2] func52 Z Z (lb Z) Z λa f=> ?_
 unfold D.t at hd
 refine Ae ?_
 refine Ac f Z λa f=>AG ?_
 refine AU (R:=R0) (xs:=([]:LI)) (RI.one _) m T61 f Z Z Z (by decide) (All2.nil _) λaa ab w a m ac f=>Ac f Z λa f=>Aa (Ag ?_)
 have⟨ad,ae,hd⟩:=bind_some hd
 refine AR (λa w=>∃af:LI,af=ad∧∃(ag:GH) (ah:Value) (ai:Itm),GLe G ag∧Fr a 17 [(3,ah)]∧Mem W ag w (ai::H)∧Ow R0 3 ag ai ah af) ?_ ?_
 ·refine Ap ?_
  refine AQ (λaj a w=>∃ak:Int,∃al:LI,(ak,al)=aj∧∃(am:GH) (an:Value) (ao:Itm),GLe G am∧Fr a 17 [(0,(.int .u32 ak)),(3,an)]∧Mem W am w (ao::H)∧Ow R0 3 am ao an al) ae ⟨_,_,Z,_,ab,aa,gr,f.k Z,m,ac⟩ ?_
  clear ae f m
  rintro aj ap aq ar a w ⟨ak,al,rfl,am,an,ao,au,f,m,av⟩
  refine Ag (Ae ?_)
  refine Ab f Z λa f=>Ak f Z Z CF λa f=>Aa ?_
  rcases Af aq with⟨aw,aq⟩|⟨aw,aq⟩
  ·refine Al f Z aw ?_
   refine Ao ?_
   refine Ag (Ap (Aq ?_))
   refine Ab f Z λa f=>Ab f Z λa f=> ?_
   have⟨ax,ay,aq⟩:=bind_some aq
   refine A4 f Z call51 (Wk.B hW m ay) λaz w aA m a f=> ?_
   have av:=od1 aA av
   refine AU (R:=R0) (xs:=([ax]:LI)) (RI.one _) m T61 f Z Z Z (by decide) (All2.cons Z (All2.nil _)) λaB aC w a m aD f=> ?_
   have⟨aE,aF,aq⟩:=bind_some aq
   refine AX (RI.one _) 1 m av Z T61 Z (by decide) f Z Z Z (Ow.src (j:=0) aD m Z) aF λaG aH w a m aI f=>Ac f Z λa f=>Aa (Aq ?_)
   refine Ab f Z λa f=>Ab f Z λa f=>Ak f Z Z BO λa f=>Ak f Z Z CL λa f=>Ac f Z λa f=>Aa ?_
   have m:=m.fr 1
   have m:=m.eraseAt 1
   obtain rfl:=sj aq
   exact⟨_,Z,_,_,Z,_,aH,aG,(gt au aA),f.k Z,m,aI⟩
  ·refine Aj f Z aw ?_
   refine AO Z ?_
   obtain rfl:=sj aq
   obtain rfl:=ar _ rfl
   exact⟨_,Z,_,an,ao,au,f.k Z,m,av⟩
 ·rintro a w ⟨af,rfl,ag,ah,ai,aJ,f,m,aK⟩
  refine Ae ?_
  refine Ab f Z λa f=>Ac f Z λa f=>Aa ?_
  refine Am ?_
  obtain rfl:=sj hd
  exact⟨[ah],f.g Z,f.d,_,[ai],aJ,m,_,_,Z,Z,aK⟩
theorem Wk.A {v0:Value}{x0:LI}(m:Mem W G w (H))(h0:R1 G v0 x0){y:(LI)}(hd:D.A x0=some y):
  Calls prog 56 #[v0] w (Res W G H (λG' Ho v=>∃r0:Value,∃i0:Itm,Ho=[i0]∧r0=v∧Ow R0 2 G' i0 r0 y)):=by
 refine Aw (args:=[v0]) (N:=21) [.tmp 2] func56 Z Z (lb Z) Z λa f=> ?_
 unfold D.A at hd
 refine Ae ?_
 refine Ac f Z λa f=>AG ?_
 refine Ab f Z λa f=>Bb underlying61 f Z Z h0 λa f=> ?_
 have⟨aa,ab,hd⟩:=bind_some hd
 refine l_make (R:=R0) m T29 Z (by decide) Z f Z Z Z ab λac ad w a m ae f=>Ac f Z λa f=>Aa (Ag (Ae ?_))
 refine Ab f Z λa f=>Bb underlying61 f Z Z h0 λa f=>Ab f Z λa f=>Aa ?_
 have⟨af,ag,hd⟩:=bind_some hd
 refine AR (λa w=>∃ah:LI,ah=af∧∃(ai:GH) (aj:Value) (ak:Itm),GLe G ai∧Fr a 21 [(3,aj)]∧Mem W ai w (ak::H)∧Ow R0 2 ai ak aj ah) ?_ ?_
 ·refine Ap ?_
  refine AQ (λal a w=>∃am:LI,∃an:Int,(am,an)=al∧∃(ao:GH) (ap:Value) (aq:Itm),GLe G ao∧Fr a 21 [(3,ap),(9,v0),(10,(iv (x0.length:Int))),(11,(iv an))]∧Mem W ao w (aq::H)∧Ow R0 2 ao aq ap am) ag ⟨_,_,Z,_,ad,ac,gr,f.k Z,m,ae⟩ ?_
  clear ag f m
  rintro al ar au av a w ⟨am,an,rfl,ao,ap,aq,aw,f,m,ax⟩
  have h0:=rd1 aw h0
  refine Ae ?_
  refine Ak f Z Z AV λa f=>Aa (Ag ?_)
  rcases Af au with⟨ay,au⟩|⟨ay,au⟩
  ·refine Al f Z ay ?_
   refine Ao ?_
   refine Ag (Ap (Ae ?_))
   have⟨az,aA,au⟩:=bind_some au
   refine Bo T61 f Z Z Z h0 aA λaB aC a aD aE f=> ?_
   subst aE
   refine AN m Pl3 f Z Z aD λa f=>Ac f Z λa f=>Aa (Aq ?_)
   refine Ab f Z λa f=>Ab f Z λa f=>AU (R:=R0) (xs:=([az]:LI)) (RI.one _) m T29 f Z Z Z (by decide) (All2.cons Z (All2.nil _)) λaF aG w a m aH f=> ?_
   have⟨aI,aJ,au⟩:=bind_some au
   refine AX (RI.one _) 1 m ax Z T29 Z (by decide) f Z Z Z (Ow.src (j:=0) aH m Z) aJ λaK aL w a m aM f=>Ac f Z λa f=>Aa (Aq ?_)
   refine Ak f Z Z AD λa f=>Ab f Z λa f=>Aa ?_
   have m:=m.fr 1
   have m:=m.eraseAt 1
   obtain rfl:=sj au
   exact⟨_,Z,_,_,Z,_,aL,aK,aw,f.k Z,m,aM⟩
  ·refine Aj f Z ay ?_
   refine AO Z ?_
   obtain rfl:=sj au
   obtain rfl:=av _ rfl
   exact⟨_,Z,_,ap,aq,aw,f.k Z,m,ax⟩
 ·rintro a w ⟨ah,rfl,ai,aj,ak,aN,f,m,aO⟩
  refine Ae ?_
  refine Ab f Z λa f=>Ac f Z λa f=>Aa ?_
  refine Am ?_
  obtain rfl:=sj hd
  exact⟨[aj],f.g Z,f.d,_,[ak],aN,m,_,_,Z,Z,aO⟩
theorem Wk.z0 {x0:Int}(hW:B4 W)(m:Mem W G w (H)){y:(LI)}(hd:D.z0 x0=some y):
  Calls prog 63 #[(.int .u32 x0)] w (Res W G H (λG' Ho v=>∃r0:Value,∃i0:Itm,Ho=[i0]∧r0=v∧Ow R0 2 G' i0 r0 y)):=by
 refine Aw (args:=[(.int .u32 x0)]) (N:=6) [.tmp 2] func63 Z Z (lb Z) Z λa f=> ?_
 unfold D.z0 at hd
 refine Ae ?_
 refine Ac f Z λa f=>AG ?_
 refine Ab f Z λa f=> ?_
 have⟨aa,ab,hd⟩:=bind_some hd
 refine Az f Z call52 (Wk.t hW m ab) λac ad ae w af m ag a f=> ?_
 obtain⟨ah,ai,rfl,rfl,aj⟩:=ag
 have⟨ak,al,hd⟩:=bind_some hd
 refine Az f Z call56 (Ow.lendCall (RI.mono _) 0 aj m Z (λam an m ao=>Wk.A m ao al) (λ_ G' _ _ ⟨a0,a1,e1,e2,o0⟩=>⟨a0,a1,e1,e2,Ow.free (RI.free _) G' o0⟩)) λap aq ar w au m av a f=> ?_
 obtain⟨aw,ax,rfl,rfl,ay⟩:=av
 refine Ac f Z λa f=>Aa ?_
 refine Am ?_
 have m:=m.eraseAt 1
 obtain rfl:=sj hd
 exact⟨[aw],f.g Z,f.d,_,[ax],(gt af au),m,_,_,Z,Z,ay⟩
theorem Wk.B0 {v0:Value}{x0:LI}(hW:B4 W)(m:Mem W G w (H))(h0:RSl (RI .u32) G v0 x0){y:(LL)}(hd:D.B0 x0=some y):
  Calls prog 35 #[v0] w (Res W G H (λG' Ho v=>∃r0:Value,∃i0:Itm,Ho=[i0]∧v=(.agg #[r0])∧Ow R1 29 G' i0 r0 y)):=by
 refine Aw (args:=[v0]) (N:=22) [.cell 2 26] func35 Z Z (lb Z) Z λa f=> ?_
 unfold D.B0 at hd
 refine Ae ?_
 refine AH (cs:=[sn]) zeroValue26 m f Z Z λaa w a m f=>AG ?_
 have ab:∀w,(Instr.build 26 #[]).run prog w= .ok (.agg #[sn]) w:=by intro w;simp[Instr.build,Instr.fill,A8,A6,AT,AZ,AP,A9]
 refine Bl f Z Z ab λa f=>AH (cs:=[sn]) zeroValue26 m f Z Z λac w a m f=>Ai 0 0 (ds:=[sn]) m sizeOf26 f Z Z Z (Ah Z An) Z (lb Z) Z λw m=>Aa (Ag (Ae ?_))
 refine Ab f Z λa f=>Bb underlying49 f Z Z h0 λa f=>Ab f Z λa f=>Aa ?_
 obtain⟨ad,m,ae⟩:=Ow.nil R1 29 m
 have⟨af,ag,hd⟩:=bind_some hd
 refine AR (λa w=>∃ah:LL,ah=af∧∃(ai:GH) (aj:Value) (ak:Itm),GLe G ai∧Fr a 22 [(2,(pb aa)),(3,(pb ac))]∧Mem W ai w (ib aa 26 [sn]::ib ac 26 [aj]::ak::H)∧Ow R1 29 ai ak aj ah) ?_ ?_
 ·refine Ap ?_
  have m:=m.fr 1
  have m:=m.fr 2
  refine AQ (λal a w=>∃am:Int,∃an:LL,(am,an)=al∧∃(ao:GH) (ap:Value) (aq:Itm),GLe G ao∧Fr a 22 [(2,(pb aa)),(3,(pb ac)),(7,v0),(8,(iv (x0.length:Int))),(9,(iv am))]∧Mem W ao w (ib aa 26 [sn]::ib ac 26 [ap]::aq::H)∧Ow R1 29 ao aq ap an) ag ⟨_,_,Z,_,sn,ad,gr,f.k Z,m,ae⟩ ?_
  clear ag f m
  rintro al ar au av a w ⟨am,an,rfl,ao,ap,aq,aw,f,m,ax⟩
  have h0:=rd1 aw h0
  refine Ae ?_
  refine Ak f Z Z AV λa f=>Aa (Ag ?_)
  rcases Af au with⟨ay,au⟩|⟨ay,au⟩
  ·refine Al f Z ay ?_
   refine Ao ?_
   refine Ag (Ap (Ae ?_))
   have⟨az,aA,au⟩:=bind_some au
   refine Bo T49 f Z Z Z h0 aA λaB aC a aD aE f=> ?_
   subst aE
   refine AN m Pl83 f Z Z aD λa f=>Ac f Z λa f=>Aa ?_
   refine Bc 5 AW (by kernel_rfl) m ?_
   refine BB 0 5 underlying26 Z sizeOf24 Z f Z λa f=>Bd 1 5 1 Bk Z Z Z f Z λa f=>Ay 2 5 Z f Z λa f=>A3 3 Z λaF w aG m aH aH=> ?_
   have ax:=Ow.mono (RSl.mono (RI.mono _)) aG ax
   have⟨aI,aJ,au⟩:=bind_some au
   refine Az f Z call63 (Wk.z0 hW m aJ) λaK aL aM w aN m aO a f=> ?_
   obtain⟨aP,aQ,rfl,rfl,aR⟩:=aO
   have ax:=Ow.mono (RSl.mono (RI.mono _)) aN ax
   refine Aa ?_
   refine aH aL [aQ] _ _ aN m ?_
   refine A3 4 Z λaS w aT m aU aU=> ?_
   have aR:=od1 aT aR
   have ax:=Ow.mono (RSl.mono (RI.mono _)) aT ax
   obtain⟨aV,aW,m,aX⟩:=Ow.stamp (RI.mono _) aR m
   have ax:=Ow.mono (RSl.mono (RI.mono _)) aW ax
   refine AU (R:=R1) (xs:=([aI]:LL)) (RSl.one _) m T24 f Z Z Z (by decide) (All2.cons aX (All2.nil _)) λaY aZ w a m a0 f=>Aa ?_
   refine aU aV [aY] _ _ aW m ?_
   refine A1 λa1 w a2 m=> ?_
   have a0:=Ow.mono (RSl.mono (RI.mono _)) a2 a0
   have ax:=Ow.mono (RSl.mono (RI.mono _)) a2 ax
   have⟨a3,a4,au⟩:=bind_some au
   refine AX (RSl.one _) 3 m ax Z T24 Z (by decide) f Z Z Z (Ow.src (j:=0) a0 m Z) a4 λa5 a6 w a m a7 f=>Bh underlying26 Z sizeOf24 f Z λa f=>Ai 2 0 (ds:=[a6]) m sizeOf24 f Z Z (Ow.cells 3 m a7 Z) (Ah (Ow.one1 3 m a7 Z) An) Z (lb Z) Z λw m=>Aa (Aq ?_)
   refine Ak f Z Z AD λa f=>Ab f Z λa f=>Aa ?_
   have m:=m.fr 3
   have m:=m.fr 3
   have m:Mem W a1 w (ib aa 26 [sn]::ib ac 26 [a6]::a5::aY::H):=m.fr 3
   have m:=m.eraseAt 3
   obtain rfl:=sj au
   exact⟨_,Z,_,_,Z,_,a6,a5,(gt aw (gt aG (gt aN (gt aT (gt aW a2))))),f.k Z,m,a7⟩
  ·refine Aj f Z ay ?_
   refine AO Z ?_
   obtain rfl:=sj au
   obtain rfl:=av _ rfl
   exact⟨_,Z,_,ap,aq,aw,f.k Z,m,ax⟩
 ·rintro a w ⟨ah,rfl,ai,aj,ak,a8,f,m,a9⟩
  refine Ae ?_
  refine Au 1 0 (ds:=[aj]) m AA f Z Z Z Z Z λa f=>Ai 0 0 (ds:=[aj]) m sizeOf26 f Z Z Z (Ah (Ow.one1 2 m a9 Z) An) Z (lb Z) Z λw m=>Aa ?_
  refine Am ?_
  have ba:=A2 (P:=prog) 0 m AA f (s:=2) rfl rfl rfl
  have m:=m.fr 2
  have m:=m.eraseAt 2
  have m:=m.eraseAt 1
  obtain rfl:=sj hd
  exact⟨[(.agg #[aj])],⟨ba,trivial⟩,f.d,_,[ak],a8,m,_,_,Z,Z,a9⟩
theorem Wk.i0 {x0:Int}(hW:B4 W)(m:Mem W G w (H)){y:(LL)}(hd:D.i0 x0=some y):
  Calls prog 9 #[(iv x0)] w (Res W G H (λG' Ho v=>∃r0:Value,∃i0:Itm,Ho=[i0]∧v=(.agg #[r0])∧Ow R1 29 G' i0 r0 y)):=by
 refine Aw (args:=[(iv x0)]) (N:=36) [.cell 2 26] func9 Z Z (lb Z) Z λa f=> ?_
 unfold D.i0 at hd
 refine Ae ?_
 refine AH (cs:=[sn]) zeroValue26 m f Z Z λaa w a m f=>AG ?_
 refine Ab f Z λa f=> ?_
 have⟨ab,ac,hd⟩:=bind_some hd
 refine A4 f Z call18 (Wk.v m ac) λad w ae m a f=>Ab f Z λa f=>l_o f (AB (f.e Z) Z) λa f=>l_o f (AB (f.e Z) Z) λa f=>Ac f Z λa f=>Ac f Z λa f=>Aa (Ag (Ae ?_))
 refine Ab f Z λa f=>Ak f Z Z Bj λa f=>Aa ?_
 rcases Af hd with⟨af,hd⟩|⟨af,hd⟩
 ·refine Al f Z af ?_
  refine Ae ?_
  have ag:∀w,(Instr.build 26 #[]).run prog w= .ok (.agg #[sn]) w:=by intro w;simp[Instr.build,Instr.fill,A8,A6,AT,AZ,AP,A9]
  refine Bl f Z Z ag λa f=>Ai 0 0 (ds:=[sn]) m sizeOf26 f Z Z Z (Ah Z An) Z (lb Z) Z λw m=>Aa ?_
  refine Am ?_
  obtain⟨ah,m,ai⟩:=Ow.nil R1 29 m
  have aj:=A2 (P:=prog) 1 m AA f (s:=2) rfl rfl rfl
  have m:=m.eraseAt 1
  obtain rfl:=sj hd
  exact⟨[(.agg #[sn])],⟨aj,trivial⟩,f.d,_,[ah],ae,m,_,_,Z,Z,ai⟩
 ·refine Aj f Z af ?_
  refine Ao ?_
  refine Ae ?_
  refine Ab f Z λa f=>Ab f Z λa f=>Ak f Z Z AD λa f=> ?_
  have⟨ak,al,hd⟩:=bind_some hd
  refine l_make (R:=(RI .u32)) m T49 Z (by decide) Z f Z Z Z al λam an w a m ao f=>Ac f Z λa f=>Aa (Ag (Ae ?_))
  refine Ab f Z λa f=> ?_
  have⟨ap,aq,hd⟩:=bind_some hd
  refine Az f Z call33 (Wk.F m aq) λar au av w aw m ax a f=> ?_
  obtain⟨ay,az,rfl,rfl,aA⟩:=ax
  have ao:=od1 aw ao
  refine l_ownR_len 0 m aA Z underlying63 f Z Z λa f=>Ab f Z λa f=>Aa ?_
  obtain⟨aB,aC,m,aD⟩:=OwR.stamp trivial aA m
  have ao:=od1 aC ao
  have⟨aE,aF,hd⟩:=bind_some hd
  refine AR (λa w=>∃aG:LI,aG=aE∧∃(aH:GH) (aI:Itm),GLe aB aH∧Fr a 36 [(2,(pb aa)),(5,an)]∧Mem W aH w (ib aa 26 [sn]::aI::H)∧Ow (RI .u32) 83 aH aI an aG) ?_ ?_
  ·refine Ap ?_
   have m:=m.fr 1
   refine AQ (λaJ a w=>∃aK:LI,∃aL:List (Int×Int),∃aM:Int,(aK,aL,aM)=aJ∧∃(aN:GH) (aO:Itm) (aP:Value),GLe aB aN∧Fr a 36 [(2,(pb aa)),(5,an),(21,aP),(22,(iv (ap.length:Int))),(23,(iv aM))]∧Mem W aN w (ib aa 26 [sn]::aO::H)∧Ow (RI .u32) 83 aN aO an aK∧RSr P2 aN aP aL) aF ⟨_,_,_,Z,_,am,ay,gr,f.k Z,m,ao,aD⟩ ?_
   clear aF f m
   rintro aJ aQ aR aS a w ⟨aK,aL,aM,rfl,aN,aO,aP,aT,f,m,aU,aV⟩
   refine Ae ?_
   refine Ak f Z Z AV λa f=>Aa (Ag ?_)
   rcases Af aR with⟨aW,aR⟩|⟨aW,aR⟩
   ·refine Al f Z aW ?_
    refine Ao ?_
    refine Ag (Ap (Ae ?_))
    have⟨aX,aY,aR⟩:=bind_some aR
    refine l_atR (E:=P2) T63 f Z Z Z aV aY λaZ a a0 f=>l_loadR (E:=P2) [(iv aX.1),(iv aX.2)] m Ag66 f Z Z a0 Z λa f=>AH (cs:=[(iv 0),(iv 0)]) zeroValue66 m f Z Z λa1 w a m f=>Ai 0 0 (ds:=[(iv aX.1),(iv aX.2)]) m sizeOf66 f Z Z Z (Ah Z (Ah Z An)) Z (lb Z) Z λw m=>Aa (Aq ?_)
    refine Ab f Z λa f=>Bh underlying66 Z sizeOf3 f Z λa f=>AE 0 0 m Pl3 f Z Z Z Z λa f=>Bh underlying66 Z sizeOf3 f Z λa f=>AE 0 1 m Pl3 f Z Z Z Z λa f=> ?_
    have m:Mem W aN w (aO::ib a1 66 [(iv aX.1),(iv aX.2)]::ib aa 26 [sn]::H):=m.fr 2
    have⟨a2,a3,aR⟩:=bind_some aR
    refine Az f Z call34 (Wk.o0 m aU a3) λa4 a5 a6 w a7 m a8 a f=> ?_
    obtain⟨a9,rfl,ba⟩:=a8
    have aV:=RSr.mono trivial _ _ _ _ a7 aV
    refine Aa (Aq ?_)
    refine Ak f Z Z AD λa f=>Ab f Z λa f=>Aa ?_
    have m:=m.fr 2
    have m:=m.eraseAt 2
    obtain rfl:=sj aR
    exact⟨_,Z,_,_,_,Z,_,a9,aP,(gt aT a7),f.k Z,m,ba,aV⟩
   ·refine Aj f Z aW ?_
    refine AO Z ?_
    obtain rfl:=sj aR
    obtain rfl:=aS _ rfl
    exact⟨_,Z,_,aO,aT,f.k Z,m,aU⟩
  ·rintro a w ⟨aG,rfl,aH,aI,bb,f,m,bc⟩
   refine Ae ?_
   refine Ab f Z λa f=> ?_
   have m:=m.fr 1
   obtain⟨bd,be,m,bf⟩:=Ow.stamp (RI.mono _) bc m
   have⟨bg,bh,hd⟩:=bind_some hd
   refine Az f Z call35 (Wk.B0 hW m bf bh) λbi bj bk w bl m bm a f=> ?_
   obtain⟨bn,bo,rfl,rfl,bp⟩:=bm
   refine Ai 1 0 (ds:=[bn]) m sizeOf26 f Z Z Z (Ah (Ow.one1 0 m bp Z) An) Z (lb Z) Z λw m=>Aa ?_
   refine Am ?_
   have bq:=A2 (P:=prog) 1 m AA f (s:=2) rfl rfl rfl
   have m:=m.eraseAt 1
   obtain rfl:=sj hd
   exact⟨[(.agg #[bn])],⟨bq,trivial⟩,f.d,_,[bo],(gt ae (gt aw (gt aC (gt bb (gt be bl))))),m,_,_,Z,Z,bp⟩
theorem Wk.P {x0:Int}(m:Mem W G w (H)){y:Int}(hd:D.P x0=some y):
  Calls prog 53 #[(.int .u32 x0)] w (Res W G H (λ_ Ho v=>Ho=[]∧v=(iv y))):=by
 refine Aw (args:=[(.int .u32 x0)]) (N:=5) [.tmp 2] func53 Z Z (lb Z) Z λa f=> ?_
 unfold D.P at hd
 refine Ae ?_
 refine Ac f Z λa f=>AG ?_
 refine Ab f Z λa f=> ?_
 have⟨aa,ab,hd⟩:=bind_some hd
 refine A4 f Z call81 (Wk.K0 m ab) λac w ad m a f=>Ac f Z λa f=>Aa ?_
 refine Am ?_
 obtain rfl:=sj hd
 exact⟨[(iv aa)],f.g Z,f.d,_,[],ad,m,Z,Z⟩
theorem Wk.e1 {x0:Int}(m:Mem W G w (H)){y:Int}(hd:D.e1 x0=some y):
  Calls prog 84 #[(iv x0)] w (Res W G H (λ_ Ho v=>Ho=[]∧v=(.int .u32 y))):=by
 refine Aw (args:=[(iv x0)]) (N:=6) [.tmp 2] func84 Z Z (lb Z) Z λa f=> ?_
 unfold D.e1 at hd
 refine Ae ?_
 refine Ac f Z λa f=>AG ?_
 refine Ab f Z λa f=> ?_
 obtain⟨aa,hd⟩:=C3 hd
 refine l_o f (r_shl (f.e Z) (f.e Z) aa) λa f=>Ak f Z Z BO λa f=>Ac f Z λa f=>Aa ?_
 refine Am ?_
 obtain rfl:=sj hd
 exact⟨[(.int .u32 (IntKind.u32.wrap ((ishl .u32 1 x0)-1)))],f.g Z,f.d,_,[],gr,m,Z,Z⟩
end Go.Proofs.YtaddadondmaeaaaDoor

set_option maxRecDepth 100000
namespace Go.Proofs.YtaddadondmaeaaaDoor
open Go Go.Sx
open Go.Proofs.Tryd Go.Proofs.YtaddadondmaeaaaDoor.Tryd IntKind
variable {W w : World} {G : GH} {H : List Itm}
theorem Pl51 :BS prog 51:=isAgg51
theorem CI :BS prog 78:=isAgg78
theorem Pl49 :BS prog 49:=isAgg49
theorem Pl63 :BS prog 63:=isAgg63
theorem Wk.q0 {v0:Value}{x0:LI}(m:Mem W G w (H))(h0:RSl (RI .u32) G v0 x0){y:Int}(hd:D.q0 x0=some y):
  Calls prog 55 #[v0] w (Res W G H (λ_ Ho v=>Ho=[]∧v=(.int .u32 y))):=by
 refine Aw (args:=[v0]) (N:=6) [.tmp 2] func55 Z Z (lb Z) Z λa f=> ?_
 unfold D.q0 at hd
 refine Ae ?_
 refine Ac f Z λa f=>AG ?_
 refine Ab f Z λa f=>Bb underlying49 f Z Z h0 λa f=> ?_
 have⟨aa,ab,hd⟩:=bind_some hd
 refine A4 f Z call84 (Wk.e1 m ab) λac w ad m a f=>Ac f Z λa f=>Aa ?_
 refine Am ?_
 obtain rfl:=sj hd
 exact⟨[(.int .u32 aa)],f.g Z,f.d,_,[],ad,m,Z,Z⟩
theorem Wk.W0 {x0 x1:Int}(m:Mem W G w (H)){y:Bool}(hd:D.W0 x0 x1=some y):
  Calls prog 94 #[(.int .u32 x0),(iv x1)] w (Res W G H (λ_ Ho v=>Ho=[]∧v=(.bool y))):=by
 refine Aw (args:=[(.int .u32 x0),(iv x1)]) (N:=10) [.tmp 4] func94 Z Z (lb Z) Z λa f=> ?_
 unfold D.W0 at hd
 refine Ae ?_
 refine Ac f Z λa f=>AG ?_
 refine Ab f Z λa f=>Ab f Z λa f=> ?_
 obtain⟨aa,hd⟩:=C3 hd
 refine l_o f (r_shr (f.e Z) (f.e Z) aa) λa f=>Ak f Z Z CL λa f=>Ak f Z Z Bj λa f=>Ac f Z λa f=>Aa ?_
 refine Am ?_
 obtain rfl:=sj hd
 exact⟨[(.bool ((iand .u32 (B5 .u32 x0 x1) 1)==1))],f.g Z,f.d,_,[],gr,m,Z,Z⟩
theorem Wk.U0 {v0:Value}{b2 b2s:Nat}{v2s_0 v2s_1 v2s_2 v2s_3:Value}{it2s_3:Itm}{b3:Nat}{x0:LI}{x1:Int}{x2s_0 x2s_1:LI}{x2s_2:(List (Int×Int))}{x2s_3:LL}{aa:Int}{rec_:(LI)→(LI)→((List (Int×Int)))→(LL)→Int→Int→Option (Bool×(LL))}(hrec_:∀{w:World} {G:GH} {H:List Itm} {b0:Nat} {ab ac ad ae:Value} {af:Itm} {ag ah:LI} {ai:(List (Int×Int))} {aj:LL} {x1 x2:Int} (m:Mem W G w (ib b0 80 [ab,ac,ad,ae]::af::H)) (ak:RSl (RI .u32) G ab ag) (al:R1 G ac ah) (am:RSr P2 G ad ai) (an:Ow R1 61 G af ae aj) {y:Bool×(LL)} (hd:rec_ ag ah ai aj x1 x2=some y),Calls prog 54 #[(pb b0),(iv x1),(.int .u32 x2)] w (Res W G H (λG' Ho v=>∃r0:Value,∃i0:Itm,Ho=[ib b0 80 [ab,ac,ad,r0],i0]∧v=(.bool y.1)∧Ow R1 61 G' i0 r0 y.2)))(m:Mem W G w (ib b2 78 [(pb b2s)]::ib b2s 80 [v2s_0,v2s_1,v2s_2,v2s_3]::it2s_3::ib b3 3 [(iv aa)]::H))(h0:R1 G v0 x0)(h2s_0:RSl (RI .u32) G v2s_0 x2s_0)(h2s_1:R1 G v2s_1 x2s_1)(h2s_2:RSr P2 G v2s_2 x2s_2)(o2s_3:Ow R1 61 G it2s_3 v2s_3 x2s_3){y:Bool×(LL)}(hd:D.U0 rec_ x0 x1 x2s_0 x2s_1 x2s_2 x2s_3 aa=some y):
  Calls prog 83 #[v0,(.int .u32 x1),(pb b2),(pb b3)] w (Res W G H (λG' Ho v=>∃r0:Value,∃i0:Itm,Ho=[ib b2 78 [(pb b2s)],ib b2s 80 [v2s_0,v2s_1,v2s_2,r0],i0,ib b3 3 [(iv aa)]]∧v=(.bool y.1)∧Ow R1 61 G' i0 r0 y.2)):=by
 refine Aw (args:=[v0,(.int .u32 x1),(pb b2),(pb b3)]) (N:=20) [.tmp 6] func83 Z Z (lb Z) Z λa f=> ?_
 unfold D.U0 at hd
 refine Ae ?_
 refine Ac f Z λa f=>Aa (Ag (Ae ?_))
 refine AE 0 0 m CI f Z Z Z Z λa f=>AE 3 0 m Pl3 f Z Z Z Z λa f=>Ak f Z Z AD λa f=>Ab f Z λa f=> ?_
 have m:=m.fr 2
 have m:Mem W G w (ib b2s 80 [v2s_0,v2s_1,v2s_2,v2s_3]::it2s_3::ib b2 78 [(pb b2s)]::ib b3 3 [(iv aa)]::H):=m.fr 2
 have⟨ao,ap,hd⟩:=bind_some hd
 refine Az f Z call54 (hrec_ m h2s_0 h2s_1 h2s_2 o2s_3 ap) λaq ar au w av m aw a f=> ?_
 obtain⟨ax,ay,rfl,rfl,az⟩:=aw
 have h0:=rd1 av h0
 refine l_o f (Bp (f.e Z)) λa f=>Aa ?_
 rcases Af hd with⟨aA,hd⟩|⟨aA,hd⟩
 ·refine Al f Z aA ?_
  refine Ae ?_
  refine Ac f Z λa f=>Aa ?_
  refine Am ?_
  have m:Mem W ar w (ib b2 78 [(pb b2s)]::ib b2s 80 [v2s_0,v2s_1,v2s_2,ax]::ay::ib b3 3 [(iv aa)]::H):=m.fr 2
  obtain rfl:=sj hd
  exact⟨[(.bool false)],f.g Z,f.d,_,[ib b2 78 [(pb b2s)],ib b2s 80 [v2s_0,v2s_1,v2s_2,ax],ay,ib b3 3 [(iv aa)]],av,m,_,_,Z,Z,az⟩
 ·refine Aj f Z aA ?_
  refine Ao ?_
  refine Ag ?_
  refine Bc 7 AW (by kernel_rfl) m ?_
  refine Bd 0 7 2 CI Z Z Z f Z λa f=>q_p 1 7 Z f (λ_=>Ba (f.e Z)) λa f=>BB 2 7 underlying80 Z sizeOf51 Z f Z λa f=>Bd 3 7 0 Pl51 Z Z Z f Z λa f=>Bd 4 7 3 Pl3 Z Z Z f Z λa f=>Ay 5 7 Z f Z λa f=> ?_
  have⟨aB,aC,hd⟩:=bind_some hd
  refine Ck 6 7 1 m az T51 aC Z f Z Z λaD a aE f=>A1 λaF w aG m=> ?_
  have h0:=rd1 aG h0
  have az:=Ow.mono (RSl.mono (RI.mono _)) aG az
  refine BK 1 m az Z sizeOf61 f Z Z aE aC h0.cells h0.one1 h0 λaH w m aI=>AG ?_
  refine Ac f Z λa f=>Aa ?_
  refine Am ?_
  have m:Mem W aF w (ib b2 78 [(pb b2s)]::ib b2s 80 [v2s_0,v2s_1,v2s_2,ax]::aH::ib b3 3 [(iv aa)]::H):=m.fr 2
  obtain rfl:=sj hd
  exact⟨[(.bool true)],f.g Z,f.d,_,[ib b2 78 [(pb b2s)],ib b2s 80 [v2s_0,v2s_1,v2s_2,ax],aH,ib b3 3 [(iv aa)]],(gt av aG),m,_,_,Z,Z,aI⟩
theorem Wk.a0 {W:World}(hW:B4 W){rec_:(LI)→(LI)→((List (Int×Int)))→(LL)→Int→Int→Option (Bool×(LL))}(hrec_:∀{w:World} {G:GH} {H:List Itm} {b0:Nat} {aa ab ac ad:Value} {ae:Itm} {af ag:LI} {ah:(List (Int×Int))} {ai:LL} {x1 x2:Int} (m:Mem W G w (ib b0 80 [aa,ab,ac,ad]::ae::H)) (aj:RSl (RI .u32) G aa af) (ak:R1 G ab ag) (al:RSr P2 G ac ah) (am:Ow R1 61 G ae ad ai) {y:Bool×(LL)} (hd:rec_ af ag ah ai x1 x2=some y),Calls prog 54 #[(pb b0),(iv x1),(.int .u32 x2)] w (Res W G H (λG' Ho v=>∃r0:Value,∃i0:Itm,Ho=[ib b0 80 [aa,ab,ac,r0],i0]∧v=(.bool y.1)∧Ow R1 61 G' i0 r0 y.2)))(n:Nat):∀{w:World} {G:GH} {H:List Itm} {b0:Nat} {aa ab ac ad:Value} {ae:Itm} {v1:Value} {b5c0 b5c1:Nat} {af ag:LI} {ah:(List (Int×Int))} {ai:LL} {x1:LI} {x2 x3 x4 an:Int} (m:Mem W G w (ib b0 80 [aa,ab,ac,ad]::ae::ib b5c0 78 [(pb b0)]::ib b5c1 3 [(iv an)]::H)) (aj:RSl (RI .u32) G aa af) (ak:R1 G ab ag) (al:RSr P2 G ac ah) (am:Ow R1 61 G ae ad ai) (h1:R1 G v1 x1) {y:Bool×(LL)} (hd:D.a0 rec_ n af ag ah ai x1 x2 x3 x4 an=some y),
  Calls prog 82 #[(pb b0),v1,(iv x2),(iv x3),(.int .u32 x4),(.func (.func 83) #[] #[(pb b5c0),(pb b5c1)])] w (Res W G H (λG' Ho v=>∃r0:Value,∃i0:Itm,Ho=[ib b0 80 [aa,ab,ac,r0],i0,ib b5c0 78 [(pb b0)],ib b5c1 3 [(iv an)]]∧v=(.bool y.1)∧Ow R1 61 G' i0 r0 y.2)):=by
 induction n with
 |zero=>intros;rename_i hd;simp[D.a0] at hd
 |succ fuel ih=>
  intro w G H b0 aa ab ac ad ae v1 b5c0 b5c1 af ag ah ai x1 x2 x3 x4 an m aj ak al am h1 y hd
  refine Aw (args:=[(pb b0),v1,(iv x2),(iv x3),(.int .u32 x4),(.func (.func 83) #[] #[(pb b5c0),(pb b5c1)])]) (N:=76) [.tmp 12] func82 Z Z (lb Z) Z λa f=> ?_
  unfold D.a0 at hd
  refine Ae ?_
  refine Ac f Z λa f=>AG ?_
  refine Ab f Z λa f=>Ab f Z λa f=>Bb underlying61 f Z Z h1 λa f=>Ak f Z Z BO λa f=> ?_
  have⟨ao,ap,hd⟩:=bind_some hd
  refine Bo T61 f Z Z Z h1 ap λaq ar a au av f=> ?_
  subst av
  refine AN m Pl3 f Z Z au λa f=>Ac f Z λa f=>Aa (Ag (Ae ?_))
  refine Ab f Z λa f=>Bb underlying61 f Z Z h1 λa f=>Ab f Z λa f=>Ak f Z Z BO λa f=>Ak f Z Z Bj λa f=>Aa ?_
  rcases Af hd with⟨aw,hd⟩|⟨aw,hd⟩
  ·refine Al f Z aw ?_
   refine Ae ?_
   refine Ab f Z λa f=>l_o f (Ba (f.e Z)) λa f=>Bh underlying80 Z sizeOf49 f Z λa f=>AE 0 0 m Pl49 f Z Z Z Z λa f=>Ab f Z λa f=> ?_
   have⟨ax,ay,hd⟩:=bind_some hd
   refine Bo T49 f Z Z Z aj ay λaz aA a aB aC f=> ?_
   subst aC
   refine AN m Pl83 f Z Z aB λa f=>Ab f Z λa f=> ?_
   have⟨aD,aE,hd⟩:=bind_some hd
   refine A4 f Z call94 (Wk.W0 m aE) λaF w aG m a f=> ?_
   have h1:=rd1 aG h1
   have aj:=rd1 aG aj
   have ak:=rd1 aG ak
   have al:=RSr.mono trivial _ _ _ _ aG al
   have am:=Ow.mono (RSl.mono (RI.mono _)) aG am
   refine Ab f Z λa f=> ?_
   have⟨aH,aI,hd⟩:=bind_some hd
   refine Be 9 (λa w=>∃(aJ:GH) (aK:Value) (aL:Itm),GLe aF aJ∧Mem W aJ w (ib b0 80 [aa,ab,ac,aK]::aL::ib b5c0 78 [(pb b0)]::ib b5c1 3 [(iv an)]::H)∧Fr a 76 [(0,(pb b0)),(1,v1),(2,(iv x2)),(3,(iv x3)),(4,(.int .u32 x4)),(5,(.func (.func 83) #[] #[(pb b5c0),(pb b5c1)])),(13,(iv ao)),(26,(.bool ((x1.length:Int)==(i64.wrap (x2-1))))),(27,(pb b0)),(28,(pb b0)),(29,(pb b0)),(30,aa),(31,(iv ao)),(32,az),(33,(.int .u32 ax)),(34,(iv x3)),(35,(.bool aD)),(36,(.bool aD)),(45,(.bool aH.1))]∧Ow R1 61 aJ aL aK aH.2) ?_ ?_
   ·rcases Af aI with⟨aM,aI⟩|⟨aM,aI⟩
    ·refine Ar f aM ?_
     refine Ab f Z λa f=>Ar f aM ?_
     refine Ab f Z λa f=>Ar f aM ?_
     have⟨aN,aO,aI⟩:=bind_some aI
     refine Az f Z call95 (Wk.l0 m h1 aO) λaP aQ aR w aS m aT a f=> ?_
     obtain⟨aU,aV,rfl,rfl,aW⟩:=aT
     have aj:=rd1 aS aj
     have ak:=rd1 aS ak
     have al:=RSr.mono trivial _ _ _ _ aS al
     have am:=Ow.mono (RSl.mono (RI.mono _)) aS am
     refine Ar f aM ?_
     refine Ab f Z λa f=>Ar f aM ?_
     refine AU (R:=R0) (xs:=([x3]:LI)) (RI.one _) m T61 f Z Z Z (by decide) (All2.cons Z (All2.nil _)) λaX aY w a m aZ f=>Ar f aM ?_
     have⟨a0,a1,aI⟩:=bind_some aI
     refine AX (RI.one _) 1 m aW Z T61 Z (by decide) f Z Z Z (Ow.src (j:=0) aZ m Z) a1 λa2 a3 w a m a4 f=>Ar f aM ?_
     refine Ab f Z λa f=>Ar f aM ?_
     have m:Mem W aQ w (a2::aX::ib b0 80 [aa,ab,ac,ad]::ae::ib b5c0 78 [(pb b0)]::ib b5c1 3 [(iv an)]::H):=m.fr 1
     obtain⟨a5,a6,m,a7⟩:=Ow.stamp (RI.mono _) a4 m
     have aj:=rd1 a6 aj
     have ak:=rd1 a6 ak
     have al:=RSr.mono trivial _ _ _ _ a6 al
     have am:=Ow.mono (RSl.mono (RI.mono _)) a6 am
     have m:=m.fr 4
     have m:=m.fr 3
     have m:Mem W a5 w (ib b0 80 [aa,ab,ac,ad]::ae::ib b5c1 3 [(iv an)]::aX::ib b5c0 78 [(pb b0)]::H):=m.fr 3
     have m:Mem W a5 w (ib b5c0 78 [(pb b0)]::ib b0 80 [aa,ab,ac,ad]::ae::ib b5c1 3 [(iv an)]::aX::H):=m.fr 4
     have⟨a8,a9,aI⟩:=bind_some aI
     refine l_resv0 f Z Z Z call83 (Wk.U0 @hrec_ m a7 aj ak al am a9) λba bb bc w bd m be a f=> ?_
     obtain⟨bf,bg,rfl,rfl,bh⟩:=be
     refine l_o f (AK (f.e Z) aM (f.e Z)) λa f=> ?_
     obtain rfl:=sj aI
     have m:=m.fr 2
     have m:=m.fr 2
     have m:Mem W bb w (ib b0 80 [aa,ab,ac,bf]::bg::ib b5c0 78 [(pb b0)]::ib b5c1 3 [(iv an)]::H):=m.eraseAt 4
     exact⟨_,_,_,(gt aS (gt a6 bd)),m,f.k Z,bh⟩
    ·refine As f aM λa f=> ?_
     refine As f aM λa f=>As f aM λa f=>As f aM λa f=>As f aM λa f=>As f aM λa f=>As f aM λa f=>As f aM λa f=>l_o f (AL (f.e Z) aM (f.e Z)) λa f=> ?_
     obtain rfl:=sj aI
     exact⟨_,_,_,gr,m,f.k Z,am⟩
   ·rintro a w ⟨aJ,aK,aL,bi,m,f,bj⟩
    refine Ac f Z λa f=>Aa ?_
    refine Am ?_
    obtain rfl:=sj hd
    exact⟨[(.bool aH.1)],f.g Z,f.d,_,[ib b0 80 [aa,ab,ac,aK],aL,ib b5c0 78 [(pb b0)],ib b5c1 3 [(iv an)]],(gt aG bi),m,_,_,Z,Z,bj⟩
  ·refine Aj f Z aw ?_
   refine Ao ?_
   refine Ag (Ae ?_)
   refine Ab f Z λa f=>l_o f (Ba (f.e Z)) λa f=>Bh underlying80 Z sizeOf49 f Z λa f=>AE 0 0 m Pl49 f Z Z Z Z λa f=>Ab f Z λa f=> ?_
   have⟨bk,bl,hd⟩:=bind_some hd
   refine Bo T49 f Z Z Z aj bl λbm bn a bo bp f=> ?_
   subst bp
   refine AN m Pl83 f Z Z bo λa f=>Ab f Z λa f=>Ak f Z Z CL λa f=> ?_
   have⟨bq,br,hd⟩:=bind_some hd
   refine Az f Z call52 (Wk.t hW m br) λbs bt bu w bv m bw a f=> ?_
   obtain⟨bx,bz,rfl,rfl,bA⟩:=bw
   have h1:=rd1 bv h1
   have aj:=rd1 bv aj
   have ak:=rd1 bv ak
   have al:=RSr.mono trivial _ _ _ _ bv al
   have am:=Ow.mono (RSl.mono (RI.mono _)) bv am
   refine Bw 0 m bA Z underlying61 f Z Z λa f=>Ab f Z λa f=>Aa ?_
   have⟨bB,bC,hd⟩:=bind_some hd
   refine AR (λa w=>∃q_223':LL,bB= .inl q_223'∧∃bD:LL,bD=q_223'∧∃(bE:GH) (bF:Value) (bG:Itm),GLe bt bE∧Fr a 76 []∧Mem W bE w (ib b0 80 [aa,ab,ac,bF]::ib b5c0 78 [(pb b0)]::ib b5c1 3 [(iv an)]::bG::H)∧Ow R1 61 bE bG bF bD) ?_ ?_
   ·refine Ap ?_
    have m:=m.fr 4
    have m:=m.fr 4
    have m:Mem W bt w (ib b0 80 [aa,ab,ac,ad]::ib b5c0 78 [(pb b0)]::ib b5c1 3 [(iv an)]::bz::ae::H):=m.fr 3
    refine AQ (λbH a w=>∃bI:Int,∃bJ:LL,(bI,bJ)=bH∧∃(bK:GH) (bL:Value) (bM:Itm),GLe bt bK∧Fr a 76 [(0,(pb b0)),(1,v1),(2,(iv x2)),(3,(iv x3)),(4,(.int .u32 x4)),(5,(.func (.func 83) #[] #[(pb b5c0),(pb b5c1)])),(55,bx),(56,(iv (bq.length:Int))),(57,(iv bI))]∧Mem W bK w (ib b0 80 [aa,ab,ac,bL]::ib b5c0 78 [(pb b0)]::ib b5c1 3 [(iv an)]::bz::bM::H)∧Ow R1 61 bK bM bL bJ) bC ⟨_,_,Z,_,ad,ae,gr,f.k Z,m,am⟩ ?_
    clear bC f m
    rintro bH bN bO bP a w ⟨bI,bJ,rfl,bK,bL,bM,bQ,f,m,bR⟩
    have h1:=rd1 bQ h1
    have aj:=rd1 bQ aj
    have ak:=rd1 bQ ak
    have al:=RSr.mono trivial _ _ _ _ bQ al
    have bA:=od1 bQ bA
    refine Ae ?_
    refine Ak f Z Z AV λa f=>Aa (Ag ?_)
    rcases Af bO with⟨bS,bO⟩|⟨bS,bO⟩
    ·refine Al f Z bS ?_
     refine Ao ?_
     refine Ag (Ap (Ae ?_))
     have⟨bT,bU,bO⟩:=bind_some bO
     refine BH 3 m bA Z T61 f Z Z Z bU λbV a bW f=>BF 3 m bA Z Pl3 f Z Z bW bU λbX a bY f=> ?_
     subst bY
     refine Ac f Z λa f=>AG ?_
     refine Ab f Z λa f=>Ab f Z λa f=> ?_
     have⟨bZ,b1,bO⟩:=bind_some bO
     refine Az f Z call95 (Wk.l0 m h1 b1) λb2 b3 b4 w b5 m b6 a f=> ?_
     obtain⟨b7,b8,rfl,rfl,b9⟩:=b6
     have aj:=rd1 b5 aj
     have ak:=rd1 b5 ak
     have al:=RSr.mono trivial _ _ _ _ b5 al
     have bR:=Ow.mono (RSl.mono (RI.mono _)) b5 bR
     refine Ab f Z λa f=>AU (R:=R0) (xs:=([bT]:LI)) (RI.one _) m T61 f Z Z Z (by decide) (All2.cons Z (All2.nil _)) λca cb w a m cc f=> ?_
     have⟨cd,ce,bO⟩:=bind_some bO
     refine AX (RI.one _) 1 m b9 Z T61 Z (by decide) f Z Z Z (Ow.src (j:=0) cc m Z) ce λcf cg w a m ch f=>Ab f Z λa f=>Ab f Z λa f=>Ab f Z λa f=>Ab f Z λa f=> ?_
     have⟨ci,cj,bO⟩:=bind_some bO
     refine A4 f Z call62 (Wk.f m cj) λck w cl m a f=> ?_
     have ch:=od1 cl ch
     have aj:=rd1 cl aj
     have ak:=rd1 cl ak
     have al:=RSr.mono trivial _ _ _ _ cl al
     have bR:=Ow.mono (RSl.mono (RI.mono _)) cl bR
     refine Ak f Z Z b_andNot λa f=>Ab f Z λa f=> ?_
     have m:Mem W ck w (cf::ca::ib b0 80 [aa,ab,ac,bL]::ib b5c0 78 [(pb b0)]::ib b5c1 3 [(iv an)]::bz::bM::H):=m.fr 1
     obtain⟨cm,cn,m,co⟩:=Ow.stamp (RI.mono _) ch m
     have aj:=rd1 cn aj
     have ak:=rd1 cn ak
     have al:=RSr.mono trivial _ _ _ _ cn al
     have bR:=Ow.mono (RSl.mono (RI.mono _)) cn bR
     have m:=m.fr 3
     have m:=m.fr 3
     have m:Mem W cm w (bM::ib b5c0 78 [(pb b0)]::ib b5c1 3 [(iv an)]::ca::ib b0 80 [aa,ab,ac,bL]::bz::H):=m.fr 5
     have m:Mem W cm w (ib b0 80 [aa,ab,ac,bL]::bM::ib b5c0 78 [(pb b0)]::ib b5c1 3 [(iv an)]::ca::bz::H):=m.fr 4
     have⟨cp,cq,bO⟩:=bind_some bO
     refine Az f Z call82 (ih m aj ak al bR co cq) λcr cs ct w cu m cv a f=> ?_
     obtain⟨cw,cx,rfl,rfl,cy⟩:=cv
     refine Aa ?_
     rcases Af bO with⟨cz,bO⟩|⟨cz,bO⟩
     ·refine Al f Z cz ?_
      refine Ae ?_
      refine Ac f Z λa f=>Aa ?_
      refine Am ?_
      have m:=m.eraseAt 5
      have m:Mem W cs w (ib b0 80 [aa,ab,ac,cw]::cx::ib b5c0 78 [(pb b0)]::ib b5c1 3 [(iv an)]::H):=m.eraseAt 4
      obtain rfl:=sj bO
      obtain rfl:=bP _ rfl
      obtain rfl:=sj hd
      exact⟨[(.bool true)],f.g Z,f.d,_,[ib b0 80 [aa,ab,ac,cw],cx,ib b5c0 78 [(pb b0)],ib b5c1 3 [(iv an)]],(gt bv (gt bQ (gt b5 (gt cl (gt cn cu))))),m,_,_,Z,Z,cy⟩
     ·refine Aj f Z cz ?_
      refine Ao ?_
      refine Aq ?_
      refine Ak f Z Z AD λa f=>Ab f Z λa f=>Aa ?_
      have m:=m.fr 5
      have m:=m.fr 4
      have m:Mem W cs w (ib b5c0 78 [(pb b0)]::ib b5c1 3 [(iv an)]::bz::ib b0 80 [aa,ab,ac,cw]::cx::ca::H):=m.fr 4
      have m:=m.fr 3
      have m:Mem W cs w (ib b0 80 [aa,ab,ac,cw]::ib b5c0 78 [(pb b0)]::ib b5c1 3 [(iv an)]::bz::cx::H):=m.eraseAt 5
      obtain rfl:=sj bO
      exact⟨_,Z,_,_,Z,_,cw,cx,(gt bQ (gt b5 (gt cl (gt cn cu)))),f.k Z,m,cy⟩
    ·refine Aj f Z bS ?_
     refine AO Z ?_
     have m:=m.fr 4
     have m:=m.fr 3
     have m:Mem W bK w (ib b5c0 78 [(pb b0)]::ib b5c1 3 [(iv an)]::bM::ib b0 80 [aa,ab,ac,bL]::bz::H):=m.fr 3
     have m:=m.fr 3
     have m:Mem W bK w (ib b0 80 [aa,ab,ac,bL]::ib b5c0 78 [(pb b0)]::ib b5c1 3 [(iv an)]::bM::H):=m.eraseAt 4
     obtain rfl:=sj bO
     obtain rfl:=bP _ rfl
     exact⟨_,Z,_,Z,_,bL,bM,bQ,f.weak trivial,m,bR⟩
   ·rintro a w ⟨_,rfl,bD,rfl,bE,bF,bG,cA,f,m,cB⟩
    refine Ae ?_
    refine Ac f Z λa f=>Aa ?_
    refine Am ?_
    have m:=m.fr 3
    have m:Mem W bE w (ib b0 80 [aa,ab,ac,bF]::bG::ib b5c0 78 [(pb b0)]::ib b5c1 3 [(iv an)]::H):=m.fr 1
    obtain rfl:=sj hd
    exact⟨[(.bool false)],f.g Z,f.d,_,[ib b0 80 [aa,ab,ac,bF],bG,ib b5c0 78 [(pb b0)],ib b5c1 3 [(iv an)]],(gt bv cA),m,_,_,Z,Z,cB⟩
theorem Wk.u {b0:Nat}{aa ab ac ad:Value}{ae:Itm}{v1:Value}{b5c0 b5c1:Nat}{af ag:LI}{ah:(List (Int×Int))}{ai:LL}{x1:LI}{x2 x3 x4 aj:Int}(hW:B4 W){rec_:(LI)→(LI)→((List (Int×Int)))→(LL)→Int→Int→Option (Bool×(LL))}(hrec_:∀{w:World} {G:GH} {H:List Itm} {b0:Nat} {aa ab ac ad:Value} {ae:Itm} {af ag:LI} {ah:(List (Int×Int))} {ai:LL} {x1 x2:Int} (m:Mem W G w (ib b0 80 [aa,ab,ac,ad]::ae::H)) (ak:RSl (RI .u32) G aa af) (al:R1 G ab ag) (am:RSr P2 G ac ah) (an:Ow R1 61 G ae ad ai) {y:Bool×(LL)} (hd:rec_ af ag ah ai x1 x2=some y),Calls prog 54 #[(pb b0),(iv x1),(.int .u32 x2)] w (Res W G H (λG' Ho v=>∃r0:Value,∃i0:Itm,Ho=[ib b0 80 [aa,ab,ac,r0],i0]∧v=(.bool y.1)∧Ow R1 61 G' i0 r0 y.2)))(m:Mem W G w (ib b0 80 [aa,ab,ac,ad]::ae::ib b5c0 78 [(pb b0)]::ib b5c1 3 [(iv aj)]::H))(ak:RSl (RI .u32) G aa af)(al:R1 G ab ag)(am:RSr P2 G ac ah)(an:Ow R1 61 G ae ad ai)(h1:R1 G v1 x1){y:Bool×(LL)}(hd:D.u rec_ af ag ah ai x1 x2 x3 x4 aj=some y):
  Calls prog 82 #[(pb b0),v1,(iv x2),(iv x3),(.int .u32 x4),(.func (.func 83) #[] #[(pb b5c0),(pb b5c1)])] w (Res W G H (λG' Ho v=>∃r0:Value,∃i0:Itm,Ho=[ib b0 80 [aa,ab,ac,r0],i0,ib b5c0 78 [(pb b0)],ib b5c1 3 [(iv aj)]]∧v=(.bool y.1)∧Ow R1 61 G' i0 r0 y.2)):=by
 exact Wk.a0 hW @hrec_ BA m ak al am an h1 hd
theorem Wk.L {W:World}(hW:B4 W)(n:Nat):∀{w:World} {G:GH} {H:List Itm} {b0:Nat} {aa ab ac ad:Value} {ae:Itm} {af ag:LI} {ah:(List (Int×Int))} {ai:LL} {x1 x2:Int} (m:Mem W G w (ib b0 80 [aa,ab,ac,ad]::ae::H)) (aj:RSl (RI .u32) G aa af) (ak:R1 G ab ag) (al:RSr P2 G ac ah) (am:Ow R1 61 G ae ad ai) {y:Bool×(LL)} (hd:D.L n af ag ah ai x1 x2=some y),
  Calls prog 54 #[(pb b0),(iv x1),(.int .u32 x2)] w (Res W G H (λG' Ho v=>∃r0:Value,∃i0:Itm,Ho=[ib b0 80 [aa,ab,ac,r0],i0]∧v=(.bool y.1)∧Ow R1 61 G' i0 r0 y.2)):=by
 induction n with
 |zero=>intros;rename_i hd;simp[D.L] at hd
 |succ fuel ih=>
  intro w G H b0 aa ab ac ad ae af ag ah ai x1 x2 m aj ak al am y hd
  refine Aw (args:=[(pb b0),(iv x1),(.int .u32 x2)]) (N:=60) [.tmp 6] func54 Z Z (lb Z) Z λa f=> ?_
  unfold D.L at hd
  refine Ae ?_
  refine Bf (cs:=[(pb b0)]) m f Z Z Z λan w a m f=>Bf (cs:=[(iv x1)]) m f Z Z Z λao w a m f=>Ac f Z λa f=>Aa (Ag (Ag ?_))
  refine Bc 7 AW (by kernel_rfl) m ?_
  refine Bd 0 7 0 Pl3 Z Z Z f Z λa f=>Bd 1 7 1 CI Z Z Z f Z λa f=>q_p 2 7 Z f (λ_=>Ba (f.e Z)) λa f=>BB 3 7 underlying80 Z sizeOf63 Z f Z λa f=>Bd 4 7 2 Pl63 Z Z Z f Z λa f=>q_lenR (i:=5) (listed':= #[true,true,true,true,true,true,false]) 7 underlying63 al Z (by kernel_rfl) Z f Z Z Z λa f=>q_p 6 7 Z f (λ_=>Bi (f.e Z) (f.e Z) Bj) λa f=>A1 λap w aq m=> ?_
  have al:=RSr.mono trivial _ _ _ _ aq al
  have aj:=rd1 aq aj
  have ak:=rd1 aq ak
  have am:=Ow.mono (RSl.mono (RI.mono _)) aq am
  refine Aa ?_
  rcases Af hd with⟨ar,hd⟩|⟨ar,hd⟩
  ·refine Al f Z ar ?_
   refine Ae ?_
   refine Ac f Z λa f=>Aa ?_
   refine Am ?_
   have m:=m.fr 3
   have m:=m.fr 3
   have m:Mem W ap w (ib b0 80 [aa,ab,ac,ad]::ae::ib ao 3 [(iv x1)]::H):=m.eraseAt 3
   have m:=m.eraseAt 2
   obtain rfl:=sj hd
   exact⟨[(.bool true)],f.g Z,f.d,_,[ib b0 80 [aa,ab,ac,ad],ae],aq,m,_,_,Z,Z,am⟩
  ·refine Aj f Z ar ?_
   refine Ao ?_
   refine Ag ?_
   refine Bc 30 AW (by kernel_rfl) m ?_
   refine Bd 0 30 1 CI Z Z Z f Z λa f=>q_p 1 30 Z f (λ_=>Ba (f.e Z)) λa f=>BB 2 30 underlying80 Z sizeOf61 Z f Z λa f=>Bd 3 30 2 CU Z Z Z f Z λa f=>Bd 4 30 1 CI Z Z Z f Z λa f=>q_p 5 30 Z f (λ_=>Ba (f.e Z)) λa f=>BB 6 30 underlying80 Z sizeOf63 Z f Z λa f=>Bd 7 30 2 Pl63 Z Z Z f Z λa f=>Bd 8 30 0 Pl3 Z Z Z f Z λa f=> ?_
   have⟨au,av,hd⟩:=bind_some hd
   refine q_atR (i:=9) (listed':= #[true,true,true,true,true,true,true,true,true,true,false,false,false,false,false,false,false,false,false,false,false,false,false,false,false,false,false,false,false,false]) (C:=P2) 30 T63 al av Z (by kernel_rfl) Z f Z Z Z Z λaw a ax f=>q_fieldR (i:=10) (listed':= #[true,true,true,true,true,true,true,true,true,true,true,false,false,false,false,false,false,false,false,false,false,false,false,false,false,false,false,false,false,false]) (C:=P2) (c:=(iv au.1)) 30 underlying66 Z sizeOf3 (by decide) ax Z Z (by kernel_rfl) Z f Z Z Z λay a az f=>Bq 11 30 Pl3 az Z f Z λa f=> ?_
   have⟨aA,aB,hd⟩:=bind_some hd
   refine Bs 12 30 T61 ak aB Z f Z Z λaC aD a aE aF f=> ?_
   subst aF
   refine Bq 13 30 Pl3 aE Z f Z λa f=>Bd 14 30 1 CI Z Z Z f Z λa f=>q_p 15 30 Z f (λ_=>Ba (f.e Z)) λa f=>BB 16 30 underlying80 Z sizeOf61 Z f Z λa f=>Bd 17 30 2 CU Z Z Z f Z λa f=>Bd 18 30 1 CI Z Z Z f Z λa f=>q_p 19 30 Z f (λ_=>Ba (f.e Z)) λa f=>BB 20 30 underlying80 Z sizeOf63 Z f Z λa f=>Bd 21 30 2 Pl63 Z Z Z f Z λa f=>Bd 22 30 0 Pl3 Z Z Z f Z λa f=> ?_
   have⟨aG,aH,hd⟩:=bind_some hd
   refine q_atR (i:=23) (listed':= #[true,true,true,true,true,true,true,true,true,true,true,true,true,true,true,true,true,true,true,true,true,true,true,true,false,false,false,false,false,false]) (C:=P2) 30 T63 al aH Z (by kernel_rfl) Z f Z Z Z Z λaI a aJ f=>q_fieldR (i:=24) (listed':= #[true,true,true,true,true,true,true,true,true,true,true,true,true,true,true,true,true,true,true,true,true,true,true,true,true,false,false,false,false,false]) (C:=P2) (c:=(iv aG.2)) 30 underlying66 Z sizeOf3 (by decide) aJ Z Z (by kernel_rfl) Z f Z Z Z λaK a aL f=>Bq 25 30 Pl3 aL Z f Z λa f=> ?_
   have⟨aM,aN,hd⟩:=bind_some hd
   refine Bs 26 30 T61 ak aN Z f Z Z λaO aP a aQ aR f=> ?_
   subst aR
   refine Bq 27 30 Pl3 aQ Z f Z λa f=>q_p 28 30 Z f (λ_=>CH (f.e Z)) λa f=>q_p 29 30 Z f (λ_=>CH (f.e Z)) λa f=>A1 λaS w aT m=> ?_
   have ak:=rd1 aT ak
   have al:=RSr.mono trivial _ _ _ _ aT al
   have aj:=rd1 aT aj
   have am:=Ow.mono (RSl.mono (RI.mono _)) aT am
   refine Aa (Ag (Ae ?_))
   refine Ac f Z λa f=>Aa ?_
   have⟨aU,aV,hd⟩:=bind_some hd
   refine AR (λa w=>∃q_95':LL,aU= .inl q_95'∧∃aW:LL,aW=q_95'∧∃(aX:GH) (aY:Value) (aZ:Itm),GLe aS aX∧Fr a 60 []∧Mem W aX w (ib b0 80 [aa,ab,ac,aY]::aZ::H)∧Ow R1 61 aX aZ aY aW) ?_ ?_
   ·refine Ap ?_
    have m:Mem W aS w (ib an 78 [(pb b0)]::ib ao 3 [(iv x1)]::ib b0 80 [aa,ab,ac,ad]::ae::H):=m.fr 1
    refine AQ (λa0 a w=>∃a1:Int,∃a2:LL,(a1,a2)=a0∧∃(a3:GH) (a4:Value) (a5:Itm),GLe aS a3∧Fr a 60 [(2,(.int .u32 x2)),(3,(pb an)),(4,(pb ao)),(7,(iv aA)),(8,(iv aM)),(9,(iv a1))]∧Mem W a3 w (ib an 78 [(pb b0)]::ib ao 3 [(iv x1)]::ib b0 80 [aa,ab,ac,a4]::a5::H)∧Ow R1 61 a3 a5 a4 a2) aV ⟨_,_,Z,_,ad,ae,gr,f.k Z,m,am⟩ ?_
    clear aV f m
    rintro a0 a6 a7 a8 a w ⟨a1,a2,rfl,a3,a4,a5,a9,f,m,ba⟩
    have aj:=rd1 a9 aj
    have ak:=rd1 a9 ak
    have al:=RSr.mono trivial _ _ _ _ a9 al
    refine Ag (Ae ?_)
    refine Ab f Z λa f=>Ab f Z λa f=> ?_
    have⟨bb,bc,a7⟩:=bind_some a7
    refine A4 f Z call53 (Wk.P m bc) λbd w be m a f=> ?_
    have aj:=rd1 be aj
    have ak:=rd1 be ak
    have al:=RSr.mono trivial _ _ _ _ be al
    have ba:=Ow.mono (RSl.mono (RI.mono _)) be ba
    refine Ak f Z Z AD λa f=>Ak f Z Z Ch λa f=>Aa ?_
    rcases Af a7 with⟨bf,a7⟩|⟨bf,a7⟩
    ·refine Al f Z bf ?_
     refine Ao ?_
     refine Ag (Ap (Ae ?_))
     refine AE 0 0 m CI f Z Z Z Z λa f=>Ab f Z λa f=>AU (R:=R0) (xs:=([aA]:LI)) (RI.one _) m T61 f Z Z Z (by decide) (All2.cons Z (All2.nil _)) λbg bh w a m bi f=>Ab f Z λa f=>Ab f Z λa f=>Ab f Z λa f=>DP f Z Z Z λa f=> ?_
     obtain⟨bj,bk,m,bl⟩:=Ow.stamp (RI.mono _) bi m
     have aj:=rd1 bk aj
     have ak:=rd1 bk ak
     have al:=RSr.mono trivial _ _ _ _ bk al
     have ba:=Ow.mono (RSl.mono (RI.mono _)) bk ba
     have m:=m.fr 3
     have m:Mem W bj w (ib b0 80 [aa,ab,ac,a4]::a5::ib an 78 [(pb b0)]::ib ao 3 [(iv x1)]::H):=m.fr 3
     have⟨bm,bn,a7⟩:=bind_some a7
     refine Az f Z call82 (Wk.u hW @ih m aj ak al ba bl bn) λbo bp bq w br m bs a f=> ?_
     obtain⟨bt,bu,rfl,rfl,bv⟩:=bs
     refine Aa ?_
     rcases Af a7 with⟨bw,a7⟩|⟨bw,a7⟩
     ·refine Al f Z bw ?_
      refine Ae ?_
      refine Ac f Z λa f=>Aa ?_
      refine Am ?_
      have m:=m.eraseAt 3
      have m:=m.eraseAt 2
      obtain rfl:=sj a7
      obtain rfl:=a8 _ rfl
      obtain rfl:=sj hd
      exact⟨[(.bool true)],f.g Z,f.d,_,[ib b0 80 [aa,ab,ac,bt],bu],(gt aq (gt aT (gt a9 (gt be (gt bk br))))),m,_,_,Z,Z,bv⟩
     ·refine Aj f Z bw ?_
      refine Ao ?_
      refine Aq ?_
      refine Ab f Z λa f=>Ak f Z Z AD λa f=>Ac f Z λa f=>Aa ?_
      have m:=m.fr 3
      have m:Mem W bp w (ib an 78 [(pb b0)]::ib ao 3 [(iv x1)]::ib b0 80 [aa,ab,ac,bt]::bu::H):=m.fr 3
      obtain rfl:=sj a7
      exact⟨_,Z,_,_,Z,_,bt,bu,(gt a9 (gt be (gt bk br))),f.k Z,m,bv⟩
    ·refine Aj f Z bf ?_
     refine AO Z ?_
     have m:=m.fr 3
     have m:=m.fr 3
     have m:Mem W bd w (ib b0 80 [aa,ab,ac,a4]::a5::ib an 78 [(pb b0)]::H):=m.eraseAt 3
     have m:=m.eraseAt 2
     obtain rfl:=sj a7
     obtain rfl:=a8 _ rfl
     exact⟨_,Z,_,Z,_,a4,a5,(gt a9 be),f.weak trivial,m,ba⟩
   ·rintro a w ⟨_,rfl,aW,rfl,aX,aY,aZ,bx,f,m,bz⟩
    refine Ae ?_
    refine Ac f Z λa f=>Aa ?_
    refine Am ?_
    obtain rfl:=sj hd
    exact⟨[(.bool false)],f.g Z,f.d,_,[ib b0 80 [aa,ab,ac,aY],aZ],(gt aq (gt aT bx)),m,_,_,Z,Z,bz⟩
theorem Wk.k {b0:Nat}{aa ab ac ad:Value}{ae:Itm}{af ag:LI}{ah:(List (Int×Int))}{ai:LL}{x1 x2:Int}(hW:B4 W)(m:Mem W G w (ib b0 80 [aa,ab,ac,ad]::ae::H))(aj:RSl (RI .u32) G aa af)(ak:R1 G ab ag)(al:RSr P2 G ac ah)(am:Ow R1 61 G ae ad ai){y:Bool×(LL)}(hd:D.k af ag ah ai x1 x2=some y):
  Calls prog 54 #[(pb b0),(iv x1),(.int .u32 x2)] w (Res W G H (λG' Ho v=>∃r0:Value,∃i0:Itm,Ho=[ib b0 80 [aa,ab,ac,r0],i0]∧v=(.bool y.1)∧Ow R1 61 G' i0 r0 y.2)):=by
 exact Wk.L hW BA m aj ak al am hd
end Go.Proofs.YtaddadondmaeaaaDoor

set_option maxRecDepth 100000
namespace Go.Proofs.YtaddadondmaeaaaDoor
open Go Go.Sx
open Go.Proofs.Tryd Go.Proofs.YtaddadondmaeaaaDoor.Tryd IntKind
variable {W w : World} {G : GH} {H : List Itm}
end Go.Proofs.YtaddadondmaeaaaDoor
