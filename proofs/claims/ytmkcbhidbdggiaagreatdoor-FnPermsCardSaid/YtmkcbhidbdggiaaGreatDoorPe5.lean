/- Parts. -/
import Derived.Test.YtmkcbhidbdggiaaGreatDoorPe4
import Derived.Test.YtmkcbhidbdggiaaGreatDoorProg
import Derived.KernelRfl
set_option linter.unusedVariables false
set_option linter.unusedSimpArgs false
set_option linter.unusedSectionVars false
set_option maxRecDepth 100000
namespace Go.Proofs.YtmkcbhidbdggiaaGreatDoor
open Go Go.Sx
open Go.Proofs.Tryz Go.Proofs.YtmkcbhidbdggiaaGreatDoor.Tryz IntKind
variable {W w : World} {G : GH} {H : List Itm}
theorem T57 :SlT prog 57 65 1 4 (.int .u32 0):=⟨underlying57,Tryz.t65,by kernel_rfl,by kernel_rfl,by kernel_rfl,by kernel_rfl⟩
theorem Wk.Z0 {x0:Int}(m:Mem W G w (H)){y:Int}(hd:D.Z0 x0=some y):
  Calls prog 88 #[(iv x0)] w (Res W G H (λ_ Ho v=>Ho=[]∧v=(.int .u32 y))):=by
 refine Au (args:=[(iv x0)]) (N:=6) [.tmp 2] func88 Z Z (lb Z) Z λa f=> ?_
 unfold D.Z0 at hd
 refine Ag ?_
 refine Ac f Z λa f=>Ay ?_
 refine Aa f Z λa f=> ?_
 obtain⟨aa,hd⟩:=Dv hd
 refine l_o f (r_shl (f.e Z) (f.e Z) aa) λa f=>Ai f Z Z AF λa f=>Ac f Z λa f=>Ab ?_
 refine Ar ?_
 obtain rfl:=sj hd
 exact⟨[(.int .u32 (IntKind.u32.wrap ((ishl .u32 1 x0)-1)))],f.g Z,f.d,_,[],gr,m,Z,Z⟩
theorem Wk.K {v0:Value}{x0:LI}(m:Mem W G w (H))(h0:RSl (RI .u32) G v0 x0){y:Int}(hd:D.K x0=some y):
  Calls prog 49 #[v0] w (Res W G H (λ_ Ho v=>Ho=[]∧v=(.int .u32 y))):=by
 refine Au (args:=[v0]) (N:=6) [.tmp 2] func49 Z Z (lb Z) Z λa f=> ?_
 unfold D.K at hd
 refine Ag ?_
 refine Ac f Z λa f=>Ay ?_
 refine Aa f Z λa f=>Bf underlying58 f Z Z h0 λa f=> ?_
 have⟨aa,ab,hd⟩:=bind_some hd
 refine Bk f Z call88 (Wk.Z0 m ab) λac w ad m a f=>Ac f Z λa f=>Ab ?_
 refine Ar ?_
 obtain rfl:=sj hd
 exact⟨[(.int .u32 aa)],f.g Z,f.d,_,[],ad,m,Z,Z⟩
theorem Wk.z0 {v0:Value}{x0:LI}(m:Mem W G w (H))(h0:RSl (RI .u32) G v0 x0){y:(LI)}(hd:D.z0 x0=some y):
  Calls prog 30 #[v0] w (Res W G H (λG' Ho v=>∃r0:Value,∃i0:Itm,Ho=[i0]∧r0=v∧Ow (RI .u32) 65 G' i0 r0 y)):=by
 refine Au (args:=[v0]) (N:=26) [.tmp 2] func30 Z Z (lb Z) Z λa f=> ?_
 unfold D.z0 at hd
 refine Ag ?_
 refine Ac f Z λa f=>Ay ?_
 refine BQ (R:=(RI .u32)) (xs:=([]:LI)) (RI.one _) m T58 f Z Z Z (by decide) (All2.nil _) λaa ab w a m ac f=>Ac f Z λa f=>Ab (Ah (Ag ?_))
 refine Aa f Z λa f=>Bf underlying58 f Z Z h0 λa f=>Aa f Z λa f=>Ab ?_
 have⟨ad,ae,hd⟩:=bind_some hd
 refine AJ (λa w=>∃af:LI,af=ad∧∃(ag:GH) (ah:Value) (ai:Itm),GLe G ag∧Fr a 26 [(3,ah)]∧Mem W ag w (ai::H)∧Ow (RI .u32) 65 ag ai ah af) ?_ ?_
 ·refine Ak ?_
  refine AK (λaj a w=>∃ak:LI,∃al:Int,(ak,al)=aj∧∃(am:GH) (an:Value) (ao:Itm),GLe G am∧Fr a 26 [(0,v0),(3,an),(7,v0),(8,(iv (x0.length:Int))),(9,(iv al))]∧Mem W am w (ao::H)∧Ow (RI .u32) 65 am ao an ak) ae ⟨_,_,Z,_,ab,aa,gr,f.k Z,m,ac⟩ ?_
  clear ae f m
  rintro aj ap aq ar a w ⟨ak,al,rfl,am,an,ao,au,f,m,av⟩
  have h0:=rd1 au h0
  refine Ag ?_
  refine Ai f Z Z AV λa f=>Ab (Ah ?_)
  rcases Af aq with⟨aw,aq⟩|⟨aw,aq⟩
  ·refine Al f Z aw ?_
   refine An ?_
   refine Ah (Ak (Ag ?_))
   refine Aa f Z λa f=> ?_
   have⟨ax,ay,aq⟩:=bind_some aq
   refine Cc T58 f Z Z Z h0 ay λaz aA a aB aC f=> ?_
   subst aC
   refine Bl m CY f Z Z aB λa f=>Ac f Z λa f=>Ac f Z λa f=>Ab (Ao ?_)
   refine Aa f Z λa f=>Aa f Z λa f=> ?_
   have⟨aD,aE,aq⟩:=bind_some aq
   refine Bk f Z call49 (Wk.K m h0 aE) λaF w aG m a f=> ?_
   have av:=od1 aG av
   refine Aa f Z λa f=>Ai f Z Z CC λa f=>Aa f Z λa f=> ?_
   have⟨aH,aI,aq⟩:=bind_some aq
   refine Bk f Z call61 (Wk.b m aI) λaJ w aK m a f=> ?_
   have av:=od1 aK av
   refine Ai f Z Z CC λa f=>BQ (R:=(RI .u32)) (xs:=([(iandNot .u32 (iandNot .u32 aD ax) aH)]:LI)) (RI.one _) m T58 f Z Z Z (by decide) (All2.cons Z (All2.nil _)) λaL aM w a m aN f=> ?_
   have⟨aO,aP,aq⟩:=bind_some aq
   refine BJ (RI.one _) 1 m av Z T58 Z (by decide) f Z Z Z (Ow.src (j:=0) aN m Z) aP λaQ aR w a m aS f=>Ac f Z λa f=>Ab (Ao ?_)
   refine Ai f Z Z As λa f=>Aa f Z λa f=>Ab ?_
   have m:=m.fr 1
   have m:=m.eraseAt 1
   obtain rfl:=sj aq
   exact⟨_,Z,_,_,Z,_,aR,aQ,(gt au (gt aG aK)),f.k Z,m,aS⟩
  ·refine Aj f Z aw ?_
   refine AG Z ?_
   obtain rfl:=sj aq
   obtain rfl:=ar _ rfl
   exact⟨_,Z,_,an,ao,au,f.k Z,m,av⟩
 ·rintro a w ⟨af,rfl,ag,ah,ai,aT,f,m,aU⟩
  refine Ag ?_
  refine Aa f Z λa f=>Ac f Z λa f=>Ab ?_
  refine Ar ?_
  obtain rfl:=sj hd
  exact⟨[ah],f.g Z,f.d,_,[ai],aT,m,_,_,Z,Z,aU⟩
theorem Wk.q0 {x0:Int}(m:Mem W G w (H)){y:Int}(hd:D.q0 x0=some y):
  Calls prog 63 #[(.int .u32 x0)] w (Res W G H (λ_ Ho v=>Ho=[]∧v=(iv y))):=by
 refine Au (args:=[(.int .u32 x0)]) (N:=5) [.tmp 2] func63 Z Z (lb Z) Z λa f=> ?_
 unfold D.q0 at hd
 refine Ag ?_
 refine Ac f Z λa f=>Ay ?_
 refine Aa f Z λa f=> ?_
 have⟨aa,ab,hd⟩:=bind_some hd
 refine Bk f Z call98 (Wk.K0 m ab) λac w ad m a f=>Ac f Z λa f=>Ab ?_
 refine Ar ?_
 obtain rfl:=sj hd
 exact⟨[(iv aa)],f.g Z,f.d,_,[],ad,m,Z,Z⟩
theorem Wk.S {v0:Value}{x0:LI}(m:Mem W G w (H))(h0:RSl (RI .u32) G v0 x0){y:(LI)}(hd:D.S x0=some y):
  Calls prog 31 #[v0] w (Res W G H (λG' Ho v=>∃r0:Value,∃i0:Itm,Ho=[i0]∧r0=v∧Ow R0 2 G' i0 r0 y)):=by
 refine Au (args:=[v0]) (N:=27) [.tmp 2] func31 Z Z (lb Z) Z λa f=> ?_
 unfold D.S at hd
 refine Ag ?_
 refine Ac f Z λa f=>Ay ?_
 refine Aa f Z λa f=>Bf underlying57 f Z Z h0 λa f=> ?_
 have⟨aa,ab,hd⟩:=bind_some hd
 refine C2 (R:=R0) m T28 Z (by decide) Z f Z Z Z ab λac ad w a m ae f=>Ac f Z λa f=>Ab (Ah (Ag ?_))
 refine Aa f Z λa f=>Bf underlying57 f Z Z h0 λa f=>Aa f Z λa f=>Ab ?_
 have⟨af,ag,hd⟩:=bind_some hd
 refine AJ (λa w=>∃ah:LI,ah=af∧∃(ai:GH) (aj:Itm),GLe G ai∧Fr a 27 [(3,ad)]∧Mem W ai w (aj::H)∧Ow R0 2 ai aj ad ah) ?_ ?_
 ·refine Ak ?_
  refine AK (λak a w=>∃al:LI,∃am:Int,(al,am)=ak∧∃(an:GH) (ao:Itm),GLe G an∧Fr a 27 [(0,v0),(3,ad),(9,v0),(10,(iv (x0.length:Int))),(11,(iv am))]∧Mem W an w (ao::H)∧Ow R0 2 an ao ad al) ag ⟨_,_,Z,_,ac,gr,f.k Z,m,ae⟩ ?_
  clear ag f m
  rintro ak ap aq ar a w ⟨al,am,rfl,an,ao,au,f,m,av⟩
  have h0:=rd1 au h0
  refine Ag ?_
  refine Ai f Z Z AV λa f=>Ab (Ah ?_)
  rcases Af aq with⟨aw,aq⟩|⟨aw,aq⟩
  ·refine Al f Z aw ?_
   refine An ?_
   refine Ah (Ak (Ag ?_))
   refine Aa f Z λa f=> ?_
   have⟨ax,ay,aq⟩:=bind_some aq
   refine Cc T57 f Z Z Z h0 ay λaz aA a aB aC f=> ?_
   subst aC
   refine Bl m CY f Z Z aB λa f=>Ac f Z λa f=>Ac f Z λa f=>Ab (Ao ?_)
   refine Aa f Z λa f=>Aa f Z λa f=>Bf underlying57 f Z Z h0 λa f=>Ai f Z Z AF λa f=>Aa f Z λa f=> ?_
   have⟨aD,aE,aq⟩:=bind_some aq
   refine Bk f Z call63 (Wk.q0 m aE) λaF w aG m a f=> ?_
   have av:=od1 aG av
   refine Ai f Z Z AF λa f=>Aa f Z λa f=> ?_
   have⟨aH,aI,aq⟩:=bind_some aq
   refine Bo 0 m av Z T28 f Z Z Z aI λaJ a aK f=>AM 0 m av Z sizeOf2 f Z Z aK aI Z Z Z λaL w m aM=>Ab (Ao ?_)
   refine Ai f Z Z As λa f=>Aa f Z λa f=>Ab ?_
   obtain rfl:=sj aq
   exact⟨_,Z,_,_,Z,_,aL,(gt au aG),f.k Z,m,aM⟩
  ·refine Aj f Z aw ?_
   refine AG Z ?_
   obtain rfl:=sj aq
   obtain rfl:=ar _ rfl
   exact⟨_,Z,_,ao,au,f.k Z,m,av⟩
 ·rintro a w ⟨ah,rfl,ai,aj,aN,f,m,aO⟩
  refine Ag ?_
  refine Aa f Z λa f=>Ac f Z λa f=>Ab ?_
  refine Ar ?_
  obtain rfl:=sj hd
  exact⟨[ad],f.g Z,f.d,_,[aj],aN,m,_,_,Z,Z,aO⟩
theorem Wk.J {aa:Value}{ab:LL}(hW:CI W)(m:Mem W G w (H))(ac:R2 G aa ab){y:(LI)×(LI)×Bool}(hd:D.J ab=some y):
  Calls prog 10 #[(.agg #[aa])] w (Res W G H (λG' Ho v=>∃r0:Value,∃i0:Itm,∃r2:Value,∃i2:Itm,Ho=[i0,i2]∧v= .tuple #[r0,r2,(.bool y.2.2)]∧Ow R0 2 G' i0 r0 y.1∧Ow R0 2 G' i2 r2 y.2.1)):=by
 refine Au (args:=[(.agg #[aa])]) (N:=72) [.tmp 2,.tmp 3,.tmp 4] func10 Z Z (lb Z) Z λa f=> ?_
 unfold D.J at hd
 refine Ag ?_
 refine BN (cs:=[aa]) m f Z Z Z λad w a m f=>Ac f Z λa f=>Ac f Z λa f=>Ac f Z λa f=>Ab (Ah (Ag ?_))
 refine A9 0 0 (ds:=[aa]) m Bn f Z Z Z Z Z λa f=> ?_
 have⟨ae,af,hd⟩:=bind_some hd
 refine Bk f Z call27 (Wk.e m ac af) λag w ah m a f=> ?_
 have ac:=rd2 ah ac
 refine l_o f (Bg (f.e Z)) λa f=>Ab ?_
 rcases Af hd with⟨ai,hd⟩|⟨ai,hd⟩
 ·refine Al f Z ai ?_
  refine Ag ?_
  refine Ac f Z λa f=>Ac f Z λa f=>Ac f Z λa f=>Ab ?_
  refine Ar ?_
  obtain⟨aj,m,ak⟩:=Ow.nil R0 2 m
  obtain⟨al,m,am⟩:=Ow.nil R0 2 m
  have m:=m.fr 1
  have m:=m.eraseAt 2
  obtain rfl:=sj hd
  exact⟨[sn,sn,(.bool false)],⟨f.get _ _ Z,f.get _ _ Z,f.get _ _ Z,trivial⟩,f.d,_,[aj,al],ah,m,_,_,_,_,Z,Z,ak,am⟩
 ·refine Aj f Z ai ?_
  refine An ?_
  refine Ag ?_
  refine A9 0 0 (ds:=[aa]) m Bn f Z Z Z Z Z λa f=> ?_
  have⟨an,ao,hd⟩:=bind_some hd
  refine AT f Z call28 (Wk.A m ac ao) λap aq ar w au m av a f=> ?_
  obtain⟨aw,ax,rfl,rfl,ay⟩:=av
  refine Ac f Z λa f=>Ay ?_
  refine Aa f Z λa f=> ?_
  have⟨az,aA,hd⟩:=bind_some hd
  refine AT f Z call29 (Ow.lendCall (RI.mono _) 0 ay m Z (λaB aC m aD=>Wk.r hW m aD aA) (λ_ G' _ _ ⟨r0,i0,h1,h2,h3,h4⟩=>⟨r0,i0,h1,h2,Ow.free (RI.free _) G' h3,h4⟩)) λaE aF aG w aH m aI a f=> ?_
  obtain⟨aJ,aK,rfl,rfl,aL,aM⟩:=aI
  have ay:=od1 aH ay
  refine Aa f Z λa f=> ?_
  have⟨aN,aO,hd⟩:=bind_some hd
  refine AT f Z call30 (Ow.lendCall (RI.mono _) 1 ay m Z (λaP aQ m aR=>Wk.z0 m aR aO) (λ_ G' _ _ ⟨a0,a1,e1,e2,o0⟩=>⟨a0,a1,e1,e2,Ow.free (RI.free _) G' o0⟩)) λaS aT aU w aV m aW a f=> ?_
  obtain⟨aX,aY,rfl,rfl,aZ⟩:=aW
  have aL:=od1 aV aL
  have ay:=od1 aV ay
  have⟨a2,a3,hd⟩:=bind_some hd
  refine AT f Z call29 (Ow.lendCall (RI.mono _) 0 aZ m Z (λa4 a5 m a6=>Wk.r hW m a6 a3) (λ_ G' _ _ ⟨r0,i0,h1,h2,h3,h4⟩=>⟨r0,i0,h1,h2,Ow.free (RI.free _) G' h3,h4⟩)) λa7 a8 a9 w ba m bb a f=> ?_
  obtain⟨bc,bd,rfl,rfl,be,bf⟩:=bb
  have aL:=od1 ba aL
  have ay:=od1 ba ay
  refine Ac f Z λa f=>Ac f Z λa f=>Ab (Ah (Ag ?_))
  refine Aa f Z λa f=>l_o f (DY (f.e Z) (f.e Z) (Ow.hdr 2 m aL Z) underlying58 aM) λa f=>Aa f Z λa f=> ?_
  refine Br 3 (λa w=>∃bg,GLe a8 bg∧Mem W bg w (bd::aY::aK::ax::ib ad 32 [aa]::H)∧Fr a 72 [(0,(.agg #[aa])),(1,(pb ad)),(5,aw),(6,aJ),(7,bc),(21,aJ),(22,(.bool (az.isEmpty))),(23,(.bool (az.isEmpty))),(26,(.bool ((az.isEmpty)||(a2.isEmpty))))]) ?_ ?_
  ·rcases Bool.eq_false_or_eq_true (az.isEmpty) with bh|bh
   ·refine AE f bh λa f=> ?_
    refine AE f bh λa f=>l_o f (AS (f.e Z) bh (f.e Z)) λa f=> ?_
    exact⟨_,gr,m,f.weak ⟨Z,Z,Z,Z,Z,Z,Z,Z,by rw[bh];rfl,trivial⟩⟩
   ·refine AD f bh ?_
    refine Aa f Z λa f=>AD f bh ?_
    refine l_o f (DY (f.e Z) (f.e Z) (Ow.hdr 0 m be Z) underlying58 bf) λa f=>l_o f (AR (f.e Z) bh (f.e Z)) λa f=> ?_
    exact⟨_,gr,m,f.weak ⟨Z,Z,Z,Z,Z,Z,Z,Z,by rw[bh];rfl,trivial⟩⟩
  ·rintro a w ⟨bg,bi,m,f⟩
   have be:=od1 bi be
   have aL:=od1 bi aL
   have ay:=od1 bi ay
   refine Ab ?_
   rcases Af hd with⟨bj,hd⟩|⟨bj,hd⟩
   ·refine Al f Z bj ?_
    refine Ag ?_
    refine Ac f Z λa f=>Ac f Z λa f=>Ac f Z λa f=>Ab ?_
    refine Ar ?_
    obtain⟨bk,m,bl⟩:=Ow.nil R0 2 m
    obtain⟨bm,m,bn⟩:=Ow.nil R0 2 m
    have m:=m.fr 1
    have m:=m.eraseAt 6
    have m:Mem W bg w (bk::bm::bd::aY::aK::H):=m.eraseAt 5
    have m:=m.eraseAt 4
    have m:=m.eraseAt 3
    have m:=m.eraseAt 2
    obtain rfl:=sj hd
    exact⟨[sn,sn,(.bool false)],⟨f.get _ _ Z,f.get _ _ Z,f.get _ _ Z,trivial⟩,f.d,_,[bk,bm],(gt ah (gt au (gt aH (gt aV (gt ba bi))))),m,_,_,_,_,Z,Z,bl,bn⟩
   ·refine Aj f Z bj ?_
    refine An ?_
    refine Ah ?_
    have⟨bo,bp,hd⟩:=bind_some hd
    refine AJ (λa w=>∃bq:LI,∃br:LI,(bq,br)=bo∧∃(bs:GH) (bt:Value) (bu:Itm) (bv:Value) (bw:Itm),GLe bg bs∧Fr a 72 [(5,aw),(6,aJ),(7,bc),(8,bt),(9,bv)]∧Mem W bs w (ax::aK::bd::bu::bw::H)∧Ow (RI .u32) 65 bs bu bt bq∧Ow (RI .u32) 65 bs bw bv br) ?_ ?_
    ·refine A4 7 Az (by kernel_rfl) m ?_
     refine Ae 0 7 Z f Z λa f=>D5 (i:=1) 7 3 m ay Z underlying58 Z (by kernel_rfl) Z f Z Z Z λa f=>Ae 3 7 Z f Z λa f=>D5 (i:=4) 7 3 m ay Z underlying58 Z (by kernel_rfl) Z f Z Z Z λa f=>q_two (i:=2) (j:=5) (l1:= #[true,true,true,true,true,false,false,false]) (l2:= #[true,true,false,true,true,true,false,false]) Z Z (by kernel_rfl) Z Z ?_ ?_
     ·intro bx w bz m bA bA
      have⟨bB,bC,bp⟩:=bind_some bp
      refine C2 (R:=(RI .u32)) m T57 Z (by decide) Z f Z Z Z bC λbD bE w a m bF f=>Ab ?_
      refine bA bx [bD] _ _ gr m ?_
      refine q_p 6 7 Z f (λ_=>Cb (f.e Z)) λa f=>CX 5 Z λbG w bH m bI bI=> ?_
      have bF:=od1 bH bF
      have⟨bJ,bK,bp⟩:=bind_some bp
      refine C2 (R:=(RI .u32)) m T57 Z (by decide) Z f Z Z Z bK λbL bM w a m bN f=>Ab ?_
      refine bI bG [bL,bD] _ _ gr m ?_
      refine AN λbO w bP m=> ?_
      have bN:=od1 bP bN
      have bF:=od1 bP bF
      refine Ac f Z λa f=>Ab ?_
      have m:=m.fr 1
      have m:=m.fr 2
      have m:Mem W bO w (aK::bd::bD::bL::aY::ax::ib ad 32 [aa]::H):=m.fr 4
      have m:=m.fr 5
      have m:=m.eraseAt 6
      have m:=m.eraseAt 5
      obtain rfl:=sj bp
      exact⟨_,_,Z,_,bE,bD,bM,bL,(gt bz (gt bH bP)),f.k Z,m,bF,bN⟩
     ·intro bG w bH m bI bI
      have⟨bB,bC,bp⟩:=bind_some bp
      have⟨bJ,bK,bp⟩:=bind_some bp
      refine C2 (R:=(RI .u32)) m T57 Z (by decide) Z f Z Z Z bK λbL bM w a m bN f=>Ab ?_
      refine bI bG [bL] _ _ gr m ?_
      refine CX 2 Z λbx w bz m bA bA=> ?_
      have bN:=od1 bz bN
      refine C2 (R:=(RI .u32)) m T57 Z (by decide) Z f Z Z Z bC λbD bE w a m bF f=>Ab ?_
      refine bA bx [bD,bL] _ _ gr m ?_
      refine q_p 6 7 Z f (λ_=>Cb (f.e Z)) λa f=>AN λbO w bP m=> ?_
      have bF:=od1 bP bF
      have bN:=od1 bP bN
      refine Ac f Z λa f=>Ab ?_
      have m:=m.fr 2
      have m:=m.fr 4
      have m:Mem W bO w (ax::aK::bd::bD::bL::aY::ib ad 32 [aa]::H):=m.fr 5
      have m:=m.eraseAt 6
      have m:=m.eraseAt 5
      obtain rfl:=sj bp
      exact⟨_,_,Z,_,bE,bD,bM,bL,(gt bH (gt bz bP)),f.k Z,m,bF,bN⟩
    ·rintro a w ⟨bq,br,rfl,bs,bt,bu,bv,bw,bQ,f,m,bR,bS⟩
     have ay:=od1 bQ ay
     have aL:=od1 bQ aL
     have be:=od1 bQ be
     refine Ah (Ag ?_)
     refine Aa f Z λa f=>Dc 0 m ay Z underlying58 f Z Z λa f=>Aa f Z λa f=>Ab ?_
     have⟨bT,bU,hd⟩:=bind_some hd
     refine AJ (λa w=>∃bV:LI,∃bW:LI,(bV,bW)=bT∧∃(bX:GH) (bY:Itm) (bZ:Itm),GLe bs bX∧Fr a 72 [(8,bt),(9,bv)]∧Mem W bX w (bY::bZ::H)∧Ow (RI .u32) 65 bX bY bt bV∧Ow (RI .u32) 65 bX bZ bv bW) ?_ ?_
     ·refine Ak ?_
      refine AK (λb0 a w=>∃b1:LI,∃b2:LI,∃b3:Int,(b1,b2,b3)=b0∧∃(b4:GH) (b5:Itm) (b6:Itm),GLe bs b4∧Fr a 72 [(5,aw),(6,aJ),(7,bc),(8,bt),(9,bv),(34,(iv (an.length:Int))),(35,(iv b3))]∧Mem W b4 w (ax::aK::bd::b5::b6::H)∧Ow (RI .u32) 65 b4 b5 bt b1∧Ow (RI .u32) 65 b4 b6 bv b2) bU ⟨_,_,_,Z,_,bu,bw,gr,f.k Z,m,bR,bS⟩ ?_
      clear bU f m
      rintro b0 b7 b8 b9 a w ⟨b1,b2,b3,rfl,b4,b5,b6,ca,f,m,cb,cc⟩
      have ay:=od1 ca ay
      have aL:=od1 ca aL
      have be:=od1 ca be
      refine Ag ?_
      refine Ai f Z Z AV λa f=>Ab (Ah ?_)
      rcases Af b8 with⟨cd,b8⟩|⟨cd,b8⟩
      ·refine Al f Z cd ?_
       refine An ?_
       refine Ah (Ak (Ag ?_))
       refine Aa f Z λa f=>Ac f Z λa f=>Ab (Ah ?_)
       refine A4 12 Az (by kernel_rfl) m ?_
       refine Ae 0 12 Z f Z λa f=>Ae 1 12 Z f Z λa f=>Ae 2 12 Z f Z λa f=>Ae 3 12 Z f Z λa f=> ?_
       have⟨ce,cf,b8⟩:=bind_some b8
       refine AW 4 12 1 m aL T58 cf Z f Z Z λcg a ch f=>Ba 5 12 1 aL CY ch cf Z f Z λci a cj f=> ?_
       subst cj
       refine Ae 6 12 Z f Z λa f=>Ae 7 12 Z f Z λa f=> ?_
       have⟨ck,cl,b8⟩:=bind_some b8
       refine AW 8 12 2 m be T58 cl Z f Z Z λcm a cn f=>Ba 9 12 2 be CY cn cl Z f Z λco a cp f=> ?_
       subst cp
       refine q_p 10 12 Z f (λ_=>AB (f.e Z) (f.e Z) b_or) λa f=> ?_
       have⟨cq,cr,b8⟩:=bind_some b8
       refine AW 11 12 3 m cb T57 cr Z f Z Z λct a cu f=>AN λcv w cw m=> ?_
       have ay:=od1 cw ay
       have aL:=od1 cw aL
       have be:=od1 cw be
       have cb:=od1 cw cb
       have cc:=od1 cw cc
       refine AM 3 m cb Z sizeOf65 f Z Z cu cr Z Z Z λcx w m cy=>Ab ?_
       refine A4 17 Az (by kernel_rfl) m ?_
       refine Ae 0 17 Z f Z λa f=>Ae 1 17 Z f Z λa f=>Ae 2 17 Z f Z λa f=>Ae 3 17 Z f Z λa f=> ?_
       have⟨cz,cA,b8⟩:=bind_some b8
       refine AW 4 17 0 m ay T58 cA Z f Z Z λcB a cC f=>Ba 5 17 0 ay CY cC cA Z f Z λcD a cE f=> ?_
       subst cE
       refine Ae 6 17 Z f Z λa f=>Ae 7 17 Z f Z λa f=> ?_
       have⟨cF,cG,b8⟩:=bind_some b8
       refine AW 8 17 1 m aL T58 cG Z f Z Z λcH a cI f=>Ba 9 17 1 aL CY cI cG Z f Z λcJ a cK f=> ?_
       subst cK
       refine q_p 10 17 Z f (λ_=>AB (f.e Z) (f.e Z) CC) λa f=>Ae 11 17 Z f Z λa f=>Ae 12 17 Z f Z λa f=> ?_
       have⟨cL,cM,b8⟩:=bind_some b8
       refine AW 13 17 2 m be T58 cM Z f Z Z λcN a cO f=>Ba 14 17 2 be CY cO cM Z f Z λcP a cQ f=> ?_
       subst cQ
       refine q_p 15 17 Z f (λ_=>AB (f.e Z) (f.e Z) b_or) λa f=> ?_
       have⟨cR,cS,b8⟩:=bind_some b8
       refine AW 16 17 4 m cc T57 cS Z f Z Z λcT a cU f=>AN λcV w cW m=> ?_
       have cy:=od1 cW cy
       have cc:=od1 cW cc
       refine AM 4 m cc Z sizeOf65 f Z Z cU cS Z Z Z λcX w m cY=>Ab (Ao ?_)
       refine Ai f Z Z As λa f=>Aa f Z λa f=>Ab ?_
       obtain rfl:=sj b8
       exact⟨_,Z,_,_,_,Z,_,cx,cX,(gt ca (gt cw cW)),f.k Z,m,cy,cY⟩
      ·refine Aj f Z cd ?_
       refine AG Z ?_
       have m:=m.fr 4
       have m:=m.fr 4
       have m:Mem W b4 w (b5::b6::ax::aK::H):=m.eraseAt 4
       have m:=m.eraseAt 3
       have m:=m.eraseAt 2
       obtain rfl:=sj b8
       obtain rfl:=b9 _ rfl
       exact⟨_,_,Z,_,b5,b6,ca,f.k Z,m,cb,cc⟩
     ·rintro a w ⟨bV,bW,rfl,bX,bY,bZ,cZ,f,m,c0,c1⟩
      refine Ag ?_
      refine Aa f Z λa f=> ?_
      have⟨c2,c3,hd⟩:=bind_some hd
      refine AT f Z call31 (Ow.lendCall (RI.mono _) 0 c0 m Z (λc4 c5 m c6=>Wk.S m c6 c3) (λ_ G' _ _ ⟨a0,a1,e1,e2,o0⟩=>⟨a0,a1,e1,e2,Ow.free (RI.free _) G' o0⟩)) λc7 c8 c9 w da m db a f=> ?_
      obtain⟨dc,dd,rfl,rfl,de⟩:=db
      have c1:=od1 da c1
      refine Aa f Z λa f=> ?_
      have⟨df,dg,hd⟩:=bind_some hd
      refine AT f Z call31 (Ow.lendCall (RI.mono _) 2 c1 m Z (λdh di m dj=>Wk.S m dj dg) (λ_ G' _ _ ⟨a0,a1,e1,e2,o0⟩=>⟨a0,a1,e1,e2,Ow.free (RI.free _) G' o0⟩)) λdk dl dm w dn m dp a f=> ?_
      obtain⟨dq,dr,rfl,rfl,dt⟩:=dp
      have de:=od1 dn de
      refine Ac f Z λa f=>Ac f Z λa f=>Ac f Z λa f=>Ab ?_
      refine Ar ?_
      have m:=m.fr 1
      have m:=m.eraseAt 3
      have m:=m.eraseAt 2
      obtain rfl:=sj hd
      exact⟨[dc,dq,(.bool true)],⟨f.get _ _ Z,f.get _ _ Z,f.get _ _ Z,trivial⟩,f.d,_,[dd,dr],(gt ah (gt au (gt aH (gt aV (gt ba (gt bi (gt bQ (gt cZ (gt da dn))))))))),m,_,_,_,_,Z,Z,de,dt⟩
theorem Wk.y0 {v0 v1:Value}{x0 x1:LI}(m:Mem W G w (H))(h0:R1 G v0 x0)(h1:R1 G v1 x1){y:(LI)×(LI)×Bool}(hd:D.y0 x0 x1=some y):
  Calls prog 11 #[v0,v1] w (Res W G H (λG' Ho v=>∃r0:Value,∃i0:Itm,∃r2:Value,∃i2:Itm,Ho=[i0,i2]∧v= .tuple #[r0,r2,(.bool y.2.2)]∧Ow R0 2 G' i0 r0 y.1∧Ow R0 2 G' i2 r2 y.2.1)):=by
 refine Au (args:=[v0,v1]) (N:=25) [.tmp 4,.tmp 5,.tmp 6] func11 Z Z (lb Z) Z λa f=> ?_
 unfold D.y0 at hd
 refine Ag ?_
 refine Ac f Z λa f=>Ac f Z λa f=>Ac f Z λa f=>Ab (Ah (Ag ?_))
 refine Aa f Z λa f=>Aa f Z λa f=> ?_
 have⟨aa,ab,hd⟩:=bind_some hd
 refine AT f Z call25 (Wk.y m h0 h1 ab) λac ad ae w af m ag a f=> ?_
 obtain⟨ah,ai,rfl,rfl,aj⟩:=ag
 have h0:=rd1 af h0
 have h1:=rd1 af h1
 refine Aa f Z λa f=>l_o f (AI (f.e Z) Z) λa f=>l_o f (AI (f.e Z) Z) λa f=>Ac f Z λa f=>Ac f Z λa f=>Ay ?_
 refine Aa f Z λa f=>l_o f (Bg (f.e Z)) λa f=>Ab ?_
 rcases Af hd with⟨ak,hd⟩|⟨ak,hd⟩
 ·refine Al f Z ak ?_
  refine Ag ?_
  refine Ac f Z λa f=>Ac f Z λa f=>Ac f Z λa f=>Ab ?_
  refine Ar ?_
  obtain⟨al,m,am⟩:=Ow.nil R0 2 m
  obtain⟨an,m,ao⟩:=Ow.nil R0 2 m
  have m:=m.fr 1
  have m:=m.eraseAt 2
  obtain rfl:=sj hd
  exact⟨[sn,sn,(.bool false)],⟨f.get _ _ Z,f.get _ _ Z,f.get _ _ Z,trivial⟩,f.d,_,[al,an],af,m,_,_,_,_,Z,Z,am,ao⟩
 ·refine Aj f Z ak ?_
  refine An ?_
  refine Ag ?_
  refine Aa f Z λa f=> ?_
  have⟨ap,aq,hd⟩:=bind_some hd
  refine AT f Z call32 (Wk.M m h1 aq) λar au av w aw m ax a f=> ?_
  obtain⟨ay,az,rfl,rfl,aA⟩:=ax
  have h0:=rd1 aw h0
  refine Ac f Z λa f=>Ay ?_
  refine Aa f Z λa f=> ?_
  have⟨aB,aC,hd⟩:=bind_some hd
  refine AT f Z call33 (Wk.Y m aA aC) λaD aE aF w aG m aH a f=> ?_
  obtain⟨aI,rfl,aJ⟩:=aH
  have h0:=rd1 aG h0
  refine Ay ?_
  refine Aa f Z λa f=> ?_
  have⟨aK,aL,hd⟩:=bind_some hd
  refine AT f Z call32 (Wk.M m h0 aL) λaM aN aO w aP m aQ a f=> ?_
  obtain⟨aR,aS,rfl,rfl,aT⟩:=aQ
  have aJ:=od1 aP aJ
  refine Aa f Z λa f=>Ac f Z λa f=>Ac f Z λa f=>Ac f Z λa f=>Ab ?_
  refine Ar ?_
  have m:=m.eraseAt 2
  obtain rfl:=sj hd
  exact⟨[aR,ay,(.bool true)],⟨f.get _ _ Z,f.get _ _ Z,f.get _ _ Z,trivial⟩,f.d,_,[aS,aI],(gt af (gt aw (gt aG aP))),m,_,_,_,_,Z,Z,aT,aJ⟩
theorem Wk.u {aa:Value}{ab:LL}(m:Mem W G w (H))(ac:R2 G aa ab){y:Int}(hd:D.u ab=some y):
  Calls prog 45 #[(.agg #[aa])] w (Res W G H (λ_ Ho v=>Ho=[]∧v=(iv y))):=by
 refine Au (args:=[(.agg #[aa])]) (N:=6) [.tmp 2] func45 Z Z (lb Z) Z λa f=> ?_
 unfold D.u at hd
 refine Ag ?_
 refine BN (cs:=[aa]) m f Z Z Z λad w a m f=>Ac f Z λa f=>Ay ?_
 refine BC underlying32 Z sizeOf30 f Z λa f=>A5 0 0 m B4 f Z Z Z Z λa f=>Bf underlying30 f Z Z ac λa f=>Ac f Z λa f=>Ab ?_
 refine Ar ?_
 have m:Mem W G w H:=Mem.drop (H':=[ib ad 32 [aa]]) m
 obtain rfl:=sj hd
 exact⟨[(iv (ab.length:Int))],f.g Z,f.d,_,[],gr,m,Z,Z⟩
theorem Wk.d {x0 x1 x2:Int}(m:Mem W G w (H)){y:Bool}(hd:D.d x0 x1 x2=some y):
  Calls prog 64 #[(iv x0),(iv x1),(iv x2)] w (Res W G H (λ_ Ho v=>Ho=[]∧v=(.bool y))):=by
 refine Au (args:=[(iv x0),(iv x1),(iv x2)]) (N:=15) [.tmp 6] func64 Z Z (lb Z) Z λa f=> ?_
 unfold D.d at hd
 refine Ag ?_
 refine Ac f Z λa f=>Ay ?_
 refine Aa f Z λa f=>Aa f Z λa f=>Ai f Z Z BH λa f=>Aa f Z λa f=> ?_
 refine Br 4 (λa w=>∃aa,GLe G aa∧Mem W aa w (H)∧Fr a 15 [(0,(iv x0)),(1,(iv x1)),(2,(iv x2)),(7,(iv x0)),(8,(iv x1)),(9,(.bool (decide (x1≤x0)))),(10,(.bool (decide (x1≤x0)))),(14,(.bool ((decide (x1≤x0))&&(decide (x0≤x2)))))]) ?_ ?_
 ·rcases Bool.eq_false_or_eq_true (decide (x1≤x0)) with ab|ab
  ·refine AD f ab ?_
   refine Aa f Z λa f=>AD f ab ?_
   refine Aa f Z λa f=>AD f ab ?_
   refine Ai f Z Z B5 λa f=>l_o f (AS (f.e Z) ab (f.e Z)) λa f=> ?_
   exact⟨_,gr,m,f.weak ⟨Z,Z,Z,Z,Z,Z,Z,by rw[ab];rfl,trivial⟩⟩
  ·refine AE f ab λa f=> ?_
   refine AE f ab λa f=>AE f ab λa f=>l_o f (AR (f.e Z) ab (f.e Z)) λa f=> ?_
   exact⟨_,gr,m,f.weak ⟨Z,Z,Z,Z,Z,Z,Z,by rw[ab];rfl,trivial⟩⟩
 ·rintro a w ⟨aa,ac,m,f⟩
  refine Ac f Z λa f=>Ab ?_
  refine Ar ?_
  obtain rfl:=sj hd
  exact⟨[(.bool ((decide (x1≤x0))&&(decide (x0≤x2))))],f.g Z,f.d,_,[],ac,m,Z,Z⟩
theorem Wk.k0 {v0:Value}{x0:LI}{x1:Int}(m:Mem W G w (H))(h0:R1 G v0 x0){y:Bool}(hd:D.k0 x0 x1=some y):
  Calls prog 65 #[v0,(iv x1)] w (Res W G H (λ_ Ho v=>Ho=[]∧v=(.bool y))):=by
 refine Au (args:=[v0,(iv x1)]) (N:=40) [.tmp 4] func65 Z Z (lb Z) Z λa f=> ?_
 unfold D.k0 at hd
 refine Ag ?_
 refine Ac f Z λa f=>Ab (Ah (Ag ?_))
 refine Aa f Z λa f=>Bf underlying28 f Z Z h0 λa f=>Aa f Z λa f=>Ai f Z Z Cs λa f=>Ab ?_
 rcases Af hd with⟨aa,hd⟩|⟨aa,hd⟩
 ·refine Al f Z aa ?_
  refine Ag ?_
  refine Ac f Z λa f=>Ab ?_
  refine Ar ?_
  obtain rfl:=sj hd
  exact⟨[(.bool false)],f.g Z,f.d,_,[],gr,m,Z,Z⟩
 ·refine Aj f Z aa ?_
  refine An ?_
  refine Ah (Ag ?_)
  refine Ac f Z λa f=>Ab ?_
  have⟨ab,ac,hd⟩:=bind_some hd
  refine AJ (λa w=>∃q_150':Unit,ab= .inl q_150'∧∃(ad:GH),GLe G ad∧Fr a 40 []∧Mem W ad w (H)) ?_ ?_
  ·refine Ak ?_
   refine AK (λae a w=>∃af:Int,af=ae∧∃(ag:GH),GLe G ag∧Fr a 40 [(0,v0),(1,(iv x1)),(5,(iv af))]∧Mem W ag w (H)) ac ⟨_,Z,_,gr,f.k Z,m⟩ ?_
   clear ac f m
   rintro ae ah ai aj a w ⟨af,rfl,ag,ak,f,m⟩
   have h0:=rd1 ak h0
   refine Ah (Ag ?_)
   refine Aa f Z λa f=>Aa f Z λa f=>Bf underlying28 f Z Z h0 λa f=>Ai f Z Z AV λa f=>Ab ?_
   rcases Af ai with⟨al,ai⟩|⟨al,ai⟩
   ·refine Al f Z al ?_
    refine An ?_
    refine Ah (Ak (Ah ?_))
    refine A4 24 Az (by kernel_rfl) m ?_
    refine Ae 0 24 Z f Z λa f=>Ae 1 24 Z f Z λa f=> ?_
    have⟨am,an,ai⟩:=bind_some ai
    refine Cy 2 24 T28 h0 an Z f Z Z λao ap a aq ar f=> ?_
    subst ar
    refine Cv 3 24 Pl2 aq Z f Z λa f=>Ae 4 24 Z f Z λa f=>q_p 5 24 Z f (λ_=>AB (f.e Z) (f.e Z) AF) λa f=> ?_
    have⟨au,av,ai⟩:=bind_some ai
    refine Bu (i:=6) 24 Z (by kernel_rfl) Z f Z Z Z call64 (λ_ _ w aw m=>Wk.d m av) λa f=>q_p 7 24 Z f (λ_=>Bg (f.e Z)) λa f=>Ae 8 24 Z f Z λa f=> ?_
    have⟨ax,ay,ai⟩:=bind_some ai
    refine BR (fuel':=0) (listed':= #[true,true,true,true,true,true,true,true,true,true,true,true,true,true,true,true,true,true,true,true,true,true,true,true]) (λa=>Fr a 40 [(0,v0),(1,(iv x1)),(5,(iv af)),(13,(.bool (decide (af<(x0.length:Int))))),(16,v0),(17,(iv af)),(18,ao),(19,(iv am)),(20,(iv x1)),(21,(iv (i64.wrap (x1-1)))),(22,(.bool au)),(23,(.bool (!au))),(24,(.bool (!au))),(39,(.bool ax))]) ?_ ?_
    ·intro a f
     refine AN λaz w aA m=>Ab ?_
     rcases Af ai with⟨aB,ai⟩|⟨aB,ai⟩
     ·refine Al f Z aB ?_
      refine Ag ?_
      refine Ac f Z λa f=>Ab ?_
      refine Ar ?_
      obtain rfl:=sj ai
      obtain rfl:=aj _ rfl
      obtain rfl:=sj hd
      exact⟨[(.bool false)],f.g Z,f.d,_,[],(gt ak aA),m,Z,Z⟩
     ·refine Aj f Z aB ?_
      refine An ?_
      refine Ao ?_
      refine Aa f Z λa f=>Ai f Z Z As λa f=>Ac f Z λa f=>Ab ?_
      obtain rfl:=sj ai
      exact⟨_,Z,_,Z,_,(gt ak aA),f.k Z,m⟩
    ·intro aC
     rcases Af ay with⟨aD,ay⟩|⟨aD,ay⟩
     ·refine Am 9 24 Z f aD λa f=> ?_
      refine Am 10 24 Z f aD λa f=>Am 11 24 Z f aD λa f=>q_nu 12 24 Z f λa f=>q_nu 13 24 Z f λa f=>q_nu 14 24 Z f λa f=>q_nu 15 24 Z f λa f=>q_nu 16 24 Z f λa f=>q_nu 17 24 Z f λa f=>q_nu 18 24 Z f λa f=>q_nu 19 24 Z f λa f=>q_nu 20 24 Z f λa f=>q_nu 21 24 Z f λa f=>Am 22 24 Z f aD λa f=>q_p 23 24 Z f (λ_=>AS (f.e Z) aD (f.e Z)) λa f=> ?_
      obtain rfl:=sj ay
      exact aC _ (f.k Z)
     ·refine Ae (hw:=wo f aD) 9 24 Z f Z λa f=> ?_
      refine q_p (hw:=wo f aD) 10 24 Z f (λ_=>AB (f.e Z) (f.e Z) Cs) λa f=>Ae (hw:=wo f aD) 11 24 Z f Z λa f=> ?_
      have⟨aE,aF,ay⟩:=bind_some ay
      refine BR (fuel':=1) (listed':= #[true,true,true,true,true,true,true,true,true,true,true,true,true,true,true,true,true,true,true,true,true,true,true,false]) (λa=>Fr a 40 [(0,v0),(1,(iv x1)),(5,(iv af)),(13,(.bool (decide (af<(x0.length:Int))))),(16,v0),(17,(iv af)),(18,ao),(19,(iv am)),(20,(iv x1)),(21,(iv (i64.wrap (x1-1)))),(22,(.bool au)),(23,(.bool (!au))),(24,(.bool (!au))),(25,(iv af)),(26,(.bool (decide ((0:Int)<af)))),(27,(.bool (decide ((0:Int)<af)))),(38,(.bool aE))]) ?_ ?_
      ·intro a f
       refine q_p 23 24 Z f (λ_=>AR (f.e Z) aD (f.e Z)) λa f=> ?_
       obtain rfl:=sj ay
       exact aC _ (f.k Z)
      ·intro aG
       rcases Af aF with⟨aH,aF⟩|⟨aH,aF⟩
       ·refine Ae (hw:=wo f aH) 12 24 Z f Z λa f=> ?_
        refine Ae (hw:=wo f aH) 13 24 Z f Z λa f=> ?_
        have⟨aI,aJ,aF⟩:=bind_some aF
        refine Cy (hw:=wo f aH) 14 24 T28 h0 aJ Z f Z Z λaK aL a aM aN f=> ?_
        subst aN
        refine Cv (hw:=wo f aH) 15 24 Pl2 aM Z f Z λa f=>Ae (hw:=wo f aH) 16 24 Z f Z λa f=>Ae (hw:=wo f aH) 17 24 Z f Z λa f=>q_p (hw:=wo f aH) 18 24 Z f (λ_=>AB (f.e Z) (f.e Z) AF) λa f=> ?_
        have⟨aO,aP,aF⟩:=bind_some aF
        refine Cy (hw:=wo f aH) 19 24 T28 h0 aP Z f Z Z λaQ aR a aS aT f=> ?_
        subst aT
        refine Cv (hw:=wo f aH) 20 24 Pl2 aS Z f Z λa f=>q_p (hw:=wo f aH) 21 24 Z f (λ_=>AB (f.e Z) (f.e Z) B5) λa f=>q_p (hw:=wo f aD) 22 24 Z f (λ_=>AS (f.e Z) aH (f.e Z)) λa f=> ?_
        obtain rfl:=sj aF
        exact aG _ (f.k Z)
       ·refine Am 12 24 Z f aH λa f=> ?_
        refine Am 13 24 Z f aH λa f=>Am 14 24 Z f aH λa f=>Am 15 24 Z f aH λa f=>Am 16 24 Z f aH λa f=>Am 17 24 Z f aH λa f=>Am 18 24 Z f aH λa f=>Am 19 24 Z f aH λa f=>Am 20 24 Z f aH λa f=>Am 21 24 Z f aH λa f=>q_p (hw:=wo f aD) 22 24 Z f (λ_=>AR (f.e Z) aH (f.e Z)) λa f=> ?_
        obtain rfl:=sj aF
        exact aG _ (f.k Z)
   ·refine Aj f Z al ?_
    refine AG Z ?_
    obtain rfl:=sj ai
    obtain rfl:=aj _ rfl
    exact⟨_,Z,_,ak,f.weak trivial,m⟩
  ·rintro a w ⟨_,rfl,ad,aU,f,m⟩
   refine Ag ?_
   refine Ac f Z λa f=>Ab ?_
   refine Ar ?_
   obtain rfl:=sj hd
   exact⟨[(.bool true)],f.g Z,f.d,_,[],aU,m,Z,Z⟩
theorem Wk.k {v0:Value}{x0:LI}{x1:Int}(m:Mem W G w (H))(h0:R1 G v0 x0){y:Bool}(hd:D.k x0 x1=some y):
  Calls prog 66 #[v0,(iv x1)] w (Res W G H (λ_ Ho v=>Ho=[]∧v=(.bool y))):=by
 refine Au (args:=[v0,(iv x1)]) (N:=18) [.tmp 4] func66 Z Z (lb Z) Z λa f=> ?_
 unfold D.k at hd
 refine Ag ?_
 refine Ac f Z λa f=>Ab (Ah (Ag ?_))
 refine Ac f Z λa f=>Ab ?_
 have⟨aa,ab,hd⟩:=bind_some hd
 refine AJ (λa w=>∃q_19':Unit,aa= .inl q_19'∧∃(ac:GH),GLe G ac∧Fr a 18 []∧Mem W ac w (H)) ?_ ?_
 ·refine Ak ?_
  refine AK (λad a w=>∃ae:Int,ae=ad∧∃(af:GH),GLe G af∧Fr a 18 [(0,v0),(1,(iv x1)),(5,(iv ae))]∧Mem W af w (H)) ab ⟨_,Z,_,gr,f.k Z,m⟩ ?_
  clear ab f m
  rintro ad ag ah ai a w ⟨ae,rfl,af,aj,f,m⟩
  have h0:=rd1 aj h0
  refine Ah (Ag ?_)
  refine Aa f Z λa f=>Aa f Z λa f=>Bf underlying28 f Z Z h0 λa f=>Ai f Z Z AV λa f=>Ab ?_
  rcases Af ah with⟨ak,ah⟩|⟨ak,ah⟩
  ·refine Al f Z ak ?_
   refine An ?_
   refine Ah (Ak (Ag ?_))
   refine Aa f Z λa f=>Aa f Z λa f=> ?_
   have⟨al,am,ah⟩:=bind_some ah
   refine Cc T28 f Z Z Z h0 am λan ao a ap aq f=> ?_
   subst aq
   refine Bl m Pl2 f Z Z ap λa f=>Aa f Z λa f=>Ai f Z Z BT λa f=>Ab ?_
   rcases Af ah with⟨ar,ah⟩|⟨ar,ah⟩
   ·refine Al f Z ar ?_
    refine Ag ?_
    refine Ac f Z λa f=>Ab ?_
    refine Ar ?_
    obtain rfl:=sj ah
    obtain rfl:=ai _ rfl
    obtain rfl:=sj hd
    exact⟨[(.bool true)],f.g Z,f.d,_,[],aj,m,Z,Z⟩
   ·refine Aj f Z ar ?_
    refine An ?_
    refine Ao ?_
    refine Aa f Z λa f=>Ai f Z Z As λa f=>Ac f Z λa f=>Ab ?_
    obtain rfl:=sj ah
    exact⟨_,Z,_,Z,_,aj,f.k Z,m⟩
  ·refine Aj f Z ak ?_
   refine AG Z ?_
   obtain rfl:=sj ah
   obtain rfl:=ai _ rfl
   exact⟨_,Z,_,aj,f.weak trivial,m⟩
 ·rintro a w ⟨_,rfl,ac,au,f,m⟩
  refine Ag ?_
  refine Ac f Z λa f=>Ab ?_
  refine Ar ?_
  obtain rfl:=sj hd
  exact⟨[(.bool false)],f.g Z,f.d,_,[],au,m,Z,Z⟩
theorem Wk.n {aa:Value}{ab:LL}(m:Mem W G w (H))(ac:R2 G aa ab){y:Bool}(hd:D.n ab=some y):
  Calls prog 34 #[(.agg #[aa])] w (Res W G H (λ_ Ho v=>Ho=[]∧v=(.bool y))):=by
 refine Au (args:=[(.agg #[aa])]) (N:=64) [.tmp 2] func34 Z Z (lb Z) Z λa f=> ?_
 unfold D.n at hd
 refine Ag ?_
 refine BN (cs:=[aa]) m f Z Z Z λad w a m f=>Ac f Z λa f=>Ay ?_
 refine A9 0 0 (ds:=[aa]) m Bn f Z Z Z Z Z λa f=> ?_
 have⟨ae,af,hd⟩:=bind_some hd
 refine Bk f Z call45 (Wk.u m ac af) λag w ah m a f=> ?_
 have ac:=rd2 ah ac
 refine Ac f Z λa f=>Ab (Ah (Ag ?_))
 refine Aa f Z λa f=> ?_
 have⟨ai,aj,hd⟩:=bind_some hd
 refine Bk f Z call64 (Wk.d m aj) λak w al m a f=> ?_
 have ac:=rd2 al ac
 refine l_o f (Bg (f.e Z)) λa f=>Ab ?_
 rcases Af hd with⟨am,hd⟩|⟨am,hd⟩
 ·refine Al f Z am ?_
  refine Ag ?_
  refine Ac f Z λa f=>Ab ?_
  refine Ar ?_
  have m:Mem W ak w H:=Mem.drop (H':=[ib ad 32 [aa]]) m
  obtain rfl:=sj hd
  exact⟨[(.bool false)],f.g Z,f.d,_,[],(gt ah al),m,Z,Z⟩
 ·refine Aj f Z am ?_
  refine An ?_
  refine Ah (Ag ?_)
  refine Ac f Z λa f=>Ab ?_
  have⟨an,ao,hd⟩:=bind_some hd
  refine AJ (λa w=>∃q_138':Unit,an= .inl q_138'∧∃(ap:GH),GLe ak ap∧Fr a 64 [(1,(pb ad)),(3,(iv ae))]∧Mem W ap w (ib ad 32 [aa]::H)) ?_ ?_
  ·refine Ak ?_
   refine AK (λaq a w=>∃ar:Int,ar=aq∧∃(au:GH),GLe ak au∧Fr a 64 [(1,(pb ad)),(3,(iv ae)),(4,(iv ar))]∧Mem W au w (ib ad 32 [aa]::H)) ao ⟨_,Z,_,gr,f.k Z,m⟩ ?_
   clear ao f m
   rintro aq av aw ax a w ⟨ar,rfl,au,ay,f,m⟩
   have ac:=rd2 ay ac
   refine Ah (Ag ?_)
   refine Aa f Z λa f=>Aa f Z λa f=>Ai f Z Z AV λa f=>Ab ?_
   rcases Af aw with⟨az,aw⟩|⟨az,aw⟩
   ·refine Al f Z az ?_
    refine An ?_
    refine Ah (Ak (Ag ?_))
    refine BC underlying32 Z sizeOf30 f Z λa f=>A5 0 0 m B4 f Z Z Z Z λa f=>Aa f Z λa f=> ?_
    have⟨aA,aB,aw⟩:=bind_some aw
    refine Cc T30 f Z Z Z ac aB λaC aD a aE aF f=>Bl m CW f Z Z aE λa f=>Aa f Z λa f=> ?_
    have⟨aG,aH,aw⟩:=bind_some aw
    refine Bk f Z call65 (Wk.k0 m aF aH) λaI w aJ m a f=> ?_
    have ac:=rd2 aJ ac
    refine l_o f (Bg (f.e Z)) λa f=>Aa f Z λa f=> ?_
    have⟨aK,aL,aw⟩:=bind_some aw
    refine Br 8 (λa w=>∃aM,GLe aI aM∧Mem W aM w (ib ad 32 [aa]::H)∧Fr a 64 [(1,(pb ad)),(3,(iv ae)),(4,(iv ar)),(14,(.bool (decide (ar<ae)))),(17,(pb ad)),(18,aa),(19,(iv ar)),(20,aC),(21,aD),(22,(iv ae)),(23,(.bool aG)),(24,(.bool (!aG))),(25,(.bool (!aG))),(33,(.bool aK))]) ?_ ?_
    ·rcases Af aL with⟨aN,aL⟩|⟨aN,aL⟩
     ·refine AE f aN λa f=> ?_
      refine AE f aN λa f=>AE f aN λa f=>AE f aN λa f=>AE f aN λa f=>AE f aN λa f=>AE f aN λa f=>l_o f (AS (f.e Z) aN (f.e Z)) λa f=> ?_
      obtain rfl:=sj aL
      exact⟨_,gr,m,f.k Z⟩
     ·refine AD f aN ?_
      refine BC underlying32 Z sizeOf30 f Z λa f=>AD f aN ?_
      refine A5 0 0 m B4 f Z Z Z Z λa f=>AD f aN ?_
      refine Aa f Z λa f=>AD f aN ?_
      have⟨aO,aP,aL⟩:=bind_some aL
      refine Cc T30 f Z Z Z ac aP λaQ aR a aS aT f=>AD f aN ?_
      refine Bl m CW f Z Z aS λa f=>AD f aN ?_
      refine Aa f Z λa f=>AD f aN ?_
      have⟨aU,aV,aL⟩:=bind_some aL
      refine Bk f Z call66 (Wk.k m aT aV) λaW w aX m a f=>l_o f (AR (f.e Z) aN (f.e Z)) λa f=> ?_
      obtain rfl:=sj aL
      exact⟨_,aX,m,f.k Z⟩
    ·rintro a w ⟨aM,aY,m,f⟩
     refine Ab ?_
     rcases Af aw with⟨aZ,aw⟩|⟨aZ,aw⟩
     ·refine Al f Z aZ ?_
      refine Ag ?_
      refine Ac f Z λa f=>Ab ?_
      refine Ar ?_
      have m:Mem W aM w H:=Mem.drop (H':=[ib ad 32 [aa]]) m
      obtain rfl:=sj aw
      obtain rfl:=ax _ rfl
      obtain rfl:=sj hd
      exact⟨[(.bool false)],f.g Z,f.d,_,[],(gt ah (gt al (gt ay (gt aJ aY)))),m,Z,Z⟩
     ·refine Aj f Z aZ ?_
      refine An ?_
      refine Ao ?_
      refine Aa f Z λa f=>Ai f Z Z As λa f=>Ac f Z λa f=>Ab ?_
      obtain rfl:=sj aw
      exact⟨_,Z,_,Z,_,(gt ay (gt aJ aY)),f.k Z,m⟩
   ·refine Aj f Z az ?_
    refine AG Z ?_
    obtain rfl:=sj aw
    obtain rfl:=ax _ rfl
    exact⟨_,Z,_,ay,f.k Z,m⟩
  ·rintro a w ⟨_,rfl,ap,a0,f,m⟩
   have ac:=rd2 a0 ac
   refine Ah (Ag ?_)
   refine Ac f Z λa f=>Ab ?_
   have⟨a1,a2,hd⟩:=bind_some hd
   refine AJ (λa w=>∃q_545':Unit,a1= .inl q_545'∧∃(a3:GH),GLe ap a3∧Fr a 64 []∧Mem W a3 w (H)) ?_ ?_
   ·refine Ak ?_
    refine AK (λa4 a w=>∃a5:Int,a5=a4∧∃(a6:GH),GLe ap a6∧Fr a 64 [(1,(pb ad)),(3,(iv ae)),(5,(iv a5))]∧Mem W a6 w (ib ad 32 [aa]::H)) a2 ⟨_,Z,_,gr,f.k Z,m⟩ ?_
    clear a2 f m
    rintro a4 a7 a8 a9 a w ⟨a5,rfl,a6,ba,f,m⟩
    have ac:=rd2 ba ac
    refine Ah (Ag ?_)
    refine Aa f Z λa f=>Aa f Z λa f=>Ai f Z Z AV λa f=>Ab ?_
    rcases Af a8 with⟨bb,a8⟩|⟨bb,a8⟩
    ·refine Al f Z bb ?_
     refine An ?_
     refine Ah (Ak (Ag ?_))
     refine Ac f Z λa f=>Ab ?_
     have⟨bc,bd,a8⟩:=bind_some a8
     refine AJ (λa w=>∃q_759':Unit,bc= .inl q_759'∧∃(be:GH),GLe a6 be∧Fr a 64 [(1,(pb ad)),(3,(iv ae)),(5,(iv a5))]∧Mem W be w (ib ad 32 [aa]::H)) ?_ ?_
     ·refine Ak ?_
      refine AK (λbf a w=>∃bg:Int,bg=bf∧∃(bh:GH),GLe a6 bh∧Fr a 64 [(1,(pb ad)),(3,(iv ae)),(5,(iv a5)),(6,(iv bg))]∧Mem W bh w (ib ad 32 [aa]::H)) bd ⟨_,Z,_,gr,f.k Z,m⟩ ?_
      clear bd f m
      rintro bf bi bj bk a w ⟨bg,rfl,bh,bl,f,m⟩
      have ac:=rd2 bl ac
      refine Ah (Ag ?_)
      refine Aa f Z λa f=>BC underlying32 Z sizeOf30 f Z λa f=>A5 0 0 m B4 f Z Z Z Z λa f=>Aa f Z λa f=> ?_
      have⟨bm,bn,bj⟩:=bind_some bj
      refine Cc T30 f Z Z Z ac bn λbo bp a bq br f=>Bl m CW f Z Z bq λa f=>Bf underlying28 f Z Z br λa f=>Ai f Z Z AV λa f=>Ab ?_
      rcases Af bj with⟨bs,bj⟩|⟨bs,bj⟩
      ·refine Al f Z bs ?_
       refine An ?_
       refine Ah (Ak (Ah ?_))
       refine A4 15 Az (by kernel_rfl) m ?_
       refine Cf 0 15 underlying32 Z sizeOf30 Z f Z λa f=>BX 1 15 0 B4 Z Z Z f Z λa f=>Cf 2 15 underlying32 Z sizeOf30 Z f Z λa f=>BX 3 15 0 B4 Z Z Z f Z λa f=>Ae 4 15 Z f Z λa f=> ?_
       have⟨bt,bu,bj⟩:=bind_some bj
       refine Cy 5 15 T30 ac bu Z f Z Z λbv bw a bx bz f=>Cv 6 15 CW bx Z f Z λa f=>Ae 7 15 Z f Z λa f=> ?_
       have⟨bA,bB,bj⟩:=bind_some bj
       refine Cy 8 15 T28 bz bB Z f Z Z λbC bD a bE bF f=> ?_
       subst bF
       refine Cv 9 15 Pl2 bE Z f Z λa f=> ?_
       have⟨bG,bH,bj⟩:=bind_some bj
       refine Cy 10 15 T30 ac bH Z f Z Z λbI bJ a bK bL f=>Cv 11 15 CW bK Z f Z λa f=>Ae 12 15 Z f Z λa f=> ?_
       have⟨bM,bN,bj⟩:=bind_some bj
       refine Bu (i:=13) 15 Z (by kernel_rfl) Z f Z Z Z call66 (λ_ _ w bO m=>Wk.k m (rd1 bO bL) bN) λa f=>q_p 14 15 Z f (λ_=>Bg (f.e Z)) λa f=>AN λbP w bQ m=>Ab ?_
       rcases Af bj with⟨bR,bj⟩|⟨bR,bj⟩
       ·refine Al f Z bR ?_
        refine Ag ?_
        refine Ac f Z λa f=>Ab ?_
        refine Ar ?_
        have m:Mem W bP w H:=Mem.drop (H':=[ib ad 32 [aa]]) m
        obtain rfl:=sj bj
        obtain rfl:=bk _ rfl
        obtain rfl:=sj a8
        obtain rfl:=a9 _ rfl
        obtain rfl:=sj hd
        exact⟨[(.bool false)],f.g Z,f.d,_,[],(gt ah (gt al (gt a0 (gt ba (gt bl bQ))))),m,Z,Z⟩
       ·refine Aj f Z bR ?_
        refine An ?_
        refine Ao ?_
        refine Aa f Z λa f=>Ai f Z Z As λa f=>Ac f Z λa f=>Ab ?_
        obtain rfl:=sj bj
        exact⟨_,Z,_,Z,_,(gt bl bQ),f.k Z,m⟩
      ·refine Aj f Z bs ?_
       refine AG Z ?_
       obtain rfl:=sj bj
       obtain rfl:=bk _ rfl
       exact⟨_,Z,_,bl,f.k Z,m⟩
     ·rintro a w ⟨_,rfl,be,bS,f,m⟩
      refine Ao ?_
      refine Aa f Z λa f=>Ai f Z Z As λa f=>Ac f Z λa f=>Ab ?_
      obtain rfl:=sj a8
      exact⟨_,Z,_,Z,_,(gt ba bS),f.k Z,m⟩
    ·refine Aj f Z bb ?_
     refine AG Z ?_
     have m:Mem W a6 w H:=Mem.drop (H':=[ib ad 32 [aa]]) m
     obtain rfl:=sj a8
     obtain rfl:=a9 _ rfl
     exact⟨_,Z,_,ba,f.weak trivial,m⟩
   ·rintro a w ⟨_,rfl,a3,bT,f,m⟩
    refine Ag ?_
    refine Ac f Z λa f=>Ab ?_
    refine Ar ?_
    obtain rfl:=sj hd
    exact⟨[(.bool true)],f.g Z,f.d,_,[],(gt ah (gt al (gt a0 bT))),m,Z,Z⟩
theorem Wk.h {v0:Value}{x0:LI}(m:Mem W G w (H))(h0:R1 G v0 x0){y:Bool}(hd:D.h x0=some y):
  Calls prog 67 #[v0] w (Res W G H (λ_ Ho v=>Ho=[]∧v=(.bool y))):=by
 refine Au (args:=[v0]) (N:=33) [.tmp 2] func67 Z Z (lb Z) Z λa f=> ?_
 unfold D.h at hd
 refine Ag ?_
 refine Ac f Z λa f=>Ab (Ah (Ag ?_))
 refine Aa f Z λa f=>Bf underlying28 f Z Z h0 λa f=> ?_
 have⟨aa,ab,hd⟩:=bind_some hd
 refine Bk f Z call64 (Wk.d m ab) λac w ad m a f=> ?_
 have h0:=rd1 ad h0
 refine l_o f (Bg (f.e Z)) λa f=>Ab ?_
 rcases Af hd with⟨ae,hd⟩|⟨ae,hd⟩
 ·refine Al f Z ae ?_
  refine Ag ?_
  refine Ac f Z λa f=>Ab ?_
  refine Ar ?_
  obtain rfl:=sj hd
  exact⟨[(.bool false)],f.g Z,f.d,_,[],ad,m,Z,Z⟩
 ·refine Aj f Z ae ?_
  refine An ?_
  refine Ah (Ag ?_)
  refine Ac f Z λa f=>Ab ?_
  have⟨af,ag,hd⟩:=bind_some hd
  refine AJ (λa w=>∃q_97':Unit,af= .inl q_97'∧∃(ah:GH),GLe ac ah∧Fr a 33 []∧Mem W ah w (H)) ?_ ?_
  ·refine Ak ?_
   refine AK (λai a w=>∃aj:Int,aj=ai∧∃(ak:GH),GLe ac ak∧Fr a 33 [(0,v0),(3,(iv aj))]∧Mem W ak w (H)) ag ⟨_,Z,_,gr,f.k Z,m⟩ ?_
   clear ag f m
   rintro ai al am an a w ⟨aj,rfl,ak,ao,f,m⟩
   have h0:=rd1 ao h0
   refine Ah (Ag ?_)
   refine Aa f Z λa f=>Aa f Z λa f=>Bf underlying28 f Z Z h0 λa f=>Ai f Z Z AV λa f=>Ab ?_
   rcases Af am with⟨ap,am⟩|⟨ap,am⟩
   ·refine Al f Z ap ?_
    refine An ?_
    refine Ah (Ak (Ah ?_))
    refine A4 19 Az (by kernel_rfl) m ?_
    refine Ae 0 19 Z f Z λa f=>Ae 1 19 Z f Z λa f=> ?_
    have⟨aq,ar,am⟩:=bind_some am
    refine Cy 2 19 T28 h0 ar Z f Z Z λau av a aw ax f=> ?_
    subst ax
    refine Cv 3 19 Pl2 aw Z f Z λa f=>Ae 4 19 Z f Z λa f=>q_len (i:=5) 19 underlying28 h0 Z (by kernel_rfl) Z f Z Z Z λa f=>q_p 6 19 Z f (λ_=>AB (f.e Z) (f.e Z) AF) λa f=> ?_
    have⟨ay,az,am⟩:=bind_some am
    refine Bu (i:=7) 19 Z (by kernel_rfl) Z f Z Z Z call64 (λ_ _ w aA m=>Wk.d m az) λa f=>q_p 8 19 Z f (λ_=>Bg (f.e Z)) λa f=>Ae 9 19 Z f Z λa f=> ?_
    have⟨aB,aC,am⟩:=bind_some am
    refine BR (fuel':=0) (listed':= #[true,true,true,true,true,true,true,true,true,true,true,true,true,true,true,true,true,true,true]) (λa=>Fr a 33 [(0,v0),(3,(iv aj)),(11,(.bool (decide (aj<(x0.length:Int))))),(14,v0),(15,(iv aj)),(16,au),(17,(iv aq)),(18,v0),(19,(iv (x0.length:Int))),(20,(iv (i64.wrap ((x0.length:Int)-1)))),(21,(.bool ay)),(22,(.bool (!ay))),(23,(.bool (!ay))),(32,(.bool aB))]) ?_ ?_
    ·intro a f
     refine AN λaD w aE m=>Ab ?_
     rcases Af am with⟨aF,am⟩|⟨aF,am⟩
     ·refine Al f Z aF ?_
      refine Ag ?_
      refine Ac f Z λa f=>Ab ?_
      refine Ar ?_
      obtain rfl:=sj am
      obtain rfl:=an _ rfl
      obtain rfl:=sj hd
      exact⟨[(.bool false)],f.g Z,f.d,_,[],(gt ad (gt ao aE)),m,Z,Z⟩
     ·refine Aj f Z aF ?_
      refine An ?_
      refine Ao ?_
      refine Aa f Z λa f=>Ai f Z Z As λa f=>Ac f Z λa f=>Ab ?_
      obtain rfl:=sj am
      exact⟨_,Z,_,Z,_,(gt ao aE),f.k Z,m⟩
    ·intro aG
     rcases Af aC with⟨aH,aC⟩|⟨aH,aC⟩
     ·refine Am 10 19 Z f aH λa f=> ?_
      refine Am 11 19 Z f aH λa f=>Am 12 19 Z f aH λa f=>Am 13 19 Z f aH λa f=>Am 14 19 Z f aH λa f=>Am 15 19 Z f aH λa f=>Am 16 19 Z f aH λa f=>Am 17 19 Z f aH λa f=>q_p 18 19 Z f (λ_=>AS (f.e Z) aH (f.e Z)) λa f=> ?_
      obtain rfl:=sj aC
      exact aG _ (f.k Z)
     ·refine Ae (hw:=wo f aH) 10 19 Z f Z λa f=> ?_
      refine Ae (hw:=wo f aH) 11 19 Z f Z λa f=> ?_
      have⟨aI,aJ,aC⟩:=bind_some aC
      refine q_slice (i:=12) 19 T28 h0 aJ Z (by kernel_rfl) Z f (AC f Z Z Z aH) Z Z (.inl ⟨Z,Z⟩) (.inr ⟨_,_,Z,Z⟩) λaK a aL f=>Ae (hw:=wo f aH) 13 19 Z f Z λa f=>Ae (hw:=wo f aH) 14 19 Z f Z λa f=> ?_
      have⟨aM,aN,aC⟩:=bind_some aC
      refine Cy (hw:=wo f aH) 15 19 T28 h0 aN Z f Z Z λaO aP a aQ aR f=> ?_
      subst aR
      refine Cv (hw:=wo f aH) 16 19 Pl2 aQ Z f Z λa f=> ?_
      have⟨aS,aT,aC⟩:=bind_some aC
      refine Bu (i:=17) 19 Z (by kernel_rfl) Z f (AC f Z Z Z aH) Z Z call66 (λ_ _ w aU m=>Wk.k m (rd1 aU aL) aT) λa f=>q_p 18 19 Z f (λ_=>AR (f.e Z) aH (f.e Z)) λa f=> ?_
      obtain rfl:=sj aC
      exact aG _ (f.k Z)
   ·refine Aj f Z ap ?_
    refine AG Z ?_
    obtain rfl:=sj am
    obtain rfl:=an _ rfl
    exact⟨_,Z,_,ao,f.weak trivial,m⟩
  ·rintro a w ⟨_,rfl,ah,aV,f,m⟩
   refine Ag ?_
   refine Ac f Z λa f=>Ab ?_
   refine Ar ?_
   obtain rfl:=sj hd
   exact⟨[(.bool true)],f.g Z,f.d,_,[],(gt ad aV),m,Z,Z⟩
theorem Wk.b1 {v0 v1:Value}{x0 x1:LI}(m:Mem W G w (H))(h0:R1 G v0 x0)(h1:R1 G v1 x1){y:Bool}(hd:D.b1 x0 x1=some y):
  Calls prog 35 #[v0,v1] w (Res W G H (λ_ Ho v=>Ho=[]∧v=(.bool y))):=by
 refine Au (args:=[v0,v1]) (N:=18) [.tmp 4] func35 Z Z (lb Z) Z λa f=> ?_
 unfold D.b1 at hd
 refine Ag ?_
 refine Ac f Z λa f=>Ay ?_
 refine Aa f Z λa f=> ?_
 have⟨aa,ab,hd⟩:=bind_some hd
 refine Bk f Z call67 (Wk.h m h0 ab) λac w ad m a f=> ?_
 have h0:=rd1 ad h0
 have h1:=rd1 ad h1
 refine Aa f Z λa f=> ?_
 have⟨ae,af,hd⟩:=bind_some hd
 refine Br 3 (λa w=>∃ag,GLe ac ag∧Mem W ag w (H)∧Fr a 18 [(0,v0),(1,v1),(5,v0),(6,(.bool aa)),(7,(.bool aa)),(10,(.bool ae))]) ?_ ?_
 ·rcases Af af with⟨ah,af⟩|⟨ah,af⟩
  ·refine AD f ah ?_
   refine Aa f Z λa f=>AD f ah ?_
   have⟨ai,aj,af⟩:=bind_some af
   refine Bk f Z call67 (Wk.h m h1 aj) λak w al m a f=>l_o f (AS (f.e Z) ah (f.e Z)) λa f=> ?_
   obtain rfl:=sj af
   exact⟨_,al,m,f.k Z⟩
  ·refine AE f ah λa f=> ?_
   refine AE f ah λa f=>l_o f (AR (f.e Z) ah (f.e Z)) λa f=> ?_
   obtain rfl:=sj af
   exact⟨_,gr,m,f.k Z⟩
 ·rintro a w ⟨ag,am,m,f⟩
  have h0:=rd1 am h0
  have h1:=rd1 am h1
  refine Aa f Z λa f=> ?_
  refine Br 6 (λa w=>∃an,GLe ag an∧Mem W an w (H)∧Fr a 18 [(0,v0),(1,v1),(5,v0),(6,(.bool aa)),(7,(.bool aa)),(10,(.bool ae)),(11,(.bool ae)),(17,(.bool (ae&&((x0.length:Int)==(x1.length:Int)))))]) ?_ ?_
  ·rcases Bool.eq_false_or_eq_true ae with ao|ao
   ·refine AD f ao ?_
    refine Aa f Z λa f=>AD f ao ?_
    refine Bf underlying28 f Z Z h0 λa f=>AD f ao ?_
    refine Aa f Z λa f=>AD f ao ?_
    refine Bf underlying28 f Z Z h1 λa f=>AD f ao ?_
    refine Ai f Z Z BT λa f=>l_o f (AS (f.e Z) ao (f.e Z)) λa f=> ?_
    exact⟨_,gr,m,f.weak ⟨Z,Z,Z,Z,Z,Z,Z,by rw[ao];rfl,trivial⟩⟩
   ·refine AE f ao λa f=> ?_
    refine AE f ao λa f=>AE f ao λa f=>AE f ao λa f=>AE f ao λa f=>l_o f (AR (f.e Z) ao (f.e Z)) λa f=> ?_
    exact⟨_,gr,m,f.weak ⟨Z,Z,Z,Z,Z,Z,Z,by rw[ao];rfl,trivial⟩⟩
  ·rintro a w ⟨an,ap,m,f⟩
   refine Ac f Z λa f=>Ab ?_
   refine Ar ?_
   obtain rfl:=sj hd
   exact⟨[(.bool (ae&&((x0.length:Int)==(x1.length:Int))))],f.g Z,f.d,_,[],(gt ad (gt am ap)),m,Z,Z⟩
theorem Wk.l {v0:Value}{x0:LI}{x1:Int}(m:Mem W G w (H))(h0:R1 G v0 x0){y:Int}(hd:D.l x0 x1=some y):
  Calls prog 100 #[v0,(iv x1)] w (Res W G H (λ_ Ho v=>Ho=[]∧v=(iv y))):=by
 refine Au (args:=[v0,(iv x1)]) (N:=19) [.tmp 4] func100 Z Z (lb Z) Z λa f=> ?_
 unfold D.l at hd
 refine Ag ?_
 refine Ac f Z λa f=>Ab (Ah (Ag ?_))
 refine Ac f Z λa f=>Ab ?_
 have⟨aa,ab,hd⟩:=bind_some hd
 refine AJ (λa w=>∃q_19':Unit,aa= .inl q_19'∧∃(ac:GH),GLe G ac∧Fr a 19 []∧Mem W ac w (H)) ?_ ?_
 ·refine Ak ?_
  refine AK (λad a w=>∃ae:Int,ae=ad∧∃(af:GH),GLe G af∧Fr a 19 [(0,v0),(1,(iv x1)),(5,(iv ae))]∧Mem W af w (H)) ab ⟨_,Z,_,gr,f.k Z,m⟩ ?_
  clear ab f m
  rintro ad ag ah ai a w ⟨ae,rfl,af,aj,f,m⟩
  have h0:=rd1 aj h0
  refine Ah (Ag ?_)
  refine Aa f Z λa f=>Aa f Z λa f=>Bf underlying28 f Z Z h0 λa f=>Ai f Z Z AV λa f=>Ab ?_
  rcases Af ah with⟨ak,ah⟩|⟨ak,ah⟩
  ·refine Al f Z ak ?_
   refine An ?_
   refine Ah (Ak (Ag ?_))
   refine Aa f Z λa f=>Aa f Z λa f=> ?_
   have⟨al,am,ah⟩:=bind_some ah
   refine Cc T28 f Z Z Z h0 am λan ao a ap aq f=> ?_
   subst aq
   refine Bl m Pl2 f Z Z ap λa f=>Aa f Z λa f=>Ai f Z Z BT λa f=>Ab ?_
   rcases Af ah with⟨ar,ah⟩|⟨ar,ah⟩
   ·refine Al f Z ar ?_
    refine Ag ?_
    refine Aa f Z λa f=>Ac f Z λa f=>Ab ?_
    refine Ar ?_
    obtain rfl:=sj ah
    obtain rfl:=ai _ rfl
    obtain rfl:=sj hd
    exact⟨[(iv ae)],f.g Z,f.d,_,[],aj,m,Z,Z⟩
   ·refine Aj f Z ar ?_
    refine An ?_
    refine Ao ?_
    refine Aa f Z λa f=>Ai f Z Z As λa f=>Ac f Z λa f=>Ab ?_
    obtain rfl:=sj ah
    exact⟨_,Z,_,Z,_,aj,f.k Z,m⟩
  ·refine Aj f Z ak ?_
   refine AG Z ?_
   obtain rfl:=sj ah
   obtain rfl:=ai _ rfl
   exact⟨_,Z,_,aj,f.weak trivial,m⟩
 ·rintro a w ⟨_,rfl,ac,au,f,m⟩
  refine Ag ?_
  refine Ac f Z λa f=>Ab ?_
  refine Ar ?_
  obtain rfl:=sj hd
  exact⟨[(iv (-1))],f.g Z,f.d,_,[],au,m,Z,Z⟩
theorem Wk.F0 {v0 v1:Value}{x0 x1:LI}{x2 x3:Int}(m:Mem W G w (H))(h0:R1 G v0 x0)(h1:R1 G v1 x1){y:Bool}(hd:D.F0 x0 x1 x2 x3=some y):
  Calls prog 69 #[v0,v1,(iv x2),(iv x3)] w (Res W G H (λ_ Ho v=>Ho=[]∧v=(.bool y))):=by
 refine Au (args:=[v0,v1,(iv x2),(iv x3)]) (N:=29) [.tmp 8] func69 Z Z (lb Z) Z λa f=> ?_
 unfold D.F0 at hd
 refine Ag ?_
 refine Ac f Z λa f=>Ay ?_
 refine Aa f Z λa f=>Aa f Z λa f=>Ai f Z Z C5 λa f=>Aa f Z λa f=> ?_
 have⟨aa,ab,hd⟩:=bind_some hd
 refine Br 16 (λa w=>∃ac,GLe G ac∧Mem W ac w (H)∧Fr a 29 [(0,v0),(1,v1),(2,(iv x2)),(3,(iv x3)),(9,(iv x2)),(10,(iv x3)),(11,(.bool (x2 !=x3))),(12,(.bool (x2 !=x3))),(28,(.bool aa))]) ?_ ?_
 ·rcases Af ab with⟨ad,ab⟩|⟨ad,ab⟩
  ·refine AD f ad ?_
   refine Aa f Z λa f=>AD f ad ?_
   refine Aa f Z λa f=>AD f ad ?_
   have⟨ae,af,ab⟩:=bind_some ab
   refine Bk f Z call100 (Wk.l m h0 af) λag w ah m a f=> ?_
   have h0:=rd1 ah h0
   have h1:=rd1 ah h1
   refine AD f ad ?_
   refine Aa f Z λa f=>AD f ad ?_
   refine Aa f Z λa f=>AD f ad ?_
   have⟨ai,aj,ab⟩:=bind_some ab
   refine Bk f Z call100 (Wk.l m h0 aj) λak w al m a f=> ?_
   have h1:=rd1 al h1
   refine AD f ad ?_
   refine Ai f Z Z AV λa f=>AD f ad ?_
   refine Aa f Z λa f=>AD f ad ?_
   refine Aa f Z λa f=>AD f ad ?_
   have⟨am,an,ab⟩:=bind_some ab
   refine Bk f Z call100 (Wk.l m h1 an) λao w ap m a f=> ?_
   have h1:=rd1 ap h1
   refine AD f ad ?_
   refine Aa f Z λa f=>AD f ad ?_
   refine Aa f Z λa f=>AD f ad ?_
   have⟨aq,ar,ab⟩:=bind_some ab
   refine Bk f Z call100 (Wk.l m h1 ar) λau w av m a f=>AD f ad ?_
   refine Ai f Z Z AV λa f=>AD f ad ?_
   refine l_o f (r_bool_neq (f.e Z) (f.e Z) underlying4) λa f=>l_o f (AS (f.e Z) ad (f.e Z)) λa f=> ?_
   obtain rfl:=sj ab
   exact⟨_,(gt ah (gt al (gt ap av))),m,f.k Z⟩
  ·refine AE f ad λa f=> ?_
   refine AE f ad λa f=>AE f ad λa f=>AE f ad λa f=>AE f ad λa f=>AE f ad λa f=>AE f ad λa f=>AE f ad λa f=>AE f ad λa f=>AE f ad λa f=>AE f ad λa f=>AE f ad λa f=>AE f ad λa f=>AE f ad λa f=>AE f ad λa f=>l_o f (AR (f.e Z) ad (f.e Z)) λa f=> ?_
   obtain rfl:=sj ab
   exact⟨_,gr,m,f.k Z⟩
 ·rintro a w ⟨ac,aw,m,f⟩
  refine Ac f Z λa f=>Ab ?_
  refine Ar ?_
  obtain rfl:=sj hd
  exact⟨[(.bool aa)],f.g Z,f.d,_,[],aw,m,Z,Z⟩
theorem Wk.D0 {v0 v1:Value}{x0 x1:LI}(m:Mem W G w (H))(h0:R1 G v0 x0)(h1:R1 G v1 x1){y:(LL)}(hd:D.D0 x0 x1=some y):
  Calls prog 37 #[v0,v1] w (Res W G H (λG' Ho v=>∃r0:Value,∃i0:Itm,Ho=[i0]∧v=(.agg #[r0])∧Ow R1 28 G' i0 r0 y)):=by
 refine Au (args:=[v0,v1]) (N:=39) [.cell 4 32] func37 Z Z (lb Z) Z λa f=> ?_
 unfold D.D0 at hd
 refine Ag ?_
 refine Bx (cs:=[sn]) zeroValue32 m f Z Z λaa w a m f=>Ay ?_
 have ab:∀w,(Instr.build 32 #[]).run prog w= .ok (.agg #[sn]) w:=by intro w;simp[Instr.build,Instr.fill,Cd,BZ,BO,BS,BF,Ce]
 refine CG f Z Z ab λa f=>Bx (cs:=[sn]) zeroValue32 m f Z Z λac w a m f=>A3 0 0 (ds:=[sn]) m sizeOf32 f Z Z Z (Ap Z AH) Z (lb Z) Z λw m=>Ab (Ah (Ag ?_))
 refine Ac f Z λa f=>Ab ?_
 obtain⟨ad,m,ae⟩:=Ow.nil R1 28 m
 have⟨af,ag,hd⟩:=bind_some hd
 refine AJ (λa w=>∃ah:LL,ah=af∧∃(ai:GH) (aj:Value) (ak:Itm),GLe G ai∧Fr a 39 [(4,(pb aa)),(5,(pb ac))]∧Mem W ai w (ib aa 32 [sn]::ib ac 32 [aj]::ak::H)∧Ow R1 28 ai ak aj ah) ?_ ?_
 ·refine Ak ?_
  have m:=m.fr 1
  have m:=m.fr 2
  refine AK (λal a w=>∃am:Int,∃an:LL,(am,an)=al∧∃(ao:GH) (ap:Value) (aq:Itm),GLe G ao∧Fr a 39 [(0,v0),(1,v1),(4,(pb aa)),(5,(pb ac)),(6,(iv am))]∧Mem W ao w (ib aa 32 [sn]::ib ac 32 [ap]::aq::H)∧Ow R1 28 ao aq ap an) ag ⟨_,_,Z,_,sn,ad,gr,f.k Z,m,ae⟩ ?_
  clear ag f m
  rintro al ar au av a w ⟨am,an,rfl,ao,ap,aq,aw,f,m,ax⟩
  have h0:=rd1 aw h0
  have h1:=rd1 aw h1
  refine Ah (Ag ?_)
  refine Aa f Z λa f=>Aa f Z λa f=>Bf underlying28 f Z Z h0 λa f=>Ai f Z Z AV λa f=>Ab ?_
  rcases Af au with⟨ay,au⟩|⟨ay,au⟩
  ·refine Al f Z ay ?_
   refine An ?_
   refine Ah (Ak (Ag ?_))
   refine BQ (R:=R0) (xs:=([]:LI)) (RI.one _) m T28 f Z Z Z (by decide) (All2.nil _) λaz aA w a m aB f=>Ac f Z λa f=>Ab (Ah (Ag ?_))
   refine Ac f Z λa f=>Ab ?_
   have⟨aC,aD,au⟩:=bind_some au
   refine AJ (λa w=>∃aE:LI,aE=aC∧∃(aF:GH) (aG:Value) (aH:Itm),GLe ao aF∧Fr a 39 [(0,v0),(1,v1),(4,(pb aa)),(5,(pb ac)),(6,(iv am)),(7,aG)]∧Mem W aF w (ib aa 32 [sn]::ib ac 32 [ap]::aH::aq::H)∧Ow R0 2 aF aH aG aE) ?_ ?_
   ·refine Ak ?_
    have m:=m.fr 2
    have m:Mem W ao w (ib aa 32 [sn]::ib ac 32 [ap]::az::aq::H):=m.fr 2
    refine AK (λaI a w=>∃aJ:LI,∃aK:Int,(aJ,aK)=aI∧∃(aL:GH) (aM:Value) (aN:Itm),GLe ao aL∧Fr a 39 [(0,v0),(1,v1),(4,(pb aa)),(5,(pb ac)),(6,(iv am)),(7,aM),(8,(iv aK))]∧Mem W aL w (ib aa 32 [sn]::ib ac 32 [ap]::aN::aq::H)∧Ow R0 2 aL aN aM aJ) aD ⟨_,_,Z,_,aA,az,gr,f.k Z,m,aB⟩ ?_
    clear aD f m
    rintro aI aO aP aQ a w ⟨aJ,aK,rfl,aL,aM,aN,aR,f,m,aS⟩
    have h0:=rd1 aR h0
    have h1:=rd1 aR h1
    refine Ah (Ag ?_)
    refine Aa f Z λa f=>Aa f Z λa f=>Bf underlying28 f Z Z h0 λa f=>Ai f Z Z AV λa f=>Ab ?_
    rcases Af aP with⟨aT,aP⟩|⟨aT,aP⟩
    ·refine Al f Z aT ?_
     refine An ?_
     refine Ah (Ak (Ag ?_))
     refine Aa f Z λa f=>Aa f Z λa f=>Aa f Z λa f=>Aa f Z λa f=> ?_
     have⟨aU,aV,aP⟩:=bind_some aP
     refine Bk f Z call69 (Wk.F0 m h0 h1 aV) λaW w aX m a f=> ?_
     have aS:=od1 aX aS
     refine Ab ?_
     rcases Af aP with⟨aY,aP⟩|⟨aY,aP⟩
     ·refine Al f Z aY ?_
      refine Ao ?_
      refine Aa f Z λa f=>Aa f Z λa f=>BQ (R:=R0) (xs:=([aK]:LI)) (RI.one _) m T28 f Z Z Z (by decide) (All2.cons Z (All2.nil _)) λaZ a0 w a m a1 f=> ?_
      have⟨a2,a3,aP⟩:=bind_some aP
      refine BJ (RI.one _) 3 m aS Z T28 Z (by decide) f Z Z Z (Ow.src (j:=0) a1 m Z) a3 λa4 a5 w a m a6 f=>Ac f Z λa f=>Ab (Ao ?_)
      refine Aa f Z λa f=>Ai f Z Z As λa f=>Ac f Z λa f=>Ab ?_
      have m:=m.fr 4
      have m:=m.fr 4
      have m:Mem W aW w (ib ac 32 [ap]::a4::aq::aZ::ib aa 32 [sn]::H):=m.fr 4
      have m:=m.fr 4
      have m:Mem W aW w (ib aa 32 [sn]::ib ac 32 [ap]::a4::aq::H):=m.eraseAt 4
      obtain rfl:=sj aP
      exact⟨_,Z,_,_,Z,_,a5,a4,(gt aR aX),f.k Z,m,a6⟩
     ·refine Aj f Z aY ?_
      refine An ?_
      refine Ao ?_
      refine Aa f Z λa f=>Ai f Z Z As λa f=>Ac f Z λa f=>Ab ?_
      obtain rfl:=sj aP
      exact⟨_,Z,_,_,Z,_,aM,aN,(gt aR aX),f.k Z,m,aS⟩
    ·refine Aj f Z aT ?_
     refine AG Z ?_
     obtain rfl:=sj aP
     obtain rfl:=aQ _ rfl
     exact⟨_,Z,_,aM,aN,aR,f.k Z,m,aS⟩
   ·rintro a w ⟨aE,rfl,aF,aG,aH,a7,f,m,a8⟩
    have ax:=Ow.mono (RSl.mono (RI.mono _)) a7 ax
    refine Ao ?_
    refine BC underlying32 Z sizeOf30 f Z λa f=>A5 1 0 m B4 f Z Z Z Z λa f=>Aa f Z λa f=> ?_
    have m:Mem W aF w (aH::ib aa 32 [sn]::ib ac 32 [ap]::aq::H):=m.fr 2
    obtain⟨a9,ba,m,bb⟩:=Ow.stamp (RI.mono _) a8 m
    have ax:=Ow.mono (RSl.mono (RI.mono _)) ba ax
    refine BQ (R:=R1) (xs:=([aE]:LL)) (RSl.one _) m T30 f Z Z Z (by decide) (All2.cons bb (All2.nil _)) λbc bd w a m be f=> ?_
    have⟨bf,bg,au⟩:=bind_some au
    refine BJ (RSl.one _) 3 m ax Z T30 Z (by decide) f Z Z Z (Ow.src (j:=0) be m Z) bg λbh bi w a m bj f=>BC underlying32 Z sizeOf30 f Z λa f=>A3 2 0 (ds:=[bi]) m sizeOf30 f Z Z (Ow.cells 3 m bj Z) (Ap (Ow.one1 3 m bj Z) AH) Z (lb Z) Z λw m=>Ab (Ao ?_)
    refine Aa f Z λa f=>Ai f Z Z As λa f=>Ac f Z λa f=>Ab ?_
    have m:=m.fr 3
    have m:=m.fr 3
    have m:Mem W a9 w (ib aa 32 [sn]::ib ac 32 [bi]::bh::bc::H):=m.fr 3
    have m:=m.eraseAt 3
    obtain rfl:=sj au
    exact⟨_,Z,_,_,Z,_,bi,bh,(gt aw (gt a7 ba)),f.k Z,m,bj⟩
  ·refine Aj f Z ay ?_
   refine AG Z ?_
   obtain rfl:=sj au
   obtain rfl:=av _ rfl
   exact⟨_,Z,_,ap,aq,aw,f.k Z,m,ax⟩
 ·rintro a w ⟨ah,rfl,ai,aj,ak,bk,f,m,bl⟩
  refine Ag ?_
  refine A9 1 0 (ds:=[aj]) m Bn f Z Z Z Z Z λa f=>A3 0 0 (ds:=[aj]) m sizeOf32 f Z Z Z (Ap (Ow.one1 2 m bl Z) AH) Z (lb Z) Z λw m=>Ab ?_
  refine Ar ?_
  have bm:=CZ (P:=prog) 0 m Bn f (s:=4) rfl rfl rfl
  have m:=m.fr 2
  have m:=m.eraseAt 2
  have m:=m.eraseAt 1
  obtain rfl:=sj hd
  exact⟨[(.agg #[aj])],⟨bm,trivial⟩,f.d,_,[ak],bk,m,_,_,Z,Z,bl⟩
theorem Wk.i {v0 v1:Value}{x0 x1:LI}(m:Mem W G w (H))(h0:R1 G v0 x0)(h1:R1 G v1 x1){y:Bool}(hd:D.i x0 x1=some y):
  Calls prog 99 #[v0,v1] w (Res W G H (λ_ Ho v=>Ho=[]∧v=(.bool y))):=by
 refine Au (args:=[v0,v1]) (N:=26) [.tmp 4] func99 Z Z (lb Z) Z λa f=> ?_
 unfold D.i at hd
 refine Ag ?_
 refine Ac f Z λa f=>Ab (Ah (Ag ?_))
 refine Aa f Z λa f=>Bf underlying28 f Z Z h0 λa f=>Aa f Z λa f=>Bf underlying28 f Z Z h1 λa f=>Ai f Z Z C5 λa f=>Ab ?_
 rcases Af hd with⟨aa,hd⟩|⟨aa,hd⟩
 ·refine Al f Z aa ?_
  refine Ag ?_
  refine Ac f Z λa f=>Ab ?_
  refine Ar ?_
  obtain rfl:=sj hd
  exact⟨[(.bool false)],f.g Z,f.d,_,[],gr,m,Z,Z⟩
 ·refine Aj f Z aa ?_
  refine An ?_
  refine Ah (Ag ?_)
  refine Ac f Z λa f=>Ab ?_
  have⟨ab,ac,hd⟩:=bind_some hd
  refine AJ (λa w=>∃q_36':Unit,ab= .inl q_36'∧∃(ad:GH),GLe G ad∧Fr a 26 []∧Mem W ad w (H)) ?_ ?_
  ·refine Ak ?_
   refine AK (λae a w=>∃af:Int,af=ae∧∃(ag:GH),GLe G ag∧Fr a 26 [(0,v0),(1,v1),(5,(iv af))]∧Mem W ag w (H)) ac ⟨_,Z,_,gr,f.k Z,m⟩ ?_
   clear ac f m
   rintro ae ah ai aj a w ⟨af,rfl,ag,ak,f,m⟩
   have h0:=rd1 ak h0
   have h1:=rd1 ak h1
   refine Ah (Ag ?_)
   refine Aa f Z λa f=>Aa f Z λa f=>Bf underlying28 f Z Z h0 λa f=>Ai f Z Z AV λa f=>Ab ?_
   rcases Af ai with⟨al,ai⟩|⟨al,ai⟩
   ·refine Al f Z al ?_
    refine An ?_
    refine Ah (Ak (Ah ?_))
    refine A4 9 Az (by kernel_rfl) m ?_
    refine Ae 0 9 Z f Z λa f=>Ae 1 9 Z f Z λa f=> ?_
    have⟨am,an,ai⟩:=bind_some ai
    refine Cy 2 9 T28 h0 an Z f Z Z λao ap a aq ar f=> ?_
    subst ar
    refine Cv 3 9 Pl2 aq Z f Z λa f=>Ae 4 9 Z f Z λa f=>Ae 5 9 Z f Z λa f=> ?_
    have⟨au,av,ai⟩:=bind_some ai
    refine Cy 6 9 T28 h1 av Z f Z Z λaw ax a ay az f=> ?_
    subst az
    refine Cv 7 9 Pl2 ay Z f Z λa f=>q_p 8 9 Z f (λ_=>AB (f.e Z) (f.e Z) C5) λa f=>AN λaA w aB m=>Ab ?_
    rcases Af ai with⟨aC,ai⟩|⟨aC,ai⟩
    ·refine Al f Z aC ?_
     refine Ag ?_
     refine Ac f Z λa f=>Ab ?_
     refine Ar ?_
     obtain rfl:=sj ai
     obtain rfl:=aj _ rfl
     obtain rfl:=sj hd
     exact⟨[(.bool false)],f.g Z,f.d,_,[],(gt ak aB),m,Z,Z⟩
    ·refine Aj f Z aC ?_
     refine An ?_
     refine Ao ?_
     refine Aa f Z λa f=>Ai f Z Z As λa f=>Ac f Z λa f=>Ab ?_
     obtain rfl:=sj ai
     exact⟨_,Z,_,Z,_,(gt ak aB),f.k Z,m⟩
   ·refine Aj f Z al ?_
    refine AG Z ?_
    obtain rfl:=sj ai
    obtain rfl:=aj _ rfl
    exact⟨_,Z,_,ak,f.weak trivial,m⟩
  ·rintro a w ⟨_,rfl,ad,aD,f,m⟩
   refine Ag ?_
   refine Ac f Z λa f=>Ab ?_
   refine Ar ?_
   obtain rfl:=sj hd
   exact⟨[(.bool true)],f.g Z,f.d,_,[],aD,m,Z,Z⟩
theorem Wk.l1 {aa ab:Value}{ac ad:LL}(m:Mem W G w (H))(ae:R2 G aa ac)(af:R2 G ab ad){y:Bool}(hd:D.l1 ac ad=some y):
  Calls prog 68 #[(.agg #[aa]),(.agg #[ab])] w (Res W G H (λ_ Ho v=>Ho=[]∧v=(.bool y))):=by
 refine Au (args:=[(.agg #[aa]),(.agg #[ab])]) (N:=32) [.tmp 4] func68 Z Z (lb Z) Z λa f=> ?_
 unfold D.l1 at hd
 refine Ag ?_
 refine BN (cs:=[aa]) m f Z Z Z λag w a m f=>BN (cs:=[ab]) m f Z Z Z λah w a m f=>Ac f Z λa f=>Ab (Ah (Ag ?_))
 refine BC underlying32 Z sizeOf30 f Z λa f=>A5 1 0 m B4 f Z Z Z Z λa f=>Bf underlying30 f Z Z ae λa f=>BC underlying32 Z sizeOf30 f Z λa f=>A5 0 0 m B4 f Z Z Z Z λa f=>Bf underlying30 f Z Z af λa f=>Ai f Z Z C5 λa f=>Ab ?_
 rcases Af hd with⟨ai,hd⟩|⟨ai,hd⟩
 ·refine Al f Z ai ?_
  refine Ag ?_
  refine Ac f Z λa f=>Ab ?_
  refine Ar ?_
  have m:Mem W G w H:=Mem.drop (H':=[ib ah 32 [ab],ib ag 32 [aa]]) m
  obtain rfl:=sj hd
  exact⟨[(.bool false)],f.g Z,f.d,_,[],gr,m,Z,Z⟩
 ·refine Aj f Z ai ?_
  refine An ?_
  refine Ah (Ag ?_)
  refine Ac f Z λa f=>Ab ?_
  have⟨aj,ak,hd⟩:=bind_some hd
  refine AJ (λa w=>∃q_46':Unit,aj= .inl q_46'∧∃(al:GH),GLe G al∧Fr a 32 []∧Mem W al w (H)) ?_ ?_
  ·refine Ak ?_
   have m:=m.fr 1
   refine AK (λam a w=>∃an:Int,an=am∧∃(ao:GH),GLe G ao∧Fr a 32 [(2,(pb ag)),(3,(pb ah)),(5,(iv an))]∧Mem W ao w (ib ag 32 [aa]::ib ah 32 [ab]::H)) ak ⟨_,Z,_,gr,f.k Z,m⟩ ?_
   clear ak f m
   rintro am ap aq ar a w ⟨an,rfl,ao,au,f,m⟩
   have ae:=rd2 au ae
   have af:=rd2 au af
   refine Ah (Ag ?_)
   refine Aa f Z λa f=>BC underlying32 Z sizeOf30 f Z λa f=>A5 0 0 m B4 f Z Z Z Z λa f=>Bf underlying30 f Z Z ae λa f=>Ai f Z Z AV λa f=>Ab ?_
   rcases Af aq with⟨av,aq⟩|⟨av,aq⟩
   ·refine Al f Z av ?_
    refine An ?_
    refine Ah (Ak (Ah ?_))
    refine A4 12 Az (by kernel_rfl) m ?_
    refine Cf 0 12 underlying32 Z sizeOf30 Z f Z λa f=>BX 1 12 0 B4 Z Z Z f Z λa f=>Ae 2 12 Z f Z λa f=> ?_
    have⟨aw,ax,aq⟩:=bind_some aq
    refine Cy 3 12 T30 ae ax Z f Z Z λay az a aA aB f=>Cv 4 12 CW aA Z f Z λa f=>Cf 5 12 underlying32 Z sizeOf30 Z f Z λa f=>BX 6 12 1 B4 Z Z Z f Z λa f=>Ae 7 12 Z f Z λa f=> ?_
    have⟨aC,aD,aq⟩:=bind_some aq
    refine Cy 8 12 T30 af aD Z f Z Z λaE aF a aG aH f=>Cv 9 12 CW aG Z f Z λa f=> ?_
    have⟨aI,aJ,aq⟩:=bind_some aq
    refine Bu (i:=10) 12 Z (by kernel_rfl) Z f Z Z Z call99 (λ_ _ w aK m=>Wk.i m (rd1 aK aB) (rd1 aK aH) aJ) λa f=>q_p 11 12 Z f (λ_=>Bg (f.e Z)) λa f=>AN λaL w aM m=>Ab ?_
    rcases Af aq with⟨aN,aq⟩|⟨aN,aq⟩
    ·refine Al f Z aN ?_
     refine Ag ?_
     refine Ac f Z λa f=>Ab ?_
     refine Ar ?_
     have m:Mem W aL w H:=Mem.drop (H':=[ib ag 32 [aa],ib ah 32 [ab]]) m
     obtain rfl:=sj aq
     obtain rfl:=ar _ rfl
     obtain rfl:=sj hd
     exact⟨[(.bool false)],f.g Z,f.d,_,[],(gt au aM),m,Z,Z⟩
    ·refine Aj f Z aN ?_
     refine An ?_
     refine Ao ?_
     refine Aa f Z λa f=>Ai f Z Z As λa f=>Ac f Z λa f=>Ab ?_
     obtain rfl:=sj aq
     exact⟨_,Z,_,Z,_,(gt au aM),f.k Z,m⟩
   ·refine Aj f Z av ?_
    refine AG Z ?_
    have m:Mem W ao w H:=Mem.drop (H':=[ib ag 32 [aa],ib ah 32 [ab]]) m
    obtain rfl:=sj aq
    obtain rfl:=ar _ rfl
    exact⟨_,Z,_,au,f.weak trivial,m⟩
  ·rintro a w ⟨_,rfl,al,aO,f,m⟩
   refine Ag ?_
   refine Ac f Z λa f=>Ab ?_
   refine Ar ?_
   obtain rfl:=sj hd
   exact⟨[(.bool true)],f.g Z,f.d,_,[],aO,m,Z,Z⟩
theorem Wk.u0 {aa ab:Value}{ac ad:LL}(m:Mem W G w (H))(ae:R2 G aa ac)(af:R2 G ab ad){y:Bool}(hd:D.u0 ac ad=some y):
  Calls prog 36 #[(.agg #[aa]),(.agg #[ab])] w (Res W G H (λ_ Ho v=>Ho=[]∧v=(.bool y))):=by
 refine Au (args:=[(.agg #[aa]),(.agg #[ab])]) (N:=16) [.tmp 4] func36 Z Z (lb Z) Z λa f=> ?_
 unfold D.u0 at hd
 refine Ag ?_
 refine BN (cs:=[aa]) m f Z Z Z λag w a m f=>BN (cs:=[ab]) m f Z Z Z λah w a m f=>Ac f Z λa f=>Ay ?_
 refine A9 1 0 (ds:=[aa]) m Bn f Z Z Z Z Z λa f=> ?_
 have⟨ai,aj,hd⟩:=bind_some hd
 refine Bk f Z call34 (Wk.n m ae aj) λak w al m a f=> ?_
 have ae:=rd2 al ae
 have af:=rd2 al af
 refine Aa f Z λa f=> ?_
 have⟨am,an,hd⟩:=bind_some hd
 refine Br 3 (λa w=>∃ao,GLe ak ao∧Mem W ao w (ib ah 32 [ab]::ib ag 32 [aa]::H)∧Fr a 16 [(0,(.agg #[aa])),(1,(.agg #[ab])),(2,(pb ag)),(3,(pb ah)),(5,(.agg #[aa])),(6,(.bool ai)),(7,(.bool ai)),(10,(.bool am))]) ?_ ?_
 ·rcases Af an with⟨ap,an⟩|⟨ap,an⟩
  ·refine AD f ap ?_
   refine A9 0 0 (ds:=[ab]) m Bn f Z Z Z Z Z λa f=>AD f ap ?_
   have⟨aq,ar,an⟩:=bind_some an
   refine Bk f Z call34 (Wk.n m af ar) λau w av m a f=>l_o f (AS (f.e Z) ap (f.e Z)) λa f=> ?_
   obtain rfl:=sj an
   exact⟨_,av,m,f.k Z⟩
  ·refine AE f ap λa f=> ?_
   refine AE f ap λa f=>l_o f (AR (f.e Z) ap (f.e Z)) λa f=> ?_
   obtain rfl:=sj an
   exact⟨_,gr,m,f.k Z⟩
 ·rintro a w ⟨ao,aw,m,f⟩
  have ae:=rd2 aw ae
  have af:=rd2 aw af
  refine Aa f Z λa f=> ?_
  have⟨ax,ay,hd⟩:=bind_some hd
  refine Br 4 (λa w=>∃az,GLe ao az∧Mem W az w (ib ah 32 [ab]::ib ag 32 [aa]::H)∧Fr a 16 [(0,(.agg #[aa])),(1,(.agg #[ab])),(2,(pb ag)),(3,(pb ah)),(5,(.agg #[aa])),(6,(.bool ai)),(7,(.bool ai)),(10,(.bool am)),(11,(.bool am)),(15,(.bool ax))]) ?_ ?_
  ·rcases Af ay with⟨aA,ay⟩|⟨aA,ay⟩
   ·refine AD f aA ?_
    refine A9 1 0 (ds:=[aa]) m Bn f Z Z Z Z Z λa f=>AD f aA ?_
    refine A9 0 0 (ds:=[ab]) m Bn f Z Z Z Z Z λa f=>AD f aA ?_
    have⟨aB,aC,ay⟩:=bind_some ay
    refine Bk f Z call68 (Wk.l1 m ae af aC) λaD w aE m a f=>l_o f (AS (f.e Z) aA (f.e Z)) λa f=> ?_
    obtain rfl:=sj ay
    exact⟨_,aE,m,f.k Z⟩
   ·refine AE f aA λa f=> ?_
    refine AE f aA λa f=>AE f aA λa f=>l_o f (AR (f.e Z) aA (f.e Z)) λa f=> ?_
    obtain rfl:=sj ay
    exact⟨_,gr,m,f.k Z⟩
  ·rintro a w ⟨az,aF,m,f⟩
   refine Ac f Z λa f=>Ab ?_
   refine Ar ?_
   have m:Mem W az w H:=Mem.drop (H':=[ib ah 32 [ab],ib ag 32 [aa]]) m
   obtain rfl:=sj hd
   exact⟨[(.bool ax)],f.g Z,f.d,_,[],(gt al (gt aw aF)),m,Z,Z⟩
theorem Wk.s {aa v1 v2:Value}{ab:LL}{x1 x2:LI}(m:Mem W G w (H))(ac:R2 G aa ab)(h1:R1 G v1 x1)(h2:R1 G v2 x2){y:Bool}(hd:D.s ab x1 x2=some y):
  Calls prog 12 #[(.agg #[aa]),v1,v2] w (Res W G H (λ_ Ho v=>Ho=[]∧v=(.bool y))):=by
 refine Au (args:=[(.agg #[aa]),v1,v2]) (N:=21) [.tmp 6] func12 Z Z (lb Z) Z λa f=> ?_
 unfold D.s at hd
 refine Ag ?_
 refine BN (cs:=[aa]) m f Z Z Z λad w a m f=>Ac f Z λa f=>Ab (Ah ?_)
 refine A4 15 Az (by kernel_rfl) m ?_
 refine DQ (i:=0) (ds:=[aa]) 15 0 Bn Z Z Z Z (by kernel_rfl) Z f Z Z Z λa f=> ?_
 have⟨ae,af,hd⟩:=bind_some hd
 refine Bu (i:=1) 15 Z (by kernel_rfl) Z f Z Z Z call34 (λ_ _ w ag m=>Wk.n m (rd2 ag ac) af) λa f=>Ae 2 15 Z f Z λa f=> ?_
 have⟨ah,ai,hd⟩:=bind_some hd
 refine BR (fuel':=8) (listed':= #[true,true,true,true,true,true,true,false,false,false,false,false,false,false,false]) (λa=>Fr a 21 [(0,(.agg #[aa])),(1,v1),(2,v2),(3,(pb ad)),(7,(.agg #[aa])),(8,(.bool ae)),(9,(.bool ae)),(13,(.bool ah))]) ?_ ?_
 ·intro a f
  refine Ae 7 15 Z f Z λa f=> ?_
  rcases Af hd with⟨aj,hd⟩|⟨aj,hd⟩
  ·refine DQ (i:=8) (ds:=[aa]) 15 0 Bn Z Z Z Z (by kernel_rfl) Z f (AC f Z Z Z aj) Z Z λa f=> ?_
   refine Ae (hw:=wo f aj) 9 15 Z f Z λa f=>Ae (hw:=wo f aj) 10 15 Z f Z λa f=>CX 11 Z λak w al m am am=> ?_
   have ac:=rd2 al ac
   have h1:=rd1 al h1
   have h2:=rd1 al h2
   refine AD f aj ?_
   have⟨an,ao,hd⟩:=bind_some hd
   refine AT f Z call37 (Wk.D0 m h1 h2 ao) λap aq ar w au m av a f=> ?_
   obtain⟨aw,ax,rfl,rfl,ay⟩:=av
   have ac:=rd2 au ac
   refine Ab ?_
   refine am aq [ax] _ _ au m ?_
   refine CX 12 Z λaz w aA m aB aB=> ?_
   have ac:=rd2 aA ac
   have ay:=Ow.mono (RSl.mono (RI.mono _)) aA ay
   refine AD f aj ?_
   have⟨aC,aD,hd⟩:=bind_some hd
   refine AT f Z call36 (Ow.lendCall (RSl.mono (RI.mono _)) 0 ay m Z (λaE aF m aG=>Wk.u0 m (rd2 aF ac) aG aD) (λ_ _ _ _ h=>h)) λaH aI aJ w aK m aL a f=> ?_
   obtain⟨rfl,rfl⟩:=aL
   refine Ab ?_
   refine aB aI [ax] _ _ aK m ?_
   refine q_p 13 15 Z f (λ_=>AS (f.e Z) aj (f.e Z)) λa f=>q_p 14 15 Z f (λ_=>Cb (f.e Z)) λa f=>AN λaM w aN m=>Ab ?_
   refine Ar ?_
   have m:Mem W aM w H:=Mem.drop (H':=[ax,ib ad 32 [aa]]) m
   obtain rfl:=sj hd
   exact⟨[(.bool aC)],f.g Z,f.d,_,[],(gt al (gt au (gt aA (gt aK aN)))),m,Z,Z⟩
  ·refine Am 8 15 Z f aj λa f=> ?_
   refine Am 9 15 Z f aj λa f=>Am 10 15 Z f aj λa f=>Am 11 15 Z f aj λa f=>Am 12 15 Z f aj λa f=>q_p 13 15 Z f (λ_=>AR (f.e Z) aj (f.e Z)) λa f=>q_p 14 15 Z f (λ_=>Cb (f.e Z)) λa f=>AN λaO w aP m=>Ab ?_
   refine Ar ?_
   have m:Mem W aO w H:=Mem.drop (H':=[ib ad 32 [aa]]) m
   obtain rfl:=sj hd
   exact⟨[(.bool false)],f.g Z,f.d,_,[],aP,m,Z,Z⟩
 ·intro aQ
  rcases Af ai with⟨aR,ai⟩|⟨aR,ai⟩
  ·refine Ae (hw:=wo f aR) 3 15 Z f Z λa f=> ?_
   refine Ae (hw:=wo f aR) 4 15 Z f Z λa f=> ?_
   have⟨aS,aT,ai⟩:=bind_some ai
   refine Bu (i:=5) 15 Z (by kernel_rfl) Z f (AC f Z Z Z aR) Z Z call35 (λ_ _ w aU m=>Wk.b1 m (rd1 aU h1) (rd1 aU h2) aT) λa f=>q_p 6 15 Z f (λ_=>AS (f.e Z) aR (f.e Z)) λa f=> ?_
   obtain rfl:=sj ai
   exact aQ _ (f.k Z)
  ·refine Am 3 15 Z f aR λa f=> ?_
   refine Am 4 15 Z f aR λa f=>Am 5 15 Z f aR λa f=>q_p 6 15 Z f (λ_=>AR (f.e Z) aR (f.e Z)) λa f=> ?_
   obtain rfl:=sj ai
   exact aQ _ (f.k Z)
theorem Wk.L0 {v0 v1:Value}{x0 x1:LL}(m:Mem W G w (H))(h0:R2 G v0 x0)(h1:R2 G v1 x1){y:Bool}(hd:D.L0 x0 x1=some y):
  Calls prog 70 #[v0,v1,(.func (.func 71) #[] #[])] w (Res W G H (λ_ Ho v=>Ho=[]∧v=(.bool y))):=by
 refine Au (args:=[v0,v1,(.func (.func 71) #[] #[])]) (N:=32) [.tmp 6] func70 Z Z (lb Z) Z λa f=> ?_
 unfold D.L0 at hd
 refine Ag ?_
 refine Ac f Z λa f=>Ab (Ah (Ag ?_))
 refine Aa f Z λa f=>Bf underlying30 f Z Z h0 λa f=>Aa f Z λa f=>Bf underlying30 f Z Z h1 λa f=>Ai f Z Z C5 λa f=>Ab ?_
 rcases Af hd with⟨aa,hd⟩|⟨aa,hd⟩
 ·refine Al f Z aa ?_
  refine Ag ?_
  refine Ac f Z λa f=>Ab ?_
  refine Ar ?_
  obtain rfl:=sj hd
  exact⟨[(.bool false)],f.g Z,f.d,_,[],gr,m,Z,Z⟩
 ·refine Aj f Z aa ?_
  refine An ?_
  refine Ah (Ag ?_)
  refine Aa f Z λa f=>Bf underlying30 f Z Z h0 λa f=>Aa f Z λa f=>Ab ?_
  have⟨ab,ac,hd⟩:=bind_some hd
  refine AJ (λa w=>∃q_46':Unit,ab= .inl q_46'∧∃(ad:GH),GLe G ad∧Fr a 32 []∧Mem W ad w (H)) ?_ ?_
  ·refine Ak ?_
   refine AK (λae a w=>∃af:Int,af=ae∧∃(ag:GH),GLe G ag∧Fr a 32 [(1,v1),(2,(.func (.func 71) #[] #[])),(15,v0),(16,(iv (x0.length:Int))),(17,(iv af))]∧Mem W ag w (H)) ac ⟨_,Z,_,gr,f.k Z,m⟩ ?_
   clear ac f m
   rintro ae ah ai aj a w ⟨af,rfl,ag,ak,f,m⟩
   have h1:=rd2 ak h1
   have h0:=rd2 ak h0
   refine Ag ?_
   refine Ai f Z Z AV λa f=>Ab (Ah ?_)
   rcases Af ai with⟨al,ai⟩|⟨al,ai⟩
   ·refine Al f Z al ?_
    refine An ?_
    refine Ah (Ak (Ag ?_))
    refine Aa f Z λa f=> ?_
    have⟨am,an,ai⟩:=bind_some ai
    refine Cc T30 f Z Z Z h0 an λao ap a aq ar f=>Bl m CW f Z Z aq λa f=>Ac f Z λa f=>Ac f Z λa f=>Ay ?_
    refine Aa f Z λa f=>Aa f Z λa f=> ?_
    have⟨au,av,ai⟩:=bind_some ai
    refine Cc T30 f Z Z Z h1 av λaw ax a ay az f=>Bl m CW f Z Z ay λa f=>Ac f Z λa f=>Ay ?_
    refine Aa f Z λa f=>Aa f Z λa f=>Aa f Z λa f=> ?_
    have⟨aA,aB,ai⟩:=bind_some ai
    refine l_resv0 f Z Z Z call71 (Wk.E0 m ar az aB) λaC aD aE w aF m aG a f=> ?_
    obtain⟨rfl,rfl⟩:=aG
    refine l_o f (Bg (f.e Z)) λa f=>Ab ?_
    rcases Af ai with⟨aH,ai⟩|⟨aH,ai⟩
    ·refine Al f Z aH ?_
     refine Ag ?_
     refine Ac f Z λa f=>Ab ?_
     refine Ar ?_
     obtain rfl:=sj ai
     obtain rfl:=aj _ rfl
     obtain rfl:=sj hd
     exact⟨[(.bool false)],f.g Z,f.d,_,[],(gt ak aF),m,Z,Z⟩
    ·refine Aj f Z aH ?_
     refine An ?_
     refine Ao ?_
     refine Ai f Z Z As λa f=>Aa f Z λa f=>Ab ?_
     obtain rfl:=sj ai
     exact⟨_,Z,_,Z,_,(gt ak aF),f.k Z,m⟩
   ·refine Aj f Z al ?_
    refine AG Z ?_
    obtain rfl:=sj ai
    obtain rfl:=aj _ rfl
    exact⟨_,Z,_,ak,f.weak trivial,m⟩
  ·rintro a w ⟨_,rfl,ad,aI,f,m⟩
   refine Ag ?_
   refine Ac f Z λa f=>Ab ?_
   refine Ar ?_
   obtain rfl:=sj hd
   exact⟨[(.bool true)],f.g Z,f.d,_,[],aI,m,Z,Z⟩
theorem Wk.n0 {aa ab:Value}{ac ad:LL}(m:Mem W G w (H))(ae:R2 G aa ac)(af:R2 G ab ad){y:Bool}(hd:D.n0 ac ad=some y):
  Calls prog 38 #[(.agg #[aa]),(.agg #[ab])] w (Res W G H (λ_ Ho v=>Ho=[]∧v=(.bool y))):=by
 refine Au (args:=[(.agg #[aa]),(.agg #[ab])]) (N:=18) [.tmp 4] func38 Z Z (lb Z) Z λa f=> ?_
 unfold D.n0 at hd
 refine Ag ?_
 refine BN (cs:=[aa]) m f Z Z Z λag w a m f=>BN (cs:=[ab]) m f Z Z Z λah w a m f=>Ac f Z λa f=>Ay ?_
 refine A9 1 0 (ds:=[aa]) m Bn f Z Z Z Z Z λa f=> ?_
 have⟨ai,aj,hd⟩:=bind_some hd
 refine Bk f Z call27 (Wk.e m ae aj) λak w al m a f=> ?_
 have ae:=rd2 al ae
 have af:=rd2 al af
 refine Aa f Z λa f=> ?_
 have⟨am,an,hd⟩:=bind_some hd
 refine Br 3 (λa w=>∃ao,GLe ak ao∧Mem W ao w (ib ah 32 [ab]::ib ag 32 [aa]::H)∧Fr a 18 [(0,(.agg #[aa])),(1,(.agg #[ab])),(2,(pb ag)),(3,(pb ah)),(5,(.agg #[aa])),(6,(.bool ai)),(7,(.bool ai)),(10,(.bool am))]) ?_ ?_
 ·rcases Af an with⟨ap,an⟩|⟨ap,an⟩
  ·refine AD f ap ?_
   refine A9 0 0 (ds:=[ab]) m Bn f Z Z Z Z Z λa f=>AD f ap ?_
   have⟨aq,ar,an⟩:=bind_some an
   refine Bk f Z call27 (Wk.e m af ar) λau w av m a f=>l_o f (AS (f.e Z) ap (f.e Z)) λa f=> ?_
   obtain rfl:=sj an
   exact⟨_,av,m,f.k Z⟩
  ·refine AE f ap λa f=> ?_
   refine AE f ap λa f=>l_o f (AR (f.e Z) ap (f.e Z)) λa f=> ?_
   obtain rfl:=sj an
   exact⟨_,gr,m,f.k Z⟩
 ·rintro a w ⟨ao,aw,m,f⟩
  have ae:=rd2 aw ae
  have af:=rd2 aw af
  refine Aa f Z λa f=> ?_
  have⟨ax,ay,hd⟩:=bind_some hd
  refine Br 6 (λa w=>∃az,GLe ao az∧Mem W az w (ib ah 32 [ab]::ib ag 32 [aa]::H)∧Fr a 18 [(0,(.agg #[aa])),(1,(.agg #[ab])),(2,(pb ag)),(3,(pb ah)),(5,(.agg #[aa])),(6,(.bool ai)),(7,(.bool ai)),(10,(.bool am)),(11,(.bool am)),(17,(.bool ax))]) ?_ ?_
  ·rcases Af ay with⟨aA,ay⟩|⟨aA,ay⟩
   ·refine AD f aA ?_
    refine BC underlying32 Z sizeOf30 f Z λa f=>AD f aA ?_
    refine A5 1 0 m B4 f Z Z Z Z λa f=>AD f aA ?_
    refine BC underlying32 Z sizeOf30 f Z λa f=>AD f aA ?_
    refine A5 0 0 m B4 f Z Z Z Z λa f=>AD f aA ?_
    have⟨aB,aC,ay⟩:=bind_some ay
    refine Bk f Z call70 (Wk.L0 m ae af aC) λaD w aE m a f=>l_o f (AS (f.e Z) aA (f.e Z)) λa f=> ?_
    obtain rfl:=sj ay
    exact⟨_,aE,m,f.k Z⟩
   ·refine AE f aA λa f=> ?_
    refine AE f aA λa f=>AE f aA λa f=>AE f aA λa f=>AE f aA λa f=>l_o f (AR (f.e Z) aA (f.e Z)) λa f=> ?_
    obtain rfl:=sj ay
    exact⟨_,gr,m,f.k Z⟩
  ·rintro a w ⟨az,aF,m,f⟩
   refine Ac f Z λa f=>Ab ?_
   refine Ar ?_
   have m:Mem W az w H:=Mem.drop (H':=[ib ah 32 [ab],ib ag 32 [aa]]) m
   obtain rfl:=sj hd
   exact⟨[(.bool ax)],f.g Z,f.d,_,[],(gt al (gt aw aF)),m,Z,Z⟩
end Go.Proofs.YtmkcbhidbdggiaaGreatDoor

set_option maxRecDepth 100000
namespace Go.Proofs.YtmkcbhidbdggiaaGreatDoor
open Go Go.Sx
open Go.Proofs.Tryz Go.Proofs.YtmkcbhidbdggiaaGreatDoor.Tryz IntKind
variable {W w : World} {G : GH} {H : List Itm}
theorem Wk.O0 {aa v1 v2:Value}{ab:LL}{x1 x2:LI}(hW:CI W)(m:Mem W G w (H))(ac:R2 G aa ab)(h1:R1 G v1 x1)(h2:R1 G v2 x2){y:Bool}(hd:D.O0 ab x1 x2=some y):
  Calls prog 13 #[(.agg #[aa]),v1,v2] w (Res W G H (λ_ Ho v=>Ho=[]∧v=(.bool y))):=by
 refine Au (args:=[(.agg #[aa]),v1,v2]) (N:=21) [.tmp 6] func13 Z Z (lb Z) Z λa f=> ?_
 unfold D.O0 at hd
 refine Ag ?_
 refine BN (cs:=[aa]) m f Z Z Z λad w a m f=>Ac f Z λa f=>Ay ?_
 refine Aa f Z λa f=>Aa f Z λa f=> ?_
 have⟨ae,af,hd⟩:=bind_some hd
 refine AT f Z call9 (Wk.O hW m h1 h2 af) λag ah ai w aj m ak a f=> ?_
 obtain⟨al,am,rfl,rfl,an⟩:=ak
 have ac:=rd2 aj ac
 refine Aa f Z λa f=>l_o f (AI (f.e Z) Z) λa f=>l_o f (AI (f.e Z) Z) λa f=>Bx (cs:=[sn]) zeroValue32 m f Z Z λao w a m f=>A3 0 0 (ds:=[al]) m sizeOf32 f Z Z Z (Ap (Ow.one1 1 m an Z) AH) Z (lb Z) Z λw m=>Ac f Z λa f=>Ay ?_
 refine Aa f Z λa f=>Aa f Z λa f=> ?_
 have⟨ap,aq,hd⟩:=bind_some hd
 refine Br 4 (λa w=>∃ar,GLe ah ar∧Mem W ar w (ib ao 32 [al]::am::ib ad 32 [aa]::H)∧Fr a 21 [(0,(.agg #[aa])),(1,v1),(2,v2),(3,(pb ad)),(7,(pb ao)),(8,(.bool ae.2)),(15,(.bool ae.2)),(16,(.bool ae.2)),(20,(.bool ap))]) ?_ ?_
 ·rcases Af aq with⟨au,aq⟩|⟨au,aq⟩
  ·refine AD f au ?_
   refine A9 2 0 (ds:=[aa]) m Bn f Z Z Z Z Z λa f=>AD f au ?_
   refine A9 0 0 (ds:=[al]) m Bn f Z Z Z Z Z λa f=>AD f au ?_
   have⟨av,aw,aq⟩:=bind_some aq
   refine AT f Z call38 (Ow.lendCall (RSl.mono (RI.mono _)) 1 an m Z (λax ay m az=>Wk.n0 m (rd2 ay ac) az aw) (λ_ _ _ _ h=>h)) λaA aB aC w aD m aE a f=> ?_
   obtain⟨rfl,rfl⟩:=aE
   refine l_o f (AS (f.e Z) au (f.e Z)) λa f=> ?_
   obtain rfl:=sj aq
   exact⟨_,aD,m,f.k Z⟩
  ·refine AE f au λa f=> ?_
   refine AE f au λa f=>AE f au λa f=>l_o f (AR (f.e Z) au (f.e Z)) λa f=> ?_
   obtain rfl:=sj aq
   exact⟨_,gr,m,f.k Z⟩
 ·rintro a w ⟨ar,aF,m,f⟩
  refine Ac f Z λa f=>Ab ?_
  refine Ar ?_
  have m:Mem W ar w H:=Mem.drop (H':=[ib ao 32 [al],am,ib ad 32 [aa]]) m
  obtain rfl:=sj hd
  exact⟨[(.bool ap)],f.g Z,f.d,_,[],(gt aj aF),m,Z,Z⟩
theorem Wk.N0 {x0:Int}(m:Mem W G w (H)){y:(LL)}(hd:D.N0 x0=some y):
  Calls prog 72 #[(iv x0)] w (Res W G H (λG' Ho v=>∃r0:Value,∃i0:Itm,Ho=[i0]∧v=(.agg #[r0])∧Ow R1 28 G' i0 r0 y)):=by
 refine Au (args:=[(iv x0)]) (N:=18) [.cell 2 32] func72 Z Z (lb Z) Z λa f=> ?_
 unfold D.N0 at hd
 refine Ag ?_
 refine Bx (cs:=[sn]) zeroValue32 m f Z Z λaa w a m f=>Ay ?_
 have ab:∀w,(Instr.build 32 #[]).run prog w= .ok (.agg #[sn]) w:=by intro w;simp[Instr.build,Instr.fill,Cd,BZ,BO,BS,BF,Ce]
 refine CG f Z Z ab λa f=>Bx (cs:=[sn]) zeroValue32 m f Z Z λac w a m f=>A3 0 0 (ds:=[sn]) m sizeOf32 f Z Z Z (Ap Z AH) Z (lb Z) Z λw m=>Ab (Ah (Ag ?_))
 refine Ac f Z λa f=>Ab ?_
 obtain⟨ad,m,ae⟩:=Ow.nil R1 28 m
 have⟨af,ag,hd⟩:=bind_some hd
 refine AJ (λa w=>∃ah:LL,ah=af∧∃(ai:GH) (aj:Value) (ak:Itm),GLe G ai∧Fr a 18 [(2,(pb aa)),(3,(pb ac))]∧Mem W ai w (ib aa 32 [sn]::ib ac 32 [aj]::ak::H)∧Ow R1 28 ai ak aj ah) ?_ ?_
 ·refine Ak ?_
  have m:=m.fr 1
  have m:=m.fr 2
  refine AK (λal a w=>∃am:Int,∃an:LL,(am,an)=al∧∃(ao:GH) (ap:Value) (aq:Itm),GLe G ao∧Fr a 18 [(0,(iv x0)),(2,(pb aa)),(3,(pb ac)),(4,(iv am))]∧Mem W ao w (ib aa 32 [sn]::ib ac 32 [ap]::aq::H)∧Ow R1 28 ao aq ap an) ag ⟨_,_,Z,_,sn,ad,gr,f.k Z,m,ae⟩ ?_
  clear ag f m
  rintro al ar au av a w ⟨am,an,rfl,ao,ap,aq,aw,f,m,ax⟩
  refine Ah (Ag ?_)
  refine Aa f Z λa f=>Aa f Z λa f=>Ai f Z Z AV λa f=>Ab ?_
  rcases Af au with⟨ay,au⟩|⟨ay,au⟩
  ·refine Al f Z ay ?_
   refine An ?_
   refine Ah (Ak (Ao ?_))
   refine BC underlying32 Z sizeOf30 f Z λa f=>A5 1 0 m B4 f Z Z Z Z λa f=>BQ (R:=R0) (xs:=([]:LI)) (RI.one _) m T28 f Z Z Z (by decide) (All2.nil _) λaz aA w a m aB f=> ?_
   obtain⟨aC,aD,m,aE⟩:=Ow.stamp (RI.mono _) aB m
   have ax:=Ow.mono (RSl.mono (RI.mono _)) aD ax
   refine BQ (R:=R1) (xs:=([([]:LI)]:LL)) (RSl.one _) m T30 f Z Z Z (by decide) (All2.cons aE (All2.nil _)) λaF aG w a m aH f=> ?_
   have⟨aI,aJ,au⟩:=bind_some au
   refine BJ (RSl.one _) 3 m ax Z T30 Z (by decide) f Z Z Z (Ow.src (j:=0) aH m Z) aJ λaK aL w a m aM f=>BC underlying32 Z sizeOf30 f Z λa f=>A3 2 0 (ds:=[aL]) m sizeOf30 f Z Z (Ow.cells 3 m aM Z) (Ap (Ow.one1 3 m aM Z) AH) Z (lb Z) Z λw m=>Ab (Ao ?_)
   refine Aa f Z λa f=>Ai f Z Z As λa f=>Ac f Z λa f=>Ab ?_
   have m:=m.fr 3
   have m:=m.fr 3
   have m:Mem W aC w (ib aa 32 [sn]::ib ac 32 [aL]::aK::aF::H):=m.fr 3
   have m:=m.eraseAt 3
   obtain rfl:=sj au
   exact⟨_,Z,_,_,Z,_,aL,aK,(gt aw aD),f.k Z,m,aM⟩
  ·refine Aj f Z ay ?_
   refine AG Z ?_
   obtain rfl:=sj au
   obtain rfl:=av _ rfl
   exact⟨_,Z,_,ap,aq,aw,f.k Z,m,ax⟩
 ·rintro a w ⟨ah,rfl,ai,aj,ak,aN,f,m,aO⟩
  refine Ag ?_
  refine A9 1 0 (ds:=[aj]) m Bn f Z Z Z Z Z λa f=>A3 0 0 (ds:=[aj]) m sizeOf32 f Z Z Z (Ap (Ow.one1 2 m aO Z) AH) Z (lb Z) Z λw m=>Ab ?_
  refine Ar ?_
  have aP:=CZ (P:=prog) 0 m Bn f (s:=2) rfl rfl rfl
  have m:=m.fr 2
  have m:=m.eraseAt 2
  have m:=m.eraseAt 1
  obtain rfl:=sj hd
  exact⟨[(.agg #[aj])],⟨aP,trivial⟩,f.d,_,[ak],aN,m,_,_,Z,Z,aO⟩
theorem Wk.J0 {aa:Value}{ab:LL}{x1 x2:Int}(m:Mem W G w (H))(ac:R2 G aa ab){y:Bool}(hd:D.J0 ab x1 x2=some y):
  Calls prog 73 #[(.agg #[aa]),(iv x1),(iv x2)] w (Res W G H (λ_ Ho v=>Ho=[]∧v=(.bool y))):=by
 refine Au (args:=[(.agg #[aa]),(iv x1),(iv x2)]) (N:=14) [.tmp 6] func73 Z Z (lb Z) Z λa f=> ?_
 unfold D.J0 at hd
 refine Ag ?_
 refine BN (cs:=[aa]) m f Z Z Z λad w a m f=>Ac f Z λa f=>Ay ?_
 refine BC underlying32 Z sizeOf30 f Z λa f=>A5 0 0 m B4 f Z Z Z Z λa f=>Aa f Z λa f=> ?_
 have⟨ae,af,hd⟩:=bind_some hd
 refine Cc T30 f Z Z Z ac af λag ah a ai aj f=>Bl m CW f Z Z ai λa f=>Aa f Z λa f=> ?_
 have⟨ak,al,hd⟩:=bind_some hd
 refine Bk f Z call66 (Wk.k m aj al) λam w an m a f=>Ac f Z λa f=>Ab ?_
 refine Ar ?_
 have m:Mem W am w H:=Mem.drop (H':=[ib ad 32 [aa]]) m
 obtain rfl:=sj hd
 exact⟨[(.bool ak)],f.g Z,f.d,_,[],an,m,Z,Z⟩
theorem Wk.e0 {v0:Value}{x0:LI}(m:Mem W G w (H))(h0:R1 G v0 x0){y:(LI)}(hd:D.e0 x0=some y):
  Calls prog 115 #[v0] w (Res W G H (λG' Ho v=>∃r0:Value,∃i0:Itm,Ho=[i0]∧r0=v∧Ow R0 2 G' i0 r0 y)):=by
 refine Au (args:=[v0]) (N:=6) [.tmp 2] func115 Z Z (lb Z) Z λa f=> ?_
 unfold D.e0 at hd
 refine Ag ?_
 refine Ac f Z λa f=>Ay ?_
 refine BQ (R:=R0) (xs:=([]:LI)) (RI.one _) m T28 f Z Z Z (by decide) (All2.nil _) λaa ab w a m ac f=>Aa f Z λa f=> ?_
 have⟨ad,ae,hd⟩:=bind_some hd
 refine BJ (RI.one _) 0 m ac Z T28 Z (by decide) f Z Z Z (h0.src m) ae λaf ag w a m ah f=>Ac f Z λa f=>Ab ?_
 refine Ar ?_
 obtain rfl:=sj hd
 exact⟨[ag],f.g Z,f.d,_,[af],gr,m,_,_,Z,Z,ah⟩
theorem Wk.I {v0:Value}{x0:LI}{x1:Int}(m:Mem W G w (H))(h0:R1 G v0 x0){y:(LI)}(hd:D.I x0 x1=some y):
  Calls prog 101 #[v0,(iv x1)] w (Res W G H (λG' Ho v=>∃r0:Value,Ho=[]∧r0=v∧R1 G' r0 y)):=by
 refine Au (args:=[v0,(iv x1)]) (N:=46) [.tmp 4] func101 Z Z (lb Z) Z λa f=> ?_
 unfold D.I at hd
 refine Ag ?_
 refine Ac f Z λa f=>Ay ?_
 refine Ac f Z λa f=>Ab (Ah ?_)
 have⟨aa,ab,hd⟩:=bind_some hd
 refine AJ (λa w=>∃ac:Int,ac=aa∧∃(ad:GH),GLe G ad∧Fr a 46 [(0,v0),(1,(iv x1)),(5,(iv ac))]∧Mem W ad w (H)) ?_ ?_
 ·refine Ak ?_
  refine AK (λae a w=>∃af:Int,af=ae∧∃(ag:GH),GLe G ag∧Fr a 46 [(0,v0),(1,(iv x1)),(5,(iv af))]∧Mem W ag w (H)) ab ⟨_,Z,_,gr,f.k Z,m⟩ ?_
  clear ab f m
  rintro ae ah ai aj a w ⟨af,rfl,ag,ak,f,m⟩
  have h0:=rd1 ak h0
  refine Ah (Ag ?_)
  refine Aa f Z λa f=>Aa f Z λa f=>Bf underlying28 f Z Z h0 λa f=>Ai f Z Z AV λa f=>Aa f Z λa f=> ?_
  have⟨al,am,ai⟩:=bind_some ai
  refine Br 7 (λa w=>∃an,GLe ag an∧Mem W an w (H)∧Fr a 46 [(0,v0),(1,(iv x1)),(5,(iv af)),(7,(iv af)),(8,v0),(9,(iv (x0.length:Int))),(10,(.bool (decide (af<(x0.length:Int))))),(11,(.bool (decide (af<(x0.length:Int))))),(18,(.bool al))]) ?_ ?_
  ·rcases Af am with⟨ao,am⟩|⟨ao,am⟩
   ·refine AD f ao ?_
    refine Aa f Z λa f=>AD f ao ?_
    refine Aa f Z λa f=>AD f ao ?_
    have⟨ap,aq,am⟩:=bind_some am
    refine Cc T28 f Z Z Z h0 aq λar au a av aw f=> ?_
    subst aw
    refine AD f ao ?_
    refine Bl m Pl2 f Z Z av λa f=>AD f ao ?_
    refine Aa f Z λa f=>AD f ao ?_
    refine Ai f Z Z AV λa f=>l_o f (AS (f.e Z) ao (f.e Z)) λa f=> ?_
    obtain rfl:=sj am
    exact⟨_,gr,m,f.k Z⟩
   ·refine AE f ao λa f=> ?_
    refine AE f ao λa f=>AE f ao λa f=>AE f ao λa f=>AE f ao λa f=>AE f ao λa f=>l_o f (AR (f.e Z) ao (f.e Z)) λa f=> ?_
    obtain rfl:=sj am
    exact⟨_,gr,m,f.k Z⟩
  ·rintro a w ⟨an,ax,m,f⟩
   refine Ab ?_
   rcases Af ai with⟨ay,ai⟩|⟨ay,ai⟩
   ·refine Al f Z ay ?_
    refine An ?_
    refine Ak (Ao ?_)
    refine Aa f Z λa f=>Ai f Z Z As λa f=>Ac f Z λa f=>Ab ?_
    obtain rfl:=sj ai
    exact⟨_,Z,_,Z,_,(gt ak ax),f.k Z,m⟩
   ·refine Aj f Z ay ?_
    refine AG Z ?_
    obtain rfl:=sj ai
    obtain rfl:=aj _ rfl
    exact⟨_,Z,_,(gt ak ax),f.k Z,m⟩
 ·rintro a w ⟨ac,rfl,ad,az,f,m⟩
  have h0:=rd1 az h0
  refine Ah (Ag ?_)
  refine Aa f Z λa f=>Aa f Z λa f=>Bf underlying28 f Z Z h0 λa f=>Ai f Z Z AV λa f=>Aa f Z λa f=> ?_
  have⟨aA,aB,hd⟩:=bind_some hd
  refine Br 7 (λa w=>∃aC,GLe ad aC∧Mem W aC w (H)∧Fr a 46 [(0,v0),(1,(iv x1)),(5,(iv ac)),(21,(iv ac)),(22,v0),(23,(iv (x0.length:Int))),(24,(.bool (decide (ac<(x0.length:Int))))),(25,(.bool (decide (ac<(x0.length:Int))))),(32,(.bool aA))]) ?_ ?_
  ·rcases Af aB with⟨aD,aB⟩|⟨aD,aB⟩
   ·refine AD f aD ?_
    refine Aa f Z λa f=>AD f aD ?_
    refine Aa f Z λa f=>AD f aD ?_
    have⟨aE,aF,aB⟩:=bind_some aB
    refine Cc T28 f Z Z Z h0 aF λaG aH a aI aJ f=> ?_
    subst aJ
    refine AD f aD ?_
    refine Bl m Pl2 f Z Z aI λa f=>AD f aD ?_
    refine Aa f Z λa f=>AD f aD ?_
    refine Ai f Z Z BT λa f=>l_o f (AS (f.e Z) aD (f.e Z)) λa f=> ?_
    obtain rfl:=sj aB
    exact⟨_,gr,m,f.k Z⟩
   ·refine AE f aD λa f=> ?_
    refine AE f aD λa f=>AE f aD λa f=>AE f aD λa f=>AE f aD λa f=>AE f aD λa f=>l_o f (AR (f.e Z) aD (f.e Z)) λa f=> ?_
    obtain rfl:=sj aB
    exact⟨_,gr,m,f.k Z⟩
  ·rintro a w ⟨aC,aK,m,f⟩
   have h0:=rd1 aK h0
   refine Ab ?_
   rcases Af hd with⟨aL,hd⟩|⟨aL,hd⟩
   ·refine Al f Z aL ?_
    refine Ag ?_
    refine Aa f Z λa f=>Ac f Z λa f=>Ab ?_
    refine Ar ?_
    obtain rfl:=sj hd
    exact⟨[v0],f.g Z,f.d,_,[],(gt az aK),m,_,Z,Z,h0⟩
   ·refine Aj f Z aL ?_
    refine An ?_
    refine Ag ?_
    refine Aa f Z λa f=>Aa f Z λa f=> ?_
    have⟨aM,aN,hd⟩:=bind_some hd
    refine ER T28 f Z Z h0 (.inl ⟨Z,Z⟩) (.inr ⟨_,_,Z,Z⟩) aN λaO a aP f=> ?_
    have⟨aQ,aR,hd⟩:=bind_some hd
    refine AT f Z call115 (Wk.e0 m aP aR) λaS aT aU w aV m aW a f=> ?_
    obtain⟨aX,aY,rfl,rfl,aZ⟩:=aW
    have h0:=rd1 aV h0
    refine Aa f Z λa f=>BQ (R:=R0) (xs:=([x1]:LI)) (RI.one _) m T28 f Z Z Z (by decide) (All2.cons Z (All2.nil _)) λa0 a1 w a m a2 f=> ?_
    have⟨a3,a4,hd⟩:=bind_some hd
    refine BJ (RI.one _) 1 m aZ Z T28 Z (by decide) f Z Z Z (Ow.src (j:=0) a2 m Z) a4 λa5 a6 w a m a7 f=>Ac f Z λa f=>Ay ?_
    refine Aa f Z λa f=>Aa f Z λa f=>Aa f Z λa f=> ?_
    have⟨a8,a9,hd⟩:=bind_some hd
    refine ER T28 f Z Z h0 (.inr ⟨_,_,Z,Z⟩) (.inl ⟨Z,Z⟩) a9 λba a bb f=> ?_
    have⟨bc,bd,hd⟩:=bind_some hd
    refine BJ (RI.one _) 1 m a7 Z T28 Z (by decide) f Z Z Z (bb.src m) bd λbe bf w a m bg f=>Ac f Z λa f=>Ab ?_
    refine Ar ?_
    have m:=m.fr 1
    obtain⟨bh,bi,m,bj⟩:=Ow.stamp (RI.mono _) bg m
    have m:Mem W bh w H:=Mem.drop (H':=[a0]) m
    obtain rfl:=sj hd
    exact⟨[bf],f.g Z,f.d,_,[],(gt az (gt aK (gt aV bi))),m,_,Z,Z,bj⟩
theorem Wk.p0 {aa:Value}{ab:Itm}{ac:LL}{x1 x2:Int}(m:Mem W G w (ab::H))(ad:Ow R1 28 G ab aa ac){y:(LL)}(hd:D.p0 ac x1 x2=some y):
  Calls prog 74 #[(.agg #[aa]),(iv x1),(iv x2)] w (Res W G H (λG' Ho v=>∃i0:Itm,Ho=[i0]∧v=(.agg #[aa])∧Ow R1 28 G' i0 aa y)):=by
 refine Au (args:=[(.agg #[aa]),(iv x1),(iv x2)]) (N:=30) [.cell 6 32] func74 Z Z (lb Z) Z λa f=> ?_
 unfold D.p0 at hd
 refine Ag ?_
 refine BN (cs:=[aa]) m f Z Z Z λae w a m f=>Bx (cs:=[sn]) zeroValue32 m f Z Z λaf w a m f=>Ab (Ah ?_)
 refine A4 11 Az (by kernel_rfl) m ?_
 refine Cf 0 11 underlying32 Z sizeOf30 Z f Z λa f=>BX 1 11 1 B4 Z Z Z f Z λa f=>Ae 2 11 Z f Z λa f=>Cf 3 11 underlying32 Z sizeOf30 Z f Z λa f=>BX 4 11 1 B4 Z Z Z f Z λa f=>Ae 5 11 Z f Z λa f=> ?_
 have⟨ag,ah,hd⟩:=bind_some hd
 refine AW 6 11 2 m ad T30 ah Z f Z Z λai a aj f=>Ba 7 11 2 ad CW aj ah Z f Z λak a al f=>Ae 8 11 Z f Z λa f=>CX 9 Z λam w an m ao ao=> ?_
 have al:=rd1 an al
 have ad:=Ow.mono (RSl.mono (RI.mono _)) an ad
 have⟨ap,aq,hd⟩:=bind_some hd
 refine AT f Z call101 (Wk.I m al aq) λar au av w aw m ax a f=> ?_
 obtain⟨ay,rfl,rfl,az⟩:=ax
 have ad:=Ow.mono (RSl.mono (RI.mono _)) aw ad
 refine Ab ?_
 refine ao au [] _ _ aw m ?_
 have⟨aA,aB,hd⟩:=bind_some hd
 refine AW 10 11 2 m ad T30 aB Z f Z Z λaC a aD f=>AN λaE w aF m=> ?_
 have az:=rd1 aF az
 have ad:=Ow.mono (RSl.mono (RI.mono _)) aF ad
 refine AM 2 m ad Z sizeOf28 f Z Z aD aB az.cells az.one1 az λaG w m aH=>Ab (Ah ?_)
 refine A4 11 Az (by kernel_rfl) m ?_
 refine Cf 0 11 underlying32 Z sizeOf30 Z f Z λa f=>BX 1 11 1 B4 Z Z Z f Z λa f=>Ae 2 11 Z f Z λa f=>Cf 3 11 underlying32 Z sizeOf30 Z f Z λa f=>BX 4 11 1 B4 Z Z Z f Z λa f=>Ae 5 11 Z f Z λa f=> ?_
 have⟨aI,aJ,hd⟩:=bind_some hd
 refine AW 6 11 2 m aH T30 aJ Z f Z Z λaK a aL f=>Ba 7 11 2 aH CW aL aJ Z f Z λaM a aN f=>Ae 8 11 Z f Z λa f=>CX 9 Z λaO w aP m aQ aQ=> ?_
 have aN:=rd1 aP aN
 have aH:=Ow.mono (RSl.mono (RI.mono _)) aP aH
 have⟨aR,aS,hd⟩:=bind_some hd
 refine AT f Z call101 (Wk.I m aN aS) λaT aU aV w aW m aX a f=> ?_
 obtain⟨aY,rfl,rfl,aZ⟩:=aX
 have aH:=Ow.mono (RSl.mono (RI.mono _)) aW aH
 refine Ab ?_
 refine aQ aU [] _ _ aW m ?_
 have⟨a0,a1,hd⟩:=bind_some hd
 refine AW 10 11 2 m aH T30 a1 Z f Z Z λa2 a a3 f=>AN λa4 w a5 m=> ?_
 have aZ:=rd1 a5 aZ
 have aH:=Ow.mono (RSl.mono (RI.mono _)) a5 aH
 refine AM 2 m aH Z sizeOf28 f Z Z a3 a1 aZ.cells aZ.one1 aZ λa6 w m a7=>Ay ?_
 refine A9 1 0 (ds:=[aa]) m Bn f Z Z Z Z Z λa f=>A3 0 0 (ds:=[aa]) m sizeOf32 f Z Z Z (Ap (Ow.one1 2 m a7 Z) AH) Z (lb Z) Z λw m=>Ab ?_
 refine Ar ?_
 have a8:=CZ (P:=prog) 0 m Bn f (s:=6) rfl rfl rfl
 have m:=m.fr 2
 have m:=m.eraseAt 2
 have m:=m.eraseAt 1
 obtain rfl:=sj hd
 exact⟨[(.agg #[aa])],⟨a8,trivial⟩,f.d,_,[a6],(gt an (gt aw (gt aF (gt aP (gt aW a5))))),m,_,Z,Z,a7⟩
theorem Wk.C0 {aa:Value}{ab:LL}(m:Mem W G w (H))(ac:R2 G aa ab){y:(LL)}(hd:D.C0 ab=some y):
  Calls prog 39 #[(.agg #[aa])] w (Res W G H (λG' Ho v=>∃r0:Value,∃i0:Itm,Ho=[i0]∧v=(.agg #[r0])∧Ow R1 28 G' i0 r0 y)):=by
 refine Au (args:=[(.agg #[aa])]) (N:=30) [.cell 2 32] func39 Z Z (lb Z) Z λa f=> ?_
 unfold D.C0 at hd
 refine Ag ?_
 refine BN (cs:=[aa]) m f Z Z Z λad w a m f=>Bx (cs:=[sn]) zeroValue32 m f Z Z λae w a m f=>Ay ?_
 refine A9 1 0 (ds:=[aa]) m Bn f Z Z Z Z Z λa f=> ?_
 have⟨af,ag,hd⟩:=bind_some hd
 refine Bk f Z call45 (Wk.u m ac ag) λah w ai m a f=> ?_
 have ac:=rd2 ai ac
 have⟨aj,ak,hd⟩:=bind_some hd
 refine AT f Z call72 (Wk.N0 m ak) λal am an w ao m ap a f=> ?_
 obtain⟨aq,ar,rfl,rfl,au⟩:=ap
 have ac:=rd2 ao ac
 refine Bx (cs:=[sn]) zeroValue32 m f Z Z λav w a m f=>A3 0 0 (ds:=[aq]) m sizeOf32 f Z Z Z (Ap (Ow.one1 1 m au Z) AH) Z (lb Z) Z λw m=>Ab (Ah (Ag ?_))
 refine Ac f Z λa f=>Ab ?_
 have⟨aw,ax,hd⟩:=bind_some hd
 refine AJ (λa w=>∃ay:LL,ay=aw∧∃(az:GH) (aA:Itm),GLe am az∧Fr a 30 [(2,(pb ae)),(3,(pb av))]∧Mem W az w (ib ae 32 [sn]::ib av 32 [aq]::aA::H)∧Ow R1 28 az aA aq ay) ?_ ?_
 ·refine Ak ?_
  have m:=m.fr 2
  have m:Mem W am w (ib ad 32 [aa]::ib ae 32 [sn]::ib av 32 [aq]::ar::H):=m.fr 3
  refine AK (λaB a w=>∃aC:Int,∃aD:LL,(aC,aD)=aB∧∃(aE:GH) (aF:Itm),GLe am aE∧Fr a 30 [(1,(pb ad)),(2,(pb ae)),(3,(pb av)),(4,(iv aC))]∧Mem W aE w (ib ad 32 [aa]::ib ae 32 [sn]::ib av 32 [aq]::aF::H)∧Ow R1 28 aE aF aq aD) ax ⟨_,_,Z,_,ar,gr,f.k Z,m,au⟩ ?_
  clear ax f m
  rintro aB aG aH aI a w ⟨aC,aD,rfl,aE,aF,aJ,f,m,aK⟩
  have ac:=rd2 aJ ac
  refine Ah (Ag ?_)
  refine Aa f Z λa f=>A9 0 0 (ds:=[aa]) m Bn f Z Z Z Z Z λa f=> ?_
  have⟨aL,aM,aH⟩:=bind_some aH
  refine Bk f Z call45 (Wk.u m ac aM) λaN w aO m a f=> ?_
  have ac:=rd2 aO ac
  have aK:=Ow.mono (RSl.mono (RI.mono _)) aO aK
  refine Ai f Z Z AV λa f=>Ab ?_
  rcases Af aH with⟨aP,aH⟩|⟨aP,aH⟩
  ·refine Al f Z aP ?_
   refine An ?_
   refine Ah (Ak (Ag ?_))
   refine Ac f Z λa f=>Ab ?_
   have⟨aQ,aR,aH⟩:=bind_some aH
   refine AJ (λa w=>∃aS:LL,aS=aQ∧∃(aT:GH) (aU:Itm),GLe aN aT∧Fr a 30 [(1,(pb ad)),(2,(pb ae)),(3,(pb av)),(4,(iv aC))]∧Mem W aT w (ib ad 32 [aa]::ib ae 32 [sn]::ib av 32 [aq]::aU::H)∧Ow R1 28 aT aU aq aS) ?_ ?_
   ·refine Ak ?_
    refine AK (λaV a w=>∃aW:Int,∃aX:LL,(aW,aX)=aV∧∃(aY:GH) (aZ:Itm),GLe aN aY∧Fr a 30 [(1,(pb ad)),(2,(pb ae)),(3,(pb av)),(4,(iv aC)),(5,(iv aW))]∧Mem W aY w (ib ad 32 [aa]::ib ae 32 [sn]::ib av 32 [aq]::aZ::H)∧Ow R1 28 aY aZ aq aX) aR ⟨_,_,Z,_,aF,gr,f.k Z,m,aK⟩ ?_
    clear aR f m
    rintro aV a0 a1 a2 a w ⟨aW,aX,rfl,aY,aZ,a3,f,m,a4⟩
    have ac:=rd2 a3 ac
    refine Ah (Ag ?_)
    refine Aa f Z λa f=>Aa f Z λa f=>Ai f Z Z AV λa f=>Ab ?_
    rcases Af a1 with⟨a5,a1⟩|⟨a5,a1⟩
    ·refine Al f Z a5 ?_
     refine An ?_
     refine Ah (Ak (Ag ?_))
     refine A9 0 0 (ds:=[aa]) m Bn f Z Z Z Z Z λa f=>Aa f Z λa f=>Aa f Z λa f=> ?_
     have⟨a6,a7,a1⟩:=bind_some a1
     refine Bk f Z call73 (Wk.J0 m ac a7) λa8 w a9 m a f=> ?_
     have a4:=Ow.mono (RSl.mono (RI.mono _)) a9 a4
     refine l_o f (Bg (f.e Z)) λa f=>Ab ?_
     rcases Af a1 with⟨ba,a1⟩|⟨ba,a1⟩
     ·refine Al f Z ba ?_
      refine Ao ?_
      refine A9 2 0 (ds:=[aq]) m Bn f Z Z Z Z Z λa f=>Aa f Z λa f=>Aa f Z λa f=> ?_
      have m:Mem W a8 w (aZ::ib ad 32 [aa]::ib ae 32 [sn]::ib av 32 [aq]::H):=m.fr 3
      have⟨bb,bc,a1⟩:=bind_some a1
      refine AT f Z call74 (Wk.p0 m a4 bc) λbd be bf w bg m bh a f=> ?_
      obtain⟨bi,rfl,rfl,bj⟩:=bh
      refine A3 3 0 (ds:=[aq]) m sizeOf32 f Z Z Z (Ap (Ow.one1 0 m bj Z) AH) Z (lb Z) Z λw m=>Ab (Ao ?_)
      refine Aa f Z λa f=>Ai f Z Z As λa f=>Ac f Z λa f=>Ab ?_
      have m:=m.fr 3
      have m:=m.fr 3
      have m:Mem W be w (ib ad 32 [aa]::ib ae 32 [sn]::ib av 32 [aq]::bi::H):=m.fr 3
      obtain rfl:=sj a1
      exact⟨_,Z,_,_,Z,_,bi,(gt a3 (gt a9 bg)),f.k Z,m,bj⟩
     ·refine Aj f Z ba ?_
      refine An ?_
      refine Ao ?_
      refine Aa f Z λa f=>Ai f Z Z As λa f=>Ac f Z λa f=>Ab ?_
      obtain rfl:=sj a1
      exact⟨_,Z,_,_,Z,_,aZ,(gt a3 a9),f.k Z,m,a4⟩
    ·refine Aj f Z a5 ?_
     refine AG Z ?_
     obtain rfl:=sj a1
     obtain rfl:=a2 _ rfl
     exact⟨_,Z,_,aZ,a3,f.k Z,m,a4⟩
   ·rintro a w ⟨aS,rfl,aT,aU,bk,f,m,bl⟩
    refine Ao ?_
    refine Aa f Z λa f=>Ai f Z Z As λa f=>Ac f Z λa f=>Ab ?_
    obtain rfl:=sj aH
    exact⟨_,Z,_,_,Z,_,aU,(gt aJ (gt aO bk)),f.k Z,m,bl⟩
  ·refine Aj f Z aP ?_
   refine AG Z ?_
   have m:=m.fr 3
   have m:=m.fr 3
   have m:Mem W aN w (ib ae 32 [sn]::ib av 32 [aq]::aF::ib ad 32 [aa]::H):=m.fr 3
   have m:=m.eraseAt 3
   obtain rfl:=sj aH
   obtain rfl:=aI _ rfl
   exact⟨_,Z,_,aF,(gt aJ aO),f.k Z,m,aK⟩
 ·rintro a w ⟨ay,rfl,az,aA,bm,f,m,bn⟩
  refine Ag ?_
  refine A9 1 0 (ds:=[aq]) m Bn f Z Z Z Z Z λa f=>A3 0 0 (ds:=[aq]) m sizeOf32 f Z Z Z (Ap (Ow.one1 2 m bn Z) AH) Z (lb Z) Z λw m=>Ab ?_
  refine Ar ?_
  have bo:=CZ (P:=prog) 0 m Bn f (s:=2) rfl rfl rfl
  have m:=m.fr 2
  have m:=m.eraseAt 2
  have m:=m.eraseAt 1
  obtain rfl:=sj hd
  exact⟨[(.agg #[aq])],⟨bo,trivial⟩,f.d,_,[aA],(gt ai (gt ao bm)),m,_,_,Z,Z,bn⟩
theorem Wk.t0 {aa:Value}{ab:LL}(m:Mem W G w (H))(ac:R2 G aa ab){y:(LL)×Bool}(hd:D.t0 ab=some y):
  Calls prog 14 #[(.agg #[aa])] w (Res W G H (λG' Ho v=>∃r0:Value,∃i0:Itm,Ho=[i0]∧v= .tuple #[(.agg #[r0]),(.bool y.2)]∧Ow R1 28 G' i0 r0 y.1)):=by
 refine Au (args:=[(.agg #[aa])]) (N:=10) [.cell 2 32,.tmp 3] func14 Z Z (lb Z) Z λa f=> ?_
 unfold D.t0 at hd
 refine Ag ?_
 refine BN (cs:=[aa]) m f Z Z Z λad w a m f=>Bx (cs:=[sn]) zeroValue32 m f Z Z λae w a m f=>Ac f Z λa f=>Ab (Ah (Ag ?_))
 refine A9 1 0 (ds:=[aa]) m Bn f Z Z Z Z Z λa f=> ?_
 have⟨af,ag,hd⟩:=bind_some hd
 refine Bk f Z call34 (Wk.n m ac ag) λah w ai m a f=> ?_
 have ac:=rd2 ai ac
 refine l_o f (Bg (f.e Z)) λa f=>Ab ?_
 rcases Af hd with⟨aj,hd⟩|⟨aj,hd⟩
 ·refine Al f Z aj ?_
  refine Ag ?_
  have ak:∀w,(Instr.build 32 #[]).run prog w= .ok (.agg #[sn]) w:=by intro w;simp[Instr.build,Instr.fill,Cd,BZ,BO,BS,BF,Ce]
  refine CG f Z Z ak λa f=>A3 0 0 (ds:=[sn]) m sizeOf32 f Z Z Z (Ap Z AH) Z (lb Z) Z λw m=>Ac f Z λa f=>Ab ?_
  refine Ar ?_
  obtain⟨al,m,am⟩:=Ow.nil R1 28 m
  have an:=CZ (P:=prog) 1 m Bn f (s:=2) rfl rfl rfl
  have m:=m.eraseAt 2
  have m:=m.eraseAt 1
  obtain rfl:=sj hd
  exact⟨[(.agg #[sn]),(.bool false)],⟨an,f.get _ _ Z,trivial⟩,f.d,_,[al],ai,m,_,_,Z,Z,am⟩
 ·refine Aj f Z aj ?_
  refine An ?_
  refine Ag ?_
  refine A9 1 0 (ds:=[aa]) m Bn f Z Z Z Z Z λa f=> ?_
  have⟨ao,ap,hd⟩:=bind_some hd
  refine AT f Z call39 (Wk.C0 m ac ap) λaq ar au w av m aw a f=> ?_
  obtain⟨ax,ay,rfl,rfl,az⟩:=aw
  refine A3 1 0 (ds:=[ax]) m sizeOf32 f Z Z Z (Ap (Ow.one1 0 m az Z) AH) Z (lb Z) Z λw m=>Ac f Z λa f=>Ab ?_
  refine Ar ?_
  have aA:=CZ (P:=prog) 1 m Bn f (s:=2) rfl rfl rfl
  have m:=m.eraseAt 2
  have m:=m.eraseAt 1
  obtain rfl:=sj hd
  exact⟨[(.agg #[ax]),(.bool true)],⟨aA,f.get _ _ Z,trivial⟩,f.d,_,[ay],(gt ai av),m,_,_,Z,Z,az⟩
theorem Wk.P0 {aa:Value}{ab:LL}(hW:CI W)(m:Mem W G w (H))(ac:R2 G aa ab){y:Bool}(hd:D.P0 ab=some y):
  Calls prog 40 #[(.agg #[aa])] w (Res W G H (λ_ Ho v=>Ho=[]∧v=(.bool y))):=by
 refine Au (args:=[(.agg #[aa])]) (N:=11) [.tmp 2] func40 Z Z (lb Z) Z λa f=> ?_
 unfold D.P0 at hd
 refine Ag ?_
 refine BN (cs:=[aa]) m f Z Z Z λad w a m f=>Ac f Z λa f=>Ay ?_
 refine A9 0 0 (ds:=[aa]) m Bn f Z Z Z Z Z λa f=> ?_
 have⟨ae,af,hd⟩:=bind_some hd
 refine Bk f Z call27 (Wk.e m ac af) λag w ah m a f=> ?_
 have ac:=rd2 ah ac
 refine Aa f Z λa f=> ?_
 have⟨ai,aj,hd⟩:=bind_some hd
 refine Br 5 (λa w=>∃ak,GLe ag ak∧Mem W ak w (ib ad 32 [aa]::H)∧Fr a 11 [(0,(.agg #[aa])),(1,(pb ad)),(3,(.agg #[aa])),(4,(.bool ae)),(5,(.bool ae)),(10,(.bool ai))]) ?_ ?_
 ·rcases Af aj with⟨al,aj⟩|⟨al,aj⟩
  ·refine AD f al ?_
   refine A9 0 0 (ds:=[aa]) m Bn f Z Z Z Z Z λa f=>AD f al ?_
   have⟨am,an,aj⟩:=bind_some aj
   refine AT f Z call28 (Wk.A m ac an) λao ap aq w ar m au a f=> ?_
   obtain⟨av,aw,rfl,rfl,ax⟩:=au
   refine AD f al ?_
   have⟨ay,az,aj⟩:=bind_some aj
   refine AT f Z call29 (Ow.lendCall (RI.mono _) 0 ax m Z (λaA aB m aC=>Wk.r hW m aC az) (λ_ G' _ _ ⟨r0,i0,h1,h2,h3,h4⟩=>⟨r0,i0,h1,h2,Ow.free (RI.free _) G' h3,h4⟩)) λaD aE aF w aG m aH a f=> ?_
   obtain⟨aI,aJ,rfl,rfl,aK,aL⟩:=aH
   refine AD f al ?_
   refine l_o f (r_nil_neq (f.e Z) (f.e Z) (Ow.hdr 0 m aK Z) underlying58 aL) λa f=>l_o f (AS (f.e Z) al (f.e Z)) λa f=> ?_
   obtain rfl:=sj aj
   have m:=m.fr 2
   have m:=m.eraseAt 2
   have m:=m.eraseAt 1
   exact⟨_,(gt ar aG),m,f.k Z⟩
  ·refine AE f al λa f=> ?_
   refine AE f al λa f=>AE f al λa f=>AE f al λa f=>l_o f (AR (f.e Z) al (f.e Z)) λa f=> ?_
   obtain rfl:=sj aj
   exact⟨_,gr,m,f.k Z⟩
 ·rintro a w ⟨ak,aM,m,f⟩
  refine Ac f Z λa f=>Ab ?_
  refine Ar ?_
  have m:Mem W ak w H:=Mem.drop (H':=[ib ad 32 [aa]]) m
  obtain rfl:=sj hd
  exact⟨[(.bool ai)],f.g Z,f.d,_,[],(gt ah aM),m,Z,Z⟩
theorem Wk.t {aa:Value}{ab:LL}(hW:CI W)(m:Mem W G w (H))(ac:R2 G aa ab){y:Bool}(hd:D.t ab=some y):
  Calls prog 16 #[(.agg #[aa])] w (Res W G H (λ_ Ho v=>Ho=[]∧v=(.bool y))):=by
 refine Au (args:=[(.agg #[aa])]) (N:=13) [.tmp 2] func16 Z Z (lb Z) Z λa f=> ?_
 unfold D.t at hd
 refine Ag ?_
 refine BN (cs:=[aa]) m f Z Z Z λad w a m f=>Ac f Z λa f=>Ay ?_
 refine A9 0 0 (ds:=[aa]) m Bn f Z Z Z Z Z λa f=> ?_
 have⟨ae,af,hd⟩:=bind_some hd
 refine AT f Z call10 (Wk.J hW m ac af) λag ah ai w aj m ak a f=> ?_
 obtain⟨al,am,an,ao,rfl,rfl,ap,aq⟩:=ak
 refine Aa f Z λa f=>l_o f (AI (f.e Z) Z) λa f=>l_o f (AI (f.e Z) Z) λa f=>l_o f (AI (f.e Z) Z) λa f=>Ac f Z λa f=>Ac f Z λa f=>Ac f Z λa f=>Ay ?_
 refine Aa f Z λa f=>Ac f Z λa f=>Ab ?_
 refine Ar ?_
 have m:Mem W ah w H:=Mem.drop (H':=[am,ao,ib ad 32 [aa]]) m
 obtain rfl:=sj hd
 exact⟨[(.bool ae.2.2)],f.g Z,f.d,_,[],aj,m,Z,Z⟩
theorem Wk.T0 {aa:Value}{ab:LL}(hW:CI W)(m:Mem W G w (H))(ac:R2 G aa ab){y:Int}(hd:D.T0 ab=some y):
  Calls prog 15 #[(.agg #[aa])] w (Res W G H (λ_ Ho v=>Ho=[]∧v=(iv y))):=by
 refine Au (args:=[(.agg #[aa])]) (N:=15) [.tmp 2] func15 Z Z (lb Z) Z λa f=> ?_
 unfold D.T0 at hd
 refine Ag ?_
 refine BN (cs:=[aa]) m f Z Z Z λad w a m f=>Ac f Z λa f=>Ab (Ah (Ak (Ag ?_)))
 refine A9 0 0 (ds:=[aa]) m Bn f Z Z Z Z Z λa f=> ?_
 have⟨ae,af,hd⟩:=bind_some hd
 refine Bk f Z call27 (Wk.e m ac af) λag w ah m a f=> ?_
 have ac:=rd2 ah ac
 refine l_o f (Bg (f.e Z)) λa f=>Ac f Z λa f=>Ab ?_
 rcases Af hd with⟨ai,hd⟩|⟨ai,hd⟩
 ·refine Al f Z ai ?_
  refine Ag ?_
  refine Ac f Z λa f=>Ab ?_
  refine Ar ?_
  have m:Mem W ag w H:=Mem.drop (H':=[ib ad 32 [aa]]) m
  obtain rfl:=sj hd
  exact⟨[(iv (-1))],f.g Z,f.d,_,[],ah,m,Z,Z⟩
 ·refine Aj f Z ai ?_
  refine Ag ?_
  refine A9 0 0 (ds:=[aa]) m Bn f Z Z Z Z Z λa f=> ?_
  have⟨aj,ak,hd⟩:=bind_some hd
  refine Bk f Z call40 (Wk.P0 hW m ac ak) λal w am m a f=> ?_
  have ac:=rd2 am ac
  refine l_o f (Bg (f.e Z)) λa f=>Ac f Z λa f=>Ab ?_
  rcases Af hd with⟨an,hd⟩|⟨an,hd⟩
  ·refine Al f Z an ?_
   refine Ag ?_
   refine Ac f Z λa f=>Ab ?_
   refine Ar ?_
   have m:Mem W al w H:=Mem.drop (H':=[ib ad 32 [aa]]) m
   obtain rfl:=sj hd
   exact⟨[(iv 1)],f.g Z,f.d,_,[],(gt ah am),m,Z,Z⟩
  ·refine Aj f Z an ?_
   refine Ag ?_
   refine A9 0 0 (ds:=[aa]) m Bn f Z Z Z Z Z λa f=> ?_
   have⟨ao,ap,hd⟩:=bind_some hd
   refine Bk f Z call16 (Wk.t hW m ac ap) λaq w ar m a f=>l_o f (Bg (f.e Z)) λa f=>Ac f Z λa f=>Ab ?_
   rcases Af hd with⟨au,hd⟩|⟨au,hd⟩
   ·refine Al f Z au ?_
    refine Ag ?_
    refine Ac f Z λa f=>Ab ?_
    refine Ar ?_
    have m:Mem W aq w H:=Mem.drop (H':=[ib ad 32 [aa]]) m
    obtain rfl:=sj hd
    exact⟨[(iv 2)],f.g Z,f.d,_,[],(gt ah (gt am ar)),m,Z,Z⟩
   ·refine Aj f Z au ?_
    refine An ?_
    refine Ag ?_
    refine Ac f Z λa f=>Ab ?_
    refine Ar ?_
    have m:Mem W aq w H:=Mem.drop (H':=[ib ad 32 [aa]]) m
    obtain rfl:=sj hd
    exact⟨[(iv 0)],f.g Z,f.d,_,[],(gt ah (gt am ar)),m,Z,Z⟩
set_option maxHeartbeats 1000000 in
theorem Wk.f1 {v0:Value}{x0:LI}(hW:CI W)(m:Mem W G w (H))(h0:RSl (RI .u8) G v0 x0){y:Bool}(hd:D.f1 x0=some y):
  Calls prog 3 #[v0] w (Res W G H (λ_ Ho v=>Ho=[]∧v=(.bool y))):=by
 refine Au (args:=[v0]) (N:=98) [.tmp 2] func3 Z Z (lb Z) Z λa f=> ?_
 unfold D.f1 at hd
 refine Ag ?_
 refine Ac f Z λa f=>Ab (Ah (Ag ?_))
 refine Aa f Z λa f=> ?_
 have⟨aa,ab,hd⟩:=bind_some hd
 refine Bk f Z call5 (Wk.e1 m h0 ab) λac w ad m a f=> ?_
 have h0:=rd1 ad h0
 refine Ab ?_
 rcases Af hd with⟨ae,hd⟩|⟨ae,hd⟩
 ·refine Al f Z ae ?_
  refine Ag ?_
  refine Ac f Z λa f=>Ab ?_
  refine Ar ?_
  obtain rfl:=sj hd
  exact⟨[(.bool true)],f.g Z,f.d,_,[],ad,m,Z,Z⟩
 ·refine Aj f Z ae ?_
  refine An ?_
  refine Ag ?_
  refine Aa f Z λa f=> ?_
  have⟨af,ag,hd⟩:=bind_some hd
  refine AT f Z call6 (Wk.r0 m h0 ag) λah ai aj w ak m al a f=> ?_
  obtain⟨am,an,rfl,rfl,ao⟩:=al
  refine Ac f Z λa f=>Ay ?_
  refine Aa f Z λa f=> ?_
  have⟨ap,aq,hd⟩:=bind_some hd
  refine AT f Z call7 (Wk.F m ao aq) λar au av w aw m ax a f=> ?_
  obtain⟨ay,rfl,rfl,az⟩:=ax
  refine Ai f Z Z As λa f=>Ac f Z λa f=>Ay ?_
  refine Aa f Z λa f=>Aa f Z λa f=> ?_
  have⟨aA,aB,hd⟩:=bind_some hd
  refine AT f Z call8 (Wk.R m az aB) λaC aD aE w aF m aG a f=> ?_
  obtain⟨aH,aI,aJ,rfl,rfl,aK,aL⟩:=aG
  refine Ac f Z λa f=>Ay ?_
  refine Aa f Z λa f=>Aa f Z λa f=> ?_
  have m:=m.fr 1
  have⟨aM,aN,hd⟩:=bind_some hd
  refine AT f Z call8 (Wk.R m aL aN) λaO aP aQ w aR m aS a f=> ?_
  obtain⟨aT,aU,aV,rfl,rfl,aW,aX⟩:=aS
  have aK:=od1 aR aK
  refine Ac f Z λa f=>Ay ?_
  refine Aa f Z λa f=>Aa f Z λa f=> ?_
  have m:Mem W aP w (aI::aU::ib an 55 [aV,(iv aM.2.2.1),(.int .u64 aM.2.2.2)]::H):=m.fr 2
  obtain⟨aY,aZ,m,a4⟩:=Ow.stamp (RI.mono _) aK m
  have aW:=od1 aZ aW
  obtain⟨a5,a6,m,a7⟩:=Ow.stamp (RI.mono _) aW m
  have a4:=rd1 a6 a4
  have⟨a8,a9,hd⟩:=bind_some hd
  refine AT f Z call9 (Wk.O hW m a4 a7 a9) λba bb bc w bd m be a f=> ?_
  obtain⟨bf,bg,rfl,rfl,bh⟩:=be
  have a4:=rd1 bd a4
  have a7:=rd1 bd a7
  refine Aa f Z λa f=>l_o f (AI (f.e Z) Z) λa f=>l_o f (AI (f.e Z) Z) λa f=>Bx (cs:=[sn]) zeroValue32 m f Z Z λbi w a m f=>A3 0 0 (ds:=[bf]) m sizeOf32 f Z Z Z (Ap (Ow.one1 1 m bh Z) AH) Z (lb Z) Z λw m=>Ac f Z λa f=>Ay ?_
  refine A9 0 0 (ds:=[bf]) m Bn f Z Z Z Z Z λa f=> ?_
  have⟨bj,bk,hd⟩:=bind_some hd
  refine AT f Z call10 (Ow.lendCall (RSl.mono (RI.mono _)) 1 bh m Z (λbl bm m bn=>Wk.J hW m bn bk) (λ_ G' _ _ ⟨a0,a1,a2,a3,e1,e2,o0,o1⟩=>⟨a0,a1,a2,a3,e1,e2,Ow.free (RI.free _) G' o0,Ow.free (RI.free _) G' o1⟩)) λbo bp bq w br m bs a f=> ?_
  obtain⟨bt,bu,bv,bw,rfl,rfl,bx,bz⟩:=bs
  have a4:=rd1 br a4
  have a7:=rd1 br a7
  have bh:=Ow.mono (RSl.mono (RI.mono _)) br bh
  refine Aa f Z λa f=>l_o f (AI (f.e Z) Z) λa f=>l_o f (AI (f.e Z) Z) λa f=>l_o f (AI (f.e Z) Z) λa f=>Ac f Z λa f=>Ac f Z λa f=>Ac f Z λa f=>Ay ?_
  refine Aa f Z λa f=>Aa f Z λa f=> ?_
  have⟨bA,bB,hd⟩:=bind_some hd
  refine AT f Z call11 (Wk.y0 m a4 a7 bB) λbC bD bE w bF m bG a f=> ?_
  obtain⟨bH,bI,bJ,bK,rfl,rfl,bL,bM⟩:=bG
  have a4:=rd1 bF a4
  have a7:=rd1 bF a7
  have bx:=od1 bF bx
  have bz:=od1 bF bz
  have bh:=Ow.mono (RSl.mono (RI.mono _)) bF bh
  refine Aa f Z λa f=>l_o f (AI (f.e Z) Z) λa f=>l_o f (AI (f.e Z) Z) λa f=>l_o f (AI (f.e Z) Z) λa f=>Ac f Z λa f=>Ac f Z λa f=>Ac f Z λa f=>Ab (Ah (Ag ?_))
  refine Aa f Z λa f=>l_o f (Bg (f.e Z)) λa f=>Aa f Z λa f=> ?_
  refine Br 3 (λa w=>∃bN,GLe bD bN∧Mem W bN w (bI::bK::bu::bw::ib bi 32 [bf]::bg::ib an 55 [aV,(iv aM.2.2.1),(.int .u64 aM.2.2.2)]::H)∧Fr a 98 [(0,v0),(3,(pb an)),(4,(iv (i64.wrap (1+ap.1)))),(5,aH),(6,aT),(7,(pb bi)),(8,(.bool a8.2)),(9,bt),(10,bv),(11,(.bool bj.2.2)),(12,bH),(13,bJ),(14,(.bool bA.2.2)),(49,(.bool a8.2)),(50,(.bool (!a8.2))),(51,(.bool (!a8.2))),(54,(.bool ((!a8.2)||(!bj.2.2))))]) ?_ ?_
  ·rcases Bool.eq_false_or_eq_true (!a8.2) with bO|bO
   ·refine AE f bO λa f=> ?_
    refine AE f bO λa f=>l_o f (AS (f.e Z) bO (f.e Z)) λa f=> ?_
    exact⟨_,gr,m,f.weak ⟨Z,Z,Z,Z,Z,Z,Z,Z,Z,Z,Z,Z,Z,Z,Z,Z,by rw[bO];rfl,trivial⟩⟩
   ·refine AD f bO ?_
    refine Aa f Z λa f=>AD f bO ?_
    refine l_o f (Bg (f.e Z)) λa f=>l_o f (AR (f.e Z) bO (f.e Z)) λa f=> ?_
    exact⟨_,gr,m,f.weak ⟨Z,Z,Z,Z,Z,Z,Z,Z,Z,Z,Z,Z,Z,Z,Z,Z,by rw[bO];rfl,trivial⟩⟩
  ·rintro a w ⟨bN,bP,m,f⟩
   have a4:=rd1 bP a4
   have a7:=rd1 bP a7
   have bL:=od1 bP bL
   have bM:=od1 bP bM
   have bx:=od1 bP bx
   have bz:=od1 bP bz
   have bh:=Ow.mono (RSl.mono (RI.mono _)) bP bh
   refine Aa f Z λa f=> ?_
   refine Br 3 (λa w=>∃bQ,GLe bN bQ∧Mem W bQ w (bI::bK::bu::bw::ib bi 32 [bf]::bg::ib an 55 [aV,(iv aM.2.2.1),(.int .u64 aM.2.2.2)]::H)∧Fr a 98 [(0,v0),(3,(pb an)),(4,(iv (i64.wrap (1+ap.1)))),(5,aH),(6,aT),(7,(pb bi)),(8,(.bool a8.2)),(9,bt),(10,bv),(11,(.bool bj.2.2)),(12,bH),(13,bJ),(14,(.bool bA.2.2)),(49,(.bool a8.2)),(50,(.bool (!a8.2))),(51,(.bool (!a8.2))),(54,(.bool ((!a8.2)||(!bj.2.2)))),(55,(.bool ((!a8.2)||(!bj.2.2)))),(58,(.bool (((!a8.2)||(!bj.2.2))||(!bA.2.2))))]) ?_ ?_
   ·rcases Bool.eq_false_or_eq_true ((!a8.2)||(!bj.2.2)) with bR|bR
    ·refine AE f bR λa f=> ?_
     refine AE f bR λa f=>l_o f (AS (f.e Z) bR (f.e Z)) λa f=> ?_
     exact⟨_,gr,m,f.weak ⟨Z,Z,Z,Z,Z,Z,Z,Z,Z,Z,Z,Z,Z,Z,Z,Z,Z,Z,by rw[bR];rfl,trivial⟩⟩
    ·refine AD f bR ?_
     refine Aa f Z λa f=>AD f bR ?_
     refine l_o f (Bg (f.e Z)) λa f=>l_o f (AR (f.e Z) bR (f.e Z)) λa f=> ?_
     exact⟨_,gr,m,f.weak ⟨Z,Z,Z,Z,Z,Z,Z,Z,Z,Z,Z,Z,Z,Z,Z,Z,Z,Z,by rw[bR];rfl,trivial⟩⟩
   ·rintro a w ⟨bQ,bS,m,f⟩
    have a4:=rd1 bS a4
    have a7:=rd1 bS a7
    have bL:=od1 bS bL
    have bM:=od1 bS bM
    have bx:=od1 bS bx
    have bz:=od1 bS bz
    have bh:=Ow.mono (RSl.mono (RI.mono _)) bS bh
    refine Aa f Z λa f=> ?_
    have⟨bT,bU,hd⟩:=bind_some hd
    refine Br 6 (λa w=>∃bV,GLe bQ bV∧Mem W bV w (bI::bK::bu::bw::ib bi 32 [bf]::bg::ib an 55 [aV,(iv aM.2.2.1),(.int .u64 aM.2.2.2)]::H)∧Fr a 98 [(0,v0),(3,(pb an)),(4,(iv (i64.wrap (1+ap.1)))),(5,aH),(6,aT),(7,(pb bi)),(8,(.bool a8.2)),(9,bt),(10,bv),(11,(.bool bj.2.2)),(12,bH),(13,bJ),(14,(.bool bA.2.2)),(49,(.bool a8.2)),(50,(.bool (!a8.2))),(51,(.bool (!a8.2))),(54,(.bool ((!a8.2)||(!bj.2.2)))),(55,(.bool ((!a8.2)||(!bj.2.2)))),(58,(.bool (((!a8.2)||(!bj.2.2))||(!bA.2.2)))),(59,(.bool (((!a8.2)||(!bj.2.2))||(!bA.2.2)))),(65,(.bool bT))]) ?_ ?_
    ·rcases Af bU with⟨bW,bU⟩|⟨bW,bU⟩
     ·refine AE f bW λa f=> ?_
      refine AE f bW λa f=>AE f bW λa f=>AE f bW λa f=>AE f bW λa f=>l_o f (AS (f.e Z) bW (f.e Z)) λa f=> ?_
      obtain rfl:=sj bU
      exact⟨_,gr,m,f.k Z⟩
     ·refine AD f bW ?_
      refine A9 4 0 (ds:=[bf]) m Bn f Z Z Z Z Z λa f=>AD f bW ?_
      refine Aa f Z λa f=>AD f bW ?_
      refine Aa f Z λa f=>AD f bW ?_
      have⟨bX,bY,bU⟩:=bind_some bU
      refine AT f Z call12 (Ow.lendCall (RSl.mono (RI.mono _)) 5 bh m Z (λbZ b0 m b1=>Wk.s m b1 (rd1 b0 a4) (rd1 b0 a7) bY) (λ_ _ _ _ h=>h)) λb2 b3 b4 w b5 m b6 a f=> ?_
      obtain⟨rfl,rfl⟩:=b6
      refine AD f bW ?_
      refine l_o f (Bg (f.e Z)) λa f=>l_o f (AR (f.e Z) bW (f.e Z)) λa f=> ?_
      obtain rfl:=sj bU
      exact⟨_,b5,m,f.k Z⟩
    ·rintro a w ⟨bV,b7,m,f⟩
     have bL:=od1 b7 bL
     have bM:=od1 b7 bM
     have bx:=od1 b7 bx
     have bz:=od1 b7 bz
     have bh:=Ow.mono (RSl.mono (RI.mono _)) b7 bh
     refine Aa f Z λa f=> ?_
     have⟨b8,b9,hd⟩:=bind_some hd
     refine Br 6 (λa w=>∃ca,GLe bV ca∧Mem W ca w (bI::bK::bu::bw::ib bi 32 [bf]::bg::ib an 55 [aV,(iv aM.2.2.1),(.int .u64 aM.2.2.2)]::H)∧Fr a 98 [(0,v0),(3,(pb an)),(4,(iv (i64.wrap (1+ap.1)))),(5,aH),(6,aT),(7,(pb bi)),(8,(.bool a8.2)),(9,bt),(10,bv),(11,(.bool bj.2.2)),(12,bH),(13,bJ),(14,(.bool bA.2.2)),(49,(.bool a8.2)),(50,(.bool (!a8.2))),(51,(.bool (!a8.2))),(54,(.bool ((!a8.2)||(!bj.2.2)))),(55,(.bool ((!a8.2)||(!bj.2.2)))),(58,(.bool (((!a8.2)||(!bj.2.2))||(!bA.2.2)))),(59,(.bool (((!a8.2)||(!bj.2.2))||(!bA.2.2)))),(65,(.bool bT)),(66,(.bool bT)),(72,(.bool b8))]) ?_ ?_
     ·rcases Af b9 with⟨cb,b9⟩|⟨cb,b9⟩
      ·refine AE f cb λa f=> ?_
       refine AE f cb λa f=>AE f cb λa f=>AE f cb λa f=>AE f cb λa f=>l_o f (AS (f.e Z) cb (f.e Z)) λa f=> ?_
       obtain rfl:=sj b9
       exact⟨_,gr,m,f.k Z⟩
      ·refine AD f cb ?_
       refine A9 4 0 (ds:=[bf]) m Bn f Z Z Z Z Z λa f=>AD f cb ?_
       refine Aa f Z λa f=>AD f cb ?_
       refine Aa f Z λa f=>AD f cb ?_
       have⟨cc,cd,b9⟩:=bind_some b9
       refine AT f Z call12 (Ow.lendCall (RSl.mono (RI.mono _)) 5 bh m Z (λce cf m cg=>(Ow.lendCall (RI.mono _) 2 (od1 cf bx) m Z (λch ci m cj=>(Ow.lendCall (RI.mono _) 2 (od1 ci (od1 cf bz)) m Z (λck cl m cm=>Wk.s m (rd2 cl (rd2 ci cg)) (rd1 cl cj) cm cd) (λ_ _ _ _ h=>h))) (λ_ _ _ _ h=>h))) (λ_ _ _ _ h=>h)) λcn co cp w cq m cr a f=> ?_
       obtain⟨rfl,rfl⟩:=cr
       refine AD f cb ?_
       refine l_o f (Bg (f.e Z)) λa f=>l_o f (AR (f.e Z) cb (f.e Z)) λa f=> ?_
       obtain rfl:=sj b9
       exact⟨_,cq,m,f.k Z⟩
     ·rintro a w ⟨ca,ct,m,f⟩
      have bL:=od1 ct bL
      have bM:=od1 ct bM
      have bx:=od1 ct bx
      have bz:=od1 ct bz
      have bh:=Ow.mono (RSl.mono (RI.mono _)) ct bh
      refine Aa f Z λa f=> ?_
      have⟨cu,cv,hd⟩:=bind_some hd
      refine Br 6 (λa w=>∃cw,GLe ca cw∧Mem W cw w (bI::bK::bu::bw::ib bi 32 [bf]::bg::ib an 55 [aV,(iv aM.2.2.1),(.int .u64 aM.2.2.2)]::H)∧Fr a 98 [(0,v0),(3,(pb an)),(4,(iv (i64.wrap (1+ap.1)))),(5,aH),(6,aT),(7,(pb bi)),(8,(.bool a8.2)),(9,bt),(10,bv),(11,(.bool bj.2.2)),(12,bH),(13,bJ),(14,(.bool bA.2.2)),(49,(.bool a8.2)),(50,(.bool (!a8.2))),(51,(.bool (!a8.2))),(54,(.bool ((!a8.2)||(!bj.2.2)))),(55,(.bool ((!a8.2)||(!bj.2.2)))),(58,(.bool (((!a8.2)||(!bj.2.2))||(!bA.2.2)))),(59,(.bool (((!a8.2)||(!bj.2.2))||(!bA.2.2)))),(65,(.bool bT)),(66,(.bool bT)),(72,(.bool b8)),(73,(.bool b8)),(79,(.bool cu))]) ?_ ?_
      ·rcases Af cv with⟨cx,cv⟩|⟨cx,cv⟩
       ·refine AE f cx λa f=> ?_
        refine AE f cx λa f=>AE f cx λa f=>AE f cx λa f=>AE f cx λa f=>l_o f (AS (f.e Z) cx (f.e Z)) λa f=> ?_
        obtain rfl:=sj cv
        exact⟨_,gr,m,f.k Z⟩
       ·refine AD f cx ?_
        refine A9 4 0 (ds:=[bf]) m Bn f Z Z Z Z Z λa f=>AD f cx ?_
        refine Aa f Z λa f=>AD f cx ?_
        refine Aa f Z λa f=>AD f cx ?_
        have⟨cy,cz,cv⟩:=bind_some cv
        refine AT f Z call13 (Ow.lendCall (RSl.mono (RI.mono _)) 5 bh m Z (λcA cB m cC=>(Ow.lendCall (RI.mono _) 2 (od1 cB bx) m Z (λcD cE m cF=>(Ow.lendCall (RI.mono _) 2 (od1 cE (od1 cB bz)) m Z (λcG cH m cI=>Wk.O0 hW m (rd2 cH (rd2 cE cC)) (rd1 cH cF) cI cz) (λ_ _ _ _ h=>h))) (λ_ _ _ _ h=>h))) (λ_ _ _ _ h=>h)) λcJ cK cL w cM m cN a f=> ?_
        obtain⟨rfl,rfl⟩:=cN
        refine AD f cx ?_
        refine l_o f (Bg (f.e Z)) λa f=>l_o f (AR (f.e Z) cx (f.e Z)) λa f=> ?_
        obtain rfl:=sj cv
        exact⟨_,cM,m,f.k Z⟩
      ·rintro a w ⟨cw,cO,m,f⟩
       have bL:=od1 cO bL
       have bM:=od1 cO bM
       have bh:=Ow.mono (RSl.mono (RI.mono _)) cO bh
       refine Ab ?_
       rcases Af hd with⟨cP,hd⟩|⟨cP,hd⟩
       ·refine Al f Z cP ?_
        refine Ag ?_
        refine Ac f Z λa f=>Ab ?_
        refine Ar ?_
        have m:Mem W cw w H:=Mem.drop (H':=[bI,bK,bu,bw,ib bi 32 [bf],bg,ib an 55 [aV,(iv aM.2.2.1),(.int .u64 aM.2.2.2)]]) m
        obtain rfl:=sj hd
        exact⟨[(.bool false)],f.g Z,f.d,_,[],(gt ad (gt ak (gt aw (gt aF (gt aR (gt aZ (gt a6 (gt bd (gt br (gt bF (gt bP (gt bS (gt b7 (gt ct cO)))))))))))))),m,Z,Z⟩
       ·refine Aj f Z cP ?_
        refine An ?_
        refine Ag ?_
        refine A9 4 0 (ds:=[bf]) m Bn f Z Z Z Z Z λa f=> ?_
        have m:Mem W cw w (bg::bI::bK::bu::bw::ib bi 32 [bf]::ib an 55 [aV,(iv aM.2.2.1),(.int .u64 aM.2.2.2)]::H):=m.fr 5
        obtain⟨cQ,cR,m,cS⟩:=Ow.stamp (RSl.mono (RI.mono _)) bh m
        have bL:=od1 cR bL
        have bM:=od1 cR bM
        have⟨cT,cU,hd⟩:=bind_some hd
        refine AT f Z call14 (Wk.t0 m cS cU) λcV cW cX w cY m cZ a f=> ?_
        obtain⟨c0,c1,rfl,rfl,c2⟩:=cZ
        have cS:=rd2 cY cS
        have bL:=od1 cY bL
        have bM:=od1 cY bM
        refine Aa f Z λa f=>l_o f (AI (f.e Z) Z) λa f=>l_o f (AI (f.e Z) Z) λa f=>Bx (cs:=[sn]) zeroValue32 m f Z Z λc3 w a m f=>A3 0 0 (ds:=[c0]) m sizeOf32 f Z Z Z (Ap (Ow.one1 1 m c2 Z) AH) Z (lb Z) Z λw m=>Ac f Z λa f=>Ay ?_
        refine A9 0 0 (ds:=[c0]) m Bn f Z Z Z Z Z λa f=>Aa f Z λa f=>Aa f Z λa f=> ?_
        have⟨c4,c5,hd⟩:=bind_some hd
        refine AT f Z call12 (Ow.lendCall (RSl.mono (RI.mono _)) 1 c2 m Z (λc6 c7 m c8=>(Ow.lendCall (RI.mono _) 1 (od1 c7 bL) m Z (λc9 da m db=>(Ow.lendCall (RI.mono _) 1 (od1 da (od1 c7 bM)) m Z (λdc dd m de=>Wk.s m (rd2 dd (rd2 da c8)) (rd1 dd db) de c5) (λ_ _ _ _ h=>h))) (λ_ _ _ _ h=>h))) (λ_ _ _ _ h=>h)) λdf dg dh w di m dj a f=> ?_
        obtain⟨rfl,rfl⟩:=dj
        have c2:=Ow.mono (RSl.mono (RI.mono _)) di c2
        have cS:=rd2 di cS
        refine Aa f Z λa f=> ?_
        have⟨dk,dl,hd⟩:=bind_some hd
        refine Br 4 (λa w=>∃dm,GLe dg dm∧Mem W dm w (ib c3 32 [c0]::c1::bI::bK::bu::bw::ib bi 32 [bf]::ib an 55 [aV,(iv aM.2.2.1),(.int .u64 aM.2.2.2)]::H)∧Fr a 98 [(0,v0),(3,(pb an)),(4,(iv (i64.wrap (1+ap.1)))),(5,aH),(6,aT),(7,(pb bi)),(8,(.bool a8.2)),(9,bt),(10,bv),(11,(.bool bj.2.2)),(12,bH),(13,bJ),(14,(.bool bA.2.2)),(15,(pb c3)),(16,(.bool cT.2)),(85,(.agg #[c0])),(86,bH),(87,bJ),(88,(.bool c4)),(89,(.bool c4)),(93,(.bool dk))]) ?_ ?_
        ·rcases Af dl with⟨dn,dl⟩|⟨dn,dl⟩
         ·refine AD f dn ?_
          refine A9 6 0 (ds:=[bf]) m Bn f Z Z Z Z Z λa f=>AD f dn ?_
          have⟨dp,dq,dl⟩:=bind_some dl
          refine Bk f Z call15 (Wk.T0 hW m cS dq) λdr w dt m a f=>AD f dn ?_
          refine Ai f Z Z BT λa f=>l_o f (AS (f.e Z) dn (f.e Z)) λa f=> ?_
          obtain rfl:=sj dl
          exact⟨_,dt,m,f.k Z⟩
         ·refine AE f dn λa f=> ?_
          refine AE f dn λa f=>AE f dn λa f=>l_o f (AR (f.e Z) dn (f.e Z)) λa f=> ?_
          obtain rfl:=sj dl
          exact⟨_,gr,m,f.k Z⟩
        ·rintro a w ⟨dm,du,m,f⟩
         have c2:=Ow.mono (RSl.mono (RI.mono _)) du c2
         refine Aa f Z λa f=> ?_
         have⟨dv,dw,hd⟩:=bind_some hd
         refine Br 3 (λa w=>∃dx,GLe dm dx∧Mem W dx w (ib c3 32 [c0]::c1::bI::bK::bu::bw::ib bi 32 [bf]::ib an 55 [aV,(iv aM.2.2.1),(.int .u64 aM.2.2.2)]::H)∧Fr a 98 [(0,v0),(3,(pb an)),(4,(iv (i64.wrap (1+ap.1)))),(5,aH),(6,aT),(7,(pb bi)),(8,(.bool a8.2)),(9,bt),(10,bv),(11,(.bool bj.2.2)),(12,bH),(13,bJ),(14,(.bool bA.2.2)),(15,(pb c3)),(16,(.bool cT.2)),(85,(.agg #[c0])),(86,bH),(87,bJ),(88,(.bool c4)),(89,(.bool c4)),(93,(.bool dk)),(94,(.bool dk)),(97,(.bool dv))]) ?_ ?_
         ·rcases Af dw with⟨dy,dw⟩|⟨dy,dw⟩
          ·refine AD f dy ?_
           refine A9 0 0 (ds:=[c0]) m Bn f Z Z Z Z Z λa f=>AD f dy ?_
           have⟨dz,dA,dw⟩:=bind_some dw
           refine AT f Z call16 (Ow.lendCall (RSl.mono (RI.mono _)) 1 c2 m Z (λdB dC m dD=>Wk.t hW m dD dA) (λ_ _ _ _ h=>h)) λdE dF dG w dH m dI a f=> ?_
           obtain⟨rfl,rfl⟩:=dI
           refine l_o f (AS (f.e Z) dy (f.e Z)) λa f=> ?_
           obtain rfl:=sj dw
           exact⟨_,dH,m,f.k Z⟩
          ·refine AE f dy λa f=> ?_
           refine AE f dy λa f=>l_o f (AR (f.e Z) dy (f.e Z)) λa f=> ?_
           obtain rfl:=sj dw
           exact⟨_,gr,m,f.k Z⟩
         ·rintro a w ⟨dx,dJ,m,f⟩
          refine Ac f Z λa f=>Ab ?_
          refine Ar ?_
          have m:Mem W dx w H:=Mem.drop (H':=[ib c3 32 [c0],c1,bI,bK,bu,bw,ib bi 32 [bf],ib an 55 [aV,(iv aM.2.2.1),(.int .u64 aM.2.2.2)]]) m
          obtain rfl:=sj hd
          exact⟨[(.bool dv)],f.g Z,f.d,_,[],(gt ad (gt ak (gt aw (gt aF (gt aR (gt aZ (gt a6 (gt bd (gt br (gt bF (gt bP (gt bS (gt b7 (gt ct (gt cO (gt cR (gt cY (gt di (gt du dJ))))))))))))))))))),m,Z,Z⟩
end Go.Proofs.YtmkcbhidbdggiaaGreatDoor

namespace Go.Sx
def Gm (E:Nat→Nat→Prop)(a b c d:Nat):Prop:=E c d∧((a=c∧¬E b d∧b≠d)∨(b=d∧¬E a c∧a≠c))
def Kl (E:Nat→Nat→Prop)(a b c d:Nat):Prop:=∀T:Nat→Nat→Prop,T a b→(∀p q r s,T p q→Gm E p q r s→T r s)→T c d
section
variable {E : Nat → Nat → Prop} (hs : ∀ a b, E a b → E b a) (hi : ∀ a, ¬ E a a)
theorem Kl.refl {a b:Nat}:Kl E a b a b:=λ_ h _=>h
theorem Kl.step {a b c d p q:Nat}(h:Kl E a b c d)(g:Gm E c d p q):Kl E a b p q:=λT h1 h2=>h2 _ _ _ _ (h T h1 h2) g
theorem Kl.trans {a b c d p q:Nat}(h:Kl E a b c d)(g:Kl E c d p q):Kl E a b p q:=λT h1 h2=>g T (h T h1 h2) h2
theorem Kl.edge {a b c d:Nat}(he:E a b)(h:Kl E a b c d):E c d:=h (λp q=>E p q) he (λ_ _ _ _ _ g=>g.1)
include hs
theorem Gm.sym {a b c d:Nat}(he:E a b)(h:Gm E a b c d):Gm E c d a b:=by
 rcases h with⟨h0,⟨h1,h2,h3⟩|⟨h1,h2,h3⟩⟩
 ·exact⟨he,.inl ⟨h1.symm,λe=>h2 (hs _ _ e),λe=>h3 e.symm⟩⟩
 ·exact⟨he,.inr ⟨h1.symm,λe=>h2 (hs _ _ e),λe=>h3 e.symm⟩⟩
theorem Gm.op {a b c d:Nat}(h:Gm E a b c d):Gm E b a d c:=by
 rcases h with⟨h0,⟨h1,h2,h3⟩|⟨h1,h2,h3⟩⟩
 ·exact⟨hs _ _ h0,.inr ⟨h1,h2,h3⟩⟩
 ·exact⟨hs _ _ h0,.inl ⟨h1,h2,h3⟩⟩
theorem Kl.sym {a b c d:Nat}(he:E a b)(h:Kl E a b c d):Kl E c d a b:=
 (h (λp q=>E p q∧Kl E p q a b) ⟨he,Kl.refl⟩ (λ_ _ _ _ ⟨h1,h2⟩ g=>⟨g.1,(Kl.refl.step (g.sym hs h1)).trans h2⟩)).2
theorem Kl.op {a b c d:Nat}(h:Kl E a b c d):Kl E b a d c:=h (λp q=>Kl E b a q p) Kl.refl (λ_ _ _ _ h1 g=>h1.step (g.op hs))
theorem tri {a b c:Nat}(hab:E a b)(hac:E a c)(hbc:E b c)(n1:¬Kl E b c a c)(n2:¬Kl E b c b a){p q:Nat}(h:Kl E b c p q):Kl E a b a p∧Kl E a c a q:=by
 have key:∀{p q},Kl E b c p q∧Kl E a b a p∧Kl E a c a q→∀r s,Gm E p q r s→Kl E b c r s∧Kl E a b a r∧Kl E a c a s:=by
  rintro p q ⟨h1,h2,h3⟩ r s g
  have h4:=h1.step g
  have eap:=h2.edge hab;have eaq:=h3.edge hac;have epq:=h1.edge hbc
  refine⟨h4,?_⟩
  rcases g with⟨h0,⟨rfl,g2,g3⟩|⟨rfl,g2,g3⟩⟩
  ·refine⟨h2,?_⟩
   have hsa:s≠a:=λe=>by
    subst e
    exact n2 (h4.trans ((h2.op hs).sym hs (hs _ _ hab)))
   have eas:E a s:=by
    apply Classical.byContradiction
    intro hn
    have g':Gm E a p s p:=⟨hs _ _ h0,.inr ⟨rfl,hn,λe=>hsa e.symm⟩⟩
    have:Kl E a b s p:=h2.step g'
    exact n2 (h4.trans ((this.op hs).sym hs (hs _ _ hab)))
   exact h3.step ⟨eas,.inl ⟨rfl,g2,g3⟩⟩
  ·refine⟨?_,h3⟩
   have hra:r≠a:=λe=>by
    subst e
    exact n1 (h4.trans (h3.sym hs hac))
   have ear:E a r:=by
    apply Classical.byContradiction
    intro hn
    have g':Gm E a q r q:=⟨h0,.inr ⟨rfl,hn,λe=>hra e.symm⟩⟩
    exact n1 (h4.trans ((h3.step g').sym hs hac))
   exact h2.step ⟨ear,.inl ⟨rfl,g2,g3⟩⟩
 exact(h (λp q=>Kl E b c p q∧Kl E a b a p∧Kl E a c a q) ⟨Kl.refl,Kl.refl,Kl.refl⟩ (λ_ _ r s h g=>key h r s g)).2
include hi
theorem En {x y:Nat}(hxy:E x y)(hno:¬Kl E x y y x){a b c:Nat}(h1:Kl E x y a b)(h2:Kl E x y b c):Kl E x y a c:=by
 have eab:=h1.edge hxy;have ebc:=h2.edge hxy
 have hac:a≠c:=λe=>by
  subst e
  exact hno (h1.trans ((h2.op hs).sym hs (hs _ _ hxy)))
 have eac:E a c:=by
  apply Classical.byContradiction
  intro hn
  have g:Gm E a b c b:=⟨hs _ _ ebc,.inr ⟨rfl,hn,hac⟩⟩
  exact hno ((h1.step g).trans ((h2.op hs).sym hs (hs _ _ hxy)))
 apply Classical.byContradiction
 intro hn
 have hbc2:Kl E b c a b:=(h2.sym hs hxy).trans h1
 have n1:¬Kl E b c a c:=λe=>hn (h2.trans e)
 have n2:¬Kl E b c b a:=λe=>hno (h2.trans (e.trans ((h1.op hs).sym hs (hs _ _ hxy))))
 have:=(tri hs eab eac ebc n1 n2 hbc2).1
 exact hi a (this.edge eab)
end
def Lf (E:Nat→Nat→Prop)(x y a b:Nat):Prop:=E a b∧¬Kl E x y a b∧¬Kl E x y b a
section
variable {E : Nat → Nat → Prop} (hs : ∀ a b, E a b → E b a) (hi : ∀ a, ¬ E a a)
include hs hi
theorem Lf.sym {x y:Nat}(a b:Nat)(h:Lf E x y a b):Lf E x y b a:=⟨hs _ _ h.1,h.2.2,h.2.1⟩
theorem lf_pair {x y a b c:Nat}(hxy:E x y)(hall:∀p q,E p q→¬Kl E p q q p)(hab:Lf E x y a b)(hac:Lf E x y a c)(hbc:Kl E x y b c)(hne:¬Kl E a b a c)
  {p q r s:Nat} (h:Kl E a b p q∨Kl E a c p q) (g:Gm (Lf E x y) p q r s):Kl E a b r s∨Kl E a c r s:=by
 have eab:=hab.1;have eac:=hac.1;have ebc:=hbc.edge hxy
 have A1:∀{u v},Kl E b c u v→Kl E x y u v:=λh=>hbc.trans h
 have n1:¬Kl E b c a c:=λe=>hac.2.1 (A1 e)
 have n2:¬Kl E b c b a:=λe=>hab.2.2 (A1 e)
 have TA:∀{u v},Kl E b c u v→Kl E a b a u∧Kl E a c a v:=λh=>tri hs eab eac ebc n1 n2 h
 have m1:¬Kl E a b c b:=λe=>hab.2.2 (A1 ((e.op hs).sym hs (hs _ _ eab)))
 have m2:¬Kl E a b a c:=hne
 have TC:∀{u v},Kl E a b u v→Kl E c a c u∧Kl E c b c v:=λh=>tri hs (hs _ _ eac) (hs _ _ ebc) eab m1 m2 h
 have k1:¬Kl E a c b c:=λe=>hac.2.1 (A1 (e.sym hs eac))
 have k2:¬Kl E a c a b:=λe=>hne (e.sym hs eac)
 have TB:∀{u v},Kl E a c u v→Kl E b a b u∧Kl E b c b v:=λh=>tri hs (hs _ _ eab) ebc eac k1 k2 h
 have AA:∀{u v},Kl E x y u v→Kl E b c u v:=λh=>(hbc.sym hs hxy).trans h
 have notA:∀{u v},(Kl E a b u v∨Kl E a c u v)→¬Kl E b c u v∧¬Kl E b c v u:=λh=>by
  rcases h with h|h
  ·exact⟨λe=>hab.2.1 (A1 (e.trans (h.sym hs eab))),λe=>hab.2.2 (A1 (e.trans ((h.op hs).sym hs (hs _ _ eab))))⟩
  ·exact⟨λe=>hac.2.1 (A1 (e.trans (h.sym hs eac))),λe=>hac.2.2 (A1 (e.trans ((h.op hs).sym hs (hs _ _ eac))))⟩
 obtain⟨⟨ers,nrs,nsr⟩,g⟩:=g
 have epq:E p q:=h.elim (λh=>h.edge eab) (λh=>h.edge eac)
 rcases g with⟨rfl,g2,g3⟩|⟨rfl,g2,g3⟩
 ·
  by_cases hqs:E q s
  ·have hA:Kl E b c q s∨Kl E b c s q:=by
    apply Classical.byContradiction
    intro hn
    have⟨h1,h2⟩:=not_or.1 hn
    exact g2 ⟨hqs,λe=>h1 (AA e),λe=>h2 (AA e)⟩
   have nps:∀{u v},Kl E b c u v→((u=p∧v=s)→False)∧((u=s∧v=p)→False):=λhA=>⟨fun⟨e1,e2⟩=>nrs (A1 (by rw[←e1,←e2];exact hA)),fun⟨e1,e2⟩=>nsr (A1 (by rw[←e1,←e2];exact hA))⟩
   rcases hA with hA|hA
   ·
    rcases h with h|h
    ·
     right
     have t:=TA hA
     have hq:Kl E a b a q:=t.1
     have eaq:=hq.edge eab;have eas:=t.2.edge eac
     have m1':¬Kl E a q s q:=λe=>hab.2.2 (A1 (hA.trans (((hq.trans e).op hs).sym hs (hs _ _ eab))))
     have m2':¬Kl E a q a s:=λe=>hne ((hq.trans e).trans (t.2.sym hs eac))
     have:=(tri hs (hs _ _ eas) (hs _ _ hqs) eaq m1' m2' ((hq.sym hs eab).trans h)).1
     exact t.2.trans (this.op hs)
    ·
     exfalso
     have hps:=TA hA
     have n1':¬Kl E q s p s:=λe=>nrs (A1 (hA.trans e))
     have n2':¬Kl E q s q p:=λe=>(notA (.inr h)).2 (hA.trans e)
     have t:=(tri hs epq ers hqs n1' n2' (hA.sym hs ebc)).1
     have:Kl E a c p b:=h.trans t
     exact hi b ((TB this).2.edge ebc)
   ·
    rcases h with h|h
    ·exfalso
     have n1':¬Kl E s q p q:=λe=>(notA (.inl h)).1 (hA.trans e)
     have n2':¬Kl E s q s p:=λe=>nsr (A1 (hA.trans e))
     have t:=(tri hs ers epq (hs _ _ hqs) n1' n2' (hA.sym hs ebc)).2
     have:Kl E a b p c:=h.trans t
     exact hi c ((TC this).2.edge (hs _ _ ebc))
    ·left
     have t:=TA hA
     have eas:=t.1.edge eab;have eaq:=t.2.edge eac
     have hq:Kl E a c a q:=t.2
     have m1':¬Kl E a q s q:=λe=>hac.2.1 (A1 (hA.trans ((hq.trans e).sym hs eac)))
     have m2':¬Kl E a q a s:=λe=>hne (t.1.trans ((hq.trans e).sym hs eac))
     have:=(tri hs (hs _ _ eas) (hs _ _ hqs) eaq m1' m2' ((hq.sym hs eac).trans h)).1
     exact t.1.trans (this.op hs)
  ·exact h.imp (λh=>h.step ⟨ers,.inl ⟨rfl,hqs,g3⟩⟩) (λh=>h.step ⟨ers,.inl ⟨rfl,hqs,g3⟩⟩)
 ·
  by_cases hpr:E p r
  ·exfalso
   have hA:Kl E b c p r∨Kl E b c r p:=by
    apply Classical.byContradiction
    intro hn
    have⟨h1,h2⟩:=not_or.1 hn
    exact g2 ⟨hpr,λe=>h1 (AA e),λe=>h2 (AA e)⟩
   have eqp:=hs _ _ epq;have eqr:=hs _ _ ers
   rcases hA with hA|hA
   ·
    have n1':¬Kl E p r q r:=λe=>nsr (A1 (hA.trans e))
    have n2':¬Kl E p r p q:=λe=>(notA h).1 (hA.trans e)
    have t:=tri hs eqp eqr hpr n1' n2' (hA.sym hs ebc)
    have hb:=t.1.op hs
    rcases h with h|h
    ·
     have:Kl E c a c b:=(TC (h.trans hb)).1
     exact hac.2.2 (λT h1 h2=>by
      have e1:Kl E c b c a:=this.sym hs (hs _ _ eac)
      exact absurd (A1 ((e1.op hs))) hac.2.1)
    ·exact hi b ((TB (h.trans hb)).1.edge (hs _ _ eab))
   ·have n1':¬Kl E r p q p:=λe=>(notA h).2 (hA.trans e)
    have n2':¬Kl E r p r q:=λe=>nrs (A1 (hA.trans e))
    have t:=tri hs eqr eqp (hs _ _ hpr) n1' n2' (hA.sym hs ebc)
    have hc:=t.2.op hs
    rcases h with h|h
    ·exact hi c ((TC (h.trans hc)).1.edge (hs _ _ eac))
    ·have:Kl E b a b c:=(TB (h.trans hc)).1
     exact hab.2.2 (A1 ((this.sym hs (hs _ _ eab))))
  ·exact h.imp (λh=>h.step ⟨ers,.inr ⟨rfl,hpr,g3⟩⟩) (λh=>h.step ⟨ers,.inr ⟨rfl,hpr,g3⟩⟩)
end
end Go.Sx

namespace Go.Sx
structure Orn (E T:Nat→Nat→Prop):Prop where
 sub:∀a b,T a b→E a b
 all:∀a b,E a b→T a b∨T b a
 one:∀a b,T a b→¬T b a
 trn:∀a b c,T a b→T b c→T a c
section
variable {E : Nat → Nat → Prop} (hs : ∀ a b, E a b → E b a) (hi : ∀ a, ¬ E a a)
include hs
theorem Orn.gm {T:Nat→Nat→Prop}(o:Orn E T){a b c d:Nat}(h:T a b)(g:Gm E a b c d):T c d:=by
 obtain⟨h0,⟨rfl,g2,g3⟩|⟨rfl,g2,g3⟩⟩:=g
 ·rcases o.all _ _ h0 with e|e
  ·exact e
  ·exact absurd (hs _ _ (o.sub _ _ (o.trn _ _ _ e h))) g2
 ·rcases o.all _ _ h0 with e|e
  ·exact e
  ·exact absurd (o.sub _ _ (o.trn _ _ _ h e)) g2
theorem Orn.cl {T:Nat→Nat→Prop}(o:Orn E T){a b c d:Nat}(h:T a b)(g:Kl E a b c d):T c d:=g T h (λ_ _ _ _ h1 h2=>o.gm hs h1 h2)
theorem Orn.anti {T:Nat→Nat→Prop}(o:Orn E T)(p q:Nat)(h:E p q):¬Kl E p q q p:=λe=>by
 rcases o.all _ _ h with t|t
 ·exact o.one _ _ t (o.cl hs t e)
 ·exact o.one _ _ t (o.cl hs t (e.op hs))
include hi
theorem lf_one {x y a b c:Nat}(hxy:E x y)(hall:∀p q,E p q→¬Kl E p q q p)(hab:Lf E x y a b)(hac:Lf E x y a c)(hbc:Kl E x y b c)(hne:¬Kl E a b a c)
  {p q:Nat} (h0:Kl E a b p q∨Kl E a c p q):¬Kl (Lf E x y) p q q p:=λh=>by
 have hP:=h (λr s=>Kl E a b r s∨Kl E a c r s) h0 (λ_ _ _ _ h1 g=>lf_pair hs hi hxy hall hab hac hbc hne h1 g)
 have eab:=hab.1;have eac:=hac.1
 have bad:∀{p q},Kl E a b p q→Kl E a c q p→False:=λh1 h2=>by
  have:Kl E a c b c:=En hs hi eac (hall _ _ eac) (h2.trans ((h1.op hs).sym hs (hs _ _ eab))) Kl.refl
  exact hac.2.1 (hbc.trans (this.sym hs eac))
 rcases h0 with h0|h0<;>rcases hP with h1|h1
 ·exact hall p q (h0.edge eab) ((h0.sym hs eab).trans h1)
 ·exact bad h0 h1
 ·exact bad h1 h0
 ·exact hall p q (h0.edge eac) ((h0.sym hs eac).trans h1)
theorem lf_anti {x y:Nat}(hxy:E x y)(hall:∀p q,E p q→¬Kl E p q q p)(p q:Nat)(hpq:Lf E x y p q):¬Kl (Lf E x y) p q q p:=by
 by_cases hcl:∀u v r s,Kl E p q u v→Gm (Lf E x y) u v r s→Kl E p q r s
 ·intro h
  exact hall p q hpq.1 (h (λu v=>Kl E p q u v) Kl.refl (λu v r s h1 g=>hcl u v r s h1 g))
 ·obtain⟨u,v,r,s,h1,g,h2⟩:∃u v r s,Kl E p q u v∧Gm (Lf E x y) u v r s∧¬Kl E p q r s:=by
   apply Classical.byContradiction
   intro hn
   apply hcl
   intro u v r s h1 g
   apply Classical.byContradiction
   intro h2
   exact hn ⟨u,v,r,s,h1,g,h2⟩
  have euv:=h1.edge hpq.1
  have luv:Lf E x y u v:=⟨euv,λe=>hpq.2.1 (e.trans (h1.sym hs hpq.1)),λe=>hpq.2.2 (e.trans ((h1.op hs).sym hs (hs _ _ hpq.1)))⟩
  obtain⟨lrs,⟨rfl,g2,g3⟩|⟨rfl,g2,g3⟩⟩:=g
  ·have evs:E v s:=by
    apply Classical.byContradiction
    intro hn
    exact h2 (h1.step ⟨lrs.1,.inl ⟨rfl,hn,g3⟩⟩)
   have hA:Kl E x y v s∨Kl E x y s v:=by
    apply Classical.byContradiction
    intro hn
    exact g2 ⟨evs,λe=>hn (.inl e),λe=>hn (.inr e)⟩
   rcases hA with hA|hA
   ·exact lf_one hs hi hxy hall luv lrs hA (λe=>h2 (h1.trans e)) (.inl (h1.sym hs hpq.1))
   ·exact lf_one hs hi hxy hall lrs luv hA (λe=>h2 (h1.trans (e.sym hs lrs.1))) (.inr (h1.sym hs hpq.1))
  ·have eur:E u r:=by
    apply Classical.byContradiction
    intro hn
    exact h2 (h1.step ⟨lrs.1,.inr ⟨rfl,hn,g3⟩⟩)
   have hA:Kl E x y u r∨Kl E x y r u:=by
    apply Classical.byContradiction
    intro hn
    exact g2 ⟨eur,λe=>hn (.inl e),λe=>hn (.inr e)⟩
   have h1':=(h1.op hs).sym hs (hs _ _ hpq.1)
   have lvu:=Lf.sym hs hi _ _ luv
   have lvr:=Lf.sym hs hi _ _ lrs
   have sL:∀a b,Lf E x y a b→Lf E x y b a:=λa b=>Lf.sym hs hi a b
   intro h
   have h':=h.op sL
   rcases hA with hA|hA
   ·exact lf_one hs hi hxy hall lvu lvr hA (λe=>h2 (h1.trans (e.op hs))) (.inl h1') h'
   ·exact lf_one hs hi hxy hall lvr lvu hA (λe=>h2 (h1.trans ((e.op hs).sym hs lrs.1))) (.inr h1') h'
theorem lf_or {x y:Nat}(hxy:E x y)(hno:¬Kl E x y y x){T:Nat→Nat→Prop}(o:Orn (Lf E x y) T):Orn E (λa b=>Kl E x y a b∨T a b):=by
 have noboth:∀{a b},Kl E x y a b→¬Kl E x y b a:=λh1 h2=>hno (h1.trans ((h2.op hs).sym hs (hs _ _ hxy)))
 refine⟨λa b h=>h.elim (λh=>h.edge hxy) (λh=>(o.sub _ _ h).1),λa b h=> ?_,λa b h1 h2=> ?_,λa b c h1 h2=> ?_⟩
 ·by_cases e1:Kl E x y a b
  ·exact .inl (.inl e1)
  ·by_cases e2:Kl E x y b a
   ·exact .inr (.inl e2)
   ·exact(o.all a b ⟨h,e1,e2⟩).imp .inr .inr
 ·rcases h1 with h1|h1<;>rcases h2 with h2|h2
  ·exact noboth h1 h2
  ·exact(o.sub _ _ h2).2.2 h1
  ·exact(o.sub _ _ h1).2.2 h2
  ·exact o.one _ _ h1 h2
 ·rcases h1 with h1|h1<;>rcases h2 with h2|h2
  ·exact .inl (En hs hi hxy hno h1 h2)
  ·have l2:=o.sub _ _ h2
   have hac:a≠c:=λe=>by subst e;exact l2.2.2 h1
   have eac:E a c:=by
    apply Classical.byContradiction
    intro hn
    exact l2.2.2 (h1.step ⟨hs _ _ l2.1,.inr ⟨rfl,hn,hac⟩⟩)
   by_cases e1:Kl E x y a c
   ·exact .inl e1
   ·by_cases e2:Kl E x y c a
    ·exact absurd (En hs hi hxy hno e2 h1) l2.2.2
    ·rcases o.all a c ⟨eac,e1,e2⟩ with e|e
     ·exact .inr e
     ·exact absurd h1 ((o.sub _ _ (o.trn _ _ _ h2 e)).2.2)
  ·have l1:=o.sub _ _ h1
   have hac:c≠a:=λe=>by subst e;exact l1.2.2 h2
   have eac:E a c:=by
    apply Classical.byContradiction
    intro hn
    exact l1.2.2 (h2.step ⟨hs _ _ l1.1,.inl ⟨rfl,λe=>hn (hs _ _ e),hac⟩⟩)
   by_cases e1:Kl E x y a c
   ·exact .inl e1
   ·by_cases e2:Kl E x y c a
    ·exact absurd (En hs hi hxy hno h2 e2) l1.2.2
    ·rcases o.all a c ⟨eac,e1,e2⟩ with e|e
     ·exact .inr e
     ·exact absurd h2 ((o.sub _ _ (o.trn _ _ _ e h1)).2.2)
  ·exact .inr (o.trn _ _ _ h1 h2)
end
end Go.Sx

namespace Go.Sx
def Out (l:LI)(a0 b0 a b:Int):Prop:=∀i j,a0≤i→i<j→j<b0→¬(a≤i∧j<b)→at' l i≤at' l j
theorem Out.keep {a0 a b b0:Int}{l l':LI}(h:Rg a b l l')(h0:0≤a0)(ha:a0≤a)(hb:b≤b0)(c:Out l a0 b0 a b):Out l' a0 b0 a b:=by
 intro i j h1 h2 h3 h4
 by_cases hi:a≤i∧i<b
 ·rw[h.out j (by omega) (by omega)]
  exact h.all (λx=>x≤at' l j) (λk k1 k2=>c k j (by omega) (by omega) h3 (by omega)) i hi.1 hi.2
 ·rw[h.out i (by omega) (by omega)]
  by_cases hj:a≤j∧j<b
  ·exact h.all (λx=>at' l i≤x) (λk k1 k2=>c i k (by omega) (by omega) (by omega) (by omega)) j hj.1 hj.2
  ·rw[h.out j (by omega) (by omega)];exact c i j h1 h2 h3 h4
theorem DV :∀(n:Nat) (l0:LI) (a0 b0 lim:Int),0≤a0→a0≤b0→b0≤l0.length→l0.length≤1000000→b0-a0≤16→b0-a0≤12+lim→0≤lim→lim≤64→
  (0<a0→∀k,a0≤k→k<b0→at' l0 (a0-1)≤at' l0 k)→b0-a0<n→∃l',D.C n l0 a0 b0 lim=some l'∧Rg a0 b0 l0 l'∧Srt l' a0 b0:=by
 intro n
 induction n with
 |zero=>intro l0 a0 b0 lim h1 h2 h3 h4 h5 h6 h7 h8 h9 h10;omega
 |succ n ih=>
  intro l0 a0 b0 lim h1 h2 h3 h4 h5 h6 h7 h8 h9 h10
  unfold D.C
  refine A2 (λs=>Rg a0 b0 l0 s.1∧Out s.1 a0 b0 s.2.1 s.2.2.1∧a0≤s.2.1∧s.2.1≤s.2.2.1∧s.2.2.1≤b0∧s.2.2.1-s.2.1≤12+s.2.2.2.1∧0≤s.2.2.2.1∧s.2.2.2.1≤64∧(0<s.2.1→∀k,s.2.1≤k→k<s.2.2.1→at' s.1 (s.2.1-1)≤at' s.1 k))
   (λs=>(s.2.2.1-s.2.1).toNat) (λr=>Rg a0 b0 l0 r∧Srt r a0 b0) ?_ ?_ ?_
  ·rintro⟨l,a,b,lm,bal,par⟩ ⟨hR,hO,g1,g2,g3,g4,g5,g6,g7⟩
   dsimp only at hR hO g1 g2 g3 g4 g5 g6 g7 ⊢
   have hll:=hR.len
   have fin:∀l',Rg a b l l'→Srt l' a b→Rg a0 b0 l0 l'∧Srt l' a0 b0:=λl' hr hs=>
    ⟨hR.trans (hr.widen g1 g3 h1),λi j k1 k2 k3=>by
     by_cases hc:a≤i∧j<b
     ·exact hs i j hc.1 k2 hc.2
     ·exact(hO.keep hr h1 g1 g3) i j k1 k2 k3 hc⟩
   rw[w64 (show-9223372036854775808≤b-a by omega) (by omega)]
   by_cases hs:b-a≤12
   ·obtain⟨l',e,r1,r2⟩:=CM l a b (by omega) g2 (by omega) (by omega)
    refine⟨.inr l',?_,fin l' r1 r2⟩
    simp only[hs,decide_true,cond_true,e,bs]
   ·have hl0:(lm==0)=false:=by simp;omega
    simp only[hs,decide_false,cond_false,hl0]
    refine BW (λq:LI×Int=>Rg a b l q.1∧b-a≤13+q.2∧0≤q.2∧q.2≤64) ?_ ?_
    ·cases bal
     ·obtain⟨l1,e,r1⟩:=CN l a b (by omega) (by omega) (by omega) (by omega) (by omega)
      refine⟨(l1,lm-1),?_,r1,by dsimp only;omega,by dsimp only;omega,by dsimp only;omega⟩
      simp only[Bool.not_false,cond_true,e,bs]
      rw[w64 (by omega) (by omega)]
     ·exact⟨(l,lm),rfl,Rg.refl _ _ _,by dsimp only;omega,by dsimp only;omega,by dsimp only;omega⟩
    rintro⟨l1,lm1⟩ ⟨hr1,k1,k2,k3⟩
    dsimp only at hr1 k1 k2 k3 ⊢
    have hl1:=hr1.len
    obtain⟨y,ey,c1,c2,c3⟩:=Da l1 a b (by omega) (by omega) (by omega) (by omega) (by omega)
    rw[ey,bs]
    refine BW (λq:LI×Int×Int=>Rg a b l q.1∧a≤q.2.1∧q.2.1<b) ?_ ?_
    ·cases (y.2.1==2)
     ·exact⟨_,rfl,by dsimp only;rw[c1];exact hr1,c2,c3⟩
     ·obtain⟨l2,e2,r2⟩:=CV l1 a b (by omega) (by omega) (by omega) (by omega)
      rw[c1]
      simp only[cond_true,e2,bs]
      rw[w64 (show-9223372036854775808≤b-1 by omega) (by omega),w64 (show-9223372036854775808≤y.1-a by omega) (by omega),w64 (show-9223372036854775808≤b-1-(y.1-a) by omega) (by omega)]
      exact⟨_,rfl,hr1.trans r2,by dsimp only;omega,by dsimp only;omega⟩
    rintro⟨l2,p,hint⟩ ⟨hr2,p1,p2⟩
    dsimp only at hr2 p1 p2 ⊢
    have hl2:=hr2.len
    refine BW (λq:LI ⊕ LI=>match q with| .inl q=>q=l2| .inr q=>q=l2∧Srt l2 a b) ?_ ?_
    ·cases ((bal&&par)&&(hint==1))
     ·exact⟨.inl l2,rfl,rfl⟩
     ·obtain⟨y2,e2,d1,d2⟩:=Cu l2 a b (by omega) (by omega) (by omega) (by omega) (by omega)
      simp only[cond_true,e2,bs,d1]
      cases hy:y2.1
      ·exact⟨.inl l2,rfl,rfl⟩
      ·exact⟨.inr l2,rfl,rfl,d2 hy⟩
    rintro(q|q) hq
    case inr=>
     obtain⟨rfl,hq⟩:=hq
     exact⟨.inr q,rfl,fin q hr2 hq⟩
    dsimp only at hq ⊢
    subst hq
    have hO2:=hO.keep hr2 h1 g1 g3
    have g7':0<a→∀k,a≤k→k<b→at' q (a-1)≤at' q k:=λha k m1 m2=>by
     rw[hr2.out (a-1) (by omega) (.inl (by omega))]
     exact hr2.all (λx=>at' l (a-1)≤x) (g7 ha) k m1 m2
    refine BW (λc:Bool=>c=true→0<a∧at' q p≤at' q (a-1)) ?_ ?_
    ·by_cases ha:0<a
     ·have r1:idx q (a-1)=some (at' q (a-1)):=AL (by omega) (by omega)
      have r2:idx q p=some (at' q p):=AL (by omega) (by omega)
      rw[w64 (show-9223372036854775808≤a-1 by omega) (by omega)]
      simp only[ha,decide_true,cond_true,r1,r2,B9,bs]
      exact⟨_,rfl,λh=>⟨by trivial,by simpa using h⟩⟩
     ·simp only[ha,decide_false,cond_false]
      exact⟨_,rfl,λh=>by cases h⟩
    intro c hc
    cases c
    ·
     simp only[cond_false]
     obtain⟨⟨mid,par',l3⟩,e3,P⟩:=Dp q a b p (by omega) (by omega) (by omega) p1 p2
     rw[e3,bs]
     obtain⟨hr3,m1,m2,m3,m4⟩:=P
     dsimp only at hr3 m1 m2 m3 m4 ⊢
     have hl3:=hr3.len
     have hO3:=hO2.keep hr3 h1 g1 g3
     have g7'':0<a→∀k,a≤k→k<b→at' l3 (a-1)≤at' l3 k:=λha k n1 n2=>by
      rw[hr3.out (a-1) (by omega) (.inl (by omega))]
      exact hr3.all (λx=>at' q (a-1)≤x) (g7' ha) k n1 n2
     have hR3:Rg a0 b0 l0 l3:=hR.trans ((hr2.trans hr3).widen g1 g3 h1)
     rw[w64 (show-9223372036854775808≤mid-a by omega) (by omega),w64 (show-9223372036854775808≤b-mid by omega) (by omega),w64 (show-9223372036854775808≤mid+1 by omega) (by omega)]
     by_cases hside:mid-a<b-mid
     ·simp only[hside,decide_true,cond_true]
      obtain⟨l4,e4,r4,s4⟩:=ih l3 a mid lm1 (by omega) m1 (by omega) (by omega) (by omega) (by omega) k2 k3 (λha k n1 n2=>g7'' ha k n1 (by omega)) (by omega)
      rw[e4,bs]
      have hl4:=r4.len
      have em:∀k,mid≤k→at' l4 k=at' l3 k:=λk hk=>r4.out k (by omega) (.inr hk)
      have lf:∀k,a≤k→k<mid→at' l4 k≤at' l4 mid:=λk n1 n2=>by
       rw[em mid (Int.le_refl _)];exact r4.all (λx=>x≤at' l3 mid) m3 k n1 n2
      refine⟨.inl _,rfl,⟨hR3.trans (r4.widen g1 (by omega) h1),?_,by dsimp only;omega,by dsimp only;omega,g3,by dsimp only;omega,k2,k3,?_⟩,by dsimp only;omega⟩
      ·have hO4:=hO3.keep (r4.widen (Int.le_refl a) (by omega) (by omega)) h1 g1 g3
       intro i j n1 n2 n3 n4
       dsimp only at n4 ⊢
       by_cases hin:a≤i∧j<b
       ·by_cases hj:j<mid
        ·exact s4 i j hin.1 n2 hj
        ·have hi:i≤mid:=by omega
         have e1:at' l4 i≤at' l4 mid:=by
          by_cases e:i=mid
          ·rw[e];exact Int.le_refl _
          ·exact lf i hin.1 (by omega)
         have e2:at' l4 mid≤at' l4 j:=by
          by_cases e:j=mid
          ·rw[e];exact Int.le_refl _
          ·rw[em mid (Int.le_refl _),em j (by omega)];exact m4 j (by omega) hin.2
         omega
       ·exact hO4 i j n1 n2 n3 hin
      ·intro _ k n1 n2
       dsimp only at n1 n2 ⊢
       rw[show mid+1-1=mid by omega,em mid (Int.le_refl _),em k (by omega)]
       exact m4 k (by omega) n2
     ·simp only[hside,decide_false,cond_false]
      obtain⟨l4,e4,r4,s4⟩:=ih l3 (mid+1) b lm1 (by omega) (by omega) (by omega) (by omega) (by omega) (by omega) k2 k3 (λ_ k n1 n2=>by rw[show mid+1-1=mid by omega];exact m4 k (by omega) n2) (by omega)
      rw[e4,bs]
      have hl4:=r4.len
      have em:∀k,0≤k→k≤mid→at' l4 k=at' l3 k:=λk h0 hk=>r4.out k h0 (.inl (by omega))
      have rt:∀k,mid<k→k<b→at' l4 mid≤at' l4 k:=λk n1 n2=>by
       rw[em mid (by omega) (Int.le_refl _)];exact r4.all (λx=>at' l3 mid≤x) (λk q1 q2=>m4 k (by omega) q2) k (by omega) n2
      refine⟨.inl _,rfl,⟨hR3.trans (r4.widen (by omega) g3 h1),?_,g1,m1,by dsimp only;omega,by dsimp only;omega,k2,k3,?_⟩,by dsimp only;omega⟩
      ·have hO4:=hO3.keep (r4.widen (by omega) (Int.le_refl b) (by omega)) h1 g1 g3
       intro i j n1 n2 n3 n4
       dsimp only at n4 ⊢
       by_cases hin:a≤i∧j<b
       ·by_cases hi:mid<i
        ·exact s4 i j (by omega) n2 hin.2
        ·have hj:mid≤j:=by omega
         have e1:at' l4 i≤at' l4 mid:=by
          by_cases e:i=mid
          ·rw[e];exact Int.le_refl _
          ·rw[em i (by omega) (by omega),em mid (by omega) (Int.le_refl _)];exact m3 i hin.1 (by omega)
         have e2:at' l4 mid≤at' l4 j:=by
          by_cases e:j=mid
          ·rw[e];exact Int.le_refl _
          ·exact rt j (by omega) hin.2
         omega
       ·exact hO4 i j n1 n2 n3 hin
      ·intro ha k n1 n2
       dsimp only at ha n1 n2 ⊢
       rw[em (a-1) (by omega) (by omega),em k (by omega) (by omega)]
       exact g7'' ha k n1 (by omega)
    ·
     simp only[cond_true]
     obtain⟨hc1,hc2⟩:=hc rfl
     obtain⟨⟨mid,l3⟩,e3,hr3,m1,m2,m3,m4⟩:=CJ q a b p (by omega) (by omega) (by omega) p1 p2
     rw[e3,bs]
     dsimp only at hr3 m1 m2 m3 m4 ⊢
     have hl3:=hr3.len
     have hO3:=hO2.keep hr3 h1 g1 g3
     have lw:∀k,a≤k→k<b→at' q p≤at' l3 k:=λk n1 n2=>
      hr3.all (λx=>at' q p≤x) (λk q1 q2=>Int.le_trans hc2 (g7' hc1 k q1 q2)) k n1 n2
     refine⟨.inl _,rfl,⟨hR.trans ((hr2.trans hr3).widen g1 g3 h1),?_,by dsimp only;omega,m2,g3,by dsimp only;omega,k2,k3,?_⟩,by dsimp only;omega⟩
     ·intro i j n1 n2 n3 n4
      dsimp only at n4 ⊢
      by_cases hin:a≤i∧j<b
      ·have:=m3 i hin.1 (by omega)
       have:=lw j (by omega) hin.2
       omega
      ·exact hO3 i j n1 n2 n3 hin
     ·intro _ k n1 n2
      dsimp only at n1 n2 ⊢
      have:=m3 (mid-1) (by omega) (by omega)
      have:=m4 k n1 n2
      omega
  ·exact⟨Rg.refl _ _ _,λi j n1 n2 n3 n4=>by dsimp only at n4;omega,Int.le_refl _,h2,Int.le_refl _,h6,h7,h8,h9⟩
  ·rintro r hr
   exact⟨r,rfl,hr⟩
theorem Fc (l:LI)(hl:l.length≤16):∃y,D.h0 l=some y∧List.Perm y l∧Srt y 0 y.length:=by
 unfold D.h0 D.j1 D.c1 D.g1 D.g D.j
 rw[if_pos (show l.length≤1000000 by omega)]
 simp only[bs]
 rw[wu64 (by omega) (by omega),if_pos (by omega)]
 simp only[bs]
 have hk:∀k:Nat,k≤16→k≤12+Lib.bitLen k∧Lib.bitLen k≤64:=by decide
 obtain⟨k1,k2⟩:=hk l.length hl
 have e:((l.length:Int)).toNat=l.length:=by omega
 have hb:=E9
 obtain⟨y,hy,hr,hs⟩:=DV CF l 0 l.length (Lib.bitLen l.length:Nat) (by omega) (by omega) (by omega) (by omega) (by omega) (by omega) (by omega) (by omega) (λh=>absurd h (by omega)) (by omega)
 rw[e,hy]
 refine⟨y,rfl,hr.perm,?_⟩
 rw[hr.len];exact hs
end Go.Sx



namespace Go.Sx
def Sh {α:Type}(xs:List α):Prop:=xs.length≤4294967296
theorem ES (a b c:Int):D.d a b c=some (decide (b≤a)&&decide (a≤c)):=rfl
theorem inRange_eq (a b c:Int):D.d1 a b c=some (decide (b≤a)&&decide (a≤c)):=rfl
theorem any_beq (xs:LI)(n:Int):xs.any (λx=>x==n)=decide (n∈xs):=by
 rw[Bool.eq_iff_iff,List.any_eq_true];simp
theorem Ev (xs:LI)(n:Int)(h:Sh xs):D.k xs n=some (decide (n∈xs)):=by
 unfold Sh at h
 unfold D.k
 refine(loop_anyb xs.length (λi=>xs.getD i 0==n) true (λi hi=> ?_) ?_ rfl rfl).trans ?_
 ·simp only[dlt hi,cond_true,AP hi,bs,wi' hi (by omega),AQ hi]
  cases xs[i]==n<;>rfl
 ·simp only[Bq,cond_false]
 ·rw[range_any_list xs (λx=>x==n) _ (λi hi=>by rw[AQ hi]),any_beq]
theorem E4 (xs:LI)(n:Int)(h:Sh xs):D.V xs n=some (decide (n∈xs)):=by
 unfold Sh at h
 unfold D.V D.a1
 have e:Aq (σ:=Int) (ρ:=(Unit) ⊕ (Int)) (fun(x_26:Int)=>cond (decide (x_26<(xs.length:Int))) ((idx xs x_26).bind λe_39=>cond (n==e_39) (some (.inr (.inr x_26))) (some (.inl (IntKind.i64.wrap (x_26+1))))) (some (.inr (.inl ())))) 0=
   some (((List.range xs.length).findSome? (λi=>if xs.getD i 0==n then some (Sum.inr (i:Int)) else none)).getD (.inl ())):=by
  refine D6 xs.length _ _ (λi hi=> ?_) ?_
  ·simp only[dlt hi,cond_true,AP hi,bs,wi' hi (by omega),AQ hi]
   rw[show (n==xs[i])=(xs[i]==n) from Bool.beq_comm ..]
   cases xs[i]==n<;>rfl
  ·simp only[Bq,cond_false]
 rw[e,bs]
 cases hf:(List.range xs.length).findSome? (λi=>if xs.getD i 0==n then some (Sum.inr (i:Int):Unit ⊕ Int) else none) with
 |none=>
  have:n∉xs:=λhm=>by
   obtain⟨i,hi,e⟩:=List.getElem_of_mem hm
   have:=(List.findSome?_eq_none_iff.1 hf) i (List.mem_range.2 hi)
   rw[AQ hi,e] at this
   simp at this
  simp[this]
 |some r=>
  obtain⟨i,hi,hr⟩:=List.exists_of_findSome?_eq_some hf
  have hi':=List.mem_range.1 hi
  rw[AQ hi'] at hr
  split at hr
  ·rename_i hc
   cases hr
   have:n∈xs:=by rw[←(beq_iff_eq.1 hc)];exact List.getElem_mem _
   simp[this]
  ·cases hr
def SetOf (xs:LI)(n:Int):Prop:=Inc xs∧∀x∈xs,0≤x∧x<n
theorem SetOf.len :∀{xs:LI} {n a:Int},Inc xs→(∀x∈xs,a≤x∧x<n)→xs=[]∨(xs.length:Int)≤n-a
 |[],_,_,_,_=> .inl rfl
 |x::xs,n,a,h,hr=>by
  right
  have h':=List.pairwise_cons.1 h
  have hx:=hr x (by simp)
  rcases SetOf.len (a:=x+1) (n:=n) h'.2 (λy hy=>⟨by have:=h'.1 y hy;omega,(hr y (by simp[hy])).2⟩) with e|e
  ·subst e;simp;omega
  ·simp;omega
theorem SetOf.length_le {xs:LI}{n:Int}(h:SetOf xs n)(hn:0≤n):(xs.length:Int)≤n:=by
 rcases SetOf.len h.1 h.2 with e|e
 ·subst e;simpa using hn
 ·omega
theorem inc_iff (xs:LI):Inc xs↔∀i (hi:i+1<xs.length),xs[i]<xs[i+1]:=by
 unfold Inc
 constructor
 ·intro h i hi
  exact List.pairwise_iff_getElem.1 h i (i+1) (by omega) hi (by omega)
 ·intro h
  rw[List.pairwise_iff_getElem]
  intro i j hi hj hij
  have key:∀k,∀hk:i+k+1<xs.length,xs[i]<xs[i+k+1]:=by
   intro k
   induction k with
   |zero=>intro hk;exact h i hk
   |succ k ih=>intro hk;have:=ih (by omega);have:=h (i+k+1) hk;exact Int.lt_trans (ih (by omega)) this
  obtain⟨k,rfl⟩:∃k,j=i+k+1:=⟨j-i-1,by omega⟩
  exact key k hj
def Dz (xs:LI)(n:Int):Bool:=(List.range xs.length).all λi=>(decide (0≤xs.getD i 0)&&decide (xs.getD i 0≤n-1))&& !(decide (0<i)&&decide (xs.getD i 0≤xs.getD (i-1) 0))
theorem Dl (xs:LI)(n:Int):Dz xs n=true↔SetOf xs n:=by
 unfold Dz SetOf
 rw[Di,inc_iff]
 constructor
 ·intro h
  refine⟨λi hi=> ?_,λx hx=> ?_⟩
  ·have:=h (i+1) hi
   simp[hi,show i<xs.length by omega] at this
   omega
  ·obtain⟨i,hi,rfl⟩:=List.getElem_of_mem hx
   have:=h i hi
   simp[hi] at this
   omega
 ·rintro⟨h1,h2⟩ i hi
  have h3:=h2 _ (List.getElem_mem hi)
  simp[hi]
  refine⟨by omega,?_⟩
  rcases Nat.eq_zero_or_pos i with h0|h0
  ·exact .inl h0
  ·right
   have:=h1 (i-1) (by omega)
   have e:i-1+1=i:=by omega
   simp only[e] at this
   have e2:xs[i-1]?.getD 0=xs[i-1]:=by rw[List.getElem?_eq_getElem (by omega)];rfl
   rw[e2];exact this
theorem Dy (xs:LI)(n:Int)(h:Sh xs)(h0:0≤n)(hn:n≤4294967296):D.B xs n=some (Dz xs n):=by
 unfold Sh at h
 unfold D.B
 refine Cj xs.length _ false (λi hi=> ?_) ?_ rfl rfl
 ·simp only[dlt hi,cond_true,AP hi,bs,wi' hi (by omega),AQ hi,inRange_eq]
  rw[w64 (x:=n-1) (by omega) (by omega)]
  cases (decide (0≤xs[i])&&decide (xs[i]≤n-1))
  ·simp
  ·by_cases h0:0<i
   ·have e1:IntKind.i64.wrap ((i:Int)-1)=((i-1:Nat):Int):=by rw[w64 (by omega) (by omega)];omega
    have hd:decide ((0:Int)<(i:Int))=true:=by simp;omega
    simp only[Bool.not_true,cond_false,hd,cond_true,e1,AP (show i-1<xs.length by omega),bs,AQ (show i-1<xs.length by omega),h0,decide_true,Bool.true_and]
    cases decide (xs[i]≤xs[i-1])<;>rfl
   ·have hd:decide ((0:Int)<(i:Int))=false:=by simp;omega
    simp only[Bool.not_true,cond_false,hd,bs,h0,decide_false,Bool.false_and,Bool.not_false,Bool.and_true,if_true]
 ·simp only[Bq,cond_false]
theorem l1Set_eq (xs:LI)(n:Int)(h:Sh xs)(h0:0≤n)(hn:n≤4294967296):D.k0 xs n=some (Dz xs n):=by
 have hh:=h
 unfold Sh at h
 unfold D.k0
 by_cases hl:n<xs.length
 ·have:Dz xs n=false:=by
   cases hb:Dz xs n
   ·rfl
   ·have:=((Dl xs n).1 hb).length_le h0;omega
  simp[hl,this]
 ·simp only[hl,decide_false,cond_false]
  refine Cj xs.length _ false (λi hi=> ?_) ?_ rfl rfl
  ·simp only[dlt hi,cond_true,AP hi,bs,wi' hi (by omega),AQ hi,ES]
   rw[w64 (x:=n-1) (by omega) (by omega)]
   cases (decide (0≤xs[i])&&decide (xs[i]≤n-1))
   ·simp
   ·by_cases h0:0<i
    ·have e1:IntKind.i64.wrap ((i:Int)-1)=((i-1:Nat):Int):=by rw[w64 (by omega) (by omega)];omega
     have hd:decide ((0:Int)<(i:Int))=true:=by simp;omega
     simp only[Bool.not_true,cond_false,hd,cond_true,e1,AP (show i-1<xs.length by omega),bs,AQ (show i-1<xs.length by omega),h0,decide_true,Bool.true_and]
     cases decide (xs[i]≤xs[i-1])<;>rfl
    ·have hd:decide ((0:Int)<(i:Int))=false:=by simp;omega
     simp only[Bool.not_true,cond_false,hd,bs,h0,decide_false,Bool.false_and,Bool.not_false,Bool.and_true,if_true]
  ·simp only[Bq,cond_false]
def row (g:LL)(v:Nat):LI:=g.getD v []
theorem row_eq {g:LL}{v:Nat}(h:v<g.length):row g v=g[v]:=AQ h _
def adj (g:LL)(u v:Nat):Prop:=(v:Int)∈row g u
structure GOk (g:LL):Prop where
 n1:1≤g.length
 n16:g.length≤16
 rows:∀v,v<g.length→SetOf (row g v) g.length
 irr:∀v,v<g.length→¬adj g v v
 sym:∀u v,u<g.length→adj g u v→adj g v u
theorem GOk.mem {g:LL}(h:GOk g){u:Nat}(hu:u<g.length){x:Int}(hx:x∈row g u):∃v:Nat,x=v∧v<g.length∧adj g u v:=by
 have:=(h.rows u hu).2 x hx
 refine⟨x.toNat,by omega,by omega,?_⟩
 unfold adj
 rw[show ((x.toNat:Nat):Int)=x by omega];exact hx
theorem GOk.row_len {g:LL}(h:GOk g){u:Nat}(hu:u<g.length):(row g u).length≤16:=by
 have:=(h.rows u hu).length_le (by omega)
 have:=h.n16
 omega
theorem GOk.lt {g:LL}(h:GOk g){u v:Nat}(hu:u<g.length)(ha:adj g u v):v<g.length:=by
 obtain⟨w,h1,h2,_⟩:=h.mem hu ha
 omega
def Sh2 (g:LL):Prop:=Sh g∧∀r∈g,Sh r
theorem Sh2.row {g:LL}(h:Sh2 g){v:Nat}(hv:v<g.length):Sh (row g v):=by
 rw[row_eq hv];exact h.2 _ (List.getElem_mem hv)
theorem Cx {g:LL}{v:Nat}(h:v<g.length):idx g (v:Int)=some (row g v):=by rw[row_eq h,AP h]
def gB1 (g:LL):Bool:=(List.range g.length).all λv=>Dz (row g v) g.length&& !decide ((v:Int)∈row g v)
def gB2 (g:LL):Bool:=(List.range g.length).all λv=>(row g v).all λx=>decide ((v:Int)∈row g x.toNat)
def gB (g:LL):Bool:=decide (1≤g.length)&&decide (g.length≤16)&&gB1 g&&gB2 g
theorem gB_iff (g:LL):gB g=true↔GOk g:=by
 unfold gB gB1 gB2
 simp only[Bool.and_eq_true,decide_eq_true_eq,Dl,Bool.not_eq_true',decide_eq_false_iff_not,List.all_eq_true,List.mem_range]
 constructor
 ·rintro⟨⟨⟨h1,h2⟩,h3⟩,h4⟩
  refine⟨h1,h2,λv hv=>(h3 v hv).1,λv hv=>(h3 v hv).2,λu v hu ha=> ?_⟩
  have:=h4 u hu v ha
  unfold adj
  simpa using this
 ·intro h
  refine⟨⟨⟨h.n1,h.n16⟩,λv hv=>⟨h.rows v hv,h.irr v hv⟩⟩,λv hv x hx=> ?_⟩
  obtain⟨u,rfl,hu,ha⟩:=h.mem hv hx
  have:=h.sym v u hv ha
  simpa [adj] using this
theorem Dh (g:LL)(h:Sh2 g):D.n g=some (gB g):=by
 have hl:g.length≤4294967296:=h.1
 unfold D.n D.u
 simp only[bs,ES]
 by_cases hn:1≤g.length∧g.length≤16
 ·have e:(decide ((1:Int)≤(g.length:Int))&&decide ((g.length:Int)≤16))=true:=by simp;omega
  simp only[e,Bool.not_true,cond_false]
  refine(EQ g.length (λv=>Dz (row g v) g.length&& !decide ((v:Int)∈row g v)) (.inl ()) (.inr false) (λv hv=> ?_) ?_).trans ?_
  rotate_left
  ·simp only[Bq,cond_false]
  ·show cond (gB1 g) _ _=_
   have e4:gB g=(gB1 g&&gB2 g):=by unfold gB;simp[hn.1,hn.2]
   rw[e4]
   cases hc:gB1 g with
   |false=>rfl
   |true=>
    rw[cond_true,Bool.true_and]
    refine Cj g.length _ false (λv hv=> ?_) ?_ rfl rfl
    ·have hset:SetOf (row g v) g.length:=by
      have:=(Di _ _).1 hc v hv
      simp only[Bool.and_eq_true] at this
      exact(Dl _ _).1 this.1
     simp only[dlt hv,cond_true]
     refine(EQ (row g v).length (λi=>decide ((v:Int)∈row g ((row g v).getD i 0).toNat)) (.inl ()) (.inr false) (λi hi=> ?_) ?_).trans ?_
     ·have hx:=hset.2 _ (List.getElem_mem hi)
      have e5:idx g (row g v)[i]=some (row g ((row g v)[i]).toNat):=by
       have:=Cx (g:=g) (v:=((row g v)[i]).toNat) (by omega)
       rwa [show ((((row g v)[i]).toNat:Nat):Int)=(row g v)[i] by omega] at this
      have hs:=h.row (v:=((row g v)[i]).toNat) (by omega)
      simp only[Cx hv,bs,dlt hi,cond_true,AP hi,e5,Ev _ _ hs,wi (show i<4611686018427387904 by have:=h.row hv;unfold Sh at this;omega),AQ hi]
      cases decide ((v:Int)∈row g ((row g v)[i]).toNat)<;>rfl
     ·simp only[Cx hv,bs,Bq,cond_false]
     ·rw[Ec (row g v) (λx=>decide ((v:Int)∈row g x.toNat)) _ (λi hi=>by rw[AQ hi]),wi' hv (by omega)]
      cases (row g v).all λx=>decide ((v:Int)∈row g x.toNat)<;>rfl
    ·simp only[Bq,cond_false]
  ·simp only[dlt hv,cond_true,Cx hv,bs,l1Set_eq _ _ (h.row hv) (show (0:Int)≤(g.length:Int) by omega) (by omega),Ev _ _ (h.row hv),wi' hv (by omega)]
   cases Dz (row g v) g.length
   ·rfl
   ·cases decide ((v:Int)∈row g v)<;>rfl
 ·have e:(decide ((1:Int)≤(g.length:Int))&&decide ((g.length:Int)≤16))=false:=by
   rw[Bool.eq_false_iff];simp;omega
  simp only[e,Bool.not_false,cond_true]
  unfold gB
  congr 1
  symm
  rw[Bool.eq_false_iff]
  simp
  omega
theorem B7 (g:LL)(h:Sh2 g):D.e g=some (gB g):=by
 have hl:g.length≤4294967296:=h.1
 unfold D.e
 by_cases hn:1≤g.length∧g.length≤16
 ·have e:(decide ((g.length:Int)<(1:Int))||decide ((16:Int)<(g.length:Int)))=false:=by simp;omega
  simp only[e,cond_false]
  refine(EQ g.length (λv=>Dz (row g v) g.length&& !decide ((v:Int)∈row g v)) (.inl ()) (.inr false) (λv hv=> ?_) ?_).trans ?_
  rotate_left
  ·simp only[Bq,cond_false]
  ·show cond (gB1 g) _ _=_
   have e4:gB g=(gB1 g&&gB2 g):=by unfold gB;simp[hn.1,hn.2]
   rw[e4]
   cases hc:gB1 g with
   |false=>rfl
   |true=>
    rw[cond_true,Bool.true_and]
    refine Cj g.length _ false (λv hv=> ?_) ?_ rfl rfl
    ·have hset:SetOf (row g v) g.length:=by
      have:=(Di _ _).1 hc v hv
      simp only[Bool.and_eq_true] at this
      exact(Dl _ _).1 this.1
     simp only[dlt hv,cond_true,Cx hv,bs]
     refine(EQ (row g v).length (λi=>decide ((v:Int)∈row g ((row g v).getD i 0).toNat)) (.inl ()) (.inr false) (λi hi=> ?_) ?_).trans ?_
     ·have hx:=hset.2 _ (List.getElem_mem hi)
      have e5:idx g (row g v)[i]=some (row g ((row g v)[i]).toNat):=by
       have:=Cx (g:=g) (v:=((row g v)[i]).toNat) (by omega)
       rwa [show ((((row g v)[i]).toNat:Nat):Int)=(row g v)[i] by omega] at this
      have hs:=h.row (v:=((row g v)[i]).toNat) (by omega)
      simp only[bs,dlt hi,cond_true,AP hi,e5,E4 _ _ hs,wi (show i<4611686018427387904 by have:=h.row hv;unfold Sh at this;omega),AQ hi]
      cases decide ((v:Int)∈row g ((row g v)[i]).toNat)<;>rfl
     ·simp only[Bq,cond_false]
     ·rw[Ec (row g v) (λx=>decide ((v:Int)∈row g x.toNat)) _ (λi hi=>by rw[AQ hi]),wi' hv (by omega)]
      cases (row g v).all λx=>decide ((v:Int)∈row g x.toNat)<;>rfl
    ·simp only[Bq,cond_false]
  ·simp only[dlt hv,cond_true,Cx hv,bs,Dy _ _ (h.row hv) (show (0:Int)≤(g.length:Int) by omega) (by omega),E4 _ _ (h.row hv),wi' hv (by omega)]
   cases Dz (row g v) g.length
   ·rfl
   ·cases decide ((v:Int)∈row g v)<;>rfl
 ·have e:(decide ((g.length:Int)<(1:Int))||decide ((16:Int)<(g.length:Int)))=true:=by
   simp;omega
  simp only[e,cond_true]
  unfold gB
  congr 1
  symm
  rw[Bool.eq_false_iff]
  simp
  omega
structure OOk (g:LL)(o:LI):Prop where
 len:o.length=g.length
 rng:∀x∈o,0≤x∧x<g.length
 nd:o.Nodup
def oB (g:LL)(o:LI):Bool:=(List.range o.length).all λi=>(decide (0≤o.getD i 0)&&decide (o.getD i 0≤(g.length:Int)-1))&& !decide (o.getD i 0∈o.take i)
theorem mem_take_iff {α:Type}{l:List α}{i:Nat}{x:α}:x∈l.take i↔∃j,∃h:j<l.length,j<i∧l[j]=x:=by
 rw[List.mem_take_iff_getElem]
 constructor
 ·rintro⟨j,h,e⟩;exact⟨j,by omega,by omega,e⟩
 ·rintro⟨j,h,h2,e⟩;exact⟨j,by omega,e⟩
theorem nodup_iff {l:LI}:l.Nodup↔∀i (hi:i<l.length),l[i]∉l.take i:=by
 constructor
 ·intro h i hi hm
  obtain⟨j,hj,hji,e⟩:=mem_take_iff.1 hm
  have:=(List.pairwise_iff_getElem.1 h) j i hj hi hji
  exact this e
 ·intro h
  refine List.pairwise_iff_getElem.2 (λi j hi hj hij e=>h j hj (mem_take_iff.2 ⟨i,hi,hij,e⟩))
theorem oB_iff (g:LL)(o:LI)(hl:o.length=g.length):oB g o=true↔OOk g o:=by
 unfold oB
 rw[Di]
 constructor
 ·intro h
  refine⟨hl,λx hx=> ?_,nodup_iff.2 λi hi=> ?_⟩
  ·obtain⟨i,hi,rfl⟩:=List.getElem_of_mem hx
   have:=h i hi
   rw[AQ hi] at this
   simp at this;omega
  ·have:=h i hi
   rw[AQ hi] at this
   simp at this;exact this.2
 ·intro h i hi
  have h1:=h.rng _ (List.getElem_mem hi)
  have h2:=nodup_iff.1 h.nd i hi
  rw[AQ hi]
  simp[h2];omega
def ordB (g:LL)(o:LI):Bool:=decide (o.length=g.length)&&oB g o
theorem ordB_iff (g:LL)(o:LI):ordB g o=true↔OOk g o:=by
 unfold ordB
 by_cases hl:o.length=g.length
 ·simp[hl,oB_iff g o hl]
 ·simp[hl];intro h;exact hl h.len
theorem sorted_inc {y:LI}(hs:Srt y 0 y.length)(hn:y.Nodup):Inc y:=by
 unfold Inc
 rw[List.pairwise_iff_getElem]
 intro i j hi hj hij
 have h1:=hs i j (by omega) (by omega) (by omega)
 have h2:=(List.pairwise_iff_getElem.1 hn) i j hi hj hij
 simp[at',hi,hj] at h1
 have:y[i]≠y[j]:=h2
 omega
theorem Fi (g:LL)(o:LI)(h:Sh2 g)(ho:Sh o):D.p1 g o=some (gB g&&ordB g o):=by
 unfold D.p1
 rw[B7 g h,bs]
 cases hg:gB g
 ·rfl
 ·have hg':=(gB_iff g).1 hg
  by_cases hl:o.length=g.length
  ·have e:((o.length:Int) !=(g.length:Int))=false:=by simp[hl]
   have h16:=hg'.n16
   obtain⟨y,h1,h2,h3⟩:=Fc o (by omega)
   have hyl:=h2.length_eq
   simp only[Bool.not_true,e,Bool.or_false,cond_false,h1,bs,Bool.true_and]
   rw[Dy y _ (by unfold Sh;omega) (by omega) (by omega),bs]
   congr 1
   unfold ordB
   simp only[hl,decide_true,Bool.true_and]
   rw[Bool.eq_iff_iff,Dl,oB_iff g o hl]
   constructor
   ·rintro⟨k1,k2⟩
    refine⟨hl,λx hx=>k2 x (h2.mem_iff.2 hx),h2.nodup_iff.1 ?_⟩
    exact List.Pairwise.imp (λh e=>by omega) k1
   ·intro k
    exact⟨sorted_inc h3 (h2.nodup_iff.2 k.nd),λx hx=>k.rng x (h2.mem_iff.1 hx)⟩
  ·have e:((o.length:Int) !=(g.length:Int))=true:=by simp;omega
   simp[e,ordB,hl]
theorem Ck (v:Nat):D.b (v:Int)=some (ishl .u32 1 (v:Int)):=by
 unfold D.b
 have:decide ((v:Int)<0)=false:=by simp
 rw[this];rfl
theorem impl_one_eq' {x:Int}(h:0≤x):D.b x=some (ishl .u32 1 x):=by
 have:=Ck x.toNat
 rwa [show ((x.toNat:Nat):Int)=x by omega] at this
def mk (xs:LI):Int:=xs.foldl (λs v=>ior .u32 s (ishl .u32 1 v)) 0
theorem maskOf_eq (xs:LI)(h:Sh xs)(h0:∀x∈xs,0≤x):D.x0 xs=some (mk xs):=by
 unfold Sh at h
 unfold D.x0
 refine(loop_listb xs (λs i=>(s,i)) (λs v=>ior .u32 s (ishl .u32 1 v)) (λs=>s) (λ_=>True) 0 trivial (λs i hi _=>⟨?_,trivial⟩) (λs _=> ?_)).trans rfl
 ·simp only[dlt hi,cond_true,AP hi,bs,wi' hi (by omega),impl_one_eq' (h0 _ (List.getElem_mem hi))]
 ·simp only[Bq,cond_false]
theorem EL :∀(xs:LI) (s:Int),VS s→VS (xs.foldl (λs v=>ior .u32 s (ishl .u32 1 v)) s)
 |[],s,h=>h
 |x::xs,s,_=>EL xs _ (VS.ior _ _)
theorem VS.mk (xs:LI):VS (mk xs):=EL xs 0 VS.zero
theorem EB (u:Nat):∀(xs:LI) (s:Int),VS s→(∀x∈xs,0≤x∧x<32)→has (xs.foldl (λs v=>ior .u32 s (ishl .u32 1 v)) s) u=(has s u||decide ((u:Int)∈xs))
 |[],s,_,_=>by simp
 |x::xs,s,hs,h=>by
  have hx:=h x (by simp)
  rw[List.foldl_cons,EB u xs _ (VS.ior _ _) (λy hy=>h y (by simp[hy])),B6 hs (VS.ishl _ _)]
  obtain⟨k,rfl⟩:∃k:Nat,x=k:=⟨x.toNat,by omega⟩
  rw[BE (by omega)]
  by_cases hu:u=k
  ·subst hu;simp
  ·have:¬(u:Int)=(k:Int):=by omega
   simp[hu,this]
theorem has_mk {xs:LI}(h:∀x∈xs,0≤x∧x<32)(u:Nat):has (mk xs) u=decide ((u:Int)∈xs):=by
 unfold mk;rw[EB u xs 0 VS.zero h,BL,Bool.false_or]
theorem GOk.mem0 {g:LL}(hg:GOk g){r:LI}(hr:r∈g):r.length≤16∧∀x∈r,0≤x∧x<g.length:=by
 obtain⟨v,hv,rfl⟩:=List.getElem_of_mem hr
 rw[←row_eq hv]
 exact⟨hg.row_len hv,(hg.rows v hv).2⟩
theorem ED (g:LL)(hg:GOk g):D.A g=some (g.map mk):=by
 have h16:=hg.n16
 unfold D.A
 refine(Es g (λs i=>(s,i)) mk (by omega) (λs i hi _=> ?_) (λs=> ?_)).trans rfl
 ·obtain⟨h1,h2⟩:=hg.mem0 (List.getElem_mem hi)
  simp only[dlt hi,cond_true,AP hi,bs,wi' hi (by omega),maskOf_eq g[i] (by unfold Sh;omega) (λx hx=>(h2 x hx).1)]
 ·simp only[Bq,cond_false]
theorem narrow_eq (xs:LI)(h:Sh xs):D.v1 xs=some xs:=by
 unfold Sh at h
 unfold D.v1
 rw[makeD_zero (by omega) (by omega),bs]
 refine(Es xs (λs i=>(s,i)) (λx=>x) h (λs i hi _=> ?_) (λs=> ?_)).trans (by simp)
 ·simp only[dlt hi,cond_true,AP hi,bs,wi' hi (by omega)]
 ·simp only[Bq,cond_false]
theorem wide_eq (xs:LI)(h:Sh xs):D.l0 xs=some xs:=by
 unfold Sh at h
 unfold D.l0
 rw[makeD_zero (by omega) (by omega),bs]
 refine(Es xs (λs i=>(s,i)) (λx=>x) h (λs i hi _=> ?_) (λs=> ?_)).trans (by simp)
 ·simp only[dlt hi,cond_true,AP hi,bs,wi' hi (by omega)]
 ·simp only[Bq,cond_false]
theorem least_eq {s:Int}(h:VS s)(h0:s≠0):∃k:Nat,k<32∧D.v s=some (k:Int)∧has s k=true∧(∀v,v<k→has s v=false)∧
  (∀v,has (iand .u32 s (IntKind.u32.wrap (s-1))) v=(has s v&& !decide (v=k))):=by
 obtain⟨k,h1,h2,h3,h4,h5⟩:=least_spec h h0
 refine⟨k,h1,?_,h2,h3,h5⟩
 unfold D.v D.m1
 have e:(s==0)=false:=by simpa using h0
 simp only[e,cond_false,h4,tz_table k h1,bs]
 rw[w64 (by omega) (by omega)]
theorem list_eq (s:Int)(h:VS s):D.m s=some (AY s):=by
 unfold D.m
 have key:∀(n:Nat) (x:Int) (l:LI),VS x→(AY x).length=n→l.length+n≤32→
   Aq (σ:=Int×LI) (ρ:=(LI)) (fun(s_52:Int×LI)=>match s_52 with|(x_55,l_56)=>cond (x_55 !=0) ((D.v x_55).bind λy_88=>(A8 l_56 ([y_88]:LI)).bind λl_99=>some (.inl ((iand .u32 x_55 (IntKind.u32.wrap (x_55-1))),l_99))) (some (.inr l_56))) (x,l)=some (l++AY x):=by
  intro n
  induction n with
  |zero=>
   intro x l hx hn _
   have e:AY x=[]:=List.eq_nil_of_length_eq_zero hn
   have e0:x=0:=hx.eq_zero.2 λv hv=>by
    cases hc:has x v
    ·rfl
    ·have:=mem_elems.2 ⟨v,hv,hc,rfl⟩;rw[e] at this;simp at this
   rw[e]
   refine Bp ?_
   have:(x !=0)=false:=by simp[e0]
   simp only[this,cond_false,List.append_nil]
  |succ n ih=>
   intro x l hx hn hl
   have h0:x≠0:=by rintro rfl;rw[elems_zero] at hn;simp at hn
   obtain⟨k,h1,h2,h3,h4,h5⟩:=least_eq hx h0
   have e:=Fb h1 h3 h4 h5
   have en:(AY (iand .u32 x (IntKind.u32.wrap (x-1)))).length=n:=by rw[e] at hn;simpa using hn
   have hstep:=ih (iand .u32 x (IntKind.u32.wrap (x-1))) (l++[(k:Int)]) (VS.iand _ _) en (by simp;omega)
   have e1:(x !=0)=true:=by simpa using h0
   rw[BU (s':=(iand .u32 x (IntKind.u32.wrap (x-1)),l++[(k:Int)]))]
   ·rw[hstep,e];simp
   ·simp only[e1,cond_true,h2,bs,Bm (xs:=l) (ys:=[(k:Int)]) (by simp;omega)]
 have:=key (AY s).length s [] h rfl (by simpa using D3 s)
 rw[this];simp
theorem elems_sh (s:Int):Sh (AY s):=by have:=D3 s;unfold Sh;omega
theorem numbers_eq (s:Int)(h:VS s):D.s0 s=some (AY s):=by
 unfold D.s0
 rw[list_eq s h,bs,wide_eq _ (elems_sh s)];rfl
theorem l1Copy_eq (xs:LI)(h:Sh xs):D.e0 xs=some xs:=by
 unfold Sh at h
 unfold D.e0
 rw[Bm (by simpa using h)];rfl
def into (xs:LI)(n:Int):LI:=if n∈xs then xs else xs.takeWhile (λx=>decide (x<n))++n::xs.dropWhile (λx=>decide (x<n))
theorem mem_into {xs:LI}{n x:Int}:x∈into xs n↔x=n∨x∈xs:=by
 unfold into
 split
 ·constructor
  ·intro h;exact .inr h
  ·rintro(rfl|h)
   ·assumption
   ·exact h
 ·have e:x∈xs↔x∈xs.takeWhile (λx=>decide (x<n))++xs.dropWhile (λx=>decide (x<n)):=by rw[List.takeWhile_append_dropWhile]
  rw[e];simp only[List.mem_append,List.mem_cons]
  constructor
  ·rintro(h|h|h)<;>simp[h]
  ·rintro(h|h|h)<;>simp[h]
theorem EA {xs:LI}{n:Int}(h:Inc xs):∀y∈xs.dropWhile (λx=>decide (x<n)),n≤y:=by
 induction xs with
 |nil=>simp
 |cons x xs ih=>
  have h':=List.pairwise_cons.1 h
  intro y hy
  rw[List.dropWhile_cons] at hy
  split at hy
  ·exact ih h'.2 y hy
  ·rename_i hc
   simp at hc
   rcases List.mem_cons.1 hy with rfl|hy
   ·exact hc
   ·have:=h'.1 y hy;omega
theorem inc_takeWhile {xs:LI}{n:Int}:∀y∈xs.takeWhile (λx=>decide (x<n)),y<n:=by
 intro y hy
 induction xs with
 |nil=>simp at hy
 |cons x xs ih=>
  rw[List.takeWhile_cons] at hy
  split at hy
  ·rename_i hc
   rcases List.mem_cons.1 hy with rfl|hy
   ·simpa using hc
   ·exact ih hy
  ·simp at hy
theorem Inc.into {xs:LI}(h:Inc xs)(n:Int):Inc (into xs n):=by
 unfold Sx.into
 split
 ·exact h
 ·rename_i hn
  unfold Inc
  rw[List.pairwise_append]
  refine⟨List.Pairwise.sublist (List.takeWhile_sublist _) h,List.pairwise_cons.2 ⟨λy hy=> ?_,List.Pairwise.sublist (List.dropWhile_sublist _) h⟩,λa ha b hb=> ?_⟩
  ·have h1:=EA h y hy
   have h2:y≠n:=λe=>hn (e▸(List.dropWhile_sublist _).mem hy)
   omega
  ·have h1:=inc_takeWhile a ha
   rcases List.mem_cons.1 hb with rfl|hb
   ·exact h1
   ·have:=EA h b hb;omega
theorem CU {α:Type}(p:α→Bool):∀(xs:List α),xs.takeWhile p=xs.take (xs.takeWhile p).length∧xs.dropWhile p=xs.drop (xs.takeWhile p).length
 |[]=>by simp
 |x::xs=>by
  rw[List.takeWhile_cons,List.dropWhile_cons]
  cases p x
  ·simp
  ·have:=CU p xs
   simp only[if_true,List.length_cons,List.take_succ_cons,List.drop_succ_cons,←this.1,←this.2,and_self]
theorem C6 {α:Type}(p:α→Bool):∀(xs:List α) (i:Nat) (h:i<(xs.takeWhile p).length) (h':i<xs.length),p xs[i]=true
 |x::xs,i,h,h'=>by
  rw[List.takeWhile_cons] at h
  cases hp:p x
  ·rw[hp] at h;simp at h
  ·rw[hp] at h
   cases i with
   |zero=>simpa using hp
   |succ i=>simp only[if_true,List.length_cons] at h;simpa using C6 p xs i (by omega) (by simpa using h')
theorem Dm {α:Type}(p:α→Bool):∀(xs:List α) (h:(xs.takeWhile p).length<xs.length),p (xs[(xs.takeWhile p).length])=false
 |x::xs,h=>by
  cases hp:p x
  ·simp[List.takeWhile_cons,hp]
  ·have h2:(xs.takeWhile p).length<xs.length:=by simpa [List.takeWhile_cons,hp] using h
   simpa [List.takeWhile_cons,hp] using Dm p xs h2
theorem Fg {α:Type}(p:α→Bool)(xs:List α):(xs.takeWhile p).length≤xs.length:=(List.takeWhile_sublist _).length_le
theorem l1Into_eq (xs:LI)(n:Int)(h:Inc xs)(hl:xs.length≤4294967295):D.I xs n=some (into xs n):=by
 unfold D.I
 generalize hk:(xs.takeWhile (λx=>decide (x<n))).length=k
 have hkl:k≤xs.length:=by rw[←hk];exact Fg _ _
 have htk:xs.takeWhile (λx=>decide (x<n))=xs.take k:=by rw[←hk];exact(CU _ xs).1
 have hdk:xs.dropWhile (λx=>decide (x<n))=xs.drop k:=by rw[←hk];exact(CU _ xs).2
 refine(DJ (λi=>((i:Nat):Int)) k (k:Int) rfl (λi hi=> ?_) ?_).trans ?_
 ·have hi':i<xs.length:=by omega
  have hp:decide (xs[i]<n)=true:=C6 (λx=>decide (x<n)) xs i (by omega) hi'
  simp only[dlt hi',cond_true,AP hi',bs,hp,wq i]
 ·by_cases hlt:k<xs.length
  ·have hp:decide (xs[k]<n)=false:=by
    have:=Dm (λx=>decide (x<n)) xs (by omega)
    simp only[hk] at this;exact this
   simp only[dlt hlt,cond_true,AP hlt,bs,hp,cond_false]
  ·obtain rfl:k=xs.length:=by omega
   simp only[Bq,cond_false,bs]
 ·have hS1:Sh (xs.take k):=by unfold Sh;rw[List.length_take];omega
  have hrest:((BP xs 0 (k:Int)).bind λl_135=>(D.e0 l_135).bind λy_139=>(A8 y_139 ([n]:LI)).bind λl_154=>(BP xs (k:Int) (xs.length:Int)).bind λl_160=>(A8 l_154 l_160).bind λl_164=>some l_164)=some (xs.take k++n::xs.drop k):=by
   simp only[DI hkl,Ea hkl,bs,l1Copy_eq _ hS1]
   rw[Bm (by simp;omega),bs,Bm (by simp;omega),bs]
   simp
  by_cases hlt:k<xs.length
  ·simp only[dlt hlt,cond_true,AP hlt,bs]
   by_cases he:xs[k]=n
   ·have hm:n∈xs:=by rw[←he];exact List.getElem_mem _
    have:(xs[k]==n)=true:=by simp[he]
    simp only[this,cond_true]
    unfold into;rw[if_pos hm]
   ·have:(xs[k]==n)=false:=by simpa using he
    simp only[this,cond_false,hrest]
    unfold into
    rw[htk,hdk,if_neg]
    intro hm
    obtain⟨j,hj,e⟩:=List.getElem_of_mem hm
    have hst:decide (xs[k]<n)=false:=by
     have:=Dm (λx=>decide (x<n)) xs (by omega)
     simp only[hk] at this;exact this
    simp at hst
    rcases Nat.lt_trichotomy j k with h1|h1|h1
    ·have:=C6 (λx=>decide (x<n)) xs j (by omega) hj
     simp at this;omega
    ·subst h1;exact he e
    ·have:=(List.pairwise_iff_getElem.1 h) k j hlt hj h1
     omega
  ·obtain rfl:k=xs.length:=by omega
   simp only[Bq,cond_false,bs,hrest]
   unfold into
   rw[htk,hdk,if_neg]
   intro hm
   obtain⟨j,hj,e⟩:=List.getElem_of_mem hm
   have:=C6 (λx=>decide (x<n)) xs j (by omega) hj
   simp at this;omega
end Go.Sx



namespace Go.Sx
structure DK (b:LI)(i:Int):Prop where
 byte:∀x∈b,0≤x∧x≤255
 len:b.length≤4096
 i0:0≤i
 i1:i≤b.length
theorem iand_u64_le (a:Int)(n:Nat)(hn:n<18446744073709551616):0≤iand .u64 a (n:Int)∧iand .u64 a (n:Int)≤n:=by
 have e:(BitVec.ofInt 64 (n:Int)).toNat=n:=by rw[BitVec.toNat_ofInt];omega
 have h:(BitVec.ofInt 64 a&&&BitVec.ofInt 64 (n:Int)).toNat≤n:=by
  rw[BitVec.toNat_and,e];exact Nat.and_le_right
 have w:∀m:Nat,m<18446744073709551616→IntKind.u64.wrap (m:Int)=m:=λm hm=>by
  simp[IntKind.wrap,IntKind.signed,IntKind.bits];omega
 have e2:iand .u64 a (n:Int)=(((BitVec.ofInt 64 a&&&BitVec.ofInt 64 (n:Int)).toNat:Nat):Int):=by
  show IntKind.u64.wrap (((BitVec.ofInt 64 a&&&BitVec.ofInt 64 (n:Int)).toNat:Nat):Int)=_
  exact w _ (by omega)
 rw[e2];omega
theorem tmod_rng {x n:Int}(hx:0≤x)(hn:0<n):0≤Int.tmod x n∧Int.tmod x n<n:=
 ⟨Int.tmod_nonneg _ hx,Int.tmod_lt_of_pos _ hn⟩
theorem below_ok {b:LI}{i:Int}(h:DK b i)(z n:Int)(hn:0<n):∃r i' z',D.F b i z n=some (r,b,i',z')∧0≤r∧r<n∧DK b i':=by
 obtain⟨h1,h2,h3,h4⟩:=h
 unfold D.F
 have hn0:(n==0)=false:=by simp;omega
 have hc:∀y:Int,0≤iand .u64 y 16777215∧iand .u64 y 16777215≤16777215:=λy=>iand_u64_le y 16777215 (by omega)
 by_cases hi:i<b.length
 ·have hb:=h1 _ (List.getElem_mem (show i.toNat<b.length by omega))
  simp only[hi,decide_true,cond_true,idx_int h3 hi,bs,hn0,cond_false]
  have hy:=hc (Bv .u64 (IntKind.u64.wrap ((IntKind.u64.wrap (z*6364136223846793005))+1442695040888963407)) 33)
  generalize iand .u64 (Bv .u64 (IntKind.u64.wrap ((IntKind.u64.wrap (z*6364136223846793005))+1442695040888963407)) 33) 16777215=y at hy ⊢
  rw[w64 (x:=y) (by omega) (by omega),w64 (x:=b[i.toNat]) (by omega) (by omega),w64 (x:=y+b[i.toNat]) (by omega) (by omega),w64 (x:=i+1) (by omega) (by omega)]
  have hr:=tmod_rng (x:=y+b[i.toNat]) (n:=n) (by omega) hn
  exact⟨_,_,_,rfl,hr.1,hr.2,h1,h2,by omega,by omega⟩
 ·simp only[hi,decide_false,cond_false,hn0]
  have hy:=hc (Bv .u64 (IntKind.u64.wrap ((IntKind.u64.wrap (z*6364136223846793005))+1442695040888963407)) 33)
  generalize iand .u64 (Bv .u64 (IntKind.u64.wrap ((IntKind.u64.wrap (z*6364136223846793005))+1442695040888963407)) 33) 16777215=y at hy ⊢
  rw[w64 (x:=y) (by omega) (by omega)]
  have hr:=tmod_rng (x:=y) (n:=n) (by omega) hn
  exact⟨_,_,_,rfl,hr.1,hr.2,h1,h2,h3,h4⟩
theorem below_then {b:LI}{i:Int}(h:DK b i)(z n:Int)(hn:0<n):∃y,D.F b i z n=some y∧(0≤y.1∧y.1<n∧y.2.1=b∧DK b y.2.2.1):=by
 obtain⟨r,i',z',e,h1,h2,h3⟩:=below_ok h z n hn
 exact⟨_,e,h1,h2,rfl,h3⟩
theorem roll_ok (code:LI)(seed:Int)(h:∀x∈code,0≤x∧x≤255)(hl:code.length≤4096):∃z,D.r0 code seed=some (code,0,z)∧DK code 0:=by
 unfold D.r0
 refine⟨_,(loop_listb code (λs i=>(i,s)) (λs e=>IntKind.u64.wrap ((IntKind.u64.wrap ((IntKind.u64.wrap (s*1099511628211))+(IntKind.u64.wrap e)))+3)) (λs=>s) (λ_=>True) _ trivial (λs i hi _=>⟨?_,trivial⟩) (λs _=> ?_)).trans rfl,h,hl,by omega,by omega⟩
 ·simp only[dlt hi,cond_true,AP hi,bs,wq i]
 ·simp only[Bq,cond_false]
theorem l1Empty_eq (n:Nat)(hn:n≤16):D.N0 (n:Int)=some (List.replicate n []):=by
 unfold D.N0
 refine(DJ (λi=>((i:Int),List.replicate i [])) n (List.replicate n []) (by simp) (λi hi=> ?_) ?_).trans rfl
 ·simp only[dlt hi,cond_true,wq i]
  rw[Bm (by simp;omega),bs,←List.replicate_succ']
 ·simp only[Bq,cond_false]
theorem row_set {g:LL}{u v:Nat}{r:LI}(hu:u<g.length):row (g.set u r) v=if v=u then r else row g v:=by
 unfold row
 by_cases h:v=u
 ·subst h;simp[hu]
 ·rw[if_neg h,List.getD_eq_getElem?_getD,List.getElem?_set_ne (λe=>h e.symm),←List.getD_eq_getElem?_getD]
theorem l1Link_ok {g:LL}(hg:GOk g){u v:Nat}(hu:u<g.length)(hv:v<g.length)(huv:u≠v):
  ∃g',D.p0 g (u:Int) (v:Int)=some g'∧GOk g'∧g'.length=g.length∧∀a b,adj g' a b↔adj g a b∨(a=u∧b=v)∨(a=v∧b=u):=by
 have h16:=hg.n16
 have hru:=hg.rows u hu;have hrv:=hg.rows v hv
 have hlu:=hg.row_len hu;have hlv:=hg.row_len hv
 refine⟨(g.set u (into (row g u) v)).set v (into (row g v) u),?_,?_⟩
 ·unfold D.p0
  have e1:row (g.set u (into (row g u) v)) v=row g v:=by rw[row_set hu,if_neg (Ne.symm huv)]
  simp only[Cx hu,bs,l1Into_eq _ _ hru.1 (show (row g u).length≤4294967295 by omega),Int.toNat_natCast]
  rw[Cx (show v<(g.set u (into (row g u) v)).length by simpa using hv),e1]
  simp only[bs,l1Into_eq _ _ hrv.1 (show (row g v).length≤4294967295 by omega)]
 ·have hrow:∀w,row ((g.set u (into (row g u) v)).set v (into (row g v) u)) w=if w=v then into (row g v) u else if w=u then into (row g u) v else row g w:=by
   intro w
   rw[row_set (by simpa using hv),row_set hu]
  have hadj:∀a b,adj ((g.set u (into (row g u) v)).set v (into (row g v) u)) a b↔adj g a b∨(a=u∧b=v)∨(a=v∧b=u):=by
   intro a b
   unfold adj
   rw[hrow]
   by_cases ha:a=v
   ·subst ha
    rw[if_pos rfl,mem_into]
    constructor
    ·rintro(h|h)
     ·exact .inr (.inr ⟨rfl,by omega⟩)
     ·exact .inl h
    ·rintro(h|⟨h,_⟩|⟨_,h⟩)
     ·exact .inr h
     ·exact absurd h.symm huv
     ·exact .inl (by omega)
   ·rw[if_neg ha]
    by_cases ha':a=u
    ·subst ha'
     rw[if_pos rfl,mem_into]
     constructor
     ·rintro(h|h)
      ·exact .inr (.inl ⟨rfl,by omega⟩)
      ·exact .inl h
     ·rintro(h|⟨_,h⟩|⟨h,_⟩)
      ·exact .inr h
      ·exact .inl (by omega)
      ·exact absurd h ha
    ·rw[if_neg ha']
     constructor
     ·exact .inl
     ·rintro(h|⟨h,_⟩|⟨h,_⟩)
      ·exact h
      ·exact absurd h ha'
      ·exact absurd h ha
  refine⟨⟨by simpa using hg.n1,by simpa using h16,λw hw=> ?_,λw hw=> ?_,λa b ha hab=> ?_⟩,by simp,hadj⟩
  ·simp only[List.length_set] at hw ⊢
   rw[hrow]
   split
   ·refine⟨hrv.1.into _,λx hx=> ?_⟩
    rcases mem_into.1 hx with rfl|hx
    ·omega
    ·exact hrv.2 x hx
   ·split
    ·refine⟨hru.1.into _,λx hx=> ?_⟩
     rcases mem_into.1 hx with rfl|hx
     ·omega
     ·exact hru.2 x hx
    ·exact hg.rows w hw
  ·simp only[List.length_set] at hw
   rw[hadj]
   rintro(h|⟨h1,h2⟩|⟨h1,h2⟩)
   ·exact hg.irr w hw h
   ·omega
   ·omega
  ·simp only[List.length_set] at ha
   rw[hadj] at hab ⊢
   rcases hab with h|h|h
   ·exact .inl (hg.sym a b ha h)
   ·exact .inr (.inr ⟨h.2,h.1⟩)
   ·exact .inr (.inl ⟨h.2,h.1⟩)
theorem GOk.empty {n:Nat}(h1:1≤n)(h16:n≤16):GOk (List.replicate n []):=by
 have hr:∀v,row (List.replicate n []) v=[]:=λv=>by
  unfold row
  rw[List.getD_eq_getElem?_getD,List.getElem?_replicate];split<;>rfl
 refine⟨by simpa using h1,by simpa using h16,λv _=> ?_,λv _=> ?_,λu v _ h=> ?_⟩
 ·rw[hr];exact⟨by simp[Inc],by simp⟩
 ·unfold adj;rw[hr];simp
 ·unfold adj at h;rw[hr] at h;simp at h
theorem insert_perm (o:LI)(c:Nat)(v:Int):(o.take c++[v]++o.drop c).Perm (v::o):=by
 rw[List.append_assoc]
 have h1:(o.take c++([v]++o.drop c)).Perm (v::(o.take c++o.drop c)):=List.perm_middle
 rwa [List.take_append_drop] at h1
theorem w9Order_ok {b:LI}{i:Int}(h:DK b i)(z:Int)(n:Nat)(h16:n≤16):
  ∃y,D.R b i z (n:Int)=some y∧(y.1.length=n∧(∀x∈y.1,0≤x∧x<n)∧y.1.Nodup∧y.2.1=b∧DK b y.2.2.1):=by
 unfold D.R
 refine A2 (λs=>∃v:Nat,s.2.1=(v:Int)∧v≤n∧s.2.2.1=b∧DK b s.2.2.2.1∧s.1.length=v∧(∀x∈s.1,0≤x∧x<v)∧s.1.Nodup) (λs=>n-s.2.1.toNat)
  (λr=>r.1.length=n∧(∀x∈r.1,0≤x∧x<n)∧r.1.Nodup∧r.2.1=b∧DK b r.2.2.1) ?_ ⟨0,rfl,by omega,rfl,h,rfl,by simp,by simp⟩ ?_
 ·rintro⟨o,_,_,i,z⟩ ⟨v,rfl,hv,rfl,hk,hl,hr,hn⟩
  dsimp only at hk hl hr hn ⊢
  by_cases hvn:v<n
  ·have ew:IntKind.i64.wrap ((o.length:Int)+1)=(v:Int)+1:=by rw[w64 (by omega) (by omega)];omega
   simp only[dlt hvn,cond_true,ew]
   refine BW _ (below_then hk z ((v:Int)+1) (by omega)) ?_
   rintro⟨t,b3,i3,z3⟩ ⟨t0,t1,rfl,hk'⟩
   dsimp only at t0 t1 hk' ⊢
   obtain⟨c,rfl⟩:∃c:Nat,t=c:=⟨t.toNat,by omega⟩
   have hc:c≤o.length:=by omega
   simp only[DI hc,Ea hc,bs]
   rw[Bm (by simp;omega),bs,Bm (by simp;omega),bs,Bm (by simp;omega),bs,wq v]
   have hp:=insert_perm o c v
   rw[List.nil_append]
   refine⟨_,rfl,⟨v+1,rfl,by omega,rfl,hk',by rw[hp.length_eq];simp;omega,λx hx=> ?_,hp.nodup_iff.2 (List.nodup_cons.2 ⟨λhm=>by have:=hr _ hm;omega,hn⟩)⟩,by dsimp only;omega⟩
   rcases List.mem_cons.1 (hp.mem_iff.1 hx) with rfl|hx
   ·omega
   ·have:=hr x hx;omega
  ·obtain rfl:v=n:=by omega
   simp only[Bq,cond_false]
   exact⟨_,rfl,hl,hr,hn,rfl,hk⟩
 ·rintro⟨o,b3,i3,z3⟩ ⟨h1,h2,h3,rfl,h5⟩
  exact⟨_,rfl,h1,h2,h3,rfl,h5⟩
end Go.Sx



namespace Go.Sx
theorem ext_getD {a b:LI}(hl:a.length=b.length)(h:∀j,j<a.length→a.getD j 0=b.getD j 0):a=b:=by
 apply List.ext_getElem hl
 intro j h1 h2
 have:=h j h1
 rwa [AQ h1,AQ h2] at this
theorem DW (l:LI)(i j:Nat)(x:Int)(hi:i<l.length):(l.set i x).getD j 0=if j=i then x else l.getD j 0:=by
 simp only[List.getD_eq_getElem?_getD,List.getElem?_set]
 by_cases h:j=i
 ·subst h;simp[hi]
 ·rw[if_neg (λe=>h e.symm),if_neg h]
def nb (F:LI)(u w:Nat):Bool:=has (F.getD u 0) w
structure FOk (F:LI)(n:Nat):Prop where
 len:F.length=n
 vs:∀u,u<n→VS (F.getD u 0)
 lt:∀u w,u<n→nb F u w=true→w<n
 irr:∀u,u<n→nb F u u=false
 sym:∀u w,u<n→nb F u w=true→nb F w u=true
theorem FOk.ext {F F':LI}{n:Nat}(h:F.length=n)(h':F'.length=n)(v:∀u,u<n→VS (F.getD u 0))(v':∀u,u<n→VS (F'.getD u 0))(e:∀u w,u<n→nb F u w=nb F' u w):F=F':=by
 refine ext_getD (by omega) (λj hj=> ?_)
 exact(v j (by omega)).ext (v' j (by omega)) (λw _=>e j w (by omega))
theorem Dt (g:LL)(u:Nat):(g.map mk).getD u 0=mk (row g u):=by
 unfold row
 simp only[List.getD_eq_getElem?_getD,List.getElem?_map]
 cases g[u]? with
 |none=>simp[mk]
 |some r=>rfl
theorem Cg {g:LL}(hg:GOk g){u w:Nat}(hu:u<g.length):nb (g.map mk) u w=true↔adj g u w:=by
 have h16:=hg.n16
 unfold nb
 rw[Dt,has_mk (λx hx=>by have:=(hg.rows u hu).2 x hx;omega)]
 simp[adj]
theorem FOk.of {g:LL}(hg:GOk g):FOk (g.map Sx.mk) g.length:=by
 refine⟨by simp,λu _=>by rw[Dt];exact VS.mk _,λu w hu h=>hg.lt hu ((Cg hg hu).1 h),λu hu=> ?_,λu w hu h=> ?_⟩
 ·cases h:nb (g.map Sx.mk) u u
  ·rfl
  ·exact absurd ((Cg hg hu).1 h) (hg.irr u hu)
 ·have ha:=(Cg hg hu).1 h
  exact(Cg hg (hg.lt hu ha)).2 (hg.sym u w hu ha)
def grow (F:LI):LL:=F.map AY
theorem row_grow (F:LI)(u:Nat):row (grow F) u=AY (F.getD u 0):=by
 unfold row grow
 simp only[List.getD_eq_getElem?_getD,List.getElem?_map]
 cases F[u]? with
 |none=>simp[elems_zero]
 |some r=>rfl
theorem Cm {F:LI}{n u w:Nat}(h:FOk F n)(hu:u<n):adj (grow F) u w↔nb F u w=true:=by
 unfold adj nb
 rw[row_grow,BB (h.vs u hu)]
theorem GOk.grow {F:LI}{n:Nat}(h:FOk F n)(h1:1≤n)(h16:n≤16):GOk (grow F):=by
 have hl:(Sx.grow F).length=n:=by unfold Sx.grow;rw[List.length_map,h.len]
 refine⟨by omega,by omega,λv hv=> ?_,λv hv ha=> ?_,λu v hu ha=> ?_⟩
 ·rw[row_grow,hl]
  refine⟨CA _,λx hx=> ?_⟩
  obtain⟨w,_,h2,rfl⟩:=mem_elems.1 hx
  have:=h.lt v w (by omega) h2
  omega
 ·rw[Cm h (by omega)] at ha
  rw[h.irr v (by omega)] at ha;cases ha
 ·rw[Cm h (by omega)] at ha
  have:=h.lt u v (by omega) ha
  rw[Cm h (by omega)]
  exact h.sym u v (by omega) ha
theorem mk_elems {s:Int}(h:VS s):mk (AY s)=s:=by
 refine(VS.mk _).ext h (λv hv=> ?_)
 rw[has_mk (λx hx=>by obtain⟨w,h1,_,rfl⟩:=mem_elems.1 hx;omega),Bool.eq_iff_iff,decide_eq_true_eq,BB h]
theorem grow_mk {F:LI}{n:Nat}(h:FOk F n):(grow F).map mk=F:=by
 refine ext_getD (by simp[grow]) (λj hj=> ?_)
 rw[Dt,row_grow,mk_elems (h.vs j (by simp[grow,h.len] at hj;omega))]
theorem all_mask :∀n:Fin 17,∀v:Fin 32,has (IntKind.u32.wrap (ishl .u32 1 (n.val:Int)-1)) v.val=decide (v.val<n.val):=by decide+kernel
def PEO (F:LI)(o:LI):Prop:=∀(j:Nat) (v u w:Nat),o[j]? =some (v:Int)→nb F v u=true→nb F v w=true→(u:Int)∉o.take (j+1)→(w:Int)∉o.take (j+1)→u≠w→nb F u w=true
def Lat (F L:LI)(o:LI)(i:Nat):Prop:=∀(j:Nat) (v:Nat),j<i→o[j]? =some (v:Int)→∀w,nb L v w=(nb F v w&&decide ((w:Int)∉o.take (j+1)))
inductive Via (F:LI)(gone:Nat→Prop)(u:Nat):Nat→Prop
 |me:Via F gone u u
 |step {x y:Nat}:Via F gone u x→nb F x y=true→gone y→Via F gone u y
theorem Via.mono {F:LI}{g g':Nat→Prop}{u x:Nat}(h:Via F g u x)(hg:∀y,g y→g' y):Via F g' u x:=by
 induction h with
 |me=>exact .me
 |step _ h1 h2 ih=>exact .step ih h1 (hg _ h2)
theorem Via.end_ {F:LI}{g:Nat→Prop}{u x:Nat}(h:Via F g u x):x=u∨g x:=by
 cases h with
 |me=>exact .inl rfl
 |step _ _ h2=>exact .inr h2
theorem Via.lt {F:LI}{n:Nat}(hF:FOk F n){g:Nat→Prop}{u x:Nat}(hu:u<n)(h:Via F g u x):x<n:=by
 induction h with
 |me=>exact hu
 |step _ h1 _ ih=>exact hF.lt _ _ ih h1
theorem Via.back {F:LI}{n:Nat}(hF:FOk F n){g g':Nat→Prop}(hg:∀y,g y→g' y){v x:Nat}(hv:v<n)(hgv:g' v)(h:Via F g v x):∀z,Via F g' z x→Via F g' z v:=by
 induction h with
 |me=>exact λz h=>h
 |step hx h1 h2 ih=>
  intro z hz
  have hxn:=Via.lt hF hv hx
  refine ih z (.step hz (hF.sym _ _ hxn h1) ?_)
  rcases hx.end_ with e|e
  ·rw[e];exact hgv
  ·exact hg _ e
def Bhd (F:LI)(gone:Nat→Prop)(v w:Nat):Prop:=∃x,Via F gone v x∧nb F x w=true
structure EInv (n:Nat)(F0 o:LI)(i:Nat)(F L:LI)(left:Int):Prop where
 f:FOk F n
 lenL:L.length=n
 vsL:∀u,u<n→VS (L.getD u 0)
 vsl:VS left
 left:∀v,has left v=decide (v<n∧(v:Int)∉o.take i)
 mono:∀u w,u<n→nb F0 u w=true→nb F u w=true
 lat:Lat F L o i
 peo:∀(j:Nat) (v u w:Nat),j<i→o[j]? =some (v:Int)→nb F v u=true→nb F v w=true→(u:Int)∉o.take (j+1)→(w:Int)∉o.take (j+1)→u≠w→nb F u w=true
 same:PEO F0 o→F=F0
 via:∀u w:Nat,u<n→(u:Int)∉o.take i→(w:Int)∉o.take i→u≠w→(nb F u w=true↔Bhd F0 (λx=>(x:Int)∈o.take i) u w)
 latb:∀(j:Nat) (v:Nat),j<i→o[j]? =some (v:Int)→∀w:Nat,nb L v w=true↔(w:Int)∉o.take (j+1)∧Bhd F0 (λx=>(x:Int)∈o.take j) v w
theorem C4 {o:LI}{j i:Nat}(h:j≤i){x:Int}(hx:x∈o.take j):x∈o.take i:=by
 rw[mem_take_iff] at hx ⊢
 obtain⟨k,h1,h2,h3⟩:=hx
 exact⟨k,h1,by omega,h3⟩
theorem EInv.step {n:Nat}{F0 o F L:LI}{i v:Nat}{left:Int}(h16:n≤16)(h0:FOk F0 n)(hn:∀x∈o,0≤x∧x<n)(hnd:o.Nodup)(hi:i<o.length)(hv:o[i]=(v:Int))(h:EInv n F0 o i F L left){F':LI}
  (hl':F'.length=n) (hv':∀u,u<n→VS (F'.getD u 0)) (h':∀u w,u<n→nb F' u w=(nb F u w||(has (iand .u32 (F.getD v 0) (iandNot .u32 left (ishl .u32 1 (v:Int)))) u&&has (iand .u32 (F.getD v 0) (iandNot .u32 left (ishl .u32 1 (v:Int)))) w&&decide (w≠u)))):
  EInv n F0 o (i+1) F' (L.set v (iand .u32 (F.getD v 0) (iandNot .u32 left (ishl .u32 1 (v:Int))))) (iandNot .u32 left (ishl .u32 1 (v:Int))):=by
 have hvn:v<n:=by have:=hn _ (List.getElem_mem hi);omega
 have hvt:(v:Int)∉o.take i:=by rw[←hv];exact nodup_iff.1 hnd i hi
 have htk:∀x:Nat,((x:Int)∈o.take (i+1))↔((x:Int)∈o.take i∨x=v):=λx=>by
  rw[List.take_succ_eq_append_getElem hi,List.mem_append,hv];simp[Int.natCast_inj]
 have hleft:∀w,has (iandNot .u32 left (ishl .u32 1 (v:Int))) w=decide (w<n∧(w:Int)∉o.take (i+1)):=λw=>by
  rw[Bt h.vsl (VS.ishl _ _),BE (by omega),h.left,Bool.eq_iff_iff]
  simp only[Bool.and_eq_true,decide_eq_true_eq,Bool.not_eq_true',decide_eq_false_iff_not,htk]
  constructor
  ·rintro⟨⟨a,b⟩,c⟩;exact⟨a,λhh=>hh.elim b c⟩
  ·rintro⟨a,b⟩;exact⟨⟨a,λhh=>b (.inl hh)⟩,λhh=>b (.inr hh)⟩
 have hS:∀w,has (iand .u32 (F.getD v 0) (iandNot .u32 left (ishl .u32 1 (v:Int)))) w=(nb F v w&&decide ((w:Int)∉o.take (i+1))):=λw=>by
  rw[has_iand (h.f.vs v hvn) (VS.iandNot _ _),hleft,Bool.eq_iff_iff]
  show (nb F v w&&_)=true↔_
  simp only[Bool.and_eq_true,decide_eq_true_eq]
  exact⟨fun⟨a,b,c⟩=>⟨a,c⟩,fun⟨a,c⟩=>⟨a,h.f.lt v w hvn a,c⟩⟩
 have hlV:VS (iandNot .u32 left (ishl .u32 1 (v:Int))):=VS.iandNot _ _
 generalize iandNot .u32 left (ishl .u32 1 (v:Int))=left' at*
 generalize hSS:iand .u32 (F.getD v 0) left'=S at*
 have hSV:VS S:=by rw[←hSS];exact VS.iand _ _
 have hSlt:∀w,has S w=true→w<n∧(w:Int)∉o.take (i+1):=λw hw=>by
  rw[hS] at hw
  simp only[Bool.and_eq_true,decide_eq_true_eq] at hw
  exact⟨h.f.lt v w hvn hw.1,hw.2⟩
 have hmono:∀u w,u<n→nb F u w=true→nb F' u w=true:=λu w hu hh=>by rw[h' u w hu,hh];rfl
 have hold:∀x:Nat,x<n→(x:Int)∈o.take (i+1)→∀w,nb F' x w=nb F x w:=λx hx hm w=>by
  rw[h' x w hx]
  have:has S x=false:=by
   cases hc:has S x
   ·rfl
   ·exact absurd hm (hSlt x hc).2
  simp[this]
 have hf':FOk F' n:=by
  refine⟨hl',hv',λu w hu hh=> ?_,λu hu=> ?_,λu w hu hh=> ?_⟩
  ·rw[h' u w hu] at hh
   simp only[Bool.or_eq_true,Bool.and_eq_true] at hh
   rcases hh with hh|⟨⟨_,hh⟩,_⟩
   ·exact h.f.lt u w hu hh
   ·exact(hSlt w hh).1
  ·rw[h' u u hu,h.f.irr u hu];simp
  ·rw[h' u w hu] at hh
   simp only[Bool.or_eq_true,Bool.and_eq_true,decide_eq_true_eq] at hh
   rcases hh with hh|⟨⟨h1,h2⟩,h3⟩
   ·exact hmono w u (h.f.lt u w hu hh) (h.f.sym u w hu hh)
   ·rw[h' w u (hSlt w h2).1,h1,h2]
    have:decide (u≠w)=true:=by simpa using λe=>h3 e.symm
    simp[this]
 have hjv:∀j (x:Nat),o[j]? =some (x:Int)→j<o.length∧x<n∧(x:Int)∈o.take (j+1):=λj x hx=>by
  obtain⟨h1,h2⟩:=List.getElem?_eq_some_iff.1 hx
  have:=hn _ (List.getElem_mem h1)
  refine⟨h1,by omega,?_⟩
  rw[mem_take_iff];exact⟨j,h1,by omega,h2⟩
 refine⟨hf',by simp[h.lenL],λu hu=> ?_,hlV,hleft,λu w hu hh=>hmono u w hu (h.mono u w hu hh),λj x hj hx w=> ?_,λj x u w hj hx h1 h2 h3 h4 h5=> ?_,λhp=> ?_,λu w hu k1 k2 huw=> ?_,λj x hj hx w=> ?_⟩
 ·rw[DW _ _ _ _ (by rw[h.lenL];exact hvn)]
  split
  ·exact hSV
  ·exact h.vsL u hu
 ·obtain⟨k1,k2,k3⟩:=hjv j x hx
  have k4:=C4 (show j+1≤i+1 by omega) k3
  rw[hold x k2 k4 w]
  unfold nb
  rw[DW _ _ _ _ (by rw[h.lenL];exact hvn)]
  by_cases hji:j=i
  ·subst hji
   rw[List.getElem?_eq_getElem hi,hv] at hx
   have:x=v:=by
    have:(v:Int)=(x:Int):=by simpa using hx
    omega
   subst this
   rw[if_pos rfl,hS];rfl
  ·have hne:x≠v:=λe=>by
    subst e
    exact hvt (C4 (show j+1≤i by omega) k3)
   rw[if_neg hne]
   exact h.lat j x (by omega) hx w
 ·obtain⟨k1,k2,k3⟩:=hjv j x hx
  have k4:=C4 (show j+1≤i+1 by omega) k3
  rw[hold x k2 k4] at h1 h2
  by_cases hji:j=i
  ·subst hji
   rw[List.getElem?_eq_getElem hi,hv] at hx
   have:x=v:=by
    have:(v:Int)=(x:Int):=by simpa using hx
    omega
   subst this
   have hu:has S u=true:=by rw[hS,h1];simpa using h3
   have hw:has S w=true:=by rw[hS,h2];simpa using h4
   rw[h' u w (hSlt u hu).1,hu,hw]
   have:decide (w≠u)=true:=by simpa using λe=>h5 e.symm
   simp[this]
  ·exact hmono u w (h.f.lt x u k2 h1) (h.peo j x u w (by omega) hx h1 h2 h3 h4 h5)
 ·have hFF:=h.same hp
  subst hFF
  refine FOk.ext hl' h.f.len hv' h.f.vs (λu w hu=> ?_)
  rw[h' u w hu,Bool.eq_iff_iff]
  simp only[Bool.or_eq_true,Bool.and_eq_true,decide_eq_true_eq]
  constructor
  ·rintro(hh|⟨⟨h1,h2⟩,h3⟩)
   ·exact hh
   ·have k1:=(hSlt u h1).2;have k2:=(hSlt w h2).2
    rw[hS] at h1 h2
    simp only[Bool.and_eq_true] at h1 h2
    exact hp i v u w (by rw[List.getElem?_eq_getElem hi,hv]) h1.1 h2.1 k1 k2 (λe=>h3 e.symm)
  ·exact .inl
 ·have q1:(u:Int)∉o.take i:=λe=>k1 ((htk u).2 (.inl e))
  have q2:(w:Int)∉o.take i:=λe=>k2 ((htk w).2 (.inl e))
  have huv:u≠v:=λe=>k1 ((htk u).2 (.inr e))
  have hwv:w≠v:=λe=>k2 ((htk w).2 (.inr e))
  have hgg:∀y:Nat,(y:Int)∈o.take i→(y:Int)∈o.take (i+1):=λy hy=>(htk y).2 (.inl hy)
  rw[h' u w hu]
  simp only[Bool.or_eq_true,Bool.and_eq_true,decide_eq_true_eq]
  constructor
  ·rintro(hh|⟨⟨a1,a2⟩,_⟩)
   ·obtain⟨x,hx,e⟩:=(h.via u w hu q1 q2 huw).1 hh
    exact⟨x,hx.mono hgg,e⟩
   ·rw[hS] at a1 a2
    simp only[Bool.and_eq_true,decide_eq_true_eq] at a1 a2
    obtain⟨x,hx,ex⟩:=(h.via v u hvn hvt q1 (λe=>huv e.symm)).1 a1.1
    obtain⟨y,hy,ey⟩:=(h.via v w hvn hvt q2 (λe=>hwv e.symm)).1 a2.1
    have hvg:(v:Int)∈o.take (i+1):=(htk v).2 (.inr rfl)
    have hxn:=Via.lt h0 hvn hx
    have hxg:(x:Int)∈o.take (i+1):=by
     rcases hx.end_ with e|e
     ·rw[e];exact hvg
     ·exact hgg x e
    have hux:Via F0 (λx=>(x:Int)∈o.take (i+1)) u x:= .step .me (h0.sym x u hxn ex) hxg
    have huv':=Via.back h0 (g':=λx=>(x:Int)∈o.take (i+1)) hgg hvn hvg hx u hux
    have hgo:∀y,Via F0 (λx=>(x:Int)∈o.take i) v y→Via F0 (λx=>(x:Int)∈o.take (i+1)) u y:=λy hy=>by
     induction hy with
     |me=>exact huv'
     |step _ b1 b2 ih=>exact .step ih b1 (hgg _ b2)
    exact⟨y,hgo y hy,ey⟩
  ·rintro⟨x,hx,ex⟩
   have hcl:∀x,Via F0 (λx=>(x:Int)∈o.take (i+1)) u x→Via F0 (λx=>(x:Int)∈o.take i) u x∨(Bhd F0 (λx=>(x:Int)∈o.take i) u v∧Via F0 (λx=>(x:Int)∈o.take i) v x):=λx hx=>by
    induction hx with
    |me=>exact .inl .me
    | @step a b _ b1 b2 ih=>
     rcases(htk b).1 b2 with b2|b2
     ·rcases ih with ih|⟨ih1,ih2⟩
      ·exact .inl (.step ih b1 b2)
      ·exact .inr ⟨ih1,.step ih2 b1 b2⟩
     ·rcases ih with ih|⟨ih1,ih2⟩
      ·subst b2;exact .inr ⟨⟨a,ih,b1⟩,.me⟩
      ·subst b2;exact .inr ⟨ih1,.me⟩
   rcases hcl x hx with hx|⟨hx1,hx2⟩
   ·exact .inl ((h.via u w hu q1 q2 huw).2 ⟨x,hx,ex⟩)
   ·right
    have a1:=(h.via u v hu q1 hvt huv).2 hx1
    have a2:=(h.via v w hvn hvt q2 (λe=>hwv e.symm)).2 ⟨x,hx2,ex⟩
    refine⟨⟨?_,?_⟩,λe=>huw e.symm⟩
    ·rw[hS,h.f.sym u v hu a1];simpa using k1
    ·rw[hS,a2];simpa using k2
 ·obtain⟨k1,k2,k3⟩:=hjv j x hx
  unfold nb
  rw[DW _ _ _ _ (by rw[h.lenL];exact hvn)]
  by_cases hji:j=i
  ·subst hji
   rw[List.getElem?_eq_getElem hi,hv] at hx
   have:x=v:=by
    have:(v:Int)=(x:Int):=by simpa using hx
    omega
   subst this
   rw[if_pos rfl,hS,Bool.and_eq_true,decide_eq_true_eq]
   constructor
   ·rintro⟨b1,b2⟩
    have b3:(w:Int)∉o.take j:=λe=>b2 ((htk w).2 (.inl e))
    have b4:x≠w:=λe=>b2 ((htk w).2 (.inr e.symm))
    exact⟨b2,(h.via x w hvn hvt b3 b4).1 b1⟩
   ·rintro⟨b2,b1⟩
    have b3:(w:Int)∉o.take j:=λe=>b2 ((htk w).2 (.inl e))
    have b4:x≠w:=λe=>b2 ((htk w).2 (.inr e.symm))
    exact⟨(h.via x w hvn hvt b3 b4).2 b1,b2⟩
  ·have hne:x≠v:=λe=>by
    subst e
    exact hvt (C4 (show j+1≤i by omega) k3)
   rw[if_neg hne]
   exact h.latb j x (by omega) hx w
def cnt (n k:Nat):Nat:=((List.range k).filter (λi=>n.testBit i)).length
theorem cnt_add (n a b:Nat):cnt n (a+b)=cnt n a+cnt (n>>>a) b:=by
 unfold cnt
 rw[List.range_add,List.filter_append,List.length_append,List.filter_map,List.length_map]
 congr 2
 apply List.filter_congr
 intro i _
 simp[Nat.testBit_shiftRight]
theorem cnt_mod (n k:Nat):cnt (n%2^k) k=cnt n k:=by
 unfold cnt
 congr 1
 apply List.filter_congr
 intro i hi
 have:=List.mem_range.1 hi
 rw[Nat.testBit_mod_two_pow];simp[this]
theorem elems_length (n:Nat):(AY (n:Int)).length=cnt n 32:=by
 unfold AY cnt
 rw[List.length_map]
 rfl
theorem pop_all :∀b:Fin 256,D7 Ej (b.val:Int)=some ((cnt b.val 8:Nat):Int):=by decide+kernel
theorem pop_at {b:Nat}(h:b<256):D7 Ej (b:Int)=some ((cnt b 8:Nat):Int):=pop_all ⟨b,h⟩
theorem cnt_le (n k:Nat):cnt n k≤k:=by
 unfold cnt
 exact Nat.le_trans (List.length_filter_le _ _) (by simp)
theorem wrap8 {x:Int}(h0:0≤x)(h:x<256):IntKind.u8.wrap x=x:=by
 simp[IntKind.wrap,IntKind.signed,IntKind.bits];omega
theorem OnesCount32_eq {s:Int}(h:VS s):D.K0 s=some ((AY s).length:Int):=by
 obtain⟨n,rfl,hn⟩:=h.nat
 have s24:Bv .u32 (n:Int) 24=((n>>>24:Nat):Int):=shr_eq (n:Int) 24 h (by omega)
 have s16:Bv .u32 (n:Int) 16=((n>>>16:Nat):Int):=shr_eq (n:Int) 16 h (by omega)
 have s8:Bv .u32 (n:Int) 8=((n>>>8:Nat):Int):=shr_eq (n:Int) 8 h (by omega)
 have lt:∀k,n>>>k<4294967296:=λk=>by
  rw[Nat.shiftRight_eq_div_pow];exact Nat.lt_of_le_of_lt (Nat.div_le_self _ _) hn
 have a255:∀m:Nat,m<4294967296→iand .u32 (m:Int) 255=((m%256:Nat):Int):=λm hm=>by
  have:=Er hm (show (255:Nat)<4294967296 by omega)
  rw[show ((255:Nat):Int)=255 from rfl] at this
  rw[this]
  congr 1
  exact Nat.and_two_pow_sub_one_eq_mod (n:=8) m
 have h24:n>>>24<256:=by rw[Nat.shiftRight_eq_div_pow];exact Nat.div_lt_of_lt_mul (by simpa using hn)
 have ec:cnt n 32=cnt (n%256) 8+cnt (n>>>8%256) 8+cnt (n>>>16%256) 8+cnt (n>>>24) 8:=by
  rw[show (32:Nat)=8+(8+(8+8)) from rfl,cnt_add n 8,cnt_add _ 8,cnt_add _ 8]
  have e1:=cnt_mod n 8;have e2:=cnt_mod (n>>>8) 8;have e3:=cnt_mod (n>>>16) 8
  simp only[show (2:Nat)^8=256 from rfl] at e1 e2 e3
  rw[e1,e2,e3]
  simp only[←Nat.shiftRight_add,Nat.reduceAdd]
  omega
 unfold D.K0
 rw[s24,s16,s8,a255 _ (lt 16),a255 _ (lt 8),a255 n hn,pop_at h24,pop_at (Nat.mod_lt _ (by omega)),pop_at (Nat.mod_lt _ (by omega)),pop_at (Nat.mod_lt _ (by omega))]
 simp only[bs]
 have c1:=cnt_le (n>>>24) 8;have c2:=cnt_le (n>>>16%256) 8;have c3:=cnt_le (n>>>8%256) 8;have c4:=cnt_le (n%256) 8
 generalize cnt (n>>>24) 8=a at*;generalize cnt (n>>>16%256) 8=b at*;generalize cnt (n>>>8%256) 8=c at*;generalize cnt (n%256) 8=d at*
 rw[wrap8 (x:=(a:Int)+b) (by omega) (by omega),wrap8 (x:=(a:Int)+b+c) (by omega) (by omega),wrap8 (x:=(a:Int)+b+c+d) (by omega) (by omega),w64 (by omega) (by omega),elems_length,ec]
 congr 1
 omega
theorem size_eq {s:Int}(h:VS s):D.q0 s=some ((AY s).length:Int):=by
 unfold D.q0;rw[OnesCount32_eq h];rfl
theorem Ca :∀{l m:LI},l.Nodup→(∀x∈l,x∈m)→l.length≤m.length
 |[],_,_,_=>by simp
 |x::l,m,h,hs=>by
  have h':=List.nodup_cons.1 h
  have hx:=hs x (by simp)
  have:=Ca (l:=l) (m:=m.erase x) h'.2 (λy hy=>by
   have hne:y≠x:=λe=>h'.1 (e▸hy)
   exact(List.mem_erase_of_ne hne).2 (hs y (by simp[hy])))
  rw[List.length_erase_of_mem hx] at this
  have hp:0<m.length:=List.length_pos_of_mem hx
  simp;omega
theorem Inc.nodup {l:LI}(h:Inc l):l.Nodup:=List.Pairwise.imp (λh e=>by omega) h
def withV (bags:LL)(v:Int):LI:=((List.range bags.length).filter λb=>decide (v∈bags.getD b [])).map Int.ofNat
theorem mem_withV {bags:LL}{v x:Int}:x∈withV bags v↔∃b:Nat,x=b∧b<bags.length∧v∈bags.getD b []:=by
 unfold withV
 rw[List.mem_map]
 constructor
 ·rintro⟨b,hb,rfl⟩
  rw[List.mem_filter,List.mem_range] at hb
  exact⟨b,rfl,hb.1,of_decide_eq_true hb.2⟩
 ·rintro⟨b,rfl,h1,h2⟩
  exact⟨b,List.mem_filter.2 ⟨List.mem_range.2 h1,decide_eq_true h2⟩,rfl⟩
def Lk (links:LL)(x y:Int):Prop:=[x,y]∈links∨[y,x]∈links
structure Closed (links:LL)(sel m:LI):Prop where
 sub:∀x∈m,x∈sel
 first:∀x,sel.head? =some x→x∈m
 step:∀x∈m,∀y∈sel,Lk links x y→y∈m
def Conn (links:LL)(sel:LI):Prop:=∀m,Closed links sel m→∀x∈sel,x∈m
def LinkIn (n:Nat)(l:LI):Prop:=∃a b:Nat,l=[(a:Int),(b:Int)]∧a<b∧b<n
structure TB (g bags links:LL):Prop where
 n1:1≤bags.length
 n16:bags.length≤16
 many:links.length+1=bags.length
 lks:∀l∈links,LinkIn bags.length l
 sets:∀b∈bags,SetOf b g.length
 tree:Conn links ((List.range bags.length).map Int.ofNat)
 edges:∀u v:Nat,u<g.length→adj g u v→∃b∈bags,(u:Int)∈b∧(v:Int)∈b
 some:∀v,v<g.length→withV bags v≠[]
 conn:∀v,v<g.length→Conn links (withV bags v)
def rowF (r:LI)(u:Nat)(s:LL):LL:=(List.range r.length).foldl (λs i=>if(u:Int)<r.getD i 0 then s++[[(u:Int),r.getD i 0]] else s) s
theorem inner_edges (r:LI)(u:Nat)(s0:LL)(h:s0.length+r.length≤4294967296){step:LL×Int→Option ((LL×Int) ⊕ LL)}
  (hstep:∀s (i:Nat) (hi:i<r.length),step (s,(i:Int))=cond (decide ((u:Int)<r[i])) ((A8 s [[(u:Int),r[i]]]).bind λl=>some (.inl (l,((i+1:Nat):Int)))) (some (.inl (s,((i+1:Nat):Int)))))
  (hend:∀s,step (s,(r.length:Int))=some (.inr s)):Aq step (s0,0)=some (rowF r u s0)∧(rowF r u s0).length≤s0.length+r.length:=by
 have key:=loop_nat (step:=step) r.length (λs i=>(s,i)) (λs i=>if(u:Int)<r.getD i 0 then s++[[(u:Int),r.getD i 0]] else s) (λs=>s) (λi s=>s.length≤s0.length+i) s0 (by omega)
  (λs i hi hs=> ?_) (λs _=>hend s)
 ·exact key
 ·have hg:r.getD i 0=r[i]:=AQ hi 0
  refine⟨?_,?_⟩
  ·rw[hstep s i hi,hg]
   by_cases hc:(u:Int)<r[i]
   ·rw[decide_eq_true hc,cond_true,Bm (by simp;omega),if_pos hc];rfl
   ·rw[decide_eq_false hc,cond_false,if_neg hc]
  ·rw[hg]
   split
   ·rw[List.length_append,List.length_singleton];omega
   ·omega
def edgesF (g:LL):LL:=(List.range g.length).foldl (λs u=>rowF (row g u) u s) []
theorem Fk (g:LL)(hg:GOk g):D.w1 g=some (edgesF g):=by
 have h16:=hg.n16
 unfold D.w1
 have key:=loop_nat (ρ:=LL) (step:=(fun(s_288:LL×Int)=>match s_288 with|(l_291,x_296)=>cond (decide (x_296<(g.length:Int))) ((idx g x_296).bind λe_441=>(Aq (σ:=LL×Int) (ρ:=(LL)) (fun(s_508:LL×Int)=>match s_508 with|(l_511,x_516)=>cond (decide (x_516<(e_441.length:Int))) ((idx e_441 x_516).bind λe_551=>cond (decide (x_296<e_551)) ((A8 l_511 ([([x_296,e_551]:LI)]:LL)).bind λl_569=>some (.inl (l_569,(IntKind.i64.wrap (x_516+1))))) (some (.inl (l_511,(IntKind.i64.wrap (x_516+1)))))) (some (.inr l_511))) (l_291,0)).bind λl_544=>some (.inl (l_544,(IntKind.i64.wrap (x_296+1))))) (some (.inr l_291))))
  g.length (λs i=>(s,i)) (λs u=>rowF (row g u) u s) (λs=>s) (λi s=>s.length≤16*i) [] (by simp) (λs u hu hs=> ?_) (λs _=> ?_)
 ·exact congrArg (λz=>Option.bind z λl=>some l) key.1
 ·have hr:=hg.row_len hu
  obtain⟨k1,k2⟩:=inner_edges (row g u) u s (by omega) (step:=(fun(s_508:LL×Int)=>match s_508 with|(l_511,x_516)=>cond (decide (x_516<((row g u).length:Int))) ((idx (row g u) x_516).bind λe_551=>cond (decide ((u:Int)<e_551)) ((A8 l_511 ([([(u:Int),e_551]:LI)]:LL)).bind λl_569=>some (.inl (l_569,(IntKind.i64.wrap (x_516+1))))) (some (.inl (l_511,(IntKind.i64.wrap (x_516+1)))))) (some (.inr l_511)))) (λs i hi=>by
    simp only[dlt hi,cond_true,AP hi,bs,wq i]) (λs=>by simp only[Bq,cond_false])
  refine⟨?_,by omega⟩
  simp only[dlt hu,cond_true,Cx hu,bs,wq u]
  exact(congrArg (λz=>Option.bind z _) k1).trans rfl
 ·simp only[Bq,cond_false]
theorem GOk.sh2 {g:LL}(hg:GOk g):Sh2 g:=by
 have h16:=hg.n16
 exact⟨by unfold Sh;omega,λr hr=>by have:=(hg.mem0 hr).1;unfold Sh;omega⟩
theorem CR {g:LL}(hg:GOk g):gB g=true:=(gB_iff g).2 hg
theorem DA (g:LL)(hg:GOk g):D.q1 g=some ((edgesF g).length:Int):=by
 unfold D.q1 D.C1
 rw[B7 g hg.sh2,CR hg,bs,Bool.not_true,cond_false,Fk g hg];rfl
theorem Ex (F:LI)(h:F.length≤16)(hV:∀u,u<F.length→VS (F.getD u 0)):D.a0 F=some (grow F):=by
 unfold D.a0
 refine(Es F (λs i=>(i,s)) AY (by omega) (λs i hi _=> ?_) (λs=> ?_)).trans rfl
 ·have:=hV i hi
  rw[AQ hi] at this
  simp only[dlt hi,cond_true,AP hi,bs,numbers_eq _ this,wq i]
 ·simp only[Bq,cond_false]
theorem OOk.sh {g:LL}{o:LI}(hg:GOk g)(ho:OOk g o):Sh o:=by
 have:=hg.n16;have:=ho.len;unfold Sh;omega
theorem E2 {g:LL}{o:LI}(hg:GOk g)(ho:OOk g o):D.p1 g o=some true:=by
 rw[Fi g o hg.sh2 (ho.sh hg),CR hg,(ordB_iff g o).2 ho];rfl
structure Fill (g:LL)(o F L:LI):Prop where
 elim:D.A1 (g.map mk) o=some (F,L)
 f:FOk F g.length
 lenL:L.length=g.length
 vsL:∀u,u<g.length→VS (L.getD u 0)
 mono:∀u w,u<g.length→adj g u w→nb F u w=true
 lat:Lat F L o g.length
 peo:PEO F o
 same:PEO (g.map mk) o→F=g.map mk
 latb:∀(j:Nat) (v:Nat),o[j]? =some (v:Int)→∀w:Nat,nb L v w=true↔(w:Int)∉o.take (j+1)∧Bhd (g.map mk) (λx=>(x:Int)∈o.take j) v w
theorem Fill.FillOf {g:LL}{o F L:LI}(hg:GOk g)(ho:OOk g o)(h:Fill g o F L):D.s1 g o=some (grow F,true):=by
 have h16:=hg.n16
 unfold D.s1
 rw[E2 hg ho,bs,Bool.not_true,cond_false,ED g hg,bs,narrow_eq o (ho.sh hg),bs,h.elim,bs,Ex F (by rw[h.f.len];omega) (λu hu=>h.f.vs u (by rw[h.f.len] at hu;exact hu))]
 rfl
theorem Fill.gok {g:LL}{o F L:LI}(hg:GOk g)(h:Fill g o F L):GOk (grow F):=GOk.grow h.f hg.n1 hg.n16
theorem grow_len (F:LI):(grow F).length=F.length:=by simp[grow]
theorem l1Edge_eq (g:LL)(hg:GOk g){u:Nat}(hu:u<g.length)(w:Int):D.J0 g (u:Int) w=some (decide (w∈row g u)):=by
 unfold D.J0
 rw[Cx hu,bs,Ev _ _ (hg.sh2.row hu)];rfl
def sumN (f:Nat→Nat):Nat→Nat
 |0=>0
 |n+1=>sumN f n+f n
def bit (b:Bool):Nat:=if b then 1 else 0
def S2 (n:Nat)(p:Nat→Nat→Bool):Nat:=sumN (λu=>sumN (λw=>bit (p u w)) n) n
def ast (f:Int→Int)(s:Int×Int)(v:Int):Int×Int:=if s.1<0∨f v<s.2 then(v,f v) else s
def amin (f:Int→Int)(l:LI):Int×Int:=l.foldl (ast f) (-1,0)
theorem ast_run (f:Int→Int):∀(l:LI) (b:Int),0≤b→(∀x∈l,0≤x)→∃c,l.foldl (ast f) (b,f b)=(c,f c)∧(c=b∨c∈l)∧0≤c∧f c≤f b∧∀x∈l,f c≤f x
 |[],b,hb,_=>⟨b,rfl,.inl rfl,hb,Int.le_refl _,by simp⟩
 |x::l,b,hb,hl=>by
  have hx:=hl x (by simp)
  have hl':=λy hy=>hl y (List.mem_cons_of_mem x hy)
  rw[List.foldl_cons]
  by_cases hc:f x<f b
  ·have e:ast f (b,f b) x=(x,f x):=by unfold ast;rw[if_pos (.inr hc)]
   rw[e]
   obtain⟨c,h1,h2,h3,h4,h5⟩:=ast_run f l x hx hl'
   refine⟨c,h1,.inr ?_,h3,by omega,λy hy=> ?_⟩
   ·rcases h2 with rfl|h2
    ·simp
    ·exact List.mem_cons_of_mem _ h2
   ·rcases List.mem_cons.1 hy with rfl|hy
    ·exact h4
    ·exact h5 y hy
  ·have e:ast f (b,f b) x=(b,f b):=by unfold ast;rw[if_neg (λh=>h.elim (λh=>by dsimp only at h;omega) hc)]
   rw[e]
   obtain⟨c,h1,h2,h3,h4,h5⟩:=ast_run f l b hb hl'
   refine⟨c,h1,?_,h3,h4,λy hy=> ?_⟩
   ·rcases h2 with h2|h2
    ·exact .inl h2
    ·exact .inr (List.mem_cons_of_mem _ h2)
   ·rcases List.mem_cons.1 hy with rfl|hy
    ·omega
    ·exact h5 y hy
theorem ast_first (f:Int→Int)(x:Int):ast f (-1,0) x=(x,f x):=by unfold ast;rw[if_pos (.inl (by decide))]
theorem amin_ok (f:Int→Int){l:LI}(hne:l≠[])(hl:∀x∈l,0≤x):∃c,amin f l=(c,f c)∧c∈l∧∀x∈l,f c≤f x:=by
 cases l with
 |nil=>exact absurd rfl hne
 |cons x l=>
  unfold amin
  rw[List.foldl_cons,ast_first]
  obtain⟨c,h1,h2,h3,h4,h5⟩:=ast_run f l x (hl x (by simp)) (λy hy=>hl y (List.mem_cons_of_mem _ hy))
  refine⟨c,h1,?_,λy hy=> ?_⟩
  ·rcases h2 with rfl|h2
   ·simp
   ·exact List.mem_cons_of_mem _ h2
  ·rcases List.mem_cons.1 hy with rfl|hy
   ·exact h4
   ·exact h5 y hy
theorem elems_nonneg (s:Int):∀x∈AY s,0≤x:=λx hx=>by
 obtain⟨v,_,_,rfl⟩:=mem_elems.1 hx;omega
def full (n:Nat):Int:=IntKind.u32.wrap (ishl .u32 1 (n:Int)-1)
theorem full_vs (n:Nat):VS (full n):=VS.wrap _
theorem has_full {n:Nat}(h:n≤16)(v:Nat):has (full n) v=decide (v<n):=by
 by_cases hv:v<32
 ·exact all_mask ⟨n,by omega⟩ ⟨v,hv⟩
 ·rw[ET (full_vs n) (by omega)];symm;simp;omega
theorem nets_all_full (F:LI):D.K F=some (full F.length):=by
 unfold D.K D.Z0
 have:decide ((F.length:Int)<0)=false:=by simp
 rw[this];rfl
theorem EZ (x:LI)(h:Sh x):D.E0 x x=some true:=by
 unfold Sh at h
 unfold D.E0
 have e:((x.length:Int) !=(x.length:Int))=false:=by simp
 rw[e,cond_false]
 refine(Cj x.length (λ_=>true) false (λi hi=> ?_) ?_ rfl rfl).trans (by simp)
 ·simp only[dlt hi,cond_true,AP hi,bs,wi' hi (by omega)]
  simp
 ·simp only[Bq,cond_false]
theorem EqualFunc_self (g:LL)(h:Sh2 g):D.L0 g g=some true:=by
 have hl:g.length≤4294967296:=h.1
 unfold D.L0
 have e:((g.length:Int) !=(g.length:Int))=false:=by simp
 rw[e,cond_false]
 refine(Cj g.length (λ_=>true) false (λi hi=> ?_) ?_ rfl rfl).trans (by simp)
 ·simp only[dlt hi,cond_true,AP hi,bs,wi' hi (by omega),EZ _ (h.2 _ (List.getElem_mem hi)),Bool.not_true,cond_false,if_true]
 ·simp only[Bq,cond_false]
theorem SameGraph_self {g:LL}(hg:GOk g):D.n0 g g=some true:=by
 unfold D.n0
 rw[B7 g hg.sh2,CR hg]
 simp only[bs,cond_true,EqualFunc_self g hg.sh2]
theorem Fill.many {g:LL}{o F L:LI}(hg:GOk g)(ho:OOk g o)(h:Fill g o F L):D.z1 g o=some (IntKind.i64.wrap (((edgesF (grow F)).length:Int)-((edgesF g).length:Int))):=by
 unfold D.z1
 rw[h.FillOf hg ho,bs]
 simp only[Bool.not_true,cond_false]
 rw[DA _ (h.gok hg),bs,DA _ hg]
 rfl
section
variable {g : LL} {o : LI} (hg : GOk g) (ho : OOk g o)
include hg ho
end
end Go.Sx

namespace Go.Sx
section
variable {g : LL} {o : LI} (hg : GOk g) (ho : OOk g o)
include hg ho
def mx (f:Nat→Int):Nat→Int
 |0=>0
 |n+1=>max (mx f n) (f n)
end
end Go.Sx

namespace Go.Sx
def dg (g:LL)(s:Int)(v:Int):Int:=((AY (iand .u32 (mk (row g v.toNat)) s)).length:Int)
structure SQ (n:Nat)(s:Int)(k:Nat):Prop where
 vs:VS s
 lt:∀v,has s v=true→v<n
 card:(AY s).length=k
theorem SQ.ne {n k:Nat}{s:Int}(h:SQ n s (k+1)):AY s≠[]:=λe=>by have:=h.card;rw[e] at this;simp at this
theorem SQ.z {n:Nat}{s:Int}(h:SQ n s 0):s=0:=by
 rw[h.vs.eq_zero]
 intro v hv
 cases hc:has s v
 ·rfl
 ·have:(v:Int)∈AY s:=(BB h.vs).2 hc
  have h0:=h.card
  rw[List.length_eq_zero_iff] at h0
  rw[h0] at this;simp at this
theorem SQ.min {n k:Nat}{s:Int}(h:SQ n s (k+1))(f:Int→Int):∃c:Nat,c<n∧has s c=true∧amin f (AY s)=((c:Int),f c)∧∀v:Nat,has s v=true→f c≤f v:=by
 obtain⟨c,h1,h2,h3⟩:=amin_ok f h.ne (elems_nonneg s)
 obtain⟨v,_,h5,rfl⟩:=mem_elems.1 h2
 exact⟨v,h.lt v h5,h5,h1,λw hw=>h3 w ((BB h.vs).2 hw)⟩
theorem graph_ext {g g':LL}(hg:GOk g)(hg':GOk g')(hl:g.length=g'.length)(h:∀a b:Nat,a<g.length→(adj g a b↔adj g' a b)):g=g':=by
 apply List.ext_getElem hl
 intro i h1 h2
 rw[←row_eq h1,←row_eq h2]
 refine Inc.ext (hg.rows i h1).1 (hg'.rows i h2).1 (λx=> ?_)
 constructor
 ·intro hx
  obtain⟨w,rfl,_,ha⟩:=hg.mem h1 hx
  exact(h i w h1).1 ha
 ·intro hx
  obtain⟨w,rfl,_,ha⟩:=hg'.mem h2 hx
  exact(h i w h1).2 ha
theorem grow_of {g:LL}(hg:GOk g):grow (g.map mk)=g:=by
 have hf:=FOk.of hg
 refine graph_ext (GOk.grow hf hg.n1 hg.n16) hg (by rw[grow_len,hf.len]) (λa b ha=> ?_)
 rw[grow_len,hf.len] at ha
 rw[Cm hf ha,Cg hg ha]
noncomputable def elimF (F:LI)(s b:Int):LI:=(D.D1 F s b).getD []
structure GQ (n i:Nat)(F o:LI)(s:Int):Prop where
 f:FOk F n
 left:SQ n s (n-i)
 len:o.length=i
 rng:∀x∈o,∃v:Nat,x=v∧v<n∧has s v=false
 nd:o.Nodup
theorem idx_F {F:LI}{n v:Nat}(h:FOk F n)(hv:v<n):idx F (v:Int)=some (F.getD v 0):=by
 have:=h.len
 rw[AP (by omega),AQ (by omega)]
noncomputable def ef (g:LL)(o:LI):Nat→LI×LI×Int
 |0=>(g.map mk,List.replicate g.length 0,full g.length)
 |i+1=>(elimF (ef g o i).1 (ef g o i).2.2 (o.getD i 0),(ef g o i).2.1.set (o.getD i 0).toNat (iand .u32 ((ef g o i).1.getD (o.getD i 0).toNat 0) (iandNot .u32 (ef g o i).2.2 (ishl .u32 1 (o.getD i 0)))),
   iandNot .u32 (ef g o i).2.2 (ishl .u32 1 (o.getD i 0)))
section
variable {g : LL} {o : LI} (hg : GOk g) (ho : OOk g o)
include hg ho
end
end Go.Sx

namespace Go.Sx
structure Net (A:LI)(n:Nat):Prop where
 len:A.length=n
 vs:∀u,u<n→VS (A.getD u 0)
 lt:∀u w,u<n→nb A u w=true→w<n
structure Rch (A:LI)(W:Int)(v:Nat)(S:Int):Prop where
 vs:VS S
 me:has S v=true
 step:∀x y,has S x=true→nb A x y=true→has W y=true→has S y=true
 least:∀T:Nat→Prop,T v→(∀x y,T x→nb A x y=true→has W y=true→T y)→∀x,has S x=true→T x
def cz :LI→LI→Int
 |[],[]=>0
 |[],_::_=> -1
 |_::_,[]=>1
 |a::x,b::y=>if a<b then-1 else if b<a then 1 else cz x y
def lk :Nat→LI→Int
 |0,_=>0
 |_+1,[]=>0
 |d+1,a::l=>(a+1)*33^d+lk d l
def lkey (s:Int):Int:=lk 32 (AY s)
def skey (s:Int):Int:=((AY s).length:Int)*33^32+lkey s
def CQ (F:LI)(K:Int):Prop:=∀u w,has K u=true→has K w=true→u≠w→nb F u w=true
def MX (F:LI)(n:Nat)(K:Int):Prop:=CQ F K∧∀w,w<n→has K w=false→∃u,has K u=true∧nb F u w=false
def In (n:Nat)(K:Int):Prop:=VS K∧∀w,has K w=true→w<n
structure Tgt (F:LI)(n:Nat)(C O K:Int):Prop where
 ok:In n K
 mx:MX F n K
 sup:∀w,has C w=true→has K w=true
 sub:∀w,has K w=true→has C w=true∨has O w=true
theorem In.lt {n:Nat}{K:Int}(h:In n K)(hn:n≤16):0≤K∧K<65536:=by
 obtain⟨m,rfl,hm⟩:=h.1.nat
 refine⟨by omega,?_⟩
 have:m<2^16:=by
  apply Nat.lt_pow_two_of_testBit
  intro i hi
  cases hc:m.testBit i
  ·rfl
  ·have:=h.2 i (by rw[BV];exact hc)
   omega
 omega
theorem masks_len {n:Nat}{l:LI}(hn:n≤16)(h:∀K∈l,In n K)(hd:l.Nodup):l.length≤65536:=by
 have:=Ca (m:=(List.range 65536).map Int.ofNat) hd (λK hK=>by
  have:=(h K hK).lt hn
  exact List.mem_map.2 ⟨K.toNat,List.mem_range.2 (by omega),by show ((K.toNat:Nat):Int)=K;omega⟩)
 simpa using this
structure BK (F:LI)(n:Nat)(C O S:Int):Prop where
 c:In n C
 o:In n O
 s:In n S
 cq:CQ F C
 cn:∀w,w<n→((has O w=true∨has S w=true)↔∀u,has C u=true→nb F u w=true)
 dis:∀w,has O w=true→has S w=false
theorem rise_nodup {k:Int→Int}{l:LI}(h:l.Pairwise (λa b=>k a<k b)):l.Nodup:=List.Pairwise.imp (λh e=>by subst e;omega) h
theorem complement_ok {F:LI}{n:Nat}(hn:n≤16)(hF:FOk F n):∃F',D.z0 F=some F'∧FOk F' n∧∀u w,u<n→nb F' u w=(decide (w<n)&& !nb F u w&& !decide (w=u)):=by
 have hlen:=hF.len
 unfold D.z0
 have h1:=DJ (k:=λl:LI=>some l) (step:=(fun(s_78:LI×Int)=>match s_78 with|(l_81,x_86)=>cond (decide (x_86<(F.length:Int))) ((idx F x_86).bind λe_127=>(D.K F).bind λy_133=>(D.b x_86).bind λy_140=>(A8 l_81 ([(iandNot .u32 (iandNot .u32 y_133 e_127) y_140)]:LI)).bind λl_151=>some (.inl (l_151,(IntKind.i64.wrap (x_86+1))))) (some (.inr l_81)))) (s0:=([],0))
  (λi=>((List.range i).map (λv=>iandNot .u32 (iandNot .u32 (full n) (F.getD v 0)) (ishl .u32 1 ((v:Nat):Int))),(i:Int))) n ((List.range n).map (λv=>iandNot .u32 (iandNot .u32 (full n) (F.getD v 0)) (ishl .u32 1 ((v:Nat):Int)))) (by simp) (λi hi=>by
   simp only[hlen,dlt hi,cond_true,idx_F hF hi,bs,nets_all_full,hlen,Ck,wq i]
   rw[Bm (by simp;omega),bs,List.range_succ,List.map_append];rfl) (by
   simp only[hlen,Bq,cond_false])
 have hget:∀u,u<n→((List.range n).map (λv=>iandNot .u32 (iandNot .u32 (full n) (F.getD v 0)) (ishl .u32 1 ((v:Nat):Int)))).getD u 0=iandNot .u32 (iandNot .u32 (full n) (F.getD u 0)) (ishl .u32 1 (u:Int)):=λu hu=>by
  rw[AQ (by simpa using hu)];simp
 have hnb:∀u w,u<n→nb ((List.range n).map (λv=>iandNot .u32 (iandNot .u32 (full n) (F.getD v 0)) (ishl .u32 1 ((v:Nat):Int)))) u w=(decide (w<n)&& !nb F u w&& !decide (w=u)):=λu w hu=>by
  unfold nb
  rw[hget u hu,Bt (VS.iandNot _ _) (VS.ishl _ _),Bt (full_vs n) (hF.vs u hu),BE (by omega),has_full hn]
 refine⟨_,h1,⟨by simp,λu hu=>by rw[hget u hu];exact VS.iandNot _ _,λu w hu h=> ?_,λu hu=> ?_,λu w hu h=> ?_⟩,hnb⟩
 ·rw[hnb u w hu] at h
  simp only[Bool.and_eq_true,decide_eq_true_eq] at h
  exact h.1.1
 ·rw[hnb u u hu];simp
 ·rw[hnb u w hu] at h
  simp only[Bool.and_eq_true,decide_eq_true_eq,Bool.not_eq_true',decide_eq_false_iff_not] at h
  rw[hnb w u h.1.1]
  have h2:nb F w u=false:=by
   cases hc:nb F w u
   ·rfl
   ·have:=hF.sym w u h.1.1 hc
    rw[this] at h;simp at h
  have h3:decide (u<n)=true:=decide_eq_true hu
  have h4:decide (u=w)=false:=by simp;exact λe=>h.2 e.symm
  rw[h2,h3,h4];rfl
def Dw {α:Type}(b:LI)(P:α→Prop)(e:Option (α×LI×Int×Int)):Prop:=∃y,e=some y∧(P y.1∧y.2.1=b∧DK b y.2.2.1)
theorem Dw.then {α β:Type}{b:LI}{P:α→Prop}{e:Option (α×LI×Int×Int)}{k:α×LI×Int×Int→Option β}{Q:β→Prop}(h:Dw b P e)
  (hk:∀a i z,P a→DK b i→∃y,k (a,b,i,z)=some y∧Q y):∃y,e.bind k=some y∧Q y:=by
 obtain⟨⟨a,b',i,z⟩,rfl,h1,h2,h3⟩:=h
 dsimp only at h1 h2 h3
 subst h2
 exact hk a i z h1 h3
def Few (g:LL):Prop:=g.length≤17∧∀r∈g,r.length≤17
theorem Few.sh2 {g:LL}(h:Few g):Sh2 g:=⟨by have:=h.1;unfold Sh;omega,λr hr=>by have:=h.2 r hr;unfold Sh;omega⟩
theorem GOk.few {g:LL}(hg:GOk g):Few g:=by
 have h16:=hg.n16
 exact⟨by omega,λr hr=>by have:=(hg.mem0 hr).1;omega⟩
theorem Few.set {g:LL}(h:Few g)(k:Nat){r:LI}(hr:r.length≤17):Few (g.set k r):=by
 refine⟨by have:=h.1;simpa using this,λx hx=> ?_⟩
 rcases List.mem_or_eq_of_mem_set hx with hx|rfl
 ·exact h.2 x hx
 ·exact hr
theorem elems_mk {n:Nat}{x:LI}(hn:n≤16)(hi:Inc x)(hr:∀z∈x,0≤z∧z<n):AY (mk x)=x:=by
 have h32:∀z∈x,0≤z∧z<32:=λz hz=>by have:=hr z hz;omega
 refine Inc.ext (CA _) hi (λz=> ?_)
 rw[mem_elems]
 constructor
 ·rintro⟨v,_,h,rfl⟩
  rw[has_mk h32] at h
  exact of_decide_eq_true h
 ·intro hz
  have:=h32 z hz
  refine⟨z.toNat,by omega,?_,by omega⟩
  rw[has_mk h32,show ((z.toNat:Nat):Int)=z by omega]
  exact decide_eq_true hz
def Cq (g:LL)(x:LI):Prop:=∀u w:Nat,(u:Int)∈x→(w:Int)∈x→u≠w→adj g u w
structure Fin' (g:LL)(x:LI):Prop where
 inc:Inc x
 rng:∀z∈x,0≤z∧z<g.length
 cq:Cq g x
 mx:∀w,w<g.length→∃u:Nat,(u:Int)∈x∧¬adj g u w
def Sol (g:LL)(set left x:LI):Prop:=∃y,x=set++y∧(∀z∈y,z∈left)∧Fin' g x
structure SK (g:LL)(set left out:LI):Prop where
 inc:Inc (set++left)
 r1:∀z∈set++left,0≤z∧z<g.length
 r2:∀z∈out,0≤z∧z<g.length
 cq:Cq g set
 cn:∀w:Nat,w<g.length→(((w:Int)∈left∨(w:Int)∈out)↔∀u:Nat,(u:Int)∈set→adj g u w)
 len:out.length+left.length≤16
theorem SK.next {g:LL}(hg:GOk g){set left out:LI}(h:SK g set left out){i v:Nat}(hi:i<left.length)(hv:left[i]=(v:Int)):
  SK g (set++[(v:Int)]) ((left.drop (i+1)).filter λx=>decide (x∈row g v)) ((out++left.take i).filter λx=>decide (x∈row g v))∧
  (∀x,Sol g (set++[(v:Int)]) ((left.drop (i+1)).filter λx=>decide (x∈row g v)) x↔∃y,x=set++(v:Int)::y∧(∀z∈y,z∈left)∧Fin' g x):=by
 have hvm:(v:Int)∈left:=by rw[←hv];exact List.getElem_mem hi
 have hvr:=h.r1 _ (List.mem_append.2 (.inr hvm))
 have hvn:v<g.length:=by omega
 have hinc:=List.pairwise_append.1 h.inc
 have hsplit:left=left.take i++(v:Int)::left.drop (i+1):=by
  rw[←hv,List.getElem_cons_drop,List.take_append_drop]
 have hdrop:∀z,z∈left.drop (i+1)↔z∈left∧(v:Int)<z:=λz=>by
  have h2:=hinc.2.1
  rw[hsplit] at h2
  have h3:=List.pairwise_append.1 h2
  have h4:=List.pairwise_cons.1 h3.2.1
  constructor
  ·intro hz
   exact⟨List.mem_of_mem_drop hz,h4.1 z hz⟩
  ·rintro⟨h5,h6⟩
   rw[hsplit] at h5
   rcases List.mem_append.1 h5 with h5|h5
   ·have:=h3.2.2 z h5 (v:Int) (by simp);omega
   ·rcases List.mem_cons.1 h5 with rfl|h5
    ·omega
    ·exact h5
 refine⟨⟨?_,?_,?_,?_,?_,?_⟩,λx=> ?_⟩
 ·rw[List.append_assoc]
  refine List.pairwise_append.2 ⟨hinc.1,?_,λa ha b hb=> ?_⟩
  ·rw[List.singleton_append]
   refine List.pairwise_cons.2 ⟨λz hz=>((hdrop z).1 (List.mem_filter.1 hz).1).2,?_⟩
   exact List.Pairwise.filter _ (List.Pairwise.sublist (List.drop_sublist _ _) hinc.2.1)
  ·refine hinc.2.2 a ha b ?_
   rw[List.singleton_append] at hb
   rcases List.mem_cons.1 hb with rfl|hb
   ·exact hvm
   ·exact((hdrop b).1 (List.mem_filter.1 hb).1).1
 ·intro z hz
  rcases List.mem_append.1 hz with hz|hz
  ·rcases List.mem_append.1 hz with hz|hz
   ·exact h.r1 z (List.mem_append.2 (.inl hz))
   ·simp at hz;subst hz;exact hvr
  ·exact h.r1 z (List.mem_append.2 (.inr ((hdrop z).1 (List.mem_filter.1 hz).1).1))
 ·intro z hz
  rcases List.mem_append.1 (List.mem_filter.1 hz).1 with hz|hz
  ·exact h.r2 z hz
  ·exact h.r1 z (List.mem_append.2 (.inr (List.mem_of_mem_take hz)))
 ·intro u w hu hw hne
  have key:∀a:Nat,(a:Int)∈set→adj g a v:=λa ha=>(h.cn v hvn).1 (.inl hvm) a ha
  rcases List.mem_append.1 hu with hu1|hu1<;>rcases List.mem_append.1 hw with hw1|hw1
  ·exact h.cq u w hu1 hw1 hne
  ·have e:w=v:=by simp at hw1;omega
   rw[e];exact key u hu1
  ·have e:u=v:=by simp at hu1;omega
   rw[e]
   have:=h.r1 _ (List.mem_append.2 (.inl hw1))
   exact hg.sym w v (by omega) (key w hw1)
  ·simp at hu1 hw1;omega
 ·intro w hw
  have h1:=h.cn w hw
  have hself:(w:Int)∈row g v→w≠v:=λha e=>by subst e;exact hg.irr w hw ha
  constructor
  ·intro hm u hu
   have hm':((w:Int)∈left∨(w:Int)∈out)∧(w:Int)∈row g v:=by
    rcases hm with hm|hm
    ·obtain⟨a1,a2⟩:=List.mem_filter.1 hm
     exact⟨.inl ((hdrop _).1 a1).1,of_decide_eq_true a2⟩
    ·obtain⟨a1,a2⟩:=List.mem_filter.1 hm
     refine⟨?_,of_decide_eq_true a2⟩
     rcases List.mem_append.1 a1 with a1|a1
     ·exact .inr a1
     ·exact .inl (List.mem_of_mem_take a1)
   rcases List.mem_append.1 hu with hu|hu
   ·exact h1.1 hm'.1 u hu
   ·have:u=v:=by simp at hu;omega
    subst this;exact hm'.2
  ·intro hA
   have hav:(w:Int)∈row g v:=hA v (by simp)
   have hne:=hself hav
   rcases h1.2 (λu hu=>hA u (List.mem_append.2 (.inl hu))) with hm|hm
   ·rw[hsplit] at hm
    rcases List.mem_append.1 hm with hm|hm
    ·exact .inr (List.mem_filter.2 ⟨List.mem_append.2 (.inr hm),decide_eq_true hav⟩)
    ·rcases List.mem_cons.1 hm with hm|hm
     ·omega
     ·exact .inl (List.mem_filter.2 ⟨hm,decide_eq_true hav⟩)
   ·exact .inr (List.mem_filter.2 ⟨List.mem_append.2 (.inl hm),decide_eq_true hav⟩)
 ·have a1:((left.drop (i+1)).filter λx=>decide (x∈row g v)).length≤(left.drop (i+1)).length:=List.length_filter_le _ _
  have a2:((out++left.take i).filter λx=>decide (x∈row g v)).length≤(out++left.take i).length:=List.length_filter_le _ _
  have:=h.len
  simp only[List.length_drop,List.length_append,List.length_take] at a1 a2
  omega
 ·constructor
  ·rintro⟨y,rfl,hy,hf⟩
   exact⟨y,by simp,λz hz=>((hdrop z).1 (List.mem_filter.1 (hy z hz)).1).1,hf⟩
  ·rintro⟨y,rfl,hy,hf⟩
   refine⟨y,by simp,λz hz=> ?_,hf⟩
   have hz2:=hf.rng z (by simp[hz])
   have h6:=(List.pairwise_cons.1 (List.pairwise_append.1 hf.inc).2.1).1 z hz
   refine List.mem_filter.2 ⟨(hdrop z).2 ⟨hy z hz,h6⟩,decide_eq_true ?_⟩
   have:=hf.cq v z.toNat (by simp) (by rw[show ((z.toNat:Nat):Int)=z by omega];simp[hz]) (by omega)
   unfold adj at this
   rwa [show ((z.toNat:Nat):Int)=z by omega] at this
structure GC (g:LL)(l:LI):Prop where
 up:l.Pairwise λa b=>lkey a<lkey b
 mem:∀K,K∈l↔In g.length K∧MX (g.map mk) g.length K
def mis (F:LI)(n:Nat)(S:Int):Nat:=S2 n (λu w=>has S u&&(has S w&&(decide (w<u)&& !nb F w u)))
def cd (F:LI)(s v:Int):Int:=((AY (iand .u32 (F.getD v.toNat 0) s)).length:Int)
def cf (n:Nat)(F:LI)(s v:Int):Int:=(mis F n (iand .u32 (F.getD v.toNat 0) s):Int)
section
variable {g : LL} (hg : GOk g)
include hg
theorem OOk.shl {o:LI}(ho:OOk g o):Sh o:=ho.sh hg
end
end Go.Sx

namespace Go.Sx
def S16 (s:Int):Prop:=0≤s∧s<65536
theorem S16.vs {s:Int}(h:S16 s):VS s:=⟨h.1,by have:=h.2;omega⟩
theorem S16.nat {s:Int}(h:S16 s):∃n:Nat,s=n∧n<65536:=⟨s.toNat,by have:=h.1;omega,by have:=h.1;have:=h.2;omega⟩
theorem S16.lt {s:Int}(h:S16 s){v:Nat}(hv:has s v=true):v<16:=by
 obtain⟨n,rfl,hn⟩:=h.nat
 rw[BV] at hv
 have:=Nat.ge_two_pow_of_testBit hv
 apply Classical.byContradiction
 intro hc
 have h2:2^16≤2^v:=Nat.pow_le_pow_right (by omega) (by omega)
 omega
theorem In.of {n i:Nat}(h:i<2^n)(hn:n≤16):In n (i:Int):=by
 have:2^n≤2^16:=Nat.pow_le_pow_right (by omega) hn
 refine⟨⟨by omega,by omega⟩,λw hw=> ?_⟩
 rw[BV] at hw
 have:=Nat.ge_two_pow_of_testBit hw
 apply Classical.byContradiction
 intro hc
 have h2:2^n≤2^w:=Nat.pow_le_pow_right (by omega) (by omega)
 omega
theorem l1Same_eq (x y:LI)(hx:Sh x):D.i x y=some (decide (x=y)):=by
 unfold Sh at hx
 unfold D.i
 by_cases hl:x.length=y.length
 ·have e:((x.length:Int) !=(y.length:Int))=false:=by simp[hl]
  rw[e,cond_false]
  refine(Cj x.length (λi=>x.getD i 0==y.getD i 0) false (λi hi=> ?_) ?_ rfl rfl).trans ?_
  ·have hi':i<y.length:=by omega
   simp only[dlt hi,cond_true,AP hi,AP hi',bs,AQ hi,AQ hi',wq i]
   by_cases h:x[i]=y[i]
   ·have:(x[i] !=y[i])=false:=by simp[h]
    rw[this,cond_false,if_pos (by simp[h])]
   ·have:(x[i] !=y[i])=true:=by simp[h]
    rw[this,cond_true,if_neg (by simp[h])]
  ·simp only[Bq,cond_false]
  ·congr 1
   rw[Bool.eq_iff_iff,Di,decide_eq_true_eq]
   constructor
   ·intro h
    exact ext_getD hl (λj hj=>by have:=h j hj;simpa using this)
   ·rintro rfl i _;simp
 ·have e:((x.length:Int) !=(y.length:Int))=true:=by simp;omega
  rw[e,cond_true,decide_eq_false (λh=>hl (by rw[h]))]
abbrev Pr :=Int×Int×Int
def DE (n:Nat)(F:LI)(v:Nat)(S:Int):LI:=(List.range n).map λu=>ior .u32 (ior .u32 (F.getD u 0) (if u=v then S else 0)) (if has S u then ishl .u32 1 (v:Int) else 0)
theorem joinF_get {n:Nat}{F:LI}{v u:Nat}{S:Int}(hu:u<n):(DE n F v S).getD u 0=ior .u32 (ior .u32 (F.getD u 0) (if u=v then S else 0)) (if has S u then ishl .u32 1 (v:Int) else 0):=by
 unfold DE
 rw[AQ (by simpa using hu)];simp
theorem vs_ite {c:Prop}[Decidable c]{a b:Int}(ha:VS a)(hb:VS b):VS (if c then a else b):=by split<;>assumption
theorem Dn {n:Nat}{F:LI}{v u:Nat}{S:Int}(hn:n≤16)(hF:FOk F n)(hS:In n S)(hv:v<n)(hu:u<n)(w:Nat):nb (DE n F v S) u w=(nb F u w||(decide (u=v)&&has S w)||(has S u&&decide (w=v))):=by
 unfold nb
 rw[joinF_get hu,B6 (VS.ior _ _) (vs_ite (VS.ishl _ _) VS.zero),B6 (hF.vs u hu) (vs_ite hS.1 VS.zero)]
 congr 1
 ·congr 1
  by_cases h:u=v
  ·rw[if_pos h,decide_eq_true h];simp
  ·rw[if_neg h,decide_eq_false h,BL];simp
 ·cases hc:has S u
  ·rw[if_neg (by simp),BL];simp
  ·rw[if_pos rfl,BE (by omega)];simp
theorem joinF_ok {n:Nat}{F:LI}{v:Nat}{S:Int}(hn:n≤16)(hF:FOk F n)(hS:In n S)(hv:v<n)(hSv:has S v=false):FOk (DE n F v S) n:=by
 refine⟨by simp[DE],λu hu=>by rw[joinF_get hu];exact VS.ior _ _,λu w hu h=> ?_,λu hu=> ?_,λu w hu h=> ?_⟩
 ·rw[Dn hn hF hS hv hu] at h
  simp only[Bool.or_eq_true,Bool.and_eq_true,decide_eq_true_eq] at h
  rcases h with(h|h)|h
  ·exact hF.lt u w hu h
  ·exact hS.2 w h.2
  ·omega
 ·rw[Dn hn hF hS hv hu,hF.irr u hu]
  by_cases h:u=v
  ·subst h;simp[hSv]
  ·simp[h]
 ·have hw:w<n:=by
   rw[Dn hn hF hS hv hu] at h
   simp only[Bool.or_eq_true,Bool.and_eq_true,decide_eq_true_eq] at h
   rcases h with(h|h)|h
   ·exact hF.lt u w hu h
   ·exact hS.2 w h.2
   ·omega
  rw[Dn hn hF hS hv hu] at h
  rw[Dn hn hF hS hv hw]
  simp only[Bool.or_eq_true,Bool.and_eq_true,decide_eq_true_eq] at h ⊢
  rcases h with(h|h)|h
  ·exact .inl (.inl (hF.sym u w hu h))
  ·exact .inr ⟨h.2,h.1⟩
  ·exact .inl (.inr ⟨h.2,h.1⟩)
theorem nets_join_ok {n:Nat}(hn:n≤16){X:LI}(hl:X.length=n)(hV:∀u,u<n→VS (X.getD u 0)){v t:Nat}(hv:v<n)(ht:t<n)(hvt:v≠t):
  ∃y,D.M0 X (v:Int) (t:Int)=some y∧(y.length=n∧(∀u,u<n→VS (y.getD u 0))∧∀u w,u<n→nb y u w=(nb X u w||(decide (u=v)&&decide (w=t))||(decide (u=t)&&decide (w=v)))):=by
 have hx:∀k,k<n→idx X (k:Int)=some (X.getD k 0):=λk hk=>by rw[AP (by omega),AQ (by omega)]
 refine⟨(X.set v (ior .u32 (X.getD v 0) (ishl .u32 1 (t:Int)))).set t (ior .u32 (X.getD t 0) (ishl .u32 1 (v:Int))),?_,by simp[hl],λu hu=> ?_,λu w hu=> ?_⟩
 ·unfold D.M0
  have e1:idx (X.set v (ior .u32 (X.getD v 0) (ishl .u32 1 (t:Int)))) (t:Int)=some (X.getD t 0):=by
   rw[AP (by simp;omega),List.getElem_set_ne hvt]
   exact congrArg some (AQ (by omega) 0).symm
  simp only[hx v hv,bs,Ck,Int.toNat_natCast,e1]
 ·rw[List.getD_eq_getElem?_getD,List.getElem?_set]
  by_cases h:t=u
  ·rw[if_pos h,if_pos (by simp;omega)];exact VS.ior _ _
  ·rw[if_neg h,List.getElem?_set]
   by_cases h2:v=u
   ·rw[if_pos h2,if_pos (by omega)];exact VS.ior _ _
   ·rw[if_neg h2,←List.getD_eq_getElem?_getD];exact hV u hu
 ·unfold nb
  rw[List.getD_eq_getElem?_getD,List.getElem?_set]
  by_cases h:t=u
  ·subst h
   rw[if_pos rfl,if_pos (by simp;omega),Option.getD_some,B6 (hV _ hu) (VS.ishl _ _),BE (by omega)]
   have:decide (t=v)=false:=decide_eq_false (λe=>hvt e.symm)
   rw[this];simp
  ·rw[if_neg h,List.getElem?_set]
   have e2:decide (u=t)=false:=decide_eq_false (λe=>h e.symm)
   by_cases h2:v=u
   ·subst h2
    rw[if_pos rfl,if_pos (by omega),Option.getD_some,B6 (hV _ hu) (VS.ishl _ _),BE (by omega),e2];simp
   ·rw[if_neg h2,←List.getD_eq_getElem?_getD,e2,decide_eq_false (λe=>h2 e.symm)];simp
structure PK (n:Nat)(o:LI):Prop where
 len:o.length=n
 rng:∀x∈o,0≤x∧x<n
 nd:o.Nodup
def pl (o:LI)(v:Nat):Nat:=o.idxOf (v:Int)
theorem PK.mem {n:Nat}{o:LI}(h:PK n o){v:Nat}(hv:v<n):(v:Int)∈o:=by
 by_cases hc:(v:Int)∈o
 ·exact hc
 ·have:=Ca (l:=(v:Int)::o) (m:=(List.range n).map Int.ofNat) (List.nodup_cons.2 ⟨hc,h.nd⟩) (λx hx=>by
   have hx':0≤x∧x<n:=by
    rcases List.mem_cons.1 hx with rfl|hx
    ·omega
    ·exact h.rng x hx
   exact List.mem_map.2 ⟨x.toNat,List.mem_range.2 (by omega),by show ((x.toNat:Nat):Int)=x;omega⟩)
  have hl:=h.len
  simp at this;omega
theorem PK.pl_lt {n:Nat}{o:LI}(h:PK n o){v:Nat}(hv:v<n):pl o v<n:=by
 have:=List.idxOf_lt_length_iff.2 (h.mem hv)
 have hl:=h.len
 unfold pl;omega
theorem PK.pl_get {n:Nat}{o:LI}(h:PK n o){v:Nat}(hv:v<n)(hl:pl o v<o.length):o[pl o v]=(v:Int):=by
 unfold pl;exact List.getElem_idxOf _
theorem PK.pl_of {n:Nat}{o:LI}(h:PK n o){i v:Nat}(hi:i<o.length)(e:o[i]=(v:Int)):pl o v=i:=by
 have hv:v<n:=by have:=h.rng _ (List.getElem_mem hi);omega
 have hl:=h.pl_lt hv
 have h2:=h.pl_get hv (by rw[h.len];exact hl)
 have hl':pl o v<o.length:=by rw[h.len];exact hl
 have hnd:=List.pairwise_iff_getElem.1 h.nd
 rcases Nat.lt_trichotomy (pl o v) i with c|c|c
 ·exact absurd (h2.trans e.symm) (hnd _ _ hl' hi c)
 ·exact c
 ·exact absurd (h2.trans e.symm).symm (hnd _ _ hi hl' c)
theorem PK.pl_inj {n:Nat}{o:LI}(h:PK n o){u v:Nat}(hu:u<n)(hv:v<n)(e:pl o u=pl o v):u=v:=by
 have h1:=h.pl_get hu (by rw[h.len];exact h.pl_lt hu)
 have h2:=h.pl_get hv (by rw[h.len];exact h.pl_lt hv)
 have h3:o[pl o u]'(by rw[h.len];exact h.pl_lt hu)=o[pl o v]'(by rw[h.len];exact h.pl_lt hv):=by simp only[e]
 rw[h1,h2] at h3
 omega
theorem PK.at {n:Nat}{o:LI}(h:PK n o){i:Nat}(hi:i<o.length):∃v:Nat,o[i]=(v:Int)∧v<n∧pl o v=i:=by
 have:=h.rng _ (List.getElem_mem hi)
 have e:o[i]=((o[i].toNat:Nat):Int):=by omega
 exact⟨o[i].toNat,e,by omega,h.pl_of hi e⟩
theorem getD_setI {l:LI}{i j:Nat}{x:Int}(hi:i<l.length):(l.set i x).getD j 0=if j=i then x else l.getD j 0:=by
 rw[List.getD_eq_getElem?_getD,List.getElem?_set]
 by_cases h:i=j
 ·subst h;rw[if_pos rfl,if_pos hi,if_pos rfl];rfl
 ·rw[if_neg h,if_neg (λe=>h e.symm),←List.getD_eq_getElem?_getD]
theorem Fd {n:Nat}(h1:1≤n)(h16:n≤16){o:LI}(h:PK n o):∃y,D.Q o=some y∧(y.2=true∧y.1.length=n∧∀v,v<n→y.1.getD v 0=(pl o v:Int)):=by
 have hl:=h.len
 obtain⟨y,e1,e2,e3⟩:=Fc o (by omega)
 have hyl:=e2.length_eq
 have hset:Dz y (o.length:Int)=true:=by
  rw[Dl]
  refine⟨sorted_inc e3 (e2.nodup_iff.2 h.nd),λx hx=> ?_⟩
  have:=h.rng x (e2.mem_iff.1 hx)
  omega
 unfold D.Q
 rw[show decide ((o.length:Int)<1)=false from decide_eq_false (by omega),show decide ((16:Int)<(o.length:Int))=false from decide_eq_false (by omega)]
 simp only[Bool.or_false,cond_false,e1,bs]
 rw[Dy y _ (by unfold Sh;omega) (by omega) (by omega),bs,bs,hset,Bool.not_true,cond_false,DU (by omega) (by omega),bs]
 refine A2 (λs=>∃i:Nat,s.2=(i:Int)∧i≤o.length∧s.1.length=n∧∀v,v<n→pl o v<i→s.1.getD v 0=(pl o v:Int)) (λs=>o.length-s.2.toNat)
  (λr=>r.length=n∧∀v,v<n→r.getD v 0=(pl o v:Int)) ?_ ⟨0,rfl,by omega,by simp[hl],λv _ h=>by omega⟩ (λr hr=>⟨_,rfl,rfl,hr.1,hr.2⟩)
 rintro⟨l,_⟩ ⟨i,rfl,hi,hll,hv⟩
 dsimp only at hll hv ⊢
 by_cases hil:i<o.length
 ·obtain⟨v,hov,hvn,hpv⟩:=h.at hil
  simp only[dlt hil,cond_true,AP hil,hov,bs,AP (show v<l.length by omega),Int.toNat_natCast,wq i]
  refine⟨_,rfl,⟨i+1,rfl,by omega,by simp[hll],λu hu hp=> ?_⟩,by dsimp only;omega⟩
  dsimp only
  rw[getD_setI (by omega)]
  by_cases huv:u=v
  ·rw[if_pos huv,huv,hpv]
  ·rw[if_neg huv]
   refine hv u hu ?_
   have:pl o u≠i:=λe=>huv (h.pl_inj hu hvn (by rw[e,hpv]))
   omega
 ·obtain rfl:i=o.length:=by omega
  simp only[Bq,cond_false]
  exact⟨_,rfl,hll,λv hvn=>hv v hvn (by have:=h.pl_lt hvn;omega)⟩
def XX (a b:LI)(u v:Nat):Bool:=decide (pl a u<pl a v) !=decide (pl b u<pl b v)
theorem EY {n:Nat}{a b:LI}(ha:PK n a)(hb:PK n b){u v:Nat}(hu:u<n)(hv:v<n)(huv:u≠v):XX a b u v=XX a b v u:=by
 have h1:pl a u≠pl a v:=λe=>huv (ha.pl_inj hu hv e)
 have h2:pl b u≠pl b v:=λe=>huv (hb.pl_inj hu hv e)
 unfold XX
 rw[show decide (pl a v<pl a u)= !decide (pl a u<pl a v) by rw[Bool.eq_iff_iff];simp;omega,show decide (pl b v<pl b u)= !decide (pl b u<pl b v) by rw[Bool.eq_iff_iff];simp;omega]
 cases decide (pl a u<pl a v)<;>cases decide (pl b u<pl b v)<;>rfl
theorem dl_cast {i j:Nat}:decide ((i:Int)<(j:Int))=decide (i<j):=by rw[Bool.eq_iff_iff];simp
def NX (a b:LI)(n:Nat)(F:LI):Prop:=∀u w,u<n→nb F u w=(decide (w<n)&& !decide (u=w)&&XX a b u w)
theorem EN {n:Nat}(h1:1≤n)(h16:n≤16){a b:LI}(ha:PK n a)(hb:PK n b):∃y,D.y a b=some y∧(y.2=true∧FOk y.1 n∧NX a b n y.1):=by
 have hla:=ha.len;have hlb:=hb.len
 obtain⟨⟨P,t⟩,e1,rfl,hPl,hP⟩:=Fd h1 h16 ha
 obtain⟨⟨Q,t⟩,e2,rfl,hQl,hQ⟩:=Fd h1 h16 hb
 dsimp only at hPl hP hQl hQ
 unfold D.y
 rw[e1,bs,e2,bs]
 have e3:((a.length:Int) !=(b.length:Int))=false:=by rw[hla,hlb];simp
 simp only[Bool.not_true,Bool.or_false,e3,cond_false]
 rw[DU (by omega) (by omega),bs]
 have hPi:∀v,v<n→idx P (v:Int)=some (pl a v:Int):=λv hv=>by rw[AP (by omega),←hP v hv,AQ (by omega)]
 have hQi:∀v,v<n→idx Q (v:Int)=some (pl b v:Int):=λv hv=>by rw[AP (by omega),←hQ v hv,AQ (by omega)]
 refine A2 (λs=>∃v:Nat,s.2=(v:Int)∧v≤n∧s.1.length=n∧(∀u,u<n→VS (s.1.getD u 0))∧∀u w,u<n→nb s.1 u w=((decide (u<v)&&decide (w<v))&& !decide (u=w)&&XX a b u w)) (λs=>n-s.2.toNat)
  (λr=>FOk r n∧NX a b n r) ?_ ⟨0,rfl,by omega,by simp[hla],λu hu=> ?_,λu w hu=> ?_⟩ (λr hr=>⟨_,rfl,rfl,hr.1,hr.2⟩)
 ·rintro⟨F,_⟩ ⟨v,rfl,hv,hFl,hFv,hF⟩
  dsimp only at hFl hFv hF ⊢
  rw[hPl]
  by_cases hvn:v<n
  ·rw[dlt hvn,cond_true]
   refine A2 (λs=>∃t:Nat,s.2=(t:Int)∧t≤v∧s.1.length=n∧(∀u,u<n→VS (s.1.getD u 0))∧∀u w,u<n→nb s.1 u w=(((decide (u<v)&&decide (w<v))||(decide (u=v)&&decide (w<t))||(decide (w=v)&&decide (u<t)))&& !decide (u=w)&&XX a b u w)) (λs=>v-s.2.toNat)
    (λr=>r.length=n∧(∀u,u<n→VS (r.getD u 0))∧∀u w,u<n→nb r u w=((decide (u<v+1)&&decide (w<v+1))&& !decide (u=w)&&XX a b u w)) ?_ ⟨0,rfl,by omega,hFl,hFv,λu w hu=> ?_⟩ (λr hr=>⟨_,rfl,⟨v+1,?_,by omega,hr.1,hr.2.1,hr.2.2⟩,?_⟩)
   ·rintro⟨F,_⟩ ⟨t,rfl,ht,hFl,hFv,hF⟩
    dsimp only at hFl hFv hF ⊢
    by_cases htv:t<v
    ·rw[dlt htv,cond_true,hPi v hvn,bs,hPi t (by omega),bs,hQi v hvn,bs,hQi t (by omega),bs,dl_cast,dl_cast]
     have hw:IntKind.i64.wrap ((t:Int)+1)=((t+1:Nat):Int):=wi (by omega)
     have hx:XX a b v t=(decide (pl a v<pl a t) !=decide (pl b v<pl b t)):=rfl
     rw[←hx,hw]
     have key:∀F':LI,(∀u w,u<n→nb F' u w=(nb F u w||((decide (u=v)&&decide (w=t))||(decide (u=t)&&decide (w=v)))&&XX a b v t))→∀u w,u<n→nb F' u w=(((decide (u<v)&&decide (w<v))||(decide (u=v)&&decide (w<t+1))||(decide (w=v)&&decide (u<t+1)))&& !decide (u=w)&&XX a b u w):=by
      intro F' h' u w hu
      rw[h' u w hu,hF u w hu]
      by_cases c1:u=v∧w=t
      ·obtain⟨rfl,rfl⟩:=c1
       simp[show¬u=w by omega]
      ·by_cases c2:u=t∧w=v
       ·obtain⟨rfl,rfl⟩:=c2
        rw[EY ha hb hvn hu (by omega)]
        simp[show¬u=w by omega]
       ·have e1:(decide (u=v)&&decide (w=t)||decide (u=t)&&decide (w=v))=false:=by
         rw[Bool.eq_false_iff];simp only[ne_eq,Bool.or_eq_true,Bool.and_eq_true,decide_eq_true_eq];omega
        rw[e1,Bool.false_and,Bool.or_false]
        congr 2
        rw[Bool.eq_iff_iff]
        simp only[Bool.or_eq_true,Bool.and_eq_true,decide_eq_true_eq]
        omega
     cases hc:XX a b v t
     ·rw[cond_false]
      exact⟨_,rfl,⟨t+1,rfl,by omega,hFl,hFv,key F (λu w hu=>by rw[hc];simp)⟩,by dsimp only;omega⟩
     ·rw[cond_true]
      obtain⟨y,e,k1,k2,k3⟩:=nets_join_ok h16 hFl hFv hvn (show t<n by omega) (by omega)
      rw[e,bs]
      refine⟨_,rfl,⟨t+1,rfl,by omega,k1,k2,key y (λu w hu=> ?_)⟩,by dsimp only;omega⟩
      rw[hc,k3 u w hu,Bool.and_true,Bool.or_assoc]
    ·obtain rfl:t=v:=by omega
     simp only[Bq,cond_false]
     refine⟨_,rfl,hFl,hFv,λu w hu=> ?_⟩
     rw[hF u w hu]
     by_cases c:u=w
     ·subst c;simp
     ·congr 2
      rw[Bool.eq_iff_iff]
      simp only[Bool.or_eq_true,Bool.and_eq_true,decide_eq_true_eq]
      omega
   ·dsimp only
    rw[hF u w hu]
    simp
   ·exact wi (by omega)
   ·dsimp only
    rw[wi (by omega)]
    omega
  ·obtain rfl:v=n:=by omega
   simp only[Bq,cond_false]
   have hNX:NX a b v F:=λu w hu=>by
    rw[hF u w hu,decide_eq_true hu,Bool.true_and]
   refine⟨_,rfl,⟨hFl,hFv,λu w hu h=> ?_,λu hu=> ?_,λu w hu h=> ?_⟩,hNX⟩
   ·rw[hNX u w hu] at h
    simp only[Bool.and_eq_true,decide_eq_true_eq] at h
    exact h.1.1
   ·rw[hNX u u hu];simp
   ·rw[hNX u w hu] at h
    simp only[Bool.and_eq_true,decide_eq_true_eq,Bool.not_eq_true',decide_eq_false_iff_not] at h
    rw[hNX w u h.1.1,EY ha hb h.1.1 hu (λe=>h.1.2 e.symm),h.2]
    simp[hu,show¬w=u from λe=>h.1.2 e.symm]
 ·rw[AQ (by simp;omega)]
  simp only[List.getElem_replicate]
  exact VS.zero
 ·dsimp only
  unfold nb
  rw[AQ (by simp;omega)]
  simp[BL]
theorem l15Line_ok {n:Nat}(h1:1≤n)(h16:n≤16){o:LI}(h:PK n o):D.h o=some true:=by
 have hl:=h.len
 unfold D.h
 rw[ES,bs,decide_eq_true (show (1:Int)≤(o.length:Int) by omega),decide_eq_true (show (o.length:Int)≤16 by omega)]
 simp only[Bool.and_self,Bool.not_true,cond_false]
 refine(Cj o.length (λ_=>true) false (λi hi=> ?_) ?_ rfl rfl).trans (by simp)
 ·have hr:=h.rng _ (List.getElem_mem hi)
  have hw:IntKind.i64.wrap ((o.length:Int)-1)=(o.length:Int)-1:=w64 (by omega) (by omega)
  have e1:(decide (0≤o[i])&&decide (o[i]≤(o.length:Int)-1))=true:=by simp;omega
  rw[dlt hi,cond_true,AP hi,bs,hw,ES,e1,bs,Bool.not_true,cond_false,DI (by omega),bs,bs,Ev _ _ (by unfold Sh;simp;omega),decide_eq_false (nodup_iff.1 h.nd i hi),bs,bs,cond_false,wi (by omega),if_pos rfl]
 ·simp only[Bq,cond_false]
theorem Dq {n:Nat}(h16:n≤16){o:LI}(h:PK n o){v:Nat}(hv:v<n):D.l o (v:Int)=some (pl o v:Int):=by
 have hl:=h.len
 have hp:=h.pl_lt hv
 unfold D.l
 refine(DJ (λi=>(i:Int)) (pl o v) (.inr (pl o v:Int)) rfl (λi hi=> ?_) ?_).trans rfl
 ·have hil:i<o.length:=by omega
  have hne:(o[i]==(v:Int))=false:=by
   rw[beq_eq_false_iff_ne]
   intro e
   have:=h.pl_of hil e
   omega
  rw[dlt hil,cond_true,AP hil,bs,hne,cond_false,wi (by omega)]
 ·have hil:pl o v<o.length:=by omega
  have e:(o[pl o v]==(v:Int))=true:=by rw[h.pl_get hv hil];simp
  rw[dlt hil,cond_true,AP hil,bs,e,cond_true]
theorem l15Cross_ok {n:Nat}(h16:n≤16){a b:LI}(ha:PK n a)(hb:PK n b){u v:Nat}(hu:u<n)(hv:v<n):D.F0 a b (u:Int) (v:Int)=some (!decide (u=v)&&XX a b u v):=by
 unfold D.F0
 rw[Dq h16 ha hu,Dq h16 ha hv,Dq h16 hb hu,Dq h16 hb hv]
 simp only[bs,dl_cast]
 by_cases h:u=v
 ·subst h;simp
 ·have:((u:Int) !=(v:Int))=true:=by simp;omega
  rw[this,cond_true,decide_eq_false h];rfl
def rowX (a b:LI)(n v:Nat):LI:=((List.range n).filter (λu=> !decide (u=v)&&XX a b u v)).map Int.ofNat
theorem rowX_eq {n:Nat}{a b F:LI}(h16:n≤16)(ha:PK n a)(hb:PK n b)(hF:FOk F n)(hX:NX a b n F){v:Nat}(hv:v<n):rowX a b n v=AY (F.getD v 0):=by
 refine Inc.ext ?_ (CA _) (λx=> ?_)
 ·unfold rowX Inc
  rw[List.pairwise_map]
  exact List.Pairwise.imp (fun{i j} h=>by show (i:Int)<(j:Int);omega) (List.Pairwise.filter _ List.pairwise_lt_range)
 ·unfold rowX
  rw[List.mem_map]
  constructor
  ·rintro⟨u,hu,rfl⟩
   rw[List.mem_filter,List.mem_range] at hu
   obtain⟨h1,h2⟩:=hu
   show (u:Int)∈_
   rw[BB (hF.vs v hv)]
   simp only[Bool.and_eq_true,Bool.not_eq_true',decide_eq_false_iff_not] at h2
   have:=hX v u hv
   rw[EY ha hb hv h1 (λe=>h2.1 e.symm),h2.2] at this
   show nb F v u=true
   rw[this];simp[h1,show¬v=u from λe=>h2.1 e.symm]
  ·intro hx
   obtain⟨u,h1,h2,rfl⟩:=mem_elems.1 hx
   have h3:nb F v u=true:=h2
   have hun:=hF.lt v u hv h3
   rw[hX v u hv] at h3
   simp only[Bool.and_eq_true,decide_eq_true_eq,Bool.not_eq_true',decide_eq_false_iff_not] at h3
   refine⟨u,List.mem_filter.2 ⟨List.mem_range.2 hun,?_⟩,rfl⟩
   rw[EY ha hb hun hv (λe=>h3.1.2 e.symm),h3.2]
   simp[show¬u=v from λe=>h3.1.2 e.symm]
theorem l15Graph_ok {n:Nat}(h1:1≤n)(h16:n≤16){a b F:LI}(ha:PK n a)(hb:PK n b)(hF:FOk F n)(hX:NX a b n F):D.D0 a b=some (grow F):=by
 have hla:=ha.len
 unfold D.D0
 refine(DJ (λi=>((i:Int),(List.range i).map (rowX a b n))) n ((List.range n).map (rowX a b n)) rfl (λv hv=> ?_) ?_).trans ?_
 ·dsimp only
  rw[hla,dlt hv,cond_true]
  refine(DJ (λi=>(((List.range i).filter (λu=> !decide (u=v)&&XX a b u v)).map Int.ofNat,(i:Int))) n (rowX a b n v) rfl (λu hu=> ?_) ?_).trans ?_
  ·dsimp only
   rw[dlt hu,cond_true,l15Cross_ok h16 ha hb hu hv,bs,wi (by omega),List.range_succ,List.filter_append,List.map_append]
   cases hc:(!decide (u=v)&&XX a b u v)
   ·rw[cond_false];simp[hc]
   ·have hl:(((List.range u).filter (λu=> !decide (u=v)&&XX a b u v)).map Int.ofNat).length≤u:=by
     rw[List.length_map]
     have:=List.length_filter_le (λu=> !decide (u=v)&&XX a b u v) (List.range u)
     rwa [List.length_range] at this
    rw[cond_true,Bm (by simp only[List.length_singleton];omega),bs];simp[hc]
  ·simp only[Bq,cond_false];rfl
  ·rw[Bm (by simp;omega),bs,wi (by omega),List.range_succ,List.map_append];rfl
 ·simp only[hla,Bq,cond_false]
 ·congr 1
  unfold grow
  refine List.ext_getElem (by simp[hF.len]) (λi h2 h3=> ?_)
  have hi:i<n:=by simpa using h2
  simp only[List.getElem_map,List.getElem_range]
  rw[rowX_eq h16 ha hb hF hX hi,AQ]
theorem DB {n:Nat}(h16:n≤16){a b F:LI}(e:D.y a b=some (F,true))(hF:FOk F n):D.O a b=some (grow F,true):=by
 unfold D.O
 rw[e,bs,Bool.not_true,cond_false,Ex F (by rw[hF.len];exact h16) (λu hu=>hF.vs u (by rw[←hF.len];exact hu))]
 rfl
structure Ris (n:Nat)(R:Int→Int→Prop)(rk:Int→Nat):Prop where
 up:∀x y,R x y→rk x<rk y
 lt:∀v:Nat,v<n→rk v<n
 tr:∀x y z,R x y→R y z→R x z
structure Ch (n:Nat)(R:Int→Int→Prop)(v:Int)(l:LI):Prop where
 hd:∃t,l=v::t
 pw:l.Pairwise R
 rng:∀x∈l,0≤x∧x<n
 mx:∀t:LI,(v::t).Pairwise R→(∀x∈t,0≤x∧x<n)→t.length+1≤l.length
theorem Ris.nodup {n:Nat}{R:Int→Int→Prop}{rk:Int→Nat}(h:Ris n R rk){l:LI}(hp:l.Pairwise R):l.Nodup:=
 List.Pairwise.imp (fun{x y} hxy e=>by subst e;have:=h.up x x hxy;omega) hp
theorem rng_len {n:Nat}{l:LI}(hd:l.Nodup)(hr:∀x∈l,0≤x∧x<n):l.length≤n:=by
 have:=Ca (m:=(List.range n).map Int.ofNat) hd (λx hx=>by
  have:=hr x hx
  exact List.mem_map.2 ⟨x.toNat,List.mem_range.2 (by omega),by show ((x.toNat:Nat):Int)=x;omega⟩)
 simpa using this
theorem Ch.len {n:Nat}{R:Int→Int→Prop}{rk:Int→Nat}(h:Ris n R rk){v:Int}{l:LI}(hc:Ch n R v l):l.length≤n:=rng_len (h.nodup hc.pw) hc.rng
def Mon (ks ks':List (Option LI)):Prop:=∀(v:Nat) (l:LI),ks[v]? =some (some l)→ks'[v]? =some (some l)
theorem Mon.refl (ks:List (Option LI)):Mon ks ks:=λ_ _ h=>h
theorem adj_nil {n u v:Nat}:¬adj (List.replicate n ([]:LI)) u v:=by
 unfold adj row
 rw[List.getD_eq_getElem?_getD,List.getElem?_replicate]
 by_cases h:u<n
 ·rw[if_pos h];simp
 ·rw[if_neg h];simp
theorem l2Other_ok {g:LL}(hg:GOk g):∃y,D.C0 g=some y∧(GOk y∧y.length=g.length∧∀u v,u<g.length→(adj y u v↔v<g.length∧u≠v∧¬adj g u v)):=by
 have h16:=hg.n16;have h1:=hg.n1
 unfold D.C0 D.u
 rw[bs,l1Empty_eq _ h16,bs]
 refine A2 (λs=>∃v:Nat,s.1=(v:Int)∧v≤g.length∧GOk s.2∧s.2.length=g.length∧∀x y,adj s.2 x y↔(x<v∧y<v)∧x≠y∧¬adj g x y) (λs=>g.length-s.1.toNat)
  (λy=>GOk y∧y.length=g.length∧∀u v,u<g.length→(adj y u v↔v<g.length∧u≠v∧¬adj g u v)) ?_ ⟨0,rfl,by omega,GOk.empty h1 h16,by simp,λx y=>⟨λh=>absurd h adj_nil,λh=>by omega⟩⟩ (λr hr=>⟨r,rfl,hr⟩)
 rintro⟨_,G⟩ ⟨v,rfl,hv,hG,hl,hA⟩
 dsimp only at hG hl hA ⊢
 rw[bs]
 by_cases hvn:v<g.length
 ·rw[dlt hvn,cond_true]
  refine A2 (λs=>∃t:Nat,s.1=(t:Int)∧t≤v∧GOk s.2∧s.2.length=g.length∧∀x y,adj s.2 x y↔((x<v∧y<v)∨(x=v∧y<t)∨(y=v∧x<t))∧x≠y∧¬adj g x y) (λs=>v-s.1.toNat)
   (λr=>GOk r∧r.length=g.length∧∀x y,adj r x y↔(x<v+1∧y<v+1)∧x≠y∧¬adj g x y) ?_ ⟨0,rfl,by omega,hG,hl,λx y=>by rw[hA];simp⟩ (λr hr=>⟨_,rfl,⟨v+1,wi (by omega),by omega,hr⟩,?_⟩)
  ·rintro⟨_,G⟩ ⟨t,rfl,ht,hG,hl,hA⟩
   dsimp only at hG hl hA ⊢
   by_cases htv:t<v
   ·rw[dlt htv,cond_true,l1Edge_eq g hg (show t<g.length by omega),bs,wq t]
    by_cases hc:(v:Int)∈row g t
    ·have h1:adj g t v:=hc
     have h2:adj g v t:=hg.sym t v (by omega) h1
     rw[decide_eq_true hc,Bool.not_true,cond_false]
     refine⟨_,rfl,⟨t+1,rfl,by omega,hG,hl,λx y=> ?_⟩,by dsimp only;omega⟩
     rw[hA]
     constructor
     ·rintro⟨h3,h4⟩
      exact⟨by omega,h4⟩
     ·rintro⟨h3,h4,h5⟩
      refine⟨?_,h4,h5⟩
      by_cases c1:x=v∧y=t
      ·obtain⟨rfl,rfl⟩:=c1;exact absurd h2 h5
      ·by_cases c2:y=v∧x=t
       ·obtain⟨rfl,rfl⟩:=c2;exact absurd h1 h5
       ·omega
    ·have h1:¬adj g t v:=hc
     have h2:¬adj g v t:=λh=>h1 (hg.sym v t hvn h)
     rw[decide_eq_false hc,Bool.not_false,cond_true]
     obtain⟨G',e,k1,k2,k3⟩:=l1Link_ok hG (u:=t) (v:=v) (by omega) (by omega) (by omega)
     rw[e,bs]
     refine⟨_,rfl,⟨t+1,rfl,by omega,k1,by dsimp only;omega,λx y=> ?_⟩,by dsimp only;omega⟩
     rw[k3,hA]
     constructor
     ·rintro(⟨h3,h4⟩|⟨rfl,rfl⟩|⟨rfl,rfl⟩)
      ·exact⟨by omega,h4⟩
      ·exact⟨by omega,by omega,h1⟩
      ·exact⟨by omega,by omega,h2⟩
     ·rintro⟨h3,h4,h5⟩
      by_cases c1:x=v∧y=t
      ·exact .inr (.inr c1)
      ·by_cases c2:x=t∧y=v
       ·exact .inr (.inl c2)
       ·exact .inl ⟨by omega,h4,h5⟩
   ·obtain rfl:t=v:=by omega
    simp only[Bq,cond_false]
    refine⟨_,rfl,hG,hl,λx y=> ?_⟩
    rw[hA]
    constructor
    ·rintro⟨h3,h4,h5⟩;exact⟨by omega,h4,h5⟩
    ·rintro⟨h3,h4,h5⟩;exact⟨by omega,h4,h5⟩
  ·dsimp only
   rw[wi (by omega)];omega
 ·obtain rfl:v=g.length:=by omega
  simp only[Bq,cond_false]
  refine⟨_,rfl,hG,hl,λx y hx=> ?_⟩
  rw[hA]
  constructor
  ·rintro⟨h3,h4⟩;exact⟨h3.2,h4⟩
  ·rintro⟨h3,h4⟩;exact⟨⟨hx,h3⟩,h4⟩
theorem Complement_ok {g:LL}(hg:GOk g):∃y,D.t0 g=some (y,true)∧(GOk y∧y.length=g.length∧∀u v,u<g.length→(adj y u v↔v<g.length∧u≠v∧¬adj g u v)):=by
 obtain⟨y,e,h⟩:=l2Other_ok hg
 refine⟨y,?_,h⟩
 unfold D.t0
 rw[Dh g hg.sh2,CR hg,bs,Bool.not_true,cond_false,e];rfl
structure CL (g:LL)(x:LI):Prop where
 nd:x.Nodup
 rng:∀z∈x,0≤z∧z<g.length
 cq:∀u w:Nat,(u:Int)∈x→(w:Int)∈x→u≠w→adj g u w
end Go.Sx
