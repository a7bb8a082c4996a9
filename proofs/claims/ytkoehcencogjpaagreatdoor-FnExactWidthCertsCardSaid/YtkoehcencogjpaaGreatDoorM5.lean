/- Parts. -/
import Derived.Test.YtkoehcencogjpaaGreatDoorM4
import Derived.Test.YtkoehcencogjpaaGreatDoorProg
import Derived.KernelRfl
set_option linter.unusedVariables false
set_option linter.unusedSimpArgs false
set_option maxRecDepth 100000
namespace Go.Proofs.YtkoehcencogjpaaGreatDoor
open Go Go.Sx
open Go.Proofs.Tryz Go.Proofs.YtkoehcencogjpaaGreatDoor.Tryz IntKind
variable {W w : World} {G : GH} {H : List Itm}
theorem T68 :SlT prog 68 61 1 24 sn:=⟨underlying68,Tryz.t61,by kernel_rfl,by kernel_rfl,by kernel_rfl,by kernel_rfl⟩
theorem Pl62 :B4 prog 62:=isAgg62
theorem Pl68 :B4 prog 68:=isAgg68
theorem Wk.g0 {v0 v1:Value}{x0 x1:LI}(hW:Cr W)(m:Mem W G w (H))(h0:RSl (RI .u32) G v0 x0)(h1:R1 G v1 x1){y:(LI)×(LI)}(hd:D.g0 x0 x1=some y):
  Calls prog 86 #[v0,v1] w (Res W G H (λG' Ho v=>∃r0:Value,∃i0:Itm,∃r2:Value,∃i2:Itm,Ho=[i0,i2]∧v= .tuple #[r0,r2]∧Ow (RI .u32) 74 G' i0 r0 y.1∧Ow (RI .u32) 74 G' i2 r2 y.2)):=by
 refine Ar (args:=[v0,v1]) (N:=67) [.tmp 4,.tmp 5] func86 Z Z (lb Z) Z λa f=> ?_
 unfold D.g0 at hd
 refine Ae ?_
 refine Ac f Z λa f=>Ac f Z λa f=>Aa (Ag ?_)
 have⟨aa,ab,hd⟩:=bind_some hd
 refine AH (λa w=>∃ac:LI,∃ad:LI,∃ae:Int,(ac,ad,ae)=aa∧∃(af:GH) (ag:Value) (ah:Itm) (ai:Value) (aj:Itm),GLe G af∧Fr a 67 [(1,v1),(6,ag),(7,ai),(8,(.int .u32 ae))]∧Mem W af w (ah::aj::H)∧Ow (RI .u32) 74 af ah ag ac∧Ow (RI .u32) 74 af aj ai ad) ?_ ?_
 ·refine A3 9 AM (by kernel_rfl) m ?_
  refine Ao 1 9 Z f Z λa f=>Ao 3 9 Z f Z λa f=>q_len (i:=4) 9 underlying62 h0 Z (by kernel_rfl) Z f Z Z Z λa f=>Ao 6 9 Z f Z λa f=>CY (i:=0) (j:=5) (l1:= #[true,true,false,true,true,false,true,false,false,false,false]) (l2:= #[false,true,false,true,true,true,true,false,false,false,false]) Z Z (by kernel_rfl) Z Z ?_ ?_
  ·intro ak w al m am am
   have h0:=rd1 al h0
   refine AP (R:=(RI .u32)) (xs:=([]:LI)) (RI.one _) m T62 f Z Z Z (by decide) (All2.nil _) λan ao w a m ap f=>Aa ?_
   refine am ak [an] _ _ gr m ?_
   refine CY (i:=2) (j:=5) (l1:= #[true,true,true,true,true,false,true,false,false,false,false]) (l2:= #[true,true,false,true,true,true,true,false,false,false,false]) Z Z (by kernel_rfl) Z Z ?_ ?_
   ·intro aq w ar m au au
    have h0:=rd1 ar h0
    have ap:=od1 ar ap
    have⟨av,aw,ab⟩:=bind_some ab
    refine AW (RI.one _) 0 m ap Z T62 Z (by decide) f Z Z Z (h0.src m) aw λax ay w a m az f=>Aa ?_
    refine au aq [ax] _ _ gr m ?_
    have⟨aA,aB,ab⟩:=bind_some ab
    refine BX (i:=7) 9 Z (by kernel_rfl) Z f Z Z Z call57 (λ_ _ w aC m=>Wk.n m (rd1 aC h0) aB) λa f=>q_p 8 9 Z f (λ_=>Br (f.e Z)) λa f=>Bp 5 Z λaD w aE m aF aF=> ?_
    have az:=od1 aE az
    have⟨aG,aH,ab⟩:=bind_some ab
    refine CU (R:=(RI .u32)) m T62 Z (by decide) Z f Z Z Z aH λaI aJ w a m aK f=>Aa ?_
    refine aF aD [aI,ax] _ _ gr m ?_
    refine AU λaL w aM m=> ?_
    have aK:=od1 aM aK
    have az:=od1 aM az
    refine Ac f Z λa f=>Ac f Z λa f=>Aa ?_
    have m:=m.fr 1
    obtain rfl:=sj ab
    exact⟨_,_,_,Z,_,ay,ax,aJ,aI,(gt al (gt ar (gt aE aM))),f.k Z,m,az,aK⟩
   ·intro aD w aE m aF aF
    have⟨av,aw,ab⟩:=bind_some ab
    have⟨aA,aB,ab⟩:=bind_some ab
    have⟨aG,aH,ab⟩:=bind_some ab
    have h0:=rd1 aE h0
    have ap:=od1 aE ap
    refine CU (R:=(RI .u32)) m T62 Z (by decide) Z f Z Z Z aH λaI aJ w a m aK f=>Aa ?_
    refine aF aD [aI,an] _ _ gr m ?_
    refine Bp 2 Z λaq w ar m au au=> ?_
    have h0:=rd1 ar h0
    have aK:=od1 ar aK
    have ap:=od1 ar ap
    refine AW (RI.one _) 1 m ap Z T62 Z (by decide) f Z Z Z (h0.src m) aw λax ay w a m az f=>Aa ?_
    refine au aq [aI,ax] _ _ gr m ?_
    refine BX (i:=7) 9 Z (by kernel_rfl) Z f Z Z Z call57 (λ_ _ w aC m=>Wk.n m (rd1 aC h0) aB) λa f=>q_p 8 9 Z f (λ_=>Br (f.e Z)) λa f=>AU λaL w aM m=> ?_
    have aK:=od1 aM aK
    have az:=od1 aM az
    refine Ac f Z λa f=>Ac f Z λa f=>Aa ?_
    have m:=m.fr 1
    obtain rfl:=sj ab
    exact⟨_,_,_,Z,_,ay,ax,aJ,aI,(gt al (gt aE (gt ar aM))),f.k Z,m,az,aK⟩
  ·intro aD w aE m aF aF
   have⟨av,aw,ab⟩:=bind_some ab
   have⟨aA,aB,ab⟩:=bind_some ab
   have⟨aG,aH,ab⟩:=bind_some ab
   have h0:=rd1 aE h0
   refine CU (R:=(RI .u32)) m T62 Z (by decide) Z f Z Z Z aH λaI aJ w a m aK f=>Aa ?_
   refine aF aD [aI] _ _ gr m ?_
   refine Bp 0 Z λak w al m am am=> ?_
   have h0:=rd1 al h0
   have aK:=od1 al aK
   refine AP (R:=(RI .u32)) (xs:=([]:LI)) (RI.one _) m T62 f Z Z Z (by decide) (All2.nil _) λan ao w a m ap f=>Aa ?_
   refine am ak [an,aI] _ _ gr m ?_
   refine Bp 2 Z λaq w ar m au au=> ?_
   have h0:=rd1 ar h0
   have ap:=od1 ar ap
   have aK:=od1 ar aK
   refine AW (RI.one _) 0 m ap Z T62 Z (by decide) f Z Z Z (h0.src m) aw λax ay w a m az f=>Aa ?_
   refine au aq [ax,aI] _ _ gr m ?_
   refine BX (i:=7) 9 Z (by kernel_rfl) Z f Z Z Z call57 (λ_ _ w aC m=>Wk.n m (rd1 aC h0) aB) λa f=>q_p 8 9 Z f (λ_=>Br (f.e Z)) λa f=>AU λaL w aM m=> ?_
   have az:=od1 aM az
   have aK:=od1 aM aK
   refine Ac f Z λa f=>Ac f Z λa f=>Aa ?_
   obtain rfl:=sj ab
   exact⟨_,_,_,Z,_,ay,ax,aJ,aI,(gt aE (gt al (gt ar aM))),f.k Z,m,az,aK⟩
 ·rintro a w ⟨ac,ad,ae,rfl,af,ag,ah,ai,aj,aN,f,m,aO,aP⟩
  have h1:=rd1 aN h1
  refine Ag (Ae ?_)
  refine Ab f Z λa f=>AO underlying66 f Z Z h1 λa f=>Ab f Z λa f=>Aa ?_
  have⟨aQ,aR,hd⟩:=bind_some hd
  refine AH (λa w=>∃aS:LI,∃aT:LI,(aS,aT)=aQ∧∃(aU:GH) (aV:Itm) (aW:Itm),GLe af aU∧Fr a 67 [(6,ag),(7,ai)]∧Mem W aU w (aV::aW::H)∧Ow (RI .u32) 74 aU aV ag aS∧Ow (RI .u32) 74 aU aW ai aT) ?_ ?_
  ·refine Ak ?_
   refine AC (λaX a w=>∃aY:LI,∃aZ:LI,∃a0:Int,∃a1:Int,(aY,aZ,a0,a1)=aX∧∃(a2:GH) (a3:Itm) (a4:Itm),GLe af a2∧Fr a 67 [(6,ag),(7,ai),(8,(.int .u32 a0)),(21,v1),(22,(iv (x1.length:Int))),(23,(iv a1))]∧Mem W a2 w (a3::a4::H)∧Ow (RI .u32) 74 a2 a3 ag aY∧Ow (RI .u32) 74 a2 a4 ai aZ) aR ⟨_,_,_,_,Z,_,ah,aj,gr,f.k Z,m,aO,aP⟩ ?_
   clear aR f m
   rintro aX a5 a6 a7 a w ⟨aY,aZ,a0,a1,rfl,a2,a3,a4,a8,f,m,a9,ba⟩
   have h1:=rd1 a8 h1
   refine Ae ?_
   refine Ai f Z Z AE λa f=>Aa (Ag ?_)
   rcases Af a6 with⟨bb,a6⟩|⟨bb,a6⟩
   ·refine Al f Z bb ?_
    refine Am ?_
    refine Ag (Ak (Ae ?_))
    have⟨bc,bd,a6⟩:=bind_some a6
    refine A2 T66 f Z Z Z h1 bd λbe bf a bg bh f=> ?_
    subst bh
    refine Ax m Pl3 f Z Z bg λa f=>Ac f Z λa f=>Ay ?_
    refine Ab f Z λa f=>Ab f Z λa f=> ?_
    have⟨bi,bj,a6⟩:=bind_some a6
    refine A6 f Z call87 (Wk.f m bj) λbk w bl m a f=> ?_
    have a9:=od1 bl a9
    have ba:=od1 bl ba
    refine Ai f Z Z CR λa f=>Ac f Z λa f=>Ay ?_
    refine Ab f Z λa f=>Ab f Z λa f=>Ab f Z λa f=>Ab f Z λa f=> ?_
    have⟨bm,bn,a6⟩:=bind_some a6
    refine AZ 0 m a9 Z T62 f Z Z Z bn λbo a bp f=>BA 0 m a9 Z C3 f Z Z bp bn λbq a br f=> ?_
    subst br
    refine Ab f Z λa f=>Ai f Z Z DO λa f=> ?_
    have⟨bs,bt,a6⟩:=bind_some a6
    refine AZ 1 m ba Z T62 f Z Z Z bt λbu a bv f=>AQ 1 m ba Z sizeOf74 f Z Z bv bt Z Z Z λbw w m bx=>Ay ?_
    refine Ab f Z λa f=>Ab f Z λa f=> ?_
    have⟨bz,bA,a6⟩:=bind_some a6
    refine AZ 1 m bx Z T62 f Z Z Z bA λbB a bC f=>BA 1 m bx Z C3 f Z Z bC bA λbD a bE f=> ?_
    subst bE
    have⟨bF,bG,a6⟩:=bind_some a6
    refine AL f Z call89 (Wk.i hW m bG) λbH bI bJ w bK m bL a f=> ?_
    obtain⟨bM,bN,rfl,rfl,bO⟩:=bL
    have a9:=od1 bK a9
    have bx:=od1 bK bx
    refine BE 0 m bO Z underlying66 f Z Z λa f=>Ab f Z λa f=>Aa ?_
    have⟨bP,bQ,a6⟩:=bind_some a6
    refine AH (λa w=>∃bR:LI,bR=bP∧∃(bS:GH) (bT:Itm),GLe bI bS∧Fr a 67 [(6,ag),(7,ai),(8,(.int .u32 (iandNot .u32 a0 bi))),(21,v1),(22,(iv (x1.length:Int))),(23,(iv a1))]∧Mem W bS w (bT::bw::H)∧Ow (RI .u32) 74 bS bT ag bR) ?_ ?_
    ·refine Ak ?_
     have m:=m.fr 2
     have m:=m.fr 2
     refine AC (λbU a w=>∃bV:LI,∃bW:Int,(bV,bW)=bU∧∃(bX:GH) (bY:Itm),GLe bI bX∧Fr a 67 [(6,ag),(7,ai),(8,(.int .u32 (iandNot .u32 a0 bi))),(10,(iv bc)),(21,v1),(22,(iv (x1.length:Int))),(23,(iv a1)),(44,bM),(45,(iv (bF.length:Int))),(46,(iv bW))]∧Mem W bX w (bY::bw::bN::H)∧Ow (RI .u32) 74 bX bY ag bV) bQ ⟨_,_,Z,_,a3,gr,f.k Z,m,a9⟩ ?_
     clear bQ f m
     rintro bU bZ b0 b1 a w ⟨bV,bW,rfl,bX,bY,b2,f,m,b3⟩
     have bx:=od1 b2 bx
     have bO:=od1 b2 bO
     refine Ae ?_
     refine Ai f Z Z AE λa f=>Aa (Ag ?_)
     rcases Af b0 with⟨b4,b0⟩|⟨b4,b0⟩
     ·refine Al f Z b4 ?_
      refine Am ?_
      refine Ag (Ak (Ae ?_))
      have⟨b5,b6,b0⟩:=bind_some b0
      refine AZ 2 m bO Z T66 f Z Z Z b6 λb7 a b8 f=>BA 2 m bO Z Pl3 f Z Z b8 b6 λb9 a ca f=> ?_
      subst ca
      refine Ac f Z λa f=>Aa ?_
      refine A3 13 AM (by kernel_rfl) m ?_
      refine Ao 0 13 Z f Z λa f=>Ao 1 13 Z f Z λa f=> ?_
      have⟨cb,cc,b0⟩:=bind_some b0
      refine A8 2 13 0 m b3 T62 cc Z f Z Z λcd a ce f=>Bo 3 13 0 b3 C3 ce cc Z f Z λcf a cg f=> ?_
      subst cg
      refine Ao 4 13 Z f Z λa f=>Ao 5 13 Z f Z λa f=> ?_
      have⟨ch,ci,b0⟩:=bind_some b0
      refine A8 6 13 1 m bx T62 ci Z f Z Z λcj a ck f=>Bo 7 13 1 bx C3 ck ci Z f Z λcl a cm f=> ?_
      subst cm
      refine Ao 8 13 Z f Z λa f=> ?_
      have⟨cn,co,b0⟩:=bind_some b0
      refine BX (i:=9) 13 Z (by kernel_rfl) Z f Z Z Z call87 (λ_ _ w cp m=>Wk.f m co) λa f=>q_p 10 13 Z f (λ_=>AV (f.e Z) (f.e Z) CR) λa f=>q_p 11 13 Z f (λ_=>AV (f.e Z) (f.e Z) b_or) λa f=> ?_
      have⟨cq,cr,b0⟩:=bind_some b0
      refine A8 12 13 0 m b3 T62 cr Z f Z Z λcs a ct f=>AU λcu w cv m=> ?_
      have b3:=od1 cv b3
      refine AQ 0 m b3 Z sizeOf74 f Z Z ct cr Z Z Z λcw w m cx=>Aa (Aj ?_)
      refine Ai f Z Z Aw λa f=>Ab f Z λa f=>Aa ?_
      obtain rfl:=sj b0
      exact⟨_,Z,_,_,Z,_,cw,(gt b2 cv),f.k Z,m,cx⟩
     ·refine Ah f Z b4 ?_
      refine AA Z ?_
      have m:=m.eraseAt 2
      obtain rfl:=sj b0
      obtain rfl:=b1 _ rfl
      exact⟨_,Z,_,bY,b2,f.k Z,m,b3⟩
    ·rintro a w ⟨bR,rfl,bS,bT,cy,f,m,cz⟩
     have bx:=od1 cy bx
     refine Aj ?_
     refine Ai f Z Z Aw λa f=>Ab f Z λa f=>Aa ?_
     obtain rfl:=sj a6
     exact⟨_,Z,_,_,_,_,Z,_,bT,bw,(gt a8 (gt bl (gt bK cy))),f.k Z,m,cz,bx⟩
   ·refine Ah f Z bb ?_
    refine AA Z ?_
    obtain rfl:=sj a6
    obtain rfl:=a7 _ rfl
    exact⟨_,_,Z,_,a3,a4,a8,f.k Z,m,a9,ba⟩
  ·rintro a w ⟨aS,aT,rfl,aU,aV,aW,cA,f,m,cB,cC⟩
   refine Ae ?_
   refine Ab f Z λa f=>Ab f Z λa f=>Ac f Z λa f=>Ac f Z λa f=>Aa ?_
   refine Aq ?_
   obtain rfl:=sj hd
   exact⟨[ag,ai],⟨f.get _ _ Z,f.get _ _ Z,trivial⟩,f.d,_,[aV,aW],(gt aN cA),m,_,_,_,_,Z,Z,cB,cC⟩
theorem Wk.B1 {v0:Value}{x0:LI}(m:Mem W G w (H))(h0:R1 G v0 x0){y:(LI)}(hd:D.B1 x0=some y):
  Calls prog 127 #[v0] w (Res W G H (λG' Ho v=>∃r0:Value,∃i0:Itm,Ho=[i0]∧r0=v∧Ow R0 2 G' i0 r0 y)):=by
 refine Ar (args:=[v0]) (N:=21) [.tmp 2] func127 Z Z (lb Z) Z λa f=> ?_
 unfold D.B1 at hd
 refine Ae ?_
 refine Ac f Z λa f=>Ay ?_
 refine Ab f Z λa f=>AO underlying66 f Z Z h0 λa f=> ?_
 have⟨aa,ab,hd⟩:=bind_some hd
 refine CU (R:=R0) m T26 Z (by decide) Z f Z Z Z ab λac ad w a m ae f=>Ac f Z λa f=>Aa (Ag (Ae ?_))
 refine Ab f Z λa f=>AO underlying66 f Z Z h0 λa f=>Ab f Z λa f=>Aa ?_
 have⟨af,ag,hd⟩:=bind_some hd
 refine AH (λa w=>∃ah:LI,ah=af∧∃(ai:GH) (aj:Value) (ak:Itm),GLe G ai∧Fr a 21 [(3,aj)]∧Mem W ai w (ak::H)∧Ow R0 2 ai ak aj ah) ?_ ?_
 ·refine Ak ?_
  refine AC (λal a w=>∃am:LI,∃an:Int,(am,an)=al∧∃(ao:GH) (ap:Value) (aq:Itm),GLe G ao∧Fr a 21 [(3,ap),(9,v0),(10,(iv (x0.length:Int))),(11,(iv an))]∧Mem W ao w (aq::H)∧Ow R0 2 ao aq ap am) ag ⟨_,_,Z,_,ad,ac,gr,f.k Z,m,ae⟩ ?_
  clear ag f m
  rintro al ar au av a w ⟨am,an,rfl,ao,ap,aq,aw,f,m,ax⟩
  have h0:=rd1 aw h0
  refine Ae ?_
  refine Ai f Z Z AE λa f=>Aa (Ag ?_)
  rcases Af au with⟨ay,au⟩|⟨ay,au⟩
  ·refine Al f Z ay ?_
   refine Am ?_
   refine Ag (Ak (Ae ?_))
   have⟨az,aA,au⟩:=bind_some au
   refine A2 T66 f Z Z Z h0 aA λaB aC a aD aE f=> ?_
   subst aE
   refine Ax m Pl3 f Z Z aD λa f=>Ac f Z λa f=>Aa (Aj ?_)
   refine Ab f Z λa f=>Ab f Z λa f=>AP (R:=R0) (xs:=([az]:LI)) (RI.one _) m T26 f Z Z Z (by decide) (All2.cons Z (All2.nil _)) λaF aG w a m aH f=> ?_
   have⟨aI,aJ,au⟩:=bind_some au
   refine AW (RI.one _) 1 m ax Z T26 Z (by decide) f Z Z Z (Ow.src (j:=0) aH m Z) aJ λaK aL w a m aM f=>Ac f Z λa f=>Aa (Aj ?_)
   refine Ai f Z Z Aw λa f=>Ab f Z λa f=>Aa ?_
   have m:=m.fr 1
   have m:=m.eraseAt 1
   obtain rfl:=sj au
   exact⟨_,Z,_,_,Z,_,aL,aK,aw,f.k Z,m,aM⟩
  ·refine Ah f Z ay ?_
   refine AA Z ?_
   obtain rfl:=sj au
   obtain rfl:=av _ rfl
   exact⟨_,Z,_,ap,aq,aw,f.k Z,m,ax⟩
 ·rintro a w ⟨ah,rfl,ai,aj,ak,aN,f,m,aO⟩
  refine Ae ?_
  refine Ab f Z λa f=>Ac f Z λa f=>Aa ?_
  refine Aq ?_
  obtain rfl:=sj hd
  exact⟨[aj],f.g Z,f.d,_,[ak],aN,m,_,_,Z,Z,aO⟩
theorem Wk.p0 {x0:Int}(hW:Cr W)(m:Mem W G w (H)){y:(LI)}(hd:D.p0 x0=some y):
  Calls prog 88 #[(.int .u32 x0)] w (Res W G H (λG' Ho v=>∃r0:Value,∃i0:Itm,Ho=[i0]∧r0=v∧Ow R0 2 G' i0 r0 y)):=by
 refine Ar (args:=[(.int .u32 x0)]) (N:=6) [.tmp 2] func88 Z Z (lb Z) Z λa f=> ?_
 unfold D.p0 at hd
 refine Ae ?_
 refine Ac f Z λa f=>Ay ?_
 refine Ab f Z λa f=> ?_
 have⟨aa,ab,hd⟩:=bind_some hd
 refine AL f Z call89 (Wk.i hW m ab) λac ad ae w af m ag a f=> ?_
 obtain⟨ah,ai,rfl,rfl,aj⟩:=ag
 have⟨ak,al,hd⟩:=bind_some hd
 refine AL f Z call127 (Ow.lendCall (RI.mono _) 0 aj m Z (λam an m ao=>Wk.B1 m ao al) (λ_ G' _ _ ⟨a0,a1,e1,e2,o0⟩=>⟨a0,a1,e1,e2,Ow.free (RI.free _) G' o0⟩)) λap aq ar w au m av a f=> ?_
 obtain⟨aw,ax,rfl,rfl,ay⟩:=av
 refine Ac f Z λa f=>Aa ?_
 refine Aq ?_
 have m:=m.eraseAt 1
 obtain rfl:=sj hd
 exact⟨[aw],f.g Z,f.d,_,[ax],(gt af au),m,_,_,Z,Z,ay⟩
theorem Wk.H0 {x0 x1:Int}(m:Mem W G w (H)){y:(LI)}(hd:D.H0 x0 x1=some y):
  Calls prog 90 #[(iv x0),(iv x1)] w (Res W G H (λG' Ho v=>∃r0:Value,∃i0:Itm,Ho=[i0]∧r0=v∧Ow R0 2 G' i0 r0 y)):=by
 refine Ar (args:=[(iv x0),(iv x1)]) (N:=12) [.tmp 4] func90 Z Z (lb Z) Z λa f=> ?_
 unfold D.H0 at hd
 refine Ae ?_
 refine Ac f Z λa f=>Ay ?_
 refine Ab f Z λa f=>Ab f Z λa f=>l_o f (r_min2 (f.e Z) (f.e Z)) λa f=>Ab f Z λa f=>Ab f Z λa f=>l_o f (r_max2 (f.e Z) (f.e Z)) λa f=>AP (R:=R0) (xs:=([(if x1<x0 then x1 else x0),(if x0<x1 then x1 else x0)]:LI)) (RI.one _) m T26 f Z Z Z (by decide) (All2.cons Z (All2.cons Z (All2.nil _))) λaa ab w a m ac f=>Ac f Z λa f=>Aa ?_
 refine Aq ?_
 obtain rfl:=sj hd
 exact⟨[ab],f.g Z,f.d,_,[aa],gr,m,_,_,Z,Z,ac⟩
theorem Wk.e2 {v0:Value}{it0:Itm}{x0:(List (Value×LI))}{x1 x2:Int}(m:Mem W G w (it0::H))(o0:Ow (RTg R0) 26 G it0 v0 x0){y:((List (Value×LI)))}(hd:D.e2 x0 x1 x2=some y):
  Calls prog 142 #[v0,(iv x1),(iv x2),(.func (.func 83) #[] #[])] w (Res W G H (λG' Ho _=>∃i0:Itm,Ho=[i0]∧Ow (RTg R0) 26 G' i0 v0 y)):=by
 refine Ar (args:=[v0,(iv x1),(iv x2),(.func (.func 83) #[] #[])]) (N:=53) [] func142 Z Z (lb Z) Z λa f=> ?_
 unfold D.e2 at hd
 refine Ae ?_
 refine Ab f Z λa f=>Ai f Z Z Aw λa f=>Ac f Z λa f=>Aa ?_
 have⟨aa,ab,hd⟩:=bind_some hd
 refine AH (λa w=>∃ac:List (Value×LI),ac=aa∧∃(ad:GH) (ae:Itm),GLe G ad∧Fr a 53 []∧Mem W ad w (ae::H)∧Ow (RTg R0) 26 ad ae v0 ac) ?_ ?_
 ·refine Ak ?_
  refine AC (λaf a w=>∃ag:List (Value×LI),∃ah:Int,(ag,ah)=af∧∃(ai:GH) (aj:Itm),GLe G ai∧Fr a 53 [(0,v0),(1,(iv x1)),(2,(iv x2)),(3,(.func (.func 83) #[] #[])),(8,(iv ah))]∧Mem W ai w (aj::H)∧Ow (RTg R0) 26 ai aj v0 ag) ab ⟨_,_,Z,_,it0,gr,f.k Z,m,o0⟩ ?_
  clear ab f m
  rintro af ak al am a w ⟨ag,ah,rfl,ai,aj,an,f,m,ao⟩
  refine Ag (Ae ?_)
  refine Ab f Z λa f=>Ab f Z λa f=>Ai f Z Z AE λa f=>Aa ?_
  rcases Af al with⟨ap,al⟩|⟨ap,al⟩
  ·refine Al f Z ap ?_
   refine Am ?_
   refine Ag (Ak (Ae ?_))
   refine Ab f Z λa f=>Ac f Z λa f=>Aa ?_
   have⟨aq,ar,al⟩:=bind_some al
   refine AH (λa w=>∃au:List (Value×LI),au=aq∧∃(av:GH) (aw:Itm),GLe ai av∧Fr a 53 [(0,v0),(1,(iv x1)),(2,(iv x2)),(3,(.func (.func 83) #[] #[])),(8,(iv ah))]∧Mem W av w (aw::H)∧Ow (RTg R0) 26 av aw v0 au) ?_ ?_
   ·refine Ak ?_
    refine AC (λax a w=>∃ay:List (Value×LI),∃az:Int,(ay,az)=ax∧∃(aA:GH) (aB:Itm),GLe ai aA∧Fr a 53 [(0,v0),(1,(iv x1)),(2,(iv x2)),(3,(.func (.func 83) #[] #[])),(8,(iv ah)),(9,(iv az))]∧Mem W aA w (aB::H)∧Ow (RTg R0) 26 aA aB v0 ay) ar ⟨_,_,Z,_,aj,gr,f.k Z,m,ao⟩ ?_
    clear ar f m
    rintro ax aC aD aE a w ⟨ay,az,rfl,aA,aB,aF,f,m,aG⟩
    refine Ag (Ag ?_)
    refine A3 17 AM (by kernel_rfl) m ?_
    refine Ao 0 17 Z f Z λa f=>Ao 1 17 Z f Z λa f=>q_p 2 17 Z f (λ_=>AV (f.e Z) (f.e Z) Cf) λa f=>Ao 3 17 Z f Z λa f=> ?_
    have⟨aH,aI,aD⟩:=bind_some aD
    refine CS (fuel':=0) (listed':= #[true,true,true,true,true,true,true,true,true,true,true,true,true,true,true,true,true]) (λa=>Fr a 53 [(0,v0),(1,(iv x1)),(2,(iv x2)),(3,(.func (.func 83) #[] #[])),(8,(iv ah)),(9,(iv az)),(18,(iv az)),(19,(iv x1)),(20,(.bool (decide (x1<az)))),(21,(.bool (decide (x1<az)))),(34,(.bool aH))]) ?_ ?_
    ·intro a f
     refine AU λaJ w aK m=> ?_
     have aG:=Ow.mono (RTg.mono (RI.mono _)) aK aG
     refine Aa ?_
     rcases Af aD with⟨aL,aD⟩|⟨aL,aD⟩
     ·refine Al f Z aL ?_
      refine Am ?_
      refine Ag (Ak ?_)
      refine Ct AM m ?_
      refine p_p 2 Z f (λ_=>Bg (f.e Z)) λa f=>p_p 3 Z f (λ_=>Bg (f.e Z)) λa f=>p_p 4 Z f (λ_=>AV (f.e Z) (f.e Z) Bh) λa f=>Cu 28015 12 (by kernel_rfl) Z ?_
      refine Ao 0 28015 Z f Z λa f=>Ao 1 28015 Z f Z λa f=>Ao 5 28015 Z f Z λa f=>Ao 6 28015 Z f Z λa f=>q_p 7 28015 Z f (λ_=>AV (f.e Z) (f.e Z) Bh) λa f=> ?_
      have⟨aM,aN,aD⟩:=bind_some aD
      refine A8 8 28015 0 m aG T22 aN Z f Z Z λaO a aP f=>Bo 9 28015 0 aG AT aP aN Z f Z λaQ a aR f=>Ao 10 28015 Z f Z λa f=>Ao 11 28015 Z f Z λa f=> ?_
      have⟨aS,aT,aD⟩:=bind_some aD
      refine A8 12 28015 0 m aG T22 aT Z f Z Z λaU a aV f=>Bo 13 28015 0 aG AT aV aT Z f Z λaW a aX f=> ?_
      have⟨aY,aZ,aD⟩:=bind_some aD
      refine A8 14 28015 0 m aG T22 aZ Z f Z Z λa0 a a1 f=>AU λa2 w a3 m=> ?_
      have aR:=(RTg.mono (RI.mono _)) _ _ _ _ a3 aR
      have aX:=(RTg.mono (RI.mono _)) _ _ _ _ a3 aX
      have aG:=Ow.mono (RTg.mono (RI.mono _)) a3 aG
      refine AQ 0 m aG Z sizeOf26 f Z Z a1 aZ aR.cells aR.one1 aR λa4 w m a5=> ?_
      have⟨a6,a7,aD⟩:=bind_some aD
      refine AZ 0 m a5 Z T22 f Z Z Z a7 λa8 a a9 f=>AQ 0 m a5 Z sizeOf26 f Z Z a9 a7 aX.cells aX.one1 aX λba w m bb=>Aa (Aj ?_)
      refine Ab f Z λa f=>Ai f Z Z Bh λa f=>Ac f Z λa f=>Aa ?_
      obtain rfl:=sj aD
      exact⟨_,Z,_,_,Z,_,ba,(gt aF (gt aK a3)),f.k Z,m,bb⟩
     ·refine Ah f Z aL ?_
      refine AA Z ?_
      obtain rfl:=sj aD
      obtain rfl:=aE _ rfl
      exact⟨_,Z,_,aB,(gt aF aK),f.k Z,m,aG⟩
    ·intro bc
     rcases Af aI with⟨bd,aI⟩|⟨bd,aI⟩
     ·refine Ao (hw:=wo f bd) 4 17 Z f Z λa f=> ?_
      refine Ao (hw:=wo f bd) 5 17 Z f Z λa f=>Ao (hw:=wo f bd) 6 17 Z f Z λa f=> ?_
      have⟨be,bf,aI⟩:=bind_some aI
      refine A8 (hw:=wo f bd) 7 17 0 m aG T22 bf Z f Z Z λbg a bh f=>Bo (hw:=wo f bd) 8 17 0 aG AT bh bf Z f Z λbi a bj f=>Ao (hw:=wo f bd) 9 17 Z f Z λa f=>Ao (hw:=wo f bd) 10 17 Z f Z λa f=>q_p (hw:=wo f bd) 11 17 Z f (λ_=>AV (f.e Z) (f.e Z) Bh) λa f=> ?_
      have⟨bk,bl,aI⟩:=bind_some aI
      refine A8 (hw:=wo f bd) 12 17 0 m aG T22 bl Z f Z Z λbm a bn f=>Bo (hw:=wo f bd) 13 17 0 aG AT bn bl Z f Z λbo a bp f=> ?_
      have⟨bq,br,aI⟩:=bind_some aI
      refine CB (i:=14) 17 Z (by kernel_rfl) Z f (BN f Z Z Z bd) Z Z Z call83 (λ_ _ w bs m=>Wk.b m (rd1 bs (bj.2)) (rd1 bs (bp.2)) br) λa f=>q_p (hw:=wo f bd) 15 17 Z f (λ_=>AV (f.e Z) (f.e Z) AE) λa f=>q_p 16 17 Z f (λ_=>A4 (f.e Z) bd (f.e Z)) λa f=> ?_
      obtain rfl:=sj aI
      exact bc _ (f.k Z)
     ·refine AI 4 17 Z f bd λa f=> ?_
      refine AI 5 17 Z f bd λa f=>AI 6 17 Z f bd λa f=>AI 7 17 Z f bd λa f=>AI 8 17 Z f bd λa f=>AI 9 17 Z f bd λa f=>AI 10 17 Z f bd λa f=>AI 11 17 Z f bd λa f=>AI 12 17 Z f bd λa f=>AI 13 17 Z f bd λa f=>AI 14 17 Z f bd λa f=>AI 15 17 Z f bd λa f=>q_p 16 17 Z f (λ_=>A5 (f.e Z) bd (f.e Z)) λa f=> ?_
      obtain rfl:=sj aI
      exact bc _ (f.k Z)
   ·rintro a w ⟨au,rfl,av,aw,bt,f,m,bu⟩
    refine Aj ?_
    refine Ab f Z λa f=>Ai f Z Z Aw λa f=>Ac f Z λa f=>Aa ?_
    obtain rfl:=sj al
    exact⟨_,Z,_,_,Z,_,aw,(gt an bt),f.k Z,m,bu⟩
  ·refine Ah f Z ap ?_
   refine AA Z ?_
   obtain rfl:=sj al
   obtain rfl:=am _ rfl
   exact⟨_,Z,_,aj,an,f.weak trivial,m,ao⟩
 ·rintro a w ⟨ac,rfl,ad,ae,bv,f,m,bw⟩
  obtain rfl:=sj hd
  exact⟨[],trivial,f.d,_,[ae],bv,m,_,Z,bw⟩
theorem Wk.d1 {v0:Value}{it0:Itm}{x0:(List (Value×LI))}{x1 x2 x3:Int}(m:Mem W G w (it0::H))(o0:Ow (RTg R0) 26 G it0 v0 x0){y:((List (Value×LI)))}(hd:D.d1 x0 x1 x2 x3=some y):
  Calls prog 155 #[v0,(iv x1),(iv x2),(iv x3),(.func (.func 83) #[] #[])] w (Res W G H (λG' Ho _=>∃i0:Itm,Ho=[i0]∧Ow (RTg R0) 26 G' i0 v0 y)):=by
 refine Ar (args:=[v0,(iv x1),(iv x2),(iv x3),(.func (.func 83) #[] #[])]) (N:=82) [] func155 Z Z (lb Z) Z λa f=> ?_
 unfold D.d1 at hd
 refine Ae ?_
 refine Ab f Z λa f=>Ac f Z λa f=>Aa ?_
 have⟨aa,ab,hd⟩:=bind_some hd
 refine AH (λa w=>∃q_182':(List (Value×LI)),aa= .inl q_182'∧∃ac:List (Value×LI),ac=q_182'∧∃(ad:GH) (ae:Itm),GLe G ad∧Fr a 82 []∧Mem W ad w (ae::H)∧Ow (RTg R0) 26 ad ae v0 ac) ?_ ?_
 ·refine Ak ?_
  refine AC (λaf a w=>∃ag:List (Value×LI),∃ah:Int,(ag,ah)=af∧∃(ai:GH) (aj:Itm),GLe G ai∧Fr a 82 [(0,v0),(2,(iv x2)),(3,(iv x3)),(4,(.func (.func 83) #[] #[])),(10,(iv ah))]∧Mem W ai w (aj::H)∧Ow (RTg R0) 26 ai aj v0 ag) ab ⟨_,_,Z,_,it0,gr,f.k Z,m,o0⟩ ?_
  clear ab f m
  rintro af ak al am a w ⟨ag,ah,rfl,ai,aj,an,f,m,ao⟩
  refine Ak (Ae ?_)
  refine Ab f Z λa f=>Ai f Z Z DX λa f=>Ai f Z Z Aw λa f=>Ac f Z λa f=>Aa (Ag (Ae ?_))
  refine Ab f Z λa f=>Ab f Z λa f=>Ai f Z Z Cs λa f=>Aa ?_
  rcases Af al with⟨ap,al⟩|⟨ap,al⟩
  ·refine Al f Z ap ?_
   refine AA Z ?_
   obtain rfl:=sj al
   obtain rfl:=am _ rfl
   exact⟨_,Z,_,Z,_,aj,an,f.weak trivial,m,ao⟩
  ·refine Ah f Z ap ?_
   refine Am ?_
   refine Ag (Ag ?_)
   refine A3 22 AM (by kernel_rfl) m ?_
   refine Ao 0 22 Z f Z λa f=>q_p 1 22 Z f (λ_=>AV (f.e Z) (f.e Z) Aw) λa f=>Ao 2 22 Z f Z λa f=>q_p 3 22 Z f (λ_=>AV (f.e Z) (f.e Z) AE) λa f=>Ao 4 22 Z f Z λa f=> ?_
   have⟨aq,ar,al⟩:=bind_some al
   refine CS (fuel':=0) (listed':= #[true,true,true,true,true,true,true,true,true,true,true,true,true,true,true,true,true,true,true,true,true,true]) (λa=>Fr a 82 [(0,v0),(2,(iv x2)),(3,(iv x3)),(4,(.func (.func 83) #[] #[])),(10,(iv ah)),(11,(iv (i64.wrap ((i64.wrap (2*ah))+1)))),(18,(.bool (decide (x2≤(i64.wrap ((i64.wrap (2*ah))+1)))))),(19,(iv (i64.wrap ((i64.wrap (2*ah))+1)))),(20,(iv (i64.wrap ((i64.wrap ((i64.wrap (2*ah))+1))+1)))),(21,(iv x2)),(22,(.bool (decide ((i64.wrap ((i64.wrap ((i64.wrap (2*ah))+1))+1))<x2)))),(23,(.bool (decide ((i64.wrap ((i64.wrap ((i64.wrap (2*ah))+1))+1))<x2)))),(40,(.bool aq))]) ?_ ?_
   ·intro a f
    refine AU λau w av m=> ?_
    have ao:=Ow.mono (RTg.mono (RI.mono _)) av ao
    refine Aa ?_
    have⟨aw,ax,al⟩:=bind_some al
    refine AH (λa w=>∃ay:Int,ay=aw∧∃(az:GH),GLe au az∧Fr a 82 [(0,v0),(2,(iv x2)),(3,(iv x3)),(4,(.func (.func 83) #[] #[])),(10,(iv ah)),(11,(iv ay))]∧Mem W az w (aj::H)) ?_ ?_
    ·rcases Af ax with⟨aA,ax⟩|⟨aA,ax⟩
     ·refine Al f Z aA ?_
      refine Aj ?_
      refine Ab f Z λa f=>Ai f Z Z Aw λa f=>Ac f Z λa f=>Aa ?_
      obtain rfl:=sj ax
      exact⟨_,Z,_,gr,f.k Z,m⟩
     ·refine Ah f Z aA ?_
      refine Am ?_
      obtain rfl:=sj ax
      exact⟨_,Z,_,gr,f.k Z,m⟩
    ·rintro a w ⟨ay,rfl,az,aB,f,m⟩
     have ao:=Ow.mono (RTg.mono (RI.mono _)) aB ao
     refine Ag (Ag ?_)
     refine A3 16 AM (by kernel_rfl) m ?_
     refine Ao 0 16 Z f Z λa f=>Ao 1 16 Z f Z λa f=>Ao 2 16 Z f Z λa f=>Ao 3 16 Z f Z λa f=>q_p 4 16 Z f (λ_=>AV (f.e Z) (f.e Z) Aw) λa f=> ?_
     have⟨aC,aD,al⟩:=bind_some al
     refine A8 5 16 0 m ao T22 aD Z f Z Z λaE a aF f=>Bo 6 16 0 ao AT aF aD Z f Z λaG a aH f=>Ao 7 16 Z f Z λa f=>Ao 8 16 Z f Z λa f=>Ao 9 16 Z f Z λa f=>q_p 10 16 Z f (λ_=>AV (f.e Z) (f.e Z) Aw) λa f=> ?_
     have⟨aI,aJ,al⟩:=bind_some al
     refine A8 11 16 0 m ao T22 aJ Z f Z Z λaK a aL f=>Bo 12 16 0 ao AT aL aJ Z f Z λaM a aN f=> ?_
     have⟨aO,aP,al⟩:=bind_some al
     refine CB (i:=13) 16 Z (by kernel_rfl) Z f Z Z Z Z call83 (λ_ _ w aQ m=>Wk.b m (rd1 aQ (aH.2)) (rd1 aQ (aN.2)) aP) λa f=>q_p 14 16 Z f (λ_=>AV (f.e Z) (f.e Z) AE) λa f=>q_p 15 16 Z f (λ_=>Bv (f.e Z)) λa f=>AU λaR w aS m=> ?_
     have aH:=(RTg.mono (RI.mono _)) _ _ _ _ aS aH
     have aN:=(RTg.mono (RI.mono _)) _ _ _ _ aS aN
     have ao:=Ow.mono (RTg.mono (RI.mono _)) aS ao
     refine Aa ?_
     rcases Af al with⟨aT,al⟩|⟨aT,al⟩
     ·refine Al f Z aT ?_
      refine Aq ?_
      obtain rfl:=sj al
      obtain rfl:=am _ rfl
      obtain rfl:=sj hd
      exact⟨[],trivial,f.d,_,[aj],(gt an (gt av (gt aB aS))),m,_,Z,ao⟩
     ·refine Ah f Z aT ?_
      refine Am ?_
      refine Ag ?_
      refine Ct AM m ?_
      refine p_p 4 Z f (λ_=>Bg (f.e Z)) λa f=>p_p 5 Z f (λ_=>Bg (f.e Z)) λa f=>p_p 6 Z f (λ_=>Bg (f.e Z)) λa f=>p_p 7 Z f (λ_=>AV (f.e Z) (f.e Z) Aw) λa f=>Cu 240021 17 (by kernel_rfl) Z ?_
      refine Ao 0 240021 Z f Z λa f=>Ao 1 240021 Z f Z λa f=>Ao 2 240021 Z f Z λa f=>q_p 3 240021 Z f (λ_=>AV (f.e Z) (f.e Z) Aw) λa f=>Ao 8 240021 Z f Z λa f=>Ao 9 240021 Z f Z λa f=>Ao 10 240021 Z f Z λa f=>q_p 11 240021 Z f (λ_=>AV (f.e Z) (f.e Z) Aw) λa f=> ?_
      have⟨aU,aV,al⟩:=bind_some al
      refine A8 12 240021 0 m ao T22 aV Z f Z Z λaW a aX f=>Bo 13 240021 0 ao AT aX aV Z f Z λaY a aZ f=>Ao 14 240021 Z f Z λa f=>Ao 15 240021 Z f Z λa f=>Ao 16 240021 Z f Z λa f=>q_p 17 240021 Z f (λ_=>AV (f.e Z) (f.e Z) Aw) λa f=> ?_
      have⟨a0,a1,al⟩:=bind_some al
      refine A8 18 240021 0 m ao T22 a1 Z f Z Z λa2 a a3 f=>Bo 19 240021 0 ao AT a3 a1 Z f Z λa4 a a5 f=> ?_
      have⟨a6,a7,al⟩:=bind_some al
      refine A8 20 240021 0 m ao T22 a7 Z f Z Z λa8 a a9 f=>AU λba w bb m=> ?_
      have aZ:=(RTg.mono (RI.mono _)) _ _ _ _ bb aZ
      have a5:=(RTg.mono (RI.mono _)) _ _ _ _ bb a5
      have ao:=Ow.mono (RTg.mono (RI.mono _)) bb ao
      refine AQ 0 m ao Z sizeOf26 f Z Z a9 a7 aZ.cells aZ.one1 aZ λbc w m bd=> ?_
      have⟨be,bf,al⟩:=bind_some al
      refine AZ 0 m bd Z T22 f Z Z Z bf λbg a bh f=>AQ 0 m bd Z sizeOf26 f Z Z bh bf a5.cells a5.one1 a5 λbi w m bj=>Aa (Aj ?_)
      refine Ab f Z λa f=>Ac f Z λa f=>Aa ?_
      obtain rfl:=sj al
      exact⟨_,Z,_,_,Z,_,bi,(gt an (gt av (gt aB (gt aS bb)))),f.k Z,m,bj⟩
   ·intro bk
    rcases Af ar with⟨bl,ar⟩|⟨bl,ar⟩
    ·refine Ao (hw:=wo f bl) 5 22 Z f Z λa f=> ?_
     refine Ao (hw:=wo f bl) 6 22 Z f Z λa f=>Ao (hw:=wo f bl) 7 22 Z f Z λa f=>Ao (hw:=wo f bl) 8 22 Z f Z λa f=>q_p (hw:=wo f bl) 9 22 Z f (λ_=>AV (f.e Z) (f.e Z) Aw) λa f=> ?_
     have⟨bm,bn,ar⟩:=bind_some ar
     refine A8 (hw:=wo f bl) 10 22 0 m ao T22 bn Z f Z Z λbo a bp f=>Bo (hw:=wo f bl) 11 22 0 ao AT bp bn Z f Z λbq a br f=>Ao (hw:=wo f bl) 12 22 Z f Z λa f=>Ao (hw:=wo f bl) 13 22 Z f Z λa f=>Ao (hw:=wo f bl) 14 22 Z f Z λa f=>q_p (hw:=wo f bl) 15 22 Z f (λ_=>AV (f.e Z) (f.e Z) Aw) λa f=>q_p (hw:=wo f bl) 16 22 Z f (λ_=>AV (f.e Z) (f.e Z) Aw) λa f=> ?_
     have⟨bs,bt,ar⟩:=bind_some ar
     refine A8 (hw:=wo f bl) 17 22 0 m ao T22 bt Z f Z Z λbu a bv f=>Bo (hw:=wo f bl) 18 22 0 ao AT bv bt Z f Z λbw a bx f=> ?_
     have⟨bz,bA,ar⟩:=bind_some ar
     refine CB (i:=19) 22 Z (by kernel_rfl) Z f (BN f Z Z Z bl) Z Z Z call83 (λ_ _ w bB m=>Wk.b m (rd1 bB (br.2)) (rd1 bB (bx.2)) bA) λa f=>q_p (hw:=wo f bl) 20 22 Z f (λ_=>AV (f.e Z) (f.e Z) AE) λa f=>q_p 21 22 Z f (λ_=>A4 (f.e Z) bl (f.e Z)) λa f=> ?_
     obtain rfl:=sj ar
     exact bk _ (f.k Z)
    ·refine AI 5 22 Z f bl λa f=> ?_
     refine AI 6 22 Z f bl λa f=>AI 7 22 Z f bl λa f=>AI 8 22 Z f bl λa f=>AI 9 22 Z f bl λa f=>AI 10 22 Z f bl λa f=>AI 11 22 Z f bl λa f=>AI 12 22 Z f bl λa f=>AI 13 22 Z f bl λa f=>AI 14 22 Z f bl λa f=>AI 15 22 Z f bl λa f=>AI 16 22 Z f bl λa f=>AI 17 22 Z f bl λa f=>AI 18 22 Z f bl λa f=>AI 19 22 Z f bl λa f=>AI 20 22 Z f bl λa f=>q_p 21 22 Z f (λ_=>A5 (f.e Z) bl (f.e Z)) λa f=> ?_
     obtain rfl:=sj ar
     exact bk _ (f.k Z)
 ·rintro a w ⟨_,rfl,ac,rfl,ad,ae,bC,f,m,bD⟩
  obtain rfl:=sj hd
  exact⟨[],trivial,f.d,_,[ae],bC,m,_,Z,bD⟩
theorem Wk.a2 {v0:Value}{it0:Itm}{x0:(List (Value×LI))}{x1 x2:Int}(m:Mem W G w (it0::H))(o0:Ow (RTg R0) 26 G it0 v0 x0){y:((List (Value×LI)))}(hd:D.a2 x0 x1 x2=some y):
  Calls prog 143 #[v0,(iv x1),(iv x2),(.func (.func 83) #[] #[])] w (Res W G H (λG' Ho _=>∃i0:Itm,Ho=[i0]∧Ow (RTg R0) 26 G' i0 v0 y)):=by
 refine Ar (args:=[v0,(iv x1),(iv x2),(.func (.func 83) #[] #[])]) (N:=60) [] func143 Z Z (lb Z) Z λa f=> ?_
 unfold D.a2 at hd
 refine Ae ?_
 refine Ab f Z λa f=>Ac f Z λa f=>Ay ?_
 refine Ac f Z λa f=>Ay ?_
 refine Ab f Z λa f=>Ab f Z λa f=>Ai f Z Z Bh λa f=>Ac f Z λa f=>Aa (Ag (Ae ?_))
 refine Ab f Z λa f=>Ai f Z Z Bh λa f=>Ai f Z Z (b_quo Z) λa f=>Ac f Z λa f=>Aa ?_
 have⟨aa,ab,hd⟩:=bind_some hd
 refine AH (λa w=>∃ac:List (Value×LI),ac=aa∧∃(ad:GH) (ae:Itm),GLe G ad∧Fr a 60 [(0,v0),(3,(.func (.func 83) #[] #[])),(8,(iv x1)),(9,(iv 0)),(10,(iv (i64.wrap (x2-x1))))]∧Mem W ad w (ae::H)∧Ow (RTg R0) 26 ad ae v0 ac) ?_ ?_
 ·refine Ak ?_
  refine AC (λaf a w=>∃ag:List (Value×LI),∃ah:Int,(ag,ah)=af∧∃(ai:GH) (aj:Itm),GLe G ai∧Fr a 60 [(0,v0),(3,(.func (.func 83) #[] #[])),(8,(iv x1)),(9,(iv 0)),(10,(iv (i64.wrap (x2-x1)))),(11,(iv ah))]∧Mem W ai w (aj::H)∧Ow (RTg R0) 26 ai aj v0 ag) ab ⟨_,_,Z,_,it0,gr,f.k Z,m,o0⟩ ?_
  clear ab f m
  rintro af ak al am a w ⟨ag,ah,rfl,ai,aj,an,f,m,ao⟩
  refine Ag (Ae ?_)
  refine Ab f Z λa f=>Ai f Z Z Cs λa f=>Aa ?_
  rcases Af al with⟨ap,al⟩|⟨ap,al⟩
  ·refine Al f Z ap ?_
   refine Am ?_
   refine Ag (Ak (Aj ?_))
   refine Ab f Z λa f=>Ab f Z λa f=>Ab f Z λa f=>Ab f Z λa f=>Ab f Z λa f=> ?_
   have⟨aq,ar,al⟩:=bind_some al
   refine AL f Z call155 (Wk.d1 m ao ar) λau av aw w ax m ay a f=> ?_
   obtain⟨az,rfl,aA⟩:=ay
   refine Aa (Aj ?_)
   refine Ab f Z λa f=>Ai f Z Z Bh λa f=>Ac f Z λa f=>Aa ?_
   obtain rfl:=sj al
   exact⟨_,Z,_,_,Z,_,az,(gt an ax),f.k Z,m,aA⟩
  ·refine Ah f Z ap ?_
   refine AA Z ?_
   obtain rfl:=sj al
   obtain rfl:=am _ rfl
   exact⟨_,Z,_,aj,an,f.k Z,m,ao⟩
 ·rintro a w ⟨ac,rfl,ad,ae,aB,f,m,aC⟩
  refine Ae ?_
  refine Ab f Z λa f=>Ai f Z Z Bh λa f=>Ac f Z λa f=>Aa ?_
  have⟨aD,aE,hd⟩:=bind_some hd
  refine AH (λa w=>∃aF:List (Value×LI),aF=aD∧∃(aG:GH) (aH:Itm),GLe ad aG∧Fr a 60 []∧Mem W aG w (aH::H)∧Ow (RTg R0) 26 aG aH v0 aF) ?_ ?_
  ·refine Ak ?_
   refine AC (λaI a w=>∃aJ:List (Value×LI),∃aK:Int,(aJ,aK)=aI∧∃(aL:GH) (aM:Itm),GLe ad aL∧Fr a 60 [(0,v0),(3,(.func (.func 83) #[] #[])),(8,(iv x1)),(9,(iv 0)),(12,(iv aK))]∧Mem W aL w (aM::H)∧Ow (RTg R0) 26 aL aM v0 aJ) aE ⟨_,_,Z,_,ae,gr,f.k Z,m,aC⟩ ?_
   clear aE f m
   rintro aI aN aO aP a w ⟨aJ,aK,rfl,aL,aM,aQ,f,m,aR⟩
   refine Ag (Ae ?_)
   refine Ab f Z λa f=>Ai f Z Z Cs λa f=>Aa ?_
   rcases Af aO with⟨aS,aO⟩|⟨aS,aO⟩
   ·refine Al f Z aS ?_
    refine Am ?_
    refine Ag (Ak (Ag ?_))
    refine Ct AM m ?_
    refine p_p 2 Z f (λ_=>Bg (f.e Z)) λa f=>p_p 3 Z f (λ_=>Bg (f.e Z)) λa f=>p_p 4 Z f (λ_=>Bg (f.e Z)) λa f=>p_p 5 Z f (λ_=>AV (f.e Z) (f.e Z) Aw) λa f=>Cu 60017 13 (by kernel_rfl) Z ?_
    refine Ao 0 60017 Z f Z λa f=>Ao 1 60017 Z f Z λa f=>Ao 6 60017 Z f Z λa f=>Ao 7 60017 Z f Z λa f=>Ao 8 60017 Z f Z λa f=>q_p 9 60017 Z f (λ_=>AV (f.e Z) (f.e Z) Aw) λa f=> ?_
    have⟨aT,aU,aO⟩:=bind_some aO
    refine A8 10 60017 0 m aR T22 aU Z f Z Z λaV a aW f=>Bo 11 60017 0 aR AT aW aU Z f Z λaX a aY f=>Ao 12 60017 Z f Z λa f=>Ao 13 60017 Z f Z λa f=> ?_
    have⟨aZ,a0,aO⟩:=bind_some aO
    refine A8 14 60017 0 m aR T22 a0 Z f Z Z λa1 a a2 f=>Bo 15 60017 0 aR AT a2 a0 Z f Z λa3 a a4 f=> ?_
    have⟨a5,a6,aO⟩:=bind_some aO
    refine A8 16 60017 0 m aR T22 a6 Z f Z Z λa7 a a8 f=>AU λa9 w ba m=> ?_
    have aY:=(RTg.mono (RI.mono _)) _ _ _ _ ba aY
    have a4:=(RTg.mono (RI.mono _)) _ _ _ _ ba a4
    have aR:=Ow.mono (RTg.mono (RI.mono _)) ba aR
    refine AQ 0 m aR Z sizeOf26 f Z Z a8 a6 aY.cells aY.one1 aY λbb w m bc=> ?_
    have⟨bd,be,aO⟩:=bind_some aO
    refine AZ 0 m bc Z T22 f Z Z Z be λbf a bg f=>AQ 0 m bc Z sizeOf26 f Z Z bg be a4.cells a4.one1 a4 λbh w m bi=>Aa (Aj ?_)
    refine Ab f Z λa f=>Ab f Z λa f=>Ab f Z λa f=>Ab f Z λa f=>Ab f Z λa f=> ?_
    have⟨bj,bk,aO⟩:=bind_some aO
    refine AL f Z call155 (Wk.d1 m bi bk) λbl bm bn w bo m bp a f=> ?_
    obtain⟨bq,rfl,br⟩:=bp
    refine Aa (Aj ?_)
    refine Ab f Z λa f=>Ai f Z Z Bh λa f=>Ac f Z λa f=>Aa ?_
    obtain rfl:=sj aO
    exact⟨_,Z,_,_,Z,_,bq,(gt aQ (gt ba bo)),f.k Z,m,br⟩
   ·refine Ah f Z aS ?_
    refine AA Z ?_
    obtain rfl:=sj aO
    obtain rfl:=aP _ rfl
    exact⟨_,Z,_,aM,aQ,f.weak trivial,m,aR⟩
  ·rintro a w ⟨aF,rfl,aG,aH,bs,f,m,bt⟩
   obtain rfl:=sj hd
   exact⟨[],trivial,f.d,_,[aH],(gt aB bs),m,_,Z,bt⟩
theorem Wk.Q1 {v0:Value}{it0:Itm}{x0:(List (Value×LI))}{x1 x2:Int}(m:Mem W G w (it0::H))(o0:Ow (RTg R0) 26 G it0 v0 x0){y:((List (Value×LI)))}(hd:D.Q1 x0 x1 x2=some y):
  Calls prog 144 #[v0,(iv x1),(iv x2),(.func (.func 83) #[] #[])] w (Res W G H (λG' Ho _=>∃i0:Itm,Ho=[i0]∧Ow (RTg R0) 26 G' i0 v0 y)):=by
 refine Ar (args:=[v0,(iv x1),(iv x2),(.func (.func 83) #[] #[])]) (N:=67) [] func144 Z Z (lb Z) Z λa f=> ?_
 unfold D.Q1 at hd
 refine Ae ?_
 refine Ab f Z λa f=>Ab f Z λa f=>Ai f Z Z Bh λa f=>Ac f Z λa f=>Ay ?_
 refine Ab f Z λa f=>Ai f Z Z Cs λa f=>Aa ?_
 rcases Af hd with⟨aa,hd⟩|⟨aa,hd⟩
 ·refine Al f Z aa ?_
  refine Ae ?_
  refine Ab f Z λa f=>l_o f (Ez (f.e Z) ⟨_,underlying3⟩ underlying163) λa f=>Bm (cs:=[(.int .u64 0)]) zeroValue163 m f Z Z λab w a m f=>Az 0 0 (ds:=[(.int .u64 (IntKind.u64.wrap (i64.wrap (x2-x1))))]) m sizeOf163 f Z Z Z (An Z AK) Z (lb Z) Z λw m=>Ay ?_
  refine Ab f Z λa f=> ?_
  have⟨ac,ad,hd⟩:=bind_some hd
  refine A6 f Z call156 (Wk.P0 m ad) λae w af m a f=> ?_
  have o0:=Ow.mono (RTg.mono (RI.mono _)) af o0
  refine Ac f Z λa f=>Ay ?_
  refine Ab f Z λa f=>Ab f Z λa f=>Ai f Z Z (b_quo Z) λa f=>Ai f Z Z DX λa f=>Ai f Z Z Aw λa f=>Ai f Z Z Bh λa f=>Ac f Z λa f=>Aa ?_
  have⟨ag,ah,hd⟩:=bind_some hd
  refine AH (λa w=>∃ai:List (Value×LI),ai=ag∧∃(aj:GH) (ak:Itm),GLe ae aj∧Fr a 67 []∧Mem W aj w (ak::H)∧Ow (RTg R0) 26 aj ak v0 ai) ?_ ?_
  ·refine Ak ?_
   refine AC (λal a w=>∃am:List (Value×LI),∃an:Int,∃ao:Int,(am,an,ao)=al∧∃(ap:GH) (aq:Itm),GLe ae ap∧Fr a 67 [(0,v0),(1,(iv x1)),(8,(iv (i64.wrap (x2-x1)))),(9,(pb ab)),(10,(.int .u64 ac)),(11,(iv an))]∧Mem W ap w (ib ab 163 [(.int .u64 ao)]::aq::H)∧Ow (RTg R0) 26 ap aq v0 am) ah ⟨_,_,_,Z,_,it0,gr,f.k Z,m,o0⟩ ?_
   clear ah f m
   rintro al ar au av a w ⟨am,an,ao,rfl,ap,aq,aw,f,m,ax⟩
   refine Ag (Ae ?_)
   refine Ab f Z λa f=>Ab f Z λa f=>Ab f Z λa f=>Ai f Z Z (b_quo Z) λa f=>Ai f Z Z DX λa f=>Ai f Z Z Aw λa f=>Ai f Z Z Aw λa f=>Ai f Z Z CD λa f=>Aa ?_
   rcases Af au with⟨ay,au⟩|⟨ay,au⟩
   ·refine Al f Z ay ?_
    refine Am ?_
    refine Ag (Ak (Ae ?_))
    have⟨az,aA,au⟩:=bind_some au
    refine AL f Z call157 (Wk.N1 m aA) λaB aC aD w aE m aF a f=> ?_
    obtain⟨rfl,rfl⟩:=aF
    have ax:=Ow.mono (RTg.mono (RI.mono _)) aE ax
    refine Ab f Z λa f=>Ai f Z Z Bh λa f=>Ai f Z Z DO λa f=>l_o f (Ez (f.e Z) ⟨_,underlying136⟩ underlying3) λa f=>Ac f Z λa f=>Aa (Ag (Ae ?_))
    refine Ab f Z λa f=>Ab f Z λa f=>Ai f Z Z Cs λa f=>Aa ?_
    have⟨aG,aH,au⟩:=bind_some au
    refine AH (λa w=>∃aI:Int,aI=aG∧∃(aJ:GH),GLe aC aJ∧Fr a 67 [(0,v0),(1,(iv x1)),(8,(iv (i64.wrap (x2-x1)))),(9,(pb ab)),(10,(.int .u64 ac)),(11,(iv an)),(12,(iv aI))]∧Mem W aJ w (ib ab 163 [(.int .u64 az.2)]::aq::H)) ?_ ?_
    ·rcases Af aH with⟨aK,aH⟩|⟨aK,aH⟩
     ·refine Al f Z aK ?_
      refine Aj ?_
      refine Ab f Z λa f=>Ab f Z λa f=>Ai f Z Z Bh λa f=>Ac f Z λa f=>Aa ?_
      obtain rfl:=sj aH
      exact⟨_,Z,_,gr,f.k Z,m⟩
     ·refine Ah f Z aK ?_
      refine Am ?_
      obtain rfl:=sj aH
      exact⟨_,Z,_,gr,f.k Z,m⟩
    ·rintro a w ⟨aI,rfl,aJ,aL,f,m⟩
     have ax:=Ow.mono (RTg.mono (RI.mono _)) aL ax
     refine Ct AM m ?_
     refine p_p 2 Z f (λ_=>Bg (f.e Z)) λa f=>p_p 3 Z f (λ_=>Bg (f.e Z)) λa f=>p_p 4 Z f (λ_=>Bg (f.e Z)) λa f=>p_p 5 Z f (λ_=>AV (f.e Z) (f.e Z) Aw) λa f=>Cu 60017 13 (by kernel_rfl) Z ?_
     refine Ao 0 60017 Z f Z λa f=>Ao 1 60017 Z f Z λa f=>Ao 6 60017 Z f Z λa f=>Ao 7 60017 Z f Z λa f=>Ao 8 60017 Z f Z λa f=>q_p 9 60017 Z f (λ_=>AV (f.e Z) (f.e Z) Aw) λa f=> ?_
     have⟨aM,aN,au⟩:=bind_some au
     refine A8 10 60017 1 m ax T22 aN Z f Z Z λaO a aP f=>Bo 11 60017 1 ax AT aP aN Z f Z λaQ a aR f=>Ao 12 60017 Z f Z λa f=>Ao 13 60017 Z f Z λa f=> ?_
     have⟨aS,aT,au⟩:=bind_some au
     refine A8 14 60017 1 m ax T22 aT Z f Z Z λaU a aV f=>Bo 15 60017 1 ax AT aV aT Z f Z λaW a aX f=> ?_
     have⟨aY,aZ,au⟩:=bind_some au
     refine A8 16 60017 1 m ax T22 aZ Z f Z Z λa0 a a1 f=>AU λa2 w a3 m=> ?_
     have aR:=(RTg.mono (RI.mono _)) _ _ _ _ a3 aR
     have aX:=(RTg.mono (RI.mono _)) _ _ _ _ a3 aX
     have ax:=Ow.mono (RTg.mono (RI.mono _)) a3 ax
     refine AQ 1 m ax Z sizeOf26 f Z Z a1 aZ aR.cells aR.one1 aR λa4 w m a5=> ?_
     have⟨a6,a7,au⟩:=bind_some au
     refine AZ 1 m a5 Z T22 f Z Z Z a7 λa8 a a9 f=>AQ 1 m a5 Z sizeOf26 f Z Z a9 a7 aX.cells aX.one1 aX λba w m bb=>Aa (Aj ?_)
     refine Ab f Z λa f=>Ai f Z Z Aw λa f=>Ac f Z λa f=>Aa ?_
     obtain rfl:=sj au
     exact⟨_,Z,_,_,_,Z,_,ba,(gt aw (gt aE (gt aL a3))),f.k Z,m,bb⟩
   ·refine Ah f Z ay ?_
    refine AA Z ?_
    have m:=m.fr 1
    have m:=m.eraseAt 1
    obtain rfl:=sj au
    obtain rfl:=av _ rfl
    exact⟨_,Z,_,aq,aw,f.weak trivial,m,ax⟩
  ·rintro a w ⟨ai,rfl,aj,ak,bc,f,m,bd⟩
   obtain rfl:=sj hd
   exact⟨[],trivial,f.d,_,[ak],(gt af bc),m,_,Z,bd⟩
 ·refine Ah f Z aa ?_
  refine Am ?_
  obtain rfl:=sj hd
  exact⟨[],trivial,f.d,_,[it0],gr,m,_,Z,o0⟩
theorem Wk.s0 {v0:Value}{it0:Itm}{b3:Nat}{x0:(List (Value×LI))}{x1 x2 aa:Int}(m:Mem W G w (it0::ib b3 3 [(iv aa)]::H))(o0:Ow (RTg R0) 26 G it0 v0 x0){y:Int×Int×((List (Value×LI)))×Int}(hd:D.s0 x0 x1 x2 aa=some y):
  Calls prog 160 #[v0,(iv x1),(iv x2),(pb b3),(.func (.func 83) #[] #[])] w (Res W G H (λG' Ho v=>∃i0:Itm,Ho=[i0,ib b3 3 [(iv y.2.2.2)]]∧v= .tuple #[(iv y.1),(iv y.2.1)]∧Ow (RTg R0) 26 G' i0 v0 y.2.2.1)):=by
 refine Ar (args:=[v0,(iv x1),(iv x2),(pb b3),(.func (.func 83) #[] #[])]) (N:=32) [.tmp 10,.tmp 11] func160 Z Z (lb Z) Z λa f=> ?_
 unfold D.s0 at hd
 refine Ae ?_
 refine Ac f Z λa f=>Ac f Z λa f=>Aa (Ag (Ag ?_))
 refine A3 11 AM (by kernel_rfl) m ?_
 refine Ao 0 11 Z f Z λa f=>Ao 1 11 Z f Z λa f=>Ao 2 11 Z f Z λa f=> ?_
 have⟨ab,ac,hd⟩:=bind_some hd
 refine A8 3 11 0 m o0 T22 ac Z f Z Z λad a ae f=>Bo 4 11 0 o0 AT ae ac Z f Z λaf a ag f=>Ao 5 11 Z f Z λa f=>Ao 6 11 Z f Z λa f=> ?_
 have⟨ah,ai,hd⟩:=bind_some hd
 refine A8 7 11 0 m o0 T22 ai Z f Z Z λaj a ak f=>Bo 8 11 0 o0 AT ak ai Z f Z λal a am f=> ?_
 have⟨an,ao,hd⟩:=bind_some hd
 refine CB (i:=9) 11 Z (by kernel_rfl) Z f Z Z Z Z call83 (λ_ _ w ap m=>Wk.b m (rd1 ap (ag.2)) (rd1 ap (am.2)) ao) λa f=>q_p 10 11 Z f (λ_=>AV (f.e Z) (f.e Z) AE) λa f=>AU λaq w ar m=> ?_
 have ag:=(RTg.mono (RI.mono _)) _ _ _ _ ar ag
 have am:=(RTg.mono (RI.mono _)) _ _ _ _ ar am
 have o0:=Ow.mono (RTg.mono (RI.mono _)) ar o0
 refine Aa ?_
 rcases Af hd with⟨au,hd⟩|⟨au,hd⟩
 ·refine Al f Z au ?_
  refine Ae ?_
  refine Ab f Z λa f=>l_o f (BQ (f.e Z)) λa f=>AJ 1 0 m Pl3 f Z Z Z Z λa f=>Ai f Z Z Aw λa f=>l_o f (BQ (f.e Z)) λa f=>Az 1 0 (ds:=[(iv (i64.wrap (aa+1)))]) m sizeOf3 f Z Z Z (An Z AK) Z (lb Z) Z λw m=>Ay ?_
  refine Ab f Z λa f=>Ab f Z λa f=>Ac f Z λa f=>Ac f Z λa f=>Aa ?_
  refine Aq ?_
  obtain rfl:=sj hd
  exact⟨[(iv x2),(iv x1)],⟨f.get _ _ Z,f.get _ _ Z,trivial⟩,f.d,_,[it0,ib b3 3 [(iv (i64.wrap (aa+1)))]],ar,m,_,Z,Z,o0⟩
 ·refine Ah f Z au ?_
  refine Am ?_
  refine Ae ?_
  refine Ab f Z λa f=>Ab f Z λa f=>Ac f Z λa f=>Ac f Z λa f=>Aa ?_
  refine Aq ?_
  obtain rfl:=sj hd
  exact⟨[(iv x1),(iv x2)],⟨f.get _ _ Z,f.get _ _ Z,trivial⟩,f.d,_,[it0,ib b3 3 [(iv aa)]],ar,m,_,Z,Z,o0⟩
theorem Wk.t1 {v0:Value}{it0:Itm}{b4:Nat}{x0:(List (Value×LI))}{x1 x2 x3 aa:Int}(m:Mem W G w (it0::ib b4 3 [(iv aa)]::H))(o0:Ow (RTg R0) 26 G it0 v0 x0){y:Int×((List (Value×LI)))×Int}(hd:D.t1 x0 x1 x2 x3 aa=some y):
  Calls prog 159 #[v0,(iv x1),(iv x2),(iv x3),(pb b4),(.func (.func 83) #[] #[])] w (Res W G H (λG' Ho v=>∃i0:Itm,Ho=[i0,ib b4 3 [(iv y.2.2)]]∧v=(iv y.1)∧Ow (RTg R0) 26 G' i0 v0 y.2.1)):=by
 refine Ar (args:=[v0,(iv x1),(iv x2),(iv x3),(pb b4),(.func (.func 83) #[] #[])]) (N:=41) [.tmp 12] func159 Z Z (lb Z) Z λa f=> ?_
 unfold D.t1 at hd
 refine Ae ?_
 refine Ac f Z λa f=>Ay ?_
 refine Ab f Z λa f=>Ab f Z λa f=>Ab f Z λa f=>Ab f Z λa f=>Ab f Z λa f=> ?_
 have⟨ab,ac,hd⟩:=bind_some hd
 refine AL f Z call160 (Wk.s0 m o0 ac) λad ae af w ag m ah a f=> ?_
 obtain⟨ai,rfl,rfl,aj⟩:=ah
 refine Ab f Z λa f=>l_o f (A9 (f.e Z) Z) λa f=>l_o f (A9 (f.e Z) Z) λa f=>Ac f Z λa f=>Ac f Z λa f=>Ay ?_
 refine Ab f Z λa f=>Ab f Z λa f=>Ab f Z λa f=>Ab f Z λa f=>Ab f Z λa f=> ?_
 have⟨ak,al,hd⟩:=bind_some hd
 refine AL f Z call160 (Wk.s0 m aj al) λam an ao w ap m aq a f=> ?_
 obtain⟨ar,rfl,rfl,au⟩:=aq
 refine Ab f Z λa f=>l_o f (A9 (f.e Z) Z) λa f=>l_o f (A9 (f.e Z) Z) λa f=>Ac f Z λa f=>Ac f Z λa f=>Ay ?_
 refine Ab f Z λa f=>Ab f Z λa f=>Ab f Z λa f=>Ab f Z λa f=>Ab f Z λa f=> ?_
 have⟨av,aw,hd⟩:=bind_some hd
 refine AL f Z call160 (Wk.s0 m au aw) λax ay az w aA m aB a f=> ?_
 obtain⟨aC,rfl,rfl,aD⟩:=aB
 refine Ab f Z λa f=>l_o f (A9 (f.e Z) Z) λa f=>l_o f (A9 (f.e Z) Z) λa f=>Ac f Z λa f=>Ac f Z λa f=>Ay ?_
 refine Ab f Z λa f=>Ac f Z λa f=>Aa ?_
 refine Aq ?_
 obtain rfl:=sj hd
 exact⟨[(iv av.2.1)],f.g Z,f.d,_,[aC,ib b4 3 [(iv av.2.2.2)]],(gt ag (gt ap aA)),m,_,Z,Z,aD⟩
theorem Wk.j0 {v0:Value}{it0:Itm}{b2:Nat}{x0:(List (Value×LI))}{x1 aa:Int}(m:Mem W G w (it0::ib b2 3 [(iv aa)]::H))(o0:Ow (RTg R0) 26 G it0 v0 x0){y:Int×((List (Value×LI)))×Int}(hd:D.j0 x0 x1 aa=some y):
  Calls prog 158 #[v0,(iv x1),(pb b2),(.func (.func 83) #[] #[])] w (Res W G H (λG' Ho v=>∃i0:Itm,Ho=[i0,ib b2 3 [(iv y.2.2)]]∧v=(iv y.1)∧Ow (RTg R0) 26 G' i0 v0 y.2.1)):=by
 refine Ar (args:=[v0,(iv x1),(pb b2),(.func (.func 83) #[] #[])]) (N:=18) [.tmp 8] func158 Z Z (lb Z) Z λa f=> ?_
 unfold D.j0 at hd
 refine Ae ?_
 refine Ac f Z λa f=>Ay ?_
 refine Ab f Z λa f=>Ab f Z λa f=>Ai f Z Z Bh λa f=>Ab f Z λa f=>Ab f Z λa f=>Ai f Z Z Aw λa f=>Ab f Z λa f=>Ab f Z λa f=> ?_
 have⟨ab,ac,hd⟩:=bind_some hd
 refine AL f Z call159 (Wk.t1 m o0 ac) λad ae af w ag m ah a f=> ?_
 obtain⟨ai,rfl,rfl,aj⟩:=ah
 refine Ac f Z λa f=>Aa ?_
 refine Aq ?_
 obtain rfl:=sj hd
 exact⟨[(iv ab.1)],f.g Z,f.d,_,[ai,ib b2 3 [(iv ab.2.2)]],ag,m,_,Z,Z,aj⟩
theorem Wk.o2 {v0:Value}{it0:Itm}{x0:(List (Value×LI))}{x1 x2:Int}(m:Mem W G w (it0::H))(o0:Ow (RTg R0) 26 G it0 v0 x0){y:Int×Int×((List (Value×LI)))}(hd:D.o2 x0 x1 x2=some y):
  Calls prog 145 #[v0,(iv x1),(iv x2),(.func (.func 83) #[] #[])] w (Res W G H (λG' Ho v=>∃i0:Itm,Ho=[i0]∧v= .tuple #[(iv y.1),(iv y.2.1)]∧Ow (RTg R0) 26 G' i0 v0 y.2.2)):=by
 refine Ar (args:=[v0,(iv x1),(iv x2),(.func (.func 83) #[] #[])]) (N:=63) [.tmp 8,.tmp 9] func145 Z Z (lb Z) Z λa f=> ?_
 unfold D.o2 at hd
 refine Ae ?_
 refine Ac f Z λa f=>Ac f Z λa f=>Ay ?_
 refine Ab f Z λa f=>Ab f Z λa f=>Ai f Z Z Bh λa f=>Ac f Z λa f=>Ay ?_
 refine Bm (cs:=[(iv 0)]) zeroValue3 m f Z Z λaa w a m f=>Ay ?_
 refine Ab f Z λa f=>Ab f Z λa f=>Ai f Z Z (b_quo Z) λa f=>Ai f Z Z DX λa f=>Ai f Z Z Aw λa f=>Ac f Z λa f=>Ay ?_
 refine Ab f Z λa f=>Ab f Z λa f=>Ai f Z Z (b_quo Z) λa f=>Ai f Z Z DX λa f=>Ai f Z Z Aw λa f=>Ac f Z λa f=>Ay ?_
 refine Ab f Z λa f=>Ab f Z λa f=>Ai f Z Z (b_quo Z) λa f=>Ai f Z Z DX λa f=>Ai f Z Z Aw λa f=>Ac f Z λa f=>Aa (Ag (Ae ?_))
 refine Ab f Z λa f=>Ai f Z Z Cs λa f=>Aa ?_
 rcases Af hd with⟨ab,hd⟩|⟨ab,hd⟩
 ·refine Al f Z ab ?_
  refine Ag (Ae ?_)
  refine Ab f Z λa f=>Ai f Z Z Cs λa f=>Aa ?_
  have⟨ac,ad,hd⟩:=bind_some hd
  refine AH (λa w=>∃ae:List (Value×LI),∃af:Int,∃ag:Int,∃ah:Int,∃ai:Int,(ae,af,ag,ah,ai)=ac∧∃(aj:GH) (ak:Itm),GLe G aj∧Fr a 63 [(0,v0),(3,(.func (.func 83) #[] #[])),(11,(pb aa)),(12,(iv af)),(13,(iv ag)),(14,(iv ah))]∧Mem W aj w (ib aa 3 [(iv ai)]::ak::H)∧Ow (RTg R0) 26 aj ak v0 ae) ?_ ?_
  ·rcases Af ad with⟨al,ad⟩|⟨al,ad⟩
   ·refine Al f Z al ?_
    refine Ae ?_
    refine Ab f Z λa f=>Ab f Z λa f=>Ab f Z λa f=> ?_
    have m:=m.fr 1
    have⟨am,an,ad⟩:=bind_some ad
    refine AL f Z call158 (Wk.j0 m o0 an) λao ap aq w ar m au a f=> ?_
    obtain⟨av,rfl,rfl,aw⟩:=au
    refine Ac f Z λa f=>Ay ?_
    refine Ab f Z λa f=>Ab f Z λa f=>Ab f Z λa f=> ?_
    have⟨ax,ay,ad⟩:=bind_some ad
    refine AL f Z call158 (Wk.j0 m aw ay) λaz aA aB w aC m aD a f=> ?_
    obtain⟨aE,rfl,rfl,aF⟩:=aD
    refine Ac f Z λa f=>Aa (Aj ?_)
    refine Ab f Z λa f=>Ab f Z λa f=>Ab f Z λa f=> ?_
    have⟨aG,aH,ad⟩:=bind_some ad
    refine AL f Z call158 (Wk.j0 m aF aH) λaI aJ aK w aL m aM a f=> ?_
    obtain⟨aN,rfl,rfl,aO⟩:=aM
    refine Ac f Z λa f=>Aa ?_
    have m:=m.fr 1
    obtain rfl:=sj ad
    exact⟨_,_,_,_,_,Z,_,aN,(gt ar (gt aC aL)),f.k Z,m,aO⟩
   ·refine Ah f Z al ?_
    refine Am ?_
    obtain rfl:=sj ad
    exact⟨_,_,_,_,_,Z,_,it0,gr,f.k Z,m,o0⟩
  ·rintro a w ⟨ae,af,ag,ah,ai,rfl,aj,ak,aP,f,m,aQ⟩
   refine Aj ?_
   refine Ab f Z λa f=>Ab f Z λa f=>Ab f Z λa f=>Ab f Z λa f=>Ab f Z λa f=> ?_
   have m:=m.fr 1
   have⟨aR,aS,hd⟩:=bind_some hd
   refine AL f Z call159 (Wk.t1 m aQ aS) λaT aU aV w aW m aX a f=> ?_
   obtain⟨aY,rfl,rfl,aZ⟩:=aX
   refine Ac f Z λa f=>Ay ?_
   refine AJ 1 0 m Pl3 f Z Z Z Z λa f=>Aa (Ak (Ae ?_))
   refine Ai f Z Z BS λa f=>Ac f Z λa f=>Aa ?_
   rcases Af hd with⟨a0,hd⟩|⟨a0,hd⟩
   ·refine Al f Z a0 ?_
    refine Ae ?_
    refine Ab f Z λa f=>Ac f Z λa f=>Ac f Z λa f=>Aa ?_
    refine Aq ?_
    have m:=m.eraseAt 1
    obtain rfl:=sj hd
    exact⟨[(iv aR.1),(iv 1)],⟨f.get _ _ Z,f.get _ _ Z,trivial⟩,f.d,_,[aY],(gt aP aW),m,_,Z,Z,aZ⟩
   ·refine Ah f Z a0 ?_
    refine Ae ?_
    refine Ai f Z Z BS λa f=>Ac f Z λa f=>Aa ?_
    rcases Af hd with⟨a1,hd⟩|⟨a1,hd⟩
    ·refine Al f Z a1 ?_
     refine Ae ?_
     refine Ab f Z λa f=>Ac f Z λa f=>Ac f Z λa f=>Aa ?_
     refine Aq ?_
     have m:=m.eraseAt 1
     obtain rfl:=sj hd
     exact⟨[(iv aR.1),(iv 2)],⟨f.get _ _ Z,f.get _ _ Z,trivial⟩,f.d,_,[aY],(gt aP aW),m,_,Z,Z,aZ⟩
    ·refine Ah f Z a1 ?_
     refine Ae ?_
     refine Ab f Z λa f=>Ac f Z λa f=>Ac f Z λa f=>Aa ?_
     refine Aq ?_
     have m:=m.eraseAt 1
     obtain rfl:=sj hd
     exact⟨[(iv aR.1),(iv 0)],⟨f.get _ _ Z,f.get _ _ Z,trivial⟩,f.d,_,[aY],(gt aP aW),m,_,Z,Z,aZ⟩
 ·refine Ah f Z ab ?_
  refine Am ?_
  refine Ae ?_
  refine AJ 0 0 m Pl3 f Z Z Z Z λa f=>Aa (Ak (Ae ?_))
  refine Ai f Z Z BS λa f=>Ac f Z λa f=>Aa ?_
  rcases Af hd with⟨a2,hd⟩|⟨a2,hd⟩
  ·refine Al f Z a2 ?_
   refine Ae ?_
   refine Ab f Z λa f=>Ac f Z λa f=>Ac f Z λa f=>Aa ?_
   refine Aq ?_
   have m:=m.fr 1
   have m:=m.eraseAt 1
   obtain rfl:=sj hd
   exact⟨[(iv (i64.wrap (x1+(i64.wrap ((i64.wrap (Int.tdiv (i64.wrap (x2-x1)) 4))*2))))),(iv 1)],⟨f.get _ _ Z,f.get _ _ Z,trivial⟩,f.d,_,[it0],gr,m,_,Z,Z,o0⟩
  ·refine Ah f Z a2 ?_
   refine Ae ?_
   refine Ai f Z Z BS λa f=>Ac f Z λa f=>Aa ?_
   rcases Af hd with⟨a3,hd⟩|⟨a3,hd⟩
   ·refine Al f Z a3 ?_
    refine Ae ?_
    refine Ab f Z λa f=>Ac f Z λa f=>Ac f Z λa f=>Aa ?_
    refine Aq ?_
    have m:=m.fr 1
    have m:=m.eraseAt 1
    obtain rfl:=sj hd
    exact⟨[(iv (i64.wrap (x1+(i64.wrap ((i64.wrap (Int.tdiv (i64.wrap (x2-x1)) 4))*2))))),(iv 2)],⟨f.get _ _ Z,f.get _ _ Z,trivial⟩,f.d,_,[it0],gr,m,_,Z,Z,o0⟩
   ·refine Ah f Z a3 ?_
    refine Ae ?_
    refine Ab f Z λa f=>Ac f Z λa f=>Ac f Z λa f=>Aa ?_
    refine Aq ?_
    have m:=m.fr 1
    have m:=m.eraseAt 1
    obtain rfl:=sj hd
    exact⟨[(iv (i64.wrap (x1+(i64.wrap ((i64.wrap (Int.tdiv (i64.wrap (x2-x1)) 4))*2))))),(iv 0)],⟨f.get _ _ Z,f.get _ _ Z,trivial⟩,f.d,_,[it0],gr,m,_,Z,Z,o0⟩
theorem Wk.p2 {v0:Value}{it0:Itm}{x0:(List (Value×LI))}{x1 x2:Int}(m:Mem W G w (it0::H))(o0:Ow (RTg R0) 26 G it0 v0 x0){y:((List (Value×LI)))}(hd:D.p2 x0 x1 x2=some y):
  Calls prog 146 #[v0,(iv x1),(iv x2),(.func (.func 83) #[] #[])] w (Res W G H (λG' Ho _=>∃i0:Itm,Ho=[i0]∧Ow (RTg R0) 26 G' i0 v0 y)):=by
 refine Ar (args:=[v0,(iv x1),(iv x2),(.func (.func 83) #[] #[])]) (N:=34) [] func146 Z Z (lb Z) Z λa f=> ?_
 unfold D.p2 at hd
 refine Ae ?_
 refine Ab f Z λa f=>Ac f Z λa f=>Ay ?_
 refine Ab f Z λa f=>Ai f Z Z Bh λa f=>Ac f Z λa f=>Aa ?_
 have⟨aa,ab,hd⟩:=bind_some hd
 refine AH (λa w=>∃ac:List (Value×LI),ac=aa∧∃(ad:GH) (ae:Itm),GLe G ad∧Fr a 34 []∧Mem W ad w (ae::H)∧Ow (RTg R0) 26 ad ae v0 ac) ?_ ?_
 ·refine Ak ?_
  refine AC (λaf a w=>∃ag:List (Value×LI),∃ah:Int,∃ai:Int,(ag,ah,ai)=af∧∃(aj:GH) (ak:Itm),GLe G aj∧Fr a 34 [(0,v0),(8,(iv ah)),(9,(iv ai))]∧Mem W aj w (ak::H)∧Ow (RTg R0) 26 aj ak v0 ag) ab ⟨_,_,_,Z,_,it0,gr,f.k Z,m,o0⟩ ?_
  clear ab f m
  rintro af al am an a w ⟨ag,ah,ai,rfl,aj,ak,ao,f,m,ap⟩
  refine Ag (Ae ?_)
  refine Ab f Z λa f=>Ab f Z λa f=>Ai f Z Z AE λa f=>Aa ?_
  rcases Af am with⟨aq,am⟩|⟨aq,am⟩
  ·refine Al f Z aq ?_
   refine Am ?_
   refine Ak (Ag ?_)
   refine Ct AM m ?_
   refine p_p 2 Z f (λ_=>Bg (f.e Z)) λa f=>p_p 3 Z f (λ_=>Bg (f.e Z)) λa f=>Cu 12013 11 (by kernel_rfl) Z ?_
   refine Ao 0 12013 Z f Z λa f=>Ao 1 12013 Z f Z λa f=>Ao 4 12013 Z f Z λa f=>Ao 5 12013 Z f Z λa f=> ?_
   have⟨ar,au,am⟩:=bind_some am
   refine A8 6 12013 0 m ap T22 au Z f Z Z λav a aw f=>Bo 7 12013 0 ap AT aw au Z f Z λax a ay f=>Ao 8 12013 Z f Z λa f=>Ao 9 12013 Z f Z λa f=> ?_
   have⟨az,aA,am⟩:=bind_some am
   refine A8 10 12013 0 m ap T22 aA Z f Z Z λaB a aC f=>Bo 11 12013 0 ap AT aC aA Z f Z λaD a aE f=> ?_
   have⟨aF,aG,am⟩:=bind_some am
   refine A8 12 12013 0 m ap T22 aG Z f Z Z λaH a aI f=>AU λaJ w aK m=> ?_
   have ay:=(RTg.mono (RI.mono _)) _ _ _ _ aK ay
   have aE:=(RTg.mono (RI.mono _)) _ _ _ _ aK aE
   have ap:=Ow.mono (RTg.mono (RI.mono _)) aK ap
   refine AQ 0 m ap Z sizeOf26 f Z Z aI aG ay.cells ay.one1 ay λaL w m aM=> ?_
   have⟨aN,aO,am⟩:=bind_some am
   refine AZ 0 m aM Z T22 f Z Z Z aO λaP a aQ f=>AQ 0 m aM Z sizeOf26 f Z Z aQ aO aE.cells aE.one1 aE λaR w m aS=>Ay ?_
   refine Ab f Z λa f=>Ai f Z Z Aw λa f=>Ac f Z λa f=>Aa (Aj ?_)
   refine Ab f Z λa f=>Ai f Z Z Bh λa f=>Ac f Z λa f=>Aa ?_
   obtain rfl:=sj am
   exact⟨_,Z,_,_,_,Z,_,aR,(gt ao aK),f.k Z,m,aS⟩
  ·refine Ah f Z aq ?_
   refine AA Z ?_
   obtain rfl:=sj am
   obtain rfl:=an _ rfl
   exact⟨_,Z,_,ak,ao,f.weak trivial,m,ap⟩
 ·rintro a w ⟨ac,rfl,ad,ae,aT,f,m,aU⟩
  obtain rfl:=sj hd
  exact⟨[],trivial,f.d,_,[ae],aT,m,_,Z,aU⟩
theorem Wk.m2 {v0:Value}{it0:Itm}{x0:(List (Value×LI))}{x1 x2:Int}(m:Mem W G w (it0::H))(o0:Ow (RTg R0) 26 G it0 v0 x0){y:Bool×((List (Value×LI)))}(hd:D.m2 x0 x1 x2=some y):
  Calls prog 147 #[v0,(iv x1),(iv x2),(.func (.func 83) #[] #[])] w (Res W G H (λG' Ho v=>∃i0:Itm,Ho=[i0]∧v=(.bool y.1)∧Ow (RTg R0) 26 G' i0 v0 y.2)):=by
 refine Ar (args:=[v0,(iv x1),(iv x2),(.func (.func 83) #[] #[])]) (N:=141) [.tmp 8] func147 Z Z (lb Z) Z λa f=> ?_
 unfold D.m2 at hd
 refine Ae ?_
 refine Ac f Z λa f=>Ay ?_
 refine Ab f Z λa f=>Ai f Z Z Aw λa f=>Ac f Z λa f=>Aa (Ag (Ae ?_))
 refine Ac f Z λa f=>Aa ?_
 have⟨aa,ab,hd⟩:=bind_some hd
 refine AH (λa w=>∃q_1621':(List (Value×LI)),aa= .inl q_1621'∧∃ac:List (Value×LI),ac=q_1621'∧∃(ad:GH) (ae:Itm),GLe G ad∧Fr a 141 []∧Mem W ad w (ae::H)∧Ow (RTg R0) 26 ad ae v0 ac) ?_ ?_
 ·refine Ak ?_
  refine AC (λaf a w=>∃ag:List (Value×LI),∃ah:Int,∃ai:Int,(ag,ah,ai)=af∧∃(aj:GH) (ak:Itm),GLe G aj∧Fr a 141 [(0,v0),(1,(iv x1)),(2,(iv x2)),(3,(.func (.func 83) #[] #[])),(9,(iv ah)),(10,(iv ai))]∧Mem W aj w (ak::H)∧Ow (RTg R0) 26 aj ak v0 ag) ab ⟨_,_,_,Z,_,it0,gr,f.k Z,m,o0⟩ ?_
  clear ab f m
  rintro af al am an a w ⟨ag,ah,ai,rfl,aj,ak,ao,f,m,ap⟩
  refine Ag (Ae ?_)
  refine Ab f Z λa f=>Ai f Z Z AE λa f=>Aa ?_
  rcases Af am with⟨aq,am⟩|⟨aq,am⟩
  ·refine Al f Z aq ?_
   refine Am ?_
   refine Ag (Ak (Ag ?_))
   have⟨ar,au,am⟩:=bind_some am
   refine AH (λa w=>∃av:Int,av=ar∧∃(aw:GH),GLe aj aw∧Fr a 141 [(0,v0),(1,(iv x1)),(2,(iv x2)),(3,(.func (.func 83) #[] #[])),(9,(iv av)),(10,(iv ai))]∧Mem W aw w (ak::H)) ?_ ?_
   ·refine Ak ?_
    refine AC (λax a w=>∃ay:Int,ay=ax∧∃(az:GH),GLe aj az∧Fr a 141 [(0,v0),(1,(iv x1)),(2,(iv x2)),(3,(.func (.func 83) #[] #[])),(9,(iv ay)),(10,(iv ai))]∧Mem W az w (ak::H)) au ⟨_,Z,_,gr,f.k Z,m⟩ ?_
    clear au f m
    rintro ax aA aB aC a w ⟨ay,rfl,az,aD,f,m⟩
    have ap:=Ow.mono (RTg.mono (RI.mono _)) aD ap
    refine Ag (Ag ?_)
    refine A3 18 AM (by kernel_rfl) m ?_
    refine Ao 0 18 Z f Z λa f=>Ao 1 18 Z f Z λa f=>q_p 2 18 Z f (λ_=>AV (f.e Z) (f.e Z) AE) λa f=>Ao 3 18 Z f Z λa f=> ?_
    have⟨aE,aF,aB⟩:=bind_some aB
    refine CS (fuel':=0) (listed':= #[true,true,true,true,true,true,true,true,true,true,true,true,true,true,true,true,true,true]) (λa=>Fr a 141 [(0,v0),(1,(iv x1)),(2,(iv x2)),(3,(.func (.func 83) #[] #[])),(9,(iv ay)),(10,(iv ai)),(19,(iv ay)),(20,(iv x2)),(21,(.bool (decide (ay<x2)))),(22,(.bool (decide (ay<x2)))),(36,(.bool aE))]) ?_ ?_
    ·intro a f
     refine AU λaG w aH m=>Aa ?_
     rcases Af aB with⟨aI,aB⟩|⟨aI,aB⟩
     ·refine Al f Z aI ?_
      refine Am ?_
      refine Ak (Aj ?_)
      refine Ab f Z λa f=>Ai f Z Z Aw λa f=>Ac f Z λa f=>Aa ?_
      obtain rfl:=sj aB
      exact⟨_,Z,_,Z,_,(gt aD aH),f.k Z,m⟩
     ·refine Ah f Z aI ?_
      refine AA Z ?_
      obtain rfl:=sj aB
      obtain rfl:=aC _ rfl
      exact⟨_,Z,_,(gt aD aH),f.k Z,m⟩
    ·intro aJ
     rcases Af aF with⟨aK,aF⟩|⟨aK,aF⟩
     ·refine Ao (hw:=wo f aK) 4 18 Z f Z λa f=> ?_
      refine Ao (hw:=wo f aK) 5 18 Z f Z λa f=>Ao (hw:=wo f aK) 6 18 Z f Z λa f=> ?_
      have⟨aL,aM,aF⟩:=bind_some aF
      refine A8 (hw:=wo f aK) 7 18 0 m ap T22 aM Z f Z Z λaN a aO f=>Bo (hw:=wo f aK) 8 18 0 ap AT aO aM Z f Z λaP a aQ f=>Ao (hw:=wo f aK) 9 18 Z f Z λa f=>Ao (hw:=wo f aK) 10 18 Z f Z λa f=>q_p (hw:=wo f aK) 11 18 Z f (λ_=>AV (f.e Z) (f.e Z) Bh) λa f=> ?_
      have⟨aR,aS,aF⟩:=bind_some aF
      refine A8 (hw:=wo f aK) 12 18 0 m ap T22 aS Z f Z Z λaT a aU f=>Bo (hw:=wo f aK) 13 18 0 ap AT aU aS Z f Z λaV a aW f=> ?_
      have⟨aX,aY,aF⟩:=bind_some aF
      refine CB (i:=14) 18 Z (by kernel_rfl) Z f (BN f Z Z Z aK) Z Z Z call83 (λ_ _ w aZ m=>Wk.b m (rd1 aZ (aQ.2)) (rd1 aZ (aW.2)) aY) λa f=>q_p (hw:=wo f aK) 15 18 Z f (λ_=>AV (f.e Z) (f.e Z) AE) λa f=>q_p (hw:=wo f aK) 16 18 Z f (λ_=>Bv (f.e Z)) λa f=>q_p 17 18 Z f (λ_=>A4 (f.e Z) aK (f.e Z)) λa f=> ?_
      obtain rfl:=sj aF
      exact aJ _ (f.k Z)
     ·refine AI 4 18 Z f aK λa f=> ?_
      refine AI 5 18 Z f aK λa f=>AI 6 18 Z f aK λa f=>AI 7 18 Z f aK λa f=>AI 8 18 Z f aK λa f=>AI 9 18 Z f aK λa f=>AI 10 18 Z f aK λa f=>AI 11 18 Z f aK λa f=>AI 12 18 Z f aK λa f=>AI 13 18 Z f aK λa f=>AI 14 18 Z f aK λa f=>AI 15 18 Z f aK λa f=>AI 16 18 Z f aK λa f=>q_p 17 18 Z f (λ_=>A5 (f.e Z) aK (f.e Z)) λa f=> ?_
      obtain rfl:=sj aF
      exact aJ _ (f.k Z)
   ·rintro a w ⟨av,rfl,aw,a0,f,m⟩
    have ap:=Ow.mono (RTg.mono (RI.mono _)) a0 ap
    refine Ag (Ae ?_)
    refine Ab f Z λa f=>Ab f Z λa f=>Ai f Z Z BS λa f=>Aa ?_
    rcases Af am with⟨a1,am⟩|⟨a1,am⟩
    ·refine Al f Z a1 ?_
     refine Ae ?_
     refine Ac f Z λa f=>Aa ?_
     refine Aq ?_
     obtain rfl:=sj am
     obtain rfl:=an _ rfl
     obtain rfl:=sj hd
     exact⟨[(.bool true)],f.g Z,f.d,_,[ak],(gt ao a0),m,_,Z,Z,ap⟩
    ·refine Ah f Z a1 ?_
     refine Am ?_
     refine Ag (Ae ?_)
     refine Ab f Z λa f=>Ab f Z λa f=>Ai f Z Z Bh λa f=>Ai f Z Z AE λa f=>Aa ?_
     rcases Af am with⟨a2,am⟩|⟨a2,am⟩
     ·refine Al f Z a2 ?_
      refine Ae ?_
      refine Ac f Z λa f=>Aa ?_
      refine Aq ?_
      obtain rfl:=sj am
      obtain rfl:=an _ rfl
      obtain rfl:=sj hd
      exact⟨[(.bool false)],f.g Z,f.d,_,[ak],(gt ao a0),m,_,Z,Z,ap⟩
     ·refine Ah f Z a2 ?_
      refine Am ?_
      refine Ag ?_
      refine Ct AM m ?_
      refine p_p 2 Z f (λ_=>Bg (f.e Z)) λa f=>p_p 3 Z f (λ_=>Bg (f.e Z)) λa f=>p_p 4 Z f (λ_=>AV (f.e Z) (f.e Z) Bh) λa f=>Cu 28015 12 (by kernel_rfl) Z ?_
      refine Ao 0 28015 Z f Z λa f=>Ao 1 28015 Z f Z λa f=>Ao 5 28015 Z f Z λa f=>Ao 6 28015 Z f Z λa f=>q_p 7 28015 Z f (λ_=>AV (f.e Z) (f.e Z) Bh) λa f=> ?_
      have⟨a3,a4,am⟩:=bind_some am
      refine A8 8 28015 0 m ap T22 a4 Z f Z Z λa5 a a6 f=>Bo 9 28015 0 ap AT a6 a4 Z f Z λa7 a a8 f=>Ao 10 28015 Z f Z λa f=>Ao 11 28015 Z f Z λa f=> ?_
      have⟨a9,ba,am⟩:=bind_some am
      refine A8 12 28015 0 m ap T22 ba Z f Z Z λbb a bc f=>Bo 13 28015 0 ap AT bc ba Z f Z λbd a be f=> ?_
      have⟨bf,bg,am⟩:=bind_some am
      refine A8 14 28015 0 m ap T22 bg Z f Z Z λbh a bi f=>AU λbj w bk m=> ?_
      have a8:=(RTg.mono (RI.mono _)) _ _ _ _ bk a8
      have be:=(RTg.mono (RI.mono _)) _ _ _ _ bk be
      have ap:=Ow.mono (RTg.mono (RI.mono _)) bk ap
      refine AQ 0 m ap Z sizeOf26 f Z Z bi bg a8.cells a8.one1 a8 λbl w m bm=> ?_
      have⟨bn,bo,am⟩:=bind_some am
      refine AZ 0 m bm Z T22 f Z Z Z bo λbp a bq f=>AQ 0 m bm Z sizeOf26 f Z Z bq bo be.cells be.one1 be λbr w m bs=>Aa (Ag (Ae ?_))
      refine Ab f Z λa f=>Ab f Z λa f=>Ai f Z Z Bh λa f=>Ai f Z Z Cs λa f=>Aa ?_
      have⟨bt,bu,am⟩:=bind_some am
      refine AH (λa w=>∃bv:List (Value×LI),bv=bt∧∃(bw:GH) (bx:Itm),GLe bj bw∧Fr a 141 [(0,v0),(1,(iv x1)),(2,(iv x2)),(3,(.func (.func 83) #[] #[])),(9,(iv av)),(10,(iv ai))]∧Mem W bw w (bx::H)∧Ow (RTg R0) 26 bw bx v0 bv) ?_ ?_
      ·rcases Af bu with⟨bz,bu⟩|⟨bz,bu⟩
       ·refine Al f Z bz ?_
        refine Ae ?_
        refine Ab f Z λa f=>Ai f Z Z Bh λa f=>Ac f Z λa f=>Aa ?_
        have⟨bA,bB,bu⟩:=bind_some bu
        refine AH (λa w=>∃bC:List (Value×LI),bC=bA∧∃(bD:GH) (bE:Itm),GLe bj bD∧Fr a 141 [(0,v0),(1,(iv x1)),(2,(iv x2)),(3,(.func (.func 83) #[] #[])),(9,(iv av)),(10,(iv ai))]∧Mem W bD w (bE::H)∧Ow (RTg R0) 26 bD bE v0 bC) ?_ ?_
        ·refine Ak ?_
         refine AC (λbF a w=>∃bG:List (Value×LI),∃bH:Int,(bG,bH)=bF∧∃(bI:GH) (bJ:Itm),GLe bj bI∧Fr a 141 [(0,v0),(1,(iv x1)),(2,(iv x2)),(3,(.func (.func 83) #[] #[])),(9,(iv av)),(10,(iv ai)),(11,(iv bH))]∧Mem W bI w (bJ::H)∧Ow (RTg R0) 26 bI bJ v0 bG) bB ⟨_,_,Z,_,br,gr,f.k Z,m,bs⟩ ?_
         clear bB f m
         rintro bF bK bL bM a w ⟨bG,bH,rfl,bI,bJ,bN,f,m,bO⟩
         refine Ag (Ae ?_)
         refine Ab f Z λa f=>Ai f Z Z Cs λa f=>Aa ?_
         rcases Af bL with⟨bP,bL⟩|⟨bP,bL⟩
         ·refine Al f Z bP ?_
          refine Am ?_
          refine Ag (Ak (Ag (Ag ?_)))
          refine A3 13 AM (by kernel_rfl) m ?_
          refine Ao 0 13 Z f Z λa f=>Ao 1 13 Z f Z λa f=>Ao 2 13 Z f Z λa f=> ?_
          have⟨bQ,bR,bL⟩:=bind_some bL
          refine A8 3 13 0 m bO T22 bR Z f Z Z λbS a bT f=>Bo 4 13 0 bO AT bT bR Z f Z λbU a bV f=>Ao 5 13 Z f Z λa f=>Ao 6 13 Z f Z λa f=>q_p 7 13 Z f (λ_=>AV (f.e Z) (f.e Z) Bh) λa f=> ?_
          have⟨bW,bX,bL⟩:=bind_some bL
          refine A8 8 13 0 m bO T22 bX Z f Z Z λbY a bZ f=>Bo 9 13 0 bO AT bZ bX Z f Z λb0 a b1 f=> ?_
          have⟨b2,b3,bL⟩:=bind_some bL
          refine CB (i:=10) 13 Z (by kernel_rfl) Z f Z Z Z Z call83 (λ_ _ w b4 m=>Wk.b m (rd1 b4 (bV.2)) (rd1 b4 (b1.2)) b3) λa f=>q_p 11 13 Z f (λ_=>AV (f.e Z) (f.e Z) AE) λa f=>q_p 12 13 Z f (λ_=>Bv (f.e Z)) λa f=>AU λb5 w b6 m=> ?_
          have bV:=(RTg.mono (RI.mono _)) _ _ _ _ b6 bV
          have b1:=(RTg.mono (RI.mono _)) _ _ _ _ b6 b1
          have bO:=Ow.mono (RTg.mono (RI.mono _)) b6 bO
          refine Aa ?_
          rcases Af bL with⟨b7,bL⟩|⟨b7,bL⟩
          ·refine Al f Z b7 ?_
           refine AA Z ?_
           obtain rfl:=sj bL
           obtain rfl:=bM _ rfl
           exact⟨_,Z,_,bJ,(gt bN b6),f.k Z,m,bO⟩
          ·refine Ah f Z b7 ?_
           refine Am ?_
           refine Ct AM m ?_
           refine p_p 2 Z f (λ_=>Bg (f.e Z)) λa f=>p_p 3 Z f (λ_=>Bg (f.e Z)) λa f=>p_p 4 Z f (λ_=>AV (f.e Z) (f.e Z) Bh) λa f=>Cu 28015 12 (by kernel_rfl) Z ?_
           refine Ao 0 28015 Z f Z λa f=>Ao 1 28015 Z f Z λa f=>Ao 5 28015 Z f Z λa f=>Ao 6 28015 Z f Z λa f=>q_p 7 28015 Z f (λ_=>AV (f.e Z) (f.e Z) Bh) λa f=> ?_
           have⟨b8,b9,bL⟩:=bind_some bL
           refine A8 8 28015 0 m bO T22 b9 Z f Z Z λca a cb f=>Bo 9 28015 0 bO AT cb b9 Z f Z λcc a cd f=>Ao 10 28015 Z f Z λa f=>Ao 11 28015 Z f Z λa f=> ?_
           have⟨ce,cf,bL⟩:=bind_some bL
           refine A8 12 28015 0 m bO T22 cf Z f Z Z λcg a ch f=>Bo 13 28015 0 bO AT ch cf Z f Z λci a cj f=> ?_
           have⟨ck,cl,bL⟩:=bind_some bL
           refine A8 14 28015 0 m bO T22 cl Z f Z Z λcm a cn f=>AU λco w cp m=> ?_
           have cd:=(RTg.mono (RI.mono _)) _ _ _ _ cp cd
           have cj:=(RTg.mono (RI.mono _)) _ _ _ _ cp cj
           have bO:=Ow.mono (RTg.mono (RI.mono _)) cp bO
           refine AQ 0 m bO Z sizeOf26 f Z Z cn cl cd.cells cd.one1 cd λcq w m cr=> ?_
           have⟨cs,ct,bL⟩:=bind_some bL
           refine AZ 0 m cr Z T22 f Z Z Z ct λcu a cv f=>AQ 0 m cr Z sizeOf26 f Z Z cv ct cj.cells cj.one1 cj λcw w m cx=>Aa (Aj ?_)
           refine Ab f Z λa f=>Ai f Z Z Bh λa f=>Ac f Z λa f=>Aa ?_
           obtain rfl:=sj bL
           exact⟨_,Z,_,_,Z,_,cw,(gt bN (gt b6 cp)),f.k Z,m,cx⟩
         ·refine Ah f Z bP ?_
          refine AA Z ?_
          obtain rfl:=sj bL
          obtain rfl:=bM _ rfl
          exact⟨_,Z,_,bJ,bN,f.k Z,m,bO⟩
        ·rintro a w ⟨bC,rfl,bD,bE,cy,f,m,cz⟩
         obtain rfl:=sj bu
         exact⟨_,Z,_,bE,cy,f.k Z,m,cz⟩
       ·refine Ah f Z bz ?_
        refine Am ?_
        obtain rfl:=sj bu
        exact⟨_,Z,_,br,gr,f.k Z,m,bs⟩
      ·rintro a w ⟨bv,rfl,bw,bx,cA,f,m,cB⟩
       refine Ae ?_
       refine Ab f Z λa f=>Ab f Z λa f=>Ai f Z Z Bh λa f=>Ai f Z Z Cs λa f=>Aa ?_
       rcases Af am with⟨cC,am⟩|⟨cC,am⟩
       ·refine Al f Z cC ?_
        refine Ae ?_
        refine Ab f Z λa f=>Ai f Z Z Aw λa f=>Ac f Z λa f=>Aa ?_
        have⟨cD,cE,am⟩:=bind_some am
        refine AH (λa w=>∃cF:List (Value×LI),cF=cD∧∃(cG:GH) (cH:Itm),GLe bw cG∧Fr a 141 [(0,v0),(1,(iv x1)),(2,(iv x2)),(3,(.func (.func 83) #[] #[])),(9,(iv av)),(10,(iv ai))]∧Mem W cG w (cH::H)∧Ow (RTg R0) 26 cG cH v0 cF) ?_ ?_
        ·refine Ak ?_
         refine AC (λcI a w=>∃cJ:List (Value×LI),∃cK:Int,(cJ,cK)=cI∧∃(cL:GH) (cM:Itm),GLe bw cL∧Fr a 141 [(0,v0),(1,(iv x1)),(2,(iv x2)),(3,(.func (.func 83) #[] #[])),(9,(iv av)),(10,(iv ai)),(12,(iv cK))]∧Mem W cL w (cM::H)∧Ow (RTg R0) 26 cL cM v0 cJ) cE ⟨_,_,Z,_,bx,gr,f.k Z,m,cB⟩ ?_
         clear cE f m
         rintro cI cN cO cP a w ⟨cJ,cK,rfl,cL,cM,cQ,f,m,cR⟩
         refine Ag (Ae ?_)
         refine Ab f Z λa f=>Ab f Z λa f=>Ai f Z Z AE λa f=>Aa ?_
         rcases Af cO with⟨cS,cO⟩|⟨cS,cO⟩
         ·refine Al f Z cS ?_
          refine Am ?_
          refine Ag (Ak (Ag (Ag ?_)))
          refine A3 13 AM (by kernel_rfl) m ?_
          refine Ao 0 13 Z f Z λa f=>Ao 1 13 Z f Z λa f=>Ao 2 13 Z f Z λa f=> ?_
          have⟨cT,cU,cO⟩:=bind_some cO
          refine A8 3 13 0 m cR T22 cU Z f Z Z λcV a cW f=>Bo 4 13 0 cR AT cW cU Z f Z λcX a cY f=>Ao 5 13 Z f Z λa f=>Ao 6 13 Z f Z λa f=>q_p 7 13 Z f (λ_=>AV (f.e Z) (f.e Z) Bh) λa f=> ?_
          have⟨cZ,c0,cO⟩:=bind_some cO
          refine A8 8 13 0 m cR T22 c0 Z f Z Z λc1 a c2 f=>Bo 9 13 0 cR AT c2 c0 Z f Z λc3 a c4 f=> ?_
          have⟨c5,c6,cO⟩:=bind_some cO
          refine CB (i:=10) 13 Z (by kernel_rfl) Z f Z Z Z Z call83 (λ_ _ w c7 m=>Wk.b m (rd1 c7 (cY.2)) (rd1 c7 (c4.2)) c6) λa f=>q_p 11 13 Z f (λ_=>AV (f.e Z) (f.e Z) AE) λa f=>q_p 12 13 Z f (λ_=>Bv (f.e Z)) λa f=>AU λc8 w c9 m=> ?_
          have cY:=(RTg.mono (RI.mono _)) _ _ _ _ c9 cY
          have c4:=(RTg.mono (RI.mono _)) _ _ _ _ c9 c4
          have cR:=Ow.mono (RTg.mono (RI.mono _)) c9 cR
          refine Aa ?_
          rcases Af cO with⟨da,cO⟩|⟨da,cO⟩
          ·refine Al f Z da ?_
           refine AA Z ?_
           obtain rfl:=sj cO
           obtain rfl:=cP _ rfl
           exact⟨_,Z,_,cM,(gt cQ c9),f.k Z,m,cR⟩
          ·refine Ah f Z da ?_
           refine Am ?_
           refine Ct AM m ?_
           refine p_p 2 Z f (λ_=>Bg (f.e Z)) λa f=>p_p 3 Z f (λ_=>Bg (f.e Z)) λa f=>p_p 4 Z f (λ_=>AV (f.e Z) (f.e Z) Bh) λa f=>Cu 28015 12 (by kernel_rfl) Z ?_
           refine Ao 0 28015 Z f Z λa f=>Ao 1 28015 Z f Z λa f=>Ao 5 28015 Z f Z λa f=>Ao 6 28015 Z f Z λa f=>q_p 7 28015 Z f (λ_=>AV (f.e Z) (f.e Z) Bh) λa f=> ?_
           have⟨db,dc,cO⟩:=bind_some cO
           refine A8 8 28015 0 m cR T22 dc Z f Z Z λdd a de f=>Bo 9 28015 0 cR AT de dc Z f Z λdf a dg f=>Ao 10 28015 Z f Z λa f=>Ao 11 28015 Z f Z λa f=> ?_
           have⟨dh,di,cO⟩:=bind_some cO
           refine A8 12 28015 0 m cR T22 di Z f Z Z λdj a dk f=>Bo 13 28015 0 cR AT dk di Z f Z λdl a dm f=> ?_
           have⟨dn,dp,cO⟩:=bind_some cO
           refine A8 14 28015 0 m cR T22 dp Z f Z Z λdq a dr f=>AU λds w dt m=> ?_
           have dg:=(RTg.mono (RI.mono _)) _ _ _ _ dt dg
           have dm:=(RTg.mono (RI.mono _)) _ _ _ _ dt dm
           have cR:=Ow.mono (RTg.mono (RI.mono _)) dt cR
           refine AQ 0 m cR Z sizeOf26 f Z Z dr dp dg.cells dg.one1 dg λdu w m dv=> ?_
           have⟨dw,dx,cO⟩:=bind_some cO
           refine AZ 0 m dv Z T22 f Z Z Z dx λdy a dz f=>AQ 0 m dv Z sizeOf26 f Z Z dz dx dm.cells dm.one1 dm λdA w m dB=>Aa (Aj ?_)
           refine Ab f Z λa f=>Ai f Z Z Aw λa f=>Ac f Z λa f=>Aa ?_
           obtain rfl:=sj cO
           exact⟨_,Z,_,_,Z,_,dA,(gt cQ (gt c9 dt)),f.k Z,m,dB⟩
         ·refine Ah f Z cS ?_
          refine AA Z ?_
          obtain rfl:=sj cO
          obtain rfl:=cP _ rfl
          exact⟨_,Z,_,cM,cQ,f.k Z,m,cR⟩
        ·rintro a w ⟨cF,rfl,cG,cH,dC,f,m,dD⟩
         refine Aj ?_
         refine Ab f Z λa f=>Ai f Z Z Aw λa f=>Ac f Z λa f=>Aa ?_
         obtain rfl:=sj am
         exact⟨_,Z,_,_,_,Z,_,cH,(gt ao (gt a0 (gt bk (gt cA dC)))),f.k Z,m,dD⟩
       ·refine Ah f Z cC ?_
        refine Am ?_
        refine Aj ?_
        refine Ab f Z λa f=>Ai f Z Z Aw λa f=>Ac f Z λa f=>Aa ?_
        obtain rfl:=sj am
        exact⟨_,Z,_,_,_,Z,_,bx,(gt ao (gt a0 (gt bk cA))),f.k Z,m,cB⟩
  ·refine Ah f Z aq ?_
   refine AA Z ?_
   obtain rfl:=sj am
   obtain rfl:=an _ rfl
   exact⟨_,Z,_,Z,_,ak,ao,f.weak trivial,m,ap⟩
 ·rintro a w ⟨_,rfl,ac,rfl,ad,ae,dE,f,m,dF⟩
  refine Ae ?_
  refine Ac f Z λa f=>Aa ?_
  refine Aq ?_
  obtain rfl:=sj hd
  exact⟨[(.bool false)],f.g Z,f.d,_,[ae],dE,m,_,Z,Z,dF⟩
theorem Wk.g2 {v0:Value}{it0:Itm}{x0:(List (Value×LI))}{x1 x2 x3:Int}(m:Mem W G w (it0::H))(o0:Ow (RTg R0) 26 G it0 v0 x0){y:Int×((List (Value×LI)))}(hd:D.g2 x0 x1 x2 x3=some y):
  Calls prog 148 #[v0,(iv x1),(iv x2),(iv x3),(.func (.func 83) #[] #[])] w (Res W G H (λG' Ho v=>∃i0:Itm,Ho=[i0]∧v=(iv y.1)∧Ow (RTg R0) 26 G' i0 v0 y.2)):=by
 refine Ar (args:=[v0,(iv x1),(iv x2),(iv x3),(.func (.func 83) #[] #[])]) (N:=90) [.tmp 10] func148 Z Z (lb Z) Z λa f=> ?_
 unfold D.g2 at hd
 refine Ae ?_
 refine Ac f Z λa f=>Aa (Ag ?_)
 refine Ct AM m ?_
 refine p_p 2 Z f (λ_=>Bg (f.e Z)) λa f=>p_p 3 Z f (λ_=>Bg (f.e Z)) λa f=>Cu 12013 11 (by kernel_rfl) Z ?_
 refine Ao 0 12013 Z f Z λa f=>Ao 1 12013 Z f Z λa f=>Ao 4 12013 Z f Z λa f=>Ao 5 12013 Z f Z λa f=> ?_
 have⟨aa,ab,hd⟩:=bind_some hd
 refine A8 6 12013 0 m o0 T22 ab Z f Z Z λac a ad f=>Bo 7 12013 0 o0 AT ad ab Z f Z λae a af f=>Ao 8 12013 Z f Z λa f=>Ao 9 12013 Z f Z λa f=> ?_
 have⟨ag,ah,hd⟩:=bind_some hd
 refine A8 10 12013 0 m o0 T22 ah Z f Z Z λai a aj f=>Bo 11 12013 0 o0 AT aj ah Z f Z λak a al f=> ?_
 have⟨am,an,hd⟩:=bind_some hd
 refine A8 12 12013 0 m o0 T22 an Z f Z Z λao a ap f=>AU λaq w ar m=> ?_
 have af:=(RTg.mono (RI.mono _)) _ _ _ _ ar af
 have al:=(RTg.mono (RI.mono _)) _ _ _ _ ar al
 have o0:=Ow.mono (RTg.mono (RI.mono _)) ar o0
 refine AQ 0 m o0 Z sizeOf26 f Z Z ap an af.cells af.one1 af λau w m av=> ?_
 have⟨aw,ax,hd⟩:=bind_some hd
 refine AZ 0 m av Z T22 f Z Z Z ax λay a az f=>AQ 0 m av Z sizeOf26 f Z Z az ax al.cells al.one1 al λaA w m aB=>Ay ?_
 refine Ab f Z λa f=>Ai f Z Z Aw λa f=>Ab f Z λa f=>Ai f Z Z Bh λa f=>Ac f Z λa f=>Ac f Z λa f=>Aa (Ag ?_)
 have⟨aC,aD,hd⟩:=bind_some hd
 refine AH (λa w=>∃aE:List (Value×LI),∃aF:Int,(aE,aF)=aC∧∃(aG:GH) (aH:Itm),GLe aq aG∧Fr a 90 [(11,(iv aF))]∧Mem W aG w (aH::H)∧Ow (RTg R0) 26 aG aH v0 aE) ?_ ?_
 ·refine Ak ?_
  refine AC (λaI a w=>∃aJ:List (Value×LI),∃aK:Int,∃aL:Int,(aJ,aK,aL)=aI∧∃(aM:GH) (aN:Itm),GLe aq aM∧Fr a 90 [(0,v0),(1,(iv x1)),(4,(.func (.func 83) #[] #[])),(11,(iv aK)),(12,(iv aL))]∧Mem W aM w (aN::H)∧Ow (RTg R0) 26 aM aN v0 aJ) aD ⟨_,_,_,Z,_,aA,gr,f.k Z,m,aB⟩ ?_
  clear aD f m
  rintro aI aO aP aQ a w ⟨aJ,aK,aL,rfl,aM,aN,aR,f,m,aS⟩
  refine Ak (Ag ?_)
  have⟨aT,aU,aP⟩:=bind_some aP
  refine AH (λa w=>∃aV:Int,aV=aT∧∃(aW:GH),GLe aM aW∧Fr a 90 [(0,v0),(1,(iv x1)),(4,(.func (.func 83) #[] #[])),(11,(iv aV)),(12,(iv aL))]∧Mem W aW w (aN::H)) ?_ ?_
  ·refine Ak ?_
   refine AC (λaX a w=>∃aY:Int,aY=aX∧∃(aZ:GH),GLe aM aZ∧Fr a 90 [(0,v0),(1,(iv x1)),(4,(.func (.func 83) #[] #[])),(11,(iv aY)),(12,(iv aL))]∧Mem W aZ w (aN::H)) aU ⟨_,Z,_,gr,f.k Z,m⟩ ?_
   clear aU f m
   rintro aX a0 a1 a2 a w ⟨aY,rfl,aZ,a3,f,m⟩
   have aS:=Ow.mono (RTg.mono (RI.mono _)) a3 aS
   refine Ag (Ag ?_)
   refine A3 17 AM (by kernel_rfl) m ?_
   refine Ao 0 17 Z f Z λa f=>Ao 1 17 Z f Z λa f=>q_p 2 17 Z f (λ_=>AV (f.e Z) (f.e Z) CD) λa f=>Ao 3 17 Z f Z λa f=> ?_
   have⟨a4,a5,a1⟩:=bind_some a1
   refine CS (fuel':=0) (listed':= #[true,true,true,true,true,true,true,true,true,true,true,true,true,true,true,true,true]) (λa=>Fr a 90 [(0,v0),(1,(iv x1)),(4,(.func (.func 83) #[] #[])),(11,(iv aY)),(12,(iv aL)),(31,(iv aY)),(32,(iv aL)),(33,(.bool (decide (aY≤aL)))),(34,(.bool (decide (aY≤aL)))),(47,(.bool a4))]) ?_ ?_
   ·intro a f
    refine AU λa6 w a7 m=>Aa ?_
    rcases Af a1 with⟨a8,a1⟩|⟨a8,a1⟩
    ·refine Al f Z a8 ?_
     refine Am ?_
     refine Ak (Aj ?_)
     refine Ab f Z λa f=>Ai f Z Z Aw λa f=>Ac f Z λa f=>Aa ?_
     obtain rfl:=sj a1
     exact⟨_,Z,_,Z,_,(gt a3 a7),f.k Z,m⟩
    ·refine Ah f Z a8 ?_
     refine AA Z ?_
     obtain rfl:=sj a1
     obtain rfl:=a2 _ rfl
     exact⟨_,Z,_,(gt a3 a7),f.k Z,m⟩
   ·intro a9
    rcases Af a5 with⟨ba,a5⟩|⟨ba,a5⟩
    ·refine Ao (hw:=wo f ba) 4 17 Z f Z λa f=> ?_
     refine Ao (hw:=wo f ba) 5 17 Z f Z λa f=>Ao (hw:=wo f ba) 6 17 Z f Z λa f=> ?_
     have⟨bb,bc,a5⟩:=bind_some a5
     refine A8 (hw:=wo f ba) 7 17 0 m aS T22 bc Z f Z Z λbd a be f=>Bo (hw:=wo f ba) 8 17 0 aS AT be bc Z f Z λbf a bg f=>Ao (hw:=wo f ba) 9 17 Z f Z λa f=>Ao (hw:=wo f ba) 10 17 Z f Z λa f=> ?_
     have⟨bh,bi,a5⟩:=bind_some a5
     refine A8 (hw:=wo f ba) 11 17 0 m aS T22 bi Z f Z Z λbj a bk f=>Bo (hw:=wo f ba) 12 17 0 aS AT bk bi Z f Z λbl a bm f=> ?_
     have⟨bn,bo,a5⟩:=bind_some a5
     refine CB (i:=13) 17 Z (by kernel_rfl) Z f (BN f Z Z Z ba) Z Z Z call83 (λ_ _ w bp m=>Wk.b m (rd1 bp (bg.2)) (rd1 bp (bm.2)) bo) λa f=>q_p (hw:=wo f ba) 14 17 Z f (λ_=>AV (f.e Z) (f.e Z) AE) λa f=>q_p (hw:=wo f ba) 15 17 Z f (λ_=>Bv (f.e Z)) λa f=>q_p 16 17 Z f (λ_=>A4 (f.e Z) ba (f.e Z)) λa f=> ?_
     obtain rfl:=sj a5
     exact a9 _ (f.k Z)
    ·refine AI 4 17 Z f ba λa f=> ?_
     refine AI 5 17 Z f ba λa f=>AI 6 17 Z f ba λa f=>AI 7 17 Z f ba λa f=>AI 8 17 Z f ba λa f=>AI 9 17 Z f ba λa f=>AI 10 17 Z f ba λa f=>AI 11 17 Z f ba λa f=>AI 12 17 Z f ba λa f=>AI 13 17 Z f ba λa f=>AI 14 17 Z f ba λa f=>AI 15 17 Z f ba λa f=>q_p 16 17 Z f (λ_=>A5 (f.e Z) ba (f.e Z)) λa f=> ?_
     obtain rfl:=sj a5
     exact a9 _ (f.k Z)
  ·rintro a w ⟨aV,rfl,aW,bq,f,m⟩
   have aS:=Ow.mono (RTg.mono (RI.mono _)) bq aS
   refine Ag ?_
   have⟨br,bs,aP⟩:=bind_some aP
   refine AH (λa w=>∃bt:Int,bt=br∧∃(bu:GH),GLe aW bu∧Fr a 90 [(0,v0),(1,(iv x1)),(4,(.func (.func 83) #[] #[])),(11,(iv aV)),(12,(iv bt))]∧Mem W bu w (aN::H)) ?_ ?_
   ·refine Ak ?_
    refine AC (λbv a w=>∃bw:Int,bw=bv∧∃(bx:GH),GLe aW bx∧Fr a 90 [(0,v0),(1,(iv x1)),(4,(.func (.func 83) #[] #[])),(11,(iv aV)),(12,(iv bw))]∧Mem W bx w (aN::H)) bs ⟨_,Z,_,gr,f.k Z,m⟩ ?_
    clear bs f m
    rintro bv bz bA bB a w ⟨bw,rfl,bx,bC,f,m⟩
    have aS:=Ow.mono (RTg.mono (RI.mono _)) bC aS
    refine Ag (Ag ?_)
    refine A3 16 AM (by kernel_rfl) m ?_
    refine Ao 0 16 Z f Z λa f=>Ao 1 16 Z f Z λa f=>q_p 2 16 Z f (λ_=>AV (f.e Z) (f.e Z) CD) λa f=>Ao 3 16 Z f Z λa f=> ?_
    have⟨bD,bE,bA⟩:=bind_some bA
    refine CS (fuel':=0) (listed':= #[true,true,true,true,true,true,true,true,true,true,true,true,true,true,true,true]) (λa=>Fr a 90 [(0,v0),(1,(iv x1)),(4,(.func (.func 83) #[] #[])),(11,(iv aV)),(12,(iv bw)),(50,(iv aV)),(51,(iv bw)),(52,(.bool (decide (aV≤bw)))),(53,(.bool (decide (aV≤bw)))),(65,(.bool bD))]) ?_ ?_
    ·intro a f
     refine AU λbF w bG m=>Aa ?_
     rcases Af bA with⟨bH,bA⟩|⟨bH,bA⟩
     ·refine Al f Z bH ?_
      refine Am ?_
      refine Ak (Aj ?_)
      refine Ab f Z λa f=>Ai f Z Z Bh λa f=>Ac f Z λa f=>Aa ?_
      obtain rfl:=sj bA
      exact⟨_,Z,_,Z,_,(gt bC bG),f.k Z,m⟩
     ·refine Ah f Z bH ?_
      refine AA Z ?_
      obtain rfl:=sj bA
      obtain rfl:=bB _ rfl
      exact⟨_,Z,_,(gt bC bG),f.k Z,m⟩
    ·intro bI
     rcases Af bE with⟨bJ,bE⟩|⟨bJ,bE⟩
     ·refine Ao (hw:=wo f bJ) 4 16 Z f Z λa f=> ?_
      refine Ao (hw:=wo f bJ) 5 16 Z f Z λa f=>Ao (hw:=wo f bJ) 6 16 Z f Z λa f=> ?_
      have⟨bK,bL,bE⟩:=bind_some bE
      refine A8 (hw:=wo f bJ) 7 16 0 m aS T22 bL Z f Z Z λbM a bN f=>Bo (hw:=wo f bJ) 8 16 0 aS AT bN bL Z f Z λbO a bP f=>Ao (hw:=wo f bJ) 9 16 Z f Z λa f=>Ao (hw:=wo f bJ) 10 16 Z f Z λa f=> ?_
      have⟨bQ,bR,bE⟩:=bind_some bE
      refine A8 (hw:=wo f bJ) 11 16 0 m aS T22 bR Z f Z Z λbS a bT f=>Bo (hw:=wo f bJ) 12 16 0 aS AT bT bR Z f Z λbU a bV f=> ?_
      have⟨bW,bX,bE⟩:=bind_some bE
      refine CB (i:=13) 16 Z (by kernel_rfl) Z f (BN f Z Z Z bJ) Z Z Z call83 (λ_ _ w bY m=>Wk.b m (rd1 bY (bP.2)) (rd1 bY (bV.2)) bX) λa f=>q_p (hw:=wo f bJ) 14 16 Z f (λ_=>AV (f.e Z) (f.e Z) AE) λa f=>q_p 15 16 Z f (λ_=>A4 (f.e Z) bJ (f.e Z)) λa f=> ?_
      obtain rfl:=sj bE
      exact bI _ (f.k Z)
     ·refine AI 4 16 Z f bJ λa f=> ?_
      refine AI 5 16 Z f bJ λa f=>AI 6 16 Z f bJ λa f=>AI 7 16 Z f bJ λa f=>AI 8 16 Z f bJ λa f=>AI 9 16 Z f bJ λa f=>AI 10 16 Z f bJ λa f=>AI 11 16 Z f bJ λa f=>AI 12 16 Z f bJ λa f=>AI 13 16 Z f bJ λa f=>AI 14 16 Z f bJ λa f=>q_p 15 16 Z f (λ_=>A5 (f.e Z) bJ (f.e Z)) λa f=> ?_
      obtain rfl:=sj bE
      exact bI _ (f.k Z)
   ·rintro a w ⟨bt,rfl,bu,bZ,f,m⟩
    have aS:=Ow.mono (RTg.mono (RI.mono _)) bZ aS
    refine Ag (Ae ?_)
    refine Ab f Z λa f=>Ab f Z λa f=>Ai f Z Z Cf λa f=>Aa ?_
    rcases Af aP with⟨b0,aP⟩|⟨b0,aP⟩
    ·refine Al f Z b0 ?_
     refine AA Z ?_
     obtain rfl:=sj aP
     obtain rfl:=aQ _ rfl
     exact⟨_,_,Z,_,aN,(gt aR (gt bq bZ)),f.k Z,m,aS⟩
    ·refine Ah f Z b0 ?_
     refine Am ?_
     refine Ag ?_
     refine Ct AM m ?_
     refine p_p 2 Z f (λ_=>Bg (f.e Z)) λa f=>p_p 3 Z f (λ_=>Bg (f.e Z)) λa f=>Cu 12013 11 (by kernel_rfl) Z ?_
     refine Ao 0 12013 Z f Z λa f=>Ao 1 12013 Z f Z λa f=>Ao 4 12013 Z f Z λa f=>Ao 5 12013 Z f Z λa f=> ?_
     have⟨b1,b2,aP⟩:=bind_some aP
     refine A8 6 12013 0 m aS T22 b2 Z f Z Z λb3 a b4 f=>Bo 7 12013 0 aS AT b4 b2 Z f Z λb5 a b6 f=>Ao 8 12013 Z f Z λa f=>Ao 9 12013 Z f Z λa f=> ?_
     have⟨b7,b8,aP⟩:=bind_some aP
     refine A8 10 12013 0 m aS T22 b8 Z f Z Z λb9 a ca f=>Bo 11 12013 0 aS AT ca b8 Z f Z λcb a cc f=> ?_
     have⟨cd,ce,aP⟩:=bind_some aP
     refine A8 12 12013 0 m aS T22 ce Z f Z Z λcf a cg f=>AU λch w ci m=> ?_
     have b6:=(RTg.mono (RI.mono _)) _ _ _ _ ci b6
     have cc:=(RTg.mono (RI.mono _)) _ _ _ _ ci cc
     have aS:=Ow.mono (RTg.mono (RI.mono _)) ci aS
     refine AQ 0 m aS Z sizeOf26 f Z Z cg ce b6.cells b6.one1 b6 λcj w m ck=> ?_
     have⟨cl,cm,aP⟩:=bind_some aP
     refine AZ 0 m ck Z T22 f Z Z Z cm λcn a co f=>AQ 0 m ck Z sizeOf26 f Z Z co cm cc.cells cc.one1 cc λcp w m cq=>Ay ?_
     refine Ab f Z λa f=>Ai f Z Z Aw λa f=>Ac f Z λa f=>Aa (Aj ?_)
     refine Ab f Z λa f=>Ai f Z Z Bh λa f=>Ac f Z λa f=>Aa ?_
     obtain rfl:=sj aP
     exact⟨_,Z,_,_,_,Z,_,cp,(gt aR (gt bq (gt bZ ci))),f.k Z,m,cq⟩
 ·rintro a w ⟨aE,aF,rfl,aG,aH,cr,f,m,cs⟩
  refine Ae ?_
  refine Ab f Z λa f=>Ac f Z λa f=>Aa ?_
  refine Aq ?_
  obtain rfl:=sj hd
  exact⟨[(iv aF)],f.g Z,f.d,_,[aH],(gt ar cr),m,_,Z,Z,cs⟩
theorem Wk.q2 {v0:Value}{it0:Itm}{x0:(List (Value×LI))}{x1 x2 x3:Int}(m:Mem W G w (it0::H))(o0:Ow (RTg R0) 26 G it0 v0 x0){y:Int×Bool×((List (Value×LI)))}(hd:D.q2 x0 x1 x2 x3=some y):
  Calls prog 149 #[v0,(iv x1),(iv x2),(iv x3),(.func (.func 83) #[] #[])] w (Res W G H (λG' Ho v=>∃i0:Itm,Ho=[i0]∧v= .tuple #[(iv y.1),(.bool y.2.1)]∧Ow (RTg R0) 26 G' i0 v0 y.2.2)):=by
 refine Ar (args:=[v0,(iv x1),(iv x2),(iv x3),(.func (.func 83) #[] #[])]) (N:=178) [.tmp 10,.tmp 11] func149 Z Z (lb Z) Z λa f=> ?_
 unfold D.q2 at hd
 refine Ae ?_
 refine Ac f Z λa f=>Ac f Z λa f=>Aa (Ag ?_)
 refine Ct AM m ?_
 refine p_p 2 Z f (λ_=>Bg (f.e Z)) λa f=>p_p 3 Z f (λ_=>Bg (f.e Z)) λa f=>Cu 12013 11 (by kernel_rfl) Z ?_
 refine Ao 0 12013 Z f Z λa f=>Ao 1 12013 Z f Z λa f=>Ao 4 12013 Z f Z λa f=>Ao 5 12013 Z f Z λa f=> ?_
 have⟨aa,ab,hd⟩:=bind_some hd
 refine A8 6 12013 0 m o0 T22 ab Z f Z Z λac a ad f=>Bo 7 12013 0 o0 AT ad ab Z f Z λae a af f=>Ao 8 12013 Z f Z λa f=>Ao 9 12013 Z f Z λa f=> ?_
 have⟨ag,ah,hd⟩:=bind_some hd
 refine A8 10 12013 0 m o0 T22 ah Z f Z Z λai a aj f=>Bo 11 12013 0 o0 AT aj ah Z f Z λak a al f=> ?_
 have⟨am,an,hd⟩:=bind_some hd
 refine A8 12 12013 0 m o0 T22 an Z f Z Z λao a ap f=>AU λaq w ar m=> ?_
 have af:=(RTg.mono (RI.mono _)) _ _ _ _ ar af
 have al:=(RTg.mono (RI.mono _)) _ _ _ _ ar al
 have o0:=Ow.mono (RTg.mono (RI.mono _)) ar o0
 refine AQ 0 m o0 Z sizeOf26 f Z Z ap an af.cells af.one1 af λau w m av=> ?_
 have⟨aw,ax,hd⟩:=bind_some hd
 refine AZ 0 m av Z T22 f Z Z Z ax λay a az f=>AQ 0 m av Z sizeOf26 f Z Z az ax al.cells al.one1 al λaA w m aB=>Ay ?_
 refine Ab f Z λa f=>Ai f Z Z Aw λa f=>Ab f Z λa f=>Ai f Z Z Bh λa f=>Ac f Z λa f=>Ac f Z λa f=>Aa (Ag ?_)
 have⟨aC,aD,hd⟩:=bind_some hd
 refine AH (λa w=>∃aE:Int,aE=aC∧∃(aF:GH),GLe aq aF∧Fr a 178 [(0,v0),(1,(iv x1)),(4,(.func (.func 83) #[] #[])),(12,(iv aE)),(13,(iv (i64.wrap (x2-1))))]∧Mem W aF w (aA::H)) ?_ ?_
 ·refine Ak ?_
  refine AC (λaG a w=>∃aH:Int,aH=aG∧∃(aI:GH),GLe aq aI∧Fr a 178 [(0,v0),(1,(iv x1)),(4,(.func (.func 83) #[] #[])),(12,(iv aH)),(13,(iv (i64.wrap (x2-1))))]∧Mem W aI w (aA::H)) aD ⟨_,Z,_,gr,f.k Z,m⟩ ?_
  clear aD f m
  rintro aG aJ aK aL a w ⟨aH,rfl,aI,aM,f,m⟩
  have aB:=Ow.mono (RTg.mono (RI.mono _)) aM aB
  refine Ag (Ag ?_)
  refine A3 16 AM (by kernel_rfl) m ?_
  refine Ao 0 16 Z f Z λa f=>Ao 1 16 Z f Z λa f=>q_p 2 16 Z f (λ_=>AV (f.e Z) (f.e Z) CD) λa f=>Ao 3 16 Z f Z λa f=> ?_
  have⟨aN,aO,aK⟩:=bind_some aK
  refine CS (fuel':=0) (listed':= #[true,true,true,true,true,true,true,true,true,true,true,true,true,true,true,true]) (λa=>Fr a 178 [(0,v0),(1,(iv x1)),(4,(.func (.func 83) #[] #[])),(12,(iv aH)),(13,(iv (i64.wrap (x2-1)))),(32,(iv aH)),(33,(iv (i64.wrap (x2-1)))),(34,(.bool (decide (aH≤(i64.wrap (x2-1)))))),(35,(.bool (decide (aH≤(i64.wrap (x2-1)))))),(47,(.bool aN))]) ?_ ?_
  ·intro a f
   refine AU λaP w aQ m=>Aa ?_
   rcases Af aK with⟨aR,aK⟩|⟨aR,aK⟩
   ·refine Al f Z aR ?_
    refine Am ?_
    refine Ak (Aj ?_)
    refine Ab f Z λa f=>Ai f Z Z Aw λa f=>Ac f Z λa f=>Aa ?_
    obtain rfl:=sj aK
    exact⟨_,Z,_,Z,_,(gt aM aQ),f.k Z,m⟩
   ·refine Ah f Z aR ?_
    refine AA Z ?_
    obtain rfl:=sj aK
    obtain rfl:=aL _ rfl
    exact⟨_,Z,_,(gt aM aQ),f.k Z,m⟩
  ·intro aS
   rcases Af aO with⟨aT,aO⟩|⟨aT,aO⟩
   ·refine Ao (hw:=wo f aT) 4 16 Z f Z λa f=> ?_
    refine Ao (hw:=wo f aT) 5 16 Z f Z λa f=>Ao (hw:=wo f aT) 6 16 Z f Z λa f=> ?_
    have⟨aU,aV,aO⟩:=bind_some aO
    refine A8 (hw:=wo f aT) 7 16 0 m aB T22 aV Z f Z Z λaW a aX f=>Bo (hw:=wo f aT) 8 16 0 aB AT aX aV Z f Z λaY a aZ f=>Ao (hw:=wo f aT) 9 16 Z f Z λa f=>Ao (hw:=wo f aT) 10 16 Z f Z λa f=> ?_
    have⟨a0,a1,aO⟩:=bind_some aO
    refine A8 (hw:=wo f aT) 11 16 0 m aB T22 a1 Z f Z Z λa2 a a3 f=>Bo (hw:=wo f aT) 12 16 0 aB AT a3 a1 Z f Z λa4 a a5 f=> ?_
    have⟨a6,a7,aO⟩:=bind_some aO
    refine CB (i:=13) 16 Z (by kernel_rfl) Z f (BN f Z Z Z aT) Z Z Z call83 (λ_ _ w a8 m=>Wk.b m (rd1 a8 (aZ.2)) (rd1 a8 (a5.2)) a7) λa f=>q_p (hw:=wo f aT) 14 16 Z f (λ_=>AV (f.e Z) (f.e Z) AE) λa f=>q_p 15 16 Z f (λ_=>A4 (f.e Z) aT (f.e Z)) λa f=> ?_
    obtain rfl:=sj aO
    exact aS _ (f.k Z)
   ·refine AI 4 16 Z f aT λa f=> ?_
    refine AI 5 16 Z f aT λa f=>AI 6 16 Z f aT λa f=>AI 7 16 Z f aT λa f=>AI 8 16 Z f aT λa f=>AI 9 16 Z f aT λa f=>AI 10 16 Z f aT λa f=>AI 11 16 Z f aT λa f=>AI 12 16 Z f aT λa f=>AI 13 16 Z f aT λa f=>AI 14 16 Z f aT λa f=>q_p 15 16 Z f (λ_=>A5 (f.e Z) aT (f.e Z)) λa f=> ?_
    obtain rfl:=sj aO
    exact aS _ (f.k Z)
 ·rintro a w ⟨aE,rfl,aF,a9,f,m⟩
  have aB:=Ow.mono (RTg.mono (RI.mono _)) a9 aB
  refine Ag ?_
  have⟨ba,bb,hd⟩:=bind_some hd
  refine AH (λa w=>∃bc:Int,bc=ba∧∃(bd:GH),GLe aF bd∧Fr a 178 [(0,v0),(1,(iv x1)),(4,(.func (.func 83) #[] #[])),(12,(iv aE)),(13,(iv bc))]∧Mem W bd w (aA::H)) ?_ ?_
  ·refine Ak ?_
   refine AC (λbe a w=>∃bf:Int,bf=be∧∃(bg:GH),GLe aF bg∧Fr a 178 [(0,v0),(1,(iv x1)),(4,(.func (.func 83) #[] #[])),(12,(iv aE)),(13,(iv bf))]∧Mem W bg w (aA::H)) bb ⟨_,Z,_,gr,f.k Z,m⟩ ?_
   clear bb f m
   rintro be bh bi bj a w ⟨bf,rfl,bg,bk,f,m⟩
   have aB:=Ow.mono (RTg.mono (RI.mono _)) bk aB
   refine Ag (Ag ?_)
   refine A3 17 AM (by kernel_rfl) m ?_
   refine Ao 0 17 Z f Z λa f=>Ao 1 17 Z f Z λa f=>q_p 2 17 Z f (λ_=>AV (f.e Z) (f.e Z) CD) λa f=>Ao 3 17 Z f Z λa f=> ?_
   have⟨bl,bm,bi⟩:=bind_some bi
   refine CS (fuel':=0) (listed':= #[true,true,true,true,true,true,true,true,true,true,true,true,true,true,true,true,true]) (λa=>Fr a 178 [(0,v0),(1,(iv x1)),(4,(.func (.func 83) #[] #[])),(12,(iv aE)),(13,(iv bf)),(50,(iv aE)),(51,(iv bf)),(52,(.bool (decide (aE≤bf)))),(53,(.bool (decide (aE≤bf)))),(66,(.bool bl))]) ?_ ?_
   ·intro a f
    refine AU λbn w bo m=>Aa ?_
    rcases Af bi with⟨bp,bi⟩|⟨bp,bi⟩
    ·refine Al f Z bp ?_
     refine Am ?_
     refine Ak (Aj ?_)
     refine Ab f Z λa f=>Ai f Z Z Bh λa f=>Ac f Z λa f=>Aa ?_
     obtain rfl:=sj bi
     exact⟨_,Z,_,Z,_,(gt bk bo),f.k Z,m⟩
    ·refine Ah f Z bp ?_
     refine AA Z ?_
     obtain rfl:=sj bi
     obtain rfl:=bj _ rfl
     exact⟨_,Z,_,(gt bk bo),f.k Z,m⟩
   ·intro bq
    rcases Af bm with⟨br,bm⟩|⟨br,bm⟩
    ·refine Ao (hw:=wo f br) 4 17 Z f Z λa f=> ?_
     refine Ao (hw:=wo f br) 5 17 Z f Z λa f=>Ao (hw:=wo f br) 6 17 Z f Z λa f=> ?_
     have⟨bs,bt,bm⟩:=bind_some bm
     refine A8 (hw:=wo f br) 7 17 0 m aB T22 bt Z f Z Z λbu a bv f=>Bo (hw:=wo f br) 8 17 0 aB AT bv bt Z f Z λbw a bx f=>Ao (hw:=wo f br) 9 17 Z f Z λa f=>Ao (hw:=wo f br) 10 17 Z f Z λa f=> ?_
     have⟨bz,bA,bm⟩:=bind_some bm
     refine A8 (hw:=wo f br) 11 17 0 m aB T22 bA Z f Z Z λbB a bC f=>Bo (hw:=wo f br) 12 17 0 aB AT bC bA Z f Z λbD a bE f=> ?_
     have⟨bF,bG,bm⟩:=bind_some bm
     refine CB (i:=13) 17 Z (by kernel_rfl) Z f (BN f Z Z Z br) Z Z Z call83 (λ_ _ w bH m=>Wk.b m (rd1 bH (bx.2)) (rd1 bH (bE.2)) bG) λa f=>q_p (hw:=wo f br) 14 17 Z f (λ_=>AV (f.e Z) (f.e Z) AE) λa f=>q_p (hw:=wo f br) 15 17 Z f (λ_=>Bv (f.e Z)) λa f=>q_p 16 17 Z f (λ_=>A4 (f.e Z) br (f.e Z)) λa f=> ?_
     obtain rfl:=sj bm
     exact bq _ (f.k Z)
    ·refine AI 4 17 Z f br λa f=> ?_
     refine AI 5 17 Z f br λa f=>AI 6 17 Z f br λa f=>AI 7 17 Z f br λa f=>AI 8 17 Z f br λa f=>AI 9 17 Z f br λa f=>AI 10 17 Z f br λa f=>AI 11 17 Z f br λa f=>AI 12 17 Z f br λa f=>AI 13 17 Z f br λa f=>AI 14 17 Z f br λa f=>AI 15 17 Z f br λa f=>q_p 16 17 Z f (λ_=>A5 (f.e Z) br (f.e Z)) λa f=> ?_
     obtain rfl:=sj bm
     exact bq _ (f.k Z)
  ·rintro a w ⟨bc,rfl,bd,bI,f,m⟩
   have aB:=Ow.mono (RTg.mono (RI.mono _)) bI aB
   refine Ag (Ae ?_)
   refine Ab f Z λa f=>Ab f Z λa f=>Ai f Z Z Cf λa f=>Aa ?_
   rcases Af hd with⟨bJ,hd⟩|⟨bJ,hd⟩
   ·refine Al f Z bJ ?_
    refine Ag ?_
    refine Ct AM m ?_
    refine p_p 2 Z f (λ_=>Bg (f.e Z)) λa f=>p_p 3 Z f (λ_=>Bg (f.e Z)) λa f=>Cu 12013 11 (by kernel_rfl) Z ?_
    refine Ao 0 12013 Z f Z λa f=>Ao 1 12013 Z f Z λa f=>Ao 4 12013 Z f Z λa f=>Ao 5 12013 Z f Z λa f=> ?_
    have⟨bK,bL,hd⟩:=bind_some hd
    refine A8 6 12013 0 m aB T22 bL Z f Z Z λbM a bN f=>Bo 7 12013 0 aB AT bN bL Z f Z λbO a bP f=>Ao 8 12013 Z f Z λa f=>Ao 9 12013 Z f Z λa f=> ?_
    have⟨bQ,bR,hd⟩:=bind_some hd
    refine A8 10 12013 0 m aB T22 bR Z f Z Z λbS a bT f=>Bo 11 12013 0 aB AT bT bR Z f Z λbU a bV f=> ?_
    have⟨bW,bX,hd⟩:=bind_some hd
    refine A8 12 12013 0 m aB T22 bX Z f Z Z λbY a bZ f=>AU λb0 w b1 m=> ?_
    have bP:=(RTg.mono (RI.mono _)) _ _ _ _ b1 bP
    have bV:=(RTg.mono (RI.mono _)) _ _ _ _ b1 bV
    have aB:=Ow.mono (RTg.mono (RI.mono _)) b1 aB
    refine AQ 0 m aB Z sizeOf26 f Z Z bZ bX bP.cells bP.one1 bP λb2 w m b3=> ?_
    have⟨b4,b5,hd⟩:=bind_some hd
    refine AZ 0 m b3 Z T22 f Z Z Z b5 λb6 a b7 f=>AQ 0 m b3 Z sizeOf26 f Z Z b7 b5 bV.cells bV.one1 bV λb8 w m b9=>Ay ?_
    refine Ab f Z λa f=>Ac f Z λa f=>Ac f Z λa f=>Aa ?_
    refine Aq ?_
    obtain rfl:=sj hd
    exact⟨[(iv bc),(.bool true)],⟨f.get _ _ Z,f.get _ _ Z,trivial⟩,f.d,_,[b8],(gt ar (gt a9 (gt bI b1))),m,_,Z,Z,b9⟩
   ·refine Ah f Z bJ ?_
    refine Am ?_
    refine Ag ?_
    refine Ct AM m ?_
    refine p_p 2 Z f (λ_=>Bg (f.e Z)) λa f=>p_p 3 Z f (λ_=>Bg (f.e Z)) λa f=>Cu 12013 11 (by kernel_rfl) Z ?_
    refine Ao 0 12013 Z f Z λa f=>Ao 1 12013 Z f Z λa f=>Ao 4 12013 Z f Z λa f=>Ao 5 12013 Z f Z λa f=> ?_
    have⟨ca,cb,hd⟩:=bind_some hd
    refine A8 6 12013 0 m aB T22 cb Z f Z Z λcc a cd f=>Bo 7 12013 0 aB AT cd cb Z f Z λce a cf f=>Ao 8 12013 Z f Z λa f=>Ao 9 12013 Z f Z λa f=> ?_
    have⟨cg,ch,hd⟩:=bind_some hd
    refine A8 10 12013 0 m aB T22 ch Z f Z Z λci a cj f=>Bo 11 12013 0 aB AT cj ch Z f Z λck a cl f=> ?_
    have⟨cm,cn,hd⟩:=bind_some hd
    refine A8 12 12013 0 m aB T22 cn Z f Z Z λco a cp f=>AU λcq w cr m=> ?_
    have cf:=(RTg.mono (RI.mono _)) _ _ _ _ cr cf
    have cl:=(RTg.mono (RI.mono _)) _ _ _ _ cr cl
    have aB:=Ow.mono (RTg.mono (RI.mono _)) cr aB
    refine AQ 0 m aB Z sizeOf26 f Z Z cp cn cf.cells cf.one1 cf λcs w m ct=> ?_
    have⟨cu,cv,hd⟩:=bind_some hd
    refine AZ 0 m ct Z T22 f Z Z Z cv λcw a cx f=>AQ 0 m ct Z sizeOf26 f Z Z cx cv cl.cells cl.one1 cl λcy w m cz=>Ay ?_
    refine Ab f Z λa f=>Ai f Z Z Aw λa f=>Ac f Z λa f=>Ay ?_
    refine Ab f Z λa f=>Ai f Z Z Bh λa f=>Ac f Z λa f=>Aa (Ag ?_)
    have⟨cA,cB,hd⟩:=bind_some hd
    refine AH (λa w=>∃cC:List (Value×LI),∃cD:Int,(cC,cD)=cA∧∃(cE:GH) (cF:Itm),GLe cq cE∧Fr a 178 [(0,v0),(1,(iv x1)),(13,(iv cD))]∧Mem W cE w (cF::H)∧Ow (RTg R0) 26 cE cF v0 cC) ?_ ?_
    ·refine Ak ?_
     refine AC (λcG a w=>∃cH:List (Value×LI),∃cI:Int,∃cJ:Int,(cH,cI,cJ)=cG∧∃(cK:GH) (cL:Itm),GLe cq cK∧Fr a 178 [(0,v0),(1,(iv x1)),(4,(.func (.func 83) #[] #[])),(12,(iv cI)),(13,(iv cJ))]∧Mem W cK w (cL::H)∧Ow (RTg R0) 26 cK cL v0 cH) cB ⟨_,_,_,Z,_,cy,gr,f.k Z,m,cz⟩ ?_
     clear cB f m
     rintro cG cM cN cO a w ⟨cH,cI,cJ,rfl,cK,cL,cP,f,m,cQ⟩
     refine Ak (Ag ?_)
     have⟨cR,cS,cN⟩:=bind_some cN
     refine AH (λa w=>∃cT:Int,cT=cR∧∃(cU:GH),GLe cK cU∧Fr a 178 [(0,v0),(1,(iv x1)),(4,(.func (.func 83) #[] #[])),(12,(iv cT)),(13,(iv cJ))]∧Mem W cU w (cL::H)) ?_ ?_
     ·refine Ak ?_
      refine AC (λcV a w=>∃cW:Int,cW=cV∧∃(cX:GH),GLe cK cX∧Fr a 178 [(0,v0),(1,(iv x1)),(4,(.func (.func 83) #[] #[])),(12,(iv cW)),(13,(iv cJ))]∧Mem W cX w (cL::H)) cS ⟨_,Z,_,gr,f.k Z,m⟩ ?_
      clear cS f m
      rintro cV cY cZ c0 a w ⟨cW,rfl,cX,c1,f,m⟩
      have cQ:=Ow.mono (RTg.mono (RI.mono _)) c1 cQ
      refine Ag (Ag ?_)
      refine A3 16 AM (by kernel_rfl) m ?_
      refine Ao 0 16 Z f Z λa f=>Ao 1 16 Z f Z λa f=>q_p 2 16 Z f (λ_=>AV (f.e Z) (f.e Z) CD) λa f=>Ao 3 16 Z f Z λa f=> ?_
      have⟨c2,c3,cZ⟩:=bind_some cZ
      refine CS (fuel':=0) (listed':= #[true,true,true,true,true,true,true,true,true,true,true,true,true,true,true,true]) (λa=>Fr a 178 [(0,v0),(1,(iv x1)),(4,(.func (.func 83) #[] #[])),(12,(iv cW)),(13,(iv cJ)),(105,(iv cW)),(106,(iv cJ)),(107,(.bool (decide (cW≤cJ)))),(108,(.bool (decide (cW≤cJ)))),(120,(.bool c2))]) ?_ ?_
      ·intro a f
       refine AU λc4 w c5 m=>Aa ?_
       rcases Af cZ with⟨c6,cZ⟩|⟨c6,cZ⟩
       ·refine Al f Z c6 ?_
        refine Am ?_
        refine Ak (Aj ?_)
        refine Ab f Z λa f=>Ai f Z Z Aw λa f=>Ac f Z λa f=>Aa ?_
        obtain rfl:=sj cZ
        exact⟨_,Z,_,Z,_,(gt c1 c5),f.k Z,m⟩
       ·refine Ah f Z c6 ?_
        refine AA Z ?_
        obtain rfl:=sj cZ
        obtain rfl:=c0 _ rfl
        exact⟨_,Z,_,(gt c1 c5),f.k Z,m⟩
      ·intro c7
       rcases Af c3 with⟨c8,c3⟩|⟨c8,c3⟩
       ·refine Ao (hw:=wo f c8) 4 16 Z f Z λa f=> ?_
        refine Ao (hw:=wo f c8) 5 16 Z f Z λa f=>Ao (hw:=wo f c8) 6 16 Z f Z λa f=> ?_
        have⟨c9,da,c3⟩:=bind_some c3
        refine A8 (hw:=wo f c8) 7 16 0 m cQ T22 da Z f Z Z λdb a dc f=>Bo (hw:=wo f c8) 8 16 0 cQ AT dc da Z f Z λdd a de f=>Ao (hw:=wo f c8) 9 16 Z f Z λa f=>Ao (hw:=wo f c8) 10 16 Z f Z λa f=> ?_
        have⟨df,dg,c3⟩:=bind_some c3
        refine A8 (hw:=wo f c8) 11 16 0 m cQ T22 dg Z f Z Z λdh a di f=>Bo (hw:=wo f c8) 12 16 0 cQ AT di dg Z f Z λdj a dk f=> ?_
        have⟨dl,dm,c3⟩:=bind_some c3
        refine CB (i:=13) 16 Z (by kernel_rfl) Z f (BN f Z Z Z c8) Z Z Z call83 (λ_ _ w dn m=>Wk.b m (rd1 dn (de.2)) (rd1 dn (dk.2)) dm) λa f=>q_p (hw:=wo f c8) 14 16 Z f (λ_=>AV (f.e Z) (f.e Z) AE) λa f=>q_p 15 16 Z f (λ_=>A4 (f.e Z) c8 (f.e Z)) λa f=> ?_
        obtain rfl:=sj c3
        exact c7 _ (f.k Z)
       ·refine AI 4 16 Z f c8 λa f=> ?_
        refine AI 5 16 Z f c8 λa f=>AI 6 16 Z f c8 λa f=>AI 7 16 Z f c8 λa f=>AI 8 16 Z f c8 λa f=>AI 9 16 Z f c8 λa f=>AI 10 16 Z f c8 λa f=>AI 11 16 Z f c8 λa f=>AI 12 16 Z f c8 λa f=>AI 13 16 Z f c8 λa f=>AI 14 16 Z f c8 λa f=>q_p 15 16 Z f (λ_=>A5 (f.e Z) c8 (f.e Z)) λa f=> ?_
        obtain rfl:=sj c3
        exact c7 _ (f.k Z)
     ·rintro a w ⟨cT,rfl,cU,dp,f,m⟩
      have cQ:=Ow.mono (RTg.mono (RI.mono _)) dp cQ
      refine Ag ?_
      have⟨dq,dr,cN⟩:=bind_some cN
      refine AH (λa w=>∃ds:Int,ds=dq∧∃(dt:GH),GLe cU dt∧Fr a 178 [(0,v0),(1,(iv x1)),(4,(.func (.func 83) #[] #[])),(12,(iv cT)),(13,(iv ds))]∧Mem W dt w (cL::H)) ?_ ?_
      ·refine Ak ?_
       refine AC (λdu a w=>∃dv:Int,dv=du∧∃(dw:GH),GLe cU dw∧Fr a 178 [(0,v0),(1,(iv x1)),(4,(.func (.func 83) #[] #[])),(12,(iv cT)),(13,(iv dv))]∧Mem W dw w (cL::H)) dr ⟨_,Z,_,gr,f.k Z,m⟩ ?_
       clear dr f m
       rintro du dx dy dz a w ⟨dv,rfl,dw,dA,f,m⟩
       have cQ:=Ow.mono (RTg.mono (RI.mono _)) dA cQ
       refine Ag (Ag ?_)
       refine A3 17 AM (by kernel_rfl) m ?_
       refine Ao 0 17 Z f Z λa f=>Ao 1 17 Z f Z λa f=>q_p 2 17 Z f (λ_=>AV (f.e Z) (f.e Z) CD) λa f=>Ao 3 17 Z f Z λa f=> ?_
       have⟨dB,dC,dy⟩:=bind_some dy
       refine CS (fuel':=0) (listed':= #[true,true,true,true,true,true,true,true,true,true,true,true,true,true,true,true,true]) (λa=>Fr a 178 [(0,v0),(1,(iv x1)),(4,(.func (.func 83) #[] #[])),(12,(iv cT)),(13,(iv dv)),(123,(iv cT)),(124,(iv dv)),(125,(.bool (decide (cT≤dv)))),(126,(.bool (decide (cT≤dv)))),(139,(.bool dB))]) ?_ ?_
       ·intro a f
        refine AU λdD w dE m=>Aa ?_
        rcases Af dy with⟨dF,dy⟩|⟨dF,dy⟩
        ·refine Al f Z dF ?_
         refine Am ?_
         refine Ak (Aj ?_)
         refine Ab f Z λa f=>Ai f Z Z Bh λa f=>Ac f Z λa f=>Aa ?_
         obtain rfl:=sj dy
         exact⟨_,Z,_,Z,_,(gt dA dE),f.k Z,m⟩
        ·refine Ah f Z dF ?_
         refine AA Z ?_
         obtain rfl:=sj dy
         obtain rfl:=dz _ rfl
         exact⟨_,Z,_,(gt dA dE),f.k Z,m⟩
       ·intro dG
        rcases Af dC with⟨dH,dC⟩|⟨dH,dC⟩
        ·refine Ao (hw:=wo f dH) 4 17 Z f Z λa f=> ?_
         refine Ao (hw:=wo f dH) 5 17 Z f Z λa f=>Ao (hw:=wo f dH) 6 17 Z f Z λa f=> ?_
         have⟨dI,dJ,dC⟩:=bind_some dC
         refine A8 (hw:=wo f dH) 7 17 0 m cQ T22 dJ Z f Z Z λdK a dL f=>Bo (hw:=wo f dH) 8 17 0 cQ AT dL dJ Z f Z λdM a dN f=>Ao (hw:=wo f dH) 9 17 Z f Z λa f=>Ao (hw:=wo f dH) 10 17 Z f Z λa f=> ?_
         have⟨dO,dP,dC⟩:=bind_some dC
         refine A8 (hw:=wo f dH) 11 17 0 m cQ T22 dP Z f Z Z λdQ a dR f=>Bo (hw:=wo f dH) 12 17 0 cQ AT dR dP Z f Z λdS a dT f=> ?_
         have⟨dU,dV,dC⟩:=bind_some dC
         refine CB (i:=13) 17 Z (by kernel_rfl) Z f (BN f Z Z Z dH) Z Z Z call83 (λ_ _ w dW m=>Wk.b m (rd1 dW (dN.2)) (rd1 dW (dT.2)) dV) λa f=>q_p (hw:=wo f dH) 14 17 Z f (λ_=>AV (f.e Z) (f.e Z) AE) λa f=>q_p (hw:=wo f dH) 15 17 Z f (λ_=>Bv (f.e Z)) λa f=>q_p 16 17 Z f (λ_=>A4 (f.e Z) dH (f.e Z)) λa f=> ?_
         obtain rfl:=sj dC
         exact dG _ (f.k Z)
        ·refine AI 4 17 Z f dH λa f=> ?_
         refine AI 5 17 Z f dH λa f=>AI 6 17 Z f dH λa f=>AI 7 17 Z f dH λa f=>AI 8 17 Z f dH λa f=>AI 9 17 Z f dH λa f=>AI 10 17 Z f dH λa f=>AI 11 17 Z f dH λa f=>AI 12 17 Z f dH λa f=>AI 13 17 Z f dH λa f=>AI 14 17 Z f dH λa f=>AI 15 17 Z f dH λa f=>q_p 16 17 Z f (λ_=>A5 (f.e Z) dH (f.e Z)) λa f=> ?_
         obtain rfl:=sj dC
         exact dG _ (f.k Z)
      ·rintro a w ⟨ds,rfl,dt,dX,f,m⟩
       have cQ:=Ow.mono (RTg.mono (RI.mono _)) dX cQ
       refine Ag (Ae ?_)
       refine Ab f Z λa f=>Ab f Z λa f=>Ai f Z Z Cf λa f=>Aa ?_
       rcases Af cN with⟨dY,cN⟩|⟨dY,cN⟩
       ·refine Al f Z dY ?_
        refine AA Z ?_
        obtain rfl:=sj cN
        obtain rfl:=cO _ rfl
        exact⟨_,_,Z,_,cL,(gt cP (gt dp dX)),f.k Z,m,cQ⟩
       ·refine Ah f Z dY ?_
        refine Am ?_
        refine Ag ?_
        refine Ct AM m ?_
        refine p_p 2 Z f (λ_=>Bg (f.e Z)) λa f=>p_p 3 Z f (λ_=>Bg (f.e Z)) λa f=>Cu 12013 11 (by kernel_rfl) Z ?_
        refine Ao 0 12013 Z f Z λa f=>Ao 1 12013 Z f Z λa f=>Ao 4 12013 Z f Z λa f=>Ao 5 12013 Z f Z λa f=> ?_
        have⟨dZ,d0,cN⟩:=bind_some cN
        refine A8 6 12013 0 m cQ T22 d0 Z f Z Z λd1 a d2 f=>Bo 7 12013 0 cQ AT d2 d0 Z f Z λd3 a d4 f=>Ao 8 12013 Z f Z λa f=>Ao 9 12013 Z f Z λa f=> ?_
        have⟨d5,d6,cN⟩:=bind_some cN
        refine A8 10 12013 0 m cQ T22 d6 Z f Z Z λd7 a d8 f=>Bo 11 12013 0 cQ AT d8 d6 Z f Z λd9 a ea f=> ?_
        have⟨eb,ec,cN⟩:=bind_some cN
        refine A8 12 12013 0 m cQ T22 ec Z f Z Z λed a ee f=>AU λef w eg m=> ?_
        have d4:=(RTg.mono (RI.mono _)) _ _ _ _ eg d4
        have ea:=(RTg.mono (RI.mono _)) _ _ _ _ eg ea
        have cQ:=Ow.mono (RTg.mono (RI.mono _)) eg cQ
        refine AQ 0 m cQ Z sizeOf26 f Z Z ee ec d4.cells d4.one1 d4 λeh w m ei=> ?_
        have⟨ej,ek,cN⟩:=bind_some cN
        refine AZ 0 m ei Z T22 f Z Z Z ek λel a em f=>AQ 0 m ei Z sizeOf26 f Z Z em ek ea.cells ea.one1 ea λen w m eo=>Ay ?_
        refine Ab f Z λa f=>Ai f Z Z Aw λa f=>Ac f Z λa f=>Aa (Aj ?_)
        refine Ab f Z λa f=>Ai f Z Z Bh λa f=>Ac f Z λa f=>Aa ?_
        obtain rfl:=sj cN
        exact⟨_,Z,_,_,_,Z,_,en,(gt cP (gt dp (gt dX eg))),f.k Z,m,eo⟩
    ·rintro a w ⟨cC,cD,rfl,cE,cF,ep,f,m,eq⟩
     refine Ag ?_
     refine Ct AM m ?_
     refine p_p 2 Z f (λ_=>Bg (f.e Z)) λa f=>p_p 3 Z f (λ_=>Bg (f.e Z)) λa f=>Cu 12013 11 (by kernel_rfl) Z ?_
     refine Ao 0 12013 Z f Z λa f=>Ao 1 12013 Z f Z λa f=>Ao 4 12013 Z f Z λa f=>Ao 5 12013 Z f Z λa f=> ?_
     have⟨er,es,hd⟩:=bind_some hd
     refine A8 6 12013 0 m eq T22 es Z f Z Z λet a eu f=>Bo 7 12013 0 eq AT eu es Z f Z λev a ew f=>Ao 8 12013 Z f Z λa f=>Ao 9 12013 Z f Z λa f=> ?_
     have⟨ex,ey,hd⟩:=bind_some hd
     refine A8 10 12013 0 m eq T22 ey Z f Z Z λez a eA f=>Bo 11 12013 0 eq AT eA ey Z f Z λeB a eC f=> ?_
     have⟨eD,eE,hd⟩:=bind_some hd
     refine A8 12 12013 0 m eq T22 eE Z f Z Z λeF a eG f=>AU λeH w eI m=> ?_
     have ew:=(RTg.mono (RI.mono _)) _ _ _ _ eI ew
     have eC:=(RTg.mono (RI.mono _)) _ _ _ _ eI eC
     have eq:=Ow.mono (RTg.mono (RI.mono _)) eI eq
     refine AQ 0 m eq Z sizeOf26 f Z Z eG eE ew.cells ew.one1 ew λeJ w m eK=> ?_
     have⟨eL,eM,hd⟩:=bind_some hd
     refine AZ 0 m eK Z T22 f Z Z Z eM λeN a eO f=>AQ 0 m eK Z sizeOf26 f Z Z eO eM eC.cells eC.one1 eC λeP w m eQ=>Ay ?_
     refine Ab f Z λa f=>Ac f Z λa f=>Ac f Z λa f=>Aa ?_
     refine Aq ?_
     obtain rfl:=sj hd
     exact⟨[(iv cD),(.bool false)],⟨f.get _ _ Z,f.get _ _ Z,trivial⟩,f.d,_,[eP],(gt ar (gt a9 (gt bI (gt cr (gt ep eI))))),m,_,Z,Z,eQ⟩
theorem Wk.e0 {W:World}(n:Nat):∀{w:World} {G:GH} {H:List Itm} {v0:Value} {it0:Itm} {x0:(List (Value×LI))} {x1 x2 x3:Int} (m:Mem W G w (it0::H)) (o0:Ow (RTg R0) 26 G it0 v0 x0) {y:((List (Value×LI)))} (hd:D.e0 n x0 x1 x2 x3=some y),
  Calls prog 122 #[v0,(iv x1),(iv x2),(iv x3),(.func (.func 83) #[] #[])] w (Res W G H (λG' Ho _=>∃i0:Itm,Ho=[i0]∧Ow (RTg R0) 26 G' i0 v0 y)):=by
 induction n with
 |zero=>intros;rename_i hd;simp[D.e0] at hd
 |succ fuel ih=>
  intro w G H v0 it0 x0 x1 x2 x3 m o0 y hd
  refine Ar (args:=[v0,(iv x1),(iv x2),(iv x3),(.func (.func 83) #[] #[])]) (N:=148) [] func122 Z Z (lb Z) Z λa f=> ?_
  unfold D.e0 at hd
  refine Ae ?_
  refine Ac f Z λa f=>Ay ?_
  refine Ac f Z λa f=>Aa ?_
  have⟨aa,ab,hd⟩:=bind_some hd
  refine Ak ?_
  refine AC (λac a w=>∃ad:List (Value×LI),∃ae:Int,∃af:Int,∃ag:Int,∃ah:Bool,∃ai:Bool,(ad,ae,af,ag,ah,ai)=ac∧∃(aj:GH) (ak:Itm),GLe G aj∧Fr a 148 [(0,v0),(1,(iv ae)),(2,(iv af)),(3,(iv ag)),(4,(.func (.func 83) #[] #[])),(10,(.bool ah)),(11,(.bool ai))]∧Mem W aj w (ak::H)∧Ow (RTg R0) 26 aj ak v0 ad) ab ⟨_,_,_,_,_,_,Z,_,it0,gr,f.k Z,m,o0⟩ ?_
  clear ab f m
  rintro ac al am an a w ⟨ad,ae,af,ag,ah,ai,rfl,aj,ak,ao,f,m,ap⟩
  refine Ak (Ae ?_)
  refine Ab f Z λa f=>Ab f Z λa f=>Ai f Z Z Bh λa f=>Ac f Z λa f=>Aa (Ag (Ae ?_))
  refine Ab f Z λa f=>Ai f Z Z CD λa f=>Aa ?_
  rcases Af am with⟨aq,am⟩|⟨aq,am⟩
  ·refine Al f Z aq ?_
   refine Ae ?_
   refine Ab f Z λa f=>Ab f Z λa f=>Ab f Z λa f=>Ab f Z λa f=> ?_
   have⟨ar,au,am⟩:=bind_some am
   refine AL f Z call142 (Wk.e2 m ap au) λav aw ax w ay m az a f=> ?_
   obtain⟨aA,rfl,aB⟩:=az
   refine Aa ?_
   refine Aq ?_
   obtain rfl:=sj am
   obtain rfl:=an _ rfl
   obtain rfl:=sj hd
   exact⟨[],trivial,f.d,_,[aA],(gt ao ay),m,_,Z,aB⟩
  ·refine Ah f Z aq ?_
   refine Am ?_
   refine Ag (Ae ?_)
   refine Ab f Z λa f=>Ai f Z Z BS λa f=>Aa ?_
   rcases Af am with⟨aC,am⟩|⟨aC,am⟩
   ·refine Al f Z aC ?_
    refine Ae ?_
    refine Ab f Z λa f=>Ab f Z λa f=>Ab f Z λa f=>Ab f Z λa f=> ?_
    have⟨aD,aE,am⟩:=bind_some am
    refine AL f Z call143 (Wk.a2 m ap aE) λaF aG aH w aI m aJ a f=> ?_
    obtain⟨aK,rfl,aL⟩:=aJ
    refine Aa ?_
    refine Aq ?_
    obtain rfl:=sj am
    obtain rfl:=an _ rfl
    obtain rfl:=sj hd
    exact⟨[],trivial,f.d,_,[aK],(gt ao aI),m,_,Z,aL⟩
   ·refine Ah f Z aC ?_
    refine Am ?_
    refine Ag (Ae ?_)
    refine Ab f Z λa f=>l_o f (Bv (f.e Z)) λa f=>Aa ?_
    have⟨aM,aN,am⟩:=bind_some am
    refine AH (λa w=>∃aO:List (Value×LI),∃aP:Int,(aO,aP)=aM∧∃(aQ:GH) (aR:Itm),GLe aj aQ∧Fr a 148 [(0,v0),(1,(iv ae)),(2,(iv af)),(3,(iv aP)),(4,(.func (.func 83) #[] #[])),(10,(.bool ah)),(11,(.bool ai)),(12,(iv (i64.wrap (af-ae))))]∧Mem W aQ w (aR::H)∧Ow (RTg R0) 26 aQ aR v0 aO) ?_ ?_
    ·rcases Af aN with⟨aS,aN⟩|⟨aS,aN⟩
     ·refine Al f Z aS ?_
      refine Ae ?_
      refine Ab f Z λa f=>Ab f Z λa f=>Ab f Z λa f=>Ab f Z λa f=> ?_
      have⟨aT,aU,aN⟩:=bind_some aN
      refine AL f Z call144 (Wk.Q1 m ap aU) λaV aW aX w aY m aZ a f=> ?_
      obtain⟨a0,rfl,a1⟩:=aZ
      refine Aa (Aj ?_)
      refine Ab f Z λa f=>Ai f Z Z Bh λa f=>Ac f Z λa f=>Aa ?_
      obtain rfl:=sj aN
      exact⟨_,_,Z,_,a0,aY,f.k Z,m,a1⟩
     ·refine Ah f Z aS ?_
      refine Am ?_
      obtain rfl:=sj aN
      exact⟨_,_,Z,_,ak,gr,f.k Z,m,ap⟩
    ·rintro a w ⟨aO,aP,rfl,aQ,aR,a2,f,m,a3⟩
     refine Ae ?_
     refine Ab f Z λa f=>Ab f Z λa f=>Ab f Z λa f=>Ab f Z λa f=> ?_
     have⟨a4,a5,am⟩:=bind_some am
     refine AL f Z call145 (Wk.o2 m a3 a5) λa6 a7 a8 w a9 m ba a f=> ?_
     obtain⟨bb,rfl,rfl,bc⟩:=ba
     refine Ab f Z λa f=>l_o f (A9 (f.e Z) Z) λa f=>l_o f (A9 (f.e Z) Z) λa f=>Ac f Z λa f=>Ac f Z λa f=>Aa (Ag (Ae ?_))
     refine Ab f Z λa f=>Ai f Z Z BS λa f=>Aa ?_
     have⟨bd,be,am⟩:=bind_some am
     refine AH (λa w=>∃bf:List (Value×LI),∃bg:Int,∃bh:Int,(bf,bg,bh)=bd∧∃(bi:GH) (bj:Itm),GLe a7 bi∧Fr a 148 [(0,v0),(1,(iv ae)),(2,(iv af)),(3,(iv aP)),(4,(.func (.func 83) #[] #[])),(10,(.bool ah)),(11,(.bool ai)),(12,(iv (i64.wrap (af-ae)))),(13,(iv bg)),(14,(iv bh))]∧Mem W bi w (bj::H)∧Ow (RTg R0) 26 bi bj v0 bf) ?_ ?_
     ·rcases Af be with⟨bk,be⟩|⟨bk,be⟩
      ·refine Al f Z bk ?_
       refine Ae ?_
       refine Ab f Z λa f=>Ab f Z λa f=>Ab f Z λa f=>Ab f Z λa f=> ?_
       have⟨bl,bm,be⟩:=bind_some be
       refine AL f Z call146 (Wk.p2 m bc bm) λbn bo bp w bq m br a f=> ?_
       obtain⟨bs,rfl,bt⟩:=br
       refine Ay ?_
       refine Ab f Z λa f=>Ai f Z Z Bh λa f=>Ab f Z λa f=>Ab f Z λa f=>Ai f Z Z Bh λa f=>Ai f Z Z Bh λa f=>Ac f Z λa f=>Aa (Aj ?_)
       refine Ac f Z λa f=>Aa ?_
       obtain rfl:=sj be
       exact⟨_,_,_,Z,_,bs,bq,f.k Z,m,bt⟩
      ·refine Ah f Z bk ?_
       refine Am ?_
       obtain rfl:=sj be
       exact⟨_,_,_,Z,_,bb,gr,f.k Z,m,bc⟩
     ·rintro a w ⟨bf,bg,bh,rfl,bi,bj,bu,f,m,bv⟩
      refine Ag (Ae ?_)
      refine Ab f Z λa f=>Ab f Z λa f=> ?_
      refine BH 2 (λa w=>∃bw,GLe bi bw∧Mem W bw w (bj::H)∧Fr a 148 [(0,v0),(1,(iv ae)),(2,(iv af)),(3,(iv aP)),(4,(.func (.func 83) #[] #[])),(10,(.bool ah)),(11,(.bool ai)),(12,(iv (i64.wrap (af-ae)))),(13,(iv bg)),(14,(iv bh)),(68,(.bool ah)),(69,(.bool ah)),(71,(.bool (ah&&ai)))]) ?_ ?_
      ·rcases Bool.eq_false_or_eq_true ah with bx|bx
       ·refine AF f bx ?_
        refine Ab f Z λa f=>l_o f (A4 (f.e Z) bx (f.e Z)) λa f=> ?_
        exact⟨_,gr,m,f.weak ⟨Z,Z,Z,Z,Z,Z,Z,Z,Z,Z,Z,Z,by rw[bx];rfl,trivial⟩⟩
       ·refine AG f bx λa f=> ?_
        refine l_o f (A5 (f.e Z) bx (f.e Z)) λa f=> ?_
        exact⟨_,gr,m,f.weak ⟨Z,Z,Z,Z,Z,Z,Z,Z,Z,Z,Z,Z,by rw[bx];rfl,trivial⟩⟩
      ·rintro a w ⟨bw,bz,m,f⟩
       have bv:=Ow.mono (RTg.mono (RI.mono _)) bz bv
       refine Ab f Z λa f=> ?_
       refine BH 3 (λa w=>∃bA,GLe bw bA∧Mem W bA w (bj::H)∧Fr a 148 [(0,v0),(1,(iv ae)),(2,(iv af)),(3,(iv aP)),(4,(.func (.func 83) #[] #[])),(10,(.bool ah)),(11,(.bool ai)),(12,(iv (i64.wrap (af-ae)))),(13,(iv bg)),(14,(iv bh)),(68,(.bool ah)),(69,(.bool ah)),(71,(.bool (ah&&ai))),(72,(.bool (ah&&ai))),(75,(.bool ((ah&&ai)&&(bh==1))))]) ?_ ?_
       ·rcases Bool.eq_false_or_eq_true (ah&&ai) with bB|bB
        ·refine AF f bB ?_
         refine Ab f Z λa f=>AF f bB ?_
         refine Ai f Z Z BS λa f=>l_o f (A4 (f.e Z) bB (f.e Z)) λa f=> ?_
         exact⟨_,gr,m,f.weak ⟨Z,Z,Z,Z,Z,Z,Z,Z,Z,Z,Z,Z,Z,Z,by rw[bB];rfl,trivial⟩⟩
        ·refine AG f bB λa f=> ?_
         refine AG f bB λa f=>l_o f (A5 (f.e Z) bB (f.e Z)) λa f=> ?_
         exact⟨_,gr,m,f.weak ⟨Z,Z,Z,Z,Z,Z,Z,Z,Z,Z,Z,Z,Z,Z,by rw[bB];rfl,trivial⟩⟩
       ·rintro a w ⟨bA,bC,m,f⟩
        have bv:=Ow.mono (RTg.mono (RI.mono _)) bC bv
        refine Aa ?_
        have⟨bD,bE,am⟩:=bind_some am
        refine AH (λa w=>∃j_513':(List (Value×LI)),bD= .inl j_513'∧∃bF:List (Value×LI),bF=j_513'∧∃(bG:GH) (bH:Itm),GLe bA bG∧Fr a 148 [(0,v0),(1,(iv ae)),(2,(iv af)),(3,(iv aP)),(4,(.func (.func 83) #[] #[])),(10,(.bool ah)),(11,(.bool ai)),(12,(iv (i64.wrap (af-ae)))),(13,(iv bg))]∧Mem W bG w (bH::H)∧Ow (RTg R0) 26 bG bH v0 bF) ?_ ?_
        ·rcases Af bE with⟨bI,bE⟩|⟨bI,bE⟩
         ·refine Al f Z bI ?_
          refine Ae ?_
          refine Ab f Z λa f=>Ab f Z λa f=>Ab f Z λa f=>Ab f Z λa f=> ?_
          have⟨bJ,bK,bE⟩:=bind_some bE
          refine AL f Z call147 (Wk.m2 m bv bK) λbL bM bN w bO m bP a f=> ?_
          obtain⟨bQ,rfl,rfl,bR⟩:=bP
          refine Aa ?_
          rcases Af bE with⟨bS,bE⟩|⟨bS,bE⟩
          ·refine Al f Z bS ?_
           refine Aq ?_
           obtain rfl:=sj bE
           obtain rfl:=sj am
           obtain rfl:=an _ rfl
           obtain rfl:=sj hd
           exact⟨[],trivial,f.d,_,[bQ],(gt ao (gt a2 (gt a9 (gt bu (gt bz (gt bC bO)))))),m,_,Z,bR⟩
          ·refine Ah f Z bS ?_
           refine Am ?_
           obtain rfl:=sj bE
           exact⟨_,Z,_,Z,_,bQ,bO,f.k Z,m,bR⟩
         ·refine Ah f Z bI ?_
          refine Am ?_
          obtain rfl:=sj bE
          exact⟨_,Z,_,Z,_,bj,gr,f.k Z,m,bv⟩
        ·rintro a w ⟨_,rfl,bF,rfl,bG,bH,bT,f,m,bU⟩
         refine Ag (Ag ?_)
         refine A3 17 AM (by kernel_rfl) m ?_
         refine Ao 0 17 Z f Z λa f=>q_p 1 17 Z f (λ_=>AV (f.e Z) (f.e Z) Cf) λa f=>Ao 2 17 Z f Z λa f=> ?_
         have⟨bV,bW,am⟩:=bind_some am
         refine CS (fuel':=0) (listed':= #[true,true,true,true,true,true,true,true,true,true,true,true,true,true,true,true,true]) (λa=>Fr a 148 [(0,v0),(1,(iv ae)),(2,(iv af)),(3,(iv aP)),(4,(.func (.func 83) #[] #[])),(10,(.bool ah)),(11,(.bool ai)),(12,(iv (i64.wrap (af-ae)))),(13,(iv bg)),(81,(iv ae)),(82,(.bool (decide ((0:Int)<ae)))),(83,(.bool (decide ((0:Int)<ae)))),(97,(.bool bV))]) ?_ ?_
         ·intro a f
          refine AU λbX w bY m=> ?_
          have bU:=Ow.mono (RTg.mono (RI.mono _)) bY bU
          refine Aa ?_
          rcases Af am with⟨bZ,am⟩|⟨bZ,am⟩
          ·refine Al f Z bZ ?_
           refine Ae ?_
           refine Ab f Z λa f=>Ab f Z λa f=>Ab f Z λa f=>Ab f Z λa f=>Ab f Z λa f=> ?_
           have⟨b0,b1,am⟩:=bind_some am
           refine AL f Z call148 (Wk.g2 m bU b1) λb2 b3 b4 w b5 m b6 a f=> ?_
           obtain⟨b7,rfl,rfl,b8⟩:=b6
           refine Ac f Z λa f=>Ay ?_
           refine Ab f Z λa f=>Ac f Z λa f=>Aa ?_
           refine AA Z ?_
           obtain rfl:=sj am
           exact⟨_,Z,_,_,_,_,_,_,Z,_,b7,(gt ao (gt a2 (gt a9 (gt bu (gt bz (gt bC (gt bT (gt bY b5)))))))),f.k Z,m,b8⟩
          ·refine Ah f Z bZ ?_
           refine Am ?_
           refine Ae ?_
           refine Ab f Z λa f=>Ab f Z λa f=>Ab f Z λa f=>Ab f Z λa f=>Ab f Z λa f=> ?_
           have⟨b9,ca,am⟩:=bind_some am
           refine AL f Z call149 (Wk.q2 m bU ca) λcb cc cd w ce m cf a f=> ?_
           obtain⟨cg,rfl,rfl,ch⟩:=cf
           refine Ab f Z λa f=>l_o f (A9 (f.e Z) Z) λa f=>l_o f (A9 (f.e Z) Z) λa f=>Ac f Z λa f=>Ac f Z λa f=>Ay ?_
           refine Ab f Z λa f=>Ac f Z λa f=>Ay ?_
           refine Ab f Z λa f=>Ab f Z λa f=>Ai f Z Z Bh λa f=>Ab f Z λa f=>Ab f Z λa f=>Ai f Z Z Bh λa f=>Ac f Z λa f=>Ac f Z λa f=>Ay ?_
           refine Ab f Z λa f=>Ai f Z Z (b_quo Z) λa f=>Ac f Z λa f=>Ay ?_
           refine Ab f Z λa f=>Ab f Z λa f=>Ai f Z Z AE λa f=>Aa ?_
           rcases Af am with⟨ci,am⟩|⟨ci,am⟩
           ·refine Al f Z ci ?_
            refine Ae ?_
            refine Ab f Z λa f=>Ab f Z λa f=>Ai f Z Z Cs λa f=>Ac f Z λa f=>Ay ?_
            refine Ab f Z λa f=>Ab f Z λa f=>Ab f Z λa f=>Ab f Z λa f=>Ab f Z λa f=> ?_
            have⟨cj,ck,am⟩:=bind_some am
            refine AL f Z call122 (ih m ch ck) λcl cm cn w co m cp a f=> ?_
            obtain⟨cq,rfl,cr⟩:=cp
            refine Aa (Aj ?_)
            refine Ab f Z λa f=>Ai f Z Z Aw λa f=>Ac f Z λa f=>Aa ?_
            obtain rfl:=sj am
            exact⟨_,Z,_,_,_,_,_,_,Z,_,cq,(gt ao (gt a2 (gt a9 (gt bu (gt bz (gt bC (gt bT (gt bY (gt ce co))))))))),f.k Z,m,cr⟩
           ·refine Ah f Z ci ?_
            refine Ae ?_
            refine Ab f Z λa f=>Ab f Z λa f=>Ai f Z Z Cs λa f=>Ac f Z λa f=>Ay ?_
            refine Ab f Z λa f=>Ab f Z λa f=>Ai f Z Z Aw λa f=>Ab f Z λa f=>Ab f Z λa f=>Ab f Z λa f=> ?_
            have⟨cs,ct,am⟩:=bind_some am
            refine AL f Z call122 (ih m ch ct) λcu cv cw w cx m cy a f=> ?_
            obtain⟨cz,rfl,cA⟩:=cy
            refine Aa (Aj ?_)
            refine Ab f Z λa f=>Ac f Z λa f=>Aa ?_
            obtain rfl:=sj am
            exact⟨_,Z,_,_,_,_,_,_,Z,_,cz,(gt ao (gt a2 (gt a9 (gt bu (gt bz (gt bC (gt bT (gt bY (gt ce cx))))))))),f.k Z,m,cA⟩
         ·intro cB
          rcases Af bW with⟨cC,bW⟩|⟨cC,bW⟩
          ·refine Ao (hw:=wo f cC) 3 17 Z f Z λa f=> ?_
           refine Ao (hw:=wo f cC) 4 17 Z f Z λa f=>Ao (hw:=wo f cC) 5 17 Z f Z λa f=>q_p (hw:=wo f cC) 6 17 Z f (λ_=>AV (f.e Z) (f.e Z) Bh) λa f=> ?_
           have⟨cD,cE,bW⟩:=bind_some bW
           refine A8 (hw:=wo f cC) 7 17 0 m bU T22 cE Z f Z Z λcF a cG f=>Bo (hw:=wo f cC) 8 17 0 bU AT cG cE Z f Z λcH a cI f=>Ao (hw:=wo f cC) 9 17 Z f Z λa f=>Ao (hw:=wo f cC) 10 17 Z f Z λa f=> ?_
           have⟨cJ,cK,bW⟩:=bind_some bW
           refine A8 (hw:=wo f cC) 11 17 0 m bU T22 cK Z f Z Z λcL a cM f=>Bo (hw:=wo f cC) 12 17 0 bU AT cM cK Z f Z λcN a cO f=> ?_
           have⟨cP,cQ,bW⟩:=bind_some bW
           refine CB (i:=13) 17 Z (by kernel_rfl) Z f (BN f Z Z Z cC) Z Z Z call83 (λ_ _ w cR m=>Wk.b m (rd1 cR (cI.2)) (rd1 cR (cO.2)) cQ) λa f=>q_p (hw:=wo f cC) 14 17 Z f (λ_=>AV (f.e Z) (f.e Z) AE) λa f=>q_p (hw:=wo f cC) 15 17 Z f (λ_=>Bv (f.e Z)) λa f=>q_p 16 17 Z f (λ_=>A4 (f.e Z) cC (f.e Z)) λa f=> ?_
           obtain rfl:=sj bW
           exact cB _ (f.k Z)
          ·refine AI 3 17 Z f cC λa f=> ?_
           refine AI 4 17 Z f cC λa f=>AI 5 17 Z f cC λa f=>AI 6 17 Z f cC λa f=>AI 7 17 Z f cC λa f=>AI 8 17 Z f cC λa f=>AI 9 17 Z f cC λa f=>AI 10 17 Z f cC λa f=>AI 11 17 Z f cC λa f=>AI 12 17 Z f cC λa f=>AI 13 17 Z f cC λa f=>AI 14 17 Z f cC λa f=>AI 15 17 Z f cC λa f=>q_p 16 17 Z f (λ_=>A5 (f.e Z) cC (f.e Z)) λa f=> ?_
           obtain rfl:=sj bW
           exact cB _ (f.k Z)
theorem Wk.x {v0:Value}{it0:Itm}{x0:(List (Value×LI))}{x1 x2 x3:Int}(m:Mem W G w (it0::H))(o0:Ow (RTg R0) 26 G it0 v0 x0){y:((List (Value×LI)))}(hd:D.x x0 x1 x2 x3=some y):
  Calls prog 122 #[v0,(iv x1),(iv x2),(iv x3),(.func (.func 83) #[] #[])] w (Res W G H (λG' Ho _=>∃i0:Itm,Ho=[i0]∧Ow (RTg R0) 26 G' i0 v0 y)):=by
 exact Wk.e0 BL m o0 hd
theorem Wk.h0 {v0:Value}{it0:Itm}{x0:(List (Value×LI))}(m:Mem W G w (it0::H))(o0:Ow (RTg R0) 26 G it0 v0 x0){y:((List (Value×LI)))}(hd:D.h0 x0=some y):
  Calls prog 82 #[v0,(.func (.func 83) #[] #[])] w (Res W G H (λG' Ho _=>∃i0:Itm,Ho=[i0]∧Ow (RTg R0) 26 G' i0 v0 y)):=by
 refine Ar (args:=[v0,(.func (.func 83) #[] #[])]) (N:=14) [] func82 Z Z (lb Z) Z λa f=> ?_
 unfold D.h0 at hd
 refine Ae ?_
 refine Ab f Z λa f=>BE 0 m o0 Z underlying22 f Z Z λa f=>Ac f Z λa f=>Aa (Aj ?_)
 refine Ab f Z λa f=>Ab f Z λa f=>Ab f Z λa f=>l_o f (Ez (f.e Z) ⟨_,underlying3⟩ underlying136) λa f=> ?_
 have⟨aa,ab,hd⟩:=bind_some hd
 refine AL f Z call123 (Wk.d0 m ab) λac ad ae w af m ag a f=> ?_
 obtain⟨rfl,rfl⟩:=ag
 have o0:=Ow.mono (RTg.mono (RI.mono _)) af o0
 refine Ab f Z λa f=> ?_
 have⟨ah,ai,hd⟩:=bind_some hd
 refine AL f Z call122 (Wk.x m o0 ai) λaj ak al w am m an a f=> ?_
 obtain⟨ao,rfl,ap⟩:=an
 refine Aa ?_
 obtain rfl:=sj hd
 exact⟨[],trivial,f.d,_,[ao],(gt af am),m,_,Z,ap⟩
theorem Wk.Q0 {v0 v1:Value}{x0 x1:LI}(hW:Cr W)(m:Mem W G w (H))(h0:RSl (RI .u32) G v0 x0)(h1:R1 G v1 x1){y:(LL)×(LL)}(hd:D.Q0 x0 x1=some y):
  Calls prog 49 #[v0,v1] w (Res W G H (λG' Ho v=>∃r0:Value,∃i0:Itm,∃r2:Value,∃i2:Itm,Ho=[i0,i2]∧v=(.agg #[r0,r2])∧Ow2 R0 26 2 G' i0 r0 y.1∧Ow2 R0 26 2 G' i2 r2 y.2)):=by
 refine Ar (args:=[v0,v1]) (N:=104) [.cell 4 41] func49 Z Z (lb Z) Z λa f=> ?_
 unfold D.Q0 at hd
 refine Ae ?_
 refine Bm (cs:=[sn,sn]) zeroValue41 m f Z Z λaa w a m f=>Ay ?_
 refine Ab f Z λa f=>Ab f Z λa f=> ?_
 have⟨ab,ac,hd⟩:=bind_some hd
 refine AL f Z call86 (Wk.g0 hW m h0 h1 ac) λad ae af w ag m ah a f=> ?_
 obtain⟨ai,aj,ak,al,rfl,rfl,am,an⟩:=ah
 have h1:=rd1 ag h1
 refine Ab f Z λa f=>l_o f (A9 (f.e Z) Z) λa f=>l_o f (A9 (f.e Z) Z) λa f=>Ac f Z λa f=>Ac f Z λa f=>Ay ?_
 refine Ab f Z λa f=>AO underlying66 f Z Z h1 λa f=> ?_
 have⟨ao,ap,hd⟩:=bind_some hd
 refine CU (R:=R0) m T66 Z (by decide) Z f Z Z Z ap λaq ar w a m au f=>Ac f Z λa f=>Aa (Ag (Ae ?_))
 refine Ab f Z λa f=>AO underlying66 f Z Z h1 λa f=>Ab f Z λa f=>Aa ?_
 have⟨av,aw,hd⟩:=bind_some hd
 refine AH (λa w=>∃ax:LI,ax=av∧∃(ay:GH) (az:Itm),GLe ae ay∧Fr a 104 [(1,v1),(4,(pb aa)),(6,ak),(7,ar)]∧Mem W ay w (ib aa 41 [sn,sn]::al::az::H)∧Ow R0 3 ay az ar ax) ?_ ?_
 ·refine Ak ?_
  have m:=m.fr 2
  have m:=m.fr 3
  have m:=m.eraseAt 3
  refine AC (λaA a w=>∃aB:LI,∃aC:Int,(aB,aC)=aA∧∃(aD:GH) (aE:Itm),GLe ae aD∧Fr a 104 [(1,v1),(4,(pb aa)),(6,ak),(7,ar),(25,v1),(26,(iv (x1.length:Int))),(27,(iv aC))]∧Mem W aD w (ib aa 41 [sn,sn]::al::aE::H)∧Ow R0 3 aD aE ar aB) aw ⟨_,_,Z,_,aq,gr,f.k Z,m,au⟩ ?_
  clear aw f m
  rintro aA aF aG aH a w ⟨aB,aC,rfl,aD,aE,aI,f,m,aJ⟩
  have h1:=rd1 aI h1
  refine Ae ?_
  refine Ai f Z Z AE λa f=>Aa (Ag ?_)
  rcases Af aG with⟨aK,aG⟩|⟨aK,aG⟩
  ·refine Al f Z aK ?_
   refine Am ?_
   refine Ag (Ak (Ae ?_))
   refine Ab f Z λa f=> ?_
   have⟨aL,aM,aG⟩:=bind_some aG
   refine A2 T66 f Z Z Z h1 aM λaN aO a aP aQ f=> ?_
   subst aQ
   refine Ax m Pl3 f Z Z aP λa f=>Ac f Z λa f=>Ac f Z λa f=>Aa (Aj ?_)
   refine Ab f Z λa f=>Ab f Z λa f=>Ab f Z λa f=> ?_
   have⟨aR,aS,aG⟩:=bind_some aG
   refine AZ 2 m aJ Z T66 f Z Z Z aS λaT a aU f=>AQ 2 m aJ Z sizeOf3 f Z Z aU aS Z Z Z λaV w m aW=>Aa (Aj ?_)
   refine Ai f Z Z Aw λa f=>Ab f Z λa f=>Aa ?_
   obtain rfl:=sj aG
   exact⟨_,Z,_,_,Z,_,aV,aI,f.k Z,m,aW⟩
  ·refine Ah f Z aK ?_
   refine AA Z ?_
   obtain rfl:=sj aG
   obtain rfl:=aH _ rfl
   exact⟨_,Z,_,aE,aI,f.k Z,m,aJ⟩
 ·rintro a w ⟨ax,rfl,ay,az,aX,f,m,aY⟩
  have h1:=rd1 aX h1
  have an:=od1 aX an
  refine Ae ?_
  have aZ:∀w,(Instr.build 41 #[]).run prog w= .ok (.agg #[sn,sn]) w:=by intro w;simp[Instr.build,Instr.fill,Bz,Bn,Bc,Bk,A7,Bx]
  refine BG f Z Z aZ λa f=>Bm (cs:=[sn,sn]) zeroValue41 m f Z Z λa0 w a m f=>Az 0 0 (ds:=[sn,sn]) m sizeOf41 f Z Z Z (An Z (An Z AK)) Z (lb Z) Z λw m=>Aa (Ag (Ae ?_))
  refine Ab f Z λa f=>AO underlying66 f Z Z h1 λa f=>Ab f Z λa f=>Aa ?_
  obtain⟨a1,m,a2⟩:=Ow2.nil R0 26 2 m
  obtain⟨a3,m,a4⟩:=Ow2.nil R0 26 2 m
  have⟨a5,a6,hd⟩:=bind_some hd
  refine AH (λa w=>∃a7:LL,∃a8:LL,(a7,a8)=a5∧∃(a9:GH) (ba:Value) (bb:Itm) (bc:Value) (bd:Itm),GLe ay a9∧Fr a 104 [(4,(pb aa)),(10,(pb a0))]∧Mem W a9 w (ib aa 41 [sn,sn]::ib a0 41 [ba,bc]::bb::bd::H)∧Ow2 R0 26 2 a9 bb ba a7∧Ow2 R0 26 2 a9 bd bc a8) ?_ ?_
  ·refine Ak ?_
   have m:=m.fr 1
   have m:=m.fr 5
   have m:Mem W ay w (al::az::a1::a3::ib a0 41 [sn,sn]::ib aa 41 [sn,sn]::H):=m.fr 5
   have m:=m.fr 4
   have m:Mem W ay w (ib aa 41 [sn,sn]::ib a0 41 [sn,sn]::al::az::a1::a3::H):=m.fr 5
   refine AC (λbe a w=>∃bf:Int,∃bg:LL,∃bh:LL,(bf,bg,bh)=be∧∃(bi:GH) (bj:Value) (bk:Itm) (bl:Value) (bm:Itm),GLe ay bi∧Fr a 104 [(1,v1),(4,(pb aa)),(6,ak),(7,ar),(10,(pb a0)),(38,v1),(39,(iv (x1.length:Int))),(40,(iv bf))]∧Mem W bi w (ib aa 41 [sn,sn]::ib a0 41 [bj,bl]::al::az::bk::bm::H)∧Ow2 R0 26 2 bi bk bj bg∧Ow2 R0 26 2 bi bm bl bh) a6 ⟨_,_,_,Z,_,sn,a1,sn,a3,gr,f.k Z,m,a2,a4⟩ ?_
   clear a6 f m
   rintro be bn bo bp a w ⟨bf,bg,bh,rfl,bi,bj,bk,bl,bm,bq,f,m,br,bs⟩
   have h1:=rd1 bq h1
   have an:=od1 bq an
   have aY:=od1 bq aY
   refine Ae ?_
   refine Ai f Z Z AE λa f=>Aa (Ag ?_)
   rcases Af bo with⟨bt,bo⟩|⟨bt,bo⟩
   ·refine Al f Z bt ?_
    refine Am ?_
    refine Ag (Ak (Ae ?_))
    refine Ab f Z λa f=> ?_
    have⟨bu,bv,bo⟩:=bind_some bo
    refine A2 T66 f Z Z Z h1 bv λbw bx a bz bA f=> ?_
    subst bA
    refine Ax m Pl3 f Z Z bz λa f=>Ac f Z λa f=>Ac f Z λa f=>Aa (Ag ?_)
    refine A3 11 AM (by kernel_rfl) m ?_
    refine BW 0 11 underlying41 Z sizeOf22 Z f Z λa f=>BK 1 11 1 Bb Z Z Z f Z λa f=>Ao 2 11 Z f Z λa f=>Ao 3 11 Z f Z λa f=> ?_
    have⟨bB,bC,bo⟩:=bind_some bo
    refine A8 4 11 2 m an T62 bC Z f Z Z λbD a bE f=>Bo 5 11 2 an C3 bE bC Z f Z λbF a bG f=> ?_
    subst bG
    refine Ao 6 11 Z f Z λa f=> ?_
    have⟨bH,bI,bo⟩:=bind_some bo
    refine BX (i:=7) 11 Z (by kernel_rfl) Z f Z Z Z call87 (λ_ _ w bJ m=>Wk.f m bI) λa f=>q_p 8 11 Z f (λ_=>AV (f.e Z) (f.e Z) b_or) λa f=>Bp 9 Z λbK w bL m bM bM=> ?_
    have h1:=rd1 bL h1
    have an:=od1 bL an
    have aY:=od1 bL aY
    have br:=od2 bL br
    have bs:=od2 bL bs
    have⟨bN,bO,bo⟩:=bind_some bo
    refine AL f Z call88 (Wk.p0 hW m bO) λbP bQ bR w bS m bT a f=> ?_
    obtain⟨bU,bV,rfl,rfl,bW⟩:=bT
    have h1:=rd1 bS h1
    have an:=od1 bS an
    have aY:=od1 bS aY
    have br:=od2 bS br
    have bs:=od2 bS bs
    refine Aa ?_
    refine bM bQ [bV] _ _ bS m ?_
    refine Bp 10 Z λbX w bY m bZ bZ=> ?_
    have h1:=rd1 bY h1
    have bW:=od1 bY bW
    have an:=od1 bY an
    have aY:=od1 bY aY
    have br:=od2 bY br
    have bs:=od2 bY bs
    refine AP (R:=RawS) (xs:=[bU]) RawS.one m T22 f Z Z Z (by decide) (All2.cons ⟨Z,Ow.one1 0 m bW Z,Ow.cells 0 m bW Z⟩ (All2.nil _)) λb0 b1 w a m b2 f=>Aa ?_
    refine bZ bX [b0,bV] _ _ gr m ?_
    refine AU λb3 w b4 m=> ?_
    have h1:=rd1 b4 h1
    have b2:=Ow.mono RawS.mono b4 b2
    have bW:=od1 b4 bW
    have an:=od1 b4 an
    have aY:=od1 b4 aY
    have br:=od2 b4 br
    have bs:=od2 b4 bs
    have m:=m.fr 1
    have m:Mem W b3 w (bk::bV::b0::ib aa 41 [sn,sn]::ib a0 41 [bj,bl]::al::az::bm::H):=m.fr 6
    have⟨b5,b6,bo⟩:=bind_some bo
    refine En m br bW b2 T22 Z (by decide) f Z Z Z b6 λb7 b8 w a m b9 f=>Bu underlying41 Z sizeOf22 f Z λa f=>Az 2 0 (ds:=[b8]) m sizeOf22 f Z Z (Ow2.cells 0 m b9 Z) (An (Ow2.one1 0 m b9 Z) AK) Z (lb Z) Z λw m=>Aa (Ag (Ae ?_))
    refine Ab f Z λa f=>Ab f Z λa f=>AO underlying66 f Z Z h1 λa f=>Ai f Z Z Bh λa f=>Ai f Z Z BS λa f=>Aa ?_
    rcases Af bo with⟨ca,bo⟩|⟨ca,bo⟩
    ·refine Al f Z ca ?_
     refine AA Z ?_
     have m:=m.fr 5
     have m:=m.fr 1
     have m:Mem W b3 w (ib a0 41 [b8,bl]::b7::bm::ib aa 41 [sn,sn]::al::az::H):=m.fr 3
     have m:=m.fr 3
     have m:=m.eraseAt 5
     have m:Mem W b3 w (ib aa 41 [sn,sn]::ib a0 41 [b8,bl]::b7::bm::H):=m.eraseAt 4
     obtain rfl:=sj bo
     obtain rfl:=bp _ rfl
     exact⟨_,_,Z,_,b8,b7,bl,bm,(gt bq (gt bL (gt bS (gt bY b4)))),f.k Z,m,b9,bs⟩
    ·refine Ah f Z ca ?_
     refine Am ?_
     refine Ae ?_
     refine Ab f Z λa f=>Ai f Z Z Aw λa f=>Ac f Z λa f=>Aa (Ag (Ae ?_))
     refine Ab f Z λa f=>Ab f Z λa f=> ?_
     have⟨cb,cc,bo⟩:=bind_some bo
     refine AZ 3 m an Z T62 f Z Z Z cc λcd a ce f=>BA 3 m an Z C3 f Z Z ce cc λcf a cg f=> ?_
     subst cg
     have⟨ch,ci,bo⟩:=bind_some bo
     refine AL f Z call89 (Wk.i hW m ci) λcj ck cl w cm m cn a f=> ?_
     obtain⟨co,cp,rfl,rfl,cq⟩:=cn
     have b9:=od2 cm b9
     have aY:=od1 cm aY
     have bs:=od2 cm bs
     refine BE 0 m cq Z underlying66 f Z Z λa f=>Ab f Z λa f=>Aa ?_
     have⟨cr,ct,bo⟩:=bind_some bo
     refine AH (λa w=>∃cu:Int,cu=cr∧∃(cv:GH),GLe ck cv∧Fr a 104 [(1,v1),(4,(pb aa)),(6,ak),(7,ar),(10,(pb a0)),(11,(iv bf)),(13,(iv cu)),(38,v1),(39,(iv (x1.length:Int))),(40,(iv bf))]∧Mem W cv w (ib aa 41 [sn,sn]::ib a0 41 [b8,bl]::al::az::b7::bm::H)) ?_ ?_
     ·refine Ak ?_
      have m:=m.fr 5
      have m:=m.fr 5
      have m:Mem W ck w (ib a0 41 [b8,bl]::al::az::cp::b7::ib aa 41 [sn,sn]::bm::H):=m.fr 5
      have m:Mem W ck w (ib aa 41 [sn,sn]::ib a0 41 [b8,bl]::al::az::cp::b7::bm::H):=m.fr 5
      refine AC (λcw a w=>∃cx:Int,∃cy:Int,(cx,cy)=cw∧∃(cz:GH),GLe ck cz∧Fr a 104 [(1,v1),(4,(pb aa)),(6,ak),(7,ar),(10,(pb a0)),(11,(iv bf)),(13,(iv cx)),(38,v1),(39,(iv (x1.length:Int))),(40,(iv bf)),(69,co),(70,(iv (ch.length:Int))),(71,(iv cy))]∧Mem W cz w (ib aa 41 [sn,sn]::ib a0 41 [b8,bl]::al::az::cp::b7::bm::H)) ct ⟨_,_,Z,_,gr,f.k Z,m⟩ ?_
      clear ct f m
      rintro cw cA cB cC a w ⟨cx,cy,rfl,cz,cD,f,m⟩
      have aY:=od1 cD aY
      have cq:=od1 cD cq
      refine Ae ?_
      refine Ai f Z Z AE λa f=>Aa (Ag ?_)
      rcases Af cB with⟨cE,cB⟩|⟨cE,cB⟩
      ·refine Al f Z cE ?_
       refine Am ?_
       refine Ag (Ak (Ae ?_))
       refine Ab f Z λa f=> ?_
       have⟨cF,cG,cB⟩:=bind_some cB
       refine AZ 4 m cq Z T66 f Z Z Z cG λcH a cI f=>BA 4 m cq Z Pl3 f Z Z cI cG λcJ a cK f=> ?_
       subst cK
       refine Ac f Z λa f=>Ac f Z λa f=>Ay ?_
       refine Ab f Z λa f=>Ai f Z Z BS λa f=>Ab f Z λa f=> ?_
       have⟨cL,cM,cB⟩:=bind_some cB
       refine BH 7 (λa w=>∃cN,GLe cz cN∧Mem W cN w (ib aa 41 [sn,sn]::ib a0 41 [b8,bl]::al::az::cp::b7::bm::H)∧Fr a 104 [(1,v1),(4,(pb aa)),(6,ak),(7,ar),(10,(pb a0)),(11,(iv bf)),(13,(iv cx)),(14,(iv cy)),(15,(iv cF)),(38,v1),(39,(iv (x1.length:Int))),(40,(iv bf)),(69,co),(70,(iv (ch.length:Int))),(71,(iv cy)),(76,(iv cy)),(77,(.bool (cy==0))),(78,(.bool (cy==0))),(85,(.bool cL))]) ?_ ?_
       ·rcases Af cM with⟨cO,cM⟩|⟨cO,cM⟩
        ·refine AG f cO λa f=> ?_
         refine AG f cO λa f=>AG f cO λa f=>AG f cO λa f=>AG f cO λa f=>AG f cO λa f=>l_o f (A4 (f.e Z) cO (f.e Z)) λa f=> ?_
         obtain rfl:=sj cM
         exact⟨_,gr,m,f.k Z⟩
        ·refine AF f cO ?_
         refine Ab f Z λa f=>AF f cO ?_
         refine Ab f Z λa f=>AF f cO ?_
         have⟨cP,cQ,cM⟩:=bind_some cM
         refine AZ 3 m aY Z T66 f Z Z Z cQ λcR a cS f=>AF f cO ?_
         refine BA 3 m aY Z Pl3 f Z Z cS cQ λcT a cU f=> ?_
         subst cU
         refine AF f cO ?_
         refine Ab f Z λa f=>AF f cO ?_
         refine Ai f Z Z AE λa f=>l_o f (A5 (f.e Z) cO (f.e Z)) λa f=> ?_
         obtain rfl:=sj cM
         exact⟨_,gr,m,f.k Z⟩
       ·rintro a w ⟨cN,cV,m,f⟩
        have aY:=od1 cV aY
        refine Aa ?_
        rcases Af cB with⟨cW,cB⟩|⟨cW,cB⟩
        ·refine Al f Z cW ?_
         refine Aj ?_
         refine Ab f Z λa f=>Ab f Z λa f=> ?_
         have⟨cX,cY,cB⟩:=bind_some cB
         refine AZ 3 m aY Z T66 f Z Z Z cY λcZ a c0 f=>BA 3 m aY Z Pl3 f Z Z c0 cY λc1 a c2 f=> ?_
         subst c2
         refine Ac f Z λa f=>Aa (Aj ?_)
         refine Ai f Z Z Aw λa f=>Ab f Z λa f=>Aa ?_
         obtain rfl:=sj cB
         exact⟨_,Z,_,_,Z,_,(gt cD cV),f.k Z,m⟩
        ·refine Ah f Z cW ?_
         refine Am ?_
         refine Aj ?_
         refine Ai f Z Z Aw λa f=>Ab f Z λa f=>Aa ?_
         obtain rfl:=sj cB
         exact⟨_,Z,_,_,Z,_,(gt cD cV),f.k Z,m⟩
      ·refine Ah f Z cE ?_
       refine AA Z ?_
       have m:=m.fr 6
       have m:=m.fr 6
       have m:Mem W cz w (az::b7::bm::ib aa 41 [sn,sn]::ib a0 41 [b8,bl]::al::cp::H):=m.fr 5
       have m:=m.fr 5
       have m:=m.fr 5
       have m:Mem W cz w (ib aa 41 [sn,sn]::ib a0 41 [b8,bl]::al::az::b7::bm::cp::H):=m.fr 5
       have m:Mem W cz w (ib aa 41 [sn,sn]::ib a0 41 [b8,bl]::al::az::b7::bm::H):=m.eraseAt 6
       obtain rfl:=sj cB
       obtain rfl:=cC _ rfl
       exact⟨_,Z,_,cD,f.k Z,m⟩
     ·rintro a w ⟨cu,rfl,cv,c3,f,m⟩
      have b9:=od2 c3 b9
      have bs:=od2 c3 bs
      refine A3 6 AM (by kernel_rfl) m ?_
      refine BW 0 6 underlying41 Z sizeOf22 Z f Z λa f=>BK 1 6 1 Bb Z Z Z f Z λa f=>Ao 2 6 Z f Z λa f=>Ao 3 6 Z f Z λa f=>Bp 4 Z λc4 w c5 m c6 c6=> ?_
      have b9:=od2 c5 b9
      have bs:=od2 c5 bs
      have⟨c7,c8,bo⟩:=bind_some bo
      refine AL f Z call90 (Wk.H0 m c8) λc9 da db w dc m dd a f=> ?_
      obtain⟨de,df,rfl,rfl,dg⟩:=dd
      have b9:=od2 dc b9
      have bs:=od2 dc bs
      refine Aa ?_
      refine c6 da [df] _ _ dc m ?_
      refine Bp 5 Z λdh w di m dj dj=> ?_
      have dg:=od1 di dg
      have b9:=od2 di b9
      have bs:=od2 di bs
      refine AP (R:=RawS) (xs:=[de]) RawS.one m T22 f Z Z Z (by decide) (All2.cons ⟨Z,Ow.one1 0 m dg Z,Ow.cells 0 m dg Z⟩ (All2.nil _)) λdk dl w a m dm f=>Aa ?_
      refine dj dh [dk,df] _ _ gr m ?_
      refine AU λdn w dp m=> ?_
      have dm:=Ow.mono RawS.mono dp dm
      have dg:=od1 dp dg
      have b9:=od2 dp b9
      have bs:=od2 dp bs
      have m:=m.fr 1
      have m:Mem W dn w (bm::df::dk::ib aa 41 [sn,sn]::ib a0 41 [b8,bl]::al::az::b7::H):=m.fr 7
      have⟨dq,dr,bo⟩:=bind_some bo
      refine En m bs dg dm T22 Z (by decide) f Z Z Z dr λdt du w a m dv f=>Bu underlying41 Z sizeOf22 f Z λa f=>Az 2 1 (ds:=[du]) m sizeOf22 f Z Z (Ow2.cells 0 m dv Z) (An (Ow2.one1 0 m dv Z) AK) Z (lb Z) Z λw m=>Aa (Aj ?_)
      refine Ai f Z Z Aw λa f=>Ab f Z λa f=>Aa ?_
      have m:=m.fr 5
      have m:=m.fr 5
      have m:Mem W dn w (al::az::b7::dt::ib aa 41 [sn,sn]::ib a0 41 [b8,du]::H):=m.fr 5
      have m:=m.fr 5
      have m:Mem W dn w (ib aa 41 [sn,sn]::ib a0 41 [b8,du]::al::az::b7::dt::H):=m.fr 5
      obtain rfl:=sj bo
      exact⟨_,Z,_,_,_,Z,_,b8,b7,du,dt,(gt bq (gt bL (gt bS (gt bY (gt b4 (gt cm (gt c3 (gt c5 (gt dc (gt di dp)))))))))),f.k Z,m,b9,dv⟩
   ·refine Ah f Z bt ?_
    refine AA Z ?_
    have m:=m.fr 5
    have m:=m.fr 5
    have m:Mem W bi w (ib a0 41 [bj,bl]::bk::bm::ib aa 41 [sn,sn]::al::az::H):=m.fr 3
    have m:=m.fr 3
    have m:=m.eraseAt 5
    have m:Mem W bi w (ib aa 41 [sn,sn]::ib a0 41 [bj,bl]::bk::bm::H):=m.eraseAt 4
    obtain rfl:=sj bo
    obtain rfl:=bp _ rfl
    exact⟨_,_,Z,_,bj,bk,bl,bm,bq,f.k Z,m,br,bs⟩
  ·rintro a w ⟨a7,a8,rfl,a9,ba,bb,bc,bd,dw,f,m,dx,dy⟩
   refine Ae ?_
   refine Bu underlying41 Z sizeOf22 f Z λa f=>AJ 1 1 m Bb f Z Z Z Z λa f=> ?_
   have m:Mem W a9 w (bd::ib aa 41 [sn,sn]::ib a0 41 [ba,bc]::bb::H):=m.fr 3
   have⟨dz,dA,hd⟩:=bind_some hd
   refine AL f Z call82 (Ow2.sortCall (RI.free _) dy m (λZ hZ=>(BB dA hZ).imp (λzs h=>⟨h.2.1,h.2.2,λ_ _ m o=>Wk.h0 m o h.1⟩))) λdB dC dD w dE m dF a f=> ?_
   obtain⟨dG,rfl,dH⟩:=dF
   have dx:=od2 dE dx
   refine Ay ?_
   refine AB 2 0 (ds:=[ba,bc]) m Ck f Z Z Z Z Z λa f=>Az 1 0 (ds:=[ba,bc]) m sizeOf41 f Z Z Z (An (Ow2.one1 3 m dx Z) (An (Ow2.one1 0 m dH Z) AK)) Z (lb Z) Z λw m=>Aa ?_
   refine Aq ?_
   have dI:=BY (P:=prog) 1 m Ck f (s:=4) rfl rfl rfl
   have m:=m.fr 3
   have m:=m.eraseAt 3
   have m:=m.eraseAt 2
   obtain rfl:=sj hd
   exact⟨[(.agg #[ba,bc])],⟨dI,trivial⟩,f.d,_,[bb,dG],(gt ag (gt aX (gt dw dE))),m,_,_,_,_,Z,Z,dx,dH⟩
theorem Wk.s1 {v0:Value}{x0:LL}(m:Mem W G w (H))(h0:R2 G v0 x0){y:(LI)}(hd:D.s1 x0=some y):
  Calls prog 80 #[v0] w (Res W G H (λG' Ho v=>∃r0:Value,∃i0:Itm,Ho=[i0]∧r0=v∧Ow (RI .u32) 74 G' i0 r0 y)):=by
 refine Ar (args:=[v0]) (N:=20) [.tmp 2] func80 Z Z (lb Z) Z λa f=> ?_
 unfold D.s1 at hd
 refine Ae ?_
 refine Ac f Z λa f=>Ay ?_
 refine AP (R:=(RI .u32)) (xs:=([]:LI)) (RI.one _) m T61 f Z Z Z (by decide) (All2.nil _) λaa ab w a m ac f=>Ac f Z λa f=>Aa (Ag (Ae ?_))
 refine Ab f Z λa f=>AO underlying22 f Z Z h0 λa f=>Ab f Z λa f=>Aa ?_
 have⟨ad,ae,hd⟩:=bind_some hd
 refine AH (λa w=>∃af:LI,af=ad∧∃(ag:GH) (ah:Value) (ai:Itm),GLe G ag∧Fr a 20 [(3,ah)]∧Mem W ag w (ai::H)∧Ow (RI .u32) 74 ag ai ah af) ?_ ?_
 ·refine Ak ?_
  refine AC (λaj a w=>∃ak:LI,∃al:Int,(ak,al)=aj∧∃(am:GH) (an:Value) (ao:Itm),GLe G am∧Fr a 20 [(3,an),(7,v0),(8,(iv (x0.length:Int))),(9,(iv al))]∧Mem W am w (ao::H)∧Ow (RI .u32) 74 am ao an ak) ae ⟨_,_,Z,_,ab,aa,gr,f.k Z,m,ac⟩ ?_
  clear ae f m
  rintro aj ap aq ar a w ⟨ak,al,rfl,am,an,ao,au,f,m,av⟩
  have h0:=rd2 au h0
  refine Ae ?_
  refine Ai f Z Z AE λa f=>Aa (Ag ?_)
  rcases Af aq with⟨aw,aq⟩|⟨aw,aq⟩
  ·refine Al f Z aw ?_
   refine Am ?_
   refine Ag (Ak (Ae ?_))
   have⟨ax,ay,aq⟩:=bind_some aq
   refine A2 T22 f Z Z Z h0 ay λaz aA a aB aC f=>Ax m AT f Z Z aB λa f=>Ac f Z λa f=>Aa (Aj ?_)
   refine Ab f Z λa f=>Ab f Z λa f=> ?_
   have⟨aD,aE,aq⟩:=bind_some aq
   refine A6 f Z call79 (Wk.z0 m aC aE) λaF w aG m a f=> ?_
   have av:=od1 aG av
   refine AP (R:=(RI .u32)) (xs:=([aD]:LI)) (RI.one _) m T61 f Z Z Z (by decide) (All2.cons Z (All2.nil _)) λaH aI w a m aJ f=> ?_
   have⟨aK,aL,aq⟩:=bind_some aq
   refine AW (RI.one _) 1 m av Z T61 Z (by decide) f Z Z Z (Ow.src (j:=0) aJ m Z) aL λaM aN w a m aO f=>Ac f Z λa f=>Aa (Aj ?_)
   refine Ai f Z Z Aw λa f=>Ab f Z λa f=>Aa ?_
   have m:=m.fr 1
   have m:=m.eraseAt 1
   obtain rfl:=sj aq
   exact⟨_,Z,_,_,Z,_,aN,aM,(gt au aG),f.k Z,m,aO⟩
  ·refine Ah f Z aw ?_
   refine AA Z ?_
   obtain rfl:=sj aq
   obtain rfl:=ar _ rfl
   exact⟨_,Z,_,an,ao,au,f.k Z,m,av⟩
 ·rintro a w ⟨af,rfl,ag,ah,ai,aP,f,m,aQ⟩
  refine Ae ?_
  refine Ab f Z λa f=>Ac f Z λa f=>Aa ?_
  refine Aq ?_
  obtain rfl:=sj hd
  exact⟨[ah],f.g Z,f.d,_,[ai],aP,m,_,_,Z,Z,aQ⟩
theorem Wk.K0 {b1 b2:Nat}{x0 aa ab:Int}(m:Mem W G w (ib b1 3 [(iv aa)]::ib b2 3 [(iv ab)]::H)){y:Int}(hd:D.K0 x0 aa ab=some y):
  Calls prog 125 #[(iv x0),(pb b1),(pb b2)] w (Res W G H (λ_ Ho v=>Ho=[ib b1 3 [(iv aa)],ib b2 3 [(iv ab)]]∧v=(iv y))):=by
 refine Ar (args:=[(iv x0),(pb b1),(pb b2)]) (N:=15) [.tmp 4] func125 Z Z (lb Z) Z λa f=> ?_
 unfold D.K0 at hd
 refine Ae ?_
 refine Ac f Z λa f=>Aa (Ag (Ae ?_))
 refine Ab f Z λa f=>AJ 0 0 m Pl3 f Z Z Z Z λa f=>Ai f Z Z BS λa f=>Aa ?_
 rcases Af hd with⟨ac,hd⟩|⟨ac,hd⟩
 ·refine Al f Z ac ?_
  refine Aj ?_
  refine AJ 1 0 m Pl3 f Z Z Z Z λa f=>Ac f Z λa f=>Aa (Ag (Ae ?_))
  refine Ab f Z λa f=>AJ 0 0 m Pl3 f Z Z Z Z λa f=>Ai f Z Z Cf λa f=>Aa ?_
  rcases Af hd with⟨ad,hd⟩|⟨ad,hd⟩
  ·refine Al f Z ad ?_
   refine Aj ?_
   refine Ab f Z λa f=>Ai f Z Z Bh λa f=>Ac f Z λa f=>Ay ?_
   refine Ab f Z λa f=>Ac f Z λa f=>Aa ?_
   refine Aq ?_
   obtain rfl:=sj hd
   exact⟨[(iv (i64.wrap (ab-1)))],f.g Z,f.d,_,[ib b1 3 [(iv aa)],ib b2 3 [(iv ab)]],gr,m,Z,Z⟩
  ·refine Ah f Z ad ?_
   refine Am ?_
   refine Ae ?_
   refine Ab f Z λa f=>Ac f Z λa f=>Aa ?_
   refine Aq ?_
   obtain rfl:=sj hd
   exact⟨[(iv ab)],f.g Z,f.d,_,[ib b1 3 [(iv aa)],ib b2 3 [(iv ab)]],gr,m,Z,Z⟩
 ·refine Ah f Z ac ?_
  refine Am ?_
  refine Ag (Ae ?_)
  refine Ab f Z λa f=>AJ 0 0 m Pl3 f Z Z Z Z λa f=>Ai f Z Z Cf λa f=>Aa ?_
  rcases Af hd with⟨ae,hd⟩|⟨ae,hd⟩
  ·refine Al f Z ae ?_
   refine Aj ?_
   refine Ab f Z λa f=>Ai f Z Z Bh λa f=>Ac f Z λa f=>Ay ?_
   refine Ab f Z λa f=>Ac f Z λa f=>Aa ?_
   refine Aq ?_
   obtain rfl:=sj hd
   exact⟨[(iv (i64.wrap (x0-1)))],f.g Z,f.d,_,[ib b1 3 [(iv aa)],ib b2 3 [(iv ab)]],gr,m,Z,Z⟩
  ·refine Ah f Z ae ?_
   refine Am ?_
   refine Ae ?_
   refine Ab f Z λa f=>Ac f Z λa f=>Aa ?_
   refine Aq ?_
   obtain rfl:=sj hd
   exact⟨[(iv x0)],f.g Z,f.d,_,[ib b1 3 [(iv aa)],ib b2 3 [(iv ab)]],gr,m,Z,Z⟩
theorem Wk.h {v0 v1:Value}{x0:LI}{x1:LL}{x2 x3:Int}(m:Mem W G w (H))(h0:RSl (RI .u32) G v0 x0)(h1:R2 G v1 x1){y:(LI)×(LL)}(hd:D.h x0 x1 x2 x3=some y):
  Calls prog 84 #[v0,v1,(iv x2),(iv x3)] w (Res W G H (λG' Ho v=>∃r0:Value,∃i0:Itm,∃r2:Value,∃i2:Itm,Ho=[i0,i2]∧v= .tuple #[r0,r2]∧Ow (RI .u32) 74 G' i0 r0 y.1∧Ow R1 26 G' i2 r2 y.2)):=by
 refine Ar (args:=[v0,v1,(iv x2),(iv x3)]) (N:=53) [.tmp 8,.tmp 9] func84 Z Z (lb Z) Z λa f=> ?_
 unfold D.h at hd
 refine Ae ?_
 refine Bi (cs:=[(iv x2)]) m f Z Z Z λaa w a m f=>Bi (cs:=[(iv x3)]) m f Z Z Z λab w a m f=>Ac f Z λa f=>Ac f Z λa f=>Ay ?_
 refine EJ f Z Z Z λa f=>Ac f Z λa f=>Ay ?_
 refine AP (R:=R1) (xs:=([]:LL)) (RSl.one _) m T22 f Z Z Z (by decide) (All2.nil _) λac ad w a m ae f=>Ac f Z λa f=>Aa (Ag (Ae ?_))
 refine Ab f Z λa f=>AO underlying22 f Z Z h1 λa f=>Ab f Z λa f=>Aa ?_
 have⟨af,ag,hd⟩:=bind_some hd
 refine AH (λa w=>∃ah:LL,ah=af∧∃(ai:GH) (aj:Value) (ak:Itm),GLe G ai∧Fr a 53 [(0,v0),(6,(pb aa)),(11,aj)]∧Mem W ai w (ib aa 3 [(iv x2)]::ak::H)∧Ow R1 26 ai ak aj ah) ?_ ?_
 ·refine Ak ?_
  have m:=m.fr 1
  have m:=m.fr 2
  refine AC (λal a w=>∃am:LL,∃an:Int,(am,an)=al∧∃(ao:GH) (ap:Value) (aq:Itm),GLe G ao∧Fr a 53 [(0,v0),(6,(pb aa)),(10,(.func (.func 125) #[] #[(pb aa),(pb ab)])),(11,ap),(18,v1),(19,(iv (x1.length:Int))),(20,(iv an))]∧Mem W ao w (ib aa 3 [(iv x2)]::ib ab 3 [(iv x3)]::aq::H)∧Ow R1 26 ao aq ap am) ag ⟨_,_,Z,_,ad,ac,gr,f.k Z,m,ae⟩ ?_
  clear ag f m
  rintro al ar au av a w ⟨am,an,rfl,ao,ap,aq,aw,f,m,ax⟩
  have h1:=rd2 aw h1
  refine Ae ?_
  refine Ai f Z Z AE λa f=>Aa (Ag ?_)
  rcases Af au with⟨ay,au⟩|⟨ay,au⟩
  ·refine Al f Z ay ?_
   refine Am ?_
   refine Ag (Ak (Ae ?_))
   have⟨az,aA,au⟩:=bind_some au
   refine A2 T22 f Z Z Z h1 aA λaB aC a aD aE f=>Ax m AT f Z Z aD λa f=>Ac f Z λa f=>Aa (Ag ?_)
   refine A3 12 AM (by kernel_rfl) m ?_
   refine Ao 0 12 Z f Z λa f=>Ao 1 12 Z f Z λa f=> ?_
   have⟨aF,aG,au⟩:=bind_some au
   refine BJ 2 12 T26 aE aG Z f Z Z λaH aI a aJ aK f=> ?_
   subst aK
   refine BI 3 12 Pl2 aJ Z f Z λa f=>Ao 5 12 Z f Z λa f=>Ao 6 12 Z f Z λa f=> ?_
   have⟨aL,aM,au⟩:=bind_some au
   refine BJ 7 12 T26 aE aM Z f Z Z λaN aO a aP aQ f=> ?_
   subst aQ
   refine BI 8 12 Pl2 aP Z f Z λa f=>Bp 4 Z λaR w aS m aT aT=> ?_
   have ax:=Ow.mono (RSl.mono (RI.mono _)) aS ax
   have⟨aU,aV,au⟩:=bind_some au
   refine Ex f Z Z Z call125 (Wk.K0 m aV) λaW aX aY w aZ m a0 a f=> ?_
   obtain⟨rfl,rfl⟩:=a0
   have ax:=Ow.mono (RSl.mono (RI.mono _)) aZ ax
   refine Aa ?_
   refine aT aX [] _ _ aZ m ?_
   refine Bp 9 Z λa1 w a2 m a3 a3=> ?_
   have ax:=Ow.mono (RSl.mono (RI.mono _)) a2 ax
   have⟨a4,a5,au⟩:=bind_some au
   refine Ex f Z Z Z call125 (Wk.K0 m a5) λa6 a7 a8 w a9 m ba a f=> ?_
   obtain⟨rfl,rfl⟩:=ba
   have ax:=Ow.mono (RSl.mono (RI.mono _)) a9 ax
   refine Aa ?_
   refine a3 a7 [] _ _ a9 m ?_
   refine q_p 10 12 Z f (λ_=>Br (f.e Z)) λa f=>q_p 11 12 Z f (λ_=>Br (f.e Z)) λa f=>AU λbb w bc m=> ?_
   have ax:=Ow.mono (RSl.mono (RI.mono _)) bc ax
   refine Ay ?_
   refine Ab f Z λa f=>Ab f Z λa f=>Ai f Z Z B8 λa f=>Aa ?_
   rcases Af au with⟨bd,au⟩|⟨bd,au⟩
   ·refine Al f Z bd ?_
    refine Aj ?_
    refine Ab f Z λa f=>Ab f Z λa f=>Ab f Z λa f=> ?_
    have⟨be,bf,au⟩:=bind_some au
    refine AL f Z call90 (Wk.H0 m bf) λbg bh bi w bj m bk a f=> ?_
    obtain⟨bl,bm,rfl,rfl,bn⟩:=bk
    have ax:=Ow.mono (RSl.mono (RI.mono _)) bj ax
    obtain⟨bo,bp,m,bq⟩:=Ow.stamp (RI.mono _) bn m
    have ax:=Ow.mono (RSl.mono (RI.mono _)) bp ax
    refine AP (R:=R1) (xs:=([be]:LL)) (RSl.one _) m T22 f Z Z Z (by decide) (All2.cons bq (All2.nil _)) λbr bs w a m bt f=> ?_
    have⟨bu,bv,au⟩:=bind_some au
    refine AW (RSl.one _) 3 m ax Z T22 Z (by decide) f Z Z Z (Ow.src (j:=0) bt m Z) bv λbw bx w a m bz f=>Ac f Z λa f=>Aa (Aj ?_)
    refine Ai f Z Z Aw λa f=>Ab f Z λa f=>Aa ?_
    have m:=m.fr 3
    have m:=m.fr 3
    have m:Mem W bo w (ib aa 3 [(iv x2)]::ib ab 3 [(iv x3)]::bw::br::H):=m.fr 3
    have m:=m.eraseAt 3
    obtain rfl:=sj au
    exact⟨_,Z,_,_,Z,_,bx,bw,(gt aw (gt aS (gt aZ (gt a2 (gt a9 (gt bc (gt bj bp))))))),f.k Z,m,bz⟩
   ·refine Ah f Z bd ?_
    refine Am ?_
    refine Aj ?_
    refine Ai f Z Z Aw λa f=>Ab f Z λa f=>Aa ?_
    obtain rfl:=sj au
    exact⟨_,Z,_,_,Z,_,ap,aq,(gt aw (gt aS (gt aZ (gt a2 (gt a9 bc))))),f.k Z,m,ax⟩
  ·refine Ah f Z ay ?_
   refine AA Z ?_
   have m:=m.fr 2
   have m:=m.fr 1
   have m:=m.eraseAt 2
   obtain rfl:=sj au
   obtain rfl:=av _ rfl
   exact⟨_,Z,_,ap,aq,aw,f.k Z,m,ax⟩
 ·rintro a w ⟨ah,rfl,ai,aj,ak,bA,f,m,bB⟩
  have h0:=rd1 bA h0
  refine Ae ?_
  refine Ab f Z λa f=> ?_
  have m:=m.fr 1
  have⟨bC,bD,hd⟩:=bind_some hd
  refine AL f Z call82 (Ow.sortCall bB m (λZ hZ=>(BB bD hZ).imp (λzs h=>⟨h.2.1,h.2.2,λ_ _ m o=>Wk.h0 m o h.1⟩))) λbE bF bG w bH m bI a f=> ?_
  obtain⟨bJ,rfl,bK⟩:=bI
  have h0:=rd1 bH h0
  refine Aa (Ag ?_)
  refine A3 8 AM (by kernel_rfl) m ?_
  refine Ao 0 8 Z f Z λa f=>BK 2 8 1 Pl3 Z Z Z f Z λa f=>BK 3 8 1 Pl3 Z Z Z f Z λa f=>q_p 4 8 Z f (λ_=>AV (f.e Z) (f.e Z) Aw) λa f=>Ao 6 8 Z f Z λa f=>Bp 1 Z λbL w bM m bN bN=> ?_
  have h0:=rd1 bM h0
  have bK:=Ow.mono (RSl.mono (RI.mono _)) bM bK
  have⟨bO,bP,hd⟩:=bind_some hd
  refine AL f Z call101 (Wk.L m h0 bP) λbQ bR bS w bT m bU a f=> ?_
  obtain⟨bV,bW,rfl,rfl,bX⟩:=bU
  have bK:=Ow.mono (RSl.mono (RI.mono _)) bT bK
  refine Aa ?_
  refine bN bR [bW] _ _ bT m ?_
  refine Bp 5 Z λbY w bZ m b0 b0=> ?_
  have bX:=od1 bZ bX
  have bK:=Ow.mono (RSl.mono (RI.mono _)) bZ bK
  have⟨b1,b2,hd⟩:=bind_some hd
  refine AL f Z call126 (Wk.U1 m bX b2) λb3 b4 b5 w b6 m b7 a f=> ?_
  obtain⟨b8,b9,rfl,rfl,ca⟩:=b7
  have bK:=Ow.mono (RSl.mono (RI.mono _)) b6 bK
  refine Aa ?_
  refine b0 b4 [b9] _ _ b6 m ?_
  refine q_p 7 8 Z f (λ_=>Br (f.e Z)) λa f=>AU λcb w cc m=> ?_
  have ca:=od1 cc ca
  have bK:=Ow.mono (RSl.mono (RI.mono _)) cc bK
  refine Ac f Z λa f=>Aa ?_
  refine Aq ?_
  have m:=m.eraseAt 2
  obtain rfl:=sj hd
  exact⟨[b8,aj],⟨f.get _ _ Z,f.get _ _ Z,trivial⟩,f.d,_,[b9,bJ],(gt bA (gt bH (gt bM (gt bT (gt bZ (gt b6 cc)))))),m,_,_,_,_,Z,Z,ca,bK⟩
theorem Wk.m0 {v0:Value}{x0:LI}(hW:Cr W)(m:Mem W G w (H))(h0:RSl (RI .u32) G v0 x0){y:(LL)}(hd:D.m0 x0=some y):
  Calls prog 60 #[v0] w (Res W G H (λG' Ho v=>∃r0:Value,∃i0:Itm,Ho=[i0]∧r0=v∧Ow2 R0 26 2 G' i0 r0 y)):=by
 refine Ar (args:=[v0]) (N:=20) [.tmp 2] func60 Z Z (lb Z) Z λa f=> ?_
 unfold D.m0 at hd
 refine Ae ?_
 refine Ac f Z λa f=>Ay ?_
 refine AP (R:=RawS) (xs:=[]) RawS.one m T22 f Z Z Z (by decide) (All2.nil _) λaa ab w a m ac f=> ?_
 obtain⟨ad,m,ae⟩:=Ow2.of_empty R0 2 m ac
 refine Ac f Z λa f=>Aa (Ag (Ae ?_))
 refine Ab f Z λa f=>AO underlying61 f Z Z h0 λa f=>Ab f Z λa f=>Aa ?_
 have⟨af,ag,hd⟩:=bind_some hd
 refine AH (λa w=>∃ah:LL,ah=af∧∃(ai:GH) (aj:Value) (ak:Itm),GLe G ai∧Fr a 20 [(3,aj)]∧Mem W ai w (ak::H)∧Ow2 R0 26 2 ai ak aj ah) ?_ ?_
 ·refine Ak ?_
  refine AC (λal a w=>∃am:LL,∃an:Int,(am,an)=al∧∃(ao:GH) (ap:Value) (aq:Itm),GLe G ao∧Fr a 20 [(3,ap),(7,v0),(8,(iv (x0.length:Int))),(9,(iv an))]∧Mem W ao w (aq::H)∧Ow2 R0 26 2 ao aq ap am) ag ⟨_,_,Z,_,ab,ad,gr,f.k Z,m,ae⟩ ?_
  clear ag f m
  rintro al ar au av a w ⟨am,an,rfl,ao,ap,aq,aw,f,m,ax⟩
  have h0:=rd1 aw h0
  refine Ae ?_
  refine Ai f Z Z AE λa f=>Aa (Ag ?_)
  rcases Af au with⟨ay,au⟩|⟨ay,au⟩
  ·refine Al f Z ay ?_
   refine Am ?_
   refine Ag (Ak (Ae ?_))
   have⟨az,aA,au⟩:=bind_some au
   refine A2 T61 f Z Z Z h0 aA λaB aC a aD aE f=> ?_
   subst aE
   refine Ax m C3 f Z Z aD λa f=>Ac f Z λa f=>Aa (Aj ?_)
   refine Ab f Z λa f=>Ab f Z λa f=> ?_
   have⟨aF,aG,au⟩:=bind_some au
   refine AL f Z call88 (Wk.p0 hW m aG) λaH aI aJ w aK m aL a f=> ?_
   obtain⟨aM,aN,rfl,rfl,aO⟩:=aL
   have ax:=od2 aK ax
   refine AP (R:=RawS) (xs:=[aM]) RawS.one m T22 f Z Z Z (by decide) (All2.cons ⟨Z,Ow.one1 0 m aO Z,Ow.cells 0 m aO Z⟩ (All2.nil _)) λaP aQ w a m aR f=> ?_
   have m:=m.fr 1
   have m:=m.fr 2
   have⟨aS,aT,au⟩:=bind_some au
   refine En m ax aO aR T22 Z (by decide) f Z Z Z aT λaU aV w a m aW f=>Ac f Z λa f=>Aa (Aj ?_)
   refine Ai f Z Z Aw λa f=>Ab f Z λa f=>Aa ?_
   obtain rfl:=sj au
   exact⟨_,Z,_,_,Z,_,aV,aU,(gt aw aK),f.k Z,m,aW⟩
  ·refine Ah f Z ay ?_
   refine AA Z ?_
   obtain rfl:=sj au
   obtain rfl:=av _ rfl
   exact⟨_,Z,_,ap,aq,aw,f.k Z,m,ax⟩
 ·rintro a w ⟨ah,rfl,ai,aj,ak,aX,f,m,aY⟩
  refine Ae ?_
  refine Ab f Z λa f=>Ac f Z λa f=>Aa ?_
  refine Aq ?_
  obtain rfl:=sj hd
  exact⟨[aj],f.g Z,f.d,_,[ak],aX,m,_,_,Z,Z,aY⟩
theorem Wk.S0 {aa ab:Value}{ac ad:LL}(hW:Cr W)(m:Mem W G w (H))(ae:R2 G aa ac)(af:R2 G ab ad){y:(LL)×(LL)}(hd:D.S0 ac ad=some y):
  Calls prog 48 #[(.agg #[aa,ab])] w (Res W G H (λG' Ho v=>∃r0:Value,∃i0:Itm,∃r2:Value,∃i2:Itm,Ho=[i0,i2]∧v=(.agg #[r0,r2])∧Ow2 R0 26 2 G' i0 r0 y.1∧Ow2 R0 26 2 G' i2 r2 y.2)):=by
 refine Ar (args:=[(.agg #[aa,ab])]) (N:=91) [.cell 2 41] func48 Z Z (lb Z) Z λa f=> ?_
 unfold D.S0 at hd
 refine Ae ?_
 refine Bi (cs:=[aa,ab]) m f Z Z Z λag w a m f=>Bm (cs:=[sn,sn]) zeroValue41 m f Z Z λah w a m f=>Aa (Ag ?_)
 refine A3 8 AM (by kernel_rfl) m ?_
 refine BW 0 8 underlying41 Z sizeOf22 Z f Z λa f=>BK 1 8 1 Bb Z Z Z f Z λa f=>BW 3 8 underlying41 Z sizeOf22 Z f Z λa f=>BK 4 8 1 Bb Z Z Z f Z λa f=>Bp 2 Z λai w aj m ak ak=> ?_
 have ae:=rd2 aj ae
 have af:=rd2 aj af
 have⟨al,am,hd⟩:=bind_some hd
 refine AL f Z call80 (Wk.s1 m ae am) λan ao ap w aq m ar a f=> ?_
 obtain⟨au,av,rfl,rfl,aw⟩:=ar
 have af:=rd2 aq af
 refine Aa ?_
 refine ak ao [av] _ _ aq m ?_
 refine Bp 5 Z λax w ay m az az=> ?_
 have af:=rd2 ay af
 have aw:=od1 ay aw
 have⟨aA,aB,hd⟩:=bind_some hd
 refine AL f Z call81 (Wk.h2 m af aB) λaC aD aE w aF m aG a f=> ?_
 obtain⟨aH,aI,rfl,rfl,aJ⟩:=aG
 have aw:=od1 aF aw
 refine Aa ?_
 refine az aD [aI,av] _ _ aF m ?_
 refine q_p 6 8 Z f (λ_=>Br (f.e Z)) λa f=>q_p 7 8 Z f (λ_=>Br (f.e Z)) λa f=>AU λaK w aL m=> ?_
 have aJ:=Ow.mono (RSl.mono (RI.mono _)) aL aJ
 have aw:=od1 aL aw
 refine Ay ?_
 refine Ab f Z λa f=> ?_
 have⟨aM,aN,hd⟩:=bind_some hd
 refine AL f Z call82 (Ow.sortCall aJ m (λZ hZ=>(BB aN hZ).imp (λzs h=>⟨h.2.1,h.2.2,λ_ _ m o=>Wk.h0 m o h.1⟩))) λaO aP aQ w aR m aS a f=> ?_
 obtain⟨aT,rfl,aU⟩:=aS
 have aw:=od1 aR aw
 refine Aa (Ag (Ae ?_))
 refine Ac f Z λa f=>Aa ?_
 have⟨aV,aW,hd⟩:=bind_some hd
 refine AH (λa w=>∃aX:LI,∃aY:LL,(aX,aY)=aV∧∃(aZ:GH) (a2:Value) (a3:Itm) (a4:Value) (a5:Itm),GLe aP aZ∧Fr a 91 [(2,(pb ah)),(3,a2),(4,a4)]∧Mem W aZ w (ib ah 41 [sn,sn]::a3::a5::H)∧Ow (RI .u32) 74 aZ a3 a2 aX∧Ow R1 26 aZ a5 a4 aY) ?_ ?_
 ·refine Ak ?_
  have m:=m.fr 1
  have m:=m.fr 2
  have m:=m.eraseAt 3
  refine AC (λa6 a w=>∃a7:LI,∃a8:LL,∃a9:Bool,(a7,a8,a9)=a6∧∃(ba:GH) (bb:Value) (bc:Itm) (bd:Value) (be:Itm),GLe aP ba∧Fr a 91 [(2,(pb ah)),(3,bb),(4,bd),(5,(.bool a9))]∧Mem W ba w (ib ah 41 [sn,sn]::bc::be::H)∧Ow (RI .u32) 74 ba bc bb a7∧Ow R1 26 ba be bd a8) aW ⟨_,_,_,Z,_,au,av,aH,aT,gr,f.k Z,m,aw,aU⟩ ?_
  clear aW f m
  rintro a6 bf bg bh a w ⟨a7,a8,a9,rfl,ba,bb,bc,bd,be,bi,f,m,bj,bk⟩
  refine Ag (Ae ?_)
  refine Ab f Z λa f=>Aa ?_
  rcases Af bg with⟨bl,bg⟩|⟨bl,bg⟩
  ·refine Al f Z bl ?_
   refine Am ?_
   refine Ak (Ae ?_)
   refine Ac f Z λa f=>Ay ?_
   refine Ab f Z λa f=>BE 2 m bk Z underlying22 f Z Z λa f=>Ab f Z λa f=>Aa ?_
   have⟨bm,bn,bg⟩:=bind_some bg
   refine AH (λa w=>∃bo:LI,∃bp:LL,∃bq:Bool,(bo,bp,bq)=bm∧∃(br:GH) (bs:Value) (bt:Itm) (bu:Value) (bv:Itm),GLe ba br∧Fr a 91 [(2,(pb ah)),(3,bs),(4,bu),(5,(.bool bq))]∧Mem W br w (ib ah 41 [sn,sn]::bt::bv::H)∧Ow (RI .u32) 74 br bt bs bo∧Ow R1 26 br bv bu bp) ?_ ?_
   ·refine Ak ?_
    refine AC (λbw a w=>∃bx:Int,bx=bw∧∃(bz:GH),GLe ba bz∧Fr a 91 [(2,(pb ah)),(3,bb),(4,bd),(5,(.bool false)),(22,bd),(23,(iv (a8.length:Int))),(24,(iv bx))]∧Mem W bz w (ib ah 41 [sn,sn]::bc::be::H)) bn ⟨_,Z,_,gr,f.k Z,m⟩ ?_
    clear bn f m
    rintro bw bA bB bC a w ⟨bx,rfl,bz,bD,f,m⟩
    have bj:=od1 bD bj
    have bk:=Ow.mono (RSl.mono (RI.mono _)) bD bk
    refine Ae ?_
    refine Ai f Z Z AE λa f=>Aa (Ag ?_)
    rcases Af bB with⟨bE,bB⟩|⟨bE,bB⟩
    ·refine Al f Z bE ?_
     refine Am ?_
     refine Ag (Ak (Ae ?_))
     have⟨bF,bG,bB⟩:=bind_some bB
     refine AZ 2 m bk Z T22 f Z Z Z bG λbH a bI f=>BA 2 m bk Z AT f Z Z bI bG λbJ a bK f=>Ac f Z λa f=>Aa (Ag ?_)
     refine A3 8 AM (by kernel_rfl) m ?_
     refine Ao 0 8 Z f Z λa f=> ?_
     have⟨bL,bM,bB⟩:=bind_some bB
     refine BJ 1 8 T26 bK bM Z f Z Z λbN bO a bP bQ f=> ?_
     subst bQ
     refine BI 2 8 Pl2 bP Z f Z λa f=>Ao 3 8 Z f Z λa f=> ?_
     have⟨bR,bS,bB⟩:=bind_some bB
     refine BJ 4 8 T26 bK bS Z f Z Z λbT bU a bV bW f=> ?_
     subst bW
     refine BI 5 8 Pl2 bV Z f Z λa f=>q_p 6 8 Z f (λ_=>Br (f.e Z)) λa f=>q_p 7 8 Z f (λ_=>Br (f.e Z)) λa f=>AU λbX w bY m=> ?_
     have bj:=od1 bY bj
     have bk:=Ow.mono (RSl.mono (RI.mono _)) bY bk
     refine Aa (Ag (Ak (Ag ?_)))
     refine A3 11 AM (by kernel_rfl) m ?_
     refine Ao 0 11 Z f Z λa f=>Ao 1 11 Z f Z λa f=> ?_
     have⟨bZ,b0,bB⟩:=bind_some bB
     refine A8 2 11 1 m bj T61 b0 Z f Z Z λb1 a b2 f=>Bo 3 11 1 bj C3 b2 b0 Z f Z λb3 a b4 f=> ?_
     subst b4
     refine Ao 4 11 Z f Z λa f=>Ao 5 11 Z f Z λa f=> ?_
     have⟨b5,b6,bB⟩:=bind_some bB
     refine A8 6 11 1 m bj T61 b6 Z f Z Z λb7 a b8 f=>Bo 7 11 1 bj C3 b8 b6 Z f Z λb9 a ca f=> ?_
     subst ca
     refine q_p 8 11 Z f (λ_=>AV (f.e Z) (f.e Z) CR) λa f=>q_p 9 11 Z f (λ_=>AV (f.e Z) (f.e Z) BS) λa f=>q_p 10 11 Z f (λ_=>Br (f.e Z)) λa f=>AU λcb w cc m=> ?_
     have bj:=od1 cc bj
     have bk:=Ow.mono (RSl.mono (RI.mono _)) cc bk
     refine Aa ?_
     rcases Af bB with⟨cd,bB⟩|⟨cd,bB⟩
     ·refine Al f Z cd ?_
      refine Aj ?_
      refine Ab f Z λa f=>Ab f Z λa f=>Ab f Z λa f=>Ab f Z λa f=> ?_
      have m:Mem W cb w (bc::ib ah 41 [sn,sn]::be::H):=m.fr 1
      obtain⟨ce,cf,m,cg⟩:=Ow.stamp (RI.mono _) bj m
      have bk:=Ow.mono (RSl.mono (RI.mono _)) cf bk
      have m:=m.fr 1
      obtain⟨ch,ci,m,cj⟩:=Ow.stamp (RSl.mono (RI.mono _)) bk m
      have cg:=rd1 ci cg
      have⟨ck,cl,bB⟩:=bind_some bB
      refine AL f Z call84 (Wk.h m cg cj cl) λcm cn co w cp m cq a f=> ?_
      obtain⟨cr,ct,cu,cv,rfl,rfl,cw,cx⟩:=cq
      refine Ab f Z λa f=>l_o f (A9 (f.e Z) Z) λa f=>l_o f (A9 (f.e Z) Z) λa f=>Ac f Z λa f=>Ac f Z λa f=>Ay ?_
      refine Ac f Z λa f=>Aa ?_
      refine AA Z ?_
      have m:Mem W cn w (ib ah 41 [sn,sn]::ct::cv::H):=m.fr 2
      obtain rfl:=sj bB
      obtain rfl:=bC _ rfl
      exact⟨_,_,_,Z,_,cr,ct,cu,cv,(gt bD (gt bY (gt cc (gt cf (gt ci cp))))),f.k Z,m,cw,cx⟩
     ·refine Ah f Z cd ?_
      refine Ag ?_
      refine A3 11 AM (by kernel_rfl) m ?_
      refine Ao 0 11 Z f Z λa f=>Ao 1 11 Z f Z λa f=> ?_
      have⟨cy,cz,bB⟩:=bind_some bB
      refine A8 2 11 1 m bj T61 cz Z f Z Z λcA a cB f=>Bo 3 11 1 bj C3 cB cz Z f Z λcC a cD f=> ?_
      subst cD
      refine Ao 4 11 Z f Z λa f=>Ao 5 11 Z f Z λa f=> ?_
      have⟨cE,cF,bB⟩:=bind_some bB
      refine A8 6 11 1 m bj T61 cF Z f Z Z λcG a cH f=>Bo 7 11 1 bj C3 cH cF Z f Z λcI a cJ f=> ?_
      subst cJ
      refine q_p 8 11 Z f (λ_=>AV (f.e Z) (f.e Z) CR) λa f=>q_p 9 11 Z f (λ_=>AV (f.e Z) (f.e Z) BS) λa f=>q_p 10 11 Z f (λ_=>Br (f.e Z)) λa f=>AU λcK w cL m=> ?_
      have bj:=od1 cL bj
      have bk:=Ow.mono (RSl.mono (RI.mono _)) cL bk
      refine Aa ?_
      rcases Af bB with⟨cM,bB⟩|⟨cM,bB⟩
      ·refine Al f Z cM ?_
       refine Aj ?_
       refine Ab f Z λa f=>Ab f Z λa f=>Ab f Z λa f=>Ab f Z λa f=> ?_
       have m:Mem W cK w (bc::ib ah 41 [sn,sn]::be::H):=m.fr 1
       obtain⟨cN,cO,m,cP⟩:=Ow.stamp (RI.mono _) bj m
       have bk:=Ow.mono (RSl.mono (RI.mono _)) cO bk
       have m:=m.fr 1
       obtain⟨cQ,cR,m,cS⟩:=Ow.stamp (RSl.mono (RI.mono _)) bk m
       have cP:=rd1 cR cP
       have⟨cT,cU,bB⟩:=bind_some bB
       refine AL f Z call84 (Wk.h m cP cS cU) λcV cW cX w cY m cZ a f=> ?_
       obtain⟨c0,c1,c2,c3,rfl,rfl,c4,c5⟩:=cZ
       refine Ab f Z λa f=>l_o f (A9 (f.e Z) Z) λa f=>l_o f (A9 (f.e Z) Z) λa f=>Ac f Z λa f=>Ac f Z λa f=>Ay ?_
       refine Ac f Z λa f=>Aa ?_
       refine AA Z ?_
       have m:Mem W cW w (ib ah 41 [sn,sn]::c1::c3::H):=m.fr 2
       obtain rfl:=sj bB
       obtain rfl:=bC _ rfl
       exact⟨_,_,_,Z,_,c0,c1,c2,c3,(gt bD (gt bY (gt cc (gt cL (gt cO (gt cR cY)))))),f.k Z,m,c4,c5⟩
      ·refine Ah f Z cM ?_
       refine AA Z ?_
       refine Aj ?_
       refine Ai f Z Z Aw λa f=>Ab f Z λa f=>Aa ?_
       obtain rfl:=sj bB
       exact⟨_,Z,_,Z,_,(gt bD (gt bY (gt cc cL))),f.k Z,m⟩
    ·refine Ah f Z bE ?_
     refine AA Z ?_
     obtain rfl:=sj bB
     obtain rfl:=bC _ rfl
     exact⟨_,_,_,Z,_,bb,bc,bd,be,bD,f.k Z,m,bj,bk⟩
   ·rintro a w ⟨bo,bp,bq,rfl,br,bs,bt,bu,bv,c6,f,m,c7,c8⟩
    obtain rfl:=sj bg
    exact⟨_,Z,_,_,_,Z,_,bs,bt,bu,bv,(gt bi c6),f.k Z,m,c7,c8⟩
  ·refine Ah f Z bl ?_
   refine AA Z ?_
   obtain rfl:=sj bg
   obtain rfl:=bh _ rfl
   exact⟨_,_,Z,_,bb,bc,bd,be,bi,f.k Z,m,bj,bk⟩
 ·rintro a w ⟨aX,aY,rfl,aZ,a2,a3,a4,a5,c9,f,m,da,db⟩
  refine Ae ?_
  refine Ab f Z λa f=> ?_
  have⟨dc,dd,hd⟩:=bind_some hd
  refine AL f Z call60 (Ow.lendCall (RI.mono _) 1 da m Z (λde df m dg=>Wk.m0 hW m dg dd) (λ_ G' _ _ ⟨a0,a1,e1,e2,o0⟩=>⟨a0,a1,e1,e2,Ow2.free (RI.free _) G' o0⟩)) λdh di dj w dk m dl a f=> ?_
  obtain⟨dm,dn,rfl,rfl,dp⟩:=dl
  have db:=Ow.mono (RSl.mono (RI.mono _)) dk db
  have dq:∀w,(Instr.build 41 #[(0,dm)]).run prog w= .ok (.agg #[dm,sn]) w:=by intro w;simp[Instr.build,Instr.fill,(Ow2.cells 0 m dp rfl),Bz,Bn,Bc,Bk,A7,Bx]
  refine BG f Z Z dq λa f=>Bm (cs:=[sn,sn]) zeroValue41 m f Z Z λdr w a m f=>Az 0 0 (ds:=[dm,sn]) m sizeOf41 f Z Z Z (An (Ow2.one1 1 m dp Z) (An Z AK)) Z (lb Z) Z λw m=>Aa (Ag (Ae ?_))
  refine Ab f Z λa f=>BE 4 m db Z underlying22 f Z Z λa f=>Ab f Z λa f=>Aa ?_
  obtain⟨dt,m,du⟩:=Ow2.nil R0 26 2 m
  have⟨dv,dw,hd⟩:=bind_some hd
  refine AH (λa w=>∃dx:LL,dx=dv∧∃(dy:GH) (dz:Value) (dA:Itm),GLe di dy∧Fr a 91 [(2,(pb ah)),(10,(pb dr))]∧Mem W dy w (ib ah 41 [sn,sn]::ib dr 41 [dm,dz]::dn::dA::H)∧Ow2 R0 26 2 dy dA dz dx) ?_ ?_
  ·refine Ak ?_
   have m:=m.fr 2
   have m:=m.fr 5
   have m:Mem W di w (ib dr 41 [dm,sn]::a5::dn::dt::ib ah 41 [sn,sn]::a3::H):=m.fr 3
   have m:=m.fr 4
   have m:Mem W di w (ib ah 41 [sn,sn]::ib dr 41 [dm,sn]::a5::dn::dt::H):=m.eraseAt 5
   refine AC (λdB a w=>∃dC:Int,∃dD:LL,(dC,dD)=dB∧∃(dE:GH) (dF:Value) (dG:Itm),GLe di dE∧Fr a 91 [(2,(pb ah)),(10,(pb dr)),(76,a4),(77,(iv (aY.length:Int))),(78,(iv dC))]∧Mem W dE w (ib ah 41 [sn,sn]::ib dr 41 [dm,dF]::a5::dn::dG::H)∧Ow2 R0 26 2 dE dG dF dD) dw ⟨_,_,Z,_,sn,dt,gr,f.k Z,m,du⟩ ?_
   clear dw f m
   rintro dB dH dI dJ a w ⟨dC,dD,rfl,dE,dF,dG,dK,f,m,dL⟩
   have db:=Ow.mono (RSl.mono (RI.mono _)) dK db
   refine Ae ?_
   refine Ai f Z Z AE λa f=>Aa (Ag ?_)
   rcases Af dI with⟨dM,dI⟩|⟨dM,dI⟩
   ·refine Al f Z dM ?_
    refine Am ?_
    refine Ag (Ak (Ae ?_))
    have⟨dN,dO,dI⟩:=bind_some dI
    refine AZ 2 m db Z T22 f Z Z Z dO λdP a dQ f=>BA 2 m db Z AT f Z Z dQ dO λdR a dS f=>Ac f Z λa f=>Aa ?_
    refine A3 5 AM (by kernel_rfl) m ?_
    refine BW 0 5 underlying41 Z sizeOf22 Z f Z λa f=>BK 1 5 1 Bb Z Z Z f Z λa f=>Ao 2 5 Z f Z λa f=>Bp 3 Z λdT w dU m dV dV=> ?_
    have dS:=rd1 dU dS
    have dL:=od2 dU dL
    have⟨dW,dX,dI⟩:=bind_some dI
    refine AL f Z call85 (Wk.F1 m dS dX) λdY dZ d0 w d1 m d2 a f=> ?_
    obtain⟨d3,d4,rfl,rfl,d5⟩:=d2
    have dL:=od2 d1 dL
    refine Aa ?_
    refine dV dZ [d4] _ _ d1 m ?_
    refine Bp 4 Z λd6 w d7 m d8 d8=> ?_
    have d5:=od1 d7 d5
    have dL:=od2 d7 dL
    refine AP (R:=RawS) (xs:=[d3]) RawS.one m T22 f Z Z Z (by decide) (All2.cons ⟨Z,Ow.one1 0 m d5 Z,Ow.cells 0 m d5 Z⟩ (All2.nil _)) λd9 ea w a m eb f=>Aa ?_
    refine d8 d6 [d9,d4] _ _ gr m ?_
    refine AU λec w ed m=> ?_
    have eb:=Ow.mono RawS.mono ed eb
    have d5:=od1 ed d5
    have dL:=od2 ed dL
    have m:=m.fr 1
    have m:Mem W ec w (dG::d4::d9::ib ah 41 [sn,sn]::ib dr 41 [dm,dF]::a5::dn::H):=m.fr 6
    have⟨ee,ef,dI⟩:=bind_some dI
    refine En m dL d5 eb T22 Z (by decide) f Z Z Z ef λeg eh w a m ei f=>Bu underlying41 Z sizeOf22 f Z λa f=>Az 2 1 (ds:=[eh]) m sizeOf22 f Z Z (Ow2.cells 0 m ei Z) (An (Ow2.one1 0 m ei Z) AK) Z (lb Z) Z λw m=>Aa (Aj ?_)
    refine Ai f Z Z Aw λa f=>Ab f Z λa f=>Aa ?_
    have m:=m.fr 4
    have m:=m.fr 4
    have m:Mem W ec w (ib dr 41 [dm,eh]::a5::dn::eg::ib ah 41 [sn,sn]::H):=m.fr 4
    have m:Mem W ec w (ib ah 41 [sn,sn]::ib dr 41 [dm,eh]::a5::dn::eg::H):=m.fr 4
    obtain rfl:=sj dI
    exact⟨_,Z,_,_,Z,_,eh,eg,(gt dK (gt dU (gt d1 (gt d7 ed)))),f.k Z,m,ei⟩
   ·refine Ah f Z dM ?_
    refine AA Z ?_
    have m:=m.fr 4
    have m:=m.fr 4
    have m:Mem W dE w (ib dr 41 [dm,dF]::dn::dG::ib ah 41 [sn,sn]::a5::H):=m.fr 3
    have m:=m.fr 3
    have m:Mem W dE w (ib ah 41 [sn,sn]::ib dr 41 [dm,dF]::dn::dG::H):=m.eraseAt 4
    obtain rfl:=sj dI
    obtain rfl:=dJ _ rfl
    exact⟨_,Z,_,dF,dG,dK,f.k Z,m,dL⟩
  ·rintro a w ⟨dx,rfl,dy,dz,dA,ej,f,m,ek⟩
   have dp:=od2 ej dp
   refine Ae ?_
   refine AB 1 0 (ds:=[dm,dz]) m Ck f Z Z Z Z Z λa f=>Az 0 0 (ds:=[dm,dz]) m sizeOf41 f Z Z Z (An (Ow2.one1 2 m dp Z) (An (Ow2.one1 3 m ek Z) AK)) Z (lb Z) Z λw m=>Aa ?_
   refine Aq ?_
   have el:=BY (P:=prog) 0 m Ck f (s:=2) rfl rfl rfl
   have m:=m.fr 3
   have m:=m.fr 3
   have m:Mem W dy w (dn::dA::ib ah 41 [dm,dz]::H):=m.eraseAt 3
   have m:=m.eraseAt 2
   obtain rfl:=sj hd
   exact⟨[(.agg #[dm,dz])],⟨el,trivial⟩,f.d,_,[dn,dA],(gt aj (gt aq (gt ay (gt aF (gt aL (gt aR (gt c9 (gt dk ej)))))))),m,_,_,_,_,Z,Z,dp,ek⟩
theorem Wk.x0 {aa:Value}{ab:LL}(hW:Cr W)(m:Mem W G w (H))(ac:R2 G aa ab){y:(LL)×(LL)×Bool}(hd:D.x0 ab=some y):
  Calls prog 20 #[(.agg #[aa])] w (Res W G H (λG' Ho v=>∃r0:Value,∃i0:Itm,∃r2:Value,∃i2:Itm,Ho=[i0,i2]∧v= .tuple #[(.agg #[r0,r2]),(.bool y.2.2)]∧Ow2 R0 26 2 G' i0 r0 y.1∧Ow2 R0 26 2 G' i2 r2 y.2.1)):=by
 refine Ar (args:=[(.agg #[aa])]) (N:=16) [.cell 2 41,.tmp 3] func20 Z Z (lb Z) Z λa f=> ?_
 unfold D.x0 at hd
 refine Ae ?_
 refine Bi (cs:=[aa]) m f Z Z Z λad w a m f=>Bm (cs:=[sn,sn]) zeroValue41 m f Z Z λae w a m f=>Ac f Z λa f=>Aa (Ag (Ae ?_))
 refine AB 1 0 (ds:=[aa]) m Bj f Z Z Z Z Z λa f=> ?_
 have⟨af,ag,hd⟩:=bind_some hd
 refine A6 f Z call46 (Wk.K1 m ac ag) λah w ai m a f=> ?_
 have ac:=rd2 ai ac
 refine l_o f (Bv (f.e Z)) λa f=>Aa ?_
 rcases Af hd with⟨aj,hd⟩|⟨aj,hd⟩
 ·refine Al f Z aj ?_
  refine Ae ?_
  have ak:∀w,(Instr.build 41 #[]).run prog w= .ok (.agg #[sn,sn]) w:=by intro w;simp[Instr.build,Instr.fill,Bz,Bn,Bc,Bk,A7,Bx]
  refine BG f Z Z ak λa f=>Az 0 0 (ds:=[sn,sn]) m sizeOf41 f Z Z Z (An Z (An Z AK)) Z (lb Z) Z λw m=>Ac f Z λa f=>Aa ?_
  refine Aq ?_
  obtain⟨al,m,am⟩:=Ow2.nil R0 26 2 m
  obtain⟨an,m,ao⟩:=Ow2.nil R0 26 2 m
  have ap:=BY (P:=prog) 2 m Ck f (s:=2) rfl rfl rfl
  have m:=m.fr 1
  have m:=m.eraseAt 3
  have m:=m.eraseAt 2
  obtain rfl:=sj hd
  exact⟨[(.agg #[sn,sn]),(.bool false)],⟨ap,f.get _ _ Z,trivial⟩,f.d,_,[al,an],ai,m,_,_,_,_,Z,Z,am,ao⟩
 ·refine Ah f Z aj ?_
  refine Am ?_
  refine Ae ?_
  refine AB 1 0 (ds:=[aa]) m Bj f Z Z Z Z Z λa f=> ?_
  have⟨aq,ar,hd⟩:=bind_some hd
  refine AL f Z call47 (Wk.i0 m ac ar) λau av aw w ax m ay a f=> ?_
  obtain⟨az,aA,rfl,rfl,aB⟩:=ay
  refine Ac f Z λa f=>Ay ?_
  refine Ab f Z λa f=>Ab f Z λa f=> ?_
  have⟨aC,aD,hd⟩:=bind_some hd
  refine AL f Z call50 (Ow.lendCall (RI.mono _) 0 aB m Z (λaE aF m aG=>Wk.Z0 hW m aG aD) (λ_ G' _ _ ⟨r0,i0,h1,h2,h3⟩=>⟨r0,i0,h1,h2,Ow.free (RI.free _) G' h3⟩)) λaH aI aJ w aK m aL a f=> ?_
  obtain⟨aM,aN,rfl,rfl,aO⟩:=aL
  have aB:=od1 aK aB
  have⟨aP,aQ,hd⟩:=bind_some hd
  refine AL f Z call49 (Ow.lendCall (RI.mono _) 1 aB m Z (λaR aS m aT=>(Ow.lendCall (RI.mono _) 0 (od1 aS aO) m Z (λaU aV m aW=>Wk.Q0 hW m (rd1 aV aT) aW aQ) (λ_ G' _ _ ⟨a0,a1,a2,a3,e1,e2,o0,o1⟩=>⟨a0,a1,a2,a3,e1,e2,Ow2.free (RI.free _) G' o0,Ow2.free (RI.free _) G' o1⟩))) (λ_ G' _ _ ⟨a0,a1,a2,a3,e1,e2,o0,o1⟩=>⟨a0,a1,a2,a3,e1,e2,Ow2.free (RI.free _) G' o0,Ow2.free (RI.free _) G' o1⟩)) λaX aY aZ w a4 m a5 a f=> ?_
  obtain⟨a6,a7,a8,a9,rfl,rfl,ba,bb⟩:=a5
  have⟨bc,bd,hd⟩:=bind_some hd
  refine AL f Z call48 (Ow2.lendCall (RI.mono _) 0 ba m Z (λbe bf m bg=>(Ow2.lendCall (RI.mono _) 0 (od2 bf bb) m Z (λbh bi m bj=>Wk.S0 hW m (rd2 bi bg) bj bd) (λ_ G' _ _ ⟨a0,a1,a2,a3,e1,e2,o0,o1⟩=>⟨a0,a1,a2,a3,e1,e2,Ow2.free (RI.free _) G' o0,Ow2.free (RI.free _) G' o1⟩))) (λ_ G' _ _ ⟨a0,a1,a2,a3,e1,e2,o0,o1⟩=>⟨a0,a1,a2,a3,e1,e2,Ow2.free (RI.free _) G' o0,Ow2.free (RI.free _) G' o1⟩)) λbk bl bm w bn m bo a f=> ?_
  obtain⟨bp,bq,br,bs,rfl,rfl,bt,bu⟩:=bo
  refine Az 6 0 (ds:=[bp,br]) m sizeOf41 f Z Z Z (An (Ow2.one1 0 m bt Z) (An (Ow2.one1 1 m bu Z) AK)) Z (lb Z) Z λw m=>Ac f Z λa f=>Aa ?_
  refine Aq ?_
  have bv:=BY (P:=prog) 6 m Ck f (s:=2) rfl rfl rfl
  have m:=m.eraseAt 7
  have m:=m.eraseAt 6
  have m:Mem W bl w (bq::bs::a7::a9::aN::H):=m.eraseAt 5
  have m:=m.eraseAt 4
  have m:=m.eraseAt 3
  have m:=m.eraseAt 2
  obtain rfl:=sj hd
  exact⟨[(.agg #[bp,br]),(.bool true)],⟨bv,f.get _ _ Z,trivial⟩,f.d,_,[bq,bs],(gt ai (gt ax (gt aK (gt a4 bn)))),m,_,_,_,_,Z,Z,bt,bu⟩
theorem Wk.g1 {v0:Value}{b1:Nat}{x0:LI}{aa:Int}(m:Mem W G w (ib b1 3 [(iv aa)]::H))(h0:R1 G v0 x0){y:Bool}(hd:D.g1 x0 aa=some y):
  Calls prog 93 #[v0,(pb b1)] w (Res W G H (λ_ Ho v=>Ho=[ib b1 3 [(iv aa)]]∧v=(.bool y))):=by
 refine Ar (args:=[v0,(pb b1)]) (N:=8) [.tmp 3] func93 Z Z (lb Z) Z λa f=> ?_
 unfold D.g1 at hd
 refine Ae ?_
 refine Ac f Z λa f=>Ay ?_
 refine Ab f Z λa f=>AO underlying26 f Z Z h0 λa f=>AJ 0 0 m Pl3 f Z Z Z Z λa f=>Ai f Z Z B8 λa f=>Ac f Z λa f=>Aa ?_
 refine Aq ?_
 obtain rfl:=sj hd
 exact⟨[(.bool ((x0.length:Int) !=aa))],f.g Z,f.d,_,[ib b1 3 [(iv aa)]],gr,m,Z,Z⟩
theorem Wk.S1 {v0:Value}{b1c0:Nat}{x0:LL}{aa:Int}(m:Mem W G w (ib b1c0 3 [(iv aa)]::H))(h0:R2 G v0 x0){y:Int}(hd:D.S1 x0 aa=some y):
  Calls prog 130 #[v0,(.func (.func 93) #[] #[(pb b1c0)])] w (Res W G H (λ_ Ho v=>Ho=[ib b1c0 3 [(iv aa)]]∧v=(iv y))):=by
 refine Ar (args:=[v0,(.func (.func 93) #[] #[(pb b1c0)])]) (N:=19) [.tmp 4] func130 Z Z (lb Z) Z λa f=> ?_
 unfold D.S1 at hd
 refine Ae ?_
 refine Ac f Z λa f=>Aa (Ag (Ae ?_))
 refine Ab f Z λa f=>AO underlying22 f Z Z h0 λa f=>Ab f Z λa f=>Aa ?_
 have⟨ab,ac,hd⟩:=bind_some hd
 refine AH (λa w=>∃q_33':Unit,ab= .inl q_33'∧∃(ad:GH),GLe G ad∧Fr a 19 []∧Mem W ad w (ib b1c0 3 [(iv aa)]::H)) ?_ ?_
 ·refine Ak ?_
  refine AC (λae a w=>∃af:Int,af=ae∧∃(ag:GH),GLe G ag∧Fr a 19 [(0,v0),(1,(.func (.func 93) #[] #[(pb b1c0)])),(7,(iv (x0.length:Int))),(8,(iv af))]∧Mem W ag w (ib b1c0 3 [(iv aa)]::H)) ac ⟨_,Z,_,gr,f.k Z,m⟩ ?_
  clear ac f m
  rintro ae ah ai aj a w ⟨af,rfl,ag,ak,f,m⟩
  have h0:=rd2 ak h0
  refine Ae ?_
  refine Ai f Z Z AE λa f=>Aa (Ag ?_)
  rcases Af ai with⟨al,ai⟩|⟨al,ai⟩
  ·refine Al f Z al ?_
   refine Am ?_
   refine Ag (Ak (Ae ?_))
   refine Ab f Z λa f=>Ac f Z λa f=>Ay ?_
   refine Ab f Z λa f=>Ab f Z λa f=>Ab f Z λa f=> ?_
   have⟨am,an,ai⟩:=bind_some ai
   refine A2 T22 f Z Z Z h0 an λao ap a aq ar f=>Ax m AT f Z Z aq λa f=> ?_
   have⟨au,av,ai⟩:=bind_some ai
   refine Ex f Z Z Z call93 (Wk.g1 m ar av) λaw ax ay w az m aA a f=> ?_
   obtain⟨rfl,rfl⟩:=aA
   refine Aa ?_
   rcases Af ai with⟨aB,ai⟩|⟨aB,ai⟩
   ·refine Al f Z aB ?_
    refine Ae ?_
    refine Ab f Z λa f=>Ac f Z λa f=>Aa ?_
    refine Aq ?_
    obtain rfl:=sj ai
    obtain rfl:=aj _ rfl
    obtain rfl:=sj hd
    exact⟨[(iv af)],f.g Z,f.d,_,[ib b1c0 3 [(iv aa)]],(gt ak az),m,Z,Z⟩
   ·refine Ah f Z aB ?_
    refine Am ?_
    refine Aj ?_
    refine Ai f Z Z Aw λa f=>Ab f Z λa f=>Aa ?_
    obtain rfl:=sj ai
    exact⟨_,Z,_,Z,_,(gt ak az),f.k Z,m⟩
  ·refine Ah f Z al ?_
   refine AA Z ?_
   obtain rfl:=sj ai
   obtain rfl:=aj _ rfl
   exact⟨_,Z,_,ak,f.weak trivial,m⟩
 ·rintro a w ⟨_,rfl,ad,aC,f,m⟩
  refine Ae ?_
  refine Ac f Z λa f=>Aa ?_
  refine Aq ?_
  obtain rfl:=sj hd
  exact⟨[(iv (-1))],f.g Z,f.d,_,[ib b1c0 3 [(iv aa)]],aC,m,Z,Z⟩
theorem Wk.M0 {v0:Value}{b1c0:Nat}{x0:LL}{aa:Int}(m:Mem W G w (ib b1c0 3 [(iv aa)]::H))(h0:R2 G v0 x0){y:Bool}(hd:D.M0 x0 aa=some y):
  Calls prog 92 #[v0,(.func (.func 93) #[] #[(pb b1c0)])] w (Res W G H (λ_ Ho v=>Ho=[ib b1c0 3 [(iv aa)]]∧v=(.bool y))):=by
 refine Ar (args:=[v0,(.func (.func 93) #[] #[(pb b1c0)])]) (N:=9) [.tmp 4] func92 Z Z (lb Z) Z λa f=> ?_
 unfold D.M0 at hd
 refine Ae ?_
 refine Ac f Z λa f=>Ay ?_
 refine Ab f Z λa f=>Ab f Z λa f=> ?_
 have⟨ab,ac,hd⟩:=bind_some hd
 refine AL f Z call130 (Wk.S1 m h0 ac) λad ae af w ag m ah a f=> ?_
 obtain⟨rfl,rfl⟩:=ah
 refine Ai f Z Z Cs λa f=>Ac f Z λa f=>Aa ?_
 refine Aq ?_
 obtain rfl:=sj hd
 exact⟨[(.bool (decide ((0:Int)≤ab)))],f.g Z,f.d,_,[ib b1c0 3 [(iv aa)]],ag,m,Z,Z⟩
theorem Wk.A {v0:Value}{x0:LL}{x1:Int}(m:Mem W G w (H))(h0:R2 G v0 x0){y:(LI)}(hd:D.A x0 x1=some y):
  Calls prog 51 #[v0,(iv x1)] w (Res W G H (λG' Ho v=>∃r0:Value,∃i0:Itm,Ho=[i0]∧r0=v∧Ow R0 2 G' i0 r0 y)):=by
 refine Ar (args:=[v0,(iv x1)]) (N:=15) [.tmp 4] func51 Z Z (lb Z) Z λa f=> ?_
 unfold D.A at hd
 refine Ae ?_
 refine Bi (cs:=[(iv x1)]) m f Z Z Z λaa w a m f=>Ac f Z λa f=>Aa (Ag (Ae ?_))
 refine Ab f Z λa f=>AO underlying22 f Z Z h0 λa f=>Ai f Z Z Cf λa f=>Ab f Z λa f=> ?_
 have⟨ab,ac,hd⟩:=bind_some hd
 refine BH 4 (λa w=>∃ad,GLe G ad∧Mem W ad w (ib aa 3 [(iv x1)]::H)∧Fr a 15 [(0,v0),(1,(iv x1)),(3,(pb aa)),(5,v0),(6,(iv (x0.length:Int))),(7,(.bool (decide ((16:Int)<(x0.length:Int))))),(8,(.bool (decide ((16:Int)<(x0.length:Int))))),(12,(.bool ab))]) ?_ ?_
 ·rcases Af ac with⟨ae,ac⟩|⟨ae,ac⟩
  ·refine AG f ae λa f=> ?_
   refine AG f ae λa f=>AG f ae λa f=>l_o f (A4 (f.e Z) ae (f.e Z)) λa f=> ?_
   obtain rfl:=sj ac
   exact⟨_,gr,m,f.k Z⟩
  ·refine AF f ae ?_
   refine Ab f Z λa f=>AF f ae ?_
   refine EJ f Z Z Z λa f=>AF f ae ?_
   have⟨af,ag,ac⟩:=bind_some ac
   refine AL f Z call92 (Wk.M0 m h0 ag) λah ai aj w ak m al a f=> ?_
   obtain⟨rfl,rfl⟩:=al
   refine l_o f (A5 (f.e Z) ae (f.e Z)) λa f=> ?_
   obtain rfl:=sj ac
   exact⟨_,ak,m,f.k Z⟩
 ·rintro a w ⟨ad,am,m,f⟩
  have h0:=rd2 am h0
  refine Aa ?_
  rcases Af hd with⟨an,hd⟩|⟨an,hd⟩
  ·refine Al f Z an ?_
   refine Ae ?_
   refine Ac f Z λa f=>Aa ?_
   refine Aq ?_
   obtain⟨ao,m,ap⟩:=Ow.nil R0 2 m
   have m:=m.eraseAt 1
   obtain rfl:=sj hd
   exact⟨[sn],f.g Z,f.d,_,[ao],am,m,_,_,Z,Z,ap⟩
  ·refine Ah f Z an ?_
   refine Am ?_
   refine Ae ?_
   refine Ab f Z λa f=> ?_
   have⟨aq,ar,hd⟩:=bind_some hd
   refine AL f Z call94 (Wk.W0 m h0 ar) λau av aw w ax m ay a f=> ?_
   obtain⟨az,aA,rfl,rfl,aB⟩:=ay
   refine Ac f Z λa f=>Aa ?_
   refine Aq ?_
   have m:=m.eraseAt 1
   obtain rfl:=sj hd
   exact⟨[az],f.g Z,f.d,_,[aA],(gt am ax),m,_,_,Z,Z,aB⟩
theorem Wk.C1 {v0:Value}{x0:LL}(m:Mem W G w (H))(h0:R2 G v0 x0){y:(LI)}(hd:D.C1 x0=some y):
  Calls prog 21 #[v0] w (Res W G H (λG' Ho v=>∃r0:Value,∃i0:Itm,Ho=[i0]∧r0=v∧Ow R0 2 G' i0 r0 y)):=by
 refine Ar (args:=[v0]) (N:=5) [.tmp 2] func21 Z Z (lb Z) Z λa f=> ?_
 unfold D.C1 at hd
 refine Ae ?_
 refine Ac f Z λa f=>Ay ?_
 refine Ab f Z λa f=> ?_
 have⟨aa,ab,hd⟩:=bind_some hd
 refine AL f Z call51 (Wk.A m h0 ab) λac ad ae w af m ag a f=> ?_
 obtain⟨ah,ai,rfl,rfl,aj⟩:=ag
 refine Ac f Z λa f=>Aa ?_
 refine Aq ?_
 obtain rfl:=sj hd
 exact⟨[ah],f.g Z,f.d,_,[ai],af,m,_,_,Z,Z,aj⟩
theorem Wk.C {v0:Value}{x0:LI}{x1:Int}(hW:Cr W)(m:Mem W G w (H))(h0:RSl (RI .u32) G v0 x0){y:(LI)}(hd:D.C x0 x1=some y):
  Calls prog 56 #[v0,(.int .u32 x1)] w (Res W G H (λG' Ho v=>∃r0:Value,∃i0:Itm,Ho=[i0]∧r0=v∧Ow (RI .u32) 74 G' i0 r0 y)):=by
 refine Ar (args:=[v0,(.int .u32 x1)]) (N:=23) [.tmp 4] func56 Z Z (lb Z) Z λa f=> ?_
 unfold D.C at hd
 refine Ae ?_
 refine Ac f Z λa f=>Ay ?_
 refine AP (R:=(RI .u32)) (xs:=([]:LI)) (RI.one _) m T61 f Z Z Z (by decide) (All2.nil _) λaa ab w a m ac f=>Ac f Z λa f=>Aa (Ag ?_)
 have⟨ad,ae,hd⟩:=bind_some hd
 refine AH (λa w=>∃af:LI,af=ad∧∃(ag:GH) (ah:Value) (ai:Itm),GLe G ag∧Fr a 23 [(5,ah)]∧Mem W ag w (ai::H)∧Ow (RI .u32) 74 ag ai ah af) ?_ ?_
 ·refine Ak ?_
  refine AC (λaj a w=>∃ak:Int,∃al:LI,(ak,al)=aj∧∃(am:GH) (an:Value) (ao:Itm),GLe G am∧Fr a 23 [(0,v0),(1,(.int .u32 ak)),(5,an)]∧Mem W am w (ao::H)∧Ow (RI .u32) 74 am ao an al) ae ⟨_,_,Z,_,ab,aa,gr,f.k Z,m,ac⟩ ?_
  clear ae f m
  rintro aj ap aq ar a w ⟨ak,al,rfl,am,an,ao,au,f,m,av⟩
  have h0:=rd1 au h0
  refine Ag (Ae ?_)
  refine Ab f Z λa f=>Ai f Z Z B8 λa f=>Aa ?_
  rcases Af aq with⟨aw,aq⟩|⟨aw,aq⟩
  ·refine Al f Z aw ?_
   refine Am ?_
   refine Ak (Ae ?_)
   refine Ab f Z λa f=>Ab f Z λa f=> ?_
   have⟨ax,ay,aq⟩:=bind_some aq
   refine A6 f Z call96 (Wk.O hW m ay) λaz w aA m a f=> ?_
   have h0:=rd1 aA h0
   have av:=od1 aA av
   refine Ab f Z λa f=> ?_
   have⟨aB,aC,aq⟩:=bind_some aq
   refine A6 f Z call95 (Wk.V hW m h0 aC) λaD w aE m a f=> ?_
   have av:=od1 aE av
   refine Ac f Z λa f=>Ay ?_
   refine Ab f Z λa f=>Ab f Z λa f=>AP (R:=(RI .u32)) (xs:=([aB]:LI)) (RI.one _) m T61 f Z Z Z (by decide) (All2.cons Z (All2.nil _)) λaF aG w a m aH f=> ?_
   have⟨aI,aJ,aq⟩:=bind_some aq
   refine AW (RI.one _) 1 m av Z T61 Z (by decide) f Z Z Z (Ow.src (j:=0) aH m Z) aJ λaK aL w a m aM f=>Ac f Z λa f=>Aa (Aj ?_)
   refine Ab f Z λa f=>Ab f Z λa f=>Ai f Z Z CR λa f=>Ac f Z λa f=>Aa ?_
   have m:=m.fr 1
   have m:=m.eraseAt 1
   obtain rfl:=sj aq
   exact⟨_,Z,_,_,Z,_,aL,aK,(gt au (gt aA aE)),f.k Z,m,aM⟩
  ·refine Ah f Z aw ?_
   refine AA Z ?_
   obtain rfl:=sj aq
   obtain rfl:=ar _ rfl
   exact⟨_,Z,_,an,ao,au,f.k Z,m,av⟩
 ·rintro a w ⟨af,rfl,ag,ah,ai,aN,f,m,aO⟩
  refine Ae ?_
  refine Ab f Z λa f=>Ac f Z λa f=>Aa ?_
  refine Aq ?_
  obtain rfl:=sj hd
  exact⟨[ah],f.g Z,f.d,_,[ai],aN,m,_,_,Z,Z,aO⟩
theorem Wk.i2 {aa:Value}{ab:Itm}{b1:Nat}{ac:Value}{b2:Nat}{x0:Int}{ad:LL}{ae:LI}(hW:Cr W)(m:Mem W G w (ab::ib b1 68 [aa]::ib b2 62 [ac]::H))(af:Ow (RSl (RI .u32)) 61 G ab aa ad)(ag:RSl (RI .u32) G ac ae){y:Bool×(LL)}(hd:D.i2 x0 ad ae=some y):
  Calls prog 55 #[(.int .u32 x0),(pb b1),(pb b2)] w (Res W G H (λG' Ho v=>∃r0:Value,∃i0:Itm,Ho=[ib b1 68 [r0],i0,ib b2 62 [ac]]∧v=(.bool y.1)∧Ow (RSl (RI .u32)) 61 G' i0 r0 y.2)):=by
 refine Ar (args:=[(.int .u32 x0),(pb b1),(pb b2)]) (N:=14) [.tmp 4] func55 Z Z (lb Z) Z λa f=> ?_
 unfold D.i2 at hd
 refine Ae ?_
 refine Ac f Z λa f=>Aa (Ag ?_)
 refine A3 8 AM (by kernel_rfl) m ?_
 refine BK 0 8 1 Pl68 Z Z Z f Z λa f=>BK 1 8 2 Pl62 Z Z Z f Z λa f=>BK 2 8 2 Pl62 Z Z Z f Z λa f=> ?_
 have⟨ah,ai,hd⟩:=bind_some hd
 refine BX (i:=3) 8 Z (by kernel_rfl) Z f Z Z Z call57 (λ_ _ w aj m=>Wk.n m (rd1 aj ag) ai) λa f=>Ao 4 8 Z f Z λa f=>q_p 5 8 Z f (λ_=>AV (f.e Z) (f.e Z) CR) λa f=>Bp 6 Z λak w al m am am=> ?_
 have ag:=rd1 al ag
 have af:=Ow.mono (RSl.mono (RI.mono _)) al af
 have⟨an,ao,hd⟩:=bind_some hd
 refine AL f Z call56 (Wk.C hW m ag ao) λap aq ar w au m av a f=> ?_
 obtain⟨aw,ax,rfl,rfl,ay⟩:=av
 have af:=Ow.mono (RSl.mono (RI.mono _)) au af
 refine Aa ?_
 refine am aq [ax] _ _ au m ?_
 refine Bp 7 Z λaz w aA m aB aB=> ?_
 have ay:=od1 aA ay
 have af:=Ow.mono (RSl.mono (RI.mono _)) aA af
 obtain⟨aC,aD,m,aE⟩:=Ow.stamp (RI.mono _) ay m
 have af:=Ow.mono (RSl.mono (RI.mono _)) aD af
 refine AP (R:=(RSl (RI .u32))) (xs:=([an]:LL)) (RSl.one _) m T68 f Z Z Z (by decide) (All2.cons aE (All2.nil _)) λaF aG w a m aH f=>Aa ?_
 refine aB aC [aF] _ _ aD m ?_
 refine AU λaI w aJ m=> ?_
 have aH:=Ow.mono (RSl.mono (RI.mono _)) aJ aH
 have af:=Ow.mono (RSl.mono (RI.mono _)) aJ af
 have⟨aK,aL,hd⟩:=bind_some hd
 refine AW (RSl.one _) 1 m af Z T68 Z (by decide) f Z Z Z (Ow.src (j:=0) aH m Z) aL λaM aN w a m aO f=>Az 2 0 (ds:=[aN]) m sizeOf68 f Z Z (Ow.cells 1 m aO Z) (An (Ow.one1 1 m aO Z) AK) Z (lb Z) Z λw m=>Ay ?_
 refine Ac f Z λa f=>Aa ?_
 refine Aq ?_
 have m:=m.fr 3
 have m:=m.fr 2
 have m:Mem W aI w (ib b1 68 [aN]::aM::ib b2 62 [ac]::aF::H):=m.fr 3
 have m:=m.eraseAt 3
 obtain rfl:=sj hd
 exact⟨[(.bool false)],f.g Z,f.d,_,[ib b1 68 [aN],aM,ib b2 62 [ac]],(gt al (gt au (gt aA (gt aD aJ)))),m,_,_,Z,Z,aO⟩
end Go.Proofs.YtkoehcencogjpaaGreatDoor

set_option maxRecDepth 100000
namespace Go.Proofs.YtkoehcencogjpaaGreatDoor
open Go Go.Sx
open Go.Proofs.Tryz Go.Proofs.YtkoehcencogjpaaGreatDoor.Tryz IntKind
variable {W w : World} {G : GH} {H : List Itm}
end Go.Proofs.YtkoehcencogjpaaGreatDoor

set_option maxRecDepth 100000
namespace Go.Proofs.YtkoehcencogjpaaGreatDoor
open Go Go.Sx
open Go.Proofs.Tryz Go.Proofs.YtkoehcencogjpaaGreatDoor.Tryz IntKind
variable {W w : World} {G : GH} {H : List Itm}
theorem Pl61 :B4 prog 61:=isAgg61
theorem Wk.D1 {v0:Value}{x0:LI}{x1 x2:Int}(hW:Cr W)(m:Mem W G w (H))(h0:RSl (RI .u32) G v0 x0){y:Bool}(hd:D.D1 x0 x1 x2=some y):
  Calls prog 100 #[v0,(.int .u32 x1),(.int .u32 x2)] w (Res W G H (λ_ Ho v=>Ho=[]∧v=(.bool y))):=by
 refine Ar (args:=[v0,(.int .u32 x1),(.int .u32 x2)]) (N:=28) [.tmp 6] func100 Z Z (lb Z) Z λa f=> ?_
 unfold D.D1 at hd
 refine Ae ?_
 refine Ac f Z λa f=>Aa (Ag (Ae ?_))
 refine Ab f Z λa f=>Ab f Z λa f=>Ai f Z Z DO λa f=>Ai f Z Z B8 λa f=>Aa ?_
 rcases Af hd with⟨aa,hd⟩|⟨aa,hd⟩
 ·refine Al f Z aa ?_
  refine Ae ?_
  refine Ac f Z λa f=>Aa ?_
  refine Aq ?_
  obtain rfl:=sj hd
  exact⟨[(.bool true)],f.g Z,f.d,_,[],gr,m,Z,Z⟩
 ·refine Ah f Z aa ?_
  refine Am ?_
  refine Ag (Ae ?_)
  refine Ab f Z λa f=> ?_
  have⟨ab,ac,hd⟩:=bind_some hd
  refine AL f Z call89 (Wk.i hW m ac) λad ae af w ag m ah a f=> ?_
  obtain⟨ai,aj,rfl,rfl,ak⟩:=ah
  have h0:=rd1 ag h0
  refine BE 0 m ak Z underlying66 f Z Z λa f=>Ab f Z λa f=>Aa ?_
  have⟨al,am,hd⟩:=bind_some hd
  refine AH (λa w=>∃q_43':Unit,al= .inl q_43'∧∃(an:GH),GLe ae an∧Fr a 28 []∧Mem W an w (H)) ?_ ?_
  ·refine Ak ?_
   refine AC (λao a w=>∃ap:Int,ap=ao∧∃(aq:GH),GLe ae aq∧Fr a 28 [(0,v0),(2,(.int .u32 x2)),(14,ai),(15,(iv (ab.length:Int))),(16,(iv ap))]∧Mem W aq w (aj::H)) am ⟨_,Z,_,gr,f.k Z,m⟩ ?_
   clear am f m
   rintro ao ar au av a w ⟨ap,rfl,aq,aw,f,m⟩
   have h0:=rd1 aw h0
   have ak:=od1 aw ak
   refine Ae ?_
   refine Ai f Z Z AE λa f=>Aa (Ag ?_)
   rcases Af au with⟨ax,au⟩|⟨ax,au⟩
   ·refine Al f Z ax ?_
    refine Am ?_
    refine Ag (Ak (Ae ?_))
    have⟨ay,az,au⟩:=bind_some au
    refine AZ 0 m ak Z T66 f Z Z Z az λaA a aB f=>BA 0 m ak Z Pl3 f Z Z aB az λaC a aD f=> ?_
    subst aD
    refine Ac f Z λa f=>Ay ?_
    refine Ab f Z λa f=>Ab f Z λa f=> ?_
    have⟨aE,aF,au⟩:=bind_some au
    refine A2 T62 f Z Z Z h0 aF λaG aH a aI aJ f=> ?_
    subst aJ
    refine Ax m C3 f Z Z aI λa f=>Ab f Z λa f=>Ai f Z Z DO λa f=>Ai f Z Z B8 λa f=>Aa ?_
    rcases Af au with⟨aK,au⟩|⟨aK,au⟩
    ·refine Al f Z aK ?_
     refine Ae ?_
     refine Ac f Z λa f=>Aa ?_
     refine Aq ?_
     have m:Mem W aq w H:=Mem.drop (H':=[aj]) m
     obtain rfl:=sj au
     obtain rfl:=av _ rfl
     obtain rfl:=sj hd
     exact⟨[(.bool true)],f.g Z,f.d,_,[],(gt ag aw),m,Z,Z⟩
    ·refine Ah f Z aK ?_
     refine Am ?_
     refine Aj ?_
     refine Ai f Z Z Aw λa f=>Ab f Z λa f=>Aa ?_
     obtain rfl:=sj au
     exact⟨_,Z,_,Z,_,aw,f.k Z,m⟩
   ·refine Ah f Z ax ?_
    refine AA Z ?_
    have m:Mem W aq w H:=Mem.drop (H':=[aj]) m
    obtain rfl:=sj au
    obtain rfl:=av _ rfl
    exact⟨_,Z,_,aw,f.weak trivial,m⟩
  ·rintro a w ⟨_,rfl,an,aL,f,m⟩
   refine Ae ?_
   refine Ac f Z λa f=>Aa ?_
   refine Aq ?_
   obtain rfl:=sj hd
   exact⟨[(.bool false)],f.g Z,f.d,_,[],(gt ag aL),m,Z,Z⟩
theorem Wk.A0 {aa:Value}{b1 b2:Nat}{x0:Int}{ab:LI}{ac:Int}(hW:Cr W)(m:Mem W G w (ib b1 62 [aa]::ib b2 74 [(.int .u32 ac)]::H))(ad:RSl (RI .u32) G aa ab){y:Bool}(hd:D.A0 x0 ab ac=some y):
  Calls prog 99 #[(.int .u32 x0),(pb b1),(pb b2)] w (Res W G H (λ_ Ho v=>Ho=[ib b1 62 [aa],ib b2 74 [(.int .u32 ac)]]∧v=(.bool y))):=by
 refine Ar (args:=[(.int .u32 x0),(pb b1),(pb b2)]) (N:=10) [.tmp 4] func99 Z Z (lb Z) Z λa f=> ?_
 unfold D.A0 at hd
 refine Ae ?_
 refine Ac f Z λa f=>Ay ?_
 refine AJ 0 0 m Pl62 f Z Z Z Z λa f=>AJ 1 0 m C3 f Z Z Z Z λa f=>Ab f Z λa f=> ?_
 have⟨ae,af,hd⟩:=bind_some hd
 refine A6 f Z call100 (Wk.D1 hW m ad af) λag w ah m a f=>l_o f (Bv (f.e Z)) λa f=>Ac f Z λa f=>Aa ?_
 refine Aq ?_
 obtain rfl:=sj hd
 exact⟨[(.bool (!ae))],f.g Z,f.d,_,[ib b1 62 [aa],ib b2 74 [(.int .u32 ac)]],ah,m,Z,Z⟩
theorem Wk.P1 {v0 aa:Value}{b1c0 b1c1:Nat}{x0 ab:LI}{ac:Int}(hW:Cr W)(m:Mem W G w (ib b1c0 62 [aa]::ib b1c1 74 [(.int .u32 ac)]::H))(h0:RSl (RI .u32) G v0 x0)(ad:RSl (RI .u32) G aa ab){y:Int}(hd:D.P1 x0 ab ac=some y):
  Calls prog 133 #[v0,(.func (.func 99) #[] #[(pb b1c0),(pb b1c1)])] w (Res W G H (λ_ Ho v=>Ho=[ib b1c0 62 [aa],ib b1c1 74 [(.int .u32 ac)]]∧v=(iv y))):=by
 refine Ar (args:=[v0,(.func (.func 99) #[] #[(pb b1c0),(pb b1c1)])]) (N:=19) [.tmp 4] func133 Z Z (lb Z) Z λa f=> ?_
 unfold D.P1 at hd
 refine Ae ?_
 refine Ac f Z λa f=>Aa (Ag (Ae ?_))
 refine Ab f Z λa f=>AO underlying61 f Z Z h0 λa f=>Ab f Z λa f=>Aa ?_
 have⟨ae,af,hd⟩:=bind_some hd
 refine AH (λa w=>∃q_33':Unit,ae= .inl q_33'∧∃(ag:GH),GLe G ag∧Fr a 19 []∧Mem W ag w (ib b1c0 62 [aa]::ib b1c1 74 [(.int .u32 ac)]::H)) ?_ ?_
 ·refine Ak ?_
  refine AC (λah a w=>∃ai:Int,ai=ah∧∃(aj:GH),GLe G aj∧Fr a 19 [(0,v0),(1,(.func (.func 99) #[] #[(pb b1c0),(pb b1c1)])),(7,(iv (x0.length:Int))),(8,(iv ai))]∧Mem W aj w (ib b1c0 62 [aa]::ib b1c1 74 [(.int .u32 ac)]::H)) af ⟨_,Z,_,gr,f.k Z,m⟩ ?_
  clear af f m
  rintro ah ak al am a w ⟨ai,rfl,aj,an,f,m⟩
  have h0:=rd1 an h0
  have ad:=rd1 an ad
  refine Ae ?_
  refine Ai f Z Z AE λa f=>Aa (Ag ?_)
  rcases Af al with⟨ao,al⟩|⟨ao,al⟩
  ·refine Al f Z ao ?_
   refine Am ?_
   refine Ag (Ak (Ae ?_))
   refine Ab f Z λa f=>Ac f Z λa f=>Ay ?_
   refine Ab f Z λa f=>Ab f Z λa f=>Ab f Z λa f=> ?_
   have⟨ap,aq,al⟩:=bind_some al
   refine A2 T61 f Z Z Z h0 aq λar au a av aw f=> ?_
   subst aw
   refine Ax m C3 f Z Z av λa f=> ?_
   have⟨ax,ay,al⟩:=bind_some al
   refine Ex f Z Z Z call99 (Wk.A0 hW m ad ay) λaz aA aB w aC m aD a f=> ?_
   obtain⟨rfl,rfl⟩:=aD
   refine Aa ?_
   rcases Af al with⟨aE,al⟩|⟨aE,al⟩
   ·refine Al f Z aE ?_
    refine Ae ?_
    refine Ab f Z λa f=>Ac f Z λa f=>Aa ?_
    refine Aq ?_
    obtain rfl:=sj al
    obtain rfl:=am _ rfl
    obtain rfl:=sj hd
    exact⟨[(iv ai)],f.g Z,f.d,_,[ib b1c0 62 [aa],ib b1c1 74 [(.int .u32 ac)]],(gt an aC),m,Z,Z⟩
   ·refine Ah f Z aE ?_
    refine Am ?_
    refine Aj ?_
    refine Ai f Z Z Aw λa f=>Ab f Z λa f=>Aa ?_
    obtain rfl:=sj al
    exact⟨_,Z,_,Z,_,(gt an aC),f.k Z,m⟩
  ·refine Ah f Z ao ?_
   refine AA Z ?_
   obtain rfl:=sj al
   obtain rfl:=am _ rfl
   exact⟨_,Z,_,an,f.weak trivial,m⟩
 ·rintro a w ⟨_,rfl,ag,aF,f,m⟩
  refine Ae ?_
  refine Ac f Z λa f=>Aa ?_
  refine Aq ?_
  obtain rfl:=sj hd
  exact⟨[(iv (-1))],f.g Z,f.d,_,[ib b1c0 62 [aa],ib b1c1 74 [(.int .u32 ac)]],aF,m,Z,Z⟩
theorem Wk.J0 {v0 aa:Value}{b1c0 b1c1:Nat}{x0 ab:LI}{ac:Int}(hW:Cr W)(m:Mem W G w (ib b1c0 62 [aa]::ib b1c1 74 [(.int .u32 ac)]::H))(h0:RSl (RI .u32) G v0 x0)(ad:RSl (RI .u32) G aa ab){y:Bool}(hd:D.J0 x0 ab ac=some y):
  Calls prog 98 #[v0,(.func (.func 99) #[] #[(pb b1c0),(pb b1c1)])] w (Res W G H (λ_ Ho v=>Ho=[ib b1c0 62 [aa],ib b1c1 74 [(.int .u32 ac)]]∧v=(.bool y))):=by
 refine Ar (args:=[v0,(.func (.func 99) #[] #[(pb b1c0),(pb b1c1)])]) (N:=9) [.tmp 4] func98 Z Z (lb Z) Z λa f=> ?_
 unfold D.J0 at hd
 refine Ae ?_
 refine Ac f Z λa f=>Ay ?_
 refine Ab f Z λa f=>Ab f Z λa f=> ?_
 have⟨ae,af,hd⟩:=bind_some hd
 refine AL f Z call133 (Wk.P1 hW m h0 ad af) λag ah ai w aj m ak a f=> ?_
 obtain⟨rfl,rfl⟩:=ak
 refine Ai f Z Z Cs λa f=>Ac f Z λa f=>Aa ?_
 refine Aq ?_
 obtain rfl:=sj hd
 exact⟨[(.bool (decide ((0:Int)≤ae)))],f.g Z,f.d,_,[ib b1c0 62 [aa],ib b1c1 74 [(.int .u32 ac)]],aj,m,Z,Z⟩
theorem Wk.M {W:World}(hW:Cr W)(n:Nat):∀{w:World} {G:GH} {H:List Itm} {v0 v1 v2:Value} {x0:LI} {x1:LL} {x2:LI} (m:Mem W G w (H)) (h0:RSl (RI .u32) G v0 x0) (h1:RSl (RSl (RI .u32)) G v1 x1) (h2:RSl (RI .u32) G v2 x2) {y:(LI)} (hd:D.M n x0 x1 x2=some y),
  Calls prog 58 #[v0,v1,v2] w (Res W G H (λG' Ho v=>∃r0:Value,Ho=[]∧r0=v∧RSl (RI .u32) G' r0 y∧C7 r0=y.isEmpty)):=by
 induction n with
 |zero=>intros;rename_i hd;simp[D.M] at hd
 |succ fuel ih=>
  intro w G H v0 v1 v2 x0 x1 x2 m h0 h1 h2 y hd
  refine Ar (args:=[v0,v1,v2]) (N:=41) [.tmp 6] func58 Z Z (lb Z) Z λa f=> ?_
  unfold D.M at hd
  refine Ae ?_
  refine Bi (cs:=[v0]) m f Z Z h0.cells λaa w a m f=>Ac f Z λa f=>Aa (Ag (Ae ?_))
  refine Ab f Z λa f=>AO underlying61 f Z Z h2 λa f=>Ab f Z λa f=>AO underlying68 f Z Z h1 λa f=>Ai f Z Z BS λa f=>Aa ?_
  rcases Af hd with⟨ab,hd⟩|⟨ab,hd⟩
  ·refine Al f Z ab ?_
   refine Ae ?_
   refine Ab f Z λa f=>Ac f Z λa f=>Aa ?_
   refine Aq ?_
   have⟨_,ac,hd⟩:=bind_some hd
   have hx_4':=RSl.notNil h2 ac
   have m:Mem W G w H:=Mem.drop (H':=[ib aa 62 [v0]]) m
   obtain rfl:=sj hd
   exact⟨[v2],f.g Z,f.d,_,[],gr,m,_,Z,Z,h2,hx_4'⟩
  ·refine Ah f Z ab ?_
   refine Am ?_
   refine Ag (Ae ?_)
   refine Ab f Z λa f=>Ab f Z λa f=>AO underlying61 f Z Z h2 λa f=> ?_
   have⟨ad,ae,hd⟩:=bind_some hd
   refine A2 T68 f Z Z Z h1 ae λaf ag a ah ai f=>Ax m Pl61 f Z Z ah λa f=>AO underlying61 f Z Z ai λa f=>Ab f Z λa f=>Aa ?_
   have⟨aj,ak,hd⟩:=bind_some hd
   refine AH (λa w=>∃q_245':Unit,aj= .inl q_245'∧∃(al:GH),GLe G al∧Fr a 41 []∧Mem W al w (H)) ?_ ?_
   ·refine Ak ?_
    refine AC (λam a w=>∃an:Int,an=am∧∃(ao:GH),GLe G ao∧Fr a 41 [(1,v1),(2,v2),(3,(pb aa)),(20,ag),(21,(iv (ad.length:Int))),(22,(iv an))]∧Mem W ao w (ib aa 62 [v0]::H)) ak ⟨_,Z,_,gr,f.k Z,m⟩ ?_
    clear ak f m
    rintro am ap aq ar a w ⟨an,rfl,ao,au,f,m⟩
    have h1:=rd2 au h1
    have h2:=rd1 au h2
    have ai:=rd1 au ai
    have h0:=rd1 au h0
    refine Ae ?_
    refine Ai f Z Z AE λa f=>Aa (Ag ?_)
    rcases Af aq with⟨av,aq⟩|⟨av,aq⟩
    ·refine Al f Z av ?_
     refine Am ?_
     refine Ag (Ak (Ae ?_))
     have⟨aw,ax,aq⟩:=bind_some aq
     refine A2 T61 f Z Z Z ai ax λay az a aA aB f=> ?_
     subst aB
     refine Ax m C3 f Z Z aA λa f=>Bm (cs:=[(.int .u32 0)]) zeroValue74 m f Z Z λaC w a m f=>Az 0 0 (ds:=[(.int .u32 aw)]) m sizeOf74 f Z Z Z (An Z AK) Z (lb Z) Z λw m=>Aa (Ag (Ae ?_))
     refine Ab f Z λa f=>EJ f Z Z Z λa f=> ?_
     have m:=m.fr 1
     have⟨aD,aE,aq⟩:=bind_some aq
     refine AL f Z call98 (Wk.J0 hW m h2 h0 aE) λaF aG aH w aI m aJ a f=> ?_
     obtain⟨rfl,rfl⟩:=aJ
     have h1:=rd2 aI h1
     have h2:=rd1 aI h2
     have h0:=rd1 aI h0
     refine Aa ?_
     rcases Af aq with⟨aK,aq⟩|⟨aK,aq⟩
     ·refine Al f Z aK ?_
      refine AA Z ?_
      refine Aj ?_
      refine Ai f Z Z Aw λa f=>Ab f Z λa f=>Aa ?_
      have m:=m.eraseAt 1
      obtain rfl:=sj aq
      exact⟨_,Z,_,Z,_,(gt au aI),f.k Z,m⟩
     ·refine Ah f Z aK ?_
      refine Am ?_
      refine Ag ?_
      have⟨aL,aM,aq⟩:=bind_some aq
      refine AH (λa w=>∃aN:LI,aN=aL∧∃(aO:GH) (aP:Value),GLe aG aO∧Fr a 41 [(1,v1),(2,v2),(3,(pb aa)),(9,aP),(20,ag),(21,(iv (ad.length:Int))),(22,(iv an))]∧Mem W aO w (ib aa 62 [v0]::H)∧RSl (RI .u32) aO aP aN∧C7 aP=aN.isEmpty) ?_ ?_
      ·refine A3 7 AM (by kernel_rfl) m ?_
       refine BK 0 7 0 Pl62 Z Z Z f Z λa f=>Ao 1 7 Z f Z λa f=>Ao 2 7 Z f Z λa f=>BK 4 7 1 C3 Z Z Z f Z λa f=>CY (i:=3) (j:=5) (l1:= #[true,true,true,true,true,false,false,false,false]) (l2:= #[true,true,true,false,true,true,false,false,false]) Z Z (by kernel_rfl) Z Z ?_ ?_
       ·intro aQ w aR m aS aS
        have h1:=rd2 aR h1
        have h2:=rd1 aR h2
        have h0:=rd1 aR h0
        have⟨aT,aU,aM⟩:=bind_some aM
        refine AL f Z call101 (Wk.L m h2 aU) λaV aW aX w aY m aZ a f=> ?_
        obtain⟨a0,a1,rfl,rfl,a2⟩:=aZ
        have h1:=rd2 aY h1
        have h0:=rd1 aY h0
        refine Aa ?_
        refine aS aW [a1] _ _ aY m ?_
        refine Bp 5 Z λa3 w a4 m a5 a5=> ?_
        have h1:=rd2 a4 h1
        have h0:=rd1 a4 h0
        have a2:=od1 a4 a2
        refine AP (R:=(RI .u32)) (xs:=([aw]:LI)) (RI.one _) m T61 f Z Z Z (by decide) (All2.cons Z (All2.nil _)) λa6 a7 w a m a8 f=>Aa ?_
        refine a5 a3 [a6,a1] _ _ gr m ?_
        refine Bp 6 Z λa9 w ba m bb bb=> ?_
        have h1:=rd2 ba h1
        have h0:=rd1 ba h0
        have a8:=od1 ba a8
        have a2:=od1 ba a2
        have⟨bc,bd,aM⟩:=bind_some aM
        refine AW (RI.one _) 1 m a2 Z T61 Z (by decide) f Z Z Z (Ow.src (j:=0) a8 m Z) bd λbe bf w a m bg f=>Aa ?_
        refine bb a9 [a6,be] _ _ gr m ?_
        refine AU λbh w bi m=> ?_
        have h1:=rd2 bi h1
        have h0:=rd1 bi h0
        have bg:=od1 bi bg
        have m:Mem W bh w (be::a6::ib aa 62 [v0]::ib aC 74 [(.int .u32 aw)]::H):=m.fr 1
        obtain⟨bj,bk,m,bl⟩:=Ow.stamp (RI.mono _) bg m
        have h1:=rd2 bk h1
        have h0:=rd1 bk h0
        have⟨bm,bn,aM⟩:=bind_some aM
        refine AL f Z call58 (ih m h0 h1 bl bn) λbo bp bq w br m bs a f=> ?_
        obtain⟨bt,rfl,rfl,bu,bv⟩:=bs
        refine Ac f Z λa f=>Aa ?_
        have m:=m.fr 1
        have m:=m.eraseAt 2
        have m:=m.eraseAt 1
        obtain rfl:=sj aM
        exact⟨_,Z,_,bt,(gt aR (gt aY (gt a4 (gt ba (gt bi (gt bk br)))))),f.k Z,m,bu,bv⟩
       ·intro a3 w a4 m a5 a5
        have⟨aT,aU,aM⟩:=bind_some aM
        have⟨bc,bd,aM⟩:=bind_some aM
        have⟨bm,bn,aM⟩:=bind_some aM
        have h1:=rd2 a4 h1
        have h2:=rd1 a4 h2
        have h0:=rd1 a4 h0
        refine AP (R:=(RI .u32)) (xs:=([aw]:LI)) (RI.one _) m T61 f Z Z Z (by decide) (All2.cons Z (All2.nil _)) λa6 a7 w a m a8 f=>Aa ?_
        refine a5 a3 [a6] _ _ gr m ?_
        refine Bp 3 Z λaQ w aR m aS aS=> ?_
        have h1:=rd2 aR h1
        have h2:=rd1 aR h2
        have h0:=rd1 aR h0
        have a8:=od1 aR a8
        refine AL f Z call101 (Wk.L m h2 aU) λaV aW aX w aY m aZ a f=> ?_
        obtain⟨a0,a1,rfl,rfl,a2⟩:=aZ
        have h1:=rd2 aY h1
        have h0:=rd1 aY h0
        have a8:=od1 aY a8
        refine Aa ?_
        refine aS aW [a1,a6] _ _ aY m ?_
        refine Bp 6 Z λa9 w ba m bb bb=> ?_
        have h1:=rd2 ba h1
        have h0:=rd1 ba h0
        have a2:=od1 ba a2
        have a8:=od1 ba a8
        refine AW (RI.one _) 0 m a2 Z T61 Z (by decide) f Z Z Z (Ow.src (j:=1) a8 m Z) bd λbe bf w a m bg f=>Aa ?_
        refine bb a9 [be,a6] _ _ gr m ?_
        refine AU λbh w bi m=> ?_
        have h1:=rd2 bi h1
        have h0:=rd1 bi h0
        have bg:=od1 bi bg
        obtain⟨bj,bk,m,bl⟩:=Ow.stamp (RI.mono _) bg m
        have h1:=rd2 bk h1
        have h0:=rd1 bk h0
        refine AL f Z call58 (ih m h0 h1 bl bn) λbo bp bq w br m bs a f=> ?_
        obtain⟨bt,rfl,rfl,bu,bv⟩:=bs
        refine Ac f Z λa f=>Aa ?_
        have m:=m.fr 1
        have m:=m.eraseAt 2
        have m:=m.eraseAt 1
        obtain rfl:=sj aM
        exact⟨_,Z,_,bt,(gt a4 (gt aR (gt aY (gt ba (gt bi (gt bk br)))))),f.k Z,m,bu,bv⟩
      ·rintro a w ⟨aN,rfl,aO,aP,bw,f,m,bx,bz⟩
       refine Ae ?_
       refine Ab f Z λa f=>l_o f (r_nil_neq (f.e Z) (f.e Z) bx.hdr underlying61 bz) λa f=>Aa ?_
       rcases Af aq with⟨bA,aq⟩|⟨bA,aq⟩
       ·refine Al f Z bA ?_
        refine Ae ?_
        refine Ab f Z λa f=>Ac f Z λa f=>Aa ?_
        refine Aq ?_
        have m:Mem W aO w H:=Mem.drop (H':=[ib aa 62 [v0]]) m
        obtain rfl:=sj aq
        obtain rfl:=ar _ rfl
        obtain rfl:=sj hd
        exact⟨[aP],f.g Z,f.d,_,[],(gt au (gt aI bw)),m,_,Z,Z,bx,bz⟩
       ·refine Ah f Z bA ?_
        refine Am ?_
        refine Aj ?_
        refine Ai f Z Z Aw λa f=>Ab f Z λa f=>Aa ?_
        obtain rfl:=sj aq
        exact⟨_,Z,_,Z,_,(gt au (gt aI bw)),f.k Z,m⟩
    ·refine Ah f Z av ?_
     refine AA Z ?_
     have m:Mem W ao w H:=Mem.drop (H':=[ib aa 62 [v0]]) m
     obtain rfl:=sj aq
     obtain rfl:=ar _ rfl
     exact⟨_,Z,_,au,f.weak trivial,m⟩
   ·rintro a w ⟨_,rfl,al,bB,f,m⟩
    refine Ae ?_
    refine Ac f Z λa f=>Aa ?_
    refine Aq ?_
    have bC:=RSl.nil (RI .u32) al
    obtain rfl:=sj hd
    exact⟨[sn],f.g Z,f.d,_,[],bB,m,_,Z,Z,bC,Z⟩
theorem Wk.g {v0 v1 v2:Value}{x0:LI}{x1:LL}{x2:LI}(hW:Cr W)(m:Mem W G w (H))(h0:RSl (RI .u32) G v0 x0)(h1:RSl (RSl (RI .u32)) G v1 x1)(h2:RSl (RI .u32) G v2 x2){y:(LI)}(hd:D.g x0 x1 x2=some y):
  Calls prog 58 #[v0,v1,v2] w (Res W G H (λG' Ho v=>∃r0:Value,Ho=[]∧r0=v∧RSl (RI .u32) G' r0 y∧C7 r0=y.isEmpty)):=by
 exact Wk.M hW BL m h0 h1 h2 hd
end Go.Proofs.YtkoehcencogjpaaGreatDoor

set_option maxRecDepth 100000
namespace Go.Proofs.YtkoehcencogjpaaGreatDoor
open Go Go.Sx
theorem bbT :SlT Tryz.prog 61 74 1 4 (.int .u32 0):=⟨Tryz.underlying61,Tryz.t74,by kernel_rfl,by kernel_rfl,by kernel_rfl,by kernel_rfl⟩
theorem bbTT :SlT Tryz.prog 68 61 1 24 (.slice none 0 0):=⟨Tryz.underlying68,Tryz.t61,by kernel_rfl,by kernel_rfl,by kernel_rfl,by kernel_rfl⟩
theorem bbPc :B4 Tryz.prog 68:=Tryz.isAgg68
theorem bbPn :B4 Tryz.prog 62:=Tryz.isAgg62
theorem bbPv :B4 Tryz.prog 74:=Tryz.isAgg74
theorem bbAg :Agg Tryz.prog 31 1:=⟨Tryz.isAgg31,Tryz.sizeOf31⟩
set_option maxHeartbeats 1000000 in
theorem Wk.z2 {W:World}{σ:Type}{f0:Int→σ→Option (Bool×σ)}{J:GH→σ→List Itm→Prop}{g:FuncId}{cs:List Value}{G0:GH}
  (hJ:∀G G' s I,GLe G G'→J G s I→J G' s I)
  (hg:∀(ars:Array Value) (w:World),(callFunc g ars).run Tryz.prog w= .ok (.enter g ars) w)
  (hcl:∀(w:World) (G:GH) (H:List Itm) (c:Int) (s:σ) (y:Bool×σ) (I:List Itm),GLe G0 G→J G s I→Mem W G w (I++H)→f0 c s=some y→Calls Tryz.prog g ((.int .u32 c)::cs).toArray w (Res W G H (λG' Ho v=>J G' y.2 Ho∧v= .bool y.1))) (n:Nat):
  ∀(w:World) (G:GH) (H:List Itm) (nn frm many chosen:Int) (s:σ) (y:Bool×σ) (I:List Itm),GLe G0 G→J G s I→Mem W G w (I++H)→D.a0 f0 n nn frm many chosen s=some y→
   Calls Tryz.prog 52 #[(.int .i64 nn),(.int .i64 frm),(.int .i64 many),(.int .u32 chosen),(.func (.func g) #[] cs.toArray)] w (Res W G H (λG' Ho v=>J G' y.2 Ho∧v= .bool y.1)):=by
 induction n with
 |zero=>intro w G H nn frm many chosen s y I h0 hj m hd;simp[D.a0] at hd
 |succ n ih=>
  intro w G H nn frm many chosen s y I h0 hj m hd
  refine Ar (args:=[(.int .i64 nn),(.int .i64 frm),(.int .i64 many),(.int .u32 chosen),(.func (.func g) #[] cs.toArray)]) (N:=36) [.tmp 10] Tryz.func52 rfl rfl (Nat.le_of_ble_eq_true rfl) rfl (λa f=> ?_)
  unfold D.a0 at hd
  refine Ag ?_
  refine Aj ?_
  refine Bs f rfl rfl rfl (Br (f.eval rfl)) (λa f=> ?_)
  refine Aa ?_
  refine Ag ?_
  refine Ag ?_
  refine Aj ?_
  refine Bs f rfl rfl rfl (Bg (f.eval rfl)) (λa f=> ?_)
  refine Bs f rfl rfl rfl (AV (f.eval rfl) (f.eval rfl) BS) (λa f=> ?_)
  refine Aa ?_
  rcases Af hd with⟨hc1,hd⟩|⟨hc1,hd⟩
  ·refine Al f rfl hc1 ?_
   refine Ag ?_
   refine Aj ?_
   refine Bs f rfl rfl rfl (Bg (f.eval rfl)) (λa f=> ?_)
   refine Bs f rfl rfl rfl (Bg (f.eval rfl)) (λa f=> ?_)
   refine Ex f rfl rfl rfl hg (hcl _ _ _ _ _ _ _ h0 hj m hd) (λv1 G1 Ho1 w hl1 m hQ1 a f=> ?_)
   obtain⟨hj1,rfl⟩:=hQ1
   refine Bs f rfl rfl rfl (Br (f.eval rfl)) (λa f=> ?_)
   refine Aa ?_
   refine Aq ?_
   exact⟨[.bool y.1],⟨f.get _ _ rfl,trivial⟩,f.defers,G1,Ho1,hl1,m,hj1,rfl⟩
  ·refine Ah f rfl hc1 ?_
   refine Am ?_
   refine Ag ?_
   refine Ag ?_
   refine Aj ?_
   refine Bs f rfl rfl rfl (Bg (f.eval rfl)) (λa f=> ?_)
   refine Bs f rfl rfl rfl (Br (f.eval rfl)) (λa f=> ?_)
   refine Aa ?_
   refine AH (λa w=>∃(G':GH) (I':List Itm),GLe G G'∧y.1=false∧J G' y.2 I'∧Fr a 36 []∧Mem W G' w (I'++H)) ?_ ?_
   ·refine Ak ?_
    refine AC (fun(q:σ×Int) a w=>∃(G':GH) (I':List Itm),GLe G G'∧J G' q.1 I'∧Fr a 36 [(0,(.int .i64 nn)),(2,(.int .i64 many)),(3,(.int .u32 chosen)),(4,(.func (.func g) #[] cs.toArray)),(11,(.int .i64 q.2))]∧Mem W G' w (I'++H)) hd ⟨_,_,GLe.refl _,hj,f.weak ⟨rfl,rfl,rfl,rfl,rfl,trivial⟩,m⟩ ?_
    clear hd f m hj
    rintro⟨s,v⟩ o hs hqq a w ⟨G1,I1,hl1,hj,f,m⟩
    dsimp only at f m hj
    unfold D.Y0 at hs
    dsimp only at hs
    refine Ag ?_
    refine Ag ?_
    refine Aj ?_
    refine Bs f rfl rfl rfl (Bg (f.eval rfl)) (λa f=> ?_)
    refine Bs f rfl rfl rfl (Bg (f.eval rfl)) (λa f=> ?_)
    refine Bs f rfl rfl rfl (AV (f.eval rfl) (f.eval rfl) Aw) (λa f=> ?_)
    refine Bs f rfl rfl rfl (Bg (f.eval rfl)) (λa f=> ?_)
    refine Bs f rfl rfl rfl (AV (f.eval rfl) (f.eval rfl) CD) (λa f=> ?_)
    refine Aa ?_
    rcases Af hs with⟨hc2,hs⟩|⟨hc2,hs⟩
    ·refine Al f rfl hc2 ?_
     refine Am ?_
     obtain⟨oo,ho,hs⟩:=bind_some hs
     obtain⟨r,hr,hs⟩:=bind_some hs
     refine Ag ?_
     refine Ak ?_
     refine Ag ?_
     refine Aj ?_
     refine Bs f rfl rfl rfl (Bg (f.eval rfl)) (λa f=> ?_)
     refine Bs f rfl rfl rfl (Bg (f.eval rfl)) (λa f=> ?_)
     refine Bs f rfl rfl rfl (AV (f.eval rfl) (f.eval rfl) Aw) (λa f=> ?_)
     refine Bs f rfl rfl rfl (Bg (f.eval rfl)) (λa f=> ?_)
     refine Bs f rfl rfl rfl (AV (f.eval rfl) (f.eval rfl) Bh) (λa f=> ?_)
     refine Bs f rfl rfl rfl (Bg (f.eval rfl)) (λa f=> ?_)
     refine Bs f rfl rfl rfl (Bg (f.eval rfl)) (λa f=> ?_)
     refine Dp f rfl rfl Tryz.call87 (Wk.f m ho) (λv2 G2 Ho2 w hl2 m hQ2 a f=> ?_)
     obtain⟨rfl,rfl⟩:=hQ2
     have m:Mem W G2 w (I1++H):=m
     have hj:=hJ _ _ _ _ hl2 hj
     refine Bs f rfl rfl rfl (AV (f.eval rfl) (f.eval rfl) b_or) (λa f=> ?_)
     refine Bs f rfl rfl rfl (Bg (f.eval rfl)) (λa f=> ?_)
     refine Dp f rfl rfl Tryz.call52 (ih _ _ _ _ _ _ _ _ _ _ (GLe.trans h0 (GLe.trans hl1 hl2)) hj m hr) (λv3 G3 Ho3 w hl3 m hQ3 a f=> ?_)
     obtain⟨hj3,rfl⟩:=hQ3
     refine Aa ?_
     have hle:GLe G G3:=GLe.trans hl1 (GLe.trans hl2 hl3)
     rcases Af hs with⟨hc3,hs⟩|⟨hc3,hs⟩
     ·refine Al f rfl hc3 ?_
      obtain rfl:=Option.some.inj hs
      obtain rfl:=hqq _ rfl
      refine Ag ?_
      refine Aj ?_
      refine Bs f rfl rfl rfl (Br (f.eval rfl)) (λa f=> ?_)
      refine Aa ?_
      refine Aq ?_
      exact⟨[.bool true],⟨f.get _ _ rfl,trivial⟩,f.defers,G3,Ho3,hle,m,hj3,rfl⟩
     ·refine Ah f rfl hc3 ?_
      obtain rfl:=Option.some.inj hs
      refine Am ?_
      refine Aj ?_
      refine Bs f rfl rfl rfl (Bg (f.eval rfl)) (λa f=> ?_)
      refine Bs f rfl rfl rfl (AV (f.eval rfl) (f.eval rfl) Aw) (λa f=> ?_)
      refine Bs f rfl rfl rfl (Br (f.eval rfl)) (λa f=> ?_)
      refine Aa ?_
      exact⟨_,rfl,G3,Ho3,hle,hj3,f.weak ⟨rfl,rfl,rfl,rfl,rfl,trivial⟩,m⟩
    ·refine Ah f rfl hc2 ?_
     refine AA rfl ?_
     obtain rfl:=Option.some.inj hs
     obtain rfl:=hqq _ rfl
     exact⟨G1,I1,hl1,rfl,hj,f.weak trivial,m⟩
   ·clear hd f m hj
    rintro a w ⟨G1,I1,hl1,hy,hj,f,m⟩
    refine Ag ?_
    refine Aj ?_
    refine Bs f rfl rfl rfl (Br (f.eval rfl)) (λa f=> ?_)
    refine Aa ?_
    refine Aq ?_
    exact⟨[.bool false],⟨f.get _ _ rfl,trivial⟩,f.defers,G1,I1,hl1,m,hj,congrArg Value.bool hy.symm⟩
def bbJ (bc ba:Nat)(vF:Value)(G:GH)(s:List (List Int))(I:List Itm):Prop:=∃(v:Value) (it:Itm),I=[Itm.box bc 68 [v],it,Itm.box ba 62 [vF]]∧Ow (RSl (RI .u32)) 61 G it v s
theorem bbJ.mono {bc ba:Nat}{vF:Value}(G G':GH)(s:List (List Int))(I:List Itm)(h:GLe G G')(hj:bbJ bc ba vF G s I):bbJ bc ba vF G' s I:=by
 obtain⟨v,it,e,o⟩:=hj
 exact⟨v,it,e,Ow.mono (RSl.mono (RI.mono _)) h o⟩
set_option maxHeartbeats 2000000 in
theorem Wk.x2 {W w:World}{G:GH}{H:List Itm}{v0_0:Value}{x0_0:List (List Int)}(hW:Cr W)(m:Mem W G w H)(h0_0:RSl (RSl (RI .i64)) G v0_0 x0_0){y:List (List Int)}(hd:D.u x0_0=some y):
  Calls Tryz.prog 22 #[(.agg #[v0_0])] w (Res W G H (λG' Ho v=>∃r0:Value,∃i0:Itm,Ho=[i0]∧r0=v∧Ow2 (RI .i64) 26 2 G' i0 r0 y)):=by
 refine Ar (args:=[(.agg #[v0_0])]) (N:=42) [.tmp 2] Tryz.func22 rfl rfl (Nat.le_of_ble_eq_true rfl) rfl (λa f=> ?_)
 unfold D.u at hd
 obtain⟨b,hb,hd⟩:=bind_some hd
 refine Ag ?_
 refine Aj ?_
 refine Bi (cs:=[v0_0]) m f rfl rfl rfl (λbg w a m f=> ?_)
 refine Bs f rfl rfl rfl (Br (f.eval rfl)) (λa f=> ?_)
 refine Aa ?_
 refine Ag ?_
 refine Ag ?_
 refine Aj ?_
 refine AB 0 0 (ds:=[v0_0]) m bbAg f rfl rfl rfl rfl rfl (λa f=> ?_)
 refine Dp f rfl rfl Tryz.call19 (Wk.P m h0_0 hb) (λv1 G1 Ho1 w hl1 m hQ1 a f=> ?_)
 obtain⟨rfl,rfl⟩:=hQ1
 have h0_0:=RSl.mono (RSl.mono (RI.mono _)) _ _ _ _ hl1 h0_0
 have m:Mem W G1 w (Itm.box bg 31 [v0_0]::H):=m
 refine Bs f rfl rfl rfl (Bv (f.eval rfl)) (λa f=> ?_)
 refine Aa ?_
 rcases Af hd with⟨hc1,hd⟩|⟨hc1,hd⟩
 ·obtain rfl:=Option.some.inj hd
  refine Al f rfl hc1 ?_
  refine Ag ?_
  refine Aj ?_
  refine Bs f rfl rfl rfl (Br (f.eval rfl)) (λa f=> ?_)
  refine Aa ?_
  refine Aq ?_
  have m:Mem W G1 w H:=m.tail
  obtain⟨itN,m,oN⟩:=Ow2.nil (RI .i64) 26 2 m
  exact⟨[.slice none 0 0],⟨f.get _ _ rfl,trivial⟩,f.defers,G1,[itN],hl1,m,_,_,rfl,rfl,oN⟩
 ·refine Ah f rfl hc1 ?_
  refine Am ?_
  obtain⟨F,hF,hd⟩:=bind_some hd
  obtain⟨wd,hwd,hd⟩:=bind_some hd
  obtain⟨r,hr,hd⟩:=bind_some hd
  obtain⟨l,hl,hd⟩:=bind_some hd
  obtain⟨o,ho,hd⟩:=bind_some hd
  obtain⟨z,hz,hd⟩:=bind_some hd
  obtain rfl:=Option.some.inj hd
  refine Ag ?_
  refine Aj ?_
  refine AB 0 0 (ds:=[v0_0]) m bbAg f rfl rfl rfl rfl rfl (λa f=> ?_)
  refine Dp f rfl rfl Tryz.call47 (Wk.i0 m h0_0 hF) (λv2 G2 Ho2 w hl2 m hQ2 a f=> ?_)
  obtain⟨vF,itF,rfl,rfl,oF⟩:=hQ2
  have m:Mem W G2 w (itF::Itm.box bg 31 [v0_0]::H):=m
  obtain⟨G3,hl3,m,hA⟩:=oF.stamp (RI.mono _) m
  refine AP (R:=(RSl (RI .u32))) (xs:=([]:List (List Int))) (RSl.one _) m bbTT f rfl rfl rfl (by decide) (All2.nil _) (λitc vc w a m oc f=> ?_)
  refine Bm (cs:=[(.slice none 0 0)]) Tryz.zeroValue62 m f rfl rfl (λba w a m f=> ?_)
  refine Bm (cs:=[(.slice none 0 0)]) Tryz.zeroValue68 m f rfl rfl (λbc w a m f=> ?_)
  refine Az 1 0 (ds:=[vF]) m Tryz.sizeOf62 f rfl rfl hA.cells (An hA.one1 AK) rfl (Nat.le_of_ble_eq_true rfl) rfl (λw m=> ?_)
  refine Az 0 0 (ds:=[vc]) m Tryz.sizeOf68 f rfl rfl (Ow.cells 2 m oc rfl) (An (Ow.one1 2 m oc rfl) AK) rfl (Nat.le_of_ble_eq_true rfl) rfl (λw m=> ?_)
  have m:Mem W G3 w (Itm.box bc 68 [vc]::Itm.box ba 62 [vF]::itc::Itm.box bg 31 [v0_0]::H):=m
  refine Aa ?_
  have hle3:GLe G G3:=GLe.trans hl1 (GLe.trans hl2 hl3)
  refine Ag ?_
  refine A3 6 AM (by kernel_rfl) m ?_
  refine Fj (i:=0) (listed':= #[true,false,false,false,false,false,false]) 6 1 bbPn rfl rfl rfl (by kernel_rfl) rfl f rfl rfl rfl (λa f=> ?_)
  refine q_len (i:=1) (listed':= #[true,true,false,false,false,false,false]) 6 Tryz.underlying62 hA rfl (by kernel_rfl) rfl f rfl rfl rfl (λa f=> ?_)
  refine Fj (i:=2) (listed':= #[true,true,true,false,false,false,false]) 6 1 bbPn rfl rfl rfl (by kernel_rfl) rfl f rfl rfl rfl (λa f=> ?_)
  refine DS (i:=5) (v:= .func (.func 55) #[] ([(.pointer (some ⟨bc,0,none⟩)),(.pointer (some ⟨ba,0,none⟩))]:List Value).toArray) (listed':= #[true,true,true,false,false,true,false]) 6 rfl (by kernel_rfl) rfl f rfl rfl rfl (λ_ _ _ _ _=>r_makeFunc (by rw[List.map_toArray,List.map_toArray,f.evalAll (vs:=[]) rfl,f.evalAll (vs:=[(.pointer (some ⟨bc,0,none⟩)),(.pointer (some ⟨ba,0,none⟩))]) rfl];rfl)) (λa f=> ?_)
  refine q_one (i:=3) (listed':= #[true,true,true,true,false,true,false]) rfl (by kernel_rfl) rfl (λG4 w hl4 m K4 K4=> ?_)
  have hA:=RSl.mono (RI.mono _) _ _ _ _ hl4 hA
  have oc:=Ow.mono (RSl.mono (RI.mono _)) hl4 oc
  have m:Mem W G4 w (Itm.box bc 68 [vc]::Itm.box ba 62 [vF]::itc::Itm.box bg 31 [v0_0]::H):=m
  refine Dp f rfl rfl Tryz.call53 (Wk.w2 m hA) (λv5 G5 Ho5 w hl5 m hQ5 a f=> ?_)
  obtain⟨bx,vm,itM,rfl,rfl,oM⟩:=hQ5
  have hA:=RSl.mono (RI.mono _) _ _ _ _ hl5 hA
  have oc:=Ow.mono (RSl.mono (RI.mono _)) hl5 oc
  refine Aa ?_
  refine K4 G5 [CH bx vF vm,itM] _ _ hl5 m ?_
  refine q_one (i:=4) (listed':= #[true,true,true,true,true,true,false]) rfl (by kernel_rfl) rfl (λG6 w hl6 m K6 K6=> ?_)
  have hA:=RSl.mono (RI.mono _) _ _ _ _ hl6 hA
  have oc:=Ow.mono (RSl.mono (RI.mono _)) hl6 oc
  have m:Mem W G6 w (CH bx vF vm::itM::Itm.box bc 68 [vc]::Itm.box ba 62 [vF]::itc::Itm.box bg 31 [v0_0]::H):=m
  refine Dp f rfl rfl Tryz.call54 ((Wk.u2 hW BL).go m hA oM (λkv h=>by simp at h) hwd) (λv7 G7 Ho7 w hl7 m hQ7 a f=> ?_)
  obtain⟨itM',M',rfl,rfl,oM',hcM⟩:=hQ7
  have hA:=RSl.mono (RI.mono _) _ _ _ _ hl7 hA
  have oc:=Ow.mono (RSl.mono (RI.mono _)) hl7 oc
  refine Aa ?_
  refine K6 G7 [CH bx vF vm,itM'] _ _ hl7 m ?_
  refine AU (λG8 w hl8 m=> ?_)
  have hA:=RSl.mono (RI.mono _) _ _ _ _ hl8 hA
  have oc:=Ow.mono (RSl.mono (RI.mono _)) hl8 oc
  have m:Mem W G8 w (CH bx vF vm::itM'::Itm.box bc 68 [vc]::Itm.box ba 62 [vF]::itc::Itm.box bg 31 [v0_0]::H):=m
  have m:Mem W G8 w (Itm.box bc 68 [vc]::Itm.box ba 62 [vF]::itc::Itm.box bg 31 [v0_0]::H):=m.tail.tail
  have m:Mem W G8 w (itc::Itm.box bc 68 [vc]::Itm.box ba 62 [vF]::Itm.box bg 31 [v0_0]::H):=m.front 2 rfl
  have m:Mem W G8 w (Itm.box bc 68 [vc]::itc::Itm.box ba 62 [vF]::Itm.box bg 31 [v0_0]::H):=m.front 1 rfl
  have m:Mem W G8 w (([Itm.box bc 68 [vc],itc,Itm.box ba 62 [vF]]:List Itm)++(Itm.box bg 31 [v0_0]::H)):=m
  refine Dp f rfl rfl Tryz.call52 (Wk.z2 (J:=bbJ bc ba vF) (G0:=G8) bbJ.mono Tryz.call55 (λw G' H' c s y I hG hj m hd=>by
   obtain⟨v,it,rfl,o⟩:=hj
   have m':Mem W G' w (it::Itm.box bc 68 [v]::Itm.box ba 62 [vF]::H'):=m.front 1 rfl
   refine(Wk.i2 hW m' o (RSl.mono (RI.mono _) _ _ _ _ hG hA) hd).mono (λe w' hr=> ?_)
   obtain⟨v',rfl,G'',Ho,hle,m,r0,i0,rfl,rfl,o'⟩:=hr
   exact⟨_,rfl,G'',_,hle,m,⟨r0,i0,rfl,o'⟩,rfl⟩) BL _ _ _ _ _ _ _ _ _ _ (GLe.refl _) ⟨vc,itc,rfl,oc⟩ m hr) (λv9 G9 Ho9 w hl9 m hQ9 a f=> ?_)
  obtain⟨⟨vc,itc,rfl,oc⟩,rfl⟩:=hQ9
  have hA:=RSl.mono (RI.mono _) _ _ _ _ hl9 hA
  have m:Mem W G9 w (Itm.box bc 68 [vc]::itc::Itm.box ba 62 [vF]::Itm.box bg 31 [v0_0]::H):=m
  refine Aa ?_
  have hle9:GLe G G9:=GLe.trans hle3 (GLe.trans hl4 (GLe.trans hl5 (GLe.trans hl6 (GLe.trans hl7 (GLe.trans hl8 hl9)))))
  refine Ag ?_
  refine Aj ?_
  refine AP (R:=(RI .u32)) (xs:=([]:List Int)) (RI.one _) m bbT f rfl rfl rfl (by decide) (All2.nil _) (λito vo w a m oo f=> ?_)
  refine Bs f rfl rfl rfl (Br (f.eval rfl)) (λa f=> ?_)
  refine Aa ?_
  have m:Mem W G9 w (ito::Itm.box bc 68 [vc]::itc::Itm.box ba 62 [vF]::Itm.box bg 31 [v0_0]::H):=m
  refine Ag ?_
  refine Ag ?_
  refine Aj ?_
  refine AJ 3 0 m bbPn f rfl rfl rfl rfl (λa f=> ?_)
  refine AJ 1 0 m bbPc f rfl rfl rfl rfl (λa f=> ?_)
  have m:Mem W G9 w (itc::ito::Itm.box bc 68 [vc]::Itm.box ba 62 [vF]::Itm.box bg 31 [v0_0]::H):=m.front 2 rfl
  obtain⟨G10,hl10,m,hC⟩:=oc.stamp (RSl.mono (RI.mono _)) m
  have hA:=RSl.mono (RI.mono _) _ _ _ _ hl10 hA
  have oo:=Ow.mono (RI.mono _) hl10 oo
  refine AP (R:=(RI .u32)) (xs:=([]:List Int)) (RI.one _) m bbT f rfl rfl rfl (by decide) (All2.nil _) (λitn vn w a m on f=> ?_)
  obtain⟨G11,hl11,m,hN⟩:=on.stamp (RI.mono _) m
  have hA:=RSl.mono (RI.mono _) _ _ _ _ hl11 hA
  have hC:=RSl.mono (RSl.mono (RI.mono _)) _ _ _ _ hl11 hC
  have oo:=Ow.mono (RI.mono _) hl11 oo
  refine Dp f rfl rfl Tryz.call58 (Wk.g hW m hA hC hN hl) (λv12 G12 Ho12 w hl12 m hQ12 a f=> ?_)
  obtain⟨vl,rfl,rfl,hL,_⟩:=hQ12
  have oo:=Ow.mono (RI.mono _) hl12 oo
  have m:Mem W G12 w (ito::Itm.box bc 68 [vc]::Itm.box ba 62 [vF]::Itm.box bg 31 [v0_0]::H):=m
  refine AO Tryz.underlying61 f rfl rfl hL (λa f=> ?_)
  refine Bs f rfl rfl rfl (Bg (f.eval rfl)) (λa f=> ?_)
  refine Aa ?_
  have hle12:GLe G G12:=GLe.trans hle9 (GLe.trans hl10 (GLe.trans hl11 hl12))
  refine AH (λa w=>∃(G':GH) (v':Value) (it':Itm),GLe G12 G'∧Fr a 42 [(5,v')]∧Mem W G' w (it'::Itm.box bc 68 [vc]::Itm.box ba 62 [vF]::Itm.box bg 31 [v0_0]::H)∧Ow (RI .u32) 74 G' it' v' o) ?_ ?_
  ·refine Ak ?_
   refine AC (fun(q:List Int×Int) a w=>∃(G':GH) (v':Value) (it':Itm),GLe G12 G'∧Fr a 42 [(5,v'),(25,vl),(26,(.int .i64 (l.length:Int))),(27,(.int .i64 q.2))]∧Mem W G' w (it'::Itm.box bc 68 [vc]::Itm.box ba 62 [vF]::Itm.box bg 31 [v0_0]::H)∧Ow (RI .u32) 74 G' it' v' q.1) ho ⟨_,_,_,GLe.refl _,f.weak ⟨rfl,rfl,rfl,rfl,trivial⟩,m,oo⟩ ?_
   clear ho f m oo
   rintro⟨acc,i⟩ out hs hqq a w ⟨G13,vo,ito,hl13,f,m,oo⟩
   dsimp only at f oo
   have hL:=RSl.mono (RI.mono _) _ _ _ _ hl13 hL
   unfold D.d2 at hs
   dsimp only at hs
   refine Ag ?_
   refine Aj ?_
   refine Bs f rfl rfl rfl (AV (f.eval rfl) (f.eval rfl) AE) (λa f=> ?_)
   refine Aa ?_
   refine Ag ?_
   rcases Af hs with⟨hc2,hs⟩|⟨hc2,hs⟩
   ·refine Al f rfl hc2 ?_
    refine Am ?_
    obtain⟨x,hx,hs⟩:=bind_some hs
    obtain⟨b2,hb2,hs⟩:=bind_some hs
    refine Ag ?_
    refine Ak ?_
    refine Ag ?_
    refine Aj ?_
    refine A2 bbT f rfl rfl rfl hL hx (λp6 c6 a g6 h6 f=> ?_)
    subst h6
    refine Ax m bbPv f rfl rfl g6 (λa f=> ?_)
    refine Bs f rfl rfl rfl (Br (f.eval rfl)) (λa f=> ?_)
    refine Aa ?_
    refine Ag ?_
    refine Aj ?_
    refine Bs f rfl rfl rfl (Bg (f.eval rfl)) (λa f=> ?_)
    refine Bs f rfl rfl rfl (Bg (f.eval rfl)) (λa f=> ?_)
    refine Dp f rfl rfl Tryz.call59 (Ow.lendCall (RI.mono _) 0 oo m rfl (λG_5 hl_6 m h_7=>Wk.J1 m h_7 hb2) (λ_ _ _ _ h=>h)) (λv14 G14 Ho14 w hl14 m hQ14 a f=> ?_)
    obtain⟨rfl,rfl⟩:=hQ14
    have hL:=RSl.mono (RI.mono _) _ _ _ _ hl14 hL
    have oo:=Ow.mono (RI.mono _) hl14 oo
    have m:Mem W G14 w (ito::Itm.box bc 68 [vc]::Itm.box ba 62 [vF]::Itm.box bg 31 [v0_0]::H):=m
    refine Bs f rfl rfl rfl (Bv (f.eval rfl)) (λa f=> ?_)
    refine Aa ?_
    have hle14:GLe G12 G14:=GLe.trans hl13 hl14
    rcases Af hs with⟨hc3,hs⟩|⟨hc3,hs⟩
    ·refine Al f rfl hc3 ?_
     obtain⟨o2,ho2,hs⟩:=bind_some hs
     obtain rfl:=Option.some.inj hs
     refine Aj ?_
     refine Bs f rfl rfl rfl (Bg (f.eval rfl)) (λa f=> ?_)
     refine Bs f rfl rfl rfl (Bg (f.eval rfl)) (λa f=> ?_)
     refine AP (R:=(RI .u32)) (xs:=([x]:List Int)) (RI.one _) m bbT f rfl rfl rfl (by decide) (All2.cons rfl (All2.nil _)) (λitn vn w a m on f=> ?_)
     refine AW (RI.one _) 1 m oo rfl bbT rfl (by decide) f rfl rfl rfl (Ow.src (j:=0) on m rfl) ho2 (λito2 vo2 w a m oo2 f=> ?_)
     have m:Mem W G14 w (ito2::Itm.box bc 68 [vc]::Itm.box ba 62 [vF]::Itm.box bg 31 [v0_0]::H):=m.tail
     refine Bs f rfl rfl rfl (Br (f.eval rfl)) (λa f=> ?_)
     refine Aa ?_
     refine Aj ?_
     refine Bs f rfl rfl rfl (AV (f.eval rfl) (f.eval rfl) Aw) (λa f=> ?_)
     refine Bs f rfl rfl rfl (Bg (f.eval rfl)) (λa f=> ?_)
     refine Aa ?_
     exact⟨_,rfl,G14,_,_,hle14,f.weak ⟨rfl,rfl,rfl,rfl,trivial⟩,m,oo2⟩
    ·refine Ah f rfl hc3 ?_
     obtain rfl:=Option.some.inj hs
     refine Am ?_
     refine Aj ?_
     refine Bs f rfl rfl rfl (AV (f.eval rfl) (f.eval rfl) Aw) (λa f=> ?_)
     refine Bs f rfl rfl rfl (Bg (f.eval rfl)) (λa f=> ?_)
     refine Aa ?_
     exact⟨_,rfl,G14,_,_,hle14,f.weak ⟨rfl,rfl,rfl,rfl,trivial⟩,m,oo⟩
   ·refine Ah f rfl hc2 ?_
    refine AA rfl ?_
    obtain rfl:=Option.some.inj hs
    obtain rfl:=hqq _ rfl
    exact⟨G13,_,_,hl13,f.weak ⟨rfl,trivial⟩,m,oo⟩
  ·clear ho f m oo
   rintro a w ⟨G13,vo,ito,hl13,f,m,oo⟩
   obtain⟨G14,hl14,m,hO⟩:=oo.stamp (RI.mono _) m
   refine Ag ?_
   refine Aj ?_
   refine Bs f rfl rfl rfl (Bg (f.eval rfl)) (λa f=> ?_)
   refine Dp f rfl rfl Tryz.call60 (Wk.m0 hW m hO hz) (λv15 G15 Ho15 w hl15 m hQ15 a f=> ?_)
   obtain⟨vr,itr,rfl,rfl,oR⟩:=hQ15
   have m:Mem W G15 w (itr::Itm.box bc 68 [vc]::Itm.box ba 62 [vF]::Itm.box bg 31 [v0_0]::H):=m
   refine Bs f rfl rfl rfl (Br (f.eval rfl)) (λa f=> ?_)
   refine Aa ?_
   refine Aq ?_
   have m:Mem W G15 w (itr::H):=((m.eraseAt 1).eraseAt 1).eraseAt 1
   exact⟨[vr],⟨f.get _ _ rfl,trivial⟩,f.defers,G15,[itr],GLe.trans hle12 (GLe.trans hl13 (GLe.trans hl14 hl15)),m,_,_,rfl,rfl,oR⟩
end Go.Proofs.YtkoehcencogjpaaGreatDoor
