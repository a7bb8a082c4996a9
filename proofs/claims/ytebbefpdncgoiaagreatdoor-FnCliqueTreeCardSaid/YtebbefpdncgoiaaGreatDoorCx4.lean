/- Parts. -/
import Derived.Test.YtebbefpdncgoiaaGreatDoorCx3
import Derived.Test.YtebbefpdncgoiaaGreatDoorProg
import Derived.KernelRfl
set_option linter.unusedVariables false
set_option linter.unusedSimpArgs false
set_option maxRecDepth 100000
namespace Go.Proofs.YtebbefpdncgoiaaGreatDoor
open Go Go.Sx
open Go.Proofs.Tryz Go.Proofs.YtebbefpdncgoiaaGreatDoor.Tryz IntKind
variable {W w : World} {G : GH} {H : List Itm}
theorem Bg :CE prog 76:=isAgg76
theorem CS :Agg prog 27 2:=⟨isAgg27,sizeOf27⟩
theorem Wk.e0 {x0:Int}(hW:B5 W)(m:Mem W G w (H)){y:Int}(hd:D.e0 x0=some y):
  Calls prog 147 #[(.int .u32 x0)] w (Res W G H (λ_ Ho v=>Ho=[]∧v=(iv y))):=by
 refine As (args:=[(.int .u32 x0)]) (N:=5) [.tmp 2] func147 Z Z (lb Z) Z λa f=> ?_
 unfold D.e0 at hd
 refine Ae ?_
 refine Ac f Z λa f=>Au ?_
 refine Ab f Z λa f=> ?_
 have⟨aa,ab,hd⟩:=bind_some hd
 refine Bf f Z call179 (Wk.W1 hW m ab) λac w ad m a f=>Ac f Z λa f=>Aa ?_
 refine Ap ?_
 obtain rfl:=sj hd
 exact⟨[(iv aa)],f.g Z,f.d,_,[],ad,m,Z,Z⟩
theorem Wk.l {x0:Int}(hW:B5 W)(m:Mem W G w (H)){y:(LI)}(hd:D.l x0=some y):
  Calls prog 103 #[(.int .u32 x0)] w (Res W G H (λG' Ho v=>∃r0:Value,∃i0:Itm,Ho=[i0]∧r0=v∧Ow R0 3 G' i0 r0 y)):=by
 refine As (args:=[(.int .u32 x0)]) (N:=17) [.tmp 2] func103 Z Z (lb Z) Z λa f=> ?_
 unfold D.l at hd
 refine Ae ?_
 refine Ac f Z λa f=>Au ?_
 refine AY (R:=R0) (xs:=([]:LI)) (RI.one _) m T94 f Z Z Z (by decide) (All2.nil _) λaa ab w a m ac f=>Ac f Z λa f=>Aa (Af ?_)
 have⟨ad,ae,hd⟩:=bind_some hd
 refine AF (λa w=>∃af:LI,af=ad∧∃(ag:GH) (ah:Value) (ai:Itm),GLe G ag∧Fr a 17 [(3,ah)]∧Mem W ag w (ai::H)∧Ow R0 3 ag ai ah af) ?_ ?_
 ·refine Aj ?_
  refine AD (λaj a w=>∃ak:Int,∃al:LI,(ak,al)=aj∧∃(am:GH) (an:Value) (ao:Itm),GLe G am∧Fr a 17 [(0,(.int .u32 ak)),(3,an)]∧Mem W am w (ao::H)∧Ow R0 3 am ao an al) ae ⟨_,_,Z,_,ab,aa,gr,f.k Z,m,ac⟩ ?_
  clear ae f m
  rintro aj ap aq ar a w ⟨ak,al,rfl,am,an,ao,au,f,m,av⟩
  refine Af (Ae ?_)
  refine Ab f Z λa f=>Ah f Z Z C4 λa f=>Aa ?_
  rcases Ad aq with⟨aw,aq⟩|⟨aw,aq⟩
  ·refine Ak f Z aw ?_
   refine Al ?_
   refine Af (Aj (Am ?_))
   refine Ab f Z λa f=>Ab f Z λa f=> ?_
   have⟨ax,ay,aq⟩:=bind_some aq
   refine Bf f Z call147 (Wk.e0 hW m ay) λaz w aA m a f=> ?_
   have av:=od1 aA av
   refine AY (R:=R0) (xs:=([ax]:LI)) (RI.one _) m T94 f Z Z Z (by decide) (All2.cons Z (All2.nil _)) λaB aC w a m aD f=> ?_
   have⟨aE,aF,aq⟩:=bind_some aq
   refine Bh (RI.one _) 1 m av Z T94 Z (by decide) f Z Z Z (Ow.src (j:=0) aD m Z) aF λaG aH w a m aI f=>Ac f Z λa f=>Aa (Am ?_)
   refine Ab f Z λa f=>Ab f Z λa f=>Ah f Z Z AO λa f=>Ah f Z Z Dc λa f=>Ac f Z λa f=>Aa ?_
   have m:=m.fr 1
   have m:=m.eraseAt 1
   obtain rfl:=sj aq
   exact⟨_,Z,_,_,Z,_,aH,aG,(gt au aA),f.k Z,m,aI⟩
  ·refine Ai f Z aw ?_
   refine Ax Z ?_
   obtain rfl:=sj aq
   obtain rfl:=ar _ rfl
   exact⟨_,Z,_,an,ao,au,f.k Z,m,av⟩
 ·rintro a w ⟨af,rfl,ag,ah,ai,aJ,f,m,aK⟩
  refine Ae ?_
  refine Ab f Z λa f=>Ac f Z λa f=>Aa ?_
  refine Ap ?_
  obtain rfl:=sj hd
  exact⟨[ah],f.g Z,f.d,_,[ai],aJ,m,_,_,Z,Z,aK⟩
theorem Wk.P {x0:Int}(m:Mem W G w (H)){y:Int}(hd:D.P x0=some y):
  Calls prog 51 #[(.int .u32 x0)] w (Res W G H (λ_ Ho v=>Ho=[]∧v=(iv y))):=by
 refine As (args:=[(.int .u32 x0)]) (N:=5) [.tmp 2] func51 Z Z (lb Z) Z λa f=> ?_
 unfold D.P at hd
 refine Ae ?_
 refine Ac f Z λa f=>Au ?_
 refine Ab f Z λa f=> ?_
 have⟨aa,ab,hd⟩:=bind_some hd
 refine Bf f Z call119 (Wk.j1 m ab) λac w ad m a f=>Ac f Z λa f=>Aa ?_
 refine Ap ?_
 obtain rfl:=sj hd
 exact⟨[(iv aa)],f.g Z,f.d,_,[],ad,m,Z,Z⟩
theorem Wk.F0 {v0:Value}{x0:LI}{x1:Int}(hW:B5 W)(m:Mem W G w (H))(h0:RSl (RI .u32) G v0 x0){y:Int}(hd:D.F0 x0 x1=some y):
  Calls prog 151 #[v0,(.int .u32 x1)] w (Res W G H (λ_ Ho v=>Ho=[]∧v=(iv y))):=by
 refine As (args:=[v0,(.int .u32 x1)]) (N:=30) [.tmp 4] func151 Z Z (lb Z) Z λa f=> ?_
 unfold D.F0 at hd
 refine Ae ?_
 refine Ac f Z λa f=>Au ?_
 refine Ac f Z λa f=>Aa (Af (Ae ?_))
 refine Ab f Z λa f=> ?_
 have⟨aa,ab,hd⟩:=bind_some hd
 refine Av f Z call103 (Wk.l hW m ab) λac ad ae w af m ag a f=> ?_
 obtain⟨ah,ai,rfl,rfl,aj⟩:=ag
 have h0:=rd1 af h0
 refine Bv 0 m aj Z underlying94 f Z Z λa f=>Ab f Z λa f=>Aa ?_
 have⟨ak,al,hd⟩:=bind_some hd
 refine AF (λa w=>∃am:Int,am=ak∧∃(an:GH),GLe ad an∧Fr a 30 [(5,(iv am))]∧Mem W an w (H)) ?_ ?_
 ·refine Aj ?_
  refine AD (λao a w=>∃ap:Int,∃aq:Int,(ap,aq)=ao∧∃(ar:GH),GLe ad ar∧Fr a 30 [(0,v0),(1,(.int .u32 x1)),(5,(iv ap)),(9,ah),(10,(iv (aa.length:Int))),(11,(iv aq))]∧Mem W ar w (ai::H)) al ⟨_,_,Z,_,gr,f.k Z,m⟩ ?_
  clear al f m
  rintro ao au av aw a w ⟨ap,aq,rfl,ar,ax,f,m⟩
  have h0:=rd1 ax h0
  have aj:=od1 ax aj
  refine Ae ?_
  refine Ah f Z Z AH λa f=>Aa (Af ?_)
  rcases Ad av with⟨ay,av⟩|⟨ay,av⟩
  ·refine Ak f Z ay ?_
   refine Al ?_
   refine Af (Aj (Ae ?_))
   have⟨az,aA,av⟩:=bind_some av
   refine A6 0 m aj Z T94 f Z Z Z aA λaB a aC f=>BU 0 m aj Z Pl3 f Z Z aC aA λaD a aE f=> ?_
   subst aE
   refine Ac f Z λa f=>Aa ?_
   refine A3 13 Ay (by kernel_rfl) m ?_
   refine Ag 0 13 Z f Z λa f=>Ag 1 13 Z f Z λa f=>Ag 2 13 Z f Z λa f=>Ag 3 13 Z f Z λa f=> ?_
   have⟨aF,aG,av⟩:=bind_some av
   refine Cj 4 13 T73 h0 aG Z f Z Z λaH aI a aJ aK f=> ?_
   subst aK
   refine Ck 5 13 Bg aJ Z f Z λa f=>q_p 6 13 Z f (λ_=>AA (f.e Z) (f.e Z) DU) λa f=>Ag 7 13 Z f Z λa f=> ?_
   have⟨aL,aM,av⟩:=bind_some av
   refine BX (i:=8) 13 Z (by kernel_rfl) Z f Z Z Z call100 (λ_ _ w aN m=>Wk.e m aM) λa f=>q_p 9 13 Z f (λ_=>AA (f.e Z) (f.e Z) DU) λa f=> ?_
   have⟨aO,aP,av⟩:=bind_some av
   refine BX (i:=10) 13 Z (by kernel_rfl) Z f Z Z Z call51 (λ_ _ w aQ m=>Wk.P m aP) λa f=>q_p 11 13 Z f (λ_=>AA (f.e Z) (f.e Z) Ar) λa f=>q_p 12 13 Z f (λ_=>BA (f.e Z)) λa f=>AK λaR w aS m=>Aa (Am ?_)
   refine Ah f Z Z Ar λa f=>Ab f Z λa f=>Aa ?_
   obtain rfl:=sj av
   exact⟨_,Z,_,_,Z,_,(gt ax aS),f.k Z,m⟩
  ·refine Ai f Z ay ?_
   refine Ax Z ?_
   have m:Mem W ar w H:=Mem.drop (H':=[ai]) m
   obtain rfl:=sj av
   obtain rfl:=aw _ rfl
   exact⟨_,Z,_,ax,f.k Z,m⟩
 ·rintro a w ⟨am,rfl,an,aT,f,m⟩
  refine Ae ?_
  refine Ab f Z λa f=>Ah f Z Z (Dl Z) λa f=>Ac f Z λa f=>Aa ?_
  refine Ap ?_
  obtain rfl:=sj hd
  exact⟨[(iv (i64.wrap (Int.tdiv am 2)))],f.g Z,f.d,_,[],(gt af aT),m,Z,Z⟩
theorem Wk.K1 {v0:Value}{x0:LI}(hW:B5 W)(m:Mem W G w (H))(h0:RSl (RI .u32) G v0 x0){y:(LI)}(hd:D.K1 x0=some y):
  Calls prog 114 #[v0] w (Res W G H (λG' Ho v=>∃r0:Value,∃i0:Itm,Ho=[i0]∧r0=v∧Ow R0 3 G' i0 r0 y∧DO r0=y.isEmpty)):=by
 refine As (args:=[v0]) (N:=42) [.tmp 2] func114 Z Z (lb Z) Z λa f=> ?_
 unfold D.K1 at hd
 refine Ae ?_
 refine Ac f Z λa f=>Au ?_
 refine AY (R:=R0) (xs:=([]:LI)) (RI.one _) m T94 f Z Z Z (by decide) (All2.nil _) λaa ab w a m ac f=>Ac f Z λa f=>Aa (Af (Ae ?_))
 refine Ab f Z λa f=> ?_
 have⟨ad,ae,hd⟩:=bind_some hd
 refine Bf f Z call53 (Wk.r m h0 ae) λaf w ag m a f=> ?_
 have h0:=rd1 ag h0
 have ac:=od1 ag ac
 refine Ac f Z λa f=>Aa ?_
 have⟨ah,ai,hd⟩:=bind_some hd
 refine AF (λa w=>∃q_275':LI,ah= .inl q_275'∧∃aj:LI,aj=q_275'∧∃(ak:GH) (al:Value) (am:Itm),GLe af ak∧Fr a 42 [(3,al)]∧Mem W ak w (am::H)∧Ow R0 3 ak am al aj) ?_ ?_
 ·refine Aj ?_
  refine AD (λan a w=>∃ao:LI,∃ap:Int,(ao,ap)=an∧∃(aq:GH) (ar:Value) (au:Itm),GLe af aq∧Fr a 42 [(0,v0),(3,ar),(4,(.int .u32 ap))]∧Mem W aq w (au::H)∧Ow R0 3 aq au ar ao) ai ⟨_,_,Z,_,ab,aa,gr,f.k Z,m,ac⟩ ?_
  clear ai f m
  rintro an av aw ax a w ⟨ao,ap,rfl,aq,ar,au,ay,f,m,az⟩
  have h0:=rd1 ay h0
  refine Af (Ae ?_)
  refine Ab f Z λa f=>Ah f Z Z C4 λa f=>Aa ?_
  rcases Ad aw with⟨aA,aw⟩|⟨aA,aw⟩
  ·refine Ak f Z aA ?_
   refine Al ?_
   refine Aj (Ae ?_)
   refine Ac f Z λa f=>Aa (Af (Ae ?_))
   refine Ab f Z λa f=> ?_
   have⟨aB,aC,aw⟩:=bind_some aw
   refine Av f Z call103 (Wk.l hW m aC) λaD aE aF w aG m aH a f=> ?_
   obtain⟨aI,aJ,rfl,rfl,aK⟩:=aH
   have h0:=rd1 aG h0
   have az:=od1 aG az
   refine Bv 0 m aK Z underlying94 f Z Z λa f=>Ab f Z λa f=>Aa ?_
   have⟨aL,aM,aw⟩:=bind_some aw
   refine AF (λa w=>∃aN:Int,aN=aL∧∃(aO:GH),GLe aE aO∧Fr a 42 [(0,v0),(3,ar),(4,(.int .u32 ap)),(5,(iv aN))]∧Mem W aO w (au::H)) ?_ ?_
   ·refine Aj ?_
    have m:=m.fr 1
    refine AD (λaP a w=>∃aQ:Int,aQ=aP∧∃(aR:GH),GLe aE aR∧Fr a 42 [(0,v0),(3,ar),(4,(.int .u32 ap)),(5,(iv (-1))),(14,aI),(15,(iv (aB.length:Int))),(16,(iv aQ))]∧Mem W aR w (au::aJ::H)) aM ⟨_,Z,_,gr,f.k Z,m⟩ ?_
    clear aM f m
    rintro aP aS aT aU a w ⟨aQ,rfl,aR,aV,f,m⟩
    have h0:=rd1 aV h0
    have aK:=od1 aV aK
    refine Ae ?_
    refine Ah f Z Z AH λa f=>Aa (Af ?_)
    rcases Ad aT with⟨aW,aT⟩|⟨aW,aT⟩
    ·refine Ak f Z aW ?_
     refine Al ?_
     refine Af (Aj (Ae ?_))
     have⟨aX,aY,aT⟩:=bind_some aT
     refine A6 1 m aK Z T94 f Z Z Z aY λaZ a a0 f=>BU 1 m aK Z Pl3 f Z Z a0 aY λa1 a a2 f=> ?_
     subst a2
     refine Ac f Z λa f=>Au ?_
     refine Ab f Z λa f=>Ab f Z λa f=>Ab f Z λa f=> ?_
     have⟨a3,a4,aT⟩:=bind_some aT
     refine Bl T73 f Z Z Z h0 a4 λa5 a6 a a7 a8 f=> ?_
     subst a8
     refine AM m Bg f Z Z a7 λa f=>Ab f Z λa f=>Ah f Z Z Dc λa f=> ?_
     have⟨a9,ba,aT⟩:=bind_some aT
     refine Bf f Z call151 (Wk.F0 hW m h0 ba) λbb w bc m a f=>Ah f Z Z Bq λa f=>Aa ?_
     rcases Ad aT with⟨bd,aT⟩|⟨bd,aT⟩
     ·refine Ak f Z bd ?_
      refine Ae ?_
      refine Ab f Z λa f=>Ac f Z λa f=>Aa ?_
      refine Ax Z ?_
      have m:=m.eraseAt 1
      obtain rfl:=sj aT
      obtain rfl:=aU _ rfl
      exact⟨_,Z,_,(gt aV bc),f.k Z,m⟩
     ·refine Ai f Z bd ?_
      refine Al ?_
      refine Am ?_
      refine Ah f Z Z Ar λa f=>Ab f Z λa f=>Aa ?_
      obtain rfl:=sj aT
      exact⟨_,Z,_,Z,_,(gt aV bc),f.k Z,m⟩
    ·refine Ai f Z aW ?_
     refine Ax Z ?_
     have m:=m.eraseAt 1
     obtain rfl:=sj aT
     obtain rfl:=aU _ rfl
     exact⟨_,Z,_,aV,f.k Z,m⟩
   ·rintro a w ⟨aN,rfl,aO,be,f,m⟩
    have az:=od1 be az
    refine Af (Ae ?_)
    refine Ab f Z λa f=>Ah f Z Z AH λa f=>Aa ?_
    rcases Ad aw with⟨bf,aw⟩|⟨bf,aw⟩
    ·refine Ak f Z bf ?_
     refine Ae ?_
     refine Ac f Z λa f=>Aa ?_
     refine Ap ?_
     obtain⟨bg,m,bh⟩:=Ow.nil R0 3 m
     have m:=m.eraseAt 1
     obtain rfl:=sj aw
     obtain rfl:=ax _ rfl
     obtain rfl:=sj hd
     exact⟨[sn],f.g Z,f.d,_,[bg],(gt ag (gt ay (gt aG be))),m,_,_,Z,Z,bh,Z⟩
    ·refine Ai f Z bf ?_
     refine Al ?_
     refine Ae ?_
     refine Ab f Z λa f=>Ab f Z λa f=> ?_
     have⟨bi,bj,aw⟩:=bind_some aw
     refine Bf f Z call100 (Wk.e m bj) λbk w bl m a f=> ?_
     have az:=od1 bl az
     refine Ah f Z Z DU λa f=>Ac f Z λa f=>Aa (Am ?_)
     refine Ab f Z λa f=>Ab f Z λa f=>AY (R:=R0) (xs:=([aN]:LI)) (RI.one _) m T94 f Z Z Z (by decide) (All2.cons Z (All2.nil _)) λbm bn w a m bo f=> ?_
     have⟨bp,bq,aw⟩:=bind_some aw
     refine Bh (RI.one _) 1 m az Z T94 Z (by decide) f Z Z Z (Ow.src (j:=0) bo m Z) bq λbr bs w a m bt f=>Ac f Z λa f=>Aa ?_
     have m:=m.fr 1
     have m:=m.eraseAt 1
     obtain rfl:=sj aw
     exact⟨_,Z,_,_,Z,_,bs,br,(gt ay (gt aG (gt be bl))),f.k Z,m,bt⟩
  ·refine Ai f Z aA ?_
   refine Ax Z ?_
   obtain rfl:=sj aw
   obtain rfl:=ax _ rfl
   exact⟨_,Z,_,Z,_,ar,au,ay,f.k Z,m,az⟩
 ·rintro a w ⟨_,rfl,aj,rfl,ak,al,am,bu,f,m,bv⟩
  refine Ae ?_
  refine Ab f Z λa f=>Ac f Z λa f=>Aa ?_
  refine Ap ?_
  have⟨_,bw,hd⟩:=bind_some hd
  have hx_555':=Ow.notNil 0 m bv rfl bw
  obtain rfl:=sj hd
  exact⟨[al],f.g Z,f.d,_,[am],(gt ag bu),m,_,_,Z,Z,bv,hx_555'⟩
theorem Wk.H0 {aa:Value}{ab:LL}(hW:B5 W)(m:Mem W G w (H))(ac:R2 G aa ab){y:Bool}(hd:D.H0 ab=some y):
  Calls prog 48 #[(.agg #[aa])] w (Res W G H (λ_ Ho v=>Ho=[]∧v=(.bool y))):=by
 refine As (args:=[(.agg #[aa])]) (N:=11) [.tmp 2] func48 Z Z (lb Z) Z λa f=> ?_
 unfold D.H0 at hd
 refine Ae ?_
 refine By (cs:=[aa]) m f Z Z Z λad w a m f=>Ac f Z λa f=>Au ?_
 refine AT 0 0 (ds:=[aa]) m A8 f Z Z Z Z Z λa f=> ?_
 have⟨ae,af,hd⟩:=bind_some hd
 refine Bf f Z call93 (Wk.Q m ac af) λag w ah m a f=> ?_
 have ac:=rd2 ah ac
 refine Ab f Z λa f=> ?_
 have⟨ai,aj,hd⟩:=bind_some hd
 refine BJ 5 (λa w=>∃ak,GLe ag ak∧Mem W ak w (ib ad 30 [aa]::H)∧Fr a 11 [(0,(.agg #[aa])),(1,(pb ad)),(3,(.agg #[aa])),(4,(.bool ae)),(5,(.bool ae)),(10,(.bool ai))]) ?_ ?_
 ·rcases Ad aj with⟨al,aj⟩|⟨al,aj⟩
  ·refine AI f al ?_
   refine AT 0 0 (ds:=[aa]) m A8 f Z Z Z Z Z λa f=>AI f al ?_
   have⟨am,an,aj⟩:=bind_some aj
   refine Av f Z call50 (Wk.F m ac an) λao ap aq w ar m au a f=> ?_
   obtain⟨av,aw,rfl,rfl,ax⟩:=au
   refine AI f al ?_
   obtain⟨ay,az,m,aA⟩:=Ow.stamp (RI.mono _) ax m
   have⟨aB,aC,aj⟩:=bind_some aj
   refine Av f Z call114 (Wk.K1 hW m aA aC) λaD aE aF w aG m aH a f=> ?_
   obtain⟨aI,aJ,rfl,rfl,aK,aL⟩:=aH
   refine AI f al ?_
   refine l_o f (r_nil_neq (f.e Z) (f.e Z) (Ow.hdr 0 m aK Z) underlying94 aL) λa f=>l_o f (AU (f.e Z) al (f.e Z)) λa f=> ?_
   obtain rfl:=sj aj
   have m:=m.fr 1
   have m:=m.eraseAt 1
   exact⟨_,(gt ar (gt az aG)),m,f.k Z⟩
  ·refine AL f al λa f=> ?_
   refine AL f al λa f=>AL f al λa f=>AL f al λa f=>l_o f (AV (f.e Z) al (f.e Z)) λa f=> ?_
   obtain rfl:=sj aj
   exact⟨_,gr,m,f.k Z⟩
 ·rintro a w ⟨ak,aM,m,f⟩
  refine Ac f Z λa f=>Aa ?_
  refine Ap ?_
  have m:Mem W ak w H:=Mem.drop (H':=[ib ad 30 [aa]]) m
  obtain rfl:=sj hd
  exact⟨[(.bool ai)],f.g Z,f.d,_,[],(gt ah aM),m,Z,Z⟩
theorem Wk.n0 {W:World}(hW:B5 W)(n:Nat):∀{w:World} {G:GH} {H:List Itm} {v0 v4:Value} {it4:Itm} {x0:LI} {x1 x2 x3:Int} {x4:LI} (m:Mem W G w (it4::H)) (h0:RSl (RI .u32) G v0 x0) (o4:Ow (RI .u32) 76 G it4 v4 x4) {y:(LI)} (hd:D.n0 n x0 x1 x2 x3 x4=some y),
  Calls prog 115 #[v0,(.int .u32 x1),(.int .u32 x2),(.int .u32 x3),v4] w (Res W G H (λG' Ho v=>∃r0:Value,∃i0:Itm,Ho=[i0]∧r0=v∧Ow (RI .u32) 76 G' i0 r0 y)):=by
 induction n with
 |zero=>intros;rename_i hd;simp[D.n0] at hd
 |succ fuel ih=>
  intro w G H v0 v4 it4 x0 x1 x2 x3 x4 m h0 o4 y hd
  refine As (args:=[v0,(.int .u32 x1),(.int .u32 x2),(.int .u32 x3),v4]) (N:=58) [.tmp 10] func115 Z Z (lb Z) Z λa f=> ?_
  unfold D.n0 at hd
  refine Ae ?_
  refine Ac f Z λa f=>Aa (Af (Ae ?_))
  refine Ab f Z λa f=>Ah f Z Z Bq λa f=>Aa ?_
  rcases Ad hd with⟨aa,hd⟩|⟨aa,hd⟩
  ·refine Ak f Z aa ?_
   refine Af (Ae ?_)
   refine Ab f Z λa f=>Ah f Z Z Bq λa f=>Aa ?_
   have⟨ab,ac,hd⟩:=bind_some hd
   refine AF (λa w=>∃ad:LI,ad=ab∧∃(ae:GH) (af:Value) (ag:Itm),GLe G ae∧Fr a 58 [(4,af)]∧Mem W ae w (ag::H)∧Ow (RI .u32) 76 ae ag af ad) ?_ ?_
   ·rcases Ad ac with⟨ah,ac⟩|⟨ah,ac⟩
    ·refine Ak f Z ah ?_
     refine Am ?_
     refine Ab f Z λa f=>Ab f Z λa f=>AY (R:=(RI .u32)) (xs:=([x1]:LI)) (RI.one _) m T71 f Z Z Z (by decide) (All2.cons Z (All2.nil _)) λai aj w a m ak f=> ?_
     have⟨al,am,ac⟩:=bind_some ac
     refine Bh (RI.one _) 1 m o4 Z T71 Z (by decide) f Z Z Z (Ow.src (j:=0) ak m Z) am λan ao w a m ap f=>Ac f Z λa f=>Aa ?_
     have m:=m.fr 1
     have m:=m.eraseAt 1
     obtain rfl:=sj ac
     exact⟨_,Z,_,ao,an,gr,f.k Z,m,ap⟩
    ·refine Ai f Z ah ?_
     refine Al ?_
     obtain rfl:=sj ac
     exact⟨_,Z,_,v4,it4,gr,f.k Z,m,o4⟩
   ·rintro a w ⟨ad,rfl,ae,af,ag,aq,f,m,ar⟩
    refine Ae ?_
    refine Ab f Z λa f=>Ac f Z λa f=>Aa ?_
    refine Ap ?_
    obtain rfl:=sj hd
    exact⟨[af],f.g Z,f.d,_,[ag],aq,m,_,_,Z,Z,ar⟩
  ·refine Ai f Z aa ?_
   refine Al ?_
   refine Af (Ae ?_)
   refine Ab f Z λa f=> ?_
   have⟨au,av,hd⟩:=bind_some hd
   refine Av f Z call103 (Wk.l hW m av) λaw ax ay w az m aA a f=> ?_
   obtain⟨aB,aC,rfl,rfl,aD⟩:=aA
   have h0:=rd1 az h0
   have o4:=od1 az o4
   refine Bv 0 m aD Z underlying94 f Z Z λa f=>Ab f Z λa f=>Aa ?_
   have⟨aE,aF,hd⟩:=bind_some hd
   refine AF (λa w=>∃aG:LI,aG=aE∧∃(aH:GH) (aI:Value) (aJ:Itm),GLe ax aH∧Fr a 58 [(4,aI)]∧Mem W aH w (aJ::H)∧Ow (RI .u32) 76 aH aJ aI aG) ?_ ?_
   ·refine Aj ?_
    have m:=m.fr 1
    refine AD (λaK a w=>∃aL:Int,∃aM:Int,∃aN:LI,∃aO:Int,(aL,aM,aN,aO)=aK∧∃(aP:GH) (aQ:Value) (aR:Itm),GLe ax aP∧Fr a 58 [(0,v0),(1,(.int .u32 x1)),(2,(.int .u32 aL)),(3,(.int .u32 aM)),(4,aQ),(23,aB),(24,(iv (au.length:Int))),(25,(iv aO))]∧Mem W aP w (aR::aC::H)∧Ow (RI .u32) 76 aP aR aQ aN) aF ⟨_,_,_,_,Z,_,v4,it4,gr,f.k Z,m,o4⟩ ?_
    clear aF f m
    rintro aK aS aT aU a w ⟨aL,aM,aN,aO,rfl,aP,aQ,aR,aV,f,m,aW⟩
    have h0:=rd1 aV h0
    have aD:=od1 aV aD
    refine Ae ?_
    refine Ah f Z Z AH λa f=>Aa (Af ?_)
    rcases Ad aT with⟨aX,aT⟩|⟨aX,aT⟩
    ·refine Ak f Z aX ?_
     refine Al ?_
     refine Af (Aj (Ae ?_))
     have⟨aY,aZ,aT⟩:=bind_some aT
     refine A6 1 m aD Z T94 f Z Z Z aZ λa0 a a1 f=>BU 1 m aD Z Pl3 f Z Z a1 aZ λa2 a a3 f=> ?_
     subst a3
     refine Ac f Z λa f=>Aa (Af ?_)
     refine A3 18 Ay (by kernel_rfl) m ?_
     refine Ag 0 18 Z f Z λa f=>Ag 1 18 Z f Z λa f=>Ag 2 18 Z f Z λa f=> ?_
     have⟨a4,a5,aT⟩:=bind_some aT
     refine BX (i:=3) 18 Z (by kernel_rfl) Z f Z Z Z call100 (λ_ _ w a6 m=>Wk.e m a5) λa f=>q_p 4 18 Z f (λ_=>AA (f.e Z) (f.e Z) b_or) λa f=>Ag 5 18 Z f Z λa f=>Ag 6 18 Z f Z λa f=>Ag 7 18 Z f Z λa f=> ?_
     have⟨a7,a8,aT⟩:=bind_some aT
     refine Cj 8 18 T73 h0 a8 Z f Z Z λa9 ba a bb bc f=> ?_
     subst bc
     refine Ck 9 18 Bg bb Z f Z λa f=>q_p 10 18 Z f (λ_=>AA (f.e Z) (f.e Z) Dc) λa f=>Ag 11 18 Z f Z λa f=>Ag 12 18 Z f Z λa f=>Ag 13 18 Z f Z λa f=> ?_
     have⟨bd,be,aT⟩:=bind_some aT
     refine Cj 14 18 T73 h0 be Z f Z Z λbf bg a bh bi f=> ?_
     subst bi
     refine Ck 15 18 Bg bh Z f Z λa f=>q_p 16 18 Z f (λ_=>AA (f.e Z) (f.e Z) Dc) λa f=>Ag 17 18 Z f Z λa f=>AK λbj w bk m=> ?_
     have h0:=rd1 bk h0
     have aW:=od1 bk aW
     have⟨bl,bm,aT⟩:=bind_some aT
     refine Av f Z call115 (ih m h0 aW bm) λbn bo bp w bq m br a f=> ?_
     obtain⟨bs,bt,rfl,rfl,bu⟩:=br
     refine Ac f Z λa f=>Au ?_
     refine Ab f Z λa f=>Ab f Z λa f=> ?_
     have⟨bv,bw,aT⟩:=bind_some aT
     refine Bf f Z call100 (Wk.e m bw) λbx w bz m a f=> ?_
     have bu:=od1 bz bu
     refine Ah f Z Z DU λa f=>Ac f Z λa f=>Aa (Am ?_)
     refine Ab f Z λa f=>Ab f Z λa f=> ?_
     have⟨bA,bB,aT⟩:=bind_some aT
     refine Bf f Z call100 (Wk.e m bB) λbC w bD m a f=> ?_
     have bu:=od1 bD bu
     refine Ah f Z Z b_or λa f=>Ac f Z λa f=>Aa (Am ?_)
     refine Ah f Z Z Ar λa f=>Ab f Z λa f=>Aa ?_
     obtain rfl:=sj aT
     exact⟨_,Z,_,_,_,_,Z,_,bs,bt,(gt aV (gt bk (gt bq (gt bz bD)))),f.k Z,m,bu⟩
    ·refine Ai f Z aX ?_
     refine Ax Z ?_
     have m:=m.eraseAt 1
     obtain rfl:=sj aT
     obtain rfl:=aU _ rfl
     exact⟨_,Z,_,aQ,aR,aV,f.k Z,m,aW⟩
   ·rintro a w ⟨aG,rfl,aH,aI,aJ,bE,f,m,bF⟩
    refine Ae ?_
    refine Ab f Z λa f=>Ac f Z λa f=>Aa ?_
    refine Ap ?_
    obtain rfl:=sj hd
    exact⟨[aI],f.g Z,f.d,_,[aJ],(gt az bE),m,_,_,Z,Z,bF⟩
theorem Wk.B {v0 v4:Value}{it4:Itm}{x0:LI}{x1 x2 x3:Int}{x4:LI}(hW:B5 W)(m:Mem W G w (it4::H))(h0:RSl (RI .u32) G v0 x0)(o4:Ow (RI .u32) 76 G it4 v4 x4){y:(LI)}(hd:D.B x0 x1 x2 x3 x4=some y):
  Calls prog 115 #[v0,(.int .u32 x1),(.int .u32 x2),(.int .u32 x3),v4] w (Res W G H (λG' Ho v=>∃r0:Value,∃i0:Itm,Ho=[i0]∧r0=v∧Ow (RI .u32) 76 G' i0 r0 y)):=by
 exact Wk.n0 hW Cf m h0 o4 hd
theorem Wk.b {x0 x1:Int}(hW:B5 W)(m:Mem W G w (H)){y:Int}(hd:D.b x0 x1=some y):
  Calls prog 117 #[(.int .u32 x0),(.int .u32 x1)] w (Res W G H (λ_ Ho v=>Ho=[]∧v=(iv y))):=by
 refine As (args:=[(.int .u32 x0),(.int .u32 x1)]) (N:=10) [.tmp 4] func117 Z Z (lb Z) Z λa f=> ?_
 unfold D.b at hd
 refine Ae ?_
 refine Ac f Z λa f=>Au ?_
 refine Ab f Z λa f=> ?_
 have⟨aa,ab,hd⟩:=bind_some hd
 refine Av f Z call103 (Wk.l hW m ab) λac ad ae w af m ag a f=> ?_
 obtain⟨ah,ai,rfl,rfl,aj⟩:=ag
 refine Ab f Z λa f=> ?_
 have⟨ak,al,hd⟩:=bind_some hd
 refine Av f Z call103 (Wk.l hW m al) λam an ao w ap m aq a f=> ?_
 obtain⟨ar,au,rfl,rfl,av⟩:=aq
 have aj:=od1 ap aj
 have⟨aw,ax,hd⟩:=bind_some hd
 refine Av f Z call153 (Ow.lendCall (RI.mono _) 1 aj m Z (λay az m aA=>(Ow.lendCall (RI.mono _) 0 (od1 az av) m Z (λaB aC m aD=>Wk.v1 m (rd1 aC aA) aD ax) (λ_ _ _ _ h=>h))) (λ_ _ _ _ h=>h)) λaE aF aG w aH m aI a f=> ?_
 obtain⟨rfl,rfl⟩:=aI
 refine Ac f Z λa f=>Aa ?_
 refine Ap ?_
 have m:Mem W aF w H:=Mem.drop (H':=[au,ai]) m
 obtain rfl:=sj hd
 exact⟨[(iv aw)],f.g Z,f.d,_,[],(gt af (gt ap aH)),m,Z,Z⟩
theorem Wk.c2 {v0:Value}{it0:Itm}{x0:LI}{x1 x2:Int}(hW:B5 W)(m:Mem W G w (it0::H))(o0:Ow (RI .u32) 76 G it0 v0 x0){y:(LI)}(hd:D.c2 x0 x1 x2=some y):
  Calls prog 180 #[v0,(iv x1),(iv x2),(.func (.func 117) #[] #[])] w (Res W G H (λG' Ho _=>∃i0:Itm,Ho=[i0]∧Ow (RI .u32) 76 G' i0 v0 y)):=by
 refine As (args:=[v0,(iv x1),(iv x2),(.func (.func 117) #[] #[])]) (N:=53) [] func180 Z Z (lb Z) Z λa f=> ?_
 unfold D.c2 at hd
 refine Ae ?_
 refine Ab f Z λa f=>Ah f Z Z Ar λa f=>Ac f Z λa f=>Aa ?_
 have⟨aa,ab,hd⟩:=bind_some hd
 refine AF (λa w=>∃ac:LI,ac=aa∧∃(ad:GH) (ae:Itm),GLe G ad∧Fr a 53 []∧Mem W ad w (ae::H)∧Ow (RI .u32) 76 ad ae v0 ac) ?_ ?_
 ·refine Aj ?_
  refine AD (λaf a w=>∃ag:LI,∃ah:Int,(ag,ah)=af∧∃(ai:GH) (aj:Itm),GLe G ai∧Fr a 53 [(0,v0),(1,(iv x1)),(2,(iv x2)),(3,(.func (.func 117) #[] #[])),(8,(iv ah))]∧Mem W ai w (aj::H)∧Ow (RI .u32) 76 ai aj v0 ag) ab ⟨_,_,Z,_,it0,gr,f.k Z,m,o0⟩ ?_
  clear ab f m
  rintro af ak al am a w ⟨ag,ah,rfl,ai,aj,an,f,m,ao⟩
  refine Af (Ae ?_)
  refine Ab f Z λa f=>Ab f Z λa f=>Ah f Z Z AH λa f=>Aa ?_
  rcases Ad al with⟨ap,al⟩|⟨ap,al⟩
  ·refine Ak f Z ap ?_
   refine Al ?_
   refine Af (Aj (Ae ?_))
   refine Ab f Z λa f=>Ac f Z λa f=>Aa ?_
   have⟨aq,ar,al⟩:=bind_some al
   refine AF (λa w=>∃au:LI,au=aq∧∃(av:GH) (aw:Itm),GLe ai av∧Fr a 53 [(0,v0),(1,(iv x1)),(2,(iv x2)),(3,(.func (.func 117) #[] #[])),(8,(iv ah))]∧Mem W av w (aw::H)∧Ow (RI .u32) 76 av aw v0 au) ?_ ?_
   ·refine Aj ?_
    refine AD (λax a w=>∃ay:LI,∃az:Int,(ay,az)=ax∧∃(aA:GH) (aB:Itm),GLe ai aA∧Fr a 53 [(0,v0),(1,(iv x1)),(2,(iv x2)),(3,(.func (.func 117) #[] #[])),(8,(iv ah)),(9,(iv az))]∧Mem W aA w (aB::H)∧Ow (RI .u32) 76 aA aB v0 ay) ar ⟨_,_,Z,_,aj,gr,f.k Z,m,ao⟩ ?_
    clear ar f m
    rintro ax aC aD aE a w ⟨ay,az,rfl,aA,aB,aF,f,m,aG⟩
    refine Af (Af ?_)
    refine A3 17 Ay (by kernel_rfl) m ?_
    refine Ag 0 17 Z f Z λa f=>Ag 1 17 Z f Z λa f=>q_p 2 17 Z f (λ_=>AA (f.e Z) (f.e Z) Ce) λa f=>Ag 3 17 Z f Z λa f=> ?_
    have⟨aH,aI,aD⟩:=bind_some aD
    refine BZ (fuel':=0) (listed':= #[true,true,true,true,true,true,true,true,true,true,true,true,true,true,true,true,true]) (λa=>Fr a 53 [(0,v0),(1,(iv x1)),(2,(iv x2)),(3,(.func (.func 117) #[] #[])),(8,(iv ah)),(9,(iv az)),(18,(iv az)),(19,(iv x1)),(20,(.bool (decide (x1<az)))),(21,(.bool (decide (x1<az)))),(34,(.bool aH))]) ?_ ?_
    ·intro a f
     refine AK λaJ w aK m=> ?_
     have aG:=od1 aK aG
     refine Aa ?_
     rcases Ad aD with⟨aL,aD⟩|⟨aL,aD⟩
     ·refine Ak f Z aL ?_
      refine Al ?_
      refine Af (Aj ?_)
      refine BC Ay m ?_
      refine p_p 2 Z f (λ_=>A4 (f.e Z)) λa f=>p_p 3 Z f (λ_=>A4 (f.e Z)) λa f=>p_p 4 Z f (λ_=>AA (f.e Z) (f.e Z) AO) λa f=>BD 28015 12 (by kernel_rfl) Z ?_
      refine Ag 0 28015 Z f Z λa f=>Ag 1 28015 Z f Z λa f=>Ag 5 28015 Z f Z λa f=>Ag 6 28015 Z f Z λa f=>q_p 7 28015 Z f (λ_=>AA (f.e Z) (f.e Z) AO) λa f=> ?_
      have⟨aM,aN,aD⟩:=bind_some aD
      refine AG 8 28015 0 m aG T71 aN Z f Z Z λaO a aP f=>AR 9 28015 0 aG Bg aP aN Z f Z λaQ a aR f=> ?_
      subst aR
      refine Ag 10 28015 Z f Z λa f=>Ag 11 28015 Z f Z λa f=> ?_
      have⟨aS,aT,aD⟩:=bind_some aD
      refine AG 12 28015 0 m aG T71 aT Z f Z Z λaU a aV f=>AR 13 28015 0 aG Bg aV aT Z f Z λaW a aX f=> ?_
      subst aX
      have⟨aY,aZ,aD⟩:=bind_some aD
      refine AG 14 28015 0 m aG T71 aZ Z f Z Z λa0 a a1 f=>AK λa2 w a3 m=> ?_
      have aG:=od1 a3 aG
      refine Aw 0 m aG Z sizeOf76 f Z Z a1 aZ Z Z Z λa4 w m a5=> ?_
      have⟨a6,a7,aD⟩:=bind_some aD
      refine A6 0 m a5 Z T71 f Z Z Z a7 λa8 a a9 f=>Aw 0 m a5 Z sizeOf76 f Z Z a9 a7 Z Z Z λba w m bb=>Aa (Am ?_)
      refine Ab f Z λa f=>Ah f Z Z AO λa f=>Ac f Z λa f=>Aa ?_
      obtain rfl:=sj aD
      exact⟨_,Z,_,_,Z,_,ba,(gt aF (gt aK a3)),f.k Z,m,bb⟩
     ·refine Ai f Z aL ?_
      refine Ax Z ?_
      obtain rfl:=sj aD
      obtain rfl:=aE _ rfl
      exact⟨_,Z,_,aB,(gt aF aK),f.k Z,m,aG⟩
    ·intro bc
     rcases Ad aI with⟨bd,aI⟩|⟨bd,aI⟩
     ·refine Ag (hw:=wo f bd) 4 17 Z f Z λa f=> ?_
      refine Ag (hw:=wo f bd) 5 17 Z f Z λa f=>Ag (hw:=wo f bd) 6 17 Z f Z λa f=> ?_
      have⟨be,bf,aI⟩:=bind_some aI
      refine AG (hw:=wo f bd) 7 17 0 m aG T71 bf Z f Z Z λbg a bh f=>AR (hw:=wo f bd) 8 17 0 aG Bg bh bf Z f Z λbi a bj f=> ?_
      subst bj
      refine Ag (hw:=wo f bd) 9 17 Z f Z λa f=>Ag (hw:=wo f bd) 10 17 Z f Z λa f=>q_p (hw:=wo f bd) 11 17 Z f (λ_=>AA (f.e Z) (f.e Z) AO) λa f=> ?_
      have⟨bk,bl,aI⟩:=bind_some aI
      refine AG (hw:=wo f bd) 12 17 0 m aG T71 bl Z f Z Z λbm a bn f=>AR (hw:=wo f bd) 13 17 0 aG Bg bn bl Z f Z λbo a bp f=> ?_
      subst bp
      have⟨bq,br,aI⟩:=bind_some aI
      refine BG (i:=14) 17 Z (by kernel_rfl) Z f (Ba f Z Z Z bd) Z Z Z call117 (λ_ _ w bs m=>Wk.b hW m br) λa f=>q_p (hw:=wo f bd) 15 17 Z f (λ_=>AA (f.e Z) (f.e Z) AH) λa f=>q_p 16 17 Z f (λ_=>AU (f.e Z) bd (f.e Z)) λa f=> ?_
      obtain rfl:=sj aI
      exact bc _ (f.k Z)
     ·refine Ao 4 17 Z f bd λa f=> ?_
      refine Ao 5 17 Z f bd λa f=>Ao 6 17 Z f bd λa f=>Ao 7 17 Z f bd λa f=>Ao 8 17 Z f bd λa f=>Ao 9 17 Z f bd λa f=>Ao 10 17 Z f bd λa f=>Ao 11 17 Z f bd λa f=>Ao 12 17 Z f bd λa f=>Ao 13 17 Z f bd λa f=>Ao 14 17 Z f bd λa f=>Ao 15 17 Z f bd λa f=>q_p 16 17 Z f (λ_=>AV (f.e Z) bd (f.e Z)) λa f=> ?_
      obtain rfl:=sj aI
      exact bc _ (f.k Z)
   ·rintro a w ⟨au,rfl,av,aw,bt,f,m,bu⟩
    refine Am ?_
    refine Ab f Z λa f=>Ah f Z Z Ar λa f=>Ac f Z λa f=>Aa ?_
    obtain rfl:=sj al
    exact⟨_,Z,_,_,Z,_,aw,(gt an bt),f.k Z,m,bu⟩
  ·refine Ai f Z ap ?_
   refine Ax Z ?_
   obtain rfl:=sj al
   obtain rfl:=am _ rfl
   exact⟨_,Z,_,aj,an,f.weak trivial,m,ao⟩
 ·rintro a w ⟨ac,rfl,ad,ae,bv,f,m,bw⟩
  obtain rfl:=sj hd
  exact⟨[],trivial,f.d,_,[ae],bv,m,_,Z,bw⟩
theorem Wk.i1 {v0:Value}{it0:Itm}{x0:LI}{x1 x2 x3:Int}(hW:B5 W)(m:Mem W G w (it0::H))(o0:Ow (RI .u32) 76 G it0 v0 x0){y:(LI)}(hd:D.i1 x0 x1 x2 x3=some y):
  Calls prog 202 #[v0,(iv x1),(iv x2),(iv x3),(.func (.func 117) #[] #[])] w (Res W G H (λG' Ho _=>∃i0:Itm,Ho=[i0]∧Ow (RI .u32) 76 G' i0 v0 y)):=by
 refine As (args:=[v0,(iv x1),(iv x2),(iv x3),(.func (.func 117) #[] #[])]) (N:=82) [] func202 Z Z (lb Z) Z λa f=> ?_
 unfold D.i1 at hd
 refine Ae ?_
 refine Ab f Z λa f=>Ac f Z λa f=>Aa ?_
 have⟨aa,ab,hd⟩:=bind_some hd
 refine AF (λa w=>∃q_182':LI,aa= .inl q_182'∧∃ac:LI,ac=q_182'∧∃(ad:GH) (ae:Itm),GLe G ad∧Fr a 82 []∧Mem W ad w (ae::H)∧Ow (RI .u32) 76 ad ae v0 ac) ?_ ?_
 ·refine Aj ?_
  refine AD (λaf a w=>∃ag:LI,∃ah:Int,(ag,ah)=af∧∃(ai:GH) (aj:Itm),GLe G ai∧Fr a 82 [(0,v0),(2,(iv x2)),(3,(iv x3)),(4,(.func (.func 117) #[] #[])),(10,(iv ah))]∧Mem W ai w (aj::H)∧Ow (RI .u32) 76 ai aj v0 ag) ab ⟨_,_,Z,_,it0,gr,f.k Z,m,o0⟩ ?_
  clear ab f m
  rintro af ak al am a w ⟨ag,ah,rfl,ai,aj,an,f,m,ao⟩
  refine Aj (Ae ?_)
  refine Ab f Z λa f=>Ah f Z Z CX λa f=>Ah f Z Z Ar λa f=>Ac f Z λa f=>Aa (Af (Ae ?_))
  refine Ab f Z λa f=>Ab f Z λa f=>Ah f Z Z BT λa f=>Aa ?_
  rcases Ad al with⟨ap,al⟩|⟨ap,al⟩
  ·refine Ak f Z ap ?_
   refine Ax Z ?_
   obtain rfl:=sj al
   obtain rfl:=am _ rfl
   exact⟨_,Z,_,Z,_,aj,an,f.weak trivial,m,ao⟩
  ·refine Ai f Z ap ?_
   refine Al ?_
   refine Af (Af ?_)
   refine A3 22 Ay (by kernel_rfl) m ?_
   refine Ag 0 22 Z f Z λa f=>q_p 1 22 Z f (λ_=>AA (f.e Z) (f.e Z) Ar) λa f=>Ag 2 22 Z f Z λa f=>q_p 3 22 Z f (λ_=>AA (f.e Z) (f.e Z) AH) λa f=>Ag 4 22 Z f Z λa f=> ?_
   have⟨aq,ar,al⟩:=bind_some al
   refine BZ (fuel':=0) (listed':= #[true,true,true,true,true,true,true,true,true,true,true,true,true,true,true,true,true,true,true,true,true,true]) (λa=>Fr a 82 [(0,v0),(2,(iv x2)),(3,(iv x3)),(4,(.func (.func 117) #[] #[])),(10,(iv ah)),(11,(iv (i64.wrap ((i64.wrap (2*ah))+1)))),(18,(.bool (decide (x2≤(i64.wrap ((i64.wrap (2*ah))+1)))))),(19,(iv (i64.wrap ((i64.wrap (2*ah))+1)))),(20,(iv (i64.wrap ((i64.wrap ((i64.wrap (2*ah))+1))+1)))),(21,(iv x2)),(22,(.bool (decide ((i64.wrap ((i64.wrap ((i64.wrap (2*ah))+1))+1))<x2)))),(23,(.bool (decide ((i64.wrap ((i64.wrap ((i64.wrap (2*ah))+1))+1))<x2)))),(40,(.bool aq))]) ?_ ?_
   ·intro a f
    refine AK λau w av m=> ?_
    have ao:=od1 av ao
    refine Aa ?_
    have⟨aw,ax,al⟩:=bind_some al
    refine AF (λa w=>∃ay:Int,ay=aw∧∃(az:GH),GLe au az∧Fr a 82 [(0,v0),(2,(iv x2)),(3,(iv x3)),(4,(.func (.func 117) #[] #[])),(10,(iv ah)),(11,(iv ay))]∧Mem W az w (aj::H)) ?_ ?_
    ·rcases Ad ax with⟨aA,ax⟩|⟨aA,ax⟩
     ·refine Ak f Z aA ?_
      refine Am ?_
      refine Ab f Z λa f=>Ah f Z Z Ar λa f=>Ac f Z λa f=>Aa ?_
      obtain rfl:=sj ax
      exact⟨_,Z,_,gr,f.k Z,m⟩
     ·refine Ai f Z aA ?_
      refine Al ?_
      obtain rfl:=sj ax
      exact⟨_,Z,_,gr,f.k Z,m⟩
    ·rintro a w ⟨ay,rfl,az,aB,f,m⟩
     have ao:=od1 aB ao
     refine Af (Af ?_)
     refine A3 16 Ay (by kernel_rfl) m ?_
     refine Ag 0 16 Z f Z λa f=>Ag 1 16 Z f Z λa f=>Ag 2 16 Z f Z λa f=>Ag 3 16 Z f Z λa f=>q_p 4 16 Z f (λ_=>AA (f.e Z) (f.e Z) Ar) λa f=> ?_
     have⟨aC,aD,al⟩:=bind_some al
     refine AG 5 16 0 m ao T71 aD Z f Z Z λaE a aF f=>AR 6 16 0 ao Bg aF aD Z f Z λaG a aH f=> ?_
     subst aH
     refine Ag 7 16 Z f Z λa f=>Ag 8 16 Z f Z λa f=>Ag 9 16 Z f Z λa f=>q_p 10 16 Z f (λ_=>AA (f.e Z) (f.e Z) Ar) λa f=> ?_
     have⟨aI,aJ,al⟩:=bind_some al
     refine AG 11 16 0 m ao T71 aJ Z f Z Z λaK a aL f=>AR 12 16 0 ao Bg aL aJ Z f Z λaM a aN f=> ?_
     subst aN
     have⟨aO,aP,al⟩:=bind_some al
     refine BG (i:=13) 16 Z (by kernel_rfl) Z f Z Z Z Z call117 (λ_ _ w aQ m=>Wk.b hW m aP) λa f=>q_p 14 16 Z f (λ_=>AA (f.e Z) (f.e Z) AH) λa f=>q_p 15 16 Z f (λ_=>Bj (f.e Z)) λa f=>AK λaR w aS m=> ?_
     have ao:=od1 aS ao
     refine Aa ?_
     rcases Ad al with⟨aT,al⟩|⟨aT,al⟩
     ·refine Ak f Z aT ?_
      refine Ap ?_
      obtain rfl:=sj al
      obtain rfl:=am _ rfl
      obtain rfl:=sj hd
      exact⟨[],trivial,f.d,_,[aj],(gt an (gt av (gt aB aS))),m,_,Z,ao⟩
     ·refine Ai f Z aT ?_
      refine Al ?_
      refine Af ?_
      refine BC Ay m ?_
      refine p_p 4 Z f (λ_=>A4 (f.e Z)) λa f=>p_p 5 Z f (λ_=>A4 (f.e Z)) λa f=>p_p 6 Z f (λ_=>A4 (f.e Z)) λa f=>p_p 7 Z f (λ_=>AA (f.e Z) (f.e Z) Ar) λa f=>BD 240021 17 (by kernel_rfl) Z ?_
      refine Ag 0 240021 Z f Z λa f=>Ag 1 240021 Z f Z λa f=>Ag 2 240021 Z f Z λa f=>q_p 3 240021 Z f (λ_=>AA (f.e Z) (f.e Z) Ar) λa f=>Ag 8 240021 Z f Z λa f=>Ag 9 240021 Z f Z λa f=>Ag 10 240021 Z f Z λa f=>q_p 11 240021 Z f (λ_=>AA (f.e Z) (f.e Z) Ar) λa f=> ?_
      have⟨aU,aV,al⟩:=bind_some al
      refine AG 12 240021 0 m ao T71 aV Z f Z Z λaW a aX f=>AR 13 240021 0 ao Bg aX aV Z f Z λaY a aZ f=> ?_
      subst aZ
      refine Ag 14 240021 Z f Z λa f=>Ag 15 240021 Z f Z λa f=>Ag 16 240021 Z f Z λa f=>q_p 17 240021 Z f (λ_=>AA (f.e Z) (f.e Z) Ar) λa f=> ?_
      have⟨a0,a1,al⟩:=bind_some al
      refine AG 18 240021 0 m ao T71 a1 Z f Z Z λa2 a a3 f=>AR 19 240021 0 ao Bg a3 a1 Z f Z λa4 a a5 f=> ?_
      subst a5
      have⟨a6,a7,al⟩:=bind_some al
      refine AG 20 240021 0 m ao T71 a7 Z f Z Z λa8 a a9 f=>AK λba w bb m=> ?_
      have ao:=od1 bb ao
      refine Aw 0 m ao Z sizeOf76 f Z Z a9 a7 Z Z Z λbc w m bd=> ?_
      have⟨be,bf,al⟩:=bind_some al
      refine A6 0 m bd Z T71 f Z Z Z bf λbg a bh f=>Aw 0 m bd Z sizeOf76 f Z Z bh bf Z Z Z λbi w m bj=>Aa (Am ?_)
      refine Ab f Z λa f=>Ac f Z λa f=>Aa ?_
      obtain rfl:=sj al
      exact⟨_,Z,_,_,Z,_,bi,(gt an (gt av (gt aB (gt aS bb)))),f.k Z,m,bj⟩
   ·intro bk
    rcases Ad ar with⟨bl,ar⟩|⟨bl,ar⟩
    ·refine Ag (hw:=wo f bl) 5 22 Z f Z λa f=> ?_
     refine Ag (hw:=wo f bl) 6 22 Z f Z λa f=>Ag (hw:=wo f bl) 7 22 Z f Z λa f=>Ag (hw:=wo f bl) 8 22 Z f Z λa f=>q_p (hw:=wo f bl) 9 22 Z f (λ_=>AA (f.e Z) (f.e Z) Ar) λa f=> ?_
     have⟨bm,bn,ar⟩:=bind_some ar
     refine AG (hw:=wo f bl) 10 22 0 m ao T71 bn Z f Z Z λbo a bp f=>AR (hw:=wo f bl) 11 22 0 ao Bg bp bn Z f Z λbq a br f=> ?_
     subst br
     refine Ag (hw:=wo f bl) 12 22 Z f Z λa f=>Ag (hw:=wo f bl) 13 22 Z f Z λa f=>Ag (hw:=wo f bl) 14 22 Z f Z λa f=>q_p (hw:=wo f bl) 15 22 Z f (λ_=>AA (f.e Z) (f.e Z) Ar) λa f=>q_p (hw:=wo f bl) 16 22 Z f (λ_=>AA (f.e Z) (f.e Z) Ar) λa f=> ?_
     have⟨bs,bt,ar⟩:=bind_some ar
     refine AG (hw:=wo f bl) 17 22 0 m ao T71 bt Z f Z Z λbu a bv f=>AR (hw:=wo f bl) 18 22 0 ao Bg bv bt Z f Z λbw a bx f=> ?_
     subst bx
     have⟨bz,bA,ar⟩:=bind_some ar
     refine BG (i:=19) 22 Z (by kernel_rfl) Z f (Ba f Z Z Z bl) Z Z Z call117 (λ_ _ w bB m=>Wk.b hW m bA) λa f=>q_p (hw:=wo f bl) 20 22 Z f (λ_=>AA (f.e Z) (f.e Z) AH) λa f=>q_p 21 22 Z f (λ_=>AU (f.e Z) bl (f.e Z)) λa f=> ?_
     obtain rfl:=sj ar
     exact bk _ (f.k Z)
    ·refine Ao 5 22 Z f bl λa f=> ?_
     refine Ao 6 22 Z f bl λa f=>Ao 7 22 Z f bl λa f=>Ao 8 22 Z f bl λa f=>Ao 9 22 Z f bl λa f=>Ao 10 22 Z f bl λa f=>Ao 11 22 Z f bl λa f=>Ao 12 22 Z f bl λa f=>Ao 13 22 Z f bl λa f=>Ao 14 22 Z f bl λa f=>Ao 15 22 Z f bl λa f=>Ao 16 22 Z f bl λa f=>Ao 17 22 Z f bl λa f=>Ao 18 22 Z f bl λa f=>Ao 19 22 Z f bl λa f=>Ao 20 22 Z f bl λa f=>q_p 21 22 Z f (λ_=>AV (f.e Z) bl (f.e Z)) λa f=> ?_
     obtain rfl:=sj ar
     exact bk _ (f.k Z)
 ·rintro a w ⟨_,rfl,ac,rfl,ad,ae,bC,f,m,bD⟩
  obtain rfl:=sj hd
  exact⟨[],trivial,f.d,_,[ae],bC,m,_,Z,bD⟩
theorem Wk.D1 {v0:Value}{it0:Itm}{x0:LI}{x1 x2:Int}(hW:B5 W)(m:Mem W G w (it0::H))(o0:Ow (RI .u32) 76 G it0 v0 x0){y:(LI)}(hd:D.D1 x0 x1 x2=some y):
  Calls prog 181 #[v0,(iv x1),(iv x2),(.func (.func 117) #[] #[])] w (Res W G H (λG' Ho _=>∃i0:Itm,Ho=[i0]∧Ow (RI .u32) 76 G' i0 v0 y)):=by
 refine As (args:=[v0,(iv x1),(iv x2),(.func (.func 117) #[] #[])]) (N:=60) [] func181 Z Z (lb Z) Z λa f=> ?_
 unfold D.D1 at hd
 refine Ae ?_
 refine Ab f Z λa f=>Ac f Z λa f=>Au ?_
 refine Ac f Z λa f=>Au ?_
 refine Ab f Z λa f=>Ab f Z λa f=>Ah f Z Z AO λa f=>Ac f Z λa f=>Aa (Af (Ae ?_))
 refine Ab f Z λa f=>Ah f Z Z AO λa f=>Ah f Z Z (Dl Z) λa f=>Ac f Z λa f=>Aa ?_
 have⟨aa,ab,hd⟩:=bind_some hd
 refine AF (λa w=>∃ac:LI,ac=aa∧∃(ad:GH) (ae:Itm),GLe G ad∧Fr a 60 [(0,v0),(3,(.func (.func 117) #[] #[])),(8,(iv x1)),(9,(iv 0)),(10,(iv (i64.wrap (x2-x1))))]∧Mem W ad w (ae::H)∧Ow (RI .u32) 76 ad ae v0 ac) ?_ ?_
 ·refine Aj ?_
  refine AD (λaf a w=>∃ag:LI,∃ah:Int,(ag,ah)=af∧∃(ai:GH) (aj:Itm),GLe G ai∧Fr a 60 [(0,v0),(3,(.func (.func 117) #[] #[])),(8,(iv x1)),(9,(iv 0)),(10,(iv (i64.wrap (x2-x1)))),(11,(iv ah))]∧Mem W ai w (aj::H)∧Ow (RI .u32) 76 ai aj v0 ag) ab ⟨_,_,Z,_,it0,gr,f.k Z,m,o0⟩ ?_
  clear ab f m
  rintro af ak al am a w ⟨ag,ah,rfl,ai,aj,an,f,m,ao⟩
  refine Af (Ae ?_)
  refine Ab f Z λa f=>Ah f Z Z BT λa f=>Aa ?_
  rcases Ad al with⟨ap,al⟩|⟨ap,al⟩
  ·refine Ak f Z ap ?_
   refine Al ?_
   refine Af (Aj (Am ?_))
   refine Ab f Z λa f=>Ab f Z λa f=>Ab f Z λa f=>Ab f Z λa f=>Ab f Z λa f=> ?_
   have⟨aq,ar,al⟩:=bind_some al
   refine Av f Z call202 (Wk.i1 hW m ao ar) λau av aw w ax m ay a f=> ?_
   obtain⟨az,rfl,aA⟩:=ay
   refine Aa (Am ?_)
   refine Ab f Z λa f=>Ah f Z Z AO λa f=>Ac f Z λa f=>Aa ?_
   obtain rfl:=sj al
   exact⟨_,Z,_,_,Z,_,az,(gt an ax),f.k Z,m,aA⟩
  ·refine Ai f Z ap ?_
   refine Ax Z ?_
   obtain rfl:=sj al
   obtain rfl:=am _ rfl
   exact⟨_,Z,_,aj,an,f.k Z,m,ao⟩
 ·rintro a w ⟨ac,rfl,ad,ae,aB,f,m,aC⟩
  refine Ae ?_
  refine Ab f Z λa f=>Ah f Z Z AO λa f=>Ac f Z λa f=>Aa ?_
  have⟨aD,aE,hd⟩:=bind_some hd
  refine AF (λa w=>∃aF:LI,aF=aD∧∃(aG:GH) (aH:Itm),GLe ad aG∧Fr a 60 []∧Mem W aG w (aH::H)∧Ow (RI .u32) 76 aG aH v0 aF) ?_ ?_
  ·refine Aj ?_
   refine AD (λaI a w=>∃aJ:LI,∃aK:Int,(aJ,aK)=aI∧∃(aL:GH) (aM:Itm),GLe ad aL∧Fr a 60 [(0,v0),(3,(.func (.func 117) #[] #[])),(8,(iv x1)),(9,(iv 0)),(12,(iv aK))]∧Mem W aL w (aM::H)∧Ow (RI .u32) 76 aL aM v0 aJ) aE ⟨_,_,Z,_,ae,gr,f.k Z,m,aC⟩ ?_
   clear aE f m
   rintro aI aN aO aP a w ⟨aJ,aK,rfl,aL,aM,aQ,f,m,aR⟩
   refine Af (Ae ?_)
   refine Ab f Z λa f=>Ah f Z Z BT λa f=>Aa ?_
   rcases Ad aO with⟨aS,aO⟩|⟨aS,aO⟩
   ·refine Ak f Z aS ?_
    refine Al ?_
    refine Af (Aj (Af ?_))
    refine BC Ay m ?_
    refine p_p 2 Z f (λ_=>A4 (f.e Z)) λa f=>p_p 3 Z f (λ_=>A4 (f.e Z)) λa f=>p_p 4 Z f (λ_=>A4 (f.e Z)) λa f=>p_p 5 Z f (λ_=>AA (f.e Z) (f.e Z) Ar) λa f=>BD 60017 13 (by kernel_rfl) Z ?_
    refine Ag 0 60017 Z f Z λa f=>Ag 1 60017 Z f Z λa f=>Ag 6 60017 Z f Z λa f=>Ag 7 60017 Z f Z λa f=>Ag 8 60017 Z f Z λa f=>q_p 9 60017 Z f (λ_=>AA (f.e Z) (f.e Z) Ar) λa f=> ?_
    have⟨aT,aU,aO⟩:=bind_some aO
    refine AG 10 60017 0 m aR T71 aU Z f Z Z λaV a aW f=>AR 11 60017 0 aR Bg aW aU Z f Z λaX a aY f=> ?_
    subst aY
    refine Ag 12 60017 Z f Z λa f=>Ag 13 60017 Z f Z λa f=> ?_
    have⟨aZ,a0,aO⟩:=bind_some aO
    refine AG 14 60017 0 m aR T71 a0 Z f Z Z λa1 a a2 f=>AR 15 60017 0 aR Bg a2 a0 Z f Z λa3 a a4 f=> ?_
    subst a4
    have⟨a5,a6,aO⟩:=bind_some aO
    refine AG 16 60017 0 m aR T71 a6 Z f Z Z λa7 a a8 f=>AK λa9 w ba m=> ?_
    have aR:=od1 ba aR
    refine Aw 0 m aR Z sizeOf76 f Z Z a8 a6 Z Z Z λbb w m bc=> ?_
    have⟨bd,be,aO⟩:=bind_some aO
    refine A6 0 m bc Z T71 f Z Z Z be λbf a bg f=>Aw 0 m bc Z sizeOf76 f Z Z bg be Z Z Z λbh w m bi=>Aa (Am ?_)
    refine Ab f Z λa f=>Ab f Z λa f=>Ab f Z λa f=>Ab f Z λa f=>Ab f Z λa f=> ?_
    have⟨bj,bk,aO⟩:=bind_some aO
    refine Av f Z call202 (Wk.i1 hW m bi bk) λbl bm bn w bo m bp a f=> ?_
    obtain⟨bq,rfl,br⟩:=bp
    refine Aa (Am ?_)
    refine Ab f Z λa f=>Ah f Z Z AO λa f=>Ac f Z λa f=>Aa ?_
    obtain rfl:=sj aO
    exact⟨_,Z,_,_,Z,_,bq,(gt aQ (gt ba bo)),f.k Z,m,br⟩
   ·refine Ai f Z aS ?_
    refine Ax Z ?_
    obtain rfl:=sj aO
    obtain rfl:=aP _ rfl
    exact⟨_,Z,_,aM,aQ,f.weak trivial,m,aR⟩
  ·rintro a w ⟨aF,rfl,aG,aH,bs,f,m,bt⟩
   obtain rfl:=sj hd
   exact⟨[],trivial,f.d,_,[aH],(gt aB bs),m,_,Z,bt⟩
theorem Wk.G1 {v0:Value}{it0:Itm}{x0:LI}{x1 x2:Int}(m:Mem W G w (it0::H))(o0:Ow (RI .u32) 76 G it0 v0 x0){y:(LI)}(hd:D.G1 x0 x1 x2=some y):
  Calls prog 182 #[v0,(iv x1),(iv x2),(.func (.func 117) #[] #[])] w (Res W G H (λG' Ho _=>∃i0:Itm,Ho=[i0]∧Ow (RI .u32) 76 G' i0 v0 y)):=by
 refine As (args:=[v0,(iv x1),(iv x2),(.func (.func 117) #[] #[])]) (N:=67) [] func182 Z Z (lb Z) Z λa f=> ?_
 unfold D.G1 at hd
 refine Ae ?_
 refine Ab f Z λa f=>Ab f Z λa f=>Ah f Z Z AO λa f=>Ac f Z λa f=>Au ?_
 refine Ab f Z λa f=>Ah f Z Z BT λa f=>Aa ?_
 rcases Ad hd with⟨aa,hd⟩|⟨aa,hd⟩
 ·refine Ak f Z aa ?_
  refine Ae ?_
  refine Ab f Z λa f=>l_o f (DA (f.e Z) ⟨_,underlying3⟩ underlying190) λa f=>Bm (cs:=[(.int .u64 0)]) zeroValue190 m f Z Z λab w a m f=>AE 0 0 (ds:=[(.int .u64 (IntKind.u64.wrap (i64.wrap (x2-x1))))]) m sizeOf190 f Z Z Z (AC Z AN) Z (lb Z) Z λw m=>Au ?_
  refine Ab f Z λa f=> ?_
  have⟨ac,ad,hd⟩:=bind_some hd
  refine Bf f Z call190 (Wk.I m ad) λae w af m a f=> ?_
  have o0:=od1 af o0
  refine Ac f Z λa f=>Au ?_
  refine Ab f Z λa f=>Ab f Z λa f=>Ah f Z Z (Dl Z) λa f=>Ah f Z Z CX λa f=>Ah f Z Z Ar λa f=>Ah f Z Z AO λa f=>Ac f Z λa f=>Aa ?_
  have⟨ag,ah,hd⟩:=bind_some hd
  refine AF (λa w=>∃ai:LI,ai=ag∧∃(aj:GH) (ak:Itm),GLe ae aj∧Fr a 67 []∧Mem W aj w (ak::H)∧Ow (RI .u32) 76 aj ak v0 ai) ?_ ?_
  ·refine Aj ?_
   refine AD (λal a w=>∃am:LI,∃an:Int,∃ao:Int,(am,an,ao)=al∧∃(ap:GH) (aq:Itm),GLe ae ap∧Fr a 67 [(0,v0),(1,(iv x1)),(8,(iv (i64.wrap (x2-x1)))),(9,(pb ab)),(10,(.int .u64 ac)),(11,(iv an))]∧Mem W ap w (ib ab 190 [(.int .u64 ao)]::aq::H)∧Ow (RI .u32) 76 ap aq v0 am) ah ⟨_,_,_,Z,_,it0,gr,f.k Z,m,o0⟩ ?_
   clear ah f m
   rintro al ar au av a w ⟨am,an,ao,rfl,ap,aq,aw,f,m,ax⟩
   refine Af (Ae ?_)
   refine Ab f Z λa f=>Ab f Z λa f=>Ab f Z λa f=>Ah f Z Z (Dl Z) λa f=>Ah f Z Z CX λa f=>Ah f Z Z Ar λa f=>Ah f Z Z Ar λa f=>Ah f Z Z Ci λa f=>Aa ?_
   rcases Ad au with⟨ay,au⟩|⟨ay,au⟩
   ·refine Ak f Z ay ?_
    refine Al ?_
    refine Af (Aj (Ae ?_))
    have⟨az,aA,au⟩:=bind_some au
    refine Av f Z call191 (Wk.b0 m aA) λaB aC aD w aE m aF a f=> ?_
    obtain⟨rfl,rfl⟩:=aF
    have ax:=od1 aE ax
    refine Ab f Z λa f=>Ah f Z Z AO λa f=>Ah f Z Z Dc λa f=>l_o f (DA (f.e Z) ⟨_,underlying135⟩ underlying3) λa f=>Ac f Z λa f=>Aa (Af (Ae ?_))
    refine Ab f Z λa f=>Ab f Z λa f=>Ah f Z Z BT λa f=>Aa ?_
    have⟨aG,aH,au⟩:=bind_some au
    refine AF (λa w=>∃aI:Int,aI=aG∧∃(aJ:GH),GLe aC aJ∧Fr a 67 [(0,v0),(1,(iv x1)),(8,(iv (i64.wrap (x2-x1)))),(9,(pb ab)),(10,(.int .u64 ac)),(11,(iv an)),(12,(iv aI))]∧Mem W aJ w (ib ab 190 [(.int .u64 az.2)]::aq::H)) ?_ ?_
    ·rcases Ad aH with⟨aK,aH⟩|⟨aK,aH⟩
     ·refine Ak f Z aK ?_
      refine Am ?_
      refine Ab f Z λa f=>Ab f Z λa f=>Ah f Z Z AO λa f=>Ac f Z λa f=>Aa ?_
      obtain rfl:=sj aH
      exact⟨_,Z,_,gr,f.k Z,m⟩
     ·refine Ai f Z aK ?_
      refine Al ?_
      obtain rfl:=sj aH
      exact⟨_,Z,_,gr,f.k Z,m⟩
    ·rintro a w ⟨aI,rfl,aJ,aL,f,m⟩
     have ax:=od1 aL ax
     refine BC Ay m ?_
     refine p_p 2 Z f (λ_=>A4 (f.e Z)) λa f=>p_p 3 Z f (λ_=>A4 (f.e Z)) λa f=>p_p 4 Z f (λ_=>A4 (f.e Z)) λa f=>p_p 5 Z f (λ_=>AA (f.e Z) (f.e Z) Ar) λa f=>BD 60017 13 (by kernel_rfl) Z ?_
     refine Ag 0 60017 Z f Z λa f=>Ag 1 60017 Z f Z λa f=>Ag 6 60017 Z f Z λa f=>Ag 7 60017 Z f Z λa f=>Ag 8 60017 Z f Z λa f=>q_p 9 60017 Z f (λ_=>AA (f.e Z) (f.e Z) Ar) λa f=> ?_
     have⟨aM,aN,au⟩:=bind_some au
     refine AG 10 60017 1 m ax T71 aN Z f Z Z λaO a aP f=>AR 11 60017 1 ax Bg aP aN Z f Z λaQ a aR f=> ?_
     subst aR
     refine Ag 12 60017 Z f Z λa f=>Ag 13 60017 Z f Z λa f=> ?_
     have⟨aS,aT,au⟩:=bind_some au
     refine AG 14 60017 1 m ax T71 aT Z f Z Z λaU a aV f=>AR 15 60017 1 ax Bg aV aT Z f Z λaW a aX f=> ?_
     subst aX
     have⟨aY,aZ,au⟩:=bind_some au
     refine AG 16 60017 1 m ax T71 aZ Z f Z Z λa0 a a1 f=>AK λa2 w a3 m=> ?_
     have ax:=od1 a3 ax
     refine Aw 1 m ax Z sizeOf76 f Z Z a1 aZ Z Z Z λa4 w m a5=> ?_
     have⟨a6,a7,au⟩:=bind_some au
     refine A6 1 m a5 Z T71 f Z Z Z a7 λa8 a a9 f=>Aw 1 m a5 Z sizeOf76 f Z Z a9 a7 Z Z Z λba w m bb=>Aa (Am ?_)
     refine Ab f Z λa f=>Ah f Z Z Ar λa f=>Ac f Z λa f=>Aa ?_
     obtain rfl:=sj au
     exact⟨_,Z,_,_,_,Z,_,ba,(gt aw (gt aE (gt aL a3))),f.k Z,m,bb⟩
   ·refine Ai f Z ay ?_
    refine Ax Z ?_
    have m:=m.fr 1
    have m:=m.eraseAt 1
    obtain rfl:=sj au
    obtain rfl:=av _ rfl
    exact⟨_,Z,_,aq,aw,f.weak trivial,m,ax⟩
  ·rintro a w ⟨ai,rfl,aj,ak,bc,f,m,bd⟩
   obtain rfl:=sj hd
   exact⟨[],trivial,f.d,_,[ak],(gt af bc),m,_,Z,bd⟩
 ·refine Ai f Z aa ?_
  refine Al ?_
  obtain rfl:=sj hd
  exact⟨[],trivial,f.d,_,[it0],gr,m,_,Z,o0⟩
theorem Wk.D0 {v0:Value}{it0:Itm}{b3:Nat}{x0:LI}{x1 x2 aa:Int}(hW:B5 W)(m:Mem W G w (it0::ib b3 3 [(iv aa)]::H))(o0:Ow (RI .u32) 76 G it0 v0 x0){y:Int×Int×(LI)×Int}(hd:D.D0 x0 x1 x2 aa=some y):
  Calls prog 217 #[v0,(iv x1),(iv x2),(pb b3),(.func (.func 117) #[] #[])] w (Res W G H (λG' Ho v=>∃i0:Itm,Ho=[i0,ib b3 3 [(iv y.2.2.2)]]∧v= .tuple #[(iv y.1),(iv y.2.1)]∧Ow (RI .u32) 76 G' i0 v0 y.2.2.1)):=by
 refine As (args:=[v0,(iv x1),(iv x2),(pb b3),(.func (.func 117) #[] #[])]) (N:=32) [.tmp 10,.tmp 11] func217 Z Z (lb Z) Z λa f=> ?_
 unfold D.D0 at hd
 refine Ae ?_
 refine Ac f Z λa f=>Ac f Z λa f=>Aa (Af (Af ?_))
 refine A3 11 Ay (by kernel_rfl) m ?_
 refine Ag 0 11 Z f Z λa f=>Ag 1 11 Z f Z λa f=>Ag 2 11 Z f Z λa f=> ?_
 have⟨ab,ac,hd⟩:=bind_some hd
 refine AG 3 11 0 m o0 T71 ac Z f Z Z λad a ae f=>AR 4 11 0 o0 Bg ae ac Z f Z λaf a ag f=> ?_
 subst ag
 refine Ag 5 11 Z f Z λa f=>Ag 6 11 Z f Z λa f=> ?_
 have⟨ah,ai,hd⟩:=bind_some hd
 refine AG 7 11 0 m o0 T71 ai Z f Z Z λaj a ak f=>AR 8 11 0 o0 Bg ak ai Z f Z λal a am f=> ?_
 subst am
 have⟨an,ao,hd⟩:=bind_some hd
 refine BG (i:=9) 11 Z (by kernel_rfl) Z f Z Z Z Z call117 (λ_ _ w ap m=>Wk.b hW m ao) λa f=>q_p 10 11 Z f (λ_=>AA (f.e Z) (f.e Z) AH) λa f=>AK λaq w ar m=> ?_
 have o0:=od1 ar o0
 refine Aa ?_
 rcases Ad hd with⟨au,hd⟩|⟨au,hd⟩
 ·refine Ak f Z au ?_
  refine Ae ?_
  refine Ab f Z λa f=>l_o f (Bt (f.e Z)) λa f=>AJ 1 0 m Pl3 f Z Z Z Z λa f=>Ah f Z Z Ar λa f=>l_o f (Bt (f.e Z)) λa f=>AE 1 0 (ds:=[(iv (i64.wrap (aa+1)))]) m sizeOf3 f Z Z Z (AC Z AN) Z (lb Z) Z λw m=>Au ?_
  refine Ab f Z λa f=>Ab f Z λa f=>Ac f Z λa f=>Ac f Z λa f=>Aa ?_
  refine Ap ?_
  obtain rfl:=sj hd
  exact⟨[(iv x2),(iv x1)],⟨f.get _ _ Z,f.get _ _ Z,trivial⟩,f.d,_,[it0,ib b3 3 [(iv (i64.wrap (aa+1)))]],ar,m,_,Z,Z,o0⟩
 ·refine Ai f Z au ?_
  refine Al ?_
  refine Ae ?_
  refine Ab f Z λa f=>Ab f Z λa f=>Ac f Z λa f=>Ac f Z λa f=>Aa ?_
  refine Ap ?_
  obtain rfl:=sj hd
  exact⟨[(iv x1),(iv x2)],⟨f.get _ _ Z,f.get _ _ Z,trivial⟩,f.d,_,[it0,ib b3 3 [(iv aa)]],ar,m,_,Z,Z,o0⟩
theorem Wk.a1 {v0:Value}{it0:Itm}{b4:Nat}{x0:LI}{x1 x2 x3 aa:Int}(hW:B5 W)(m:Mem W G w (it0::ib b4 3 [(iv aa)]::H))(o0:Ow (RI .u32) 76 G it0 v0 x0){y:Int×(LI)×Int}(hd:D.a1 x0 x1 x2 x3 aa=some y):
  Calls prog 204 #[v0,(iv x1),(iv x2),(iv x3),(pb b4),(.func (.func 117) #[] #[])] w (Res W G H (λG' Ho v=>∃i0:Itm,Ho=[i0,ib b4 3 [(iv y.2.2)]]∧v=(iv y.1)∧Ow (RI .u32) 76 G' i0 v0 y.2.1)):=by
 refine As (args:=[v0,(iv x1),(iv x2),(iv x3),(pb b4),(.func (.func 117) #[] #[])]) (N:=41) [.tmp 12] func204 Z Z (lb Z) Z λa f=> ?_
 unfold D.a1 at hd
 refine Ae ?_
 refine Ac f Z λa f=>Au ?_
 refine Ab f Z λa f=>Ab f Z λa f=>Ab f Z λa f=>Ab f Z λa f=>Ab f Z λa f=> ?_
 have⟨ab,ac,hd⟩:=bind_some hd
 refine Av f Z call217 (Wk.D0 hW m o0 ac) λad ae af w ag m ah a f=> ?_
 obtain⟨ai,rfl,rfl,aj⟩:=ah
 refine Ab f Z λa f=>l_o f (A7 (f.e Z) Z) λa f=>l_o f (A7 (f.e Z) Z) λa f=>Ac f Z λa f=>Ac f Z λa f=>Au ?_
 refine Ab f Z λa f=>Ab f Z λa f=>Ab f Z λa f=>Ab f Z λa f=>Ab f Z λa f=> ?_
 have⟨ak,al,hd⟩:=bind_some hd
 refine Av f Z call217 (Wk.D0 hW m aj al) λam an ao w ap m aq a f=> ?_
 obtain⟨ar,rfl,rfl,au⟩:=aq
 refine Ab f Z λa f=>l_o f (A7 (f.e Z) Z) λa f=>l_o f (A7 (f.e Z) Z) λa f=>Ac f Z λa f=>Ac f Z λa f=>Au ?_
 refine Ab f Z λa f=>Ab f Z λa f=>Ab f Z λa f=>Ab f Z λa f=>Ab f Z λa f=> ?_
 have⟨av,aw,hd⟩:=bind_some hd
 refine Av f Z call217 (Wk.D0 hW m au aw) λax ay az w aA m aB a f=> ?_
 obtain⟨aC,rfl,rfl,aD⟩:=aB
 refine Ab f Z λa f=>l_o f (A7 (f.e Z) Z) λa f=>l_o f (A7 (f.e Z) Z) λa f=>Ac f Z λa f=>Ac f Z λa f=>Au ?_
 refine Ab f Z λa f=>Ac f Z λa f=>Aa ?_
 refine Ap ?_
 obtain rfl:=sj hd
 exact⟨[(iv av.2.1)],f.g Z,f.d,_,[aC,ib b4 3 [(iv av.2.2.2)]],(gt ag (gt ap aA)),m,_,Z,Z,aD⟩
theorem Wk.z0 {v0:Value}{it0:Itm}{b2:Nat}{x0:LI}{x1 aa:Int}(hW:B5 W)(m:Mem W G w (it0::ib b2 3 [(iv aa)]::H))(o0:Ow (RI .u32) 76 G it0 v0 x0){y:Int×(LI)×Int}(hd:D.z0 x0 x1 aa=some y):
  Calls prog 203 #[v0,(iv x1),(pb b2),(.func (.func 117) #[] #[])] w (Res W G H (λG' Ho v=>∃i0:Itm,Ho=[i0,ib b2 3 [(iv y.2.2)]]∧v=(iv y.1)∧Ow (RI .u32) 76 G' i0 v0 y.2.1)):=by
 refine As (args:=[v0,(iv x1),(pb b2),(.func (.func 117) #[] #[])]) (N:=18) [.tmp 8] func203 Z Z (lb Z) Z λa f=> ?_
 unfold D.z0 at hd
 refine Ae ?_
 refine Ac f Z λa f=>Au ?_
 refine Ab f Z λa f=>Ab f Z λa f=>Ah f Z Z AO λa f=>Ab f Z λa f=>Ab f Z λa f=>Ah f Z Z Ar λa f=>Ab f Z λa f=>Ab f Z λa f=> ?_
 have⟨ab,ac,hd⟩:=bind_some hd
 refine Av f Z call204 (Wk.a1 hW m o0 ac) λad ae af w ag m ah a f=> ?_
 obtain⟨ai,rfl,rfl,aj⟩:=ah
 refine Ac f Z λa f=>Aa ?_
 refine Ap ?_
 obtain rfl:=sj hd
 exact⟨[(iv ab.1)],f.g Z,f.d,_,[ai,ib b2 3 [(iv ab.2.2)]],ag,m,_,Z,Z,aj⟩
theorem Wk.T1 {v0:Value}{it0:Itm}{x0:LI}{x1 x2:Int}(hW:B5 W)(m:Mem W G w (it0::H))(o0:Ow (RI .u32) 76 G it0 v0 x0){y:Int×Int×(LI)}(hd:D.T1 x0 x1 x2=some y):
  Calls prog 183 #[v0,(iv x1),(iv x2),(.func (.func 117) #[] #[])] w (Res W G H (λG' Ho v=>∃i0:Itm,Ho=[i0]∧v= .tuple #[(iv y.1),(iv y.2.1)]∧Ow (RI .u32) 76 G' i0 v0 y.2.2)):=by
 refine As (args:=[v0,(iv x1),(iv x2),(.func (.func 117) #[] #[])]) (N:=63) [.tmp 8,.tmp 9] func183 Z Z (lb Z) Z λa f=> ?_
 unfold D.T1 at hd
 refine Ae ?_
 refine Ac f Z λa f=>Ac f Z λa f=>Au ?_
 refine Ab f Z λa f=>Ab f Z λa f=>Ah f Z Z AO λa f=>Ac f Z λa f=>Au ?_
 refine Bm (cs:=[(iv 0)]) zeroValue3 m f Z Z λaa w a m f=>Au ?_
 refine Ab f Z λa f=>Ab f Z λa f=>Ah f Z Z (Dl Z) λa f=>Ah f Z Z CX λa f=>Ah f Z Z Ar λa f=>Ac f Z λa f=>Au ?_
 refine Ab f Z λa f=>Ab f Z λa f=>Ah f Z Z (Dl Z) λa f=>Ah f Z Z CX λa f=>Ah f Z Z Ar λa f=>Ac f Z λa f=>Au ?_
 refine Ab f Z λa f=>Ab f Z λa f=>Ah f Z Z (Dl Z) λa f=>Ah f Z Z CX λa f=>Ah f Z Z Ar λa f=>Ac f Z λa f=>Aa (Af (Ae ?_))
 refine Ab f Z λa f=>Ah f Z Z BT λa f=>Aa ?_
 rcases Ad hd with⟨ab,hd⟩|⟨ab,hd⟩
 ·refine Ak f Z ab ?_
  refine Af (Ae ?_)
  refine Ab f Z λa f=>Ah f Z Z BT λa f=>Aa ?_
  have⟨ac,ad,hd⟩:=bind_some hd
  refine AF (λa w=>∃ae:LI,∃af:Int,∃ag:Int,∃ah:Int,∃ai:Int,(ae,af,ag,ah,ai)=ac∧∃(aj:GH) (ak:Itm),GLe G aj∧Fr a 63 [(0,v0),(3,(.func (.func 117) #[] #[])),(11,(pb aa)),(12,(iv af)),(13,(iv ag)),(14,(iv ah))]∧Mem W aj w (ib aa 3 [(iv ai)]::ak::H)∧Ow (RI .u32) 76 aj ak v0 ae) ?_ ?_
  ·rcases Ad ad with⟨al,ad⟩|⟨al,ad⟩
   ·refine Ak f Z al ?_
    refine Ae ?_
    refine Ab f Z λa f=>Ab f Z λa f=>Ab f Z λa f=> ?_
    have m:=m.fr 1
    have⟨am,an,ad⟩:=bind_some ad
    refine Av f Z call203 (Wk.z0 hW m o0 an) λao ap aq w ar m au a f=> ?_
    obtain⟨av,rfl,rfl,aw⟩:=au
    refine Ac f Z λa f=>Au ?_
    refine Ab f Z λa f=>Ab f Z λa f=>Ab f Z λa f=> ?_
    have⟨ax,ay,ad⟩:=bind_some ad
    refine Av f Z call203 (Wk.z0 hW m aw ay) λaz aA aB w aC m aD a f=> ?_
    obtain⟨aE,rfl,rfl,aF⟩:=aD
    refine Ac f Z λa f=>Aa (Am ?_)
    refine Ab f Z λa f=>Ab f Z λa f=>Ab f Z λa f=> ?_
    have⟨aG,aH,ad⟩:=bind_some ad
    refine Av f Z call203 (Wk.z0 hW m aF aH) λaI aJ aK w aL m aM a f=> ?_
    obtain⟨aN,rfl,rfl,aO⟩:=aM
    refine Ac f Z λa f=>Aa ?_
    have m:=m.fr 1
    obtain rfl:=sj ad
    exact⟨_,_,_,_,_,Z,_,aN,(gt ar (gt aC aL)),f.k Z,m,aO⟩
   ·refine Ai f Z al ?_
    refine Al ?_
    obtain rfl:=sj ad
    exact⟨_,_,_,_,_,Z,_,it0,gr,f.k Z,m,o0⟩
  ·rintro a w ⟨ae,af,ag,ah,ai,rfl,aj,ak,aP,f,m,aQ⟩
   refine Am ?_
   refine Ab f Z λa f=>Ab f Z λa f=>Ab f Z λa f=>Ab f Z λa f=>Ab f Z λa f=> ?_
   have m:=m.fr 1
   have⟨aR,aS,hd⟩:=bind_some hd
   refine Av f Z call204 (Wk.a1 hW m aQ aS) λaT aU aV w aW m aX a f=> ?_
   obtain⟨aY,rfl,rfl,aZ⟩:=aX
   refine Ac f Z λa f=>Au ?_
   refine AJ 1 0 m Pl3 f Z Z Z Z λa f=>Aa (Aj (Ae ?_))
   refine Ah f Z Z Bq λa f=>Ac f Z λa f=>Aa ?_
   rcases Ad hd with⟨a0,hd⟩|⟨a0,hd⟩
   ·refine Ak f Z a0 ?_
    refine Ae ?_
    refine Ab f Z λa f=>Ac f Z λa f=>Ac f Z λa f=>Aa ?_
    refine Ap ?_
    have m:=m.eraseAt 1
    obtain rfl:=sj hd
    exact⟨[(iv aR.1),(iv 1)],⟨f.get _ _ Z,f.get _ _ Z,trivial⟩,f.d,_,[aY],(gt aP aW),m,_,Z,Z,aZ⟩
   ·refine Ai f Z a0 ?_
    refine Ae ?_
    refine Ah f Z Z Bq λa f=>Ac f Z λa f=>Aa ?_
    rcases Ad hd with⟨a1,hd⟩|⟨a1,hd⟩
    ·refine Ak f Z a1 ?_
     refine Ae ?_
     refine Ab f Z λa f=>Ac f Z λa f=>Ac f Z λa f=>Aa ?_
     refine Ap ?_
     have m:=m.eraseAt 1
     obtain rfl:=sj hd
     exact⟨[(iv aR.1),(iv 2)],⟨f.get _ _ Z,f.get _ _ Z,trivial⟩,f.d,_,[aY],(gt aP aW),m,_,Z,Z,aZ⟩
    ·refine Ai f Z a1 ?_
     refine Ae ?_
     refine Ab f Z λa f=>Ac f Z λa f=>Ac f Z λa f=>Aa ?_
     refine Ap ?_
     have m:=m.eraseAt 1
     obtain rfl:=sj hd
     exact⟨[(iv aR.1),(iv 0)],⟨f.get _ _ Z,f.get _ _ Z,trivial⟩,f.d,_,[aY],(gt aP aW),m,_,Z,Z,aZ⟩
 ·refine Ai f Z ab ?_
  refine Al ?_
  refine Ae ?_
  refine AJ 0 0 m Pl3 f Z Z Z Z λa f=>Aa (Aj (Ae ?_))
  refine Ah f Z Z Bq λa f=>Ac f Z λa f=>Aa ?_
  rcases Ad hd with⟨a2,hd⟩|⟨a2,hd⟩
  ·refine Ak f Z a2 ?_
   refine Ae ?_
   refine Ab f Z λa f=>Ac f Z λa f=>Ac f Z λa f=>Aa ?_
   refine Ap ?_
   have m:=m.fr 1
   have m:=m.eraseAt 1
   obtain rfl:=sj hd
   exact⟨[(iv (i64.wrap (x1+(i64.wrap ((i64.wrap (Int.tdiv (i64.wrap (x2-x1)) 4))*2))))),(iv 1)],⟨f.get _ _ Z,f.get _ _ Z,trivial⟩,f.d,_,[it0],gr,m,_,Z,Z,o0⟩
  ·refine Ai f Z a2 ?_
   refine Ae ?_
   refine Ah f Z Z Bq λa f=>Ac f Z λa f=>Aa ?_
   rcases Ad hd with⟨a3,hd⟩|⟨a3,hd⟩
   ·refine Ak f Z a3 ?_
    refine Ae ?_
    refine Ab f Z λa f=>Ac f Z λa f=>Ac f Z λa f=>Aa ?_
    refine Ap ?_
    have m:=m.fr 1
    have m:=m.eraseAt 1
    obtain rfl:=sj hd
    exact⟨[(iv (i64.wrap (x1+(i64.wrap ((i64.wrap (Int.tdiv (i64.wrap (x2-x1)) 4))*2))))),(iv 2)],⟨f.get _ _ Z,f.get _ _ Z,trivial⟩,f.d,_,[it0],gr,m,_,Z,Z,o0⟩
   ·refine Ai f Z a3 ?_
    refine Ae ?_
    refine Ab f Z λa f=>Ac f Z λa f=>Ac f Z λa f=>Aa ?_
    refine Ap ?_
    have m:=m.fr 1
    have m:=m.eraseAt 1
    obtain rfl:=sj hd
    exact⟨[(iv (i64.wrap (x1+(i64.wrap ((i64.wrap (Int.tdiv (i64.wrap (x2-x1)) 4))*2))))),(iv 0)],⟨f.get _ _ Z,f.get _ _ Z,trivial⟩,f.d,_,[it0],gr,m,_,Z,Z,o0⟩
theorem Wk.B1 {v0:Value}{it0:Itm}{x0:LI}{x1 x2:Int}(m:Mem W G w (it0::H))(o0:Ow (RI .u32) 76 G it0 v0 x0){y:(LI)}(hd:D.B1 x0 x1 x2=some y):
  Calls prog 184 #[v0,(iv x1),(iv x2),(.func (.func 117) #[] #[])] w (Res W G H (λG' Ho _=>∃i0:Itm,Ho=[i0]∧Ow (RI .u32) 76 G' i0 v0 y)):=by
 refine As (args:=[v0,(iv x1),(iv x2),(.func (.func 117) #[] #[])]) (N:=34) [] func184 Z Z (lb Z) Z λa f=> ?_
 unfold D.B1 at hd
 refine Ae ?_
 refine Ab f Z λa f=>Ac f Z λa f=>Au ?_
 refine Ab f Z λa f=>Ah f Z Z AO λa f=>Ac f Z λa f=>Aa ?_
 have⟨aa,ab,hd⟩:=bind_some hd
 refine AF (λa w=>∃ac:LI,ac=aa∧∃(ad:GH) (ae:Itm),GLe G ad∧Fr a 34 []∧Mem W ad w (ae::H)∧Ow (RI .u32) 76 ad ae v0 ac) ?_ ?_
 ·refine Aj ?_
  refine AD (λaf a w=>∃ag:LI,∃ah:Int,∃ai:Int,(ag,ah,ai)=af∧∃(aj:GH) (ak:Itm),GLe G aj∧Fr a 34 [(0,v0),(8,(iv ah)),(9,(iv ai))]∧Mem W aj w (ak::H)∧Ow (RI .u32) 76 aj ak v0 ag) ab ⟨_,_,_,Z,_,it0,gr,f.k Z,m,o0⟩ ?_
  clear ab f m
  rintro af al am an a w ⟨ag,ah,ai,rfl,aj,ak,ao,f,m,ap⟩
  refine Af (Ae ?_)
  refine Ab f Z λa f=>Ab f Z λa f=>Ah f Z Z AH λa f=>Aa ?_
  rcases Ad am with⟨aq,am⟩|⟨aq,am⟩
  ·refine Ak f Z aq ?_
   refine Al ?_
   refine Aj (Af ?_)
   refine BC Ay m ?_
   refine p_p 2 Z f (λ_=>A4 (f.e Z)) λa f=>p_p 3 Z f (λ_=>A4 (f.e Z)) λa f=>BD 12013 11 (by kernel_rfl) Z ?_
   refine Ag 0 12013 Z f Z λa f=>Ag 1 12013 Z f Z λa f=>Ag 4 12013 Z f Z λa f=>Ag 5 12013 Z f Z λa f=> ?_
   have⟨ar,au,am⟩:=bind_some am
   refine AG 6 12013 0 m ap T71 au Z f Z Z λav a aw f=>AR 7 12013 0 ap Bg aw au Z f Z λax a ay f=> ?_
   subst ay
   refine Ag 8 12013 Z f Z λa f=>Ag 9 12013 Z f Z λa f=> ?_
   have⟨az,aA,am⟩:=bind_some am
   refine AG 10 12013 0 m ap T71 aA Z f Z Z λaB a aC f=>AR 11 12013 0 ap Bg aC aA Z f Z λaD a aE f=> ?_
   subst aE
   have⟨aF,aG,am⟩:=bind_some am
   refine AG 12 12013 0 m ap T71 aG Z f Z Z λaH a aI f=>AK λaJ w aK m=> ?_
   have ap:=od1 aK ap
   refine Aw 0 m ap Z sizeOf76 f Z Z aI aG Z Z Z λaL w m aM=> ?_
   have⟨aN,aO,am⟩:=bind_some am
   refine A6 0 m aM Z T71 f Z Z Z aO λaP a aQ f=>Aw 0 m aM Z sizeOf76 f Z Z aQ aO Z Z Z λaR w m aS=>Au ?_
   refine Ab f Z λa f=>Ah f Z Z Ar λa f=>Ac f Z λa f=>Aa (Am ?_)
   refine Ab f Z λa f=>Ah f Z Z AO λa f=>Ac f Z λa f=>Aa ?_
   obtain rfl:=sj am
   exact⟨_,Z,_,_,_,Z,_,aR,(gt ao aK),f.k Z,m,aS⟩
  ·refine Ai f Z aq ?_
   refine Ax Z ?_
   obtain rfl:=sj am
   obtain rfl:=an _ rfl
   exact⟨_,Z,_,ak,ao,f.weak trivial,m,ap⟩
 ·rintro a w ⟨ac,rfl,ad,ae,aT,f,m,aU⟩
  obtain rfl:=sj hd
  exact⟨[],trivial,f.d,_,[ae],aT,m,_,Z,aU⟩
theorem Wk.L1 {v0:Value}{it0:Itm}{x0:LI}{x1 x2:Int}(hW:B5 W)(m:Mem W G w (it0::H))(o0:Ow (RI .u32) 76 G it0 v0 x0){y:Bool×(LI)}(hd:D.L1 x0 x1 x2=some y):
  Calls prog 185 #[v0,(iv x1),(iv x2),(.func (.func 117) #[] #[])] w (Res W G H (λG' Ho v=>∃i0:Itm,Ho=[i0]∧v=(.bool y.1)∧Ow (RI .u32) 76 G' i0 v0 y.2)):=by
 refine As (args:=[v0,(iv x1),(iv x2),(.func (.func 117) #[] #[])]) (N:=141) [.tmp 8] func185 Z Z (lb Z) Z λa f=> ?_
 unfold D.L1 at hd
 refine Ae ?_
 refine Ac f Z λa f=>Au ?_
 refine Ab f Z λa f=>Ah f Z Z Ar λa f=>Ac f Z λa f=>Aa (Af (Ae ?_))
 refine Ac f Z λa f=>Aa ?_
 have⟨aa,ab,hd⟩:=bind_some hd
 refine AF (λa w=>∃q_1621':LI,aa= .inl q_1621'∧∃ac:LI,ac=q_1621'∧∃(ad:GH) (ae:Itm),GLe G ad∧Fr a 141 []∧Mem W ad w (ae::H)∧Ow (RI .u32) 76 ad ae v0 ac) ?_ ?_
 ·refine Aj ?_
  refine AD (λaf a w=>∃ag:LI,∃ah:Int,∃ai:Int,(ag,ah,ai)=af∧∃(aj:GH) (ak:Itm),GLe G aj∧Fr a 141 [(0,v0),(1,(iv x1)),(2,(iv x2)),(3,(.func (.func 117) #[] #[])),(9,(iv ah)),(10,(iv ai))]∧Mem W aj w (ak::H)∧Ow (RI .u32) 76 aj ak v0 ag) ab ⟨_,_,_,Z,_,it0,gr,f.k Z,m,o0⟩ ?_
  clear ab f m
  rintro af al am an a w ⟨ag,ah,ai,rfl,aj,ak,ao,f,m,ap⟩
  refine Af (Ae ?_)
  refine Ab f Z λa f=>Ah f Z Z AH λa f=>Aa ?_
  rcases Ad am with⟨aq,am⟩|⟨aq,am⟩
  ·refine Ak f Z aq ?_
   refine Al ?_
   refine Af (Aj (Af ?_))
   have⟨ar,au,am⟩:=bind_some am
   refine AF (λa w=>∃av:Int,av=ar∧∃(aw:GH),GLe aj aw∧Fr a 141 [(0,v0),(1,(iv x1)),(2,(iv x2)),(3,(.func (.func 117) #[] #[])),(9,(iv av)),(10,(iv ai))]∧Mem W aw w (ak::H)) ?_ ?_
   ·refine Aj ?_
    refine AD (λax a w=>∃ay:Int,ay=ax∧∃(az:GH),GLe aj az∧Fr a 141 [(0,v0),(1,(iv x1)),(2,(iv x2)),(3,(.func (.func 117) #[] #[])),(9,(iv ay)),(10,(iv ai))]∧Mem W az w (ak::H)) au ⟨_,Z,_,gr,f.k Z,m⟩ ?_
    clear au f m
    rintro ax aA aB aC a w ⟨ay,rfl,az,aD,f,m⟩
    have ap:=od1 aD ap
    refine Af (Af ?_)
    refine A3 18 Ay (by kernel_rfl) m ?_
    refine Ag 0 18 Z f Z λa f=>Ag 1 18 Z f Z λa f=>q_p 2 18 Z f (λ_=>AA (f.e Z) (f.e Z) AH) λa f=>Ag 3 18 Z f Z λa f=> ?_
    have⟨aE,aF,aB⟩:=bind_some aB
    refine BZ (fuel':=0) (listed':= #[true,true,true,true,true,true,true,true,true,true,true,true,true,true,true,true,true,true]) (λa=>Fr a 141 [(0,v0),(1,(iv x1)),(2,(iv x2)),(3,(.func (.func 117) #[] #[])),(9,(iv ay)),(10,(iv ai)),(19,(iv ay)),(20,(iv x2)),(21,(.bool (decide (ay<x2)))),(22,(.bool (decide (ay<x2)))),(36,(.bool aE))]) ?_ ?_
    ·intro a f
     refine AK λaG w aH m=>Aa ?_
     rcases Ad aB with⟨aI,aB⟩|⟨aI,aB⟩
     ·refine Ak f Z aI ?_
      refine Al ?_
      refine Aj (Am ?_)
      refine Ab f Z λa f=>Ah f Z Z Ar λa f=>Ac f Z λa f=>Aa ?_
      obtain rfl:=sj aB
      exact⟨_,Z,_,Z,_,(gt aD aH),f.k Z,m⟩
     ·refine Ai f Z aI ?_
      refine Ax Z ?_
      obtain rfl:=sj aB
      obtain rfl:=aC _ rfl
      exact⟨_,Z,_,(gt aD aH),f.k Z,m⟩
    ·intro aJ
     rcases Ad aF with⟨aK,aF⟩|⟨aK,aF⟩
     ·refine Ag (hw:=wo f aK) 4 18 Z f Z λa f=> ?_
      refine Ag (hw:=wo f aK) 5 18 Z f Z λa f=>Ag (hw:=wo f aK) 6 18 Z f Z λa f=> ?_
      have⟨aL,aM,aF⟩:=bind_some aF
      refine AG (hw:=wo f aK) 7 18 0 m ap T71 aM Z f Z Z λaN a aO f=>AR (hw:=wo f aK) 8 18 0 ap Bg aO aM Z f Z λaP a aQ f=> ?_
      subst aQ
      refine Ag (hw:=wo f aK) 9 18 Z f Z λa f=>Ag (hw:=wo f aK) 10 18 Z f Z λa f=>q_p (hw:=wo f aK) 11 18 Z f (λ_=>AA (f.e Z) (f.e Z) AO) λa f=> ?_
      have⟨aR,aS,aF⟩:=bind_some aF
      refine AG (hw:=wo f aK) 12 18 0 m ap T71 aS Z f Z Z λaT a aU f=>AR (hw:=wo f aK) 13 18 0 ap Bg aU aS Z f Z λaV a aW f=> ?_
      subst aW
      have⟨aX,aY,aF⟩:=bind_some aF
      refine BG (i:=14) 18 Z (by kernel_rfl) Z f (Ba f Z Z Z aK) Z Z Z call117 (λ_ _ w aZ m=>Wk.b hW m aY) λa f=>q_p (hw:=wo f aK) 15 18 Z f (λ_=>AA (f.e Z) (f.e Z) AH) λa f=>q_p (hw:=wo f aK) 16 18 Z f (λ_=>Bj (f.e Z)) λa f=>q_p 17 18 Z f (λ_=>AU (f.e Z) aK (f.e Z)) λa f=> ?_
      obtain rfl:=sj aF
      exact aJ _ (f.k Z)
     ·refine Ao 4 18 Z f aK λa f=> ?_
      refine Ao 5 18 Z f aK λa f=>Ao 6 18 Z f aK λa f=>Ao 7 18 Z f aK λa f=>Ao 8 18 Z f aK λa f=>Ao 9 18 Z f aK λa f=>Ao 10 18 Z f aK λa f=>Ao 11 18 Z f aK λa f=>Ao 12 18 Z f aK λa f=>Ao 13 18 Z f aK λa f=>Ao 14 18 Z f aK λa f=>Ao 15 18 Z f aK λa f=>Ao 16 18 Z f aK λa f=>q_p 17 18 Z f (λ_=>AV (f.e Z) aK (f.e Z)) λa f=> ?_
      obtain rfl:=sj aF
      exact aJ _ (f.k Z)
   ·rintro a w ⟨av,rfl,aw,a0,f,m⟩
    have ap:=od1 a0 ap
    refine Af (Ae ?_)
    refine Ab f Z λa f=>Ab f Z λa f=>Ah f Z Z Bq λa f=>Aa ?_
    rcases Ad am with⟨a1,am⟩|⟨a1,am⟩
    ·refine Ak f Z a1 ?_
     refine Ae ?_
     refine Ac f Z λa f=>Aa ?_
     refine Ap ?_
     obtain rfl:=sj am
     obtain rfl:=an _ rfl
     obtain rfl:=sj hd
     exact⟨[(.bool true)],f.g Z,f.d,_,[ak],(gt ao a0),m,_,Z,Z,ap⟩
    ·refine Ai f Z a1 ?_
     refine Al ?_
     refine Af (Ae ?_)
     refine Ab f Z λa f=>Ab f Z λa f=>Ah f Z Z AO λa f=>Ah f Z Z AH λa f=>Aa ?_
     rcases Ad am with⟨a2,am⟩|⟨a2,am⟩
     ·refine Ak f Z a2 ?_
      refine Ae ?_
      refine Ac f Z λa f=>Aa ?_
      refine Ap ?_
      obtain rfl:=sj am
      obtain rfl:=an _ rfl
      obtain rfl:=sj hd
      exact⟨[(.bool false)],f.g Z,f.d,_,[ak],(gt ao a0),m,_,Z,Z,ap⟩
     ·refine Ai f Z a2 ?_
      refine Al ?_
      refine Af ?_
      refine BC Ay m ?_
      refine p_p 2 Z f (λ_=>A4 (f.e Z)) λa f=>p_p 3 Z f (λ_=>A4 (f.e Z)) λa f=>p_p 4 Z f (λ_=>AA (f.e Z) (f.e Z) AO) λa f=>BD 28015 12 (by kernel_rfl) Z ?_
      refine Ag 0 28015 Z f Z λa f=>Ag 1 28015 Z f Z λa f=>Ag 5 28015 Z f Z λa f=>Ag 6 28015 Z f Z λa f=>q_p 7 28015 Z f (λ_=>AA (f.e Z) (f.e Z) AO) λa f=> ?_
      have⟨a3,a4,am⟩:=bind_some am
      refine AG 8 28015 0 m ap T71 a4 Z f Z Z λa5 a a6 f=>AR 9 28015 0 ap Bg a6 a4 Z f Z λa7 a a8 f=> ?_
      subst a8
      refine Ag 10 28015 Z f Z λa f=>Ag 11 28015 Z f Z λa f=> ?_
      have⟨a9,ba,am⟩:=bind_some am
      refine AG 12 28015 0 m ap T71 ba Z f Z Z λbb a bc f=>AR 13 28015 0 ap Bg bc ba Z f Z λbd a be f=> ?_
      subst be
      have⟨bf,bg,am⟩:=bind_some am
      refine AG 14 28015 0 m ap T71 bg Z f Z Z λbh a bi f=>AK λbj w bk m=> ?_
      have ap:=od1 bk ap
      refine Aw 0 m ap Z sizeOf76 f Z Z bi bg Z Z Z λbl w m bm=> ?_
      have⟨bn,bo,am⟩:=bind_some am
      refine A6 0 m bm Z T71 f Z Z Z bo λbp a bq f=>Aw 0 m bm Z sizeOf76 f Z Z bq bo Z Z Z λbr w m bs=>Aa (Af (Ae ?_))
      refine Ab f Z λa f=>Ab f Z λa f=>Ah f Z Z AO λa f=>Ah f Z Z BT λa f=>Aa ?_
      have⟨bt,bu,am⟩:=bind_some am
      refine AF (λa w=>∃bv:LI,bv=bt∧∃(bw:GH) (bx:Itm),GLe bj bw∧Fr a 141 [(0,v0),(1,(iv x1)),(2,(iv x2)),(3,(.func (.func 117) #[] #[])),(9,(iv av)),(10,(iv ai))]∧Mem W bw w (bx::H)∧Ow (RI .u32) 76 bw bx v0 bv) ?_ ?_
      ·rcases Ad bu with⟨bz,bu⟩|⟨bz,bu⟩
       ·refine Ak f Z bz ?_
        refine Ae ?_
        refine Ab f Z λa f=>Ah f Z Z AO λa f=>Ac f Z λa f=>Aa ?_
        have⟨bA,bB,bu⟩:=bind_some bu
        refine AF (λa w=>∃bC:LI,bC=bA∧∃(bD:GH) (bE:Itm),GLe bj bD∧Fr a 141 [(0,v0),(1,(iv x1)),(2,(iv x2)),(3,(.func (.func 117) #[] #[])),(9,(iv av)),(10,(iv ai))]∧Mem W bD w (bE::H)∧Ow (RI .u32) 76 bD bE v0 bC) ?_ ?_
        ·refine Aj ?_
         refine AD (λbF a w=>∃bG:LI,∃bH:Int,(bG,bH)=bF∧∃(bI:GH) (bJ:Itm),GLe bj bI∧Fr a 141 [(0,v0),(1,(iv x1)),(2,(iv x2)),(3,(.func (.func 117) #[] #[])),(9,(iv av)),(10,(iv ai)),(11,(iv bH))]∧Mem W bI w (bJ::H)∧Ow (RI .u32) 76 bI bJ v0 bG) bB ⟨_,_,Z,_,br,gr,f.k Z,m,bs⟩ ?_
         clear bB f m
         rintro bF bK bL bM a w ⟨bG,bH,rfl,bI,bJ,bN,f,m,bO⟩
         refine Af (Ae ?_)
         refine Ab f Z λa f=>Ah f Z Z BT λa f=>Aa ?_
         rcases Ad bL with⟨bP,bL⟩|⟨bP,bL⟩
         ·refine Ak f Z bP ?_
          refine Al ?_
          refine Af (Aj (Af (Af ?_)))
          refine A3 13 Ay (by kernel_rfl) m ?_
          refine Ag 0 13 Z f Z λa f=>Ag 1 13 Z f Z λa f=>Ag 2 13 Z f Z λa f=> ?_
          have⟨bQ,bR,bL⟩:=bind_some bL
          refine AG 3 13 0 m bO T71 bR Z f Z Z λbS a bT f=>AR 4 13 0 bO Bg bT bR Z f Z λbU a bV f=> ?_
          subst bV
          refine Ag 5 13 Z f Z λa f=>Ag 6 13 Z f Z λa f=>q_p 7 13 Z f (λ_=>AA (f.e Z) (f.e Z) AO) λa f=> ?_
          have⟨bW,bX,bL⟩:=bind_some bL
          refine AG 8 13 0 m bO T71 bX Z f Z Z λbY a bZ f=>AR 9 13 0 bO Bg bZ bX Z f Z λb0 a b1 f=> ?_
          subst b1
          have⟨b2,b3,bL⟩:=bind_some bL
          refine BG (i:=10) 13 Z (by kernel_rfl) Z f Z Z Z Z call117 (λ_ _ w b4 m=>Wk.b hW m b3) λa f=>q_p 11 13 Z f (λ_=>AA (f.e Z) (f.e Z) AH) λa f=>q_p 12 13 Z f (λ_=>Bj (f.e Z)) λa f=>AK λb5 w b6 m=> ?_
          have bO:=od1 b6 bO
          refine Aa ?_
          rcases Ad bL with⟨b7,bL⟩|⟨b7,bL⟩
          ·refine Ak f Z b7 ?_
           refine Ax Z ?_
           obtain rfl:=sj bL
           obtain rfl:=bM _ rfl
           exact⟨_,Z,_,bJ,(gt bN b6),f.k Z,m,bO⟩
          ·refine Ai f Z b7 ?_
           refine Al ?_
           refine BC Ay m ?_
           refine p_p 2 Z f (λ_=>A4 (f.e Z)) λa f=>p_p 3 Z f (λ_=>A4 (f.e Z)) λa f=>p_p 4 Z f (λ_=>AA (f.e Z) (f.e Z) AO) λa f=>BD 28015 12 (by kernel_rfl) Z ?_
           refine Ag 0 28015 Z f Z λa f=>Ag 1 28015 Z f Z λa f=>Ag 5 28015 Z f Z λa f=>Ag 6 28015 Z f Z λa f=>q_p 7 28015 Z f (λ_=>AA (f.e Z) (f.e Z) AO) λa f=> ?_
           have⟨b8,b9,bL⟩:=bind_some bL
           refine AG 8 28015 0 m bO T71 b9 Z f Z Z λca a cb f=>AR 9 28015 0 bO Bg cb b9 Z f Z λcc a cd f=> ?_
           subst cd
           refine Ag 10 28015 Z f Z λa f=>Ag 11 28015 Z f Z λa f=> ?_
           have⟨ce,cf,bL⟩:=bind_some bL
           refine AG 12 28015 0 m bO T71 cf Z f Z Z λcg a ch f=>AR 13 28015 0 bO Bg ch cf Z f Z λci a cj f=> ?_
           subst cj
           have⟨ck,cl,bL⟩:=bind_some bL
           refine AG 14 28015 0 m bO T71 cl Z f Z Z λcm a cn f=>AK λco w cp m=> ?_
           have bO:=od1 cp bO
           refine Aw 0 m bO Z sizeOf76 f Z Z cn cl Z Z Z λcq w m cr=> ?_
           have⟨cs,ct,bL⟩:=bind_some bL
           refine A6 0 m cr Z T71 f Z Z Z ct λcu a cv f=>Aw 0 m cr Z sizeOf76 f Z Z cv ct Z Z Z λcw w m cx=>Aa (Am ?_)
           refine Ab f Z λa f=>Ah f Z Z AO λa f=>Ac f Z λa f=>Aa ?_
           obtain rfl:=sj bL
           exact⟨_,Z,_,_,Z,_,cw,(gt bN (gt b6 cp)),f.k Z,m,cx⟩
         ·refine Ai f Z bP ?_
          refine Ax Z ?_
          obtain rfl:=sj bL
          obtain rfl:=bM _ rfl
          exact⟨_,Z,_,bJ,bN,f.k Z,m,bO⟩
        ·rintro a w ⟨bC,rfl,bD,bE,cy,f,m,cz⟩
         obtain rfl:=sj bu
         exact⟨_,Z,_,bE,cy,f.k Z,m,cz⟩
       ·refine Ai f Z bz ?_
        refine Al ?_
        obtain rfl:=sj bu
        exact⟨_,Z,_,br,gr,f.k Z,m,bs⟩
      ·rintro a w ⟨bv,rfl,bw,bx,cA,f,m,cB⟩
       refine Ae ?_
       refine Ab f Z λa f=>Ab f Z λa f=>Ah f Z Z AO λa f=>Ah f Z Z BT λa f=>Aa ?_
       rcases Ad am with⟨cC,am⟩|⟨cC,am⟩
       ·refine Ak f Z cC ?_
        refine Ae ?_
        refine Ab f Z λa f=>Ah f Z Z Ar λa f=>Ac f Z λa f=>Aa ?_
        have⟨cD,cE,am⟩:=bind_some am
        refine AF (λa w=>∃cF:LI,cF=cD∧∃(cG:GH) (cH:Itm),GLe bw cG∧Fr a 141 [(0,v0),(1,(iv x1)),(2,(iv x2)),(3,(.func (.func 117) #[] #[])),(9,(iv av)),(10,(iv ai))]∧Mem W cG w (cH::H)∧Ow (RI .u32) 76 cG cH v0 cF) ?_ ?_
        ·refine Aj ?_
         refine AD (λcI a w=>∃cJ:LI,∃cK:Int,(cJ,cK)=cI∧∃(cL:GH) (cM:Itm),GLe bw cL∧Fr a 141 [(0,v0),(1,(iv x1)),(2,(iv x2)),(3,(.func (.func 117) #[] #[])),(9,(iv av)),(10,(iv ai)),(12,(iv cK))]∧Mem W cL w (cM::H)∧Ow (RI .u32) 76 cL cM v0 cJ) cE ⟨_,_,Z,_,bx,gr,f.k Z,m,cB⟩ ?_
         clear cE f m
         rintro cI cN cO cP a w ⟨cJ,cK,rfl,cL,cM,cQ,f,m,cR⟩
         refine Af (Ae ?_)
         refine Ab f Z λa f=>Ab f Z λa f=>Ah f Z Z AH λa f=>Aa ?_
         rcases Ad cO with⟨cS,cO⟩|⟨cS,cO⟩
         ·refine Ak f Z cS ?_
          refine Al ?_
          refine Af (Aj (Af (Af ?_)))
          refine A3 13 Ay (by kernel_rfl) m ?_
          refine Ag 0 13 Z f Z λa f=>Ag 1 13 Z f Z λa f=>Ag 2 13 Z f Z λa f=> ?_
          have⟨cT,cU,cO⟩:=bind_some cO
          refine AG 3 13 0 m cR T71 cU Z f Z Z λcV a cW f=>AR 4 13 0 cR Bg cW cU Z f Z λcX a cY f=> ?_
          subst cY
          refine Ag 5 13 Z f Z λa f=>Ag 6 13 Z f Z λa f=>q_p 7 13 Z f (λ_=>AA (f.e Z) (f.e Z) AO) λa f=> ?_
          have⟨cZ,c0,cO⟩:=bind_some cO
          refine AG 8 13 0 m cR T71 c0 Z f Z Z λc1 a c2 f=>AR 9 13 0 cR Bg c2 c0 Z f Z λc3 a c4 f=> ?_
          subst c4
          have⟨c5,c6,cO⟩:=bind_some cO
          refine BG (i:=10) 13 Z (by kernel_rfl) Z f Z Z Z Z call117 (λ_ _ w c7 m=>Wk.b hW m c6) λa f=>q_p 11 13 Z f (λ_=>AA (f.e Z) (f.e Z) AH) λa f=>q_p 12 13 Z f (λ_=>Bj (f.e Z)) λa f=>AK λc8 w c9 m=> ?_
          have cR:=od1 c9 cR
          refine Aa ?_
          rcases Ad cO with⟨da,cO⟩|⟨da,cO⟩
          ·refine Ak f Z da ?_
           refine Ax Z ?_
           obtain rfl:=sj cO
           obtain rfl:=cP _ rfl
           exact⟨_,Z,_,cM,(gt cQ c9),f.k Z,m,cR⟩
          ·refine Ai f Z da ?_
           refine Al ?_
           refine BC Ay m ?_
           refine p_p 2 Z f (λ_=>A4 (f.e Z)) λa f=>p_p 3 Z f (λ_=>A4 (f.e Z)) λa f=>p_p 4 Z f (λ_=>AA (f.e Z) (f.e Z) AO) λa f=>BD 28015 12 (by kernel_rfl) Z ?_
           refine Ag 0 28015 Z f Z λa f=>Ag 1 28015 Z f Z λa f=>Ag 5 28015 Z f Z λa f=>Ag 6 28015 Z f Z λa f=>q_p 7 28015 Z f (λ_=>AA (f.e Z) (f.e Z) AO) λa f=> ?_
           have⟨db,dc,cO⟩:=bind_some cO
           refine AG 8 28015 0 m cR T71 dc Z f Z Z λdd a de f=>AR 9 28015 0 cR Bg de dc Z f Z λdf a dg f=> ?_
           subst dg
           refine Ag 10 28015 Z f Z λa f=>Ag 11 28015 Z f Z λa f=> ?_
           have⟨dh,di,cO⟩:=bind_some cO
           refine AG 12 28015 0 m cR T71 di Z f Z Z λdj a dk f=>AR 13 28015 0 cR Bg dk di Z f Z λdl a dm f=> ?_
           subst dm
           have⟨dn,dp,cO⟩:=bind_some cO
           refine AG 14 28015 0 m cR T71 dp Z f Z Z λdq a dr f=>AK λds w dt m=> ?_
           have cR:=od1 dt cR
           refine Aw 0 m cR Z sizeOf76 f Z Z dr dp Z Z Z λdu w m dv=> ?_
           have⟨dw,dx,cO⟩:=bind_some cO
           refine A6 0 m dv Z T71 f Z Z Z dx λdy a dz f=>Aw 0 m dv Z sizeOf76 f Z Z dz dx Z Z Z λdA w m dB=>Aa (Am ?_)
           refine Ab f Z λa f=>Ah f Z Z Ar λa f=>Ac f Z λa f=>Aa ?_
           obtain rfl:=sj cO
           exact⟨_,Z,_,_,Z,_,dA,(gt cQ (gt c9 dt)),f.k Z,m,dB⟩
         ·refine Ai f Z cS ?_
          refine Ax Z ?_
          obtain rfl:=sj cO
          obtain rfl:=cP _ rfl
          exact⟨_,Z,_,cM,cQ,f.k Z,m,cR⟩
        ·rintro a w ⟨cF,rfl,cG,cH,dC,f,m,dD⟩
         refine Am ?_
         refine Ab f Z λa f=>Ah f Z Z Ar λa f=>Ac f Z λa f=>Aa ?_
         obtain rfl:=sj am
         exact⟨_,Z,_,_,_,Z,_,cH,(gt ao (gt a0 (gt bk (gt cA dC)))),f.k Z,m,dD⟩
       ·refine Ai f Z cC ?_
        refine Al ?_
        refine Am ?_
        refine Ab f Z λa f=>Ah f Z Z Ar λa f=>Ac f Z λa f=>Aa ?_
        obtain rfl:=sj am
        exact⟨_,Z,_,_,_,Z,_,bx,(gt ao (gt a0 (gt bk cA))),f.k Z,m,cB⟩
  ·refine Ai f Z aq ?_
   refine Ax Z ?_
   obtain rfl:=sj am
   obtain rfl:=an _ rfl
   exact⟨_,Z,_,Z,_,ak,ao,f.weak trivial,m,ap⟩
 ·rintro a w ⟨_,rfl,ac,rfl,ad,ae,dE,f,m,dF⟩
  refine Ae ?_
  refine Ac f Z λa f=>Aa ?_
  refine Ap ?_
  obtain rfl:=sj hd
  exact⟨[(.bool false)],f.g Z,f.d,_,[ae],dE,m,_,Z,Z,dF⟩
theorem Wk.X1 {v0:Value}{it0:Itm}{x0:LI}{x1 x2 x3:Int}(hW:B5 W)(m:Mem W G w (it0::H))(o0:Ow (RI .u32) 76 G it0 v0 x0){y:Int×(LI)}(hd:D.X1 x0 x1 x2 x3=some y):
  Calls prog 186 #[v0,(iv x1),(iv x2),(iv x3),(.func (.func 117) #[] #[])] w (Res W G H (λG' Ho v=>∃i0:Itm,Ho=[i0]∧v=(iv y.1)∧Ow (RI .u32) 76 G' i0 v0 y.2)):=by
 refine As (args:=[v0,(iv x1),(iv x2),(iv x3),(.func (.func 117) #[] #[])]) (N:=90) [.tmp 10] func186 Z Z (lb Z) Z λa f=> ?_
 unfold D.X1 at hd
 refine Ae ?_
 refine Ac f Z λa f=>Aa (Af ?_)
 refine BC Ay m ?_
 refine p_p 2 Z f (λ_=>A4 (f.e Z)) λa f=>p_p 3 Z f (λ_=>A4 (f.e Z)) λa f=>BD 12013 11 (by kernel_rfl) Z ?_
 refine Ag 0 12013 Z f Z λa f=>Ag 1 12013 Z f Z λa f=>Ag 4 12013 Z f Z λa f=>Ag 5 12013 Z f Z λa f=> ?_
 have⟨aa,ab,hd⟩:=bind_some hd
 refine AG 6 12013 0 m o0 T71 ab Z f Z Z λac a ad f=>AR 7 12013 0 o0 Bg ad ab Z f Z λae a af f=> ?_
 subst af
 refine Ag 8 12013 Z f Z λa f=>Ag 9 12013 Z f Z λa f=> ?_
 have⟨ag,ah,hd⟩:=bind_some hd
 refine AG 10 12013 0 m o0 T71 ah Z f Z Z λai a aj f=>AR 11 12013 0 o0 Bg aj ah Z f Z λak a al f=> ?_
 subst al
 have⟨am,an,hd⟩:=bind_some hd
 refine AG 12 12013 0 m o0 T71 an Z f Z Z λao a ap f=>AK λaq w ar m=> ?_
 have o0:=od1 ar o0
 refine Aw 0 m o0 Z sizeOf76 f Z Z ap an Z Z Z λau w m av=> ?_
 have⟨aw,ax,hd⟩:=bind_some hd
 refine A6 0 m av Z T71 f Z Z Z ax λay a az f=>Aw 0 m av Z sizeOf76 f Z Z az ax Z Z Z λaA w m aB=>Au ?_
 refine Ab f Z λa f=>Ah f Z Z Ar λa f=>Ab f Z λa f=>Ah f Z Z AO λa f=>Ac f Z λa f=>Ac f Z λa f=>Aa (Af ?_)
 have⟨aC,aD,hd⟩:=bind_some hd
 refine AF (λa w=>∃aE:LI,∃aF:Int,(aE,aF)=aC∧∃(aG:GH) (aH:Itm),GLe aq aG∧Fr a 90 [(11,(iv aF))]∧Mem W aG w (aH::H)∧Ow (RI .u32) 76 aG aH v0 aE) ?_ ?_
 ·refine Aj ?_
  refine AD (λaI a w=>∃aJ:LI,∃aK:Int,∃aL:Int,(aJ,aK,aL)=aI∧∃(aM:GH) (aN:Itm),GLe aq aM∧Fr a 90 [(0,v0),(1,(iv x1)),(4,(.func (.func 117) #[] #[])),(11,(iv aK)),(12,(iv aL))]∧Mem W aM w (aN::H)∧Ow (RI .u32) 76 aM aN v0 aJ) aD ⟨_,_,_,Z,_,aA,gr,f.k Z,m,aB⟩ ?_
  clear aD f m
  rintro aI aO aP aQ a w ⟨aJ,aK,aL,rfl,aM,aN,aR,f,m,aS⟩
  refine Aj (Af ?_)
  have⟨aT,aU,aP⟩:=bind_some aP
  refine AF (λa w=>∃aV:Int,aV=aT∧∃(aW:GH),GLe aM aW∧Fr a 90 [(0,v0),(1,(iv x1)),(4,(.func (.func 117) #[] #[])),(11,(iv aV)),(12,(iv aL))]∧Mem W aW w (aN::H)) ?_ ?_
  ·refine Aj ?_
   refine AD (λaX a w=>∃aY:Int,aY=aX∧∃(aZ:GH),GLe aM aZ∧Fr a 90 [(0,v0),(1,(iv x1)),(4,(.func (.func 117) #[] #[])),(11,(iv aY)),(12,(iv aL))]∧Mem W aZ w (aN::H)) aU ⟨_,Z,_,gr,f.k Z,m⟩ ?_
   clear aU f m
   rintro aX a0 a1 a2 a w ⟨aY,rfl,aZ,a3,f,m⟩
   have aS:=od1 a3 aS
   refine Af (Af ?_)
   refine A3 17 Ay (by kernel_rfl) m ?_
   refine Ag 0 17 Z f Z λa f=>Ag 1 17 Z f Z λa f=>q_p 2 17 Z f (λ_=>AA (f.e Z) (f.e Z) Ci) λa f=>Ag 3 17 Z f Z λa f=> ?_
   have⟨a4,a5,a1⟩:=bind_some a1
   refine BZ (fuel':=0) (listed':= #[true,true,true,true,true,true,true,true,true,true,true,true,true,true,true,true,true]) (λa=>Fr a 90 [(0,v0),(1,(iv x1)),(4,(.func (.func 117) #[] #[])),(11,(iv aY)),(12,(iv aL)),(31,(iv aY)),(32,(iv aL)),(33,(.bool (decide (aY≤aL)))),(34,(.bool (decide (aY≤aL)))),(47,(.bool a4))]) ?_ ?_
   ·intro a f
    refine AK λa6 w a7 m=>Aa ?_
    rcases Ad a1 with⟨a8,a1⟩|⟨a8,a1⟩
    ·refine Ak f Z a8 ?_
     refine Al ?_
     refine Aj (Am ?_)
     refine Ab f Z λa f=>Ah f Z Z Ar λa f=>Ac f Z λa f=>Aa ?_
     obtain rfl:=sj a1
     exact⟨_,Z,_,Z,_,(gt a3 a7),f.k Z,m⟩
    ·refine Ai f Z a8 ?_
     refine Ax Z ?_
     obtain rfl:=sj a1
     obtain rfl:=a2 _ rfl
     exact⟨_,Z,_,(gt a3 a7),f.k Z,m⟩
   ·intro a9
    rcases Ad a5 with⟨ba,a5⟩|⟨ba,a5⟩
    ·refine Ag (hw:=wo f ba) 4 17 Z f Z λa f=> ?_
     refine Ag (hw:=wo f ba) 5 17 Z f Z λa f=>Ag (hw:=wo f ba) 6 17 Z f Z λa f=> ?_
     have⟨bb,bc,a5⟩:=bind_some a5
     refine AG (hw:=wo f ba) 7 17 0 m aS T71 bc Z f Z Z λbd a be f=>AR (hw:=wo f ba) 8 17 0 aS Bg be bc Z f Z λbf a bg f=> ?_
     subst bg
     refine Ag (hw:=wo f ba) 9 17 Z f Z λa f=>Ag (hw:=wo f ba) 10 17 Z f Z λa f=> ?_
     have⟨bh,bi,a5⟩:=bind_some a5
     refine AG (hw:=wo f ba) 11 17 0 m aS T71 bi Z f Z Z λbj a bk f=>AR (hw:=wo f ba) 12 17 0 aS Bg bk bi Z f Z λbl a bm f=> ?_
     subst bm
     have⟨bn,bo,a5⟩:=bind_some a5
     refine BG (i:=13) 17 Z (by kernel_rfl) Z f (Ba f Z Z Z ba) Z Z Z call117 (λ_ _ w bp m=>Wk.b hW m bo) λa f=>q_p (hw:=wo f ba) 14 17 Z f (λ_=>AA (f.e Z) (f.e Z) AH) λa f=>q_p (hw:=wo f ba) 15 17 Z f (λ_=>Bj (f.e Z)) λa f=>q_p 16 17 Z f (λ_=>AU (f.e Z) ba (f.e Z)) λa f=> ?_
     obtain rfl:=sj a5
     exact a9 _ (f.k Z)
    ·refine Ao 4 17 Z f ba λa f=> ?_
     refine Ao 5 17 Z f ba λa f=>Ao 6 17 Z f ba λa f=>Ao 7 17 Z f ba λa f=>Ao 8 17 Z f ba λa f=>Ao 9 17 Z f ba λa f=>Ao 10 17 Z f ba λa f=>Ao 11 17 Z f ba λa f=>Ao 12 17 Z f ba λa f=>Ao 13 17 Z f ba λa f=>Ao 14 17 Z f ba λa f=>Ao 15 17 Z f ba λa f=>q_p 16 17 Z f (λ_=>AV (f.e Z) ba (f.e Z)) λa f=> ?_
     obtain rfl:=sj a5
     exact a9 _ (f.k Z)
  ·rintro a w ⟨aV,rfl,aW,bq,f,m⟩
   have aS:=od1 bq aS
   refine Af ?_
   have⟨br,bs,aP⟩:=bind_some aP
   refine AF (λa w=>∃bt:Int,bt=br∧∃(bu:GH),GLe aW bu∧Fr a 90 [(0,v0),(1,(iv x1)),(4,(.func (.func 117) #[] #[])),(11,(iv aV)),(12,(iv bt))]∧Mem W bu w (aN::H)) ?_ ?_
   ·refine Aj ?_
    refine AD (λbv a w=>∃bw:Int,bw=bv∧∃(bx:GH),GLe aW bx∧Fr a 90 [(0,v0),(1,(iv x1)),(4,(.func (.func 117) #[] #[])),(11,(iv aV)),(12,(iv bw))]∧Mem W bx w (aN::H)) bs ⟨_,Z,_,gr,f.k Z,m⟩ ?_
    clear bs f m
    rintro bv bz bA bB a w ⟨bw,rfl,bx,bC,f,m⟩
    have aS:=od1 bC aS
    refine Af (Af ?_)
    refine A3 16 Ay (by kernel_rfl) m ?_
    refine Ag 0 16 Z f Z λa f=>Ag 1 16 Z f Z λa f=>q_p 2 16 Z f (λ_=>AA (f.e Z) (f.e Z) Ci) λa f=>Ag 3 16 Z f Z λa f=> ?_
    have⟨bD,bE,bA⟩:=bind_some bA
    refine BZ (fuel':=0) (listed':= #[true,true,true,true,true,true,true,true,true,true,true,true,true,true,true,true]) (λa=>Fr a 90 [(0,v0),(1,(iv x1)),(4,(.func (.func 117) #[] #[])),(11,(iv aV)),(12,(iv bw)),(50,(iv aV)),(51,(iv bw)),(52,(.bool (decide (aV≤bw)))),(53,(.bool (decide (aV≤bw)))),(65,(.bool bD))]) ?_ ?_
    ·intro a f
     refine AK λbF w bG m=>Aa ?_
     rcases Ad bA with⟨bH,bA⟩|⟨bH,bA⟩
     ·refine Ak f Z bH ?_
      refine Al ?_
      refine Aj (Am ?_)
      refine Ab f Z λa f=>Ah f Z Z AO λa f=>Ac f Z λa f=>Aa ?_
      obtain rfl:=sj bA
      exact⟨_,Z,_,Z,_,(gt bC bG),f.k Z,m⟩
     ·refine Ai f Z bH ?_
      refine Ax Z ?_
      obtain rfl:=sj bA
      obtain rfl:=bB _ rfl
      exact⟨_,Z,_,(gt bC bG),f.k Z,m⟩
    ·intro bI
     rcases Ad bE with⟨bJ,bE⟩|⟨bJ,bE⟩
     ·refine Ag (hw:=wo f bJ) 4 16 Z f Z λa f=> ?_
      refine Ag (hw:=wo f bJ) 5 16 Z f Z λa f=>Ag (hw:=wo f bJ) 6 16 Z f Z λa f=> ?_
      have⟨bK,bL,bE⟩:=bind_some bE
      refine AG (hw:=wo f bJ) 7 16 0 m aS T71 bL Z f Z Z λbM a bN f=>AR (hw:=wo f bJ) 8 16 0 aS Bg bN bL Z f Z λbO a bP f=> ?_
      subst bP
      refine Ag (hw:=wo f bJ) 9 16 Z f Z λa f=>Ag (hw:=wo f bJ) 10 16 Z f Z λa f=> ?_
      have⟨bQ,bR,bE⟩:=bind_some bE
      refine AG (hw:=wo f bJ) 11 16 0 m aS T71 bR Z f Z Z λbS a bT f=>AR (hw:=wo f bJ) 12 16 0 aS Bg bT bR Z f Z λbU a bV f=> ?_
      subst bV
      have⟨bW,bX,bE⟩:=bind_some bE
      refine BG (i:=13) 16 Z (by kernel_rfl) Z f (Ba f Z Z Z bJ) Z Z Z call117 (λ_ _ w bY m=>Wk.b hW m bX) λa f=>q_p (hw:=wo f bJ) 14 16 Z f (λ_=>AA (f.e Z) (f.e Z) AH) λa f=>q_p 15 16 Z f (λ_=>AU (f.e Z) bJ (f.e Z)) λa f=> ?_
      obtain rfl:=sj bE
      exact bI _ (f.k Z)
     ·refine Ao 4 16 Z f bJ λa f=> ?_
      refine Ao 5 16 Z f bJ λa f=>Ao 6 16 Z f bJ λa f=>Ao 7 16 Z f bJ λa f=>Ao 8 16 Z f bJ λa f=>Ao 9 16 Z f bJ λa f=>Ao 10 16 Z f bJ λa f=>Ao 11 16 Z f bJ λa f=>Ao 12 16 Z f bJ λa f=>Ao 13 16 Z f bJ λa f=>Ao 14 16 Z f bJ λa f=>q_p 15 16 Z f (λ_=>AV (f.e Z) bJ (f.e Z)) λa f=> ?_
      obtain rfl:=sj bE
      exact bI _ (f.k Z)
   ·rintro a w ⟨bt,rfl,bu,bZ,f,m⟩
    have aS:=od1 bZ aS
    refine Af (Ae ?_)
    refine Ab f Z λa f=>Ab f Z λa f=>Ah f Z Z Ce λa f=>Aa ?_
    rcases Ad aP with⟨b0,aP⟩|⟨b0,aP⟩
    ·refine Ak f Z b0 ?_
     refine Ax Z ?_
     obtain rfl:=sj aP
     obtain rfl:=aQ _ rfl
     exact⟨_,_,Z,_,aN,(gt aR (gt bq bZ)),f.k Z,m,aS⟩
    ·refine Ai f Z b0 ?_
     refine Al ?_
     refine Af ?_
     refine BC Ay m ?_
     refine p_p 2 Z f (λ_=>A4 (f.e Z)) λa f=>p_p 3 Z f (λ_=>A4 (f.e Z)) λa f=>BD 12013 11 (by kernel_rfl) Z ?_
     refine Ag 0 12013 Z f Z λa f=>Ag 1 12013 Z f Z λa f=>Ag 4 12013 Z f Z λa f=>Ag 5 12013 Z f Z λa f=> ?_
     have⟨b1,b2,aP⟩:=bind_some aP
     refine AG 6 12013 0 m aS T71 b2 Z f Z Z λb3 a b4 f=>AR 7 12013 0 aS Bg b4 b2 Z f Z λb5 a b6 f=> ?_
     subst b6
     refine Ag 8 12013 Z f Z λa f=>Ag 9 12013 Z f Z λa f=> ?_
     have⟨b7,b8,aP⟩:=bind_some aP
     refine AG 10 12013 0 m aS T71 b8 Z f Z Z λb9 a ca f=>AR 11 12013 0 aS Bg ca b8 Z f Z λcb a cc f=> ?_
     subst cc
     have⟨cd,ce,aP⟩:=bind_some aP
     refine AG 12 12013 0 m aS T71 ce Z f Z Z λcf a cg f=>AK λch w ci m=> ?_
     have aS:=od1 ci aS
     refine Aw 0 m aS Z sizeOf76 f Z Z cg ce Z Z Z λcj w m ck=> ?_
     have⟨cl,cm,aP⟩:=bind_some aP
     refine A6 0 m ck Z T71 f Z Z Z cm λcn a co f=>Aw 0 m ck Z sizeOf76 f Z Z co cm Z Z Z λcp w m cq=>Au ?_
     refine Ab f Z λa f=>Ah f Z Z Ar λa f=>Ac f Z λa f=>Aa (Am ?_)
     refine Ab f Z λa f=>Ah f Z Z AO λa f=>Ac f Z λa f=>Aa ?_
     obtain rfl:=sj aP
     exact⟨_,Z,_,_,_,Z,_,cp,(gt aR (gt bq (gt bZ ci))),f.k Z,m,cq⟩
 ·rintro a w ⟨aE,aF,rfl,aG,aH,cr,f,m,cs⟩
  refine Ae ?_
  refine Ab f Z λa f=>Ac f Z λa f=>Aa ?_
  refine Ap ?_
  obtain rfl:=sj hd
  exact⟨[(iv aF)],f.g Z,f.d,_,[aH],(gt ar cr),m,_,Z,Z,cs⟩
theorem Wk.Z1 {v0:Value}{it0:Itm}{x0:LI}{x1 x2 x3:Int}(hW:B5 W)(m:Mem W G w (it0::H))(o0:Ow (RI .u32) 76 G it0 v0 x0){y:Int×Bool×(LI)}(hd:D.Z1 x0 x1 x2 x3=some y):
  Calls prog 187 #[v0,(iv x1),(iv x2),(iv x3),(.func (.func 117) #[] #[])] w (Res W G H (λG' Ho v=>∃i0:Itm,Ho=[i0]∧v= .tuple #[(iv y.1),(.bool y.2.1)]∧Ow (RI .u32) 76 G' i0 v0 y.2.2)):=by
 refine As (args:=[v0,(iv x1),(iv x2),(iv x3),(.func (.func 117) #[] #[])]) (N:=178) [.tmp 10,.tmp 11] func187 Z Z (lb Z) Z λa f=> ?_
 unfold D.Z1 at hd
 refine Ae ?_
 refine Ac f Z λa f=>Ac f Z λa f=>Aa (Af ?_)
 refine BC Ay m ?_
 refine p_p 2 Z f (λ_=>A4 (f.e Z)) λa f=>p_p 3 Z f (λ_=>A4 (f.e Z)) λa f=>BD 12013 11 (by kernel_rfl) Z ?_
 refine Ag 0 12013 Z f Z λa f=>Ag 1 12013 Z f Z λa f=>Ag 4 12013 Z f Z λa f=>Ag 5 12013 Z f Z λa f=> ?_
 have⟨aa,ab,hd⟩:=bind_some hd
 refine AG 6 12013 0 m o0 T71 ab Z f Z Z λac a ad f=>AR 7 12013 0 o0 Bg ad ab Z f Z λae a af f=> ?_
 subst af
 refine Ag 8 12013 Z f Z λa f=>Ag 9 12013 Z f Z λa f=> ?_
 have⟨ag,ah,hd⟩:=bind_some hd
 refine AG 10 12013 0 m o0 T71 ah Z f Z Z λai a aj f=>AR 11 12013 0 o0 Bg aj ah Z f Z λak a al f=> ?_
 subst al
 have⟨am,an,hd⟩:=bind_some hd
 refine AG 12 12013 0 m o0 T71 an Z f Z Z λao a ap f=>AK λaq w ar m=> ?_
 have o0:=od1 ar o0
 refine Aw 0 m o0 Z sizeOf76 f Z Z ap an Z Z Z λau w m av=> ?_
 have⟨aw,ax,hd⟩:=bind_some hd
 refine A6 0 m av Z T71 f Z Z Z ax λay a az f=>Aw 0 m av Z sizeOf76 f Z Z az ax Z Z Z λaA w m aB=>Au ?_
 refine Ab f Z λa f=>Ah f Z Z Ar λa f=>Ab f Z λa f=>Ah f Z Z AO λa f=>Ac f Z λa f=>Ac f Z λa f=>Aa (Af ?_)
 have⟨aC,aD,hd⟩:=bind_some hd
 refine AF (λa w=>∃aE:Int,aE=aC∧∃(aF:GH),GLe aq aF∧Fr a 178 [(0,v0),(1,(iv x1)),(4,(.func (.func 117) #[] #[])),(12,(iv aE)),(13,(iv (i64.wrap (x2-1))))]∧Mem W aF w (aA::H)) ?_ ?_
 ·refine Aj ?_
  refine AD (λaG a w=>∃aH:Int,aH=aG∧∃(aI:GH),GLe aq aI∧Fr a 178 [(0,v0),(1,(iv x1)),(4,(.func (.func 117) #[] #[])),(12,(iv aH)),(13,(iv (i64.wrap (x2-1))))]∧Mem W aI w (aA::H)) aD ⟨_,Z,_,gr,f.k Z,m⟩ ?_
  clear aD f m
  rintro aG aJ aK aL a w ⟨aH,rfl,aI,aM,f,m⟩
  have aB:=od1 aM aB
  refine Af (Af ?_)
  refine A3 16 Ay (by kernel_rfl) m ?_
  refine Ag 0 16 Z f Z λa f=>Ag 1 16 Z f Z λa f=>q_p 2 16 Z f (λ_=>AA (f.e Z) (f.e Z) Ci) λa f=>Ag 3 16 Z f Z λa f=> ?_
  have⟨aN,aO,aK⟩:=bind_some aK
  refine BZ (fuel':=0) (listed':= #[true,true,true,true,true,true,true,true,true,true,true,true,true,true,true,true]) (λa=>Fr a 178 [(0,v0),(1,(iv x1)),(4,(.func (.func 117) #[] #[])),(12,(iv aH)),(13,(iv (i64.wrap (x2-1)))),(32,(iv aH)),(33,(iv (i64.wrap (x2-1)))),(34,(.bool (decide (aH≤(i64.wrap (x2-1)))))),(35,(.bool (decide (aH≤(i64.wrap (x2-1)))))),(47,(.bool aN))]) ?_ ?_
  ·intro a f
   refine AK λaP w aQ m=>Aa ?_
   rcases Ad aK with⟨aR,aK⟩|⟨aR,aK⟩
   ·refine Ak f Z aR ?_
    refine Al ?_
    refine Aj (Am ?_)
    refine Ab f Z λa f=>Ah f Z Z Ar λa f=>Ac f Z λa f=>Aa ?_
    obtain rfl:=sj aK
    exact⟨_,Z,_,Z,_,(gt aM aQ),f.k Z,m⟩
   ·refine Ai f Z aR ?_
    refine Ax Z ?_
    obtain rfl:=sj aK
    obtain rfl:=aL _ rfl
    exact⟨_,Z,_,(gt aM aQ),f.k Z,m⟩
  ·intro aS
   rcases Ad aO with⟨aT,aO⟩|⟨aT,aO⟩
   ·refine Ag (hw:=wo f aT) 4 16 Z f Z λa f=> ?_
    refine Ag (hw:=wo f aT) 5 16 Z f Z λa f=>Ag (hw:=wo f aT) 6 16 Z f Z λa f=> ?_
    have⟨aU,aV,aO⟩:=bind_some aO
    refine AG (hw:=wo f aT) 7 16 0 m aB T71 aV Z f Z Z λaW a aX f=>AR (hw:=wo f aT) 8 16 0 aB Bg aX aV Z f Z λaY a aZ f=> ?_
    subst aZ
    refine Ag (hw:=wo f aT) 9 16 Z f Z λa f=>Ag (hw:=wo f aT) 10 16 Z f Z λa f=> ?_
    have⟨a0,a1,aO⟩:=bind_some aO
    refine AG (hw:=wo f aT) 11 16 0 m aB T71 a1 Z f Z Z λa2 a a3 f=>AR (hw:=wo f aT) 12 16 0 aB Bg a3 a1 Z f Z λa4 a a5 f=> ?_
    subst a5
    have⟨a6,a7,aO⟩:=bind_some aO
    refine BG (i:=13) 16 Z (by kernel_rfl) Z f (Ba f Z Z Z aT) Z Z Z call117 (λ_ _ w a8 m=>Wk.b hW m a7) λa f=>q_p (hw:=wo f aT) 14 16 Z f (λ_=>AA (f.e Z) (f.e Z) AH) λa f=>q_p 15 16 Z f (λ_=>AU (f.e Z) aT (f.e Z)) λa f=> ?_
    obtain rfl:=sj aO
    exact aS _ (f.k Z)
   ·refine Ao 4 16 Z f aT λa f=> ?_
    refine Ao 5 16 Z f aT λa f=>Ao 6 16 Z f aT λa f=>Ao 7 16 Z f aT λa f=>Ao 8 16 Z f aT λa f=>Ao 9 16 Z f aT λa f=>Ao 10 16 Z f aT λa f=>Ao 11 16 Z f aT λa f=>Ao 12 16 Z f aT λa f=>Ao 13 16 Z f aT λa f=>Ao 14 16 Z f aT λa f=>q_p 15 16 Z f (λ_=>AV (f.e Z) aT (f.e Z)) λa f=> ?_
    obtain rfl:=sj aO
    exact aS _ (f.k Z)
 ·rintro a w ⟨aE,rfl,aF,a9,f,m⟩
  have aB:=od1 a9 aB
  refine Af ?_
  have⟨ba,bb,hd⟩:=bind_some hd
  refine AF (λa w=>∃bc:Int,bc=ba∧∃(bd:GH),GLe aF bd∧Fr a 178 [(0,v0),(1,(iv x1)),(4,(.func (.func 117) #[] #[])),(12,(iv aE)),(13,(iv bc))]∧Mem W bd w (aA::H)) ?_ ?_
  ·refine Aj ?_
   refine AD (λbe a w=>∃bf:Int,bf=be∧∃(bg:GH),GLe aF bg∧Fr a 178 [(0,v0),(1,(iv x1)),(4,(.func (.func 117) #[] #[])),(12,(iv aE)),(13,(iv bf))]∧Mem W bg w (aA::H)) bb ⟨_,Z,_,gr,f.k Z,m⟩ ?_
   clear bb f m
   rintro be bh bi bj a w ⟨bf,rfl,bg,bk,f,m⟩
   have aB:=od1 bk aB
   refine Af (Af ?_)
   refine A3 17 Ay (by kernel_rfl) m ?_
   refine Ag 0 17 Z f Z λa f=>Ag 1 17 Z f Z λa f=>q_p 2 17 Z f (λ_=>AA (f.e Z) (f.e Z) Ci) λa f=>Ag 3 17 Z f Z λa f=> ?_
   have⟨bl,bm,bi⟩:=bind_some bi
   refine BZ (fuel':=0) (listed':= #[true,true,true,true,true,true,true,true,true,true,true,true,true,true,true,true,true]) (λa=>Fr a 178 [(0,v0),(1,(iv x1)),(4,(.func (.func 117) #[] #[])),(12,(iv aE)),(13,(iv bf)),(50,(iv aE)),(51,(iv bf)),(52,(.bool (decide (aE≤bf)))),(53,(.bool (decide (aE≤bf)))),(66,(.bool bl))]) ?_ ?_
   ·intro a f
    refine AK λbn w bo m=>Aa ?_
    rcases Ad bi with⟨bp,bi⟩|⟨bp,bi⟩
    ·refine Ak f Z bp ?_
     refine Al ?_
     refine Aj (Am ?_)
     refine Ab f Z λa f=>Ah f Z Z AO λa f=>Ac f Z λa f=>Aa ?_
     obtain rfl:=sj bi
     exact⟨_,Z,_,Z,_,(gt bk bo),f.k Z,m⟩
    ·refine Ai f Z bp ?_
     refine Ax Z ?_
     obtain rfl:=sj bi
     obtain rfl:=bj _ rfl
     exact⟨_,Z,_,(gt bk bo),f.k Z,m⟩
   ·intro bq
    rcases Ad bm with⟨br,bm⟩|⟨br,bm⟩
    ·refine Ag (hw:=wo f br) 4 17 Z f Z λa f=> ?_
     refine Ag (hw:=wo f br) 5 17 Z f Z λa f=>Ag (hw:=wo f br) 6 17 Z f Z λa f=> ?_
     have⟨bs,bt,bm⟩:=bind_some bm
     refine AG (hw:=wo f br) 7 17 0 m aB T71 bt Z f Z Z λbu a bv f=>AR (hw:=wo f br) 8 17 0 aB Bg bv bt Z f Z λbw a bx f=> ?_
     subst bx
     refine Ag (hw:=wo f br) 9 17 Z f Z λa f=>Ag (hw:=wo f br) 10 17 Z f Z λa f=> ?_
     have⟨bz,bA,bm⟩:=bind_some bm
     refine AG (hw:=wo f br) 11 17 0 m aB T71 bA Z f Z Z λbB a bC f=>AR (hw:=wo f br) 12 17 0 aB Bg bC bA Z f Z λbD a bE f=> ?_
     subst bE
     have⟨bF,bG,bm⟩:=bind_some bm
     refine BG (i:=13) 17 Z (by kernel_rfl) Z f (Ba f Z Z Z br) Z Z Z call117 (λ_ _ w bH m=>Wk.b hW m bG) λa f=>q_p (hw:=wo f br) 14 17 Z f (λ_=>AA (f.e Z) (f.e Z) AH) λa f=>q_p (hw:=wo f br) 15 17 Z f (λ_=>Bj (f.e Z)) λa f=>q_p 16 17 Z f (λ_=>AU (f.e Z) br (f.e Z)) λa f=> ?_
     obtain rfl:=sj bm
     exact bq _ (f.k Z)
    ·refine Ao 4 17 Z f br λa f=> ?_
     refine Ao 5 17 Z f br λa f=>Ao 6 17 Z f br λa f=>Ao 7 17 Z f br λa f=>Ao 8 17 Z f br λa f=>Ao 9 17 Z f br λa f=>Ao 10 17 Z f br λa f=>Ao 11 17 Z f br λa f=>Ao 12 17 Z f br λa f=>Ao 13 17 Z f br λa f=>Ao 14 17 Z f br λa f=>Ao 15 17 Z f br λa f=>q_p 16 17 Z f (λ_=>AV (f.e Z) br (f.e Z)) λa f=> ?_
     obtain rfl:=sj bm
     exact bq _ (f.k Z)
  ·rintro a w ⟨bc,rfl,bd,bI,f,m⟩
   have aB:=od1 bI aB
   refine Af (Ae ?_)
   refine Ab f Z λa f=>Ab f Z λa f=>Ah f Z Z Ce λa f=>Aa ?_
   rcases Ad hd with⟨bJ,hd⟩|⟨bJ,hd⟩
   ·refine Ak f Z bJ ?_
    refine Af ?_
    refine BC Ay m ?_
    refine p_p 2 Z f (λ_=>A4 (f.e Z)) λa f=>p_p 3 Z f (λ_=>A4 (f.e Z)) λa f=>BD 12013 11 (by kernel_rfl) Z ?_
    refine Ag 0 12013 Z f Z λa f=>Ag 1 12013 Z f Z λa f=>Ag 4 12013 Z f Z λa f=>Ag 5 12013 Z f Z λa f=> ?_
    have⟨bK,bL,hd⟩:=bind_some hd
    refine AG 6 12013 0 m aB T71 bL Z f Z Z λbM a bN f=>AR 7 12013 0 aB Bg bN bL Z f Z λbO a bP f=> ?_
    subst bP
    refine Ag 8 12013 Z f Z λa f=>Ag 9 12013 Z f Z λa f=> ?_
    have⟨bQ,bR,hd⟩:=bind_some hd
    refine AG 10 12013 0 m aB T71 bR Z f Z Z λbS a bT f=>AR 11 12013 0 aB Bg bT bR Z f Z λbU a bV f=> ?_
    subst bV
    have⟨bW,bX,hd⟩:=bind_some hd
    refine AG 12 12013 0 m aB T71 bX Z f Z Z λbY a bZ f=>AK λb0 w b1 m=> ?_
    have aB:=od1 b1 aB
    refine Aw 0 m aB Z sizeOf76 f Z Z bZ bX Z Z Z λb2 w m b3=> ?_
    have⟨b4,b5,hd⟩:=bind_some hd
    refine A6 0 m b3 Z T71 f Z Z Z b5 λb6 a b7 f=>Aw 0 m b3 Z sizeOf76 f Z Z b7 b5 Z Z Z λb8 w m b9=>Au ?_
    refine Ab f Z λa f=>Ac f Z λa f=>Ac f Z λa f=>Aa ?_
    refine Ap ?_
    obtain rfl:=sj hd
    exact⟨[(iv bc),(.bool true)],⟨f.get _ _ Z,f.get _ _ Z,trivial⟩,f.d,_,[b8],(gt ar (gt a9 (gt bI b1))),m,_,Z,Z,b9⟩
   ·refine Ai f Z bJ ?_
    refine Al ?_
    refine Af ?_
    refine BC Ay m ?_
    refine p_p 2 Z f (λ_=>A4 (f.e Z)) λa f=>p_p 3 Z f (λ_=>A4 (f.e Z)) λa f=>BD 12013 11 (by kernel_rfl) Z ?_
    refine Ag 0 12013 Z f Z λa f=>Ag 1 12013 Z f Z λa f=>Ag 4 12013 Z f Z λa f=>Ag 5 12013 Z f Z λa f=> ?_
    have⟨ca,cb,hd⟩:=bind_some hd
    refine AG 6 12013 0 m aB T71 cb Z f Z Z λcc a cd f=>AR 7 12013 0 aB Bg cd cb Z f Z λce a cf f=> ?_
    subst cf
    refine Ag 8 12013 Z f Z λa f=>Ag 9 12013 Z f Z λa f=> ?_
    have⟨cg,ch,hd⟩:=bind_some hd
    refine AG 10 12013 0 m aB T71 ch Z f Z Z λci a cj f=>AR 11 12013 0 aB Bg cj ch Z f Z λck a cl f=> ?_
    subst cl
    have⟨cm,cn,hd⟩:=bind_some hd
    refine AG 12 12013 0 m aB T71 cn Z f Z Z λco a cp f=>AK λcq w cr m=> ?_
    have aB:=od1 cr aB
    refine Aw 0 m aB Z sizeOf76 f Z Z cp cn Z Z Z λcs w m ct=> ?_
    have⟨cu,cv,hd⟩:=bind_some hd
    refine A6 0 m ct Z T71 f Z Z Z cv λcw a cx f=>Aw 0 m ct Z sizeOf76 f Z Z cx cv Z Z Z λcy w m cz=>Au ?_
    refine Ab f Z λa f=>Ah f Z Z Ar λa f=>Ac f Z λa f=>Au ?_
    refine Ab f Z λa f=>Ah f Z Z AO λa f=>Ac f Z λa f=>Aa (Af ?_)
    have⟨cA,cB,hd⟩:=bind_some hd
    refine AF (λa w=>∃cC:LI,∃cD:Int,(cC,cD)=cA∧∃(cE:GH) (cF:Itm),GLe cq cE∧Fr a 178 [(0,v0),(1,(iv x1)),(13,(iv cD))]∧Mem W cE w (cF::H)∧Ow (RI .u32) 76 cE cF v0 cC) ?_ ?_
    ·refine Aj ?_
     refine AD (λcG a w=>∃cH:LI,∃cI:Int,∃cJ:Int,(cH,cI,cJ)=cG∧∃(cK:GH) (cL:Itm),GLe cq cK∧Fr a 178 [(0,v0),(1,(iv x1)),(4,(.func (.func 117) #[] #[])),(12,(iv cI)),(13,(iv cJ))]∧Mem W cK w (cL::H)∧Ow (RI .u32) 76 cK cL v0 cH) cB ⟨_,_,_,Z,_,cy,gr,f.k Z,m,cz⟩ ?_
     clear cB f m
     rintro cG cM cN cO a w ⟨cH,cI,cJ,rfl,cK,cL,cP,f,m,cQ⟩
     refine Aj (Af ?_)
     have⟨cR,cS,cN⟩:=bind_some cN
     refine AF (λa w=>∃cT:Int,cT=cR∧∃(cU:GH),GLe cK cU∧Fr a 178 [(0,v0),(1,(iv x1)),(4,(.func (.func 117) #[] #[])),(12,(iv cT)),(13,(iv cJ))]∧Mem W cU w (cL::H)) ?_ ?_
     ·refine Aj ?_
      refine AD (λcV a w=>∃cW:Int,cW=cV∧∃(cX:GH),GLe cK cX∧Fr a 178 [(0,v0),(1,(iv x1)),(4,(.func (.func 117) #[] #[])),(12,(iv cW)),(13,(iv cJ))]∧Mem W cX w (cL::H)) cS ⟨_,Z,_,gr,f.k Z,m⟩ ?_
      clear cS f m
      rintro cV cY cZ c0 a w ⟨cW,rfl,cX,c1,f,m⟩
      have cQ:=od1 c1 cQ
      refine Af (Af ?_)
      refine A3 16 Ay (by kernel_rfl) m ?_
      refine Ag 0 16 Z f Z λa f=>Ag 1 16 Z f Z λa f=>q_p 2 16 Z f (λ_=>AA (f.e Z) (f.e Z) Ci) λa f=>Ag 3 16 Z f Z λa f=> ?_
      have⟨c2,c3,cZ⟩:=bind_some cZ
      refine BZ (fuel':=0) (listed':= #[true,true,true,true,true,true,true,true,true,true,true,true,true,true,true,true]) (λa=>Fr a 178 [(0,v0),(1,(iv x1)),(4,(.func (.func 117) #[] #[])),(12,(iv cW)),(13,(iv cJ)),(105,(iv cW)),(106,(iv cJ)),(107,(.bool (decide (cW≤cJ)))),(108,(.bool (decide (cW≤cJ)))),(120,(.bool c2))]) ?_ ?_
      ·intro a f
       refine AK λc4 w c5 m=>Aa ?_
       rcases Ad cZ with⟨c6,cZ⟩|⟨c6,cZ⟩
       ·refine Ak f Z c6 ?_
        refine Al ?_
        refine Aj (Am ?_)
        refine Ab f Z λa f=>Ah f Z Z Ar λa f=>Ac f Z λa f=>Aa ?_
        obtain rfl:=sj cZ
        exact⟨_,Z,_,Z,_,(gt c1 c5),f.k Z,m⟩
       ·refine Ai f Z c6 ?_
        refine Ax Z ?_
        obtain rfl:=sj cZ
        obtain rfl:=c0 _ rfl
        exact⟨_,Z,_,(gt c1 c5),f.k Z,m⟩
      ·intro c7
       rcases Ad c3 with⟨c8,c3⟩|⟨c8,c3⟩
       ·refine Ag (hw:=wo f c8) 4 16 Z f Z λa f=> ?_
        refine Ag (hw:=wo f c8) 5 16 Z f Z λa f=>Ag (hw:=wo f c8) 6 16 Z f Z λa f=> ?_
        have⟨c9,da,c3⟩:=bind_some c3
        refine AG (hw:=wo f c8) 7 16 0 m cQ T71 da Z f Z Z λdb a dc f=>AR (hw:=wo f c8) 8 16 0 cQ Bg dc da Z f Z λdd a de f=> ?_
        subst de
        refine Ag (hw:=wo f c8) 9 16 Z f Z λa f=>Ag (hw:=wo f c8) 10 16 Z f Z λa f=> ?_
        have⟨df,dg,c3⟩:=bind_some c3
        refine AG (hw:=wo f c8) 11 16 0 m cQ T71 dg Z f Z Z λdh a di f=>AR (hw:=wo f c8) 12 16 0 cQ Bg di dg Z f Z λdj a dk f=> ?_
        subst dk
        have⟨dl,dm,c3⟩:=bind_some c3
        refine BG (i:=13) 16 Z (by kernel_rfl) Z f (Ba f Z Z Z c8) Z Z Z call117 (λ_ _ w dn m=>Wk.b hW m dm) λa f=>q_p (hw:=wo f c8) 14 16 Z f (λ_=>AA (f.e Z) (f.e Z) AH) λa f=>q_p 15 16 Z f (λ_=>AU (f.e Z) c8 (f.e Z)) λa f=> ?_
        obtain rfl:=sj c3
        exact c7 _ (f.k Z)
       ·refine Ao 4 16 Z f c8 λa f=> ?_
        refine Ao 5 16 Z f c8 λa f=>Ao 6 16 Z f c8 λa f=>Ao 7 16 Z f c8 λa f=>Ao 8 16 Z f c8 λa f=>Ao 9 16 Z f c8 λa f=>Ao 10 16 Z f c8 λa f=>Ao 11 16 Z f c8 λa f=>Ao 12 16 Z f c8 λa f=>Ao 13 16 Z f c8 λa f=>Ao 14 16 Z f c8 λa f=>q_p 15 16 Z f (λ_=>AV (f.e Z) c8 (f.e Z)) λa f=> ?_
        obtain rfl:=sj c3
        exact c7 _ (f.k Z)
     ·rintro a w ⟨cT,rfl,cU,dp,f,m⟩
      have cQ:=od1 dp cQ
      refine Af ?_
      have⟨dq,dr,cN⟩:=bind_some cN
      refine AF (λa w=>∃ds:Int,ds=dq∧∃(dt:GH),GLe cU dt∧Fr a 178 [(0,v0),(1,(iv x1)),(4,(.func (.func 117) #[] #[])),(12,(iv cT)),(13,(iv ds))]∧Mem W dt w (cL::H)) ?_ ?_
      ·refine Aj ?_
       refine AD (λdu a w=>∃dv:Int,dv=du∧∃(dw:GH),GLe cU dw∧Fr a 178 [(0,v0),(1,(iv x1)),(4,(.func (.func 117) #[] #[])),(12,(iv cT)),(13,(iv dv))]∧Mem W dw w (cL::H)) dr ⟨_,Z,_,gr,f.k Z,m⟩ ?_
       clear dr f m
       rintro du dx dy dz a w ⟨dv,rfl,dw,dA,f,m⟩
       have cQ:=od1 dA cQ
       refine Af (Af ?_)
       refine A3 17 Ay (by kernel_rfl) m ?_
       refine Ag 0 17 Z f Z λa f=>Ag 1 17 Z f Z λa f=>q_p 2 17 Z f (λ_=>AA (f.e Z) (f.e Z) Ci) λa f=>Ag 3 17 Z f Z λa f=> ?_
       have⟨dB,dC,dy⟩:=bind_some dy
       refine BZ (fuel':=0) (listed':= #[true,true,true,true,true,true,true,true,true,true,true,true,true,true,true,true,true]) (λa=>Fr a 178 [(0,v0),(1,(iv x1)),(4,(.func (.func 117) #[] #[])),(12,(iv cT)),(13,(iv dv)),(123,(iv cT)),(124,(iv dv)),(125,(.bool (decide (cT≤dv)))),(126,(.bool (decide (cT≤dv)))),(139,(.bool dB))]) ?_ ?_
       ·intro a f
        refine AK λdD w dE m=>Aa ?_
        rcases Ad dy with⟨dF,dy⟩|⟨dF,dy⟩
        ·refine Ak f Z dF ?_
         refine Al ?_
         refine Aj (Am ?_)
         refine Ab f Z λa f=>Ah f Z Z AO λa f=>Ac f Z λa f=>Aa ?_
         obtain rfl:=sj dy
         exact⟨_,Z,_,Z,_,(gt dA dE),f.k Z,m⟩
        ·refine Ai f Z dF ?_
         refine Ax Z ?_
         obtain rfl:=sj dy
         obtain rfl:=dz _ rfl
         exact⟨_,Z,_,(gt dA dE),f.k Z,m⟩
       ·intro dG
        rcases Ad dC with⟨dH,dC⟩|⟨dH,dC⟩
        ·refine Ag (hw:=wo f dH) 4 17 Z f Z λa f=> ?_
         refine Ag (hw:=wo f dH) 5 17 Z f Z λa f=>Ag (hw:=wo f dH) 6 17 Z f Z λa f=> ?_
         have⟨dI,dJ,dC⟩:=bind_some dC
         refine AG (hw:=wo f dH) 7 17 0 m cQ T71 dJ Z f Z Z λdK a dL f=>AR (hw:=wo f dH) 8 17 0 cQ Bg dL dJ Z f Z λdM a dN f=> ?_
         subst dN
         refine Ag (hw:=wo f dH) 9 17 Z f Z λa f=>Ag (hw:=wo f dH) 10 17 Z f Z λa f=> ?_
         have⟨dO,dP,dC⟩:=bind_some dC
         refine AG (hw:=wo f dH) 11 17 0 m cQ T71 dP Z f Z Z λdQ a dR f=>AR (hw:=wo f dH) 12 17 0 cQ Bg dR dP Z f Z λdS a dT f=> ?_
         subst dT
         have⟨dU,dV,dC⟩:=bind_some dC
         refine BG (i:=13) 17 Z (by kernel_rfl) Z f (Ba f Z Z Z dH) Z Z Z call117 (λ_ _ w dW m=>Wk.b hW m dV) λa f=>q_p (hw:=wo f dH) 14 17 Z f (λ_=>AA (f.e Z) (f.e Z) AH) λa f=>q_p (hw:=wo f dH) 15 17 Z f (λ_=>Bj (f.e Z)) λa f=>q_p 16 17 Z f (λ_=>AU (f.e Z) dH (f.e Z)) λa f=> ?_
         obtain rfl:=sj dC
         exact dG _ (f.k Z)
        ·refine Ao 4 17 Z f dH λa f=> ?_
         refine Ao 5 17 Z f dH λa f=>Ao 6 17 Z f dH λa f=>Ao 7 17 Z f dH λa f=>Ao 8 17 Z f dH λa f=>Ao 9 17 Z f dH λa f=>Ao 10 17 Z f dH λa f=>Ao 11 17 Z f dH λa f=>Ao 12 17 Z f dH λa f=>Ao 13 17 Z f dH λa f=>Ao 14 17 Z f dH λa f=>Ao 15 17 Z f dH λa f=>q_p 16 17 Z f (λ_=>AV (f.e Z) dH (f.e Z)) λa f=> ?_
         obtain rfl:=sj dC
         exact dG _ (f.k Z)
      ·rintro a w ⟨ds,rfl,dt,dX,f,m⟩
       have cQ:=od1 dX cQ
       refine Af (Ae ?_)
       refine Ab f Z λa f=>Ab f Z λa f=>Ah f Z Z Ce λa f=>Aa ?_
       rcases Ad cN with⟨dY,cN⟩|⟨dY,cN⟩
       ·refine Ak f Z dY ?_
        refine Ax Z ?_
        obtain rfl:=sj cN
        obtain rfl:=cO _ rfl
        exact⟨_,_,Z,_,cL,(gt cP (gt dp dX)),f.k Z,m,cQ⟩
       ·refine Ai f Z dY ?_
        refine Al ?_
        refine Af ?_
        refine BC Ay m ?_
        refine p_p 2 Z f (λ_=>A4 (f.e Z)) λa f=>p_p 3 Z f (λ_=>A4 (f.e Z)) λa f=>BD 12013 11 (by kernel_rfl) Z ?_
        refine Ag 0 12013 Z f Z λa f=>Ag 1 12013 Z f Z λa f=>Ag 4 12013 Z f Z λa f=>Ag 5 12013 Z f Z λa f=> ?_
        have⟨dZ,d0,cN⟩:=bind_some cN
        refine AG 6 12013 0 m cQ T71 d0 Z f Z Z λd1 a d2 f=>AR 7 12013 0 cQ Bg d2 d0 Z f Z λd3 a d4 f=> ?_
        subst d4
        refine Ag 8 12013 Z f Z λa f=>Ag 9 12013 Z f Z λa f=> ?_
        have⟨d5,d6,cN⟩:=bind_some cN
        refine AG 10 12013 0 m cQ T71 d6 Z f Z Z λd7 a d8 f=>AR 11 12013 0 cQ Bg d8 d6 Z f Z λd9 a ea f=> ?_
        subst ea
        have⟨eb,ec,cN⟩:=bind_some cN
        refine AG 12 12013 0 m cQ T71 ec Z f Z Z λed a ee f=>AK λef w eg m=> ?_
        have cQ:=od1 eg cQ
        refine Aw 0 m cQ Z sizeOf76 f Z Z ee ec Z Z Z λeh w m ei=> ?_
        have⟨ej,ek,cN⟩:=bind_some cN
        refine A6 0 m ei Z T71 f Z Z Z ek λel a em f=>Aw 0 m ei Z sizeOf76 f Z Z em ek Z Z Z λen w m eo=>Au ?_
        refine Ab f Z λa f=>Ah f Z Z Ar λa f=>Ac f Z λa f=>Aa (Am ?_)
        refine Ab f Z λa f=>Ah f Z Z AO λa f=>Ac f Z λa f=>Aa ?_
        obtain rfl:=sj cN
        exact⟨_,Z,_,_,_,Z,_,en,(gt cP (gt dp (gt dX eg))),f.k Z,m,eo⟩
    ·rintro a w ⟨cC,cD,rfl,cE,cF,ep,f,m,eq⟩
     refine Af ?_
     refine BC Ay m ?_
     refine p_p 2 Z f (λ_=>A4 (f.e Z)) λa f=>p_p 3 Z f (λ_=>A4 (f.e Z)) λa f=>BD 12013 11 (by kernel_rfl) Z ?_
     refine Ag 0 12013 Z f Z λa f=>Ag 1 12013 Z f Z λa f=>Ag 4 12013 Z f Z λa f=>Ag 5 12013 Z f Z λa f=> ?_
     have⟨er,es,hd⟩:=bind_some hd
     refine AG 6 12013 0 m eq T71 es Z f Z Z λet a eu f=>AR 7 12013 0 eq Bg eu es Z f Z λev a ew f=> ?_
     subst ew
     refine Ag 8 12013 Z f Z λa f=>Ag 9 12013 Z f Z λa f=> ?_
     have⟨ex,ey,hd⟩:=bind_some hd
     refine AG 10 12013 0 m eq T71 ey Z f Z Z λez a eA f=>AR 11 12013 0 eq Bg eA ey Z f Z λeB a eC f=> ?_
     subst eC
     have⟨eD,eE,hd⟩:=bind_some hd
     refine AG 12 12013 0 m eq T71 eE Z f Z Z λeF a eG f=>AK λeH w eI m=> ?_
     have eq:=od1 eI eq
     refine Aw 0 m eq Z sizeOf76 f Z Z eG eE Z Z Z λeJ w m eK=> ?_
     have⟨eL,eM,hd⟩:=bind_some hd
     refine A6 0 m eK Z T71 f Z Z Z eM λeN a eO f=>Aw 0 m eK Z sizeOf76 f Z Z eO eM Z Z Z λeP w m eQ=>Au ?_
     refine Ab f Z λa f=>Ac f Z λa f=>Ac f Z λa f=>Aa ?_
     refine Ap ?_
     obtain rfl:=sj hd
     exact⟨[(iv cD),(.bool false)],⟨f.get _ _ Z,f.get _ _ Z,trivial⟩,f.d,_,[eP],(gt ar (gt a9 (gt bI (gt cr (gt ep eI))))),m,_,Z,Z,eQ⟩
theorem Wk.f0 {W:World}(hW:B5 W)(n:Nat):∀{w:World} {G:GH} {H:List Itm} {v0:Value} {it0:Itm} {x0:LI} {x1 x2 x3:Int} (m:Mem W G w (it0::H)) (o0:Ow (RI .u32) 76 G it0 v0 x0) {y:(LI)} (hd:D.f0 n x0 x1 x2 x3=some y),
  Calls prog 152 #[v0,(iv x1),(iv x2),(iv x3),(.func (.func 117) #[] #[])] w (Res W G H (λG' Ho _=>∃i0:Itm,Ho=[i0]∧Ow (RI .u32) 76 G' i0 v0 y)):=by
 induction n with
 |zero=>intros;rename_i hd;simp[D.f0] at hd
 |succ fuel ih=>
  intro w G H v0 it0 x0 x1 x2 x3 m o0 y hd
  refine As (args:=[v0,(iv x1),(iv x2),(iv x3),(.func (.func 117) #[] #[])]) (N:=148) [] func152 Z Z (lb Z) Z λa f=> ?_
  unfold D.f0 at hd
  refine Ae ?_
  refine Ac f Z λa f=>Au ?_
  refine Ac f Z λa f=>Aa ?_
  have⟨aa,ab,hd⟩:=bind_some hd
  refine Aj ?_
  refine AD (λac a w=>∃ad:LI,∃ae:Int,∃af:Int,∃ag:Int,∃ah:Bool,∃ai:Bool,(ad,ae,af,ag,ah,ai)=ac∧∃(aj:GH) (ak:Itm),GLe G aj∧Fr a 148 [(0,v0),(1,(iv ae)),(2,(iv af)),(3,(iv ag)),(4,(.func (.func 117) #[] #[])),(10,(.bool ah)),(11,(.bool ai))]∧Mem W aj w (ak::H)∧Ow (RI .u32) 76 aj ak v0 ad) ab ⟨_,_,_,_,_,_,Z,_,it0,gr,f.k Z,m,o0⟩ ?_
  clear ab f m
  rintro ac al am an a w ⟨ad,ae,af,ag,ah,ai,rfl,aj,ak,ao,f,m,ap⟩
  refine Aj (Ae ?_)
  refine Ab f Z λa f=>Ab f Z λa f=>Ah f Z Z AO λa f=>Ac f Z λa f=>Aa (Af (Ae ?_))
  refine Ab f Z λa f=>Ah f Z Z Ci λa f=>Aa ?_
  rcases Ad am with⟨aq,am⟩|⟨aq,am⟩
  ·refine Ak f Z aq ?_
   refine Ae ?_
   refine Ab f Z λa f=>Ab f Z λa f=>Ab f Z λa f=>Ab f Z λa f=> ?_
   have⟨ar,au,am⟩:=bind_some am
   refine Av f Z call180 (Wk.c2 hW m ap au) λav aw ax w ay m az a f=> ?_
   obtain⟨aA,rfl,aB⟩:=az
   refine Aa ?_
   refine Ap ?_
   obtain rfl:=sj am
   obtain rfl:=an _ rfl
   obtain rfl:=sj hd
   exact⟨[],trivial,f.d,_,[aA],(gt ao ay),m,_,Z,aB⟩
  ·refine Ai f Z aq ?_
   refine Al ?_
   refine Af (Ae ?_)
   refine Ab f Z λa f=>Ah f Z Z Bq λa f=>Aa ?_
   rcases Ad am with⟨aC,am⟩|⟨aC,am⟩
   ·refine Ak f Z aC ?_
    refine Ae ?_
    refine Ab f Z λa f=>Ab f Z λa f=>Ab f Z λa f=>Ab f Z λa f=> ?_
    have⟨aD,aE,am⟩:=bind_some am
    refine Av f Z call181 (Wk.D1 hW m ap aE) λaF aG aH w aI m aJ a f=> ?_
    obtain⟨aK,rfl,aL⟩:=aJ
    refine Aa ?_
    refine Ap ?_
    obtain rfl:=sj am
    obtain rfl:=an _ rfl
    obtain rfl:=sj hd
    exact⟨[],trivial,f.d,_,[aK],(gt ao aI),m,_,Z,aL⟩
   ·refine Ai f Z aC ?_
    refine Al ?_
    refine Af (Ae ?_)
    refine Ab f Z λa f=>l_o f (Bj (f.e Z)) λa f=>Aa ?_
    have⟨aM,aN,am⟩:=bind_some am
    refine AF (λa w=>∃aO:LI,∃aP:Int,(aO,aP)=aM∧∃(aQ:GH) (aR:Itm),GLe aj aQ∧Fr a 148 [(0,v0),(1,(iv ae)),(2,(iv af)),(3,(iv aP)),(4,(.func (.func 117) #[] #[])),(10,(.bool ah)),(11,(.bool ai)),(12,(iv (i64.wrap (af-ae))))]∧Mem W aQ w (aR::H)∧Ow (RI .u32) 76 aQ aR v0 aO) ?_ ?_
    ·rcases Ad aN with⟨aS,aN⟩|⟨aS,aN⟩
     ·refine Ak f Z aS ?_
      refine Ae ?_
      refine Ab f Z λa f=>Ab f Z λa f=>Ab f Z λa f=>Ab f Z λa f=> ?_
      have⟨aT,aU,aN⟩:=bind_some aN
      refine Av f Z call182 (Wk.G1 m ap aU) λaV aW aX w aY m aZ a f=> ?_
      obtain⟨a0,rfl,a1⟩:=aZ
      refine Aa (Am ?_)
      refine Ab f Z λa f=>Ah f Z Z AO λa f=>Ac f Z λa f=>Aa ?_
      obtain rfl:=sj aN
      exact⟨_,_,Z,_,a0,aY,f.k Z,m,a1⟩
     ·refine Ai f Z aS ?_
      refine Al ?_
      obtain rfl:=sj aN
      exact⟨_,_,Z,_,ak,gr,f.k Z,m,ap⟩
    ·rintro a w ⟨aO,aP,rfl,aQ,aR,a2,f,m,a3⟩
     refine Ae ?_
     refine Ab f Z λa f=>Ab f Z λa f=>Ab f Z λa f=>Ab f Z λa f=> ?_
     have⟨a4,a5,am⟩:=bind_some am
     refine Av f Z call183 (Wk.T1 hW m a3 a5) λa6 a7 a8 w a9 m ba a f=> ?_
     obtain⟨bb,rfl,rfl,bc⟩:=ba
     refine Ab f Z λa f=>l_o f (A7 (f.e Z) Z) λa f=>l_o f (A7 (f.e Z) Z) λa f=>Ac f Z λa f=>Ac f Z λa f=>Aa (Af (Ae ?_))
     refine Ab f Z λa f=>Ah f Z Z Bq λa f=>Aa ?_
     have⟨bd,be,am⟩:=bind_some am
     refine AF (λa w=>∃bf:LI,∃bg:Int,∃bh:Int,(bf,bg,bh)=bd∧∃(bi:GH) (bj:Itm),GLe a7 bi∧Fr a 148 [(0,v0),(1,(iv ae)),(2,(iv af)),(3,(iv aP)),(4,(.func (.func 117) #[] #[])),(10,(.bool ah)),(11,(.bool ai)),(12,(iv (i64.wrap (af-ae)))),(13,(iv bg)),(14,(iv bh))]∧Mem W bi w (bj::H)∧Ow (RI .u32) 76 bi bj v0 bf) ?_ ?_
     ·rcases Ad be with⟨bk,be⟩|⟨bk,be⟩
      ·refine Ak f Z bk ?_
       refine Ae ?_
       refine Ab f Z λa f=>Ab f Z λa f=>Ab f Z λa f=>Ab f Z λa f=> ?_
       have⟨bl,bm,be⟩:=bind_some be
       refine Av f Z call184 (Wk.B1 m bc bm) λbn bo bp w bq m br a f=> ?_
       obtain⟨bs,rfl,bt⟩:=br
       refine Au ?_
       refine Ab f Z λa f=>Ah f Z Z AO λa f=>Ab f Z λa f=>Ab f Z λa f=>Ah f Z Z AO λa f=>Ah f Z Z AO λa f=>Ac f Z λa f=>Aa (Am ?_)
       refine Ac f Z λa f=>Aa ?_
       obtain rfl:=sj be
       exact⟨_,_,_,Z,_,bs,bq,f.k Z,m,bt⟩
      ·refine Ai f Z bk ?_
       refine Al ?_
       obtain rfl:=sj be
       exact⟨_,_,_,Z,_,bb,gr,f.k Z,m,bc⟩
     ·rintro a w ⟨bf,bg,bh,rfl,bi,bj,bu,f,m,bv⟩
      refine Af (Ae ?_)
      refine Ab f Z λa f=>Ab f Z λa f=> ?_
      refine BJ 2 (λa w=>∃bw,GLe bi bw∧Mem W bw w (bj::H)∧Fr a 148 [(0,v0),(1,(iv ae)),(2,(iv af)),(3,(iv aP)),(4,(.func (.func 117) #[] #[])),(10,(.bool ah)),(11,(.bool ai)),(12,(iv (i64.wrap (af-ae)))),(13,(iv bg)),(14,(iv bh)),(68,(.bool ah)),(69,(.bool ah)),(71,(.bool (ah&&ai)))]) ?_ ?_
      ·rcases Bool.eq_false_or_eq_true ah with bx|bx
       ·refine AI f bx ?_
        refine Ab f Z λa f=>l_o f (AU (f.e Z) bx (f.e Z)) λa f=> ?_
        exact⟨_,gr,m,f.weak ⟨Z,Z,Z,Z,Z,Z,Z,Z,Z,Z,Z,Z,by rw[bx];rfl,trivial⟩⟩
       ·refine AL f bx λa f=> ?_
        refine l_o f (AV (f.e Z) bx (f.e Z)) λa f=> ?_
        exact⟨_,gr,m,f.weak ⟨Z,Z,Z,Z,Z,Z,Z,Z,Z,Z,Z,Z,by rw[bx];rfl,trivial⟩⟩
      ·rintro a w ⟨bw,bz,m,f⟩
       have bv:=od1 bz bv
       refine Ab f Z λa f=> ?_
       refine BJ 3 (λa w=>∃bA,GLe bw bA∧Mem W bA w (bj::H)∧Fr a 148 [(0,v0),(1,(iv ae)),(2,(iv af)),(3,(iv aP)),(4,(.func (.func 117) #[] #[])),(10,(.bool ah)),(11,(.bool ai)),(12,(iv (i64.wrap (af-ae)))),(13,(iv bg)),(14,(iv bh)),(68,(.bool ah)),(69,(.bool ah)),(71,(.bool (ah&&ai))),(72,(.bool (ah&&ai))),(75,(.bool ((ah&&ai)&&(bh==1))))]) ?_ ?_
       ·rcases Bool.eq_false_or_eq_true (ah&&ai) with bB|bB
        ·refine AI f bB ?_
         refine Ab f Z λa f=>AI f bB ?_
         refine Ah f Z Z Bq λa f=>l_o f (AU (f.e Z) bB (f.e Z)) λa f=> ?_
         exact⟨_,gr,m,f.weak ⟨Z,Z,Z,Z,Z,Z,Z,Z,Z,Z,Z,Z,Z,Z,by rw[bB];rfl,trivial⟩⟩
        ·refine AL f bB λa f=> ?_
         refine AL f bB λa f=>l_o f (AV (f.e Z) bB (f.e Z)) λa f=> ?_
         exact⟨_,gr,m,f.weak ⟨Z,Z,Z,Z,Z,Z,Z,Z,Z,Z,Z,Z,Z,Z,by rw[bB];rfl,trivial⟩⟩
       ·rintro a w ⟨bA,bC,m,f⟩
        have bv:=od1 bC bv
        refine Aa ?_
        have⟨bD,bE,am⟩:=bind_some am
        refine AF (λa w=>∃j_513':LI,bD= .inl j_513'∧∃bF:LI,bF=j_513'∧∃(bG:GH) (bH:Itm),GLe bA bG∧Fr a 148 [(0,v0),(1,(iv ae)),(2,(iv af)),(3,(iv aP)),(4,(.func (.func 117) #[] #[])),(10,(.bool ah)),(11,(.bool ai)),(12,(iv (i64.wrap (af-ae)))),(13,(iv bg))]∧Mem W bG w (bH::H)∧Ow (RI .u32) 76 bG bH v0 bF) ?_ ?_
        ·rcases Ad bE with⟨bI,bE⟩|⟨bI,bE⟩
         ·refine Ak f Z bI ?_
          refine Ae ?_
          refine Ab f Z λa f=>Ab f Z λa f=>Ab f Z λa f=>Ab f Z λa f=> ?_
          have⟨bJ,bK,bE⟩:=bind_some bE
          refine Av f Z call185 (Wk.L1 hW m bv bK) λbL bM bN w bO m bP a f=> ?_
          obtain⟨bQ,rfl,rfl,bR⟩:=bP
          refine Aa ?_
          rcases Ad bE with⟨bS,bE⟩|⟨bS,bE⟩
          ·refine Ak f Z bS ?_
           refine Ap ?_
           obtain rfl:=sj bE
           obtain rfl:=sj am
           obtain rfl:=an _ rfl
           obtain rfl:=sj hd
           exact⟨[],trivial,f.d,_,[bQ],(gt ao (gt a2 (gt a9 (gt bu (gt bz (gt bC bO)))))),m,_,Z,bR⟩
          ·refine Ai f Z bS ?_
           refine Al ?_
           obtain rfl:=sj bE
           exact⟨_,Z,_,Z,_,bQ,bO,f.k Z,m,bR⟩
         ·refine Ai f Z bI ?_
          refine Al ?_
          obtain rfl:=sj bE
          exact⟨_,Z,_,Z,_,bj,gr,f.k Z,m,bv⟩
        ·rintro a w ⟨_,rfl,bF,rfl,bG,bH,bT,f,m,bU⟩
         refine Af (Af ?_)
         refine A3 17 Ay (by kernel_rfl) m ?_
         refine Ag 0 17 Z f Z λa f=>q_p 1 17 Z f (λ_=>AA (f.e Z) (f.e Z) Ce) λa f=>Ag 2 17 Z f Z λa f=> ?_
         have⟨bV,bW,am⟩:=bind_some am
         refine BZ (fuel':=0) (listed':= #[true,true,true,true,true,true,true,true,true,true,true,true,true,true,true,true,true]) (λa=>Fr a 148 [(0,v0),(1,(iv ae)),(2,(iv af)),(3,(iv aP)),(4,(.func (.func 117) #[] #[])),(10,(.bool ah)),(11,(.bool ai)),(12,(iv (i64.wrap (af-ae)))),(13,(iv bg)),(81,(iv ae)),(82,(.bool (decide ((0:Int)<ae)))),(83,(.bool (decide ((0:Int)<ae)))),(97,(.bool bV))]) ?_ ?_
         ·intro a f
          refine AK λbX w bY m=> ?_
          have bU:=od1 bY bU
          refine Aa ?_
          rcases Ad am with⟨bZ,am⟩|⟨bZ,am⟩
          ·refine Ak f Z bZ ?_
           refine Ae ?_
           refine Ab f Z λa f=>Ab f Z λa f=>Ab f Z λa f=>Ab f Z λa f=>Ab f Z λa f=> ?_
           have⟨b0,b1,am⟩:=bind_some am
           refine Av f Z call186 (Wk.X1 hW m bU b1) λb2 b3 b4 w b5 m b6 a f=> ?_
           obtain⟨b7,rfl,rfl,b8⟩:=b6
           refine Ac f Z λa f=>Au ?_
           refine Ab f Z λa f=>Ac f Z λa f=>Aa ?_
           refine Ax Z ?_
           obtain rfl:=sj am
           exact⟨_,Z,_,_,_,_,_,_,Z,_,b7,(gt ao (gt a2 (gt a9 (gt bu (gt bz (gt bC (gt bT (gt bY b5)))))))),f.k Z,m,b8⟩
          ·refine Ai f Z bZ ?_
           refine Al ?_
           refine Ae ?_
           refine Ab f Z λa f=>Ab f Z λa f=>Ab f Z λa f=>Ab f Z λa f=>Ab f Z λa f=> ?_
           have⟨b9,ca,am⟩:=bind_some am
           refine Av f Z call187 (Wk.Z1 hW m bU ca) λcb cc cd w ce m cf a f=> ?_
           obtain⟨cg,rfl,rfl,ch⟩:=cf
           refine Ab f Z λa f=>l_o f (A7 (f.e Z) Z) λa f=>l_o f (A7 (f.e Z) Z) λa f=>Ac f Z λa f=>Ac f Z λa f=>Au ?_
           refine Ab f Z λa f=>Ac f Z λa f=>Au ?_
           refine Ab f Z λa f=>Ab f Z λa f=>Ah f Z Z AO λa f=>Ab f Z λa f=>Ab f Z λa f=>Ah f Z Z AO λa f=>Ac f Z λa f=>Ac f Z λa f=>Au ?_
           refine Ab f Z λa f=>Ah f Z Z (Dl Z) λa f=>Ac f Z λa f=>Au ?_
           refine Ab f Z λa f=>Ab f Z λa f=>Ah f Z Z AH λa f=>Aa ?_
           rcases Ad am with⟨ci,am⟩|⟨ci,am⟩
           ·refine Ak f Z ci ?_
            refine Ae ?_
            refine Ab f Z λa f=>Ab f Z λa f=>Ah f Z Z BT λa f=>Ac f Z λa f=>Au ?_
            refine Ab f Z λa f=>Ab f Z λa f=>Ab f Z λa f=>Ab f Z λa f=>Ab f Z λa f=> ?_
            have⟨cj,ck,am⟩:=bind_some am
            refine Av f Z call152 (ih m ch ck) λcl cm cn w co m cp a f=> ?_
            obtain⟨cq,rfl,cr⟩:=cp
            refine Aa (Am ?_)
            refine Ab f Z λa f=>Ah f Z Z Ar λa f=>Ac f Z λa f=>Aa ?_
            obtain rfl:=sj am
            exact⟨_,Z,_,_,_,_,_,_,Z,_,cq,(gt ao (gt a2 (gt a9 (gt bu (gt bz (gt bC (gt bT (gt bY (gt ce co))))))))),f.k Z,m,cr⟩
           ·refine Ai f Z ci ?_
            refine Ae ?_
            refine Ab f Z λa f=>Ab f Z λa f=>Ah f Z Z BT λa f=>Ac f Z λa f=>Au ?_
            refine Ab f Z λa f=>Ab f Z λa f=>Ah f Z Z Ar λa f=>Ab f Z λa f=>Ab f Z λa f=>Ab f Z λa f=> ?_
            have⟨cs,ct,am⟩:=bind_some am
            refine Av f Z call152 (ih m ch ct) λcu cv cw w cx m cy a f=> ?_
            obtain⟨cz,rfl,cA⟩:=cy
            refine Aa (Am ?_)
            refine Ab f Z λa f=>Ac f Z λa f=>Aa ?_
            obtain rfl:=sj am
            exact⟨_,Z,_,_,_,_,_,_,Z,_,cz,(gt ao (gt a2 (gt a9 (gt bu (gt bz (gt bC (gt bT (gt bY (gt ce cx))))))))),f.k Z,m,cA⟩
         ·intro cB
          rcases Ad bW with⟨cC,bW⟩|⟨cC,bW⟩
          ·refine Ag (hw:=wo f cC) 3 17 Z f Z λa f=> ?_
           refine Ag (hw:=wo f cC) 4 17 Z f Z λa f=>Ag (hw:=wo f cC) 5 17 Z f Z λa f=>q_p (hw:=wo f cC) 6 17 Z f (λ_=>AA (f.e Z) (f.e Z) AO) λa f=> ?_
           have⟨cD,cE,bW⟩:=bind_some bW
           refine AG (hw:=wo f cC) 7 17 0 m bU T71 cE Z f Z Z λcF a cG f=>AR (hw:=wo f cC) 8 17 0 bU Bg cG cE Z f Z λcH a cI f=> ?_
           subst cI
           refine Ag (hw:=wo f cC) 9 17 Z f Z λa f=>Ag (hw:=wo f cC) 10 17 Z f Z λa f=> ?_
           have⟨cJ,cK,bW⟩:=bind_some bW
           refine AG (hw:=wo f cC) 11 17 0 m bU T71 cK Z f Z Z λcL a cM f=>AR (hw:=wo f cC) 12 17 0 bU Bg cM cK Z f Z λcN a cO f=> ?_
           subst cO
           have⟨cP,cQ,bW⟩:=bind_some bW
           refine BG (i:=13) 17 Z (by kernel_rfl) Z f (Ba f Z Z Z cC) Z Z Z call117 (λ_ _ w cR m=>Wk.b hW m cQ) λa f=>q_p (hw:=wo f cC) 14 17 Z f (λ_=>AA (f.e Z) (f.e Z) AH) λa f=>q_p (hw:=wo f cC) 15 17 Z f (λ_=>Bj (f.e Z)) λa f=>q_p 16 17 Z f (λ_=>AU (f.e Z) cC (f.e Z)) λa f=> ?_
           obtain rfl:=sj bW
           exact cB _ (f.k Z)
          ·refine Ao 3 17 Z f cC λa f=> ?_
           refine Ao 4 17 Z f cC λa f=>Ao 5 17 Z f cC λa f=>Ao 6 17 Z f cC λa f=>Ao 7 17 Z f cC λa f=>Ao 8 17 Z f cC λa f=>Ao 9 17 Z f cC λa f=>Ao 10 17 Z f cC λa f=>Ao 11 17 Z f cC λa f=>Ao 12 17 Z f cC λa f=>Ao 13 17 Z f cC λa f=>Ao 14 17 Z f cC λa f=>Ao 15 17 Z f cC λa f=>q_p 16 17 Z f (λ_=>AV (f.e Z) cC (f.e Z)) λa f=> ?_
           obtain rfl:=sj bW
           exact cB _ (f.k Z)
theorem Wk.z {v0:Value}{it0:Itm}{x0:LI}{x1 x2 x3:Int}(hW:B5 W)(m:Mem W G w (it0::H))(o0:Ow (RI .u32) 76 G it0 v0 x0){y:(LI)}(hd:D.z x0 x1 x2 x3=some y):
  Calls prog 152 #[v0,(iv x1),(iv x2),(iv x3),(.func (.func 117) #[] #[])] w (Res W G H (λG' Ho _=>∃i0:Itm,Ho=[i0]∧Ow (RI .u32) 76 G' i0 v0 y)):=by
 exact Wk.f0 hW Cf m o0 hd
theorem Wk.V0 {v0:Value}{it0:Itm}{x0:LI}(hW:B5 W)(m:Mem W G w (it0::H))(o0:Ow (RI .u32) 76 G it0 v0 x0){y:(LI)}(hd:D.V0 x0=some y):
  Calls prog 116 #[v0,(.func (.func 117) #[] #[])] w (Res W G H (λG' Ho _=>∃i0:Itm,Ho=[i0]∧Ow (RI .u32) 76 G' i0 v0 y)):=by
 refine As (args:=[v0,(.func (.func 117) #[] #[])]) (N:=14) [] func116 Z Z (lb Z) Z λa f=> ?_
 unfold D.V0 at hd
 refine Ae ?_
 refine Ab f Z λa f=>Bv 0 m o0 Z underlying71 f Z Z λa f=>Ac f Z λa f=>Aa (Am ?_)
 refine Ab f Z λa f=>Ab f Z λa f=>Ab f Z λa f=>l_o f (DA (f.e Z) ⟨_,underlying3⟩ underlying135) λa f=> ?_
 have⟨aa,ab,hd⟩:=bind_some hd
 refine Av f Z call122 (Wk.E m ab) λac ad ae w af m ag a f=> ?_
 obtain⟨rfl,rfl⟩:=ag
 have o0:=od1 af o0
 refine Ab f Z λa f=> ?_
 have⟨ah,ai,hd⟩:=bind_some hd
 refine Av f Z call152 (Wk.z hW m o0 ai) λaj ak al w am m an a f=> ?_
 obtain⟨ao,rfl,ap⟩:=an
 refine Aa ?_
 obtain rfl:=sj hd
 exact⟨[],trivial,f.d,_,[ao],(gt af am),m,_,Z,ap⟩
theorem Wk.t0 {v0:Value}{x0:LI}(hW:B5 W)(m:Mem W G w (H))(h0:RSl (RI .u32) G v0 x0){y:(LI)}(hd:D.t0 x0=some y):
  Calls prog 49 #[v0] w (Res W G H (λG' Ho v=>∃r0:Value,∃i0:Itm,Ho=[i0]∧r0=v∧Ow (RI .u32) 76 G' i0 r0 y)):=by
 refine As (args:=[v0]) (N:=11) [.tmp 2] func49 Z Z (lb Z) Z λa f=> ?_
 unfold D.t0 at hd
 refine Ae ?_
 refine Ac f Z λa f=>Au ?_
 refine Ab f Z λa f=>Ab f Z λa f=> ?_
 have⟨aa,ab,hd⟩:=bind_some hd
 refine Bf f Z call53 (Wk.r m h0 ab) λac w ad m a f=> ?_
 have h0:=rd1 ad h0
 obtain⟨ae,m,af⟩:=Ow.nil (RI .u32) 76 m
 have⟨ag,ah,hd⟩:=bind_some hd
 refine Av f Z call115 (Wk.B hW m h0 af ah) λai aj ak w al m am a f=> ?_
 obtain⟨an,ao,rfl,rfl,ap⟩:=am
 refine Ac f Z λa f=>Au ?_
 refine Ab f Z λa f=> ?_
 have⟨aq,ar,hd⟩:=bind_some hd
 refine Av f Z call116 (Wk.V0 hW m ap ar) λau av aw w ax m ay a f=> ?_
 obtain⟨az,rfl,aA⟩:=ay
 refine Au ?_
 refine Ab f Z λa f=>Ac f Z λa f=>Aa ?_
 refine Ap ?_
 obtain rfl:=sj hd
 exact⟨[an],f.g Z,f.d,_,[az],(gt ad (gt al ax)),m,_,_,Z,Z,aA⟩
theorem Wk.K {v0:Value}{x0:LI}{x1 x2:Int}(hW:B5 W)(m:Mem W G w (H))(h0:RSl (RI .u32) G v0 x0){y:Int}(hd:D.K x0 x1 x2=some y):
  Calls prog 52 #[v0,(iv x1),(.int .u32 x2)] w (Res W G H (λ_ Ho v=>Ho=[]∧v=(.int .u32 y))):=by
 refine As (args:=[v0,(iv x1),(.int .u32 x2)]) (N:=35) [.tmp 6] func52 Z Z (lb Z) Z λa f=> ?_
 unfold D.K at hd
 refine Ae ?_
 refine Ac f Z λa f=>Au ?_
 refine Ab f Z λa f=> ?_
 have⟨aa,ab,hd⟩:=bind_some hd
 refine Bf f Z call100 (Wk.e m ab) λac w ad m a f=> ?_
 have h0:=rd1 ad h0
 refine Ac f Z λa f=>Aa ?_
 have⟨ae,af,hd⟩:=bind_some hd
 refine Aj ?_
 refine AD (λag a w=>∃ah:Int,ah=ag∧∃(ai:GH),GLe ac ai∧Fr a 35 [(0,v0),(2,(.int .u32 x2)),(7,(.int .u32 ah))]∧Mem W ai w (H)) af ⟨_,Z,_,gr,f.k Z,m⟩ ?_
 clear af f m
 rintro ag aj ak al a w ⟨ah,rfl,ai,am,f,m⟩
 have h0:=rd1 am h0
 refine Aj (Ae ?_)
 refine Ab f Z λa f=>Ac f Z λa f=>Aa (Af (Ae ?_))
 refine Ab f Z λa f=> ?_
 have⟨an,ao,ak⟩:=bind_some ak
 refine Av f Z call103 (Wk.l hW m ao) λap aq ar w au m av a f=> ?_
 obtain⟨aw,ax,rfl,rfl,ay⟩:=av
 have h0:=rd1 au h0
 refine Bv 0 m ay Z underlying94 f Z Z λa f=>Ab f Z λa f=>Aa ?_
 have⟨az,aA,ak⟩:=bind_some ak
 refine AF (λa w=>∃aB:Int,aB=az∧∃(aC:GH),GLe aq aC∧Fr a 35 [(0,v0),(2,(.int .u32 x2)),(7,(.int .u32 ah)),(8,(.int .u32 aB))]∧Mem W aC w (H)) ?_ ?_
 ·refine Aj ?_
  refine AD (λaD a w=>∃aE:Int,∃aF:Int,(aE,aF)=aD∧∃(aG:GH),GLe aq aG∧Fr a 35 [(0,v0),(2,(.int .u32 x2)),(7,(.int .u32 ah)),(8,(.int .u32 aE)),(15,aw),(16,(iv (an.length:Int))),(17,(iv aF))]∧Mem W aG w (ax::H)) aA ⟨_,_,Z,_,gr,f.k Z,m⟩ ?_
  clear aA f m
  rintro aD aH aI aJ a w ⟨aE,aF,rfl,aG,aK,f,m⟩
  have h0:=rd1 aK h0
  have ay:=od1 aK ay
  refine Ae ?_
  refine Ah f Z Z AH λa f=>Aa (Af ?_)
  rcases Ad aI with⟨aL,aI⟩|⟨aL,aI⟩
  ·refine Ak f Z aL ?_
   refine Al ?_
   refine Af (Aj (Ae ?_))
   have⟨aM,aN,aI⟩:=bind_some aI
   refine A6 0 m ay Z T94 f Z Z Z aN λaO a aP f=>BU 0 m ay Z Pl3 f Z Z aP aN λaQ a aR f=> ?_
   subst aR
   refine Ac f Z λa f=>Aa (Am ?_)
   refine Ab f Z λa f=>Ab f Z λa f=>Ab f Z λa f=> ?_
   have⟨aS,aT,aI⟩:=bind_some aI
   refine Bl T73 f Z Z Z h0 aT λaU aV a aW aX f=> ?_
   subst aX
   refine AM m Bg f Z Z aW λa f=>Ab f Z λa f=>Ah f Z Z Dc λa f=>Ah f Z Z b_or λa f=>Ac f Z λa f=>Aa (Am ?_)
   refine Ah f Z Z Ar λa f=>Ab f Z λa f=>Aa ?_
   obtain rfl:=sj aI
   exact⟨_,Z,_,_,Z,_,aK,f.k Z,m⟩
  ·refine Ai f Z aL ?_
   refine Ax Z ?_
   have m:Mem W aG w H:=Mem.drop (H':=[ax]) m
   obtain rfl:=sj aI
   obtain rfl:=aJ _ rfl
   exact⟨_,Z,_,aK,f.k Z,m⟩
 ·rintro a w ⟨aB,rfl,aC,aY,f,m⟩
  refine Af (Ae ?_)
  refine Ab f Z λa f=>Ab f Z λa f=>Ah f Z Z Bq λa f=>Aa ?_
  rcases Ad ak with⟨aZ,ak⟩|⟨aZ,ak⟩
  ·refine Ak f Z aZ ?_
   refine Ae ?_
   refine Ab f Z λa f=>Ac f Z λa f=>Aa ?_
   refine Ap ?_
   obtain rfl:=sj ak
   obtain rfl:=al _ rfl
   obtain rfl:=sj hd
   exact⟨[(.int .u32 ah)],f.g Z,f.d,_,[],(gt ad (gt am (gt au aY))),m,Z,Z⟩
  ·refine Ai f Z aZ ?_
   refine Al ?_
   refine Am ?_
   refine Ab f Z λa f=>Ac f Z λa f=>Aa ?_
   obtain rfl:=sj ak
   exact⟨_,Z,_,Z,_,(gt am (gt au aY)),f.k Z,m⟩
theorem Wk.j {x0 x1:Int}(m:Mem W G w (H)){y:Bool}(hd:D.j x0 x1=some y):
  Calls prog 54 #[(.int .u32 x0),(iv x1)] w (Res W G H (λ_ Ho v=>Ho=[]∧v=(.bool y))):=by
 refine As (args:=[(.int .u32 x0),(iv x1)]) (N:=10) [.tmp 4] func54 Z Z (lb Z) Z λa f=> ?_
 unfold D.j at hd
 refine Ae ?_
 refine Ac f Z λa f=>Au ?_
 refine Ab f Z λa f=>Ab f Z λa f=> ?_
 obtain⟨aa,hd⟩:=D3 hd
 refine l_o f (ER (f.e Z) (f.e Z) aa) λa f=>Ah f Z Z Dc λa f=>Ah f Z Z Bq λa f=>Ac f Z λa f=>Aa ?_
 refine Ap ?_
 obtain rfl:=sj hd
 exact⟨[(.bool ((iand .u32 (BN .u32 x0 x1) 1)==1))],f.g Z,f.d,_,[],gr,m,Z,Z⟩
theorem Wk.L {v0:Value}{it0:Itm}{x0:LI}{x1 x2:Int}(m:Mem W G w (it0::H))(o0:Ow (RI .u32) 76 G it0 v0 x0){y:(LI)}(hd:D.L x0 x1 x2=some y):
  Calls prog 55 #[v0,(iv x1),(iv x2)] w (Res W G H (λG' Ho _=>∃i0:Itm,Ho=[i0]∧Ow (RI .u32) 76 G' i0 v0 y)):=by
 refine As (args:=[v0,(iv x1),(iv x2)]) (N:=22) [] func55 Z Z (lb Z) Z λa f=> ?_
 unfold D.L at hd
 refine Af ?_
 refine A3 8 Ay (by kernel_rfl) m ?_
 refine Ag 0 8 Z f Z λa f=>Ag 1 8 Z f Z λa f=> ?_
 have⟨aa,ab,hd⟩:=bind_some hd
 refine AG 2 8 0 m o0 T73 ab Z f Z Z λac a ad f=>AR 3 8 0 o0 Bg ad ab Z f Z λae a af f=> ?_
 subst af
 refine Ag 4 8 Z f Z λa f=> ?_
 have⟨ag,ah,hd⟩:=bind_some hd
 refine BX (i:=5) 8 Z (by kernel_rfl) Z f Z Z Z call100 (λ_ _ w ai m=>Wk.e m ah) λa f=>q_p 6 8 Z f (λ_=>AA (f.e Z) (f.e Z) b_or) λa f=> ?_
 have⟨aj,ak,hd⟩:=bind_some hd
 refine AG 7 8 0 m o0 T73 ak Z f Z Z λal a am f=>AK λan w ao m=> ?_
 have o0:=od1 ao o0
 refine Aw 0 m o0 Z sizeOf76 f Z Z am ak Z Z Z λap w m aq=>Aa ?_
 refine A3 8 Ay (by kernel_rfl) m ?_
 refine Ag 0 8 Z f Z λa f=>Ag 1 8 Z f Z λa f=> ?_
 have⟨ar,au,hd⟩:=bind_some hd
 refine AG 2 8 0 m aq T73 au Z f Z Z λav a aw f=>AR 3 8 0 aq Bg aw au Z f Z λax a ay f=> ?_
 subst ay
 refine Ag 4 8 Z f Z λa f=> ?_
 have⟨az,aA,hd⟩:=bind_some hd
 refine BX (i:=5) 8 Z (by kernel_rfl) Z f Z Z Z call100 (λ_ _ w aB m=>Wk.e m aA) λa f=>q_p 6 8 Z f (λ_=>AA (f.e Z) (f.e Z) b_or) λa f=> ?_
 have⟨aC,aD,hd⟩:=bind_some hd
 refine AG 7 8 0 m aq T73 aD Z f Z Z λaE a aF f=>AK λaG w aH m=> ?_
 have aq:=od1 aH aq
 refine Aw 0 m aq Z sizeOf76 f Z Z aF aD Z Z Z λaI w m aJ=>Aa ?_
 obtain rfl:=sj hd
 exact⟨[],trivial,f.d,_,[aI],(gt ao aH),m,_,Z,aJ⟩
theorem Wk.R {x0 x1:Int}(m:Mem W G w (H)){y:(LI)}(hd:D.R x0 x1=some y):
  Calls prog 56 #[(iv x0),(iv x1)] w (Res W G H (λG' Ho v=>∃r0:Value,∃i0:Itm,Ho=[i0]∧r0=v∧Ow R0 2 G' i0 r0 y)):=by
 refine As (args:=[(iv x0),(iv x1)]) (N:=12) [.tmp 4] func56 Z Z (lb Z) Z λa f=> ?_
 unfold D.R at hd
 refine Ae ?_
 refine Ac f Z λa f=>Au ?_
 refine Ab f Z λa f=>Ab f Z λa f=>l_o f (r_min2 (f.e Z) (f.e Z)) λa f=>Ab f Z λa f=>Ab f Z λa f=>l_o f (r_max2 (f.e Z) (f.e Z)) λa f=>AY (R:=R0) (xs:=([(if x1<x0 then x1 else x0),(if x0<x1 then x1 else x0)]:LI)) (RI.one _) m T42 f Z Z Z (by decide) (All2.cons Z (All2.cons Z (All2.nil _))) λaa ab w a m ac f=>Ac f Z λa f=>Aa ?_
 refine Ap ?_
 obtain rfl:=sj hd
 exact⟨[ab],f.g Z,f.d,_,[aa],gr,m,_,_,Z,Z,ac⟩
theorem Wk.u1 {v0:Value}{x0:LI}(m:Mem W G w (H))(h0:R1 G v0 x0){y:(LI)}(hd:D.u1 x0=some y):
  Calls prog 107 #[v0] w (Res W G H (λG' Ho v=>∃r0:Value,∃i0:Itm,Ho=[i0]∧r0=v∧Ow R0 2 G' i0 r0 y)):=by
 refine As (args:=[v0]) (N:=21) [.tmp 2] func107 Z Z (lb Z) Z λa f=> ?_
 unfold D.u1 at hd
 refine Ae ?_
 refine Ac f Z λa f=>Au ?_
 refine Ab f Z λa f=>A5 underlying94 f Z Z h0 λa f=> ?_
 have⟨aa,ab,hd⟩:=bind_some hd
 refine E8 (R:=R0) m T42 Z (by decide) Z f Z Z Z ab λac ad w a m ae f=>Ac f Z λa f=>Aa (Af (Ae ?_))
 refine Ab f Z λa f=>A5 underlying94 f Z Z h0 λa f=>Ab f Z λa f=>Aa ?_
 have⟨af,ag,hd⟩:=bind_some hd
 refine AF (λa w=>∃ah:LI,ah=af∧∃(ai:GH) (aj:Value) (ak:Itm),GLe G ai∧Fr a 21 [(3,aj)]∧Mem W ai w (ak::H)∧Ow R0 2 ai ak aj ah) ?_ ?_
 ·refine Aj ?_
  refine AD (λal a w=>∃am:LI,∃an:Int,(am,an)=al∧∃(ao:GH) (ap:Value) (aq:Itm),GLe G ao∧Fr a 21 [(3,ap),(9,v0),(10,(iv (x0.length:Int))),(11,(iv an))]∧Mem W ao w (aq::H)∧Ow R0 2 ao aq ap am) ag ⟨_,_,Z,_,ad,ac,gr,f.k Z,m,ae⟩ ?_
  clear ag f m
  rintro al ar au av a w ⟨am,an,rfl,ao,ap,aq,aw,f,m,ax⟩
  have h0:=rd1 aw h0
  refine Ae ?_
  refine Ah f Z Z AH λa f=>Aa (Af ?_)
  rcases Ad au with⟨ay,au⟩|⟨ay,au⟩
  ·refine Ak f Z ay ?_
   refine Al ?_
   refine Af (Aj (Ae ?_))
   have⟨az,aA,au⟩:=bind_some au
   refine Bl T94 f Z Z Z h0 aA λaB aC a aD aE f=> ?_
   subst aE
   refine AM m Pl3 f Z Z aD λa f=>Ac f Z λa f=>Aa (Am ?_)
   refine Ab f Z λa f=>Ab f Z λa f=>AY (R:=R0) (xs:=([az]:LI)) (RI.one _) m T42 f Z Z Z (by decide) (All2.cons Z (All2.nil _)) λaF aG w a m aH f=> ?_
   have⟨aI,aJ,au⟩:=bind_some au
   refine Bh (RI.one _) 1 m ax Z T42 Z (by decide) f Z Z Z (Ow.src (j:=0) aH m Z) aJ λaK aL w a m aM f=>Ac f Z λa f=>Aa (Am ?_)
   refine Ah f Z Z Ar λa f=>Ab f Z λa f=>Aa ?_
   have m:=m.fr 1
   have m:=m.eraseAt 1
   obtain rfl:=sj au
   exact⟨_,Z,_,_,Z,_,aL,aK,aw,f.k Z,m,aM⟩
  ·refine Ai f Z ay ?_
   refine Ax Z ?_
   obtain rfl:=sj au
   obtain rfl:=av _ rfl
   exact⟨_,Z,_,ap,aq,aw,f.k Z,m,ax⟩
 ·rintro a w ⟨ah,rfl,ai,aj,ak,aN,f,m,aO⟩
  refine Ae ?_
  refine Ab f Z λa f=>Ac f Z λa f=>Aa ?_
  refine Ap ?_
  obtain rfl:=sj hd
  exact⟨[aj],f.g Z,f.d,_,[ak],aN,m,_,_,Z,Z,aO⟩
theorem Wk.J0 {x0:Int}(hW:B5 W)(m:Mem W G w (H)){y:(LI)}(hd:D.J0 x0=some y):
  Calls prog 124 #[(.int .u32 x0)] w (Res W G H (λG' Ho v=>∃r0:Value,∃i0:Itm,Ho=[i0]∧r0=v∧Ow R0 2 G' i0 r0 y)):=by
 refine As (args:=[(.int .u32 x0)]) (N:=6) [.tmp 2] func124 Z Z (lb Z) Z λa f=> ?_
 unfold D.J0 at hd
 refine Ae ?_
 refine Ac f Z λa f=>Au ?_
 refine Ab f Z λa f=> ?_
 have⟨aa,ab,hd⟩:=bind_some hd
 refine Av f Z call103 (Wk.l hW m ab) λac ad ae w af m ag a f=> ?_
 obtain⟨ah,ai,rfl,rfl,aj⟩:=ag
 have⟨ak,al,hd⟩:=bind_some hd
 refine Av f Z call107 (Ow.lendCall (RI.mono _) 0 aj m Z (λam an m ao=>Wk.u1 m ao al) (λ_ G' _ _ ⟨a0,a1,e1,e2,o0⟩=>⟨a0,a1,e1,e2,Ow.free (RI.free _) G' o0⟩)) λap aq ar w au m av a f=> ?_
 obtain⟨aw,ax,rfl,rfl,ay⟩:=av
 refine Ac f Z λa f=>Aa ?_
 refine Ap ?_
 have m:=m.eraseAt 1
 obtain rfl:=sj hd
 exact⟨[aw],f.g Z,f.d,_,[ax],(gt af au),m,_,_,Z,Z,ay⟩
theorem Wk.Y {v0:Value}{x0:LI}(hW:B5 W)(m:Mem W G w (H))(h0:RSl (RI .u32) G v0 x0){y:(LL)}(hd:D.Y x0=some y):
  Calls prog 59 #[v0] w (Res W G H (λG' Ho v=>∃r0:Value,∃i0:Itm,Ho=[i0]∧r0=v∧Ow2 R0 42 2 G' i0 r0 y)):=by
 refine As (args:=[v0]) (N:=20) [.tmp 2] func59 Z Z (lb Z) Z λa f=> ?_
 unfold D.Y at hd
 refine Ae ?_
 refine Ac f Z λa f=>Au ?_
 refine AY (R:=RawS) (xs:=[]) RawS.one m T22 f Z Z Z (by decide) (All2.nil _) λaa ab w a m ac f=> ?_
 obtain⟨ad,m,ae⟩:=Ow2.of_empty R0 2 m ac
 refine Ac f Z λa f=>Aa (Af (Ae ?_))
 refine Ab f Z λa f=>A5 underlying71 f Z Z h0 λa f=>Ab f Z λa f=>Aa ?_
 have⟨af,ag,hd⟩:=bind_some hd
 refine AF (λa w=>∃ah:LL,ah=af∧∃(ai:GH) (aj:Value) (ak:Itm),GLe G ai∧Fr a 20 [(3,aj)]∧Mem W ai w (ak::H)∧Ow2 R0 42 2 ai ak aj ah) ?_ ?_
 ·refine Aj ?_
  refine AD (λal a w=>∃am:LL,∃an:Int,(am,an)=al∧∃(ao:GH) (ap:Value) (aq:Itm),GLe G ao∧Fr a 20 [(3,ap),(7,v0),(8,(iv (x0.length:Int))),(9,(iv an))]∧Mem W ao w (aq::H)∧Ow2 R0 42 2 ao aq ap am) ag ⟨_,_,Z,_,ab,ad,gr,f.k Z,m,ae⟩ ?_
  clear ag f m
  rintro al ar au av a w ⟨am,an,rfl,ao,ap,aq,aw,f,m,ax⟩
  have h0:=rd1 aw h0
  refine Ae ?_
  refine Ah f Z Z AH λa f=>Aa (Af ?_)
  rcases Ad au with⟨ay,au⟩|⟨ay,au⟩
  ·refine Ak f Z ay ?_
   refine Al ?_
   refine Af (Aj (Ae ?_))
   have⟨az,aA,au⟩:=bind_some au
   refine Bl T71 f Z Z Z h0 aA λaB aC a aD aE f=> ?_
   subst aE
   refine AM m Bg f Z Z aD λa f=>Ac f Z λa f=>Aa (Am ?_)
   refine Ab f Z λa f=>Ab f Z λa f=> ?_
   have⟨aF,aG,au⟩:=bind_some au
   refine Av f Z call124 (Wk.J0 hW m aG) λaH aI aJ w aK m aL a f=> ?_
   obtain⟨aM,aN,rfl,rfl,aO⟩:=aL
   have ax:=od2 aK ax
   refine AY (R:=RawS) (xs:=[aM]) RawS.one m T22 f Z Z Z (by decide) (All2.cons ⟨Z,Ow.one1 0 m aO Z,Ow.cells 0 m aO Z⟩ (All2.nil _)) λaP aQ w a m aR f=> ?_
   have m:=m.fr 1
   have m:=m.fr 2
   have⟨aS,aT,au⟩:=bind_some au
   refine EW m ax aO aR T22 Z (by decide) f Z Z Z aT λaU aV w a m aW f=>Ac f Z λa f=>Aa (Am ?_)
   refine Ah f Z Z Ar λa f=>Ab f Z λa f=>Aa ?_
   obtain rfl:=sj au
   exact⟨_,Z,_,_,Z,_,aV,aU,(gt aw aK),f.k Z,m,aW⟩
  ·refine Ai f Z ay ?_
   refine Ax Z ?_
   obtain rfl:=sj au
   obtain rfl:=av _ rfl
   exact⟨_,Z,_,ap,aq,aw,f.k Z,m,ax⟩
 ·rintro a w ⟨ah,rfl,ai,aj,ak,aX,f,m,aY⟩
  refine Ae ?_
  refine Ab f Z λa f=>Ac f Z λa f=>Aa ?_
  refine Ap ?_
  obtain rfl:=sj hd
  exact⟨[aj],f.g Z,f.d,_,[ak],aX,m,_,_,Z,Z,aY⟩
theorem Wk.F1 {v0:Value}{it0:Itm}{x0:(List (Value×LI))}{x1 x2:Int}(m:Mem W G w (it0::H))(o0:Ow (RTg R0) 42 G it0 v0 x0){y:((List (Value×LI)))}(hd:D.F1 x0 x1 x2=some y):
  Calls prog 154 #[v0,(iv x1),(iv x2),(.func (.func 58) #[] #[])] w (Res W G H (λG' Ho _=>∃i0:Itm,Ho=[i0]∧Ow (RTg R0) 42 G' i0 v0 y)):=by
 refine As (args:=[v0,(iv x1),(iv x2),(.func (.func 58) #[] #[])]) (N:=53) [] func154 Z Z (lb Z) Z λa f=> ?_
 unfold D.F1 at hd
 refine Ae ?_
 refine Ab f Z λa f=>Ah f Z Z Ar λa f=>Ac f Z λa f=>Aa ?_
 have⟨aa,ab,hd⟩:=bind_some hd
 refine AF (λa w=>∃ac:List (Value×LI),ac=aa∧∃(ad:GH) (ae:Itm),GLe G ad∧Fr a 53 []∧Mem W ad w (ae::H)∧Ow (RTg R0) 42 ad ae v0 ac) ?_ ?_
 ·refine Aj ?_
  refine AD (λaf a w=>∃ag:List (Value×LI),∃ah:Int,(ag,ah)=af∧∃(ai:GH) (aj:Itm),GLe G ai∧Fr a 53 [(0,v0),(1,(iv x1)),(2,(iv x2)),(3,(.func (.func 58) #[] #[])),(8,(iv ah))]∧Mem W ai w (aj::H)∧Ow (RTg R0) 42 ai aj v0 ag) ab ⟨_,_,Z,_,it0,gr,f.k Z,m,o0⟩ ?_
  clear ab f m
  rintro af ak al am a w ⟨ag,ah,rfl,ai,aj,an,f,m,ao⟩
  refine Af (Ae ?_)
  refine Ab f Z λa f=>Ab f Z λa f=>Ah f Z Z AH λa f=>Aa ?_
  rcases Ad al with⟨ap,al⟩|⟨ap,al⟩
  ·refine Ak f Z ap ?_
   refine Al ?_
   refine Af (Aj (Ae ?_))
   refine Ab f Z λa f=>Ac f Z λa f=>Aa ?_
   have⟨aq,ar,al⟩:=bind_some al
   refine AF (λa w=>∃au:List (Value×LI),au=aq∧∃(av:GH) (aw:Itm),GLe ai av∧Fr a 53 [(0,v0),(1,(iv x1)),(2,(iv x2)),(3,(.func (.func 58) #[] #[])),(8,(iv ah))]∧Mem W av w (aw::H)∧Ow (RTg R0) 42 av aw v0 au) ?_ ?_
   ·refine Aj ?_
    refine AD (λax a w=>∃ay:List (Value×LI),∃az:Int,(ay,az)=ax∧∃(aA:GH) (aB:Itm),GLe ai aA∧Fr a 53 [(0,v0),(1,(iv x1)),(2,(iv x2)),(3,(.func (.func 58) #[] #[])),(8,(iv ah)),(9,(iv az))]∧Mem W aA w (aB::H)∧Ow (RTg R0) 42 aA aB v0 ay) ar ⟨_,_,Z,_,aj,gr,f.k Z,m,ao⟩ ?_
    clear ar f m
    rintro ax aC aD aE a w ⟨ay,az,rfl,aA,aB,aF,f,m,aG⟩
    refine Af (Af ?_)
    refine A3 17 Ay (by kernel_rfl) m ?_
    refine Ag 0 17 Z f Z λa f=>Ag 1 17 Z f Z λa f=>q_p 2 17 Z f (λ_=>AA (f.e Z) (f.e Z) Ce) λa f=>Ag 3 17 Z f Z λa f=> ?_
    have⟨aH,aI,aD⟩:=bind_some aD
    refine BZ (fuel':=0) (listed':= #[true,true,true,true,true,true,true,true,true,true,true,true,true,true,true,true,true]) (λa=>Fr a 53 [(0,v0),(1,(iv x1)),(2,(iv x2)),(3,(.func (.func 58) #[] #[])),(8,(iv ah)),(9,(iv az)),(18,(iv az)),(19,(iv x1)),(20,(.bool (decide (x1<az)))),(21,(.bool (decide (x1<az)))),(34,(.bool aH))]) ?_ ?_
    ·intro a f
     refine AK λaJ w aK m=> ?_
     have aG:=Ow.mono (RTg.mono (RI.mono _)) aK aG
     refine Aa ?_
     rcases Ad aD with⟨aL,aD⟩|⟨aL,aD⟩
     ·refine Ak f Z aL ?_
      refine Al ?_
      refine Af (Aj ?_)
      refine BC Ay m ?_
      refine p_p 2 Z f (λ_=>A4 (f.e Z)) λa f=>p_p 3 Z f (λ_=>A4 (f.e Z)) λa f=>p_p 4 Z f (λ_=>AA (f.e Z) (f.e Z) AO) λa f=>BD 28015 12 (by kernel_rfl) Z ?_
      refine Ag 0 28015 Z f Z λa f=>Ag 1 28015 Z f Z λa f=>Ag 5 28015 Z f Z λa f=>Ag 6 28015 Z f Z λa f=>q_p 7 28015 Z f (λ_=>AA (f.e Z) (f.e Z) AO) λa f=> ?_
      have⟨aM,aN,aD⟩:=bind_some aD
      refine AG 8 28015 0 m aG T22 aN Z f Z Z λaO a aP f=>AR 9 28015 0 aG AZ aP aN Z f Z λaQ a aR f=>Ag 10 28015 Z f Z λa f=>Ag 11 28015 Z f Z λa f=> ?_
      have⟨aS,aT,aD⟩:=bind_some aD
      refine AG 12 28015 0 m aG T22 aT Z f Z Z λaU a aV f=>AR 13 28015 0 aG AZ aV aT Z f Z λaW a aX f=> ?_
      have⟨aY,aZ,aD⟩:=bind_some aD
      refine AG 14 28015 0 m aG T22 aZ Z f Z Z λa0 a a1 f=>AK λa2 w a3 m=> ?_
      have aR:=(RTg.mono (RI.mono _)) _ _ _ _ a3 aR
      have aX:=(RTg.mono (RI.mono _)) _ _ _ _ a3 aX
      have aG:=Ow.mono (RTg.mono (RI.mono _)) a3 aG
      refine Aw 0 m aG Z sizeOf42 f Z Z a1 aZ aR.cells aR.one1 aR λa4 w m a5=> ?_
      have⟨a6,a7,aD⟩:=bind_some aD
      refine A6 0 m a5 Z T22 f Z Z Z a7 λa8 a a9 f=>Aw 0 m a5 Z sizeOf42 f Z Z a9 a7 aX.cells aX.one1 aX λba w m bb=>Aa (Am ?_)
      refine Ab f Z λa f=>Ah f Z Z AO λa f=>Ac f Z λa f=>Aa ?_
      obtain rfl:=sj aD
      exact⟨_,Z,_,_,Z,_,ba,(gt aF (gt aK a3)),f.k Z,m,bb⟩
     ·refine Ai f Z aL ?_
      refine Ax Z ?_
      obtain rfl:=sj aD
      obtain rfl:=aE _ rfl
      exact⟨_,Z,_,aB,(gt aF aK),f.k Z,m,aG⟩
    ·intro bc
     rcases Ad aI with⟨bd,aI⟩|⟨bd,aI⟩
     ·refine Ag (hw:=wo f bd) 4 17 Z f Z λa f=> ?_
      refine Ag (hw:=wo f bd) 5 17 Z f Z λa f=>Ag (hw:=wo f bd) 6 17 Z f Z λa f=> ?_
      have⟨be,bf,aI⟩:=bind_some aI
      refine AG (hw:=wo f bd) 7 17 0 m aG T22 bf Z f Z Z λbg a bh f=>AR (hw:=wo f bd) 8 17 0 aG AZ bh bf Z f Z λbi a bj f=>Ag (hw:=wo f bd) 9 17 Z f Z λa f=>Ag (hw:=wo f bd) 10 17 Z f Z λa f=>q_p (hw:=wo f bd) 11 17 Z f (λ_=>AA (f.e Z) (f.e Z) AO) λa f=> ?_
      have⟨bk,bl,aI⟩:=bind_some aI
      refine AG (hw:=wo f bd) 12 17 0 m aG T22 bl Z f Z Z λbm a bn f=>AR (hw:=wo f bd) 13 17 0 aG AZ bn bl Z f Z λbo a bp f=> ?_
      have⟨bq,br,aI⟩:=bind_some aI
      refine BG (i:=14) 17 Z (by kernel_rfl) Z f (Ba f Z Z Z bd) Z Z Z call58 (λ_ _ w bs m=>Wk.c m (rd1 bs (bj.2)) (rd1 bs (bp.2)) br) λa f=>q_p (hw:=wo f bd) 15 17 Z f (λ_=>AA (f.e Z) (f.e Z) AH) λa f=>q_p 16 17 Z f (λ_=>AU (f.e Z) bd (f.e Z)) λa f=> ?_
      obtain rfl:=sj aI
      exact bc _ (f.k Z)
     ·refine Ao 4 17 Z f bd λa f=> ?_
      refine Ao 5 17 Z f bd λa f=>Ao 6 17 Z f bd λa f=>Ao 7 17 Z f bd λa f=>Ao 8 17 Z f bd λa f=>Ao 9 17 Z f bd λa f=>Ao 10 17 Z f bd λa f=>Ao 11 17 Z f bd λa f=>Ao 12 17 Z f bd λa f=>Ao 13 17 Z f bd λa f=>Ao 14 17 Z f bd λa f=>Ao 15 17 Z f bd λa f=>q_p 16 17 Z f (λ_=>AV (f.e Z) bd (f.e Z)) λa f=> ?_
      obtain rfl:=sj aI
      exact bc _ (f.k Z)
   ·rintro a w ⟨au,rfl,av,aw,bt,f,m,bu⟩
    refine Am ?_
    refine Ab f Z λa f=>Ah f Z Z Ar λa f=>Ac f Z λa f=>Aa ?_
    obtain rfl:=sj al
    exact⟨_,Z,_,_,Z,_,aw,(gt an bt),f.k Z,m,bu⟩
  ·refine Ai f Z ap ?_
   refine Ax Z ?_
   obtain rfl:=sj al
   obtain rfl:=am _ rfl
   exact⟨_,Z,_,aj,an,f.weak trivial,m,ao⟩
 ·rintro a w ⟨ac,rfl,ad,ae,bv,f,m,bw⟩
  obtain rfl:=sj hd
  exact⟨[],trivial,f.d,_,[ae],bv,m,_,Z,bw⟩
theorem Wk.W0 {v0:Value}{it0:Itm}{x0:(List (Value×LI))}{x1 x2 x3:Int}(m:Mem W G w (it0::H))(o0:Ow (RTg R0) 42 G it0 v0 x0){y:((List (Value×LI)))}(hd:D.W0 x0 x1 x2 x3=some y):
  Calls prog 189 #[v0,(iv x1),(iv x2),(iv x3),(.func (.func 58) #[] #[])] w (Res W G H (λG' Ho _=>∃i0:Itm,Ho=[i0]∧Ow (RTg R0) 42 G' i0 v0 y)):=by
 refine As (args:=[v0,(iv x1),(iv x2),(iv x3),(.func (.func 58) #[] #[])]) (N:=82) [] func189 Z Z (lb Z) Z λa f=> ?_
 unfold D.W0 at hd
 refine Ae ?_
 refine Ab f Z λa f=>Ac f Z λa f=>Aa ?_
 have⟨aa,ab,hd⟩:=bind_some hd
 refine AF (λa w=>∃q_182':(List (Value×LI)),aa= .inl q_182'∧∃ac:List (Value×LI),ac=q_182'∧∃(ad:GH) (ae:Itm),GLe G ad∧Fr a 82 []∧Mem W ad w (ae::H)∧Ow (RTg R0) 42 ad ae v0 ac) ?_ ?_
 ·refine Aj ?_
  refine AD (λaf a w=>∃ag:List (Value×LI),∃ah:Int,(ag,ah)=af∧∃(ai:GH) (aj:Itm),GLe G ai∧Fr a 82 [(0,v0),(2,(iv x2)),(3,(iv x3)),(4,(.func (.func 58) #[] #[])),(10,(iv ah))]∧Mem W ai w (aj::H)∧Ow (RTg R0) 42 ai aj v0 ag) ab ⟨_,_,Z,_,it0,gr,f.k Z,m,o0⟩ ?_
  clear ab f m
  rintro af ak al am a w ⟨ag,ah,rfl,ai,aj,an,f,m,ao⟩
  refine Aj (Ae ?_)
  refine Ab f Z λa f=>Ah f Z Z CX λa f=>Ah f Z Z Ar λa f=>Ac f Z λa f=>Aa (Af (Ae ?_))
  refine Ab f Z λa f=>Ab f Z λa f=>Ah f Z Z BT λa f=>Aa ?_
  rcases Ad al with⟨ap,al⟩|⟨ap,al⟩
  ·refine Ak f Z ap ?_
   refine Ax Z ?_
   obtain rfl:=sj al
   obtain rfl:=am _ rfl
   exact⟨_,Z,_,Z,_,aj,an,f.weak trivial,m,ao⟩
  ·refine Ai f Z ap ?_
   refine Al ?_
   refine Af (Af ?_)
   refine A3 22 Ay (by kernel_rfl) m ?_
   refine Ag 0 22 Z f Z λa f=>q_p 1 22 Z f (λ_=>AA (f.e Z) (f.e Z) Ar) λa f=>Ag 2 22 Z f Z λa f=>q_p 3 22 Z f (λ_=>AA (f.e Z) (f.e Z) AH) λa f=>Ag 4 22 Z f Z λa f=> ?_
   have⟨aq,ar,al⟩:=bind_some al
   refine BZ (fuel':=0) (listed':= #[true,true,true,true,true,true,true,true,true,true,true,true,true,true,true,true,true,true,true,true,true,true]) (λa=>Fr a 82 [(0,v0),(2,(iv x2)),(3,(iv x3)),(4,(.func (.func 58) #[] #[])),(10,(iv ah)),(11,(iv (i64.wrap ((i64.wrap (2*ah))+1)))),(18,(.bool (decide (x2≤(i64.wrap ((i64.wrap (2*ah))+1)))))),(19,(iv (i64.wrap ((i64.wrap (2*ah))+1)))),(20,(iv (i64.wrap ((i64.wrap ((i64.wrap (2*ah))+1))+1)))),(21,(iv x2)),(22,(.bool (decide ((i64.wrap ((i64.wrap ((i64.wrap (2*ah))+1))+1))<x2)))),(23,(.bool (decide ((i64.wrap ((i64.wrap ((i64.wrap (2*ah))+1))+1))<x2)))),(40,(.bool aq))]) ?_ ?_
   ·intro a f
    refine AK λau w av m=> ?_
    have ao:=Ow.mono (RTg.mono (RI.mono _)) av ao
    refine Aa ?_
    have⟨aw,ax,al⟩:=bind_some al
    refine AF (λa w=>∃ay:Int,ay=aw∧∃(az:GH),GLe au az∧Fr a 82 [(0,v0),(2,(iv x2)),(3,(iv x3)),(4,(.func (.func 58) #[] #[])),(10,(iv ah)),(11,(iv ay))]∧Mem W az w (aj::H)) ?_ ?_
    ·rcases Ad ax with⟨aA,ax⟩|⟨aA,ax⟩
     ·refine Ak f Z aA ?_
      refine Am ?_
      refine Ab f Z λa f=>Ah f Z Z Ar λa f=>Ac f Z λa f=>Aa ?_
      obtain rfl:=sj ax
      exact⟨_,Z,_,gr,f.k Z,m⟩
     ·refine Ai f Z aA ?_
      refine Al ?_
      obtain rfl:=sj ax
      exact⟨_,Z,_,gr,f.k Z,m⟩
    ·rintro a w ⟨ay,rfl,az,aB,f,m⟩
     have ao:=Ow.mono (RTg.mono (RI.mono _)) aB ao
     refine Af (Af ?_)
     refine A3 16 Ay (by kernel_rfl) m ?_
     refine Ag 0 16 Z f Z λa f=>Ag 1 16 Z f Z λa f=>Ag 2 16 Z f Z λa f=>Ag 3 16 Z f Z λa f=>q_p 4 16 Z f (λ_=>AA (f.e Z) (f.e Z) Ar) λa f=> ?_
     have⟨aC,aD,al⟩:=bind_some al
     refine AG 5 16 0 m ao T22 aD Z f Z Z λaE a aF f=>AR 6 16 0 ao AZ aF aD Z f Z λaG a aH f=>Ag 7 16 Z f Z λa f=>Ag 8 16 Z f Z λa f=>Ag 9 16 Z f Z λa f=>q_p 10 16 Z f (λ_=>AA (f.e Z) (f.e Z) Ar) λa f=> ?_
     have⟨aI,aJ,al⟩:=bind_some al
     refine AG 11 16 0 m ao T22 aJ Z f Z Z λaK a aL f=>AR 12 16 0 ao AZ aL aJ Z f Z λaM a aN f=> ?_
     have⟨aO,aP,al⟩:=bind_some al
     refine BG (i:=13) 16 Z (by kernel_rfl) Z f Z Z Z Z call58 (λ_ _ w aQ m=>Wk.c m (rd1 aQ (aH.2)) (rd1 aQ (aN.2)) aP) λa f=>q_p 14 16 Z f (λ_=>AA (f.e Z) (f.e Z) AH) λa f=>q_p 15 16 Z f (λ_=>Bj (f.e Z)) λa f=>AK λaR w aS m=> ?_
     have aH:=(RTg.mono (RI.mono _)) _ _ _ _ aS aH
     have aN:=(RTg.mono (RI.mono _)) _ _ _ _ aS aN
     have ao:=Ow.mono (RTg.mono (RI.mono _)) aS ao
     refine Aa ?_
     rcases Ad al with⟨aT,al⟩|⟨aT,al⟩
     ·refine Ak f Z aT ?_
      refine Ap ?_
      obtain rfl:=sj al
      obtain rfl:=am _ rfl
      obtain rfl:=sj hd
      exact⟨[],trivial,f.d,_,[aj],(gt an (gt av (gt aB aS))),m,_,Z,ao⟩
     ·refine Ai f Z aT ?_
      refine Al ?_
      refine Af ?_
      refine BC Ay m ?_
      refine p_p 4 Z f (λ_=>A4 (f.e Z)) λa f=>p_p 5 Z f (λ_=>A4 (f.e Z)) λa f=>p_p 6 Z f (λ_=>A4 (f.e Z)) λa f=>p_p 7 Z f (λ_=>AA (f.e Z) (f.e Z) Ar) λa f=>BD 240021 17 (by kernel_rfl) Z ?_
      refine Ag 0 240021 Z f Z λa f=>Ag 1 240021 Z f Z λa f=>Ag 2 240021 Z f Z λa f=>q_p 3 240021 Z f (λ_=>AA (f.e Z) (f.e Z) Ar) λa f=>Ag 8 240021 Z f Z λa f=>Ag 9 240021 Z f Z λa f=>Ag 10 240021 Z f Z λa f=>q_p 11 240021 Z f (λ_=>AA (f.e Z) (f.e Z) Ar) λa f=> ?_
      have⟨aU,aV,al⟩:=bind_some al
      refine AG 12 240021 0 m ao T22 aV Z f Z Z λaW a aX f=>AR 13 240021 0 ao AZ aX aV Z f Z λaY a aZ f=>Ag 14 240021 Z f Z λa f=>Ag 15 240021 Z f Z λa f=>Ag 16 240021 Z f Z λa f=>q_p 17 240021 Z f (λ_=>AA (f.e Z) (f.e Z) Ar) λa f=> ?_
      have⟨a0,a1,al⟩:=bind_some al
      refine AG 18 240021 0 m ao T22 a1 Z f Z Z λa2 a a3 f=>AR 19 240021 0 ao AZ a3 a1 Z f Z λa4 a a5 f=> ?_
      have⟨a6,a7,al⟩:=bind_some al
      refine AG 20 240021 0 m ao T22 a7 Z f Z Z λa8 a a9 f=>AK λba w bb m=> ?_
      have aZ:=(RTg.mono (RI.mono _)) _ _ _ _ bb aZ
      have a5:=(RTg.mono (RI.mono _)) _ _ _ _ bb a5
      have ao:=Ow.mono (RTg.mono (RI.mono _)) bb ao
      refine Aw 0 m ao Z sizeOf42 f Z Z a9 a7 aZ.cells aZ.one1 aZ λbc w m bd=> ?_
      have⟨be,bf,al⟩:=bind_some al
      refine A6 0 m bd Z T22 f Z Z Z bf λbg a bh f=>Aw 0 m bd Z sizeOf42 f Z Z bh bf a5.cells a5.one1 a5 λbi w m bj=>Aa (Am ?_)
      refine Ab f Z λa f=>Ac f Z λa f=>Aa ?_
      obtain rfl:=sj al
      exact⟨_,Z,_,_,Z,_,bi,(gt an (gt av (gt aB (gt aS bb)))),f.k Z,m,bj⟩
   ·intro bk
    rcases Ad ar with⟨bl,ar⟩|⟨bl,ar⟩
    ·refine Ag (hw:=wo f bl) 5 22 Z f Z λa f=> ?_
     refine Ag (hw:=wo f bl) 6 22 Z f Z λa f=>Ag (hw:=wo f bl) 7 22 Z f Z λa f=>Ag (hw:=wo f bl) 8 22 Z f Z λa f=>q_p (hw:=wo f bl) 9 22 Z f (λ_=>AA (f.e Z) (f.e Z) Ar) λa f=> ?_
     have⟨bm,bn,ar⟩:=bind_some ar
     refine AG (hw:=wo f bl) 10 22 0 m ao T22 bn Z f Z Z λbo a bp f=>AR (hw:=wo f bl) 11 22 0 ao AZ bp bn Z f Z λbq a br f=>Ag (hw:=wo f bl) 12 22 Z f Z λa f=>Ag (hw:=wo f bl) 13 22 Z f Z λa f=>Ag (hw:=wo f bl) 14 22 Z f Z λa f=>q_p (hw:=wo f bl) 15 22 Z f (λ_=>AA (f.e Z) (f.e Z) Ar) λa f=>q_p (hw:=wo f bl) 16 22 Z f (λ_=>AA (f.e Z) (f.e Z) Ar) λa f=> ?_
     have⟨bs,bt,ar⟩:=bind_some ar
     refine AG (hw:=wo f bl) 17 22 0 m ao T22 bt Z f Z Z λbu a bv f=>AR (hw:=wo f bl) 18 22 0 ao AZ bv bt Z f Z λbw a bx f=> ?_
     have⟨bz,bA,ar⟩:=bind_some ar
     refine BG (i:=19) 22 Z (by kernel_rfl) Z f (Ba f Z Z Z bl) Z Z Z call58 (λ_ _ w bB m=>Wk.c m (rd1 bB (br.2)) (rd1 bB (bx.2)) bA) λa f=>q_p (hw:=wo f bl) 20 22 Z f (λ_=>AA (f.e Z) (f.e Z) AH) λa f=>q_p 21 22 Z f (λ_=>AU (f.e Z) bl (f.e Z)) λa f=> ?_
     obtain rfl:=sj ar
     exact bk _ (f.k Z)
    ·refine Ao 5 22 Z f bl λa f=> ?_
     refine Ao 6 22 Z f bl λa f=>Ao 7 22 Z f bl λa f=>Ao 8 22 Z f bl λa f=>Ao 9 22 Z f bl λa f=>Ao 10 22 Z f bl λa f=>Ao 11 22 Z f bl λa f=>Ao 12 22 Z f bl λa f=>Ao 13 22 Z f bl λa f=>Ao 14 22 Z f bl λa f=>Ao 15 22 Z f bl λa f=>Ao 16 22 Z f bl λa f=>Ao 17 22 Z f bl λa f=>Ao 18 22 Z f bl λa f=>Ao 19 22 Z f bl λa f=>Ao 20 22 Z f bl λa f=>q_p 21 22 Z f (λ_=>AV (f.e Z) bl (f.e Z)) λa f=> ?_
     obtain rfl:=sj ar
     exact bk _ (f.k Z)
 ·rintro a w ⟨_,rfl,ac,rfl,ad,ae,bC,f,m,bD⟩
  obtain rfl:=sj hd
  exact⟨[],trivial,f.d,_,[ae],bC,m,_,Z,bD⟩
theorem Wk.b2 {v0:Value}{it0:Itm}{x0:(List (Value×LI))}{x1 x2:Int}(m:Mem W G w (it0::H))(o0:Ow (RTg R0) 42 G it0 v0 x0){y:((List (Value×LI)))}(hd:D.b2 x0 x1 x2=some y):
  Calls prog 155 #[v0,(iv x1),(iv x2),(.func (.func 58) #[] #[])] w (Res W G H (λG' Ho _=>∃i0:Itm,Ho=[i0]∧Ow (RTg R0) 42 G' i0 v0 y)):=by
 refine As (args:=[v0,(iv x1),(iv x2),(.func (.func 58) #[] #[])]) (N:=60) [] func155 Z Z (lb Z) Z λa f=> ?_
 unfold D.b2 at hd
 refine Ae ?_
 refine Ab f Z λa f=>Ac f Z λa f=>Au ?_
 refine Ac f Z λa f=>Au ?_
 refine Ab f Z λa f=>Ab f Z λa f=>Ah f Z Z AO λa f=>Ac f Z λa f=>Aa (Af (Ae ?_))
 refine Ab f Z λa f=>Ah f Z Z AO λa f=>Ah f Z Z (Dl Z) λa f=>Ac f Z λa f=>Aa ?_
 have⟨aa,ab,hd⟩:=bind_some hd
 refine AF (λa w=>∃ac:List (Value×LI),ac=aa∧∃(ad:GH) (ae:Itm),GLe G ad∧Fr a 60 [(0,v0),(3,(.func (.func 58) #[] #[])),(8,(iv x1)),(9,(iv 0)),(10,(iv (i64.wrap (x2-x1))))]∧Mem W ad w (ae::H)∧Ow (RTg R0) 42 ad ae v0 ac) ?_ ?_
 ·refine Aj ?_
  refine AD (λaf a w=>∃ag:List (Value×LI),∃ah:Int,(ag,ah)=af∧∃(ai:GH) (aj:Itm),GLe G ai∧Fr a 60 [(0,v0),(3,(.func (.func 58) #[] #[])),(8,(iv x1)),(9,(iv 0)),(10,(iv (i64.wrap (x2-x1)))),(11,(iv ah))]∧Mem W ai w (aj::H)∧Ow (RTg R0) 42 ai aj v0 ag) ab ⟨_,_,Z,_,it0,gr,f.k Z,m,o0⟩ ?_
  clear ab f m
  rintro af ak al am a w ⟨ag,ah,rfl,ai,aj,an,f,m,ao⟩
  refine Af (Ae ?_)
  refine Ab f Z λa f=>Ah f Z Z BT λa f=>Aa ?_
  rcases Ad al with⟨ap,al⟩|⟨ap,al⟩
  ·refine Ak f Z ap ?_
   refine Al ?_
   refine Af (Aj (Am ?_))
   refine Ab f Z λa f=>Ab f Z λa f=>Ab f Z λa f=>Ab f Z λa f=>Ab f Z λa f=> ?_
   have⟨aq,ar,al⟩:=bind_some al
   refine Av f Z call189 (Wk.W0 m ao ar) λau av aw w ax m ay a f=> ?_
   obtain⟨az,rfl,aA⟩:=ay
   refine Aa (Am ?_)
   refine Ab f Z λa f=>Ah f Z Z AO λa f=>Ac f Z λa f=>Aa ?_
   obtain rfl:=sj al
   exact⟨_,Z,_,_,Z,_,az,(gt an ax),f.k Z,m,aA⟩
  ·refine Ai f Z ap ?_
   refine Ax Z ?_
   obtain rfl:=sj al
   obtain rfl:=am _ rfl
   exact⟨_,Z,_,aj,an,f.k Z,m,ao⟩
 ·rintro a w ⟨ac,rfl,ad,ae,aB,f,m,aC⟩
  refine Ae ?_
  refine Ab f Z λa f=>Ah f Z Z AO λa f=>Ac f Z λa f=>Aa ?_
  have⟨aD,aE,hd⟩:=bind_some hd
  refine AF (λa w=>∃aF:List (Value×LI),aF=aD∧∃(aG:GH) (aH:Itm),GLe ad aG∧Fr a 60 []∧Mem W aG w (aH::H)∧Ow (RTg R0) 42 aG aH v0 aF) ?_ ?_
  ·refine Aj ?_
   refine AD (λaI a w=>∃aJ:List (Value×LI),∃aK:Int,(aJ,aK)=aI∧∃(aL:GH) (aM:Itm),GLe ad aL∧Fr a 60 [(0,v0),(3,(.func (.func 58) #[] #[])),(8,(iv x1)),(9,(iv 0)),(12,(iv aK))]∧Mem W aL w (aM::H)∧Ow (RTg R0) 42 aL aM v0 aJ) aE ⟨_,_,Z,_,ae,gr,f.k Z,m,aC⟩ ?_
   clear aE f m
   rintro aI aN aO aP a w ⟨aJ,aK,rfl,aL,aM,aQ,f,m,aR⟩
   refine Af (Ae ?_)
   refine Ab f Z λa f=>Ah f Z Z BT λa f=>Aa ?_
   rcases Ad aO with⟨aS,aO⟩|⟨aS,aO⟩
   ·refine Ak f Z aS ?_
    refine Al ?_
    refine Af (Aj (Af ?_))
    refine BC Ay m ?_
    refine p_p 2 Z f (λ_=>A4 (f.e Z)) λa f=>p_p 3 Z f (λ_=>A4 (f.e Z)) λa f=>p_p 4 Z f (λ_=>A4 (f.e Z)) λa f=>p_p 5 Z f (λ_=>AA (f.e Z) (f.e Z) Ar) λa f=>BD 60017 13 (by kernel_rfl) Z ?_
    refine Ag 0 60017 Z f Z λa f=>Ag 1 60017 Z f Z λa f=>Ag 6 60017 Z f Z λa f=>Ag 7 60017 Z f Z λa f=>Ag 8 60017 Z f Z λa f=>q_p 9 60017 Z f (λ_=>AA (f.e Z) (f.e Z) Ar) λa f=> ?_
    have⟨aT,aU,aO⟩:=bind_some aO
    refine AG 10 60017 0 m aR T22 aU Z f Z Z λaV a aW f=>AR 11 60017 0 aR AZ aW aU Z f Z λaX a aY f=>Ag 12 60017 Z f Z λa f=>Ag 13 60017 Z f Z λa f=> ?_
    have⟨aZ,a0,aO⟩:=bind_some aO
    refine AG 14 60017 0 m aR T22 a0 Z f Z Z λa1 a a2 f=>AR 15 60017 0 aR AZ a2 a0 Z f Z λa3 a a4 f=> ?_
    have⟨a5,a6,aO⟩:=bind_some aO
    refine AG 16 60017 0 m aR T22 a6 Z f Z Z λa7 a a8 f=>AK λa9 w ba m=> ?_
    have aY:=(RTg.mono (RI.mono _)) _ _ _ _ ba aY
    have a4:=(RTg.mono (RI.mono _)) _ _ _ _ ba a4
    have aR:=Ow.mono (RTg.mono (RI.mono _)) ba aR
    refine Aw 0 m aR Z sizeOf42 f Z Z a8 a6 aY.cells aY.one1 aY λbb w m bc=> ?_
    have⟨bd,be,aO⟩:=bind_some aO
    refine A6 0 m bc Z T22 f Z Z Z be λbf a bg f=>Aw 0 m bc Z sizeOf42 f Z Z bg be a4.cells a4.one1 a4 λbh w m bi=>Aa (Am ?_)
    refine Ab f Z λa f=>Ab f Z λa f=>Ab f Z λa f=>Ab f Z λa f=>Ab f Z λa f=> ?_
    have⟨bj,bk,aO⟩:=bind_some aO
    refine Av f Z call189 (Wk.W0 m bi bk) λbl bm bn w bo m bp a f=> ?_
    obtain⟨bq,rfl,br⟩:=bp
    refine Aa (Am ?_)
    refine Ab f Z λa f=>Ah f Z Z AO λa f=>Ac f Z λa f=>Aa ?_
    obtain rfl:=sj aO
    exact⟨_,Z,_,_,Z,_,bq,(gt aQ (gt ba bo)),f.k Z,m,br⟩
   ·refine Ai f Z aS ?_
    refine Ax Z ?_
    obtain rfl:=sj aO
    obtain rfl:=aP _ rfl
    exact⟨_,Z,_,aM,aQ,f.weak trivial,m,aR⟩
  ·rintro a w ⟨aF,rfl,aG,aH,bs,f,m,bt⟩
   obtain rfl:=sj hd
   exact⟨[],trivial,f.d,_,[aH],(gt aB bs),m,_,Z,bt⟩
theorem Wk.Q1 {v0:Value}{it0:Itm}{x0:(List (Value×LI))}{x1 x2:Int}(m:Mem W G w (it0::H))(o0:Ow (RTg R0) 42 G it0 v0 x0){y:((List (Value×LI)))}(hd:D.Q1 x0 x1 x2=some y):
  Calls prog 156 #[v0,(iv x1),(iv x2),(.func (.func 58) #[] #[])] w (Res W G H (λG' Ho _=>∃i0:Itm,Ho=[i0]∧Ow (RTg R0) 42 G' i0 v0 y)):=by
 refine As (args:=[v0,(iv x1),(iv x2),(.func (.func 58) #[] #[])]) (N:=67) [] func156 Z Z (lb Z) Z λa f=> ?_
 unfold D.Q1 at hd
 refine Ae ?_
 refine Ab f Z λa f=>Ab f Z λa f=>Ah f Z Z AO λa f=>Ac f Z λa f=>Au ?_
 refine Ab f Z λa f=>Ah f Z Z BT λa f=>Aa ?_
 rcases Ad hd with⟨aa,hd⟩|⟨aa,hd⟩
 ·refine Ak f Z aa ?_
  refine Ae ?_
  refine Ab f Z λa f=>l_o f (DA (f.e Z) ⟨_,underlying3⟩ underlying190) λa f=>Bm (cs:=[(.int .u64 0)]) zeroValue190 m f Z Z λab w a m f=>AE 0 0 (ds:=[(.int .u64 (IntKind.u64.wrap (i64.wrap (x2-x1))))]) m sizeOf190 f Z Z Z (AC Z AN) Z (lb Z) Z λw m=>Au ?_
  refine Ab f Z λa f=> ?_
  have⟨ac,ad,hd⟩:=bind_some hd
  refine Bf f Z call190 (Wk.I m ad) λae w af m a f=> ?_
  have o0:=Ow.mono (RTg.mono (RI.mono _)) af o0
  refine Ac f Z λa f=>Au ?_
  refine Ab f Z λa f=>Ab f Z λa f=>Ah f Z Z (Dl Z) λa f=>Ah f Z Z CX λa f=>Ah f Z Z Ar λa f=>Ah f Z Z AO λa f=>Ac f Z λa f=>Aa ?_
  have⟨ag,ah,hd⟩:=bind_some hd
  refine AF (λa w=>∃ai:List (Value×LI),ai=ag∧∃(aj:GH) (ak:Itm),GLe ae aj∧Fr a 67 []∧Mem W aj w (ak::H)∧Ow (RTg R0) 42 aj ak v0 ai) ?_ ?_
  ·refine Aj ?_
   refine AD (λal a w=>∃am:List (Value×LI),∃an:Int,∃ao:Int,(am,an,ao)=al∧∃(ap:GH) (aq:Itm),GLe ae ap∧Fr a 67 [(0,v0),(1,(iv x1)),(8,(iv (i64.wrap (x2-x1)))),(9,(pb ab)),(10,(.int .u64 ac)),(11,(iv an))]∧Mem W ap w (ib ab 190 [(.int .u64 ao)]::aq::H)∧Ow (RTg R0) 42 ap aq v0 am) ah ⟨_,_,_,Z,_,it0,gr,f.k Z,m,o0⟩ ?_
   clear ah f m
   rintro al ar au av a w ⟨am,an,ao,rfl,ap,aq,aw,f,m,ax⟩
   refine Af (Ae ?_)
   refine Ab f Z λa f=>Ab f Z λa f=>Ab f Z λa f=>Ah f Z Z (Dl Z) λa f=>Ah f Z Z CX λa f=>Ah f Z Z Ar λa f=>Ah f Z Z Ar λa f=>Ah f Z Z Ci λa f=>Aa ?_
   rcases Ad au with⟨ay,au⟩|⟨ay,au⟩
   ·refine Ak f Z ay ?_
    refine Al ?_
    refine Af (Aj (Ae ?_))
    have⟨az,aA,au⟩:=bind_some au
    refine Av f Z call191 (Wk.b0 m aA) λaB aC aD w aE m aF a f=> ?_
    obtain⟨rfl,rfl⟩:=aF
    have ax:=Ow.mono (RTg.mono (RI.mono _)) aE ax
    refine Ab f Z λa f=>Ah f Z Z AO λa f=>Ah f Z Z Dc λa f=>l_o f (DA (f.e Z) ⟨_,underlying135⟩ underlying3) λa f=>Ac f Z λa f=>Aa (Af (Ae ?_))
    refine Ab f Z λa f=>Ab f Z λa f=>Ah f Z Z BT λa f=>Aa ?_
    have⟨aG,aH,au⟩:=bind_some au
    refine AF (λa w=>∃aI:Int,aI=aG∧∃(aJ:GH),GLe aC aJ∧Fr a 67 [(0,v0),(1,(iv x1)),(8,(iv (i64.wrap (x2-x1)))),(9,(pb ab)),(10,(.int .u64 ac)),(11,(iv an)),(12,(iv aI))]∧Mem W aJ w (ib ab 190 [(.int .u64 az.2)]::aq::H)) ?_ ?_
    ·rcases Ad aH with⟨aK,aH⟩|⟨aK,aH⟩
     ·refine Ak f Z aK ?_
      refine Am ?_
      refine Ab f Z λa f=>Ab f Z λa f=>Ah f Z Z AO λa f=>Ac f Z λa f=>Aa ?_
      obtain rfl:=sj aH
      exact⟨_,Z,_,gr,f.k Z,m⟩
     ·refine Ai f Z aK ?_
      refine Al ?_
      obtain rfl:=sj aH
      exact⟨_,Z,_,gr,f.k Z,m⟩
    ·rintro a w ⟨aI,rfl,aJ,aL,f,m⟩
     have ax:=Ow.mono (RTg.mono (RI.mono _)) aL ax
     refine BC Ay m ?_
     refine p_p 2 Z f (λ_=>A4 (f.e Z)) λa f=>p_p 3 Z f (λ_=>A4 (f.e Z)) λa f=>p_p 4 Z f (λ_=>A4 (f.e Z)) λa f=>p_p 5 Z f (λ_=>AA (f.e Z) (f.e Z) Ar) λa f=>BD 60017 13 (by kernel_rfl) Z ?_
     refine Ag 0 60017 Z f Z λa f=>Ag 1 60017 Z f Z λa f=>Ag 6 60017 Z f Z λa f=>Ag 7 60017 Z f Z λa f=>Ag 8 60017 Z f Z λa f=>q_p 9 60017 Z f (λ_=>AA (f.e Z) (f.e Z) Ar) λa f=> ?_
     have⟨aM,aN,au⟩:=bind_some au
     refine AG 10 60017 1 m ax T22 aN Z f Z Z λaO a aP f=>AR 11 60017 1 ax AZ aP aN Z f Z λaQ a aR f=>Ag 12 60017 Z f Z λa f=>Ag 13 60017 Z f Z λa f=> ?_
     have⟨aS,aT,au⟩:=bind_some au
     refine AG 14 60017 1 m ax T22 aT Z f Z Z λaU a aV f=>AR 15 60017 1 ax AZ aV aT Z f Z λaW a aX f=> ?_
     have⟨aY,aZ,au⟩:=bind_some au
     refine AG 16 60017 1 m ax T22 aZ Z f Z Z λa0 a a1 f=>AK λa2 w a3 m=> ?_
     have aR:=(RTg.mono (RI.mono _)) _ _ _ _ a3 aR
     have aX:=(RTg.mono (RI.mono _)) _ _ _ _ a3 aX
     have ax:=Ow.mono (RTg.mono (RI.mono _)) a3 ax
     refine Aw 1 m ax Z sizeOf42 f Z Z a1 aZ aR.cells aR.one1 aR λa4 w m a5=> ?_
     have⟨a6,a7,au⟩:=bind_some au
     refine A6 1 m a5 Z T22 f Z Z Z a7 λa8 a a9 f=>Aw 1 m a5 Z sizeOf42 f Z Z a9 a7 aX.cells aX.one1 aX λba w m bb=>Aa (Am ?_)
     refine Ab f Z λa f=>Ah f Z Z Ar λa f=>Ac f Z λa f=>Aa ?_
     obtain rfl:=sj au
     exact⟨_,Z,_,_,_,Z,_,ba,(gt aw (gt aE (gt aL a3))),f.k Z,m,bb⟩
   ·refine Ai f Z ay ?_
    refine Ax Z ?_
    have m:=m.fr 1
    have m:=m.eraseAt 1
    obtain rfl:=sj au
    obtain rfl:=av _ rfl
    exact⟨_,Z,_,aq,aw,f.weak trivial,m,ax⟩
  ·rintro a w ⟨ai,rfl,aj,ak,bc,f,m,bd⟩
   obtain rfl:=sj hd
   exact⟨[],trivial,f.d,_,[ak],(gt af bc),m,_,Z,bd⟩
 ·refine Ai f Z aa ?_
  refine Al ?_
  obtain rfl:=sj hd
  exact⟨[],trivial,f.d,_,[it0],gr,m,_,Z,o0⟩
theorem Wk.C0 {v0:Value}{it0:Itm}{b3:Nat}{x0:(List (Value×LI))}{x1 x2 aa:Int}(m:Mem W G w (it0::ib b3 3 [(iv aa)]::H))(o0:Ow (RTg R0) 42 G it0 v0 x0){y:Int×Int×((List (Value×LI)))×Int}(hd:D.C0 x0 x1 x2 aa=some y):
  Calls prog 206 #[v0,(iv x1),(iv x2),(pb b3),(.func (.func 58) #[] #[])] w (Res W G H (λG' Ho v=>∃i0:Itm,Ho=[i0,ib b3 3 [(iv y.2.2.2)]]∧v= .tuple #[(iv y.1),(iv y.2.1)]∧Ow (RTg R0) 42 G' i0 v0 y.2.2.1)):=by
 refine As (args:=[v0,(iv x1),(iv x2),(pb b3),(.func (.func 58) #[] #[])]) (N:=32) [.tmp 10,.tmp 11] func206 Z Z (lb Z) Z λa f=> ?_
 unfold D.C0 at hd
 refine Ae ?_
 refine Ac f Z λa f=>Ac f Z λa f=>Aa (Af (Af ?_))
 refine A3 11 Ay (by kernel_rfl) m ?_
 refine Ag 0 11 Z f Z λa f=>Ag 1 11 Z f Z λa f=>Ag 2 11 Z f Z λa f=> ?_
 have⟨ab,ac,hd⟩:=bind_some hd
 refine AG 3 11 0 m o0 T22 ac Z f Z Z λad a ae f=>AR 4 11 0 o0 AZ ae ac Z f Z λaf a ag f=>Ag 5 11 Z f Z λa f=>Ag 6 11 Z f Z λa f=> ?_
 have⟨ah,ai,hd⟩:=bind_some hd
 refine AG 7 11 0 m o0 T22 ai Z f Z Z λaj a ak f=>AR 8 11 0 o0 AZ ak ai Z f Z λal a am f=> ?_
 have⟨an,ao,hd⟩:=bind_some hd
 refine BG (i:=9) 11 Z (by kernel_rfl) Z f Z Z Z Z call58 (λ_ _ w ap m=>Wk.c m (rd1 ap (ag.2)) (rd1 ap (am.2)) ao) λa f=>q_p 10 11 Z f (λ_=>AA (f.e Z) (f.e Z) AH) λa f=>AK λaq w ar m=> ?_
 have ag:=(RTg.mono (RI.mono _)) _ _ _ _ ar ag
 have am:=(RTg.mono (RI.mono _)) _ _ _ _ ar am
 have o0:=Ow.mono (RTg.mono (RI.mono _)) ar o0
 refine Aa ?_
 rcases Ad hd with⟨au,hd⟩|⟨au,hd⟩
 ·refine Ak f Z au ?_
  refine Ae ?_
  refine Ab f Z λa f=>l_o f (Bt (f.e Z)) λa f=>AJ 1 0 m Pl3 f Z Z Z Z λa f=>Ah f Z Z Ar λa f=>l_o f (Bt (f.e Z)) λa f=>AE 1 0 (ds:=[(iv (i64.wrap (aa+1)))]) m sizeOf3 f Z Z Z (AC Z AN) Z (lb Z) Z λw m=>Au ?_
  refine Ab f Z λa f=>Ab f Z λa f=>Ac f Z λa f=>Ac f Z λa f=>Aa ?_
  refine Ap ?_
  obtain rfl:=sj hd
  exact⟨[(iv x2),(iv x1)],⟨f.get _ _ Z,f.get _ _ Z,trivial⟩,f.d,_,[it0,ib b3 3 [(iv (i64.wrap (aa+1)))]],ar,m,_,Z,Z,o0⟩
 ·refine Ai f Z au ?_
  refine Al ?_
  refine Ae ?_
  refine Ab f Z λa f=>Ab f Z λa f=>Ac f Z λa f=>Ac f Z λa f=>Aa ?_
  refine Ap ?_
  obtain rfl:=sj hd
  exact⟨[(iv x1),(iv x2)],⟨f.get _ _ Z,f.get _ _ Z,trivial⟩,f.d,_,[it0,ib b3 3 [(iv aa)]],ar,m,_,Z,Z,o0⟩
theorem Wk.w1 {v0:Value}{it0:Itm}{b4:Nat}{x0:(List (Value×LI))}{x1 x2 x3 aa:Int}(m:Mem W G w (it0::ib b4 3 [(iv aa)]::H))(o0:Ow (RTg R0) 42 G it0 v0 x0){y:Int×((List (Value×LI)))×Int}(hd:D.w1 x0 x1 x2 x3 aa=some y):
  Calls prog 193 #[v0,(iv x1),(iv x2),(iv x3),(pb b4),(.func (.func 58) #[] #[])] w (Res W G H (λG' Ho v=>∃i0:Itm,Ho=[i0,ib b4 3 [(iv y.2.2)]]∧v=(iv y.1)∧Ow (RTg R0) 42 G' i0 v0 y.2.1)):=by
 refine As (args:=[v0,(iv x1),(iv x2),(iv x3),(pb b4),(.func (.func 58) #[] #[])]) (N:=41) [.tmp 12] func193 Z Z (lb Z) Z λa f=> ?_
 unfold D.w1 at hd
 refine Ae ?_
 refine Ac f Z λa f=>Au ?_
 refine Ab f Z λa f=>Ab f Z λa f=>Ab f Z λa f=>Ab f Z λa f=>Ab f Z λa f=> ?_
 have⟨ab,ac,hd⟩:=bind_some hd
 refine Av f Z call206 (Wk.C0 m o0 ac) λad ae af w ag m ah a f=> ?_
 obtain⟨ai,rfl,rfl,aj⟩:=ah
 refine Ab f Z λa f=>l_o f (A7 (f.e Z) Z) λa f=>l_o f (A7 (f.e Z) Z) λa f=>Ac f Z λa f=>Ac f Z λa f=>Au ?_
 refine Ab f Z λa f=>Ab f Z λa f=>Ab f Z λa f=>Ab f Z λa f=>Ab f Z λa f=> ?_
 have⟨ak,al,hd⟩:=bind_some hd
 refine Av f Z call206 (Wk.C0 m aj al) λam an ao w ap m aq a f=> ?_
 obtain⟨ar,rfl,rfl,au⟩:=aq
 refine Ab f Z λa f=>l_o f (A7 (f.e Z) Z) λa f=>l_o f (A7 (f.e Z) Z) λa f=>Ac f Z λa f=>Ac f Z λa f=>Au ?_
 refine Ab f Z λa f=>Ab f Z λa f=>Ab f Z λa f=>Ab f Z λa f=>Ab f Z λa f=> ?_
 have⟨av,aw,hd⟩:=bind_some hd
 refine Av f Z call206 (Wk.C0 m au aw) λax ay az w aA m aB a f=> ?_
 obtain⟨aC,rfl,rfl,aD⟩:=aB
 refine Ab f Z λa f=>l_o f (A7 (f.e Z) Z) λa f=>l_o f (A7 (f.e Z) Z) λa f=>Ac f Z λa f=>Ac f Z λa f=>Au ?_
 refine Ab f Z λa f=>Ac f Z λa f=>Aa ?_
 refine Ap ?_
 obtain rfl:=sj hd
 exact⟨[(iv av.2.1)],f.g Z,f.d,_,[aC,ib b4 3 [(iv av.2.2.2)]],(gt ag (gt ap aA)),m,_,Z,Z,aD⟩
theorem Wk.r0 {v0:Value}{it0:Itm}{b2:Nat}{x0:(List (Value×LI))}{x1 aa:Int}(m:Mem W G w (it0::ib b2 3 [(iv aa)]::H))(o0:Ow (RTg R0) 42 G it0 v0 x0){y:Int×((List (Value×LI)))×Int}(hd:D.r0 x0 x1 aa=some y):
  Calls prog 192 #[v0,(iv x1),(pb b2),(.func (.func 58) #[] #[])] w (Res W G H (λG' Ho v=>∃i0:Itm,Ho=[i0,ib b2 3 [(iv y.2.2)]]∧v=(iv y.1)∧Ow (RTg R0) 42 G' i0 v0 y.2.1)):=by
 refine As (args:=[v0,(iv x1),(pb b2),(.func (.func 58) #[] #[])]) (N:=18) [.tmp 8] func192 Z Z (lb Z) Z λa f=> ?_
 unfold D.r0 at hd
 refine Ae ?_
 refine Ac f Z λa f=>Au ?_
 refine Ab f Z λa f=>Ab f Z λa f=>Ah f Z Z AO λa f=>Ab f Z λa f=>Ab f Z λa f=>Ah f Z Z Ar λa f=>Ab f Z λa f=>Ab f Z λa f=> ?_
 have⟨ab,ac,hd⟩:=bind_some hd
 refine Av f Z call193 (Wk.w1 m o0 ac) λad ae af w ag m ah a f=> ?_
 obtain⟨ai,rfl,rfl,aj⟩:=ah
 refine Ac f Z λa f=>Aa ?_
 refine Ap ?_
 obtain rfl:=sj hd
 exact⟨[(iv ab.1)],f.g Z,f.d,_,[ai,ib b2 3 [(iv ab.2.2)]],ag,m,_,Z,Z,aj⟩
theorem Wk.Y1 {v0:Value}{it0:Itm}{x0:(List (Value×LI))}{x1 x2:Int}(m:Mem W G w (it0::H))(o0:Ow (RTg R0) 42 G it0 v0 x0){y:Int×Int×((List (Value×LI)))}(hd:D.Y1 x0 x1 x2=some y):
  Calls prog 157 #[v0,(iv x1),(iv x2),(.func (.func 58) #[] #[])] w (Res W G H (λG' Ho v=>∃i0:Itm,Ho=[i0]∧v= .tuple #[(iv y.1),(iv y.2.1)]∧Ow (RTg R0) 42 G' i0 v0 y.2.2)):=by
 refine As (args:=[v0,(iv x1),(iv x2),(.func (.func 58) #[] #[])]) (N:=63) [.tmp 8,.tmp 9] func157 Z Z (lb Z) Z λa f=> ?_
 unfold D.Y1 at hd
 refine Ae ?_
 refine Ac f Z λa f=>Ac f Z λa f=>Au ?_
 refine Ab f Z λa f=>Ab f Z λa f=>Ah f Z Z AO λa f=>Ac f Z λa f=>Au ?_
 refine Bm (cs:=[(iv 0)]) zeroValue3 m f Z Z λaa w a m f=>Au ?_
 refine Ab f Z λa f=>Ab f Z λa f=>Ah f Z Z (Dl Z) λa f=>Ah f Z Z CX λa f=>Ah f Z Z Ar λa f=>Ac f Z λa f=>Au ?_
 refine Ab f Z λa f=>Ab f Z λa f=>Ah f Z Z (Dl Z) λa f=>Ah f Z Z CX λa f=>Ah f Z Z Ar λa f=>Ac f Z λa f=>Au ?_
 refine Ab f Z λa f=>Ab f Z λa f=>Ah f Z Z (Dl Z) λa f=>Ah f Z Z CX λa f=>Ah f Z Z Ar λa f=>Ac f Z λa f=>Aa (Af (Ae ?_))
 refine Ab f Z λa f=>Ah f Z Z BT λa f=>Aa ?_
 rcases Ad hd with⟨ab,hd⟩|⟨ab,hd⟩
 ·refine Ak f Z ab ?_
  refine Af (Ae ?_)
  refine Ab f Z λa f=>Ah f Z Z BT λa f=>Aa ?_
  have⟨ac,ad,hd⟩:=bind_some hd
  refine AF (λa w=>∃ae:List (Value×LI),∃af:Int,∃ag:Int,∃ah:Int,∃ai:Int,(ae,af,ag,ah,ai)=ac∧∃(aj:GH) (ak:Itm),GLe G aj∧Fr a 63 [(0,v0),(3,(.func (.func 58) #[] #[])),(11,(pb aa)),(12,(iv af)),(13,(iv ag)),(14,(iv ah))]∧Mem W aj w (ib aa 3 [(iv ai)]::ak::H)∧Ow (RTg R0) 42 aj ak v0 ae) ?_ ?_
  ·rcases Ad ad with⟨al,ad⟩|⟨al,ad⟩
   ·refine Ak f Z al ?_
    refine Ae ?_
    refine Ab f Z λa f=>Ab f Z λa f=>Ab f Z λa f=> ?_
    have m:=m.fr 1
    have⟨am,an,ad⟩:=bind_some ad
    refine Av f Z call192 (Wk.r0 m o0 an) λao ap aq w ar m au a f=> ?_
    obtain⟨av,rfl,rfl,aw⟩:=au
    refine Ac f Z λa f=>Au ?_
    refine Ab f Z λa f=>Ab f Z λa f=>Ab f Z λa f=> ?_
    have⟨ax,ay,ad⟩:=bind_some ad
    refine Av f Z call192 (Wk.r0 m aw ay) λaz aA aB w aC m aD a f=> ?_
    obtain⟨aE,rfl,rfl,aF⟩:=aD
    refine Ac f Z λa f=>Aa (Am ?_)
    refine Ab f Z λa f=>Ab f Z λa f=>Ab f Z λa f=> ?_
    have⟨aG,aH,ad⟩:=bind_some ad
    refine Av f Z call192 (Wk.r0 m aF aH) λaI aJ aK w aL m aM a f=> ?_
    obtain⟨aN,rfl,rfl,aO⟩:=aM
    refine Ac f Z λa f=>Aa ?_
    have m:=m.fr 1
    obtain rfl:=sj ad
    exact⟨_,_,_,_,_,Z,_,aN,(gt ar (gt aC aL)),f.k Z,m,aO⟩
   ·refine Ai f Z al ?_
    refine Al ?_
    obtain rfl:=sj ad
    exact⟨_,_,_,_,_,Z,_,it0,gr,f.k Z,m,o0⟩
  ·rintro a w ⟨ae,af,ag,ah,ai,rfl,aj,ak,aP,f,m,aQ⟩
   refine Am ?_
   refine Ab f Z λa f=>Ab f Z λa f=>Ab f Z λa f=>Ab f Z λa f=>Ab f Z λa f=> ?_
   have m:=m.fr 1
   have⟨aR,aS,hd⟩:=bind_some hd
   refine Av f Z call193 (Wk.w1 m aQ aS) λaT aU aV w aW m aX a f=> ?_
   obtain⟨aY,rfl,rfl,aZ⟩:=aX
   refine Ac f Z λa f=>Au ?_
   refine AJ 1 0 m Pl3 f Z Z Z Z λa f=>Aa (Aj (Ae ?_))
   refine Ah f Z Z Bq λa f=>Ac f Z λa f=>Aa ?_
   rcases Ad hd with⟨a0,hd⟩|⟨a0,hd⟩
   ·refine Ak f Z a0 ?_
    refine Ae ?_
    refine Ab f Z λa f=>Ac f Z λa f=>Ac f Z λa f=>Aa ?_
    refine Ap ?_
    have m:=m.eraseAt 1
    obtain rfl:=sj hd
    exact⟨[(iv aR.1),(iv 1)],⟨f.get _ _ Z,f.get _ _ Z,trivial⟩,f.d,_,[aY],(gt aP aW),m,_,Z,Z,aZ⟩
   ·refine Ai f Z a0 ?_
    refine Ae ?_
    refine Ah f Z Z Bq λa f=>Ac f Z λa f=>Aa ?_
    rcases Ad hd with⟨a1,hd⟩|⟨a1,hd⟩
    ·refine Ak f Z a1 ?_
     refine Ae ?_
     refine Ab f Z λa f=>Ac f Z λa f=>Ac f Z λa f=>Aa ?_
     refine Ap ?_
     have m:=m.eraseAt 1
     obtain rfl:=sj hd
     exact⟨[(iv aR.1),(iv 2)],⟨f.get _ _ Z,f.get _ _ Z,trivial⟩,f.d,_,[aY],(gt aP aW),m,_,Z,Z,aZ⟩
    ·refine Ai f Z a1 ?_
     refine Ae ?_
     refine Ab f Z λa f=>Ac f Z λa f=>Ac f Z λa f=>Aa ?_
     refine Ap ?_
     have m:=m.eraseAt 1
     obtain rfl:=sj hd
     exact⟨[(iv aR.1),(iv 0)],⟨f.get _ _ Z,f.get _ _ Z,trivial⟩,f.d,_,[aY],(gt aP aW),m,_,Z,Z,aZ⟩
 ·refine Ai f Z ab ?_
  refine Al ?_
  refine Ae ?_
  refine AJ 0 0 m Pl3 f Z Z Z Z λa f=>Aa (Aj (Ae ?_))
  refine Ah f Z Z Bq λa f=>Ac f Z λa f=>Aa ?_
  rcases Ad hd with⟨a2,hd⟩|⟨a2,hd⟩
  ·refine Ak f Z a2 ?_
   refine Ae ?_
   refine Ab f Z λa f=>Ac f Z λa f=>Ac f Z λa f=>Aa ?_
   refine Ap ?_
   have m:=m.fr 1
   have m:=m.eraseAt 1
   obtain rfl:=sj hd
   exact⟨[(iv (i64.wrap (x1+(i64.wrap ((i64.wrap (Int.tdiv (i64.wrap (x2-x1)) 4))*2))))),(iv 1)],⟨f.get _ _ Z,f.get _ _ Z,trivial⟩,f.d,_,[it0],gr,m,_,Z,Z,o0⟩
  ·refine Ai f Z a2 ?_
   refine Ae ?_
   refine Ah f Z Z Bq λa f=>Ac f Z λa f=>Aa ?_
   rcases Ad hd with⟨a3,hd⟩|⟨a3,hd⟩
   ·refine Ak f Z a3 ?_
    refine Ae ?_
    refine Ab f Z λa f=>Ac f Z λa f=>Ac f Z λa f=>Aa ?_
    refine Ap ?_
    have m:=m.fr 1
    have m:=m.eraseAt 1
    obtain rfl:=sj hd
    exact⟨[(iv (i64.wrap (x1+(i64.wrap ((i64.wrap (Int.tdiv (i64.wrap (x2-x1)) 4))*2))))),(iv 2)],⟨f.get _ _ Z,f.get _ _ Z,trivial⟩,f.d,_,[it0],gr,m,_,Z,Z,o0⟩
   ·refine Ai f Z a3 ?_
    refine Ae ?_
    refine Ab f Z λa f=>Ac f Z λa f=>Ac f Z λa f=>Aa ?_
    refine Ap ?_
    have m:=m.fr 1
    have m:=m.eraseAt 1
    obtain rfl:=sj hd
    exact⟨[(iv (i64.wrap (x1+(i64.wrap ((i64.wrap (Int.tdiv (i64.wrap (x2-x1)) 4))*2))))),(iv 0)],⟨f.get _ _ Z,f.get _ _ Z,trivial⟩,f.d,_,[it0],gr,m,_,Z,Z,o0⟩
theorem Wk.V1 {v0:Value}{it0:Itm}{x0:(List (Value×LI))}{x1 x2:Int}(m:Mem W G w (it0::H))(o0:Ow (RTg R0) 42 G it0 v0 x0){y:((List (Value×LI)))}(hd:D.V1 x0 x1 x2=some y):
  Calls prog 158 #[v0,(iv x1),(iv x2),(.func (.func 58) #[] #[])] w (Res W G H (λG' Ho _=>∃i0:Itm,Ho=[i0]∧Ow (RTg R0) 42 G' i0 v0 y)):=by
 refine As (args:=[v0,(iv x1),(iv x2),(.func (.func 58) #[] #[])]) (N:=34) [] func158 Z Z (lb Z) Z λa f=> ?_
 unfold D.V1 at hd
 refine Ae ?_
 refine Ab f Z λa f=>Ac f Z λa f=>Au ?_
 refine Ab f Z λa f=>Ah f Z Z AO λa f=>Ac f Z λa f=>Aa ?_
 have⟨aa,ab,hd⟩:=bind_some hd
 refine AF (λa w=>∃ac:List (Value×LI),ac=aa∧∃(ad:GH) (ae:Itm),GLe G ad∧Fr a 34 []∧Mem W ad w (ae::H)∧Ow (RTg R0) 42 ad ae v0 ac) ?_ ?_
 ·refine Aj ?_
  refine AD (λaf a w=>∃ag:List (Value×LI),∃ah:Int,∃ai:Int,(ag,ah,ai)=af∧∃(aj:GH) (ak:Itm),GLe G aj∧Fr a 34 [(0,v0),(8,(iv ah)),(9,(iv ai))]∧Mem W aj w (ak::H)∧Ow (RTg R0) 42 aj ak v0 ag) ab ⟨_,_,_,Z,_,it0,gr,f.k Z,m,o0⟩ ?_
  clear ab f m
  rintro af al am an a w ⟨ag,ah,ai,rfl,aj,ak,ao,f,m,ap⟩
  refine Af (Ae ?_)
  refine Ab f Z λa f=>Ab f Z λa f=>Ah f Z Z AH λa f=>Aa ?_
  rcases Ad am with⟨aq,am⟩|⟨aq,am⟩
  ·refine Ak f Z aq ?_
   refine Al ?_
   refine Aj (Af ?_)
   refine BC Ay m ?_
   refine p_p 2 Z f (λ_=>A4 (f.e Z)) λa f=>p_p 3 Z f (λ_=>A4 (f.e Z)) λa f=>BD 12013 11 (by kernel_rfl) Z ?_
   refine Ag 0 12013 Z f Z λa f=>Ag 1 12013 Z f Z λa f=>Ag 4 12013 Z f Z λa f=>Ag 5 12013 Z f Z λa f=> ?_
   have⟨ar,au,am⟩:=bind_some am
   refine AG 6 12013 0 m ap T22 au Z f Z Z λav a aw f=>AR 7 12013 0 ap AZ aw au Z f Z λax a ay f=>Ag 8 12013 Z f Z λa f=>Ag 9 12013 Z f Z λa f=> ?_
   have⟨az,aA,am⟩:=bind_some am
   refine AG 10 12013 0 m ap T22 aA Z f Z Z λaB a aC f=>AR 11 12013 0 ap AZ aC aA Z f Z λaD a aE f=> ?_
   have⟨aF,aG,am⟩:=bind_some am
   refine AG 12 12013 0 m ap T22 aG Z f Z Z λaH a aI f=>AK λaJ w aK m=> ?_
   have ay:=(RTg.mono (RI.mono _)) _ _ _ _ aK ay
   have aE:=(RTg.mono (RI.mono _)) _ _ _ _ aK aE
   have ap:=Ow.mono (RTg.mono (RI.mono _)) aK ap
   refine Aw 0 m ap Z sizeOf42 f Z Z aI aG ay.cells ay.one1 ay λaL w m aM=> ?_
   have⟨aN,aO,am⟩:=bind_some am
   refine A6 0 m aM Z T22 f Z Z Z aO λaP a aQ f=>Aw 0 m aM Z sizeOf42 f Z Z aQ aO aE.cells aE.one1 aE λaR w m aS=>Au ?_
   refine Ab f Z λa f=>Ah f Z Z Ar λa f=>Ac f Z λa f=>Aa (Am ?_)
   refine Ab f Z λa f=>Ah f Z Z AO λa f=>Ac f Z λa f=>Aa ?_
   obtain rfl:=sj am
   exact⟨_,Z,_,_,_,Z,_,aR,(gt ao aK),f.k Z,m,aS⟩
  ·refine Ai f Z aq ?_
   refine Ax Z ?_
   obtain rfl:=sj am
   obtain rfl:=an _ rfl
   exact⟨_,Z,_,ak,ao,f.weak trivial,m,ap⟩
 ·rintro a w ⟨ac,rfl,ad,ae,aT,f,m,aU⟩
  obtain rfl:=sj hd
  exact⟨[],trivial,f.d,_,[ae],aT,m,_,Z,aU⟩
theorem Wk.g2 {v0:Value}{it0:Itm}{x0:(List (Value×LI))}{x1 x2:Int}(m:Mem W G w (it0::H))(o0:Ow (RTg R0) 42 G it0 v0 x0){y:Bool×((List (Value×LI)))}(hd:D.g2 x0 x1 x2=some y):
  Calls prog 159 #[v0,(iv x1),(iv x2),(.func (.func 58) #[] #[])] w (Res W G H (λG' Ho v=>∃i0:Itm,Ho=[i0]∧v=(.bool y.1)∧Ow (RTg R0) 42 G' i0 v0 y.2)):=by
 refine As (args:=[v0,(iv x1),(iv x2),(.func (.func 58) #[] #[])]) (N:=141) [.tmp 8] func159 Z Z (lb Z) Z λa f=> ?_
 unfold D.g2 at hd
 refine Ae ?_
 refine Ac f Z λa f=>Au ?_
 refine Ab f Z λa f=>Ah f Z Z Ar λa f=>Ac f Z λa f=>Aa (Af (Ae ?_))
 refine Ac f Z λa f=>Aa ?_
 have⟨aa,ab,hd⟩:=bind_some hd
 refine AF (λa w=>∃q_1621':(List (Value×LI)),aa= .inl q_1621'∧∃ac:List (Value×LI),ac=q_1621'∧∃(ad:GH) (ae:Itm),GLe G ad∧Fr a 141 []∧Mem W ad w (ae::H)∧Ow (RTg R0) 42 ad ae v0 ac) ?_ ?_
 ·refine Aj ?_
  refine AD (λaf a w=>∃ag:List (Value×LI),∃ah:Int,∃ai:Int,(ag,ah,ai)=af∧∃(aj:GH) (ak:Itm),GLe G aj∧Fr a 141 [(0,v0),(1,(iv x1)),(2,(iv x2)),(3,(.func (.func 58) #[] #[])),(9,(iv ah)),(10,(iv ai))]∧Mem W aj w (ak::H)∧Ow (RTg R0) 42 aj ak v0 ag) ab ⟨_,_,_,Z,_,it0,gr,f.k Z,m,o0⟩ ?_
  clear ab f m
  rintro af al am an a w ⟨ag,ah,ai,rfl,aj,ak,ao,f,m,ap⟩
  refine Af (Ae ?_)
  refine Ab f Z λa f=>Ah f Z Z AH λa f=>Aa ?_
  rcases Ad am with⟨aq,am⟩|⟨aq,am⟩
  ·refine Ak f Z aq ?_
   refine Al ?_
   refine Af (Aj (Af ?_))
   have⟨ar,au,am⟩:=bind_some am
   refine AF (λa w=>∃av:Int,av=ar∧∃(aw:GH),GLe aj aw∧Fr a 141 [(0,v0),(1,(iv x1)),(2,(iv x2)),(3,(.func (.func 58) #[] #[])),(9,(iv av)),(10,(iv ai))]∧Mem W aw w (ak::H)) ?_ ?_
   ·refine Aj ?_
    refine AD (λax a w=>∃ay:Int,ay=ax∧∃(az:GH),GLe aj az∧Fr a 141 [(0,v0),(1,(iv x1)),(2,(iv x2)),(3,(.func (.func 58) #[] #[])),(9,(iv ay)),(10,(iv ai))]∧Mem W az w (ak::H)) au ⟨_,Z,_,gr,f.k Z,m⟩ ?_
    clear au f m
    rintro ax aA aB aC a w ⟨ay,rfl,az,aD,f,m⟩
    have ap:=Ow.mono (RTg.mono (RI.mono _)) aD ap
    refine Af (Af ?_)
    refine A3 18 Ay (by kernel_rfl) m ?_
    refine Ag 0 18 Z f Z λa f=>Ag 1 18 Z f Z λa f=>q_p 2 18 Z f (λ_=>AA (f.e Z) (f.e Z) AH) λa f=>Ag 3 18 Z f Z λa f=> ?_
    have⟨aE,aF,aB⟩:=bind_some aB
    refine BZ (fuel':=0) (listed':= #[true,true,true,true,true,true,true,true,true,true,true,true,true,true,true,true,true,true]) (λa=>Fr a 141 [(0,v0),(1,(iv x1)),(2,(iv x2)),(3,(.func (.func 58) #[] #[])),(9,(iv ay)),(10,(iv ai)),(19,(iv ay)),(20,(iv x2)),(21,(.bool (decide (ay<x2)))),(22,(.bool (decide (ay<x2)))),(36,(.bool aE))]) ?_ ?_
    ·intro a f
     refine AK λaG w aH m=>Aa ?_
     rcases Ad aB with⟨aI,aB⟩|⟨aI,aB⟩
     ·refine Ak f Z aI ?_
      refine Al ?_
      refine Aj (Am ?_)
      refine Ab f Z λa f=>Ah f Z Z Ar λa f=>Ac f Z λa f=>Aa ?_
      obtain rfl:=sj aB
      exact⟨_,Z,_,Z,_,(gt aD aH),f.k Z,m⟩
     ·refine Ai f Z aI ?_
      refine Ax Z ?_
      obtain rfl:=sj aB
      obtain rfl:=aC _ rfl
      exact⟨_,Z,_,(gt aD aH),f.k Z,m⟩
    ·intro aJ
     rcases Ad aF with⟨aK,aF⟩|⟨aK,aF⟩
     ·refine Ag (hw:=wo f aK) 4 18 Z f Z λa f=> ?_
      refine Ag (hw:=wo f aK) 5 18 Z f Z λa f=>Ag (hw:=wo f aK) 6 18 Z f Z λa f=> ?_
      have⟨aL,aM,aF⟩:=bind_some aF
      refine AG (hw:=wo f aK) 7 18 0 m ap T22 aM Z f Z Z λaN a aO f=>AR (hw:=wo f aK) 8 18 0 ap AZ aO aM Z f Z λaP a aQ f=>Ag (hw:=wo f aK) 9 18 Z f Z λa f=>Ag (hw:=wo f aK) 10 18 Z f Z λa f=>q_p (hw:=wo f aK) 11 18 Z f (λ_=>AA (f.e Z) (f.e Z) AO) λa f=> ?_
      have⟨aR,aS,aF⟩:=bind_some aF
      refine AG (hw:=wo f aK) 12 18 0 m ap T22 aS Z f Z Z λaT a aU f=>AR (hw:=wo f aK) 13 18 0 ap AZ aU aS Z f Z λaV a aW f=> ?_
      have⟨aX,aY,aF⟩:=bind_some aF
      refine BG (i:=14) 18 Z (by kernel_rfl) Z f (Ba f Z Z Z aK) Z Z Z call58 (λ_ _ w aZ m=>Wk.c m (rd1 aZ (aQ.2)) (rd1 aZ (aW.2)) aY) λa f=>q_p (hw:=wo f aK) 15 18 Z f (λ_=>AA (f.e Z) (f.e Z) AH) λa f=>q_p (hw:=wo f aK) 16 18 Z f (λ_=>Bj (f.e Z)) λa f=>q_p 17 18 Z f (λ_=>AU (f.e Z) aK (f.e Z)) λa f=> ?_
      obtain rfl:=sj aF
      exact aJ _ (f.k Z)
     ·refine Ao 4 18 Z f aK λa f=> ?_
      refine Ao 5 18 Z f aK λa f=>Ao 6 18 Z f aK λa f=>Ao 7 18 Z f aK λa f=>Ao 8 18 Z f aK λa f=>Ao 9 18 Z f aK λa f=>Ao 10 18 Z f aK λa f=>Ao 11 18 Z f aK λa f=>Ao 12 18 Z f aK λa f=>Ao 13 18 Z f aK λa f=>Ao 14 18 Z f aK λa f=>Ao 15 18 Z f aK λa f=>Ao 16 18 Z f aK λa f=>q_p 17 18 Z f (λ_=>AV (f.e Z) aK (f.e Z)) λa f=> ?_
      obtain rfl:=sj aF
      exact aJ _ (f.k Z)
   ·rintro a w ⟨av,rfl,aw,a0,f,m⟩
    have ap:=Ow.mono (RTg.mono (RI.mono _)) a0 ap
    refine Af (Ae ?_)
    refine Ab f Z λa f=>Ab f Z λa f=>Ah f Z Z Bq λa f=>Aa ?_
    rcases Ad am with⟨a1,am⟩|⟨a1,am⟩
    ·refine Ak f Z a1 ?_
     refine Ae ?_
     refine Ac f Z λa f=>Aa ?_
     refine Ap ?_
     obtain rfl:=sj am
     obtain rfl:=an _ rfl
     obtain rfl:=sj hd
     exact⟨[(.bool true)],f.g Z,f.d,_,[ak],(gt ao a0),m,_,Z,Z,ap⟩
    ·refine Ai f Z a1 ?_
     refine Al ?_
     refine Af (Ae ?_)
     refine Ab f Z λa f=>Ab f Z λa f=>Ah f Z Z AO λa f=>Ah f Z Z AH λa f=>Aa ?_
     rcases Ad am with⟨a2,am⟩|⟨a2,am⟩
     ·refine Ak f Z a2 ?_
      refine Ae ?_
      refine Ac f Z λa f=>Aa ?_
      refine Ap ?_
      obtain rfl:=sj am
      obtain rfl:=an _ rfl
      obtain rfl:=sj hd
      exact⟨[(.bool false)],f.g Z,f.d,_,[ak],(gt ao a0),m,_,Z,Z,ap⟩
     ·refine Ai f Z a2 ?_
      refine Al ?_
      refine Af ?_
      refine BC Ay m ?_
      refine p_p 2 Z f (λ_=>A4 (f.e Z)) λa f=>p_p 3 Z f (λ_=>A4 (f.e Z)) λa f=>p_p 4 Z f (λ_=>AA (f.e Z) (f.e Z) AO) λa f=>BD 28015 12 (by kernel_rfl) Z ?_
      refine Ag 0 28015 Z f Z λa f=>Ag 1 28015 Z f Z λa f=>Ag 5 28015 Z f Z λa f=>Ag 6 28015 Z f Z λa f=>q_p 7 28015 Z f (λ_=>AA (f.e Z) (f.e Z) AO) λa f=> ?_
      have⟨a3,a4,am⟩:=bind_some am
      refine AG 8 28015 0 m ap T22 a4 Z f Z Z λa5 a a6 f=>AR 9 28015 0 ap AZ a6 a4 Z f Z λa7 a a8 f=>Ag 10 28015 Z f Z λa f=>Ag 11 28015 Z f Z λa f=> ?_
      have⟨a9,ba,am⟩:=bind_some am
      refine AG 12 28015 0 m ap T22 ba Z f Z Z λbb a bc f=>AR 13 28015 0 ap AZ bc ba Z f Z λbd a be f=> ?_
      have⟨bf,bg,am⟩:=bind_some am
      refine AG 14 28015 0 m ap T22 bg Z f Z Z λbh a bi f=>AK λbj w bk m=> ?_
      have a8:=(RTg.mono (RI.mono _)) _ _ _ _ bk a8
      have be:=(RTg.mono (RI.mono _)) _ _ _ _ bk be
      have ap:=Ow.mono (RTg.mono (RI.mono _)) bk ap
      refine Aw 0 m ap Z sizeOf42 f Z Z bi bg a8.cells a8.one1 a8 λbl w m bm=> ?_
      have⟨bn,bo,am⟩:=bind_some am
      refine A6 0 m bm Z T22 f Z Z Z bo λbp a bq f=>Aw 0 m bm Z sizeOf42 f Z Z bq bo be.cells be.one1 be λbr w m bs=>Aa (Af (Ae ?_))
      refine Ab f Z λa f=>Ab f Z λa f=>Ah f Z Z AO λa f=>Ah f Z Z BT λa f=>Aa ?_
      have⟨bt,bu,am⟩:=bind_some am
      refine AF (λa w=>∃bv:List (Value×LI),bv=bt∧∃(bw:GH) (bx:Itm),GLe bj bw∧Fr a 141 [(0,v0),(1,(iv x1)),(2,(iv x2)),(3,(.func (.func 58) #[] #[])),(9,(iv av)),(10,(iv ai))]∧Mem W bw w (bx::H)∧Ow (RTg R0) 42 bw bx v0 bv) ?_ ?_
      ·rcases Ad bu with⟨bz,bu⟩|⟨bz,bu⟩
       ·refine Ak f Z bz ?_
        refine Ae ?_
        refine Ab f Z λa f=>Ah f Z Z AO λa f=>Ac f Z λa f=>Aa ?_
        have⟨bA,bB,bu⟩:=bind_some bu
        refine AF (λa w=>∃bC:List (Value×LI),bC=bA∧∃(bD:GH) (bE:Itm),GLe bj bD∧Fr a 141 [(0,v0),(1,(iv x1)),(2,(iv x2)),(3,(.func (.func 58) #[] #[])),(9,(iv av)),(10,(iv ai))]∧Mem W bD w (bE::H)∧Ow (RTg R0) 42 bD bE v0 bC) ?_ ?_
        ·refine Aj ?_
         refine AD (λbF a w=>∃bG:List (Value×LI),∃bH:Int,(bG,bH)=bF∧∃(bI:GH) (bJ:Itm),GLe bj bI∧Fr a 141 [(0,v0),(1,(iv x1)),(2,(iv x2)),(3,(.func (.func 58) #[] #[])),(9,(iv av)),(10,(iv ai)),(11,(iv bH))]∧Mem W bI w (bJ::H)∧Ow (RTg R0) 42 bI bJ v0 bG) bB ⟨_,_,Z,_,br,gr,f.k Z,m,bs⟩ ?_
         clear bB f m
         rintro bF bK bL bM a w ⟨bG,bH,rfl,bI,bJ,bN,f,m,bO⟩
         refine Af (Ae ?_)
         refine Ab f Z λa f=>Ah f Z Z BT λa f=>Aa ?_
         rcases Ad bL with⟨bP,bL⟩|⟨bP,bL⟩
         ·refine Ak f Z bP ?_
          refine Al ?_
          refine Af (Aj (Af (Af ?_)))
          refine A3 13 Ay (by kernel_rfl) m ?_
          refine Ag 0 13 Z f Z λa f=>Ag 1 13 Z f Z λa f=>Ag 2 13 Z f Z λa f=> ?_
          have⟨bQ,bR,bL⟩:=bind_some bL
          refine AG 3 13 0 m bO T22 bR Z f Z Z λbS a bT f=>AR 4 13 0 bO AZ bT bR Z f Z λbU a bV f=>Ag 5 13 Z f Z λa f=>Ag 6 13 Z f Z λa f=>q_p 7 13 Z f (λ_=>AA (f.e Z) (f.e Z) AO) λa f=> ?_
          have⟨bW,bX,bL⟩:=bind_some bL
          refine AG 8 13 0 m bO T22 bX Z f Z Z λbY a bZ f=>AR 9 13 0 bO AZ bZ bX Z f Z λb0 a b1 f=> ?_
          have⟨b2,b3,bL⟩:=bind_some bL
          refine BG (i:=10) 13 Z (by kernel_rfl) Z f Z Z Z Z call58 (λ_ _ w b4 m=>Wk.c m (rd1 b4 (bV.2)) (rd1 b4 (b1.2)) b3) λa f=>q_p 11 13 Z f (λ_=>AA (f.e Z) (f.e Z) AH) λa f=>q_p 12 13 Z f (λ_=>Bj (f.e Z)) λa f=>AK λb5 w b6 m=> ?_
          have bV:=(RTg.mono (RI.mono _)) _ _ _ _ b6 bV
          have b1:=(RTg.mono (RI.mono _)) _ _ _ _ b6 b1
          have bO:=Ow.mono (RTg.mono (RI.mono _)) b6 bO
          refine Aa ?_
          rcases Ad bL with⟨b7,bL⟩|⟨b7,bL⟩
          ·refine Ak f Z b7 ?_
           refine Ax Z ?_
           obtain rfl:=sj bL
           obtain rfl:=bM _ rfl
           exact⟨_,Z,_,bJ,(gt bN b6),f.k Z,m,bO⟩
          ·refine Ai f Z b7 ?_
           refine Al ?_
           refine BC Ay m ?_
           refine p_p 2 Z f (λ_=>A4 (f.e Z)) λa f=>p_p 3 Z f (λ_=>A4 (f.e Z)) λa f=>p_p 4 Z f (λ_=>AA (f.e Z) (f.e Z) AO) λa f=>BD 28015 12 (by kernel_rfl) Z ?_
           refine Ag 0 28015 Z f Z λa f=>Ag 1 28015 Z f Z λa f=>Ag 5 28015 Z f Z λa f=>Ag 6 28015 Z f Z λa f=>q_p 7 28015 Z f (λ_=>AA (f.e Z) (f.e Z) AO) λa f=> ?_
           have⟨b8,b9,bL⟩:=bind_some bL
           refine AG 8 28015 0 m bO T22 b9 Z f Z Z λca a cb f=>AR 9 28015 0 bO AZ cb b9 Z f Z λcc a cd f=>Ag 10 28015 Z f Z λa f=>Ag 11 28015 Z f Z λa f=> ?_
           have⟨ce,cf,bL⟩:=bind_some bL
           refine AG 12 28015 0 m bO T22 cf Z f Z Z λcg a ch f=>AR 13 28015 0 bO AZ ch cf Z f Z λci a cj f=> ?_
           have⟨ck,cl,bL⟩:=bind_some bL
           refine AG 14 28015 0 m bO T22 cl Z f Z Z λcm a cn f=>AK λco w cp m=> ?_
           have cd:=(RTg.mono (RI.mono _)) _ _ _ _ cp cd
           have cj:=(RTg.mono (RI.mono _)) _ _ _ _ cp cj
           have bO:=Ow.mono (RTg.mono (RI.mono _)) cp bO
           refine Aw 0 m bO Z sizeOf42 f Z Z cn cl cd.cells cd.one1 cd λcq w m cr=> ?_
           have⟨cs,ct,bL⟩:=bind_some bL
           refine A6 0 m cr Z T22 f Z Z Z ct λcu a cv f=>Aw 0 m cr Z sizeOf42 f Z Z cv ct cj.cells cj.one1 cj λcw w m cx=>Aa (Am ?_)
           refine Ab f Z λa f=>Ah f Z Z AO λa f=>Ac f Z λa f=>Aa ?_
           obtain rfl:=sj bL
           exact⟨_,Z,_,_,Z,_,cw,(gt bN (gt b6 cp)),f.k Z,m,cx⟩
         ·refine Ai f Z bP ?_
          refine Ax Z ?_
          obtain rfl:=sj bL
          obtain rfl:=bM _ rfl
          exact⟨_,Z,_,bJ,bN,f.k Z,m,bO⟩
        ·rintro a w ⟨bC,rfl,bD,bE,cy,f,m,cz⟩
         obtain rfl:=sj bu
         exact⟨_,Z,_,bE,cy,f.k Z,m,cz⟩
       ·refine Ai f Z bz ?_
        refine Al ?_
        obtain rfl:=sj bu
        exact⟨_,Z,_,br,gr,f.k Z,m,bs⟩
      ·rintro a w ⟨bv,rfl,bw,bx,cA,f,m,cB⟩
       refine Ae ?_
       refine Ab f Z λa f=>Ab f Z λa f=>Ah f Z Z AO λa f=>Ah f Z Z BT λa f=>Aa ?_
       rcases Ad am with⟨cC,am⟩|⟨cC,am⟩
       ·refine Ak f Z cC ?_
        refine Ae ?_
        refine Ab f Z λa f=>Ah f Z Z Ar λa f=>Ac f Z λa f=>Aa ?_
        have⟨cD,cE,am⟩:=bind_some am
        refine AF (λa w=>∃cF:List (Value×LI),cF=cD∧∃(cG:GH) (cH:Itm),GLe bw cG∧Fr a 141 [(0,v0),(1,(iv x1)),(2,(iv x2)),(3,(.func (.func 58) #[] #[])),(9,(iv av)),(10,(iv ai))]∧Mem W cG w (cH::H)∧Ow (RTg R0) 42 cG cH v0 cF) ?_ ?_
        ·refine Aj ?_
         refine AD (λcI a w=>∃cJ:List (Value×LI),∃cK:Int,(cJ,cK)=cI∧∃(cL:GH) (cM:Itm),GLe bw cL∧Fr a 141 [(0,v0),(1,(iv x1)),(2,(iv x2)),(3,(.func (.func 58) #[] #[])),(9,(iv av)),(10,(iv ai)),(12,(iv cK))]∧Mem W cL w (cM::H)∧Ow (RTg R0) 42 cL cM v0 cJ) cE ⟨_,_,Z,_,bx,gr,f.k Z,m,cB⟩ ?_
         clear cE f m
         rintro cI cN cO cP a w ⟨cJ,cK,rfl,cL,cM,cQ,f,m,cR⟩
         refine Af (Ae ?_)
         refine Ab f Z λa f=>Ab f Z λa f=>Ah f Z Z AH λa f=>Aa ?_
         rcases Ad cO with⟨cS,cO⟩|⟨cS,cO⟩
         ·refine Ak f Z cS ?_
          refine Al ?_
          refine Af (Aj (Af (Af ?_)))
          refine A3 13 Ay (by kernel_rfl) m ?_
          refine Ag 0 13 Z f Z λa f=>Ag 1 13 Z f Z λa f=>Ag 2 13 Z f Z λa f=> ?_
          have⟨cT,cU,cO⟩:=bind_some cO
          refine AG 3 13 0 m cR T22 cU Z f Z Z λcV a cW f=>AR 4 13 0 cR AZ cW cU Z f Z λcX a cY f=>Ag 5 13 Z f Z λa f=>Ag 6 13 Z f Z λa f=>q_p 7 13 Z f (λ_=>AA (f.e Z) (f.e Z) AO) λa f=> ?_
          have⟨cZ,c0,cO⟩:=bind_some cO
          refine AG 8 13 0 m cR T22 c0 Z f Z Z λc1 a c2 f=>AR 9 13 0 cR AZ c2 c0 Z f Z λc3 a c4 f=> ?_
          have⟨c5,c6,cO⟩:=bind_some cO
          refine BG (i:=10) 13 Z (by kernel_rfl) Z f Z Z Z Z call58 (λ_ _ w c7 m=>Wk.c m (rd1 c7 (cY.2)) (rd1 c7 (c4.2)) c6) λa f=>q_p 11 13 Z f (λ_=>AA (f.e Z) (f.e Z) AH) λa f=>q_p 12 13 Z f (λ_=>Bj (f.e Z)) λa f=>AK λc8 w c9 m=> ?_
          have cY:=(RTg.mono (RI.mono _)) _ _ _ _ c9 cY
          have c4:=(RTg.mono (RI.mono _)) _ _ _ _ c9 c4
          have cR:=Ow.mono (RTg.mono (RI.mono _)) c9 cR
          refine Aa ?_
          rcases Ad cO with⟨da,cO⟩|⟨da,cO⟩
          ·refine Ak f Z da ?_
           refine Ax Z ?_
           obtain rfl:=sj cO
           obtain rfl:=cP _ rfl
           exact⟨_,Z,_,cM,(gt cQ c9),f.k Z,m,cR⟩
          ·refine Ai f Z da ?_
           refine Al ?_
           refine BC Ay m ?_
           refine p_p 2 Z f (λ_=>A4 (f.e Z)) λa f=>p_p 3 Z f (λ_=>A4 (f.e Z)) λa f=>p_p 4 Z f (λ_=>AA (f.e Z) (f.e Z) AO) λa f=>BD 28015 12 (by kernel_rfl) Z ?_
           refine Ag 0 28015 Z f Z λa f=>Ag 1 28015 Z f Z λa f=>Ag 5 28015 Z f Z λa f=>Ag 6 28015 Z f Z λa f=>q_p 7 28015 Z f (λ_=>AA (f.e Z) (f.e Z) AO) λa f=> ?_
           have⟨db,dc,cO⟩:=bind_some cO
           refine AG 8 28015 0 m cR T22 dc Z f Z Z λdd a de f=>AR 9 28015 0 cR AZ de dc Z f Z λdf a dg f=>Ag 10 28015 Z f Z λa f=>Ag 11 28015 Z f Z λa f=> ?_
           have⟨dh,di,cO⟩:=bind_some cO
           refine AG 12 28015 0 m cR T22 di Z f Z Z λdj a dk f=>AR 13 28015 0 cR AZ dk di Z f Z λdl a dm f=> ?_
           have⟨dn,dp,cO⟩:=bind_some cO
           refine AG 14 28015 0 m cR T22 dp Z f Z Z λdq a dr f=>AK λds w dt m=> ?_
           have dg:=(RTg.mono (RI.mono _)) _ _ _ _ dt dg
           have dm:=(RTg.mono (RI.mono _)) _ _ _ _ dt dm
           have cR:=Ow.mono (RTg.mono (RI.mono _)) dt cR
           refine Aw 0 m cR Z sizeOf42 f Z Z dr dp dg.cells dg.one1 dg λdu w m dv=> ?_
           have⟨dw,dx,cO⟩:=bind_some cO
           refine A6 0 m dv Z T22 f Z Z Z dx λdy a dz f=>Aw 0 m dv Z sizeOf42 f Z Z dz dx dm.cells dm.one1 dm λdA w m dB=>Aa (Am ?_)
           refine Ab f Z λa f=>Ah f Z Z Ar λa f=>Ac f Z λa f=>Aa ?_
           obtain rfl:=sj cO
           exact⟨_,Z,_,_,Z,_,dA,(gt cQ (gt c9 dt)),f.k Z,m,dB⟩
         ·refine Ai f Z cS ?_
          refine Ax Z ?_
          obtain rfl:=sj cO
          obtain rfl:=cP _ rfl
          exact⟨_,Z,_,cM,cQ,f.k Z,m,cR⟩
        ·rintro a w ⟨cF,rfl,cG,cH,dC,f,m,dD⟩
         refine Am ?_
         refine Ab f Z λa f=>Ah f Z Z Ar λa f=>Ac f Z λa f=>Aa ?_
         obtain rfl:=sj am
         exact⟨_,Z,_,_,_,Z,_,cH,(gt ao (gt a0 (gt bk (gt cA dC)))),f.k Z,m,dD⟩
       ·refine Ai f Z cC ?_
        refine Al ?_
        refine Am ?_
        refine Ab f Z λa f=>Ah f Z Z Ar λa f=>Ac f Z λa f=>Aa ?_
        obtain rfl:=sj am
        exact⟨_,Z,_,_,_,Z,_,bx,(gt ao (gt a0 (gt bk cA))),f.k Z,m,cB⟩
  ·refine Ai f Z aq ?_
   refine Ax Z ?_
   obtain rfl:=sj am
   obtain rfl:=an _ rfl
   exact⟨_,Z,_,Z,_,ak,ao,f.weak trivial,m,ap⟩
 ·rintro a w ⟨_,rfl,ac,rfl,ad,ae,dE,f,m,dF⟩
  refine Ae ?_
  refine Ac f Z λa f=>Aa ?_
  refine Ap ?_
  obtain rfl:=sj hd
  exact⟨[(.bool false)],f.g Z,f.d,_,[ae],dE,m,_,Z,Z,dF⟩
theorem Wk.H1 {v0:Value}{it0:Itm}{x0:(List (Value×LI))}{x1 x2 x3:Int}(m:Mem W G w (it0::H))(o0:Ow (RTg R0) 42 G it0 v0 x0){y:Int×((List (Value×LI)))}(hd:D.H1 x0 x1 x2 x3=some y):
  Calls prog 160 #[v0,(iv x1),(iv x2),(iv x3),(.func (.func 58) #[] #[])] w (Res W G H (λG' Ho v=>∃i0:Itm,Ho=[i0]∧v=(iv y.1)∧Ow (RTg R0) 42 G' i0 v0 y.2)):=by
 refine As (args:=[v0,(iv x1),(iv x2),(iv x3),(.func (.func 58) #[] #[])]) (N:=90) [.tmp 10] func160 Z Z (lb Z) Z λa f=> ?_
 unfold D.H1 at hd
 refine Ae ?_
 refine Ac f Z λa f=>Aa (Af ?_)
 refine BC Ay m ?_
 refine p_p 2 Z f (λ_=>A4 (f.e Z)) λa f=>p_p 3 Z f (λ_=>A4 (f.e Z)) λa f=>BD 12013 11 (by kernel_rfl) Z ?_
 refine Ag 0 12013 Z f Z λa f=>Ag 1 12013 Z f Z λa f=>Ag 4 12013 Z f Z λa f=>Ag 5 12013 Z f Z λa f=> ?_
 have⟨aa,ab,hd⟩:=bind_some hd
 refine AG 6 12013 0 m o0 T22 ab Z f Z Z λac a ad f=>AR 7 12013 0 o0 AZ ad ab Z f Z λae a af f=>Ag 8 12013 Z f Z λa f=>Ag 9 12013 Z f Z λa f=> ?_
 have⟨ag,ah,hd⟩:=bind_some hd
 refine AG 10 12013 0 m o0 T22 ah Z f Z Z λai a aj f=>AR 11 12013 0 o0 AZ aj ah Z f Z λak a al f=> ?_
 have⟨am,an,hd⟩:=bind_some hd
 refine AG 12 12013 0 m o0 T22 an Z f Z Z λao a ap f=>AK λaq w ar m=> ?_
 have af:=(RTg.mono (RI.mono _)) _ _ _ _ ar af
 have al:=(RTg.mono (RI.mono _)) _ _ _ _ ar al
 have o0:=Ow.mono (RTg.mono (RI.mono _)) ar o0
 refine Aw 0 m o0 Z sizeOf42 f Z Z ap an af.cells af.one1 af λau w m av=> ?_
 have⟨aw,ax,hd⟩:=bind_some hd
 refine A6 0 m av Z T22 f Z Z Z ax λay a az f=>Aw 0 m av Z sizeOf42 f Z Z az ax al.cells al.one1 al λaA w m aB=>Au ?_
 refine Ab f Z λa f=>Ah f Z Z Ar λa f=>Ab f Z λa f=>Ah f Z Z AO λa f=>Ac f Z λa f=>Ac f Z λa f=>Aa (Af ?_)
 have⟨aC,aD,hd⟩:=bind_some hd
 refine AF (λa w=>∃aE:List (Value×LI),∃aF:Int,(aE,aF)=aC∧∃(aG:GH) (aH:Itm),GLe aq aG∧Fr a 90 [(11,(iv aF))]∧Mem W aG w (aH::H)∧Ow (RTg R0) 42 aG aH v0 aE) ?_ ?_
 ·refine Aj ?_
  refine AD (λaI a w=>∃aJ:List (Value×LI),∃aK:Int,∃aL:Int,(aJ,aK,aL)=aI∧∃(aM:GH) (aN:Itm),GLe aq aM∧Fr a 90 [(0,v0),(1,(iv x1)),(4,(.func (.func 58) #[] #[])),(11,(iv aK)),(12,(iv aL))]∧Mem W aM w (aN::H)∧Ow (RTg R0) 42 aM aN v0 aJ) aD ⟨_,_,_,Z,_,aA,gr,f.k Z,m,aB⟩ ?_
  clear aD f m
  rintro aI aO aP aQ a w ⟨aJ,aK,aL,rfl,aM,aN,aR,f,m,aS⟩
  refine Aj (Af ?_)
  have⟨aT,aU,aP⟩:=bind_some aP
  refine AF (λa w=>∃aV:Int,aV=aT∧∃(aW:GH),GLe aM aW∧Fr a 90 [(0,v0),(1,(iv x1)),(4,(.func (.func 58) #[] #[])),(11,(iv aV)),(12,(iv aL))]∧Mem W aW w (aN::H)) ?_ ?_
  ·refine Aj ?_
   refine AD (λaX a w=>∃aY:Int,aY=aX∧∃(aZ:GH),GLe aM aZ∧Fr a 90 [(0,v0),(1,(iv x1)),(4,(.func (.func 58) #[] #[])),(11,(iv aY)),(12,(iv aL))]∧Mem W aZ w (aN::H)) aU ⟨_,Z,_,gr,f.k Z,m⟩ ?_
   clear aU f m
   rintro aX a0 a1 a2 a w ⟨aY,rfl,aZ,a3,f,m⟩
   have aS:=Ow.mono (RTg.mono (RI.mono _)) a3 aS
   refine Af (Af ?_)
   refine A3 17 Ay (by kernel_rfl) m ?_
   refine Ag 0 17 Z f Z λa f=>Ag 1 17 Z f Z λa f=>q_p 2 17 Z f (λ_=>AA (f.e Z) (f.e Z) Ci) λa f=>Ag 3 17 Z f Z λa f=> ?_
   have⟨a4,a5,a1⟩:=bind_some a1
   refine BZ (fuel':=0) (listed':= #[true,true,true,true,true,true,true,true,true,true,true,true,true,true,true,true,true]) (λa=>Fr a 90 [(0,v0),(1,(iv x1)),(4,(.func (.func 58) #[] #[])),(11,(iv aY)),(12,(iv aL)),(31,(iv aY)),(32,(iv aL)),(33,(.bool (decide (aY≤aL)))),(34,(.bool (decide (aY≤aL)))),(47,(.bool a4))]) ?_ ?_
   ·intro a f
    refine AK λa6 w a7 m=>Aa ?_
    rcases Ad a1 with⟨a8,a1⟩|⟨a8,a1⟩
    ·refine Ak f Z a8 ?_
     refine Al ?_
     refine Aj (Am ?_)
     refine Ab f Z λa f=>Ah f Z Z Ar λa f=>Ac f Z λa f=>Aa ?_
     obtain rfl:=sj a1
     exact⟨_,Z,_,Z,_,(gt a3 a7),f.k Z,m⟩
    ·refine Ai f Z a8 ?_
     refine Ax Z ?_
     obtain rfl:=sj a1
     obtain rfl:=a2 _ rfl
     exact⟨_,Z,_,(gt a3 a7),f.k Z,m⟩
   ·intro a9
    rcases Ad a5 with⟨ba,a5⟩|⟨ba,a5⟩
    ·refine Ag (hw:=wo f ba) 4 17 Z f Z λa f=> ?_
     refine Ag (hw:=wo f ba) 5 17 Z f Z λa f=>Ag (hw:=wo f ba) 6 17 Z f Z λa f=> ?_
     have⟨bb,bc,a5⟩:=bind_some a5
     refine AG (hw:=wo f ba) 7 17 0 m aS T22 bc Z f Z Z λbd a be f=>AR (hw:=wo f ba) 8 17 0 aS AZ be bc Z f Z λbf a bg f=>Ag (hw:=wo f ba) 9 17 Z f Z λa f=>Ag (hw:=wo f ba) 10 17 Z f Z λa f=> ?_
     have⟨bh,bi,a5⟩:=bind_some a5
     refine AG (hw:=wo f ba) 11 17 0 m aS T22 bi Z f Z Z λbj a bk f=>AR (hw:=wo f ba) 12 17 0 aS AZ bk bi Z f Z λbl a bm f=> ?_
     have⟨bn,bo,a5⟩:=bind_some a5
     refine BG (i:=13) 17 Z (by kernel_rfl) Z f (Ba f Z Z Z ba) Z Z Z call58 (λ_ _ w bp m=>Wk.c m (rd1 bp (bg.2)) (rd1 bp (bm.2)) bo) λa f=>q_p (hw:=wo f ba) 14 17 Z f (λ_=>AA (f.e Z) (f.e Z) AH) λa f=>q_p (hw:=wo f ba) 15 17 Z f (λ_=>Bj (f.e Z)) λa f=>q_p 16 17 Z f (λ_=>AU (f.e Z) ba (f.e Z)) λa f=> ?_
     obtain rfl:=sj a5
     exact a9 _ (f.k Z)
    ·refine Ao 4 17 Z f ba λa f=> ?_
     refine Ao 5 17 Z f ba λa f=>Ao 6 17 Z f ba λa f=>Ao 7 17 Z f ba λa f=>Ao 8 17 Z f ba λa f=>Ao 9 17 Z f ba λa f=>Ao 10 17 Z f ba λa f=>Ao 11 17 Z f ba λa f=>Ao 12 17 Z f ba λa f=>Ao 13 17 Z f ba λa f=>Ao 14 17 Z f ba λa f=>Ao 15 17 Z f ba λa f=>q_p 16 17 Z f (λ_=>AV (f.e Z) ba (f.e Z)) λa f=> ?_
     obtain rfl:=sj a5
     exact a9 _ (f.k Z)
  ·rintro a w ⟨aV,rfl,aW,bq,f,m⟩
   have aS:=Ow.mono (RTg.mono (RI.mono _)) bq aS
   refine Af ?_
   have⟨br,bs,aP⟩:=bind_some aP
   refine AF (λa w=>∃bt:Int,bt=br∧∃(bu:GH),GLe aW bu∧Fr a 90 [(0,v0),(1,(iv x1)),(4,(.func (.func 58) #[] #[])),(11,(iv aV)),(12,(iv bt))]∧Mem W bu w (aN::H)) ?_ ?_
   ·refine Aj ?_
    refine AD (λbv a w=>∃bw:Int,bw=bv∧∃(bx:GH),GLe aW bx∧Fr a 90 [(0,v0),(1,(iv x1)),(4,(.func (.func 58) #[] #[])),(11,(iv aV)),(12,(iv bw))]∧Mem W bx w (aN::H)) bs ⟨_,Z,_,gr,f.k Z,m⟩ ?_
    clear bs f m
    rintro bv bz bA bB a w ⟨bw,rfl,bx,bC,f,m⟩
    have aS:=Ow.mono (RTg.mono (RI.mono _)) bC aS
    refine Af (Af ?_)
    refine A3 16 Ay (by kernel_rfl) m ?_
    refine Ag 0 16 Z f Z λa f=>Ag 1 16 Z f Z λa f=>q_p 2 16 Z f (λ_=>AA (f.e Z) (f.e Z) Ci) λa f=>Ag 3 16 Z f Z λa f=> ?_
    have⟨bD,bE,bA⟩:=bind_some bA
    refine BZ (fuel':=0) (listed':= #[true,true,true,true,true,true,true,true,true,true,true,true,true,true,true,true]) (λa=>Fr a 90 [(0,v0),(1,(iv x1)),(4,(.func (.func 58) #[] #[])),(11,(iv aV)),(12,(iv bw)),(50,(iv aV)),(51,(iv bw)),(52,(.bool (decide (aV≤bw)))),(53,(.bool (decide (aV≤bw)))),(65,(.bool bD))]) ?_ ?_
    ·intro a f
     refine AK λbF w bG m=>Aa ?_
     rcases Ad bA with⟨bH,bA⟩|⟨bH,bA⟩
     ·refine Ak f Z bH ?_
      refine Al ?_
      refine Aj (Am ?_)
      refine Ab f Z λa f=>Ah f Z Z AO λa f=>Ac f Z λa f=>Aa ?_
      obtain rfl:=sj bA
      exact⟨_,Z,_,Z,_,(gt bC bG),f.k Z,m⟩
     ·refine Ai f Z bH ?_
      refine Ax Z ?_
      obtain rfl:=sj bA
      obtain rfl:=bB _ rfl
      exact⟨_,Z,_,(gt bC bG),f.k Z,m⟩
    ·intro bI
     rcases Ad bE with⟨bJ,bE⟩|⟨bJ,bE⟩
     ·refine Ag (hw:=wo f bJ) 4 16 Z f Z λa f=> ?_
      refine Ag (hw:=wo f bJ) 5 16 Z f Z λa f=>Ag (hw:=wo f bJ) 6 16 Z f Z λa f=> ?_
      have⟨bK,bL,bE⟩:=bind_some bE
      refine AG (hw:=wo f bJ) 7 16 0 m aS T22 bL Z f Z Z λbM a bN f=>AR (hw:=wo f bJ) 8 16 0 aS AZ bN bL Z f Z λbO a bP f=>Ag (hw:=wo f bJ) 9 16 Z f Z λa f=>Ag (hw:=wo f bJ) 10 16 Z f Z λa f=> ?_
      have⟨bQ,bR,bE⟩:=bind_some bE
      refine AG (hw:=wo f bJ) 11 16 0 m aS T22 bR Z f Z Z λbS a bT f=>AR (hw:=wo f bJ) 12 16 0 aS AZ bT bR Z f Z λbU a bV f=> ?_
      have⟨bW,bX,bE⟩:=bind_some bE
      refine BG (i:=13) 16 Z (by kernel_rfl) Z f (Ba f Z Z Z bJ) Z Z Z call58 (λ_ _ w bY m=>Wk.c m (rd1 bY (bP.2)) (rd1 bY (bV.2)) bX) λa f=>q_p (hw:=wo f bJ) 14 16 Z f (λ_=>AA (f.e Z) (f.e Z) AH) λa f=>q_p 15 16 Z f (λ_=>AU (f.e Z) bJ (f.e Z)) λa f=> ?_
      obtain rfl:=sj bE
      exact bI _ (f.k Z)
     ·refine Ao 4 16 Z f bJ λa f=> ?_
      refine Ao 5 16 Z f bJ λa f=>Ao 6 16 Z f bJ λa f=>Ao 7 16 Z f bJ λa f=>Ao 8 16 Z f bJ λa f=>Ao 9 16 Z f bJ λa f=>Ao 10 16 Z f bJ λa f=>Ao 11 16 Z f bJ λa f=>Ao 12 16 Z f bJ λa f=>Ao 13 16 Z f bJ λa f=>Ao 14 16 Z f bJ λa f=>q_p 15 16 Z f (λ_=>AV (f.e Z) bJ (f.e Z)) λa f=> ?_
      obtain rfl:=sj bE
      exact bI _ (f.k Z)
   ·rintro a w ⟨bt,rfl,bu,bZ,f,m⟩
    have aS:=Ow.mono (RTg.mono (RI.mono _)) bZ aS
    refine Af (Ae ?_)
    refine Ab f Z λa f=>Ab f Z λa f=>Ah f Z Z Ce λa f=>Aa ?_
    rcases Ad aP with⟨b0,aP⟩|⟨b0,aP⟩
    ·refine Ak f Z b0 ?_
     refine Ax Z ?_
     obtain rfl:=sj aP
     obtain rfl:=aQ _ rfl
     exact⟨_,_,Z,_,aN,(gt aR (gt bq bZ)),f.k Z,m,aS⟩
    ·refine Ai f Z b0 ?_
     refine Al ?_
     refine Af ?_
     refine BC Ay m ?_
     refine p_p 2 Z f (λ_=>A4 (f.e Z)) λa f=>p_p 3 Z f (λ_=>A4 (f.e Z)) λa f=>BD 12013 11 (by kernel_rfl) Z ?_
     refine Ag 0 12013 Z f Z λa f=>Ag 1 12013 Z f Z λa f=>Ag 4 12013 Z f Z λa f=>Ag 5 12013 Z f Z λa f=> ?_
     have⟨b1,b2,aP⟩:=bind_some aP
     refine AG 6 12013 0 m aS T22 b2 Z f Z Z λb3 a b4 f=>AR 7 12013 0 aS AZ b4 b2 Z f Z λb5 a b6 f=>Ag 8 12013 Z f Z λa f=>Ag 9 12013 Z f Z λa f=> ?_
     have⟨b7,b8,aP⟩:=bind_some aP
     refine AG 10 12013 0 m aS T22 b8 Z f Z Z λb9 a ca f=>AR 11 12013 0 aS AZ ca b8 Z f Z λcb a cc f=> ?_
     have⟨cd,ce,aP⟩:=bind_some aP
     refine AG 12 12013 0 m aS T22 ce Z f Z Z λcf a cg f=>AK λch w ci m=> ?_
     have b6:=(RTg.mono (RI.mono _)) _ _ _ _ ci b6
     have cc:=(RTg.mono (RI.mono _)) _ _ _ _ ci cc
     have aS:=Ow.mono (RTg.mono (RI.mono _)) ci aS
     refine Aw 0 m aS Z sizeOf42 f Z Z cg ce b6.cells b6.one1 b6 λcj w m ck=> ?_
     have⟨cl,cm,aP⟩:=bind_some aP
     refine A6 0 m ck Z T22 f Z Z Z cm λcn a co f=>Aw 0 m ck Z sizeOf42 f Z Z co cm cc.cells cc.one1 cc λcp w m cq=>Au ?_
     refine Ab f Z λa f=>Ah f Z Z Ar λa f=>Ac f Z λa f=>Aa (Am ?_)
     refine Ab f Z λa f=>Ah f Z Z AO λa f=>Ac f Z λa f=>Aa ?_
     obtain rfl:=sj aP
     exact⟨_,Z,_,_,_,Z,_,cp,(gt aR (gt bq (gt bZ ci))),f.k Z,m,cq⟩
 ·rintro a w ⟨aE,aF,rfl,aG,aH,cr,f,m,cs⟩
  refine Ae ?_
  refine Ab f Z λa f=>Ac f Z λa f=>Aa ?_
  refine Ap ?_
  obtain rfl:=sj hd
  exact⟨[(iv aF)],f.g Z,f.d,_,[aH],(gt ar cr),m,_,Z,Z,cs⟩
theorem Wk.E1 {v0:Value}{it0:Itm}{x0:(List (Value×LI))}{x1 x2 x3:Int}(m:Mem W G w (it0::H))(o0:Ow (RTg R0) 42 G it0 v0 x0){y:Int×Bool×((List (Value×LI)))}(hd:D.E1 x0 x1 x2 x3=some y):
  Calls prog 161 #[v0,(iv x1),(iv x2),(iv x3),(.func (.func 58) #[] #[])] w (Res W G H (λG' Ho v=>∃i0:Itm,Ho=[i0]∧v= .tuple #[(iv y.1),(.bool y.2.1)]∧Ow (RTg R0) 42 G' i0 v0 y.2.2)):=by
 refine As (args:=[v0,(iv x1),(iv x2),(iv x3),(.func (.func 58) #[] #[])]) (N:=178) [.tmp 10,.tmp 11] func161 Z Z (lb Z) Z λa f=> ?_
 unfold D.E1 at hd
 refine Ae ?_
 refine Ac f Z λa f=>Ac f Z λa f=>Aa (Af ?_)
 refine BC Ay m ?_
 refine p_p 2 Z f (λ_=>A4 (f.e Z)) λa f=>p_p 3 Z f (λ_=>A4 (f.e Z)) λa f=>BD 12013 11 (by kernel_rfl) Z ?_
 refine Ag 0 12013 Z f Z λa f=>Ag 1 12013 Z f Z λa f=>Ag 4 12013 Z f Z λa f=>Ag 5 12013 Z f Z λa f=> ?_
 have⟨aa,ab,hd⟩:=bind_some hd
 refine AG 6 12013 0 m o0 T22 ab Z f Z Z λac a ad f=>AR 7 12013 0 o0 AZ ad ab Z f Z λae a af f=>Ag 8 12013 Z f Z λa f=>Ag 9 12013 Z f Z λa f=> ?_
 have⟨ag,ah,hd⟩:=bind_some hd
 refine AG 10 12013 0 m o0 T22 ah Z f Z Z λai a aj f=>AR 11 12013 0 o0 AZ aj ah Z f Z λak a al f=> ?_
 have⟨am,an,hd⟩:=bind_some hd
 refine AG 12 12013 0 m o0 T22 an Z f Z Z λao a ap f=>AK λaq w ar m=> ?_
 have af:=(RTg.mono (RI.mono _)) _ _ _ _ ar af
 have al:=(RTg.mono (RI.mono _)) _ _ _ _ ar al
 have o0:=Ow.mono (RTg.mono (RI.mono _)) ar o0
 refine Aw 0 m o0 Z sizeOf42 f Z Z ap an af.cells af.one1 af λau w m av=> ?_
 have⟨aw,ax,hd⟩:=bind_some hd
 refine A6 0 m av Z T22 f Z Z Z ax λay a az f=>Aw 0 m av Z sizeOf42 f Z Z az ax al.cells al.one1 al λaA w m aB=>Au ?_
 refine Ab f Z λa f=>Ah f Z Z Ar λa f=>Ab f Z λa f=>Ah f Z Z AO λa f=>Ac f Z λa f=>Ac f Z λa f=>Aa (Af ?_)
 have⟨aC,aD,hd⟩:=bind_some hd
 refine AF (λa w=>∃aE:Int,aE=aC∧∃(aF:GH),GLe aq aF∧Fr a 178 [(0,v0),(1,(iv x1)),(4,(.func (.func 58) #[] #[])),(12,(iv aE)),(13,(iv (i64.wrap (x2-1))))]∧Mem W aF w (aA::H)) ?_ ?_
 ·refine Aj ?_
  refine AD (λaG a w=>∃aH:Int,aH=aG∧∃(aI:GH),GLe aq aI∧Fr a 178 [(0,v0),(1,(iv x1)),(4,(.func (.func 58) #[] #[])),(12,(iv aH)),(13,(iv (i64.wrap (x2-1))))]∧Mem W aI w (aA::H)) aD ⟨_,Z,_,gr,f.k Z,m⟩ ?_
  clear aD f m
  rintro aG aJ aK aL a w ⟨aH,rfl,aI,aM,f,m⟩
  have aB:=Ow.mono (RTg.mono (RI.mono _)) aM aB
  refine Af (Af ?_)
  refine A3 16 Ay (by kernel_rfl) m ?_
  refine Ag 0 16 Z f Z λa f=>Ag 1 16 Z f Z λa f=>q_p 2 16 Z f (λ_=>AA (f.e Z) (f.e Z) Ci) λa f=>Ag 3 16 Z f Z λa f=> ?_
  have⟨aN,aO,aK⟩:=bind_some aK
  refine BZ (fuel':=0) (listed':= #[true,true,true,true,true,true,true,true,true,true,true,true,true,true,true,true]) (λa=>Fr a 178 [(0,v0),(1,(iv x1)),(4,(.func (.func 58) #[] #[])),(12,(iv aH)),(13,(iv (i64.wrap (x2-1)))),(32,(iv aH)),(33,(iv (i64.wrap (x2-1)))),(34,(.bool (decide (aH≤(i64.wrap (x2-1)))))),(35,(.bool (decide (aH≤(i64.wrap (x2-1)))))),(47,(.bool aN))]) ?_ ?_
  ·intro a f
   refine AK λaP w aQ m=>Aa ?_
   rcases Ad aK with⟨aR,aK⟩|⟨aR,aK⟩
   ·refine Ak f Z aR ?_
    refine Al ?_
    refine Aj (Am ?_)
    refine Ab f Z λa f=>Ah f Z Z Ar λa f=>Ac f Z λa f=>Aa ?_
    obtain rfl:=sj aK
    exact⟨_,Z,_,Z,_,(gt aM aQ),f.k Z,m⟩
   ·refine Ai f Z aR ?_
    refine Ax Z ?_
    obtain rfl:=sj aK
    obtain rfl:=aL _ rfl
    exact⟨_,Z,_,(gt aM aQ),f.k Z,m⟩
  ·intro aS
   rcases Ad aO with⟨aT,aO⟩|⟨aT,aO⟩
   ·refine Ag (hw:=wo f aT) 4 16 Z f Z λa f=> ?_
    refine Ag (hw:=wo f aT) 5 16 Z f Z λa f=>Ag (hw:=wo f aT) 6 16 Z f Z λa f=> ?_
    have⟨aU,aV,aO⟩:=bind_some aO
    refine AG (hw:=wo f aT) 7 16 0 m aB T22 aV Z f Z Z λaW a aX f=>AR (hw:=wo f aT) 8 16 0 aB AZ aX aV Z f Z λaY a aZ f=>Ag (hw:=wo f aT) 9 16 Z f Z λa f=>Ag (hw:=wo f aT) 10 16 Z f Z λa f=> ?_
    have⟨a0,a1,aO⟩:=bind_some aO
    refine AG (hw:=wo f aT) 11 16 0 m aB T22 a1 Z f Z Z λa2 a a3 f=>AR (hw:=wo f aT) 12 16 0 aB AZ a3 a1 Z f Z λa4 a a5 f=> ?_
    have⟨a6,a7,aO⟩:=bind_some aO
    refine BG (i:=13) 16 Z (by kernel_rfl) Z f (Ba f Z Z Z aT) Z Z Z call58 (λ_ _ w a8 m=>Wk.c m (rd1 a8 (aZ.2)) (rd1 a8 (a5.2)) a7) λa f=>q_p (hw:=wo f aT) 14 16 Z f (λ_=>AA (f.e Z) (f.e Z) AH) λa f=>q_p 15 16 Z f (λ_=>AU (f.e Z) aT (f.e Z)) λa f=> ?_
    obtain rfl:=sj aO
    exact aS _ (f.k Z)
   ·refine Ao 4 16 Z f aT λa f=> ?_
    refine Ao 5 16 Z f aT λa f=>Ao 6 16 Z f aT λa f=>Ao 7 16 Z f aT λa f=>Ao 8 16 Z f aT λa f=>Ao 9 16 Z f aT λa f=>Ao 10 16 Z f aT λa f=>Ao 11 16 Z f aT λa f=>Ao 12 16 Z f aT λa f=>Ao 13 16 Z f aT λa f=>Ao 14 16 Z f aT λa f=>q_p 15 16 Z f (λ_=>AV (f.e Z) aT (f.e Z)) λa f=> ?_
    obtain rfl:=sj aO
    exact aS _ (f.k Z)
 ·rintro a w ⟨aE,rfl,aF,a9,f,m⟩
  have aB:=Ow.mono (RTg.mono (RI.mono _)) a9 aB
  refine Af ?_
  have⟨ba,bb,hd⟩:=bind_some hd
  refine AF (λa w=>∃bc:Int,bc=ba∧∃(bd:GH),GLe aF bd∧Fr a 178 [(0,v0),(1,(iv x1)),(4,(.func (.func 58) #[] #[])),(12,(iv aE)),(13,(iv bc))]∧Mem W bd w (aA::H)) ?_ ?_
  ·refine Aj ?_
   refine AD (λbe a w=>∃bf:Int,bf=be∧∃(bg:GH),GLe aF bg∧Fr a 178 [(0,v0),(1,(iv x1)),(4,(.func (.func 58) #[] #[])),(12,(iv aE)),(13,(iv bf))]∧Mem W bg w (aA::H)) bb ⟨_,Z,_,gr,f.k Z,m⟩ ?_
   clear bb f m
   rintro be bh bi bj a w ⟨bf,rfl,bg,bk,f,m⟩
   have aB:=Ow.mono (RTg.mono (RI.mono _)) bk aB
   refine Af (Af ?_)
   refine A3 17 Ay (by kernel_rfl) m ?_
   refine Ag 0 17 Z f Z λa f=>Ag 1 17 Z f Z λa f=>q_p 2 17 Z f (λ_=>AA (f.e Z) (f.e Z) Ci) λa f=>Ag 3 17 Z f Z λa f=> ?_
   have⟨bl,bm,bi⟩:=bind_some bi
   refine BZ (fuel':=0) (listed':= #[true,true,true,true,true,true,true,true,true,true,true,true,true,true,true,true,true]) (λa=>Fr a 178 [(0,v0),(1,(iv x1)),(4,(.func (.func 58) #[] #[])),(12,(iv aE)),(13,(iv bf)),(50,(iv aE)),(51,(iv bf)),(52,(.bool (decide (aE≤bf)))),(53,(.bool (decide (aE≤bf)))),(66,(.bool bl))]) ?_ ?_
   ·intro a f
    refine AK λbn w bo m=>Aa ?_
    rcases Ad bi with⟨bp,bi⟩|⟨bp,bi⟩
    ·refine Ak f Z bp ?_
     refine Al ?_
     refine Aj (Am ?_)
     refine Ab f Z λa f=>Ah f Z Z AO λa f=>Ac f Z λa f=>Aa ?_
     obtain rfl:=sj bi
     exact⟨_,Z,_,Z,_,(gt bk bo),f.k Z,m⟩
    ·refine Ai f Z bp ?_
     refine Ax Z ?_
     obtain rfl:=sj bi
     obtain rfl:=bj _ rfl
     exact⟨_,Z,_,(gt bk bo),f.k Z,m⟩
   ·intro bq
    rcases Ad bm with⟨br,bm⟩|⟨br,bm⟩
    ·refine Ag (hw:=wo f br) 4 17 Z f Z λa f=> ?_
     refine Ag (hw:=wo f br) 5 17 Z f Z λa f=>Ag (hw:=wo f br) 6 17 Z f Z λa f=> ?_
     have⟨bs,bt,bm⟩:=bind_some bm
     refine AG (hw:=wo f br) 7 17 0 m aB T22 bt Z f Z Z λbu a bv f=>AR (hw:=wo f br) 8 17 0 aB AZ bv bt Z f Z λbw a bx f=>Ag (hw:=wo f br) 9 17 Z f Z λa f=>Ag (hw:=wo f br) 10 17 Z f Z λa f=> ?_
     have⟨bz,bA,bm⟩:=bind_some bm
     refine AG (hw:=wo f br) 11 17 0 m aB T22 bA Z f Z Z λbB a bC f=>AR (hw:=wo f br) 12 17 0 aB AZ bC bA Z f Z λbD a bE f=> ?_
     have⟨bF,bG,bm⟩:=bind_some bm
     refine BG (i:=13) 17 Z (by kernel_rfl) Z f (Ba f Z Z Z br) Z Z Z call58 (λ_ _ w bH m=>Wk.c m (rd1 bH (bx.2)) (rd1 bH (bE.2)) bG) λa f=>q_p (hw:=wo f br) 14 17 Z f (λ_=>AA (f.e Z) (f.e Z) AH) λa f=>q_p (hw:=wo f br) 15 17 Z f (λ_=>Bj (f.e Z)) λa f=>q_p 16 17 Z f (λ_=>AU (f.e Z) br (f.e Z)) λa f=> ?_
     obtain rfl:=sj bm
     exact bq _ (f.k Z)
    ·refine Ao 4 17 Z f br λa f=> ?_
     refine Ao 5 17 Z f br λa f=>Ao 6 17 Z f br λa f=>Ao 7 17 Z f br λa f=>Ao 8 17 Z f br λa f=>Ao 9 17 Z f br λa f=>Ao 10 17 Z f br λa f=>Ao 11 17 Z f br λa f=>Ao 12 17 Z f br λa f=>Ao 13 17 Z f br λa f=>Ao 14 17 Z f br λa f=>Ao 15 17 Z f br λa f=>q_p 16 17 Z f (λ_=>AV (f.e Z) br (f.e Z)) λa f=> ?_
     obtain rfl:=sj bm
     exact bq _ (f.k Z)
  ·rintro a w ⟨bc,rfl,bd,bI,f,m⟩
   have aB:=Ow.mono (RTg.mono (RI.mono _)) bI aB
   refine Af (Ae ?_)
   refine Ab f Z λa f=>Ab f Z λa f=>Ah f Z Z Ce λa f=>Aa ?_
   rcases Ad hd with⟨bJ,hd⟩|⟨bJ,hd⟩
   ·refine Ak f Z bJ ?_
    refine Af ?_
    refine BC Ay m ?_
    refine p_p 2 Z f (λ_=>A4 (f.e Z)) λa f=>p_p 3 Z f (λ_=>A4 (f.e Z)) λa f=>BD 12013 11 (by kernel_rfl) Z ?_
    refine Ag 0 12013 Z f Z λa f=>Ag 1 12013 Z f Z λa f=>Ag 4 12013 Z f Z λa f=>Ag 5 12013 Z f Z λa f=> ?_
    have⟨bK,bL,hd⟩:=bind_some hd
    refine AG 6 12013 0 m aB T22 bL Z f Z Z λbM a bN f=>AR 7 12013 0 aB AZ bN bL Z f Z λbO a bP f=>Ag 8 12013 Z f Z λa f=>Ag 9 12013 Z f Z λa f=> ?_
    have⟨bQ,bR,hd⟩:=bind_some hd
    refine AG 10 12013 0 m aB T22 bR Z f Z Z λbS a bT f=>AR 11 12013 0 aB AZ bT bR Z f Z λbU a bV f=> ?_
    have⟨bW,bX,hd⟩:=bind_some hd
    refine AG 12 12013 0 m aB T22 bX Z f Z Z λbY a bZ f=>AK λb0 w b1 m=> ?_
    have bP:=(RTg.mono (RI.mono _)) _ _ _ _ b1 bP
    have bV:=(RTg.mono (RI.mono _)) _ _ _ _ b1 bV
    have aB:=Ow.mono (RTg.mono (RI.mono _)) b1 aB
    refine Aw 0 m aB Z sizeOf42 f Z Z bZ bX bP.cells bP.one1 bP λb2 w m b3=> ?_
    have⟨b4,b5,hd⟩:=bind_some hd
    refine A6 0 m b3 Z T22 f Z Z Z b5 λb6 a b7 f=>Aw 0 m b3 Z sizeOf42 f Z Z b7 b5 bV.cells bV.one1 bV λb8 w m b9=>Au ?_
    refine Ab f Z λa f=>Ac f Z λa f=>Ac f Z λa f=>Aa ?_
    refine Ap ?_
    obtain rfl:=sj hd
    exact⟨[(iv bc),(.bool true)],⟨f.get _ _ Z,f.get _ _ Z,trivial⟩,f.d,_,[b8],(gt ar (gt a9 (gt bI b1))),m,_,Z,Z,b9⟩
   ·refine Ai f Z bJ ?_
    refine Al ?_
    refine Af ?_
    refine BC Ay m ?_
    refine p_p 2 Z f (λ_=>A4 (f.e Z)) λa f=>p_p 3 Z f (λ_=>A4 (f.e Z)) λa f=>BD 12013 11 (by kernel_rfl) Z ?_
    refine Ag 0 12013 Z f Z λa f=>Ag 1 12013 Z f Z λa f=>Ag 4 12013 Z f Z λa f=>Ag 5 12013 Z f Z λa f=> ?_
    have⟨ca,cb,hd⟩:=bind_some hd
    refine AG 6 12013 0 m aB T22 cb Z f Z Z λcc a cd f=>AR 7 12013 0 aB AZ cd cb Z f Z λce a cf f=>Ag 8 12013 Z f Z λa f=>Ag 9 12013 Z f Z λa f=> ?_
    have⟨cg,ch,hd⟩:=bind_some hd
    refine AG 10 12013 0 m aB T22 ch Z f Z Z λci a cj f=>AR 11 12013 0 aB AZ cj ch Z f Z λck a cl f=> ?_
    have⟨cm,cn,hd⟩:=bind_some hd
    refine AG 12 12013 0 m aB T22 cn Z f Z Z λco a cp f=>AK λcq w cr m=> ?_
    have cf:=(RTg.mono (RI.mono _)) _ _ _ _ cr cf
    have cl:=(RTg.mono (RI.mono _)) _ _ _ _ cr cl
    have aB:=Ow.mono (RTg.mono (RI.mono _)) cr aB
    refine Aw 0 m aB Z sizeOf42 f Z Z cp cn cf.cells cf.one1 cf λcs w m ct=> ?_
    have⟨cu,cv,hd⟩:=bind_some hd
    refine A6 0 m ct Z T22 f Z Z Z cv λcw a cx f=>Aw 0 m ct Z sizeOf42 f Z Z cx cv cl.cells cl.one1 cl λcy w m cz=>Au ?_
    refine Ab f Z λa f=>Ah f Z Z Ar λa f=>Ac f Z λa f=>Au ?_
    refine Ab f Z λa f=>Ah f Z Z AO λa f=>Ac f Z λa f=>Aa (Af ?_)
    have⟨cA,cB,hd⟩:=bind_some hd
    refine AF (λa w=>∃cC:List (Value×LI),∃cD:Int,(cC,cD)=cA∧∃(cE:GH) (cF:Itm),GLe cq cE∧Fr a 178 [(0,v0),(1,(iv x1)),(13,(iv cD))]∧Mem W cE w (cF::H)∧Ow (RTg R0) 42 cE cF v0 cC) ?_ ?_
    ·refine Aj ?_
     refine AD (λcG a w=>∃cH:List (Value×LI),∃cI:Int,∃cJ:Int,(cH,cI,cJ)=cG∧∃(cK:GH) (cL:Itm),GLe cq cK∧Fr a 178 [(0,v0),(1,(iv x1)),(4,(.func (.func 58) #[] #[])),(12,(iv cI)),(13,(iv cJ))]∧Mem W cK w (cL::H)∧Ow (RTg R0) 42 cK cL v0 cH) cB ⟨_,_,_,Z,_,cy,gr,f.k Z,m,cz⟩ ?_
     clear cB f m
     rintro cG cM cN cO a w ⟨cH,cI,cJ,rfl,cK,cL,cP,f,m,cQ⟩
     refine Aj (Af ?_)
     have⟨cR,cS,cN⟩:=bind_some cN
     refine AF (λa w=>∃cT:Int,cT=cR∧∃(cU:GH),GLe cK cU∧Fr a 178 [(0,v0),(1,(iv x1)),(4,(.func (.func 58) #[] #[])),(12,(iv cT)),(13,(iv cJ))]∧Mem W cU w (cL::H)) ?_ ?_
     ·refine Aj ?_
      refine AD (λcV a w=>∃cW:Int,cW=cV∧∃(cX:GH),GLe cK cX∧Fr a 178 [(0,v0),(1,(iv x1)),(4,(.func (.func 58) #[] #[])),(12,(iv cW)),(13,(iv cJ))]∧Mem W cX w (cL::H)) cS ⟨_,Z,_,gr,f.k Z,m⟩ ?_
      clear cS f m
      rintro cV cY cZ c0 a w ⟨cW,rfl,cX,c1,f,m⟩
      have cQ:=Ow.mono (RTg.mono (RI.mono _)) c1 cQ
      refine Af (Af ?_)
      refine A3 16 Ay (by kernel_rfl) m ?_
      refine Ag 0 16 Z f Z λa f=>Ag 1 16 Z f Z λa f=>q_p 2 16 Z f (λ_=>AA (f.e Z) (f.e Z) Ci) λa f=>Ag 3 16 Z f Z λa f=> ?_
      have⟨c2,c3,cZ⟩:=bind_some cZ
      refine BZ (fuel':=0) (listed':= #[true,true,true,true,true,true,true,true,true,true,true,true,true,true,true,true]) (λa=>Fr a 178 [(0,v0),(1,(iv x1)),(4,(.func (.func 58) #[] #[])),(12,(iv cW)),(13,(iv cJ)),(105,(iv cW)),(106,(iv cJ)),(107,(.bool (decide (cW≤cJ)))),(108,(.bool (decide (cW≤cJ)))),(120,(.bool c2))]) ?_ ?_
      ·intro a f
       refine AK λc4 w c5 m=>Aa ?_
       rcases Ad cZ with⟨c6,cZ⟩|⟨c6,cZ⟩
       ·refine Ak f Z c6 ?_
        refine Al ?_
        refine Aj (Am ?_)
        refine Ab f Z λa f=>Ah f Z Z Ar λa f=>Ac f Z λa f=>Aa ?_
        obtain rfl:=sj cZ
        exact⟨_,Z,_,Z,_,(gt c1 c5),f.k Z,m⟩
       ·refine Ai f Z c6 ?_
        refine Ax Z ?_
        obtain rfl:=sj cZ
        obtain rfl:=c0 _ rfl
        exact⟨_,Z,_,(gt c1 c5),f.k Z,m⟩
      ·intro c7
       rcases Ad c3 with⟨c8,c3⟩|⟨c8,c3⟩
       ·refine Ag (hw:=wo f c8) 4 16 Z f Z λa f=> ?_
        refine Ag (hw:=wo f c8) 5 16 Z f Z λa f=>Ag (hw:=wo f c8) 6 16 Z f Z λa f=> ?_
        have⟨c9,da,c3⟩:=bind_some c3
        refine AG (hw:=wo f c8) 7 16 0 m cQ T22 da Z f Z Z λdb a dc f=>AR (hw:=wo f c8) 8 16 0 cQ AZ dc da Z f Z λdd a de f=>Ag (hw:=wo f c8) 9 16 Z f Z λa f=>Ag (hw:=wo f c8) 10 16 Z f Z λa f=> ?_
        have⟨df,dg,c3⟩:=bind_some c3
        refine AG (hw:=wo f c8) 11 16 0 m cQ T22 dg Z f Z Z λdh a di f=>AR (hw:=wo f c8) 12 16 0 cQ AZ di dg Z f Z λdj a dk f=> ?_
        have⟨dl,dm,c3⟩:=bind_some c3
        refine BG (i:=13) 16 Z (by kernel_rfl) Z f (Ba f Z Z Z c8) Z Z Z call58 (λ_ _ w dn m=>Wk.c m (rd1 dn (de.2)) (rd1 dn (dk.2)) dm) λa f=>q_p (hw:=wo f c8) 14 16 Z f (λ_=>AA (f.e Z) (f.e Z) AH) λa f=>q_p 15 16 Z f (λ_=>AU (f.e Z) c8 (f.e Z)) λa f=> ?_
        obtain rfl:=sj c3
        exact c7 _ (f.k Z)
       ·refine Ao 4 16 Z f c8 λa f=> ?_
        refine Ao 5 16 Z f c8 λa f=>Ao 6 16 Z f c8 λa f=>Ao 7 16 Z f c8 λa f=>Ao 8 16 Z f c8 λa f=>Ao 9 16 Z f c8 λa f=>Ao 10 16 Z f c8 λa f=>Ao 11 16 Z f c8 λa f=>Ao 12 16 Z f c8 λa f=>Ao 13 16 Z f c8 λa f=>Ao 14 16 Z f c8 λa f=>q_p 15 16 Z f (λ_=>AV (f.e Z) c8 (f.e Z)) λa f=> ?_
        obtain rfl:=sj c3
        exact c7 _ (f.k Z)
     ·rintro a w ⟨cT,rfl,cU,dp,f,m⟩
      have cQ:=Ow.mono (RTg.mono (RI.mono _)) dp cQ
      refine Af ?_
      have⟨dq,dr,cN⟩:=bind_some cN
      refine AF (λa w=>∃ds:Int,ds=dq∧∃(dt:GH),GLe cU dt∧Fr a 178 [(0,v0),(1,(iv x1)),(4,(.func (.func 58) #[] #[])),(12,(iv cT)),(13,(iv ds))]∧Mem W dt w (cL::H)) ?_ ?_
      ·refine Aj ?_
       refine AD (λdu a w=>∃dv:Int,dv=du∧∃(dw:GH),GLe cU dw∧Fr a 178 [(0,v0),(1,(iv x1)),(4,(.func (.func 58) #[] #[])),(12,(iv cT)),(13,(iv dv))]∧Mem W dw w (cL::H)) dr ⟨_,Z,_,gr,f.k Z,m⟩ ?_
       clear dr f m
       rintro du dx dy dz a w ⟨dv,rfl,dw,dA,f,m⟩
       have cQ:=Ow.mono (RTg.mono (RI.mono _)) dA cQ
       refine Af (Af ?_)
       refine A3 17 Ay (by kernel_rfl) m ?_
       refine Ag 0 17 Z f Z λa f=>Ag 1 17 Z f Z λa f=>q_p 2 17 Z f (λ_=>AA (f.e Z) (f.e Z) Ci) λa f=>Ag 3 17 Z f Z λa f=> ?_
       have⟨dB,dC,dy⟩:=bind_some dy
       refine BZ (fuel':=0) (listed':= #[true,true,true,true,true,true,true,true,true,true,true,true,true,true,true,true,true]) (λa=>Fr a 178 [(0,v0),(1,(iv x1)),(4,(.func (.func 58) #[] #[])),(12,(iv cT)),(13,(iv dv)),(123,(iv cT)),(124,(iv dv)),(125,(.bool (decide (cT≤dv)))),(126,(.bool (decide (cT≤dv)))),(139,(.bool dB))]) ?_ ?_
       ·intro a f
        refine AK λdD w dE m=>Aa ?_
        rcases Ad dy with⟨dF,dy⟩|⟨dF,dy⟩
        ·refine Ak f Z dF ?_
         refine Al ?_
         refine Aj (Am ?_)
         refine Ab f Z λa f=>Ah f Z Z AO λa f=>Ac f Z λa f=>Aa ?_
         obtain rfl:=sj dy
         exact⟨_,Z,_,Z,_,(gt dA dE),f.k Z,m⟩
        ·refine Ai f Z dF ?_
         refine Ax Z ?_
         obtain rfl:=sj dy
         obtain rfl:=dz _ rfl
         exact⟨_,Z,_,(gt dA dE),f.k Z,m⟩
       ·intro dG
        rcases Ad dC with⟨dH,dC⟩|⟨dH,dC⟩
        ·refine Ag (hw:=wo f dH) 4 17 Z f Z λa f=> ?_
         refine Ag (hw:=wo f dH) 5 17 Z f Z λa f=>Ag (hw:=wo f dH) 6 17 Z f Z λa f=> ?_
         have⟨dI,dJ,dC⟩:=bind_some dC
         refine AG (hw:=wo f dH) 7 17 0 m cQ T22 dJ Z f Z Z λdK a dL f=>AR (hw:=wo f dH) 8 17 0 cQ AZ dL dJ Z f Z λdM a dN f=>Ag (hw:=wo f dH) 9 17 Z f Z λa f=>Ag (hw:=wo f dH) 10 17 Z f Z λa f=> ?_
         have⟨dO,dP,dC⟩:=bind_some dC
         refine AG (hw:=wo f dH) 11 17 0 m cQ T22 dP Z f Z Z λdQ a dR f=>AR (hw:=wo f dH) 12 17 0 cQ AZ dR dP Z f Z λdS a dT f=> ?_
         have⟨dU,dV,dC⟩:=bind_some dC
         refine BG (i:=13) 17 Z (by kernel_rfl) Z f (Ba f Z Z Z dH) Z Z Z call58 (λ_ _ w dW m=>Wk.c m (rd1 dW (dN.2)) (rd1 dW (dT.2)) dV) λa f=>q_p (hw:=wo f dH) 14 17 Z f (λ_=>AA (f.e Z) (f.e Z) AH) λa f=>q_p (hw:=wo f dH) 15 17 Z f (λ_=>Bj (f.e Z)) λa f=>q_p 16 17 Z f (λ_=>AU (f.e Z) dH (f.e Z)) λa f=> ?_
         obtain rfl:=sj dC
         exact dG _ (f.k Z)
        ·refine Ao 4 17 Z f dH λa f=> ?_
         refine Ao 5 17 Z f dH λa f=>Ao 6 17 Z f dH λa f=>Ao 7 17 Z f dH λa f=>Ao 8 17 Z f dH λa f=>Ao 9 17 Z f dH λa f=>Ao 10 17 Z f dH λa f=>Ao 11 17 Z f dH λa f=>Ao 12 17 Z f dH λa f=>Ao 13 17 Z f dH λa f=>Ao 14 17 Z f dH λa f=>Ao 15 17 Z f dH λa f=>q_p 16 17 Z f (λ_=>AV (f.e Z) dH (f.e Z)) λa f=> ?_
         obtain rfl:=sj dC
         exact dG _ (f.k Z)
      ·rintro a w ⟨ds,rfl,dt,dX,f,m⟩
       have cQ:=Ow.mono (RTg.mono (RI.mono _)) dX cQ
       refine Af (Ae ?_)
       refine Ab f Z λa f=>Ab f Z λa f=>Ah f Z Z Ce λa f=>Aa ?_
       rcases Ad cN with⟨dY,cN⟩|⟨dY,cN⟩
       ·refine Ak f Z dY ?_
        refine Ax Z ?_
        obtain rfl:=sj cN
        obtain rfl:=cO _ rfl
        exact⟨_,_,Z,_,cL,(gt cP (gt dp dX)),f.k Z,m,cQ⟩
       ·refine Ai f Z dY ?_
        refine Al ?_
        refine Af ?_
        refine BC Ay m ?_
        refine p_p 2 Z f (λ_=>A4 (f.e Z)) λa f=>p_p 3 Z f (λ_=>A4 (f.e Z)) λa f=>BD 12013 11 (by kernel_rfl) Z ?_
        refine Ag 0 12013 Z f Z λa f=>Ag 1 12013 Z f Z λa f=>Ag 4 12013 Z f Z λa f=>Ag 5 12013 Z f Z λa f=> ?_
        have⟨dZ,d0,cN⟩:=bind_some cN
        refine AG 6 12013 0 m cQ T22 d0 Z f Z Z λd1 a d2 f=>AR 7 12013 0 cQ AZ d2 d0 Z f Z λd3 a d4 f=>Ag 8 12013 Z f Z λa f=>Ag 9 12013 Z f Z λa f=> ?_
        have⟨d5,d6,cN⟩:=bind_some cN
        refine AG 10 12013 0 m cQ T22 d6 Z f Z Z λd7 a d8 f=>AR 11 12013 0 cQ AZ d8 d6 Z f Z λd9 a ea f=> ?_
        have⟨eb,ec,cN⟩:=bind_some cN
        refine AG 12 12013 0 m cQ T22 ec Z f Z Z λed a ee f=>AK λef w eg m=> ?_
        have d4:=(RTg.mono (RI.mono _)) _ _ _ _ eg d4
        have ea:=(RTg.mono (RI.mono _)) _ _ _ _ eg ea
        have cQ:=Ow.mono (RTg.mono (RI.mono _)) eg cQ
        refine Aw 0 m cQ Z sizeOf42 f Z Z ee ec d4.cells d4.one1 d4 λeh w m ei=> ?_
        have⟨ej,ek,cN⟩:=bind_some cN
        refine A6 0 m ei Z T22 f Z Z Z ek λel a em f=>Aw 0 m ei Z sizeOf42 f Z Z em ek ea.cells ea.one1 ea λen w m eo=>Au ?_
        refine Ab f Z λa f=>Ah f Z Z Ar λa f=>Ac f Z λa f=>Aa (Am ?_)
        refine Ab f Z λa f=>Ah f Z Z AO λa f=>Ac f Z λa f=>Aa ?_
        obtain rfl:=sj cN
        exact⟨_,Z,_,_,_,Z,_,en,(gt cP (gt dp (gt dX eg))),f.k Z,m,eo⟩
    ·rintro a w ⟨cC,cD,rfl,cE,cF,ep,f,m,eq⟩
     refine Af ?_
     refine BC Ay m ?_
     refine p_p 2 Z f (λ_=>A4 (f.e Z)) λa f=>p_p 3 Z f (λ_=>A4 (f.e Z)) λa f=>BD 12013 11 (by kernel_rfl) Z ?_
     refine Ag 0 12013 Z f Z λa f=>Ag 1 12013 Z f Z λa f=>Ag 4 12013 Z f Z λa f=>Ag 5 12013 Z f Z λa f=> ?_
     have⟨er,es,hd⟩:=bind_some hd
     refine AG 6 12013 0 m eq T22 es Z f Z Z λet a eu f=>AR 7 12013 0 eq AZ eu es Z f Z λev a ew f=>Ag 8 12013 Z f Z λa f=>Ag 9 12013 Z f Z λa f=> ?_
     have⟨ex,ey,hd⟩:=bind_some hd
     refine AG 10 12013 0 m eq T22 ey Z f Z Z λez a eA f=>AR 11 12013 0 eq AZ eA ey Z f Z λeB a eC f=> ?_
     have⟨eD,eE,hd⟩:=bind_some hd
     refine AG 12 12013 0 m eq T22 eE Z f Z Z λeF a eG f=>AK λeH w eI m=> ?_
     have ew:=(RTg.mono (RI.mono _)) _ _ _ _ eI ew
     have eC:=(RTg.mono (RI.mono _)) _ _ _ _ eI eC
     have eq:=Ow.mono (RTg.mono (RI.mono _)) eI eq
     refine Aw 0 m eq Z sizeOf42 f Z Z eG eE ew.cells ew.one1 ew λeJ w m eK=> ?_
     have⟨eL,eM,hd⟩:=bind_some hd
     refine A6 0 m eK Z T22 f Z Z Z eM λeN a eO f=>Aw 0 m eK Z sizeOf42 f Z Z eO eM eC.cells eC.one1 eC λeP w m eQ=>Au ?_
     refine Ab f Z λa f=>Ac f Z λa f=>Ac f Z λa f=>Aa ?_
     refine Ap ?_
     obtain rfl:=sj hd
     exact⟨[(iv cD),(.bool false)],⟨f.get _ _ Z,f.get _ _ Z,trivial⟩,f.d,_,[eP],(gt ar (gt a9 (gt bI (gt cr (gt ep eI))))),m,_,Z,Z,eQ⟩

end Go.Proofs.YtebbefpdncgoiaaGreatDoor
