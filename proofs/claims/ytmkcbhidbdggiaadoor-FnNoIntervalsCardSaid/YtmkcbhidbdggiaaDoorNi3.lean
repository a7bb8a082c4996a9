/- Parts. -/
import Derived.Test.YtmkcbhidbdggiaaDoorNi2
import Derived.Test.YtmkcbhidbdggiaaDoorProg
import Derived.KernelRfl
set_option linter.unusedVariables false
set_option linter.unusedSimpArgs false
set_option maxRecDepth 100000
namespace Go.Proofs.YtmkcbhidbdggiaaDoor
open Go Go.Sx
open Go.Proofs.Tryd Go.Proofs.YtmkcbhidbdggiaaDoor.Tryd IntKind
variable {W w : World} {G : GH} {H : List Itm}
theorem T60 :SlT prog 60 63 1 4 (.int .u32 0):=⟨underlying60,Tryd.t63,by kernel_rfl,by kernel_rfl,by kernel_rfl,by kernel_rfl⟩
theorem AY :BT prog 63:=isAgg63
theorem Wk.l {aa:Value}{ab:LL}(m:Mem W G w (H))(ac:R2 G aa ab){y:Bool}(hd:D.l ab=some y):
  Calls prog 50 #[(.agg #[aa])] w (Res W G H (λ_ Ho v=>Ho=[]∧v=(.bool y))):=by
 refine As (args:=[(.agg #[aa])]) (N:=61) [.tmp 2] func50 Z Z (lb Z) Z λa f=> ?_
 unfold D.l at hd
 refine Af ?_
 refine B3 (cs:=[aa]) m f Z Z Z λad w a m f=>Ac f Z λa f=>Ay ?_
 refine B9 underlying29 Z sizeOf27 f Z λa f=>AR 0 0 m Cx f Z Z Z Z λa f=>Be underlying27 f Z Z ac λa f=>Ac f Z λa f=>Ab (Ah (Af ?_))
 refine Aa f Z λa f=>Ai f Z Z AM λa f=>Aa f Z λa f=> ?_
 refine Bu 3 (λa w=>∃ae,GLe G ae∧Mem W ae w (ib ad 29 [aa]::H)∧Fr a 61 [(0,(.agg #[aa])),(1,(pb ad)),(3,(iv (ab.length:Int))),(13,(iv (ab.length:Int))),(14,(.bool (decide ((ab.length:Int)<1)))),(15,(.bool (decide ((ab.length:Int)<1)))),(18,(.bool ((decide ((ab.length:Int)<1))||(decide ((16:Int)<(ab.length:Int))))))]) ?_ ?_
 ·rcases Bool.eq_false_or_eq_true (decide ((ab.length:Int)<1)) with af|af
  ·refine Aw f af λa f=> ?_
   refine Aw f af λa f=>l_o f (AD (f.e Z) af (f.e Z)) λa f=> ?_
   exact⟨_,gr,m,f.weak ⟨Z,Z,Z,Z,Z,Z,by rw[af];rfl,trivial⟩⟩
  ·refine Au f af ?_
   refine Aa f Z λa f=>Au f af ?_
   refine Ai f Z Z CF λa f=>l_o f (AC (f.e Z) af (f.e Z)) λa f=> ?_
   exact⟨_,gr,m,f.weak ⟨Z,Z,Z,Z,Z,Z,by rw[af];rfl,trivial⟩⟩
 ·rintro a w ⟨ae,ag,m,f⟩
  have ac:=rd2 ag ac
  refine Ab ?_
  rcases Ae hd with⟨ah,hd⟩|⟨ah,hd⟩
  ·refine Am f Z ah ?_
   refine Af ?_
   refine Ac f Z λa f=>Ab ?_
   refine Ar ?_
   have m:Mem W ae w H:=Mem.drop (H':=[ib ad 29 [aa]]) m
   obtain rfl:=sj hd
   exact⟨[(.bool false)],f.g Z,f.d,_,[],ag,m,Z,Z⟩
  ·refine Aj f Z ah ?_
   refine Ao ?_
   refine Ah (Af ?_)
   refine B9 underlying29 Z sizeOf27 f Z λa f=>AR 0 0 m Cx f Z Z Z Z λa f=>Be underlying27 f Z Z ac λa f=>Aa f Z λa f=>Ab ?_
   have⟨ai,aj,hd⟩:=bind_some hd
   refine AL (λa w=>∃q_91':Unit,ai= .inl q_91'∧∃(ak:GH),GLe ae ak∧Fr a 61 [(1,(pb ad))]∧Mem W ak w (ib ad 29 [aa]::H)) ?_ ?_
   ·refine An ?_
    refine AJ (λal a w=>∃am:Int,am=al∧∃(an:GH),GLe ae an∧Fr a 61 [(1,(pb ad)),(3,(iv (ab.length:Int))),(20,aa),(21,(iv (ab.length:Int))),(22,(iv am))]∧Mem W an w (ib ad 29 [aa]::H)) aj ⟨_,Z,_,gr,f.k Z,m⟩ ?_
    clear aj f m
    rintro al ao ap aq a w ⟨am,rfl,an,ar,f,m⟩
    have ac:=rd2 ar ac
    refine Af ?_
    refine Ai f Z Z AM λa f=>Ab (Ah ?_)
    rcases Ae ap with⟨au,ap⟩|⟨au,ap⟩
    ·refine Am f Z au ?_
     refine Ao ?_
     refine Ah (An (Af ?_))
     refine Aa f Z λa f=> ?_
     have⟨av,aw,ap⟩:=bind_some ap
     refine BG T27 f Z Z Z ac aw λax ay a az aA f=>AZ m CN f Z Z az λa f=>Ac f Z λa f=>Ac f Z λa f=>Ay ?_
     refine Aa f Z λa f=>Aa f Z λa f=> ?_
     have⟨aB,aC,ap⟩:=bind_some ap
     refine Ba f Z call103 (Wk.h0 m aA aC) λaD w aE m a f=> ?_
     have aA:=rd1 aE aA
     refine l_o f (Bv (f.e Z)) λa f=>Aa f Z λa f=> ?_
     have⟨aF,aG,ap⟩:=bind_some ap
     refine Bu 4 (λa w=>∃aH,GLe aD aH∧Mem W aH w (ib ad 29 [aa]::H)∧Fr a 61 [(1,(pb ad)),(3,(iv (ab.length:Int))),(4,(iv am)),(5,ay),(20,aa),(21,(iv (ab.length:Int))),(22,(iv am)),(27,ay),(28,(iv (ab.length:Int))),(29,(.bool aB)),(30,(.bool (!aB))),(31,(.bool (!aB))),(35,(.bool aF))]) ?_ ?_
     ·rcases Ae aG with⟨aI,aG⟩|⟨aI,aG⟩
      ·refine Aw f aI λa f=> ?_
       refine Aw f aI λa f=>Aw f aI λa f=>l_o f (AD (f.e Z) aI (f.e Z)) λa f=> ?_
       obtain rfl:=sj aG
       exact⟨_,gr,m,f.k Z⟩
      ·refine Au f aI ?_
       refine Aa f Z λa f=>Au f aI ?_
       refine Aa f Z λa f=>Au f aI ?_
       have⟨aJ,aK,aG⟩:=bind_some aG
       refine Ba f Z call119 (Wk.S m aA aK) λaL w aM m a f=>l_o f (AC (f.e Z) aI (f.e Z)) λa f=> ?_
       obtain rfl:=sj aG
       exact⟨_,aM,m,f.k Z⟩
     ·rintro a w ⟨aH,aN,m,f⟩
      refine Ab ?_
      rcases Ae ap with⟨aO,ap⟩|⟨aO,ap⟩
      ·refine Am f Z aO ?_
       refine Af ?_
       refine Ac f Z λa f=>Ab ?_
       refine Ar ?_
       have m:Mem W aH w H:=Mem.drop (H':=[ib ad 29 [aa]]) m
       obtain rfl:=sj ap
       obtain rfl:=aq _ rfl
       obtain rfl:=sj hd
       exact⟨[(.bool false)],f.g Z,f.d,_,[],(gt ag (gt ar (gt aE aN))),m,Z,Z⟩
      ·refine Aj f Z aO ?_
       refine Ao ?_
       refine Ap ?_
       refine Ai f Z Z Ax λa f=>Aa f Z λa f=>Ab ?_
       obtain rfl:=sj ap
       exact⟨_,Z,_,Z,_,(gt ar (gt aE aN)),f.k Z,m⟩
    ·refine Aj f Z au ?_
     refine AF Z ?_
     obtain rfl:=sj ap
     obtain rfl:=aq _ rfl
     exact⟨_,Z,_,ar,f.k Z,m⟩
   ·rintro a w ⟨_,rfl,ak,aP,f,m⟩
    have ac:=rd2 aP ac
    refine Ah (Af ?_)
    refine B9 underlying29 Z sizeOf27 f Z λa f=>AR 0 0 m Cx f Z Z Z Z λa f=>Be underlying27 f Z Z ac λa f=>Aa f Z λa f=>Ab ?_
    have⟨aQ,aR,hd⟩:=bind_some hd
    refine AL (λa w=>∃q_394':Unit,aQ= .inl q_394'∧∃(aS:GH),GLe ak aS∧Fr a 61 []∧Mem W aS w (H)) ?_ ?_
    ·refine An ?_
     refine AJ (λaT a w=>∃aU:Int,aU=aT∧∃(aV:GH),GLe ak aV∧Fr a 61 [(1,(pb ad)),(38,aa),(39,(iv (ab.length:Int))),(40,(iv aU))]∧Mem W aV w (ib ad 29 [aa]::H)) aR ⟨_,Z,_,gr,f.k Z,m⟩ ?_
     clear aR f m
     rintro aT aW aX aY a w ⟨aU,rfl,aV,aZ,f,m⟩
     have ac:=rd2 aZ ac
     refine Af ?_
     refine Ai f Z Z AM λa f=>Ab (Ah ?_)
     rcases Ae aX with⟨a0,aX⟩|⟨a0,aX⟩
     ·refine Am f Z a0 ?_
      refine Ao ?_
      refine Ah (An (Af ?_))
      refine Aa f Z λa f=> ?_
      have⟨a1,a2,aX⟩:=bind_some aX
      refine BG T27 f Z Z Z ac a2 λa3 a4 a a5 a6 f=>AZ m CN f Z Z a5 λa f=>Ac f Z λa f=>Ac f Z λa f=>Ay ?_
      refine Aa f Z λa f=>Be underlying31 f Z Z a6 λa f=>Aa f Z λa f=>Ab ?_
      have⟨a7,a8,aX⟩:=bind_some aX
      refine AL (λa w=>∃q_560':Unit,a7= .inl q_560'∧∃(a9:GH),GLe aV a9∧Fr a 61 [(1,(pb ad)),(38,aa),(39,(iv (ab.length:Int))),(40,(iv aU))]∧Mem W a9 w (ib ad 29 [aa]::H)) ?_ ?_
      ·refine An ?_
       refine AJ (λba a w=>∃bb:Int,bb=ba∧∃(bc:GH),GLe aV bc∧Fr a 61 [(1,(pb ad)),(6,(iv aU)),(38,aa),(39,(iv (ab.length:Int))),(40,(iv aU)),(45,a4),(46,(iv (a1.length:Int))),(47,(iv bb))]∧Mem W bc w (ib ad 29 [aa]::H)) a8 ⟨_,Z,_,gr,f.k Z,m⟩ ?_
       clear a8 f m
       rintro ba bd be bf a w ⟨bb,rfl,bc,bg,f,m⟩
       have ac:=rd2 bg ac
       have a6:=rd1 bg a6
       refine Af ?_
       refine Ai f Z Z AM λa f=>Ab (Ah ?_)
       rcases Ae be with⟨bh,be⟩|⟨bh,be⟩
       ·refine Am f Z bh ?_
        refine Ao ?_
        refine Ah (An (Af ?_))
        have⟨bi,bj,be⟩:=bind_some be
        refine BG T31 f Z Z Z a6 bj λbk bl a bm bn f=> ?_
        subst bn
        refine AZ m Pl2 f Z Z bm λa f=>Ac f Z λa f=>Ay ?_
        refine B9 underlying29 Z sizeOf27 f Z λa f=>AR 0 0 m Cx f Z Z Z Z λa f=>Aa f Z λa f=> ?_
        have⟨bo,bp,be⟩:=bind_some be
        refine BG T27 f Z Z Z ac bp λbq br a bs bt f=>AZ m CN f Z Z bs λa f=>Aa f Z λa f=> ?_
        have⟨bu,bv,be⟩:=bind_some be
        refine Ba f Z call119 (Wk.S m bt bv) λbw w bx m a f=>l_o f (Bv (f.e Z)) λa f=>Ab ?_
        rcases Ae be with⟨bz,be⟩|⟨bz,be⟩
        ·refine Am f Z bz ?_
         refine Af ?_
         refine Ac f Z λa f=>Ab ?_
         refine Ar ?_
         have m:Mem W bw w H:=Mem.drop (H':=[ib ad 29 [aa]]) m
         obtain rfl:=sj be
         obtain rfl:=bf _ rfl
         obtain rfl:=sj aX
         obtain rfl:=aY _ rfl
         obtain rfl:=sj hd
         exact⟨[(.bool false)],f.g Z,f.d,_,[],(gt ag (gt aP (gt aZ (gt bg bx)))),m,Z,Z⟩
        ·refine Aj f Z bz ?_
         refine Ao ?_
         refine Ap ?_
         refine Ai f Z Z Ax λa f=>Aa f Z λa f=>Ab ?_
         obtain rfl:=sj be
         exact⟨_,Z,_,Z,_,(gt bg bx),f.k Z,m⟩
       ·refine Aj f Z bh ?_
        refine AF Z ?_
        obtain rfl:=sj be
        obtain rfl:=bf _ rfl
        exact⟨_,Z,_,bg,f.k Z,m⟩
      ·rintro a w ⟨_,rfl,a9,bA,f,m⟩
       refine Ap ?_
       refine Ai f Z Z Ax λa f=>Aa f Z λa f=>Ab ?_
       obtain rfl:=sj aX
       exact⟨_,Z,_,Z,_,(gt aZ bA),f.k Z,m⟩
     ·refine Aj f Z a0 ?_
      refine AF Z ?_
      have m:Mem W aV w H:=Mem.drop (H':=[ib ad 29 [aa]]) m
      obtain rfl:=sj aX
      obtain rfl:=aY _ rfl
      exact⟨_,Z,_,aZ,f.weak trivial,m⟩
    ·rintro a w ⟨_,rfl,aS,bB,f,m⟩
     refine Af ?_
     refine Ac f Z λa f=>Ab ?_
     refine Ar ?_
     obtain rfl:=sj hd
     exact⟨[(.bool true)],f.g Z,f.d,_,[],(gt ag (gt aP bB)),m,Z,Z⟩
theorem Wk.b {x0:Int}(m:Mem W G w (H)){y:Int}(hd:D.b x0=some y):
  Calls prog 74 #[(iv x0)] w (Res W G H (λ_ Ho v=>Ho=[]∧v=(.int .u32 y))):=by
 refine As (args:=[(iv x0)]) (N:=5) [.tmp 2] func74 Z Z (lb Z) Z λa f=> ?_
 unfold D.b at hd
 refine Af ?_
 refine Ac f Z λa f=>Ay ?_
 refine Aa f Z λa f=> ?_
 obtain⟨aa,hd⟩:=C9 hd
 refine l_o f (r_shl (f.e Z) (f.e Z) aa) λa f=>Ac f Z λa f=>Ab ?_
 refine Ar ?_
 obtain rfl:=sj hd
 exact⟨[(.int .u32 (ishl .u32 1 x0))],f.g Z,f.d,_,[],gr,m,Z,Z⟩
theorem Wk.i0 {v0:Value}{x0:LI}(m:Mem W G w (H))(h0:R1 G v0 x0){y:Int}(hd:D.i0 x0=some y):
  Calls prog 120 #[v0] w (Res W G H (λ_ Ho v=>Ho=[]∧v=(.int .u32 y))):=by
 refine As (args:=[v0]) (N:=18) [.tmp 2] func120 Z Z (lb Z) Z λa f=> ?_
 unfold D.i0 at hd
 refine Af ?_
 refine Ac f Z λa f=>Ay ?_
 refine Ac f Z λa f=>Ab (Ah (Af ?_))
 refine Aa f Z λa f=>Be underlying31 f Z Z h0 λa f=>Aa f Z λa f=>Ab ?_
 have⟨aa,ab,hd⟩:=bind_some hd
 refine AL (λa w=>∃ac:Int,ac=aa∧∃(ad:GH),GLe G ad∧Fr a 18 [(3,(.int .u32 ac))]∧Mem W ad w (H)) ?_ ?_
 ·refine An ?_
  refine AJ (λae a w=>∃af:Int,∃ag:Int,(af,ag)=ae∧∃(ah:GH),GLe G ah∧Fr a 18 [(3,(.int .u32 af)),(6,v0),(7,(iv (x0.length:Int))),(8,(iv ag))]∧Mem W ah w (H)) ab ⟨_,_,Z,_,gr,f.k Z,m⟩ ?_
  clear ab f m
  rintro ae ai aj ak a w ⟨af,ag,rfl,ah,al,f,m⟩
  have h0:=rd1 al h0
  refine Af ?_
  refine Ai f Z Z AM λa f=>Ab (Ah ?_)
  rcases Ae aj with⟨am,aj⟩|⟨am,aj⟩
  ·refine Am f Z am ?_
   refine Ao ?_
   refine Ah (An (Af ?_))
   have⟨an,ao,aj⟩:=bind_some aj
   refine BG T31 f Z Z Z h0 ao λap aq a ar au f=> ?_
   subst au
   refine AZ m Pl2 f Z Z ar λa f=>Ac f Z λa f=>Ab (Ap ?_)
   refine Aa f Z λa f=>Aa f Z λa f=> ?_
   have⟨av,aw,aj⟩:=bind_some aj
   refine Ba f Z call74 (Wk.b m aw) λax w ay m a f=>Ai f Z Z b_or λa f=>Ac f Z λa f=>Ab (Ap ?_)
   refine Ai f Z Z Ax λa f=>Aa f Z λa f=>Ab ?_
   obtain rfl:=sj aj
   exact⟨_,Z,_,_,Z,_,(gt al ay),f.k Z,m⟩
  ·refine Aj f Z am ?_
   refine AF Z ?_
   obtain rfl:=sj aj
   obtain rfl:=ak _ rfl
   exact⟨_,Z,_,al,f.k Z,m⟩
 ·rintro a w ⟨ac,rfl,ad,az,f,m⟩
  refine Af ?_
  refine Aa f Z λa f=>Ac f Z λa f=>Ab ?_
  refine Ar ?_
  obtain rfl:=sj hd
  exact⟨[(.int .u32 ac)],f.g Z,f.d,_,[],az,m,Z,Z⟩
theorem Wk.n {aa:Value}{ab:LL}(m:Mem W G w (H))(ac:R2 G aa ab){y:(LI)}(hd:D.n ab=some y):
  Calls prog 51 #[(.agg #[aa])] w (Res W G H (λG' Ho v=>∃r0:Value,∃i0:Itm,Ho=[i0]∧r0=v∧Ow (RI .u32) 63 G' i0 r0 y)):=by
 refine As (args:=[(.agg #[aa])]) (N:=21) [.tmp 2] func51 Z Z (lb Z) Z λa f=> ?_
 unfold D.n at hd
 refine Af ?_
 refine B3 (cs:=[aa]) m f Z Z Z λad w a m f=>Ac f Z λa f=>Ay ?_
 refine BC (R:=(RI .u32)) (xs:=([]:LI)) (RI.one _) m T60 f Z Z Z (by decide) (All2.nil _) λae af w a m ag f=>Ac f Z λa f=>Ab (Ah (Af ?_))
 refine B9 underlying29 Z sizeOf27 f Z λa f=>AR 1 0 m Cx f Z Z Z Z λa f=>Be underlying27 f Z Z ac λa f=>Aa f Z λa f=>Ab ?_
 have⟨ah,ai,hd⟩:=bind_some hd
 refine AL (λa w=>∃aj:LI,aj=ah∧∃(ak:GH) (al:Value) (am:Itm),GLe G ak∧Fr a 21 [(3,al)]∧Mem W ak w (am::H)∧Ow (RI .u32) 63 ak am al aj) ?_ ?_
 ·refine An ?_
  have m:=m.eraseAt 1
  refine AJ (λan a w=>∃ao:LI,∃ap:Int,(ao,ap)=an∧∃(aq:GH) (ar:Value) (au:Itm),GLe G aq∧Fr a 21 [(3,ar),(8,aa),(9,(iv (ab.length:Int))),(10,(iv ap))]∧Mem W aq w (au::H)∧Ow (RI .u32) 63 aq au ar ao) ai ⟨_,_,Z,_,af,ae,gr,f.k Z,m,ag⟩ ?_
  clear ai f m
  rintro an av aw ax a w ⟨ao,ap,rfl,aq,ar,au,ay,f,m,az⟩
  have ac:=rd2 ay ac
  refine Af ?_
  refine Ai f Z Z AM λa f=>Ab (Ah ?_)
  rcases Ae aw with⟨aA,aw⟩|⟨aA,aw⟩
  ·refine Am f Z aA ?_
   refine Ao ?_
   refine Ah (An (Af ?_))
   have⟨aB,aC,aw⟩:=bind_some aw
   refine BG T27 f Z Z Z ac aC λaD aE a aF aG f=>AZ m CN f Z Z aF λa f=>Ac f Z λa f=>Ab (Ap ?_)
   refine Aa f Z λa f=>Aa f Z λa f=> ?_
   have⟨aH,aI,aw⟩:=bind_some aw
   refine Ba f Z call120 (Wk.i0 m aG aI) λaJ w aK m a f=> ?_
   have az:=od1 aK az
   refine BC (R:=(RI .u32)) (xs:=([aH]:LI)) (RI.one _) m T60 f Z Z Z (by decide) (All2.cons Z (All2.nil _)) λaL aM w a m aN f=> ?_
   have⟨aO,aP,aw⟩:=bind_some aw
   refine BJ (RI.one _) 1 m az Z T60 Z (by decide) f Z Z Z (Ow.src (j:=0) aN m Z) aP λaQ aR w a m aS f=>Ac f Z λa f=>Ab (Ap ?_)
   refine Ai f Z Z Ax λa f=>Aa f Z λa f=>Ab ?_
   have m:=m.fr 1
   have m:=m.eraseAt 1
   obtain rfl:=sj aw
   exact⟨_,Z,_,_,Z,_,aR,aQ,(gt ay aK),f.k Z,m,aS⟩
  ·refine Aj f Z aA ?_
   refine AF Z ?_
   obtain rfl:=sj aw
   obtain rfl:=ax _ rfl
   exact⟨_,Z,_,ar,au,ay,f.k Z,m,az⟩
 ·rintro a w ⟨aj,rfl,ak,al,am,aT,f,m,aU⟩
  refine Af ?_
  refine Aa f Z λa f=>Ac f Z λa f=>Ab ?_
  refine Ar ?_
  obtain rfl:=sj hd
  exact⟨[al],f.g Z,f.d,_,[am],aT,m,_,_,Z,Z,aU⟩
theorem Wk.X {x0:Int}(hW:Bw W)(m:Mem W G w (H)){y:Int}(hd:D.X x0=some y):
  Calls prog 121 #[(.int .u32 x0)] w (Res W G H (λ_ Ho v=>Ho=[]∧v=(iv y))):=by
 refine As (args:=[(.int .u32 x0)]) (N:=5) [.tmp 2] func121 Z Z (lb Z) Z λa f=> ?_
 unfold D.X at hd
 refine Af ?_
 refine Ac f Z λa f=>Ay ?_
 refine Aa f Z λa f=> ?_
 have⟨aa,ab,hd⟩:=bind_some hd
 refine Ba f Z call149 (Wk.V0 hW m ab) λac w ad m a f=>Ac f Z λa f=>Ab ?_
 refine Ar ?_
 obtain rfl:=sj hd
 exact⟨[(iv aa)],f.g Z,f.d,_,[],ad,m,Z,Z⟩
theorem Wk.c {x0:Int}(hW:Bw W)(m:Mem W G w (H)){y:(LI)}(hd:D.c x0=some y):
  Calls prog 54 #[(.int .u32 x0)] w (Res W G H (λG' Ho v=>∃r0:Value,∃i0:Itm,Ho=[i0]∧r0=v∧Ow R0 3 G' i0 r0 y)):=by
 refine As (args:=[(.int .u32 x0)]) (N:=17) [.tmp 2] func54 Z Z (lb Z) Z λa f=> ?_
 unfold D.c at hd
 refine Af ?_
 refine Ac f Z λa f=>Ay ?_
 refine BC (R:=R0) (xs:=([]:LI)) (RI.one _) m T65 f Z Z Z (by decide) (All2.nil _) λaa ab w a m ac f=>Ac f Z λa f=>Ab (Ah ?_)
 have⟨ad,ae,hd⟩:=bind_some hd
 refine AL (λa w=>∃af:LI,af=ad∧∃(ag:GH) (ah:Value) (ai:Itm),GLe G ag∧Fr a 17 [(3,ah)]∧Mem W ag w (ai::H)∧Ow R0 3 ag ai ah af) ?_ ?_
 ·refine An ?_
  refine AJ (λaj a w=>∃ak:Int,∃al:LI,(ak,al)=aj∧∃(am:GH) (an:Value) (ao:Itm),GLe G am∧Fr a 17 [(0,(.int .u32 ak)),(3,an)]∧Mem W am w (ao::H)∧Ow R0 3 am ao an al) ae ⟨_,_,Z,_,ab,aa,gr,f.k Z,m,ac⟩ ?_
  clear ae f m
  rintro aj ap aq ar a w ⟨ak,al,rfl,am,an,ao,au,f,m,av⟩
  refine Ah (Af ?_)
  refine Aa f Z λa f=>Ai f Z Z C4 λa f=>Ab ?_
  rcases Ae aq with⟨aw,aq⟩|⟨aw,aq⟩
  ·refine Am f Z aw ?_
   refine Ao ?_
   refine Ah (An (Ap ?_))
   refine Aa f Z λa f=>Aa f Z λa f=> ?_
   have⟨ax,ay,aq⟩:=bind_some aq
   refine Ba f Z call121 (Wk.X hW m ay) λaz w aA m a f=> ?_
   have av:=od1 aA av
   refine BC (R:=R0) (xs:=([ax]:LI)) (RI.one _) m T65 f Z Z Z (by decide) (All2.cons Z (All2.nil _)) λaB aC w a m aD f=> ?_
   have⟨aE,aF,aq⟩:=bind_some aq
   refine BJ (RI.one _) 1 m av Z T65 Z (by decide) f Z Z Z (Ow.src (j:=0) aD m Z) aF λaG aH w a m aI f=>Ac f Z λa f=>Ab (Ap ?_)
   refine Aa f Z λa f=>Aa f Z λa f=>Ai f Z Z AT λa f=>Ai f Z Z CP λa f=>Ac f Z λa f=>Ab ?_
   have m:=m.fr 1
   have m:=m.eraseAt 1
   obtain rfl:=sj aq
   exact⟨_,Z,_,_,Z,_,aH,aG,(gt au aA),f.k Z,m,aI⟩
  ·refine Aj f Z aw ?_
   refine AF Z ?_
   obtain rfl:=sj aq
   obtain rfl:=ar _ rfl
   exact⟨_,Z,_,an,ao,au,f.k Z,m,av⟩
 ·rintro a w ⟨af,rfl,ag,ah,ai,aJ,f,m,aK⟩
  refine Af ?_
  refine Aa f Z λa f=>Ac f Z λa f=>Ab ?_
  refine Ar ?_
  obtain rfl:=sj hd
  exact⟨[ah],f.g Z,f.d,_,[ai],aJ,m,_,_,Z,Z,aK⟩
theorem Wk.E0 {x0:Int}(m:Mem W G w (H)){y:Int}(hd:D.E0 x0=some y):
  Calls prog 73 #[(.int .u32 x0)] w (Res W G H (λ_ Ho v=>Ho=[]∧v=(iv y))):=by
 refine As (args:=[(.int .u32 x0)]) (N:=5) [.tmp 2] func73 Z Z (lb Z) Z λa f=> ?_
 unfold D.E0 at hd
 refine Af ?_
 refine Ac f Z λa f=>Ay ?_
 refine Aa f Z λa f=> ?_
 have⟨aa,ab,hd⟩:=bind_some hd
 refine Ba f Z call128 (Wk.B0 m ab) λac w ad m a f=>Ac f Z λa f=>Ab ?_
 refine Ar ?_
 obtain rfl:=sj hd
 exact⟨[(iv aa)],f.g Z,f.d,_,[],ad,m,Z,Z⟩
theorem Wk.t {v0:Value}{x0:LI}{x1:Int}(hW:Bw W)(m:Mem W G w (H))(h0:RSl (RI .u32) G v0 x0){y:Int}(hd:D.t x0 x1=some y):
  Calls prog 65 #[v0,(.int .u32 x1)] w (Res W G H (λ_ Ho v=>Ho=[]∧v=(iv y))):=by
 refine As (args:=[v0,(.int .u32 x1)]) (N:=30) [.tmp 4] func65 Z Z (lb Z) Z λa f=> ?_
 unfold D.t at hd
 refine Af ?_
 refine Ac f Z λa f=>Ay ?_
 refine Ac f Z λa f=>Ab (Ah (Af ?_))
 refine Aa f Z λa f=> ?_
 have⟨aa,ab,hd⟩:=bind_some hd
 refine AK f Z call54 (Wk.c hW m ab) λac ad ae w af m ag a f=> ?_
 obtain⟨ah,ai,rfl,rfl,aj⟩:=ag
 have h0:=rd1 af h0
 refine Cf 0 m aj Z underlying65 f Z Z λa f=>Aa f Z λa f=>Ab ?_
 have⟨ak,al,hd⟩:=bind_some hd
 refine AL (λa w=>∃am:Int,am=ak∧∃(an:GH),GLe ad an∧Fr a 30 [(5,(iv am))]∧Mem W an w (H)) ?_ ?_
 ·refine An ?_
  refine AJ (λao a w=>∃ap:Int,∃aq:Int,(ap,aq)=ao∧∃(ar:GH),GLe ad ar∧Fr a 30 [(0,v0),(1,(.int .u32 x1)),(5,(iv ap)),(9,ah),(10,(iv (aa.length:Int))),(11,(iv aq))]∧Mem W ar w (ai::H)) al ⟨_,_,Z,_,gr,f.k Z,m⟩ ?_
  clear al f m
  rintro ao au av aw a w ⟨ap,aq,rfl,ar,ax,f,m⟩
  have h0:=rd1 ax h0
  have aj:=od1 ax aj
  refine Af ?_
  refine Ai f Z Z AM λa f=>Ab (Ah ?_)
  rcases Ae av with⟨ay,av⟩|⟨ay,av⟩
  ·refine Am f Z ay ?_
   refine Ao ?_
   refine Ah (An (Af ?_))
   have⟨az,aA,av⟩:=bind_some av
   refine Bk 0 m aj Z T65 f Z Z Z aA λaB a aC f=>Cr 0 m aj Z Pl3 f Z Z aC aA λaD a aE f=> ?_
   subst aE
   refine Ac f Z λa f=>Ab ?_
   refine Bf 13 AI (by kernel_rfl) m ?_
   refine Ag 0 13 Z f Z λa f=>Ag 1 13 Z f Z λa f=>Ag 2 13 Z f Z λa f=>Ag 3 13 Z f Z λa f=> ?_
   have⟨aF,aG,av⟩:=bind_some av
   refine B8 4 13 T60 h0 aG Z f Z Z λaH aI a aJ aK f=> ?_
   subst aK
   refine Ca 5 13 AY aJ Z f Z λa f=>q_p 6 13 Z f (λ_=>Az (f.e Z) (f.e Z) Cj) λa f=>Ag 7 13 Z f Z λa f=> ?_
   have⟨aL,aM,av⟩:=bind_some av
   refine BP (i:=8) 13 Z (by kernel_rfl) Z f Z Z Z call74 (λ_ _ w aN m=>Wk.b m aM) λa f=>q_p 9 13 Z f (λ_=>Az (f.e Z) (f.e Z) Cj) λa f=> ?_
   have⟨aO,aP,av⟩:=bind_some av
   refine BP (i:=10) 13 Z (by kernel_rfl) Z f Z Z Z call73 (λ_ _ w aQ m=>Wk.E0 m aP) λa f=>q_p 11 13 Z f (λ_=>Az (f.e Z) (f.e Z) Ax) λa f=>q_p 12 13 Z f (λ_=>CD (f.e Z)) λa f=>A4 λaR w aS m=>Ab (Ap ?_)
   refine Ai f Z Z Ax λa f=>Aa f Z λa f=>Ab ?_
   obtain rfl:=sj av
   exact⟨_,Z,_,_,Z,_,(gt ax aS),f.k Z,m⟩
  ·refine Aj f Z ay ?_
   refine AF Z ?_
   have m:Mem W ar w H:=Mem.drop (H':=[ai]) m
   obtain rfl:=sj av
   obtain rfl:=aw _ rfl
   exact⟨_,Z,_,ax,f.k Z,m⟩
 ·rintro a w ⟨am,rfl,an,aT,f,m⟩
  refine Af ?_
  refine Aa f Z λa f=>Ai f Z Z (D4 Z) λa f=>Ac f Z λa f=>Ab ?_
  refine Ar ?_
  obtain rfl:=sj hd
  exact⟨[(iv (i64.wrap (Int.tdiv am 2)))],f.g Z,f.d,_,[],(gt af aT),m,Z,Z⟩
theorem Wk.A {x0:Int}(m:Mem W G w (H)){y:Int}(hd:D.A x0=some y):
  Calls prog 125 #[(iv x0)] w (Res W G H (λ_ Ho v=>Ho=[]∧v=(.int .u32 y))):=by
 refine As (args:=[(iv x0)]) (N:=6) [.tmp 2] func125 Z Z (lb Z) Z λa f=> ?_
 unfold D.A at hd
 refine Af ?_
 refine Ac f Z λa f=>Ay ?_
 refine Aa f Z λa f=> ?_
 obtain⟨aa,hd⟩:=C9 hd
 refine l_o f (r_shl (f.e Z) (f.e Z) aa) λa f=>Ai f Z Z AT λa f=>Ac f Z λa f=>Ab ?_
 refine Ar ?_
 obtain rfl:=sj hd
 exact⟨[(.int .u32 (IntKind.u32.wrap ((ishl .u32 1 x0)-1)))],f.g Z,f.d,_,[],gr,m,Z,Z⟩
theorem Wk.p {v0:Value}{x0:LI}(m:Mem W G w (H))(h0:RSl (RI .u32) G v0 x0){y:Int}(hd:D.p x0=some y):
  Calls prog 69 #[v0] w (Res W G H (λ_ Ho v=>Ho=[]∧v=(.int .u32 y))):=by
 refine As (args:=[v0]) (N:=6) [.tmp 2] func69 Z Z (lb Z) Z λa f=> ?_
 unfold D.p at hd
 refine Af ?_
 refine Ac f Z λa f=>Ay ?_
 refine Aa f Z λa f=>Be underlying60 f Z Z h0 λa f=> ?_
 have⟨aa,ab,hd⟩:=bind_some hd
 refine Ba f Z call125 (Wk.A m ab) λac w ad m a f=>Ac f Z λa f=>Ab ?_
 refine Ar ?_
 obtain rfl:=sj hd
 exact⟨[(.int .u32 aa)],f.g Z,f.d,_,[],ad,m,Z,Z⟩
theorem Wk.v {x0 x1:Int}(m:Mem W G w (H)){y:Bool}(hd:D.v x0 x1=some y):
  Calls prog 104 #[(.int .u32 x0),(iv x1)] w (Res W G H (λ_ Ho v=>Ho=[]∧v=(.bool y))):=by
 refine As (args:=[(.int .u32 x0),(iv x1)]) (N:=10) [.tmp 4] func104 Z Z (lb Z) Z λa f=> ?_
 unfold D.v at hd
 refine Af ?_
 refine Ac f Z λa f=>Ay ?_
 refine Aa f Z λa f=>Aa f Z λa f=> ?_
 obtain⟨aa,hd⟩:=C9 hd
 refine l_o f (r_shr (f.e Z) (f.e Z) aa) λa f=>Ai f Z Z CP λa f=>Ai f Z Z BE λa f=>Ac f Z λa f=>Ab ?_
 refine Ar ?_
 obtain rfl:=sj hd
 exact⟨[(.bool ((iand .u32 (Bz .u32 x0 x1) 1)==1))],f.g Z,f.d,_,[],gr,m,Z,Z⟩
theorem Wk.e0 {v0:Value}{x0:LI}{x1 x2:Int}(hW:Bw W)(m:Mem W G w (H))(h0:RSl (RI .u32) G v0 x0){y:(LI)}(hd:D.e0 x0 x1 x2=some y):
  Calls prog 153 #[v0,(iv x1),(.int .u32 x2)] w (Res W G H (λG' Ho v=>∃r0:Value,∃i0:Itm,Ho=[i0]∧r0=v∧Ow R0 3 G' i0 r0 y)):=by
 refine As (args:=[v0,(iv x1),(.int .u32 x2)]) (N:=75) [.tmp 6] func153 Z Z (lb Z) Z λa f=> ?_
 unfold D.e0 at hd
 refine Af ?_
 refine Ac f Z λa f=>Ay ?_
 refine Aa f Z λa f=>Be underlying60 f Z Z h0 λa f=> ?_
 have⟨aa,ab,hd⟩:=bind_some hd
 refine l_make (R:=R0) m T65 Z (by decide) Z f Z Z Z ab λac ad w a m ae f=>Ac f Z λa f=>Ab (Ah (Af ?_))
 refine Aa f Z λa f=>Cf 0 m ae Z underlying65 f Z Z λa f=>Aa f Z λa f=>Ab ?_
 have⟨af,ag,hd⟩:=bind_some hd
 refine AL (λa w=>∃ah:LI,ah=af∧∃(ai:GH) (aj:Itm),GLe G ai∧Fr a 75 [(0,v0),(1,(iv x1)),(2,(.int .u32 x2)),(7,ad)]∧Mem W ai w (aj::H)∧Ow R0 3 ai aj ad ah) ?_ ?_
 ·refine An ?_
  refine AJ (λak a w=>∃al:LI,∃am:Int,(al,am)=ak∧∃(an:GH) (ao:Itm),GLe G an∧Fr a 75 [(0,v0),(1,(iv x1)),(2,(.int .u32 x2)),(7,ad),(21,(iv (aa.length:Int))),(22,(iv am))]∧Mem W an w (ao::H)∧Ow R0 3 an ao ad al) ag ⟨_,_,Z,_,ac,gr,f.k Z,m,ae⟩ ?_
  clear ag f m
  rintro ak ap aq ar a w ⟨al,am,rfl,an,ao,au,f,m,av⟩
  refine Af ?_
  refine Ai f Z Z AM λa f=>Ab (Ah ?_)
  rcases Ae aq with⟨aw,aq⟩|⟨aw,aq⟩
  ·refine Am f Z aw ?_
   refine Ao ?_
   refine Ah (An (Af ?_))
   refine Aa f Z λa f=>Ac f Z λa f=>Ab (Ap ?_)
   refine Aa f Z λa f=>Aa f Z λa f=> ?_
   have⟨ax,ay,aq⟩:=bind_some aq
   refine Bk 0 m av Z T65 f Z Z Z ay λaz a aA f=>AH 0 m av Z sizeOf3 f Z Z aA ay Z Z Z λaB w m aC=>Ab (Ap ?_)
   refine Ai f Z Z Ax λa f=>Aa f Z λa f=>Ab ?_
   obtain rfl:=sj aq
   exact⟨_,Z,_,_,Z,_,aB,au,f.k Z,m,aC⟩
  ·refine Aj f Z aw ?_
   refine AF Z ?_
   obtain rfl:=sj aq
   obtain rfl:=ar _ rfl
   exact⟨_,Z,_,ao,au,f.k Z,m,av⟩
 ·rintro a w ⟨ah,rfl,ai,aj,aD,f,m,aE⟩
  have h0:=rd1 aD h0
  refine Af ?_
  refine Aa f Z λa f=>Aa f Z λa f=> ?_
  have⟨aF,aG,hd⟩:=bind_some hd
  refine Bk 0 m aE Z T65 f Z Z Z aG λaH a aI f=>AH 0 m aE Z sizeOf3 f Z Z aI aG Z Z Z λaJ w m aK=>Ab (Ah (Af ?_))
  refine Aa f Z λa f=> ?_
  have⟨aL,aM,hd⟩:=bind_some hd
  refine Ba f Z call74 (Wk.b m aM) λaN w aO m a f=> ?_
  have h0:=rd1 aO h0
  have aK:=od1 aO aK
  refine Aa f Z λa f=> ?_
  have⟨aP,aQ,hd⟩:=bind_some hd
  refine Ba f Z call74 (Wk.b m aQ) λaR w aS m a f=> ?_
  have h0:=rd1 aS h0
  have aK:=od1 aS aK
  refine Ac f Z λa f=>Ac f Z λa f=>Ac f Z λa f=>Ab ?_
  have⟨aT,aU,hd⟩:=bind_some hd
  refine AL (λa w=>∃aV:LI,aV=aT∧∃(aW:GH) (aX:Itm),GLe aR aW∧Fr a 75 [(7,ad)]∧Mem W aW w (aX::H)∧Ow R0 3 aW aX ad aV) ?_ ?_
  ·refine An ?_
   refine AJ (λaY a w=>∃aZ:LI,∃a0:Int,∃a1:Int,∃a2:Int,(aZ,a0,a1,a2)=aY∧∃(a3:GH) (a4:Itm),GLe aR a3∧Fr a 75 [(0,v0),(2,(.int .u32 x2)),(7,ad),(9,(iv a0)),(10,(.int .u32 a1)),(11,(.int .u32 a2))]∧Mem W a3 w (a4::H)∧Ow R0 3 a3 a4 ad aZ) aU ⟨_,_,_,_,Z,_,aJ,gr,f.k Z,m,aK⟩ ?_
   clear aU f m
   rintro aY a5 a6 a7 a w ⟨aZ,a0,a1,a2,rfl,a3,a4,a8,f,m,a9⟩
   have h0:=rd1 a8 h0
   refine Ah (Af ?_)
   refine Aa f Z λa f=>Ai f Z Z C4 λa f=>Ab ?_
   rcases Ae a6 with⟨ba,a6⟩|⟨ba,a6⟩
   ·refine Am f Z ba ?_
    refine Ao ?_
    refine Ah (An (Af ?_))
    refine Ac f Z λa f=>Ab (Ah (Af ?_))
    refine Aa f Z λa f=> ?_
    have⟨bb,bc,a6⟩:=bind_some a6
    refine AK f Z call54 (Wk.c hW m bc) λbd be bf w bg m bh a f=> ?_
    obtain⟨bi,bj,rfl,rfl,bk⟩:=bh
    have h0:=rd1 bg h0
    have a9:=od1 bg a9
    refine Cf 0 m bk Z underlying65 f Z Z λa f=>Aa f Z λa f=>Ab ?_
    have⟨bl,bm,a6⟩:=bind_some a6
    refine AL (λa w=>∃bn:Int,bn=bl∧∃(bo:GH),GLe be bo∧Fr a 75 [(0,v0),(2,(.int .u32 x2)),(7,ad),(9,(iv a0)),(11,(.int .u32 a2)),(12,(.int .u32 bn))]∧Mem W bo w (a4::H)) ?_ ?_
    ·refine An ?_
     have m:=m.fr 1
     refine AJ (λbp a w=>∃bq:Int,∃br:Int,(bq,br)=bp∧∃(bs:GH),GLe be bs∧Fr a 75 [(0,v0),(2,(.int .u32 x2)),(7,ad),(9,(iv a0)),(11,(.int .u32 a2)),(12,(.int .u32 bq)),(41,bi),(42,(iv (bb.length:Int))),(43,(iv br))]∧Mem W bs w (a4::bj::H)) bm ⟨_,_,Z,_,gr,f.k Z,m⟩ ?_
     clear bm f m
     rintro bp bt bu bv a w ⟨bq,br,rfl,bs,bw,f,m⟩
     have h0:=rd1 bw h0
     have bk:=od1 bw bk
     refine Af ?_
     refine Ai f Z Z AM λa f=>Ab (Ah ?_)
     rcases Ae bu with⟨bx,bu⟩|⟨bx,bu⟩
     ·refine Am f Z bx ?_
      refine Ao ?_
      refine Ah (An (Af ?_))
      have⟨bz,bA,bu⟩:=bind_some bu
      refine Bk 1 m bk Z T65 f Z Z Z bA λbB a bC f=>Cr 1 m bk Z Pl3 f Z Z bC bA λbD a bE f=> ?_
      subst bE
      refine Ac f Z λa f=>Ab (Ap ?_)
      refine Aa f Z λa f=>Aa f Z λa f=>Aa f Z λa f=> ?_
      have⟨bF,bG,bu⟩:=bind_some bu
      refine BG T60 f Z Z Z h0 bG λbH bI a bJ bK f=> ?_
      subst bK
      refine AZ m AY f Z Z bJ λa f=>Ai f Z Z b_or λa f=>Ac f Z λa f=>Ab (Ap ?_)
      refine Ai f Z Z Ax λa f=>Aa f Z λa f=>Ab ?_
      obtain rfl:=sj bu
      exact⟨_,Z,_,_,Z,_,bw,f.k Z,m⟩
     ·refine Aj f Z bx ?_
      refine AF Z ?_
      have m:=m.eraseAt 1
      obtain rfl:=sj bu
      obtain rfl:=bv _ rfl
      exact⟨_,Z,_,bw,f.k Z,m⟩
    ·rintro a w ⟨bn,rfl,bo,bL,f,m⟩
     have a9:=od1 bL a9
     refine Af ?_
     refine Aa f Z λa f=>Aa f Z λa f=>Ai f Z Z CP λa f=>Aa f Z λa f=>Ai f Z Z Cj λa f=>Ac f Z λa f=>Ay ?_
     refine Aa f Z λa f=>Aa f Z λa f=>Ai f Z Z b_or λa f=>Ac f Z λa f=>Ay ?_
     refine Aa f Z λa f=> ?_
     have⟨bM,bN,a6⟩:=bind_some a6
     refine AK f Z call54 (Wk.c hW m bN) λbO bP bQ w bR m bS a f=> ?_
     obtain⟨bT,bU,rfl,rfl,bV⟩:=bS
     have a9:=od1 bR a9
     refine Cf 0 m bV Z underlying65 f Z Z λa f=>Aa f Z λa f=>Ab ?_
     have⟨bW,bX,a6⟩:=bind_some a6
     refine AL (λa w=>∃bY:LI,bY=bW∧∃(bZ:GH) (b0:Itm),GLe bP bZ∧Fr a 75 [(0,v0),(2,(.int .u32 x2)),(7,ad),(9,(iv a0)),(10,(.int .u32 (iandNot .u32 (iand .u32 bn x2) a2))),(11,(.int .u32 (ior .u32 a2 (iandNot .u32 (iand .u32 bn x2) a2))))]∧Mem W bZ w (b0::H)∧Ow R0 3 bZ b0 ad bY) ?_ ?_
     ·refine An ?_
      have m:=m.fr 1
      refine AJ (λb1 a w=>∃b2:LI,∃b3:Int,(b2,b3)=b1∧∃(b4:GH) (b5:Itm),GLe bP b4∧Fr a 75 [(0,v0),(2,(.int .u32 x2)),(7,ad),(9,(iv a0)),(10,(.int .u32 (iandNot .u32 (iand .u32 bn x2) a2))),(11,(.int .u32 (ior .u32 a2 (iandNot .u32 (iand .u32 bn x2) a2)))),(63,bT),(64,(iv (bM.length:Int))),(65,(iv b3))]∧Mem W b4 w (b5::bU::H)∧Ow R0 3 b4 b5 ad b2) bX ⟨_,_,Z,_,a4,gr,f.k Z,m,a9⟩ ?_
      clear bX f m
      rintro b1 b6 b7 b8 a w ⟨b2,b3,rfl,b4,b5,b9,f,m,ca⟩
      have bV:=od1 b9 bV
      refine Af ?_
      refine Ai f Z Z AM λa f=>Ab (Ah ?_)
      rcases Ae b7 with⟨cb,b7⟩|⟨cb,b7⟩
      ·refine Am f Z cb ?_
       refine Ao ?_
       refine Ah (An (Af ?_))
       have⟨cc,cd,b7⟩:=bind_some b7
       refine Bk 1 m bV Z T65 f Z Z Z cd λce a cf f=>Cr 1 m bV Z Pl3 f Z Z cf cd λcg a ch f=> ?_
       subst ch
       refine Ac f Z λa f=>Ab (Ap ?_)
       refine Aa f Z λa f=>Aa f Z λa f=>Aa f Z λa f=> ?_
       have⟨ci,cj,b7⟩:=bind_some b7
       refine Bk 0 m ca Z T65 f Z Z Z cj λck a cl f=>AH 0 m ca Z sizeOf3 f Z Z cl cj Z Z Z λcm w m cn=>Ab (Ap ?_)
       refine Ai f Z Z Ax λa f=>Aa f Z λa f=>Ab ?_
       obtain rfl:=sj b7
       exact⟨_,Z,_,_,Z,_,cm,b9,f.k Z,m,cn⟩
      ·refine Aj f Z cb ?_
       refine AF Z ?_
       have m:=m.eraseAt 1
       obtain rfl:=sj b7
       obtain rfl:=b8 _ rfl
       exact⟨_,Z,_,b5,b9,f.k Z,m,ca⟩
     ·rintro a w ⟨bY,rfl,bZ,b0,co,f,m,cp⟩
      refine Ap ?_
      refine Aa f Z λa f=>Ai f Z Z Ax λa f=>Ac f Z λa f=>Ab ?_
      obtain rfl:=sj a6
      exact⟨_,Z,_,_,_,_,Z,_,b0,(gt a8 (gt bg (gt bL (gt bR co)))),f.k Z,m,cp⟩
   ·refine Aj f Z ba ?_
    refine AF Z ?_
    obtain rfl:=sj a6
    obtain rfl:=a7 _ rfl
    exact⟨_,Z,_,a4,a8,f.k Z,m,a9⟩
  ·rintro a w ⟨aV,rfl,aW,aX,cq,f,m,cr⟩
   refine Af ?_
   refine Aa f Z λa f=>Ac f Z λa f=>Ab ?_
   refine Ar ?_
   obtain rfl:=sj hd
   exact⟨[ad],f.g Z,f.d,_,[aX],(gt aD (gt aO (gt aS cq))),m,_,_,Z,Z,cr⟩
theorem Wk.s0 {v0:Value}{x0:LI}{x1 x2 x3:Int}(hW:Bw W)(m:Mem W G w (H))(h0:RSl (RI .u32) G v0 x0){y:(LI)}(hd:D.s0 x0 x1 x2 x3=some y):
  Calls prog 124 #[v0,(iv x1),(iv x2),(.int .u32 x3)] w (Res W G H (λG' Ho v=>∃r0:Value,∃i0:Itm,Ho=[i0]∧r0=v∧Ow R0 3 G' i0 r0 y∧CE r0=y.isEmpty)):=by
 refine As (args:=[v0,(iv x1),(iv x2),(.int .u32 x3)]) (N:=56) [.tmp 8] func124 Z Z (lb Z) Z λa f=> ?_
 unfold D.s0 at hd
 refine Af ?_
 refine Ac f Z λa f=>Ay ?_
 refine Aa f Z λa f=>Aa f Z λa f=>Aa f Z λa f=> ?_
 have⟨aa,ab,hd⟩:=bind_some hd
 refine AK f Z call153 (Wk.e0 hW m h0 ab) λac ad ae w af m ag a f=> ?_
 obtain⟨ah,ai,rfl,rfl,aj⟩:=ag
 have h0:=rd1 af h0
 refine Ac f Z λa f=>Ab (Ah (Af ?_))
 refine Aa f Z λa f=>Aa f Z λa f=> ?_
 have⟨ak,al,hd⟩:=bind_some hd
 refine Bk 0 m aj Z T65 f Z Z Z al λam a an f=>Cr 0 m aj Z Pl3 f Z Z an al λao a ap f=> ?_
 subst ap
 refine Ai f Z Z AM λa f=>Ab ?_
 rcases Ae hd with⟨aq,hd⟩|⟨aq,hd⟩
 ·refine Am f Z aq ?_
  refine Af ?_
  refine Ac f Z λa f=>Ab ?_
  refine Ar ?_
  obtain⟨ar,m,au⟩:=Ow.nil R0 3 m
  have m:=m.eraseAt 1
  obtain rfl:=sj hd
  exact⟨[sn],f.g Z,f.d,_,[ar],af,m,_,_,Z,Z,au,Z⟩
 ·refine Aj f Z aq ?_
  refine Ao ?_
  refine Af ?_
  refine Aa f Z λa f=>BC (R:=R0) (xs:=([x1]:LI)) (RI.one _) m T65 f Z Z Z (by decide) (All2.cons Z (All2.nil _)) λav aw w a m ax f=>Ac f Z λa f=>Ab (Ah ?_)
  have⟨ay,az,hd⟩:=bind_some hd
  refine AL (λa w=>∃aA:LI,aA=ay∧∃(aB:GH) (aC:Value) (aD:Itm),GLe ad aB∧Fr a 56 [(10,aC)]∧Mem W aB w (aD::H)∧Ow R0 3 aB aD aC aA) ?_ ?_
  ·refine An ?_
   have m:=m.fr 1
   refine AJ (λaE a w=>∃aF:Int,∃aG:LI,(aF,aG)=aE∧∃(aH:GH) (aI:Value) (aJ:Itm),GLe ad aH∧Fr a 56 [(0,v0),(1,(iv aF)),(2,(iv x2)),(3,(.int .u32 x3)),(9,ah),(10,aI)]∧Mem W aH w (ai::aJ::H)∧Ow R0 3 aH aJ aI aG) az ⟨_,_,Z,_,aw,av,gr,f.k Z,m,ax⟩ ?_
   clear az f m
   rintro aE aK aL aM a w ⟨aF,aG,rfl,aH,aI,aJ,aN,f,m,aO⟩
   have h0:=rd1 aN h0
   have aj:=od1 aN aj
   refine Ah (Af ?_)
   refine Aa f Z λa f=>Aa f Z λa f=>Ai f Z Z C4 λa f=>Ab ?_
   rcases Ae aL with⟨aP,aL⟩|⟨aP,aL⟩
   ·refine Am f Z aP ?_
    refine Ao ?_
    refine An (Ah (Af ?_))
    refine Aa f Z λa f=>Aa f Z λa f=> ?_
    have⟨aQ,aR,aL⟩:=bind_some aL
    refine BG T60 f Z Z Z h0 aR λaS aT a aU aV f=> ?_
    subst aV
    refine AZ m AY f Z Z aU λa f=>Aa f Z λa f=>Ai f Z Z CP λa f=> ?_
    have⟨aW,aX,aL⟩:=bind_some aL
    refine AK f Z call54 (Wk.c hW m aX) λaY aZ a0 w a1 m a2 a f=> ?_
    obtain⟨a3,a4,rfl,rfl,a5⟩:=a2
    have aj:=od1 a1 aj
    have aO:=od1 a1 aO
    refine Cf 0 m a5 Z underlying65 f Z Z λa f=>Aa f Z λa f=>Ab ?_
    have⟨a6,a7,aL⟩:=bind_some aL
    refine AL (λa w=>∃a8:Int,a8=a6∧∃(a9:GH),GLe aZ a9∧Fr a 56 [(0,v0),(1,(iv a8)),(2,(iv x2)),(3,(.int .u32 x3)),(9,ah),(10,aI)]∧Mem W a9 w (ai::aJ::H)) ?_ ?_
    ·refine An ?_
     have m:=m.fr 2
     have m:=m.fr 2
     refine AJ (λba a w=>∃bb:Int,bb=ba∧∃(bc:GH),GLe aZ bc∧Fr a 56 [(0,v0),(1,(iv aF)),(2,(iv x2)),(3,(.int .u32 x3)),(9,ah),(10,aI),(33,a3),(34,(iv (aW.length:Int))),(35,(iv bb))]∧Mem W bc w (ai::aJ::a4::H)) a7 ⟨_,Z,_,gr,f.k Z,m⟩ ?_
     clear a7 f m
     rintro ba bd be bf a w ⟨bb,rfl,bc,bg,f,m⟩
     have aj:=od1 bg aj
     have a5:=od1 bg a5
     refine Af ?_
     refine Ai f Z Z AM λa f=>Ab (Ah ?_)
     rcases Ae be with⟨bh,be⟩|⟨bh,be⟩
     ·refine Am f Z bh ?_
      refine Ao ?_
      refine Ah (An (Af ?_))
      have⟨bi,bj,be⟩:=bind_some be
      refine Bk 2 m a5 Z T65 f Z Z Z bj λbk a bl f=>Cr 2 m a5 Z Pl3 f Z Z bl bj λbm a bn f=> ?_
      subst bn
      refine Ac f Z λa f=>Ab (Ah ?_)
      refine Bf 10 AI (by kernel_rfl) m ?_
      refine Ag 0 10 Z f Z λa f=>Ag 1 10 Z f Z λa f=> ?_
      have⟨bo,bp,be⟩:=bind_some be
      refine AG 2 10 0 m aj T65 bp Z f Z Z λbq a br f=>AO 3 10 0 aj Pl3 br bp Z f Z λbs a bt f=> ?_
      subst bt
      refine Ag 4 10 Z f Z λa f=>Ag 5 10 Z f Z λa f=> ?_
      have⟨bu,bv,be⟩:=bind_some be
      refine AG 6 10 0 m aj T65 bv Z f Z Z λbw a bx f=>AO 7 10 0 aj Pl3 bx bv Z f Z λbz a bA f=> ?_
      subst bA
      refine q_p 8 10 Z f (λ_=>Az (f.e Z) (f.e Z) AT) λa f=>q_p 9 10 Z f (λ_=>Az (f.e Z) (f.e Z) BE) λa f=>A4 λbB w bC m=>Ab ?_
      rcases Ae be with⟨bD,be⟩|⟨bD,be⟩
      ·refine Am f Z bD ?_
       refine Af ?_
       refine Aa f Z λa f=>Ac f Z λa f=>Ab ?_
       refine AF Z ?_
       have m:=m.eraseAt 2
       obtain rfl:=sj be
       obtain rfl:=bf _ rfl
       exact⟨_,Z,_,(gt bg bC),f.k Z,m⟩
      ·refine Aj f Z bD ?_
       refine Ao ?_
       refine Ap ?_
       refine Ai f Z Z Ax λa f=>Aa f Z λa f=>Ab ?_
       obtain rfl:=sj be
       exact⟨_,Z,_,Z,_,(gt bg bC),f.k Z,m⟩
     ·refine Aj f Z bh ?_
      refine AF Z ?_
      have m:=m.eraseAt 2
      obtain rfl:=sj be
      obtain rfl:=bf _ rfl
      exact⟨_,Z,_,bg,f.k Z,m⟩
    ·rintro a w ⟨a8,rfl,a9,bE,f,m⟩
     have aO:=od1 bE aO
     refine Ap ?_
     refine Aa f Z λa f=>Aa f Z λa f=>BC (R:=R0) (xs:=([a8]:LI)) (RI.one _) m T65 f Z Z Z (by decide) (All2.cons Z (All2.nil _)) λbF bG w a m bH f=> ?_
     have⟨bI,bJ,aL⟩:=bind_some aL
     refine BJ (RI.one _) 2 m aO Z T65 Z (by decide) f Z Z Z (Ow.src (j:=0) bH m Z) bJ λbK bL w a m bM f=>Ac f Z λa f=>Ab ?_
     have m:=m.fr 2
     have m:=m.fr 2
     have m:=m.eraseAt 2
     obtain rfl:=sj aL
     exact⟨_,Z,_,_,Z,_,bL,bK,(gt aN (gt a1 bE)),f.k Z,m,bM⟩
   ·refine Aj f Z aP ?_
    refine AF Z ?_
    have m:=m.fr 1
    have m:=m.eraseAt 1
    obtain rfl:=sj aL
    obtain rfl:=aM _ rfl
    exact⟨_,Z,_,aI,aJ,aN,f.k Z,m,aO⟩
  ·rintro a w ⟨aA,rfl,aB,aC,aD,bN,f,m,bO⟩
   refine Af ?_
   refine Aa f Z λa f=>Ac f Z λa f=>Ab ?_
   refine Ar ?_
   have⟨_,bP,hd⟩:=bind_some hd
   have hx_574':=Ow.notNil 0 m bO rfl bP
   obtain rfl:=sj hd
   exact⟨[aC],f.g Z,f.d,_,[aD],(gt af bN),m,_,_,Z,Z,bO,hx_574'⟩
theorem Wk.u {v0:Value}{x0:LI}{x1 x2 x3:Int}(hW:Bw W)(m:Mem W G w (H))(h0:RSl (RI .u32) G v0 x0){y:(LI)}(hd:D.u x0 x1 x2 x3=some y):
  Calls prog 63 #[v0,(iv x1),(iv x2),(iv x3)] w (Res W G H (λG' Ho v=>∃r0:Value,∃i0:Itm,Ho=[i0]∧r0=v∧Ow R0 3 G' i0 r0 y∧CE r0=y.isEmpty)):=by
 refine As (args:=[v0,(iv x1),(iv x2),(iv x3)]) (N:=35) [.tmp 8] func63 Z Z (lb Z) Z λa f=> ?_
 unfold D.u at hd
 refine Af ?_
 refine Ac f Z λa f=>Ab (Ah ?_)
 refine Bf 11 AI (by kernel_rfl) m ?_
 refine Ag 0 11 Z f Z λa f=> ?_
 have⟨aa,ab,hd⟩:=bind_some hd
 refine BP (i:=1) 11 Z (by kernel_rfl) Z f Z Z Z call69 (λ_ _ w ac m=>Wk.p m (rd1 ac h0) ab) λa f=>Ag 2 11 Z f Z λa f=>Ag 3 11 Z f Z λa f=> ?_
 have⟨ad,ae,hd⟩:=bind_some hd
 refine B8 4 11 T60 h0 ae Z f Z Z λaf ag a ah ai f=> ?_
 subst ai
 refine Ca 5 11 AY ah Z f Z λa f=>q_p 6 11 Z f (λ_=>Az (f.e Z) (f.e Z) Cj) λa f=>Ag 7 11 Z f Z λa f=> ?_
 have⟨aj,ak,hd⟩:=bind_some hd
 refine BP (i:=8) 11 Z (by kernel_rfl) Z f Z Z Z call74 (λ_ _ w al m=>Wk.b m ak) λa f=>q_p 9 11 Z f (λ_=>Az (f.e Z) (f.e Z) Cj) λa f=>q_p 10 11 Z f (λ_=>CD (f.e Z)) λa f=>A4 λam w an m=> ?_
 have h0:=rd1 an h0
 refine Ab (Ah (Af ?_))
 refine Aa f Z λa f=>Aa f Z λa f=> ?_
 have⟨ao,ap,hd⟩:=bind_some hd
 refine Ba f Z call104 (Wk.v m ap) λaq w ar m a f=> ?_
 have h0:=rd1 ar h0
 refine l_o f (Bv (f.e Z)) λa f=>Aa f Z λa f=> ?_
 have⟨au,av,hd⟩:=bind_some hd
 refine Bu 5 (λa w=>∃aw,GLe aq aw∧Mem W aw w (H)∧Fr a 35 [(0,v0),(1,(iv x1)),(2,(iv x2)),(3,(iv x3)),(9,(.int .u32 (iandNot .u32 (iandNot .u32 aa ad) aj))),(20,(.int .u32 (iandNot .u32 (iandNot .u32 aa ad) aj))),(21,(iv x1)),(22,(.bool ao)),(23,(.bool (!ao))),(24,(.bool (!ao))),(29,(.bool au))]) ?_ ?_
 ·rcases Ae av with⟨ax,av⟩|⟨ax,av⟩
  ·refine Aw f ax λa f=> ?_
   refine Aw f ax λa f=>Aw f ax λa f=>Aw f ax λa f=>l_o f (AD (f.e Z) ax (f.e Z)) λa f=> ?_
   obtain rfl:=sj av
   exact⟨_,gr,m,f.k Z⟩
  ·refine Au f ax ?_
   refine Aa f Z λa f=>Au f ax ?_
   refine Aa f Z λa f=>Au f ax ?_
   have⟨ay,az,av⟩:=bind_some av
   refine Ba f Z call104 (Wk.v m az) λaA w aB m a f=>Au f ax ?_
   refine l_o f (Bv (f.e Z)) λa f=>l_o f (AC (f.e Z) ax (f.e Z)) λa f=> ?_
   obtain rfl:=sj av
   exact⟨_,aB,m,f.k Z⟩
 ·rintro a w ⟨aw,aC,m,f⟩
  have h0:=rd1 aC h0
  refine Ab ?_
  rcases Ae hd with⟨aD,hd⟩|⟨aD,hd⟩
  ·refine Am f Z aD ?_
   refine Af ?_
   refine Ac f Z λa f=>Ab ?_
   refine Ar ?_
   obtain⟨aE,m,aF⟩:=Ow.nil R0 3 m
   obtain rfl:=sj hd
   exact⟨[sn],f.g Z,f.d,_,[aE],(gt an (gt ar aC)),m,_,_,Z,Z,aF,Z⟩
  ·refine Aj f Z aD ?_
   refine Ao ?_
   refine Af ?_
   refine Aa f Z λa f=>Aa f Z λa f=>Aa f Z λa f=>Aa f Z λa f=> ?_
   have⟨aG,aH,hd⟩:=bind_some hd
   refine AK f Z call124 (Wk.s0 hW m h0 aH) λaI aJ aK w aL m aM a f=> ?_
   obtain⟨aN,aO,rfl,rfl,aP,aQ⟩:=aM
   refine Ac f Z λa f=>Ab ?_
   refine Ar ?_
   obtain rfl:=sj hd
   exact⟨[aN],f.g Z,f.d,_,[aO],(gt an (gt ar (gt aC aL))),m,_,_,Z,Z,aP,aQ⟩
theorem Wk.l0 {v0:Value}{x0:LI}{x1 x2 x3:Int}(hW:Bw W)(m:Mem W G w (H))(h0:RSl (RI .u32) G v0 x0){y:Bool}(hd:D.l0 x0 x1 x2 x3=some y):
  Calls prog 55 #[v0,(iv x1),(iv x2),(iv x3)] w (Res W G H (λ_ Ho v=>Ho=[]∧v=(.bool y))):=by
 refine As (args:=[v0,(iv x1),(iv x2),(iv x3)]) (N:=44) [.tmp 8] func55 Z Z (lb Z) Z λa f=> ?_
 unfold D.l0 at hd
 refine Af ?_
 refine Ac f Z λa f=>Ay ?_
 refine Aa f Z λa f=>Aa f Z λa f=> ?_
 have⟨aa,ab,hd⟩:=bind_some hd
 refine Ba f Z call74 (Wk.b m ab) λac w ad m a f=> ?_
 have h0:=rd1 ad h0
 refine Aa f Z λa f=> ?_
 have⟨ae,af,hd⟩:=bind_some hd
 refine Ba f Z call74 (Wk.b m af) λag w ah m a f=> ?_
 have h0:=rd1 ah h0
 refine Ai f Z Z b_or λa f=>Aa f Z λa f=> ?_
 have⟨ai,aj,hd⟩:=bind_some hd
 refine Ba f Z call74 (Wk.b m aj) λak w al m a f=> ?_
 have h0:=rd1 al h0
 refine Ai f Z Z b_or λa f=> ?_
 have⟨am,an,hd⟩:=bind_some hd
 refine Ba f Z call65 (Wk.t hW m h0 an) λao w ap m a f=> ?_
 have h0:=rd1 ap h0
 refine Ai f Z Z BE λa f=>Aa f Z λa f=> ?_
 have⟨aq,ar,hd⟩:=bind_some hd
 refine Bu 7 (λa w=>∃au,GLe ao au∧Mem W au w (H)∧Fr a 44 [(0,v0),(1,(iv x1)),(2,(iv x2)),(3,(iv x3)),(9,v0),(10,(iv x1)),(11,(.int .u32 aa)),(12,(iv x2)),(13,(.int .u32 ae)),(14,(.int .u32 (ior .u32 aa ae))),(15,(iv x3)),(16,(.int .u32 ai)),(17,(.int .u32 (ior .u32 (ior .u32 aa ae) ai))),(18,(iv am)),(19,(.bool (am==3))),(20,(.bool (am==3))),(27,(.bool aq))]) ?_ ?_
 ·rcases Ae ar with⟨av,ar⟩|⟨av,ar⟩
  ·refine Au f av ?_
   refine Aa f Z λa f=>Au f av ?_
   refine Aa f Z λa f=>Au f av ?_
   refine Aa f Z λa f=>Au f av ?_
   refine Aa f Z λa f=>Au f av ?_
   have⟨aw,ax,ar⟩:=bind_some ar
   refine AK f Z call63 (Wk.u hW m h0 ax) λay az aA w aB m aC a f=> ?_
   obtain⟨aD,aE,rfl,rfl,aF,aG⟩:=aC
   refine Au f av ?_
   refine l_o f (D3 (f.e Z) (f.e Z) (Ow.hdr 0 m aF Z) underlying65 aG) λa f=>l_o f (AD (f.e Z) av (f.e Z)) λa f=> ?_
   obtain rfl:=sj ar
   have m:Mem W az w H:=Mem.drop (H':=[aE]) m
   exact⟨_,aB,m,f.k Z⟩
  ·refine Aw f av λa f=> ?_
   refine Aw f av λa f=>Aw f av λa f=>Aw f av λa f=>Aw f av λa f=>Aw f av λa f=>l_o f (AC (f.e Z) av (f.e Z)) λa f=> ?_
   obtain rfl:=sj ar
   exact⟨_,gr,m,f.k Z⟩
 ·rintro a w ⟨au,aH,m,f⟩
  have h0:=rd1 aH h0
  refine Aa f Z λa f=> ?_
  have⟨aI,aJ,hd⟩:=bind_some hd
  refine Bu 7 (λa w=>∃aK,GLe au aK∧Mem W aK w (H)∧Fr a 44 [(0,v0),(1,(iv x1)),(2,(iv x2)),(3,(iv x3)),(9,v0),(10,(iv x1)),(11,(.int .u32 aa)),(12,(iv x2)),(13,(.int .u32 ae)),(14,(.int .u32 (ior .u32 aa ae))),(15,(iv x3)),(16,(.int .u32 ai)),(17,(.int .u32 (ior .u32 (ior .u32 aa ae) ai))),(18,(iv am)),(19,(.bool (am==3))),(20,(.bool (am==3))),(27,(.bool aq)),(28,(.bool aq)),(35,(.bool aI))]) ?_ ?_
  ·rcases Ae aJ with⟨aL,aJ⟩|⟨aL,aJ⟩
   ·refine Au f aL ?_
    refine Aa f Z λa f=>Au f aL ?_
    refine Aa f Z λa f=>Au f aL ?_
    refine Aa f Z λa f=>Au f aL ?_
    refine Aa f Z λa f=>Au f aL ?_
    have⟨aM,aN,aJ⟩:=bind_some aJ
    refine AK f Z call63 (Wk.u hW m h0 aN) λaO aP aQ w aR m aS a f=> ?_
    obtain⟨aT,aU,rfl,rfl,aV,aW⟩:=aS
    refine Au f aL ?_
    refine l_o f (D3 (f.e Z) (f.e Z) (Ow.hdr 0 m aV Z) underlying65 aW) λa f=>l_o f (AD (f.e Z) aL (f.e Z)) λa f=> ?_
    obtain rfl:=sj aJ
    have m:Mem W aP w H:=Mem.drop (H':=[aU]) m
    exact⟨_,aR,m,f.k Z⟩
   ·refine Aw f aL λa f=> ?_
    refine Aw f aL λa f=>Aw f aL λa f=>Aw f aL λa f=>Aw f aL λa f=>Aw f aL λa f=>l_o f (AC (f.e Z) aL (f.e Z)) λa f=> ?_
    obtain rfl:=sj aJ
    exact⟨_,gr,m,f.k Z⟩
  ·rintro a w ⟨aK,aX,m,f⟩
   have h0:=rd1 aX h0
   refine Aa f Z λa f=> ?_
   have⟨aY,aZ,hd⟩:=bind_some hd
   refine Bu 7 (λa w=>∃a0,GLe aK a0∧Mem W a0 w (H)∧Fr a 44 [(0,v0),(1,(iv x1)),(2,(iv x2)),(3,(iv x3)),(9,v0),(10,(iv x1)),(11,(.int .u32 aa)),(12,(iv x2)),(13,(.int .u32 ae)),(14,(.int .u32 (ior .u32 aa ae))),(15,(iv x3)),(16,(.int .u32 ai)),(17,(.int .u32 (ior .u32 (ior .u32 aa ae) ai))),(18,(iv am)),(19,(.bool (am==3))),(20,(.bool (am==3))),(27,(.bool aq)),(28,(.bool aq)),(35,(.bool aI)),(36,(.bool aI)),(43,(.bool aY))]) ?_ ?_
   ·rcases Ae aZ with⟨a1,aZ⟩|⟨a1,aZ⟩
    ·refine Au f a1 ?_
     refine Aa f Z λa f=>Au f a1 ?_
     refine Aa f Z λa f=>Au f a1 ?_
     refine Aa f Z λa f=>Au f a1 ?_
     refine Aa f Z λa f=>Au f a1 ?_
     have⟨a2,a3,aZ⟩:=bind_some aZ
     refine AK f Z call63 (Wk.u hW m h0 a3) λa4 a5 a6 w a7 m a8 a f=> ?_
     obtain⟨a9,ba,rfl,rfl,bb,bc⟩:=a8
     refine Au f a1 ?_
     refine l_o f (D3 (f.e Z) (f.e Z) (Ow.hdr 0 m bb Z) underlying65 bc) λa f=>l_o f (AD (f.e Z) a1 (f.e Z)) λa f=> ?_
     obtain rfl:=sj aZ
     have m:Mem W a5 w H:=Mem.drop (H':=[ba]) m
     exact⟨_,a7,m,f.k Z⟩
    ·refine Aw f a1 λa f=> ?_
     refine Aw f a1 λa f=>Aw f a1 λa f=>Aw f a1 λa f=>Aw f a1 λa f=>Aw f a1 λa f=>l_o f (AC (f.e Z) a1 (f.e Z)) λa f=> ?_
     obtain rfl:=sj aZ
     exact⟨_,gr,m,f.k Z⟩
   ·rintro a w ⟨a0,bd,m,f⟩
    refine Ac f Z λa f=>Ab ?_
    refine Ar ?_
    obtain rfl:=sj hd
    exact⟨[(.bool aY)],f.g Z,f.d,_,[],(gt ad (gt ah (gt al (gt ap (gt aH (gt aX bd)))))),m,Z,Z⟩
end Go.Proofs.YtmkcbhidbdggiaaDoor

set_option maxRecDepth 100000
namespace Go.Proofs.YtmkcbhidbdggiaaDoor
open Go Go.Sx
open Go.Proofs.Tryd Go.Proofs.YtmkcbhidbdggiaaDoor.Tryd IntKind
variable {W w : World} {G : GH} {H : List Itm}
theorem hT56 :SlT prog 60 63 1 4 (.int .u32 0):=⟨underlying60,Tryd.t63,by kernel_rfl,by kernel_rfl,by kernel_rfl,by kernel_rfl⟩
theorem hPl56 :BT prog 60:=isAgg60
set_option maxHeartbeats 1000000 in
theorem Wk.i1 {W:World}{σ:Type}{f0:Int→σ→Option (Bool×σ)}{its:σ→List Itm}{g:FuncId}{cs:List Value}{G0:GH}
  (hg:∀(ars:Array Value) (w:World),(callFunc g ars).run prog w= .ok (.enter g ars) w)
  (hcl:∀(w:World) (G:GH) (H:List Itm) (c:Int) (s:σ) (y:Bool×σ),GLe G0 G→Mem W G w (its s++H)→f0 c s=some y→Calls prog g ((.int .u32 c)::cs).toArray w (Res W G H (λ_ Ho v=>Ho=its y.2∧v= .bool y.1))) (n:Nat):
  ∀(w:World) (G:GH) (H:List Itm) (nn frm many chosen:Int) (s:σ) (y:Bool×σ),GLe G0 G→Mem W G w (its s++H)→D.s f0 n nn frm many chosen s=some y→
   Calls prog 52 #[(iv nn),(iv frm),(iv many),(.int .u32 chosen),(.func (.func g) #[] cs.toArray)] w (Res W G H (λ_ Ho v=>Ho=its y.2∧v= .bool y.1)):=by
 induction n with
 |zero=>intro w G H nn frm many chosen s y h0 m hd;simp[D.s] at hd
 |succ n ih=>
  intro w G H nn frm many chosen s y h0 m hd
  refine As (args:=[(iv nn),(iv frm),(iv many),(.int .u32 chosen),(.func (.func g) #[] cs.toArray)]) (N:=36) [.tmp 10] func52 Z Z (lb Z) Z λa f=> ?_
  unfold D.s at hd
  refine Af ?_
  refine Ac f Z λa f=>Ab (Ah (Af ?_))
  refine Aa f Z λa f=>Ai f Z Z BE λa f=>Ab ?_
  rcases Ae hd with⟨hc1,hd⟩|⟨hc1,hd⟩
  ·refine Am f Z hc1 ?_
   refine Af ?_
   refine Aa f Z λa f=>Aa f Z λa f=>l_resv0 f Z Z Z hg (hcl _ _ _ _ _ _ h0 m hd) λv1 G1 Ho1 w hl1 m hQ1 a f=> ?_
   obtain⟨rfl,rfl⟩:=hQ1
   refine Ac f Z λa f=>Ab ?_
   refine Ar ?_
   exact⟨[.bool y.1],f.g Z,f.d,G1,its y.2,hl1,m,Z,Z⟩
  ·refine Aj f Z hc1 ?_
   refine Ao ?_
   refine Ah (Af ?_)
   refine Aa f Z λa f=>Ac f Z λa f=>Ab ?_
   refine AL (λa w=>∃(G':GH),GLe G G'∧y.1=false∧Fr a 36 []∧Mem W G' w (its y.2++H)) ?_ ?_
   ·refine An ?_
    refine AJ (fun(q:σ×Int) a w=>∃(G':GH),GLe G G'∧Fr a 36 [(0,(iv nn)),(2,(iv many)),(3,(.int .u32 chosen)),(4,(.func (.func g) #[] cs.toArray)),(11,(iv q.2))]∧Mem W G' w (its q.1++H)) hd ⟨_,gr,f.k Z,m⟩ ?_
    clear hd f m
    rintro⟨s,v⟩ o hs hqq a w ⟨G1,hl1,f,m⟩
    dsimp only at f m
    unfold D.f0 at hs
    dsimp only at hs
    refine Ah (Af ?_)
    refine Aa f Z λa f=>Aa f Z λa f=>Ai f Z Z Ax λa f=>Aa f Z λa f=>Ai f Z Z CO λa f=>Ab ?_
    rcases Ae hs with⟨hc2,hs⟩|⟨hc2,hs⟩
    ·refine Am f Z hc2 ?_
     refine Ao ?_
     have⟨oo,ho,hs⟩:=bind_some hs
     have⟨r,hr,hs⟩:=bind_some hs
     refine Ah (An (Af ?_))
     refine Aa f Z λa f=>Aa f Z λa f=>Ai f Z Z Ax λa f=>Aa f Z λa f=>Ai f Z Z AT λa f=>Aa f Z λa f=>Aa f Z λa f=>Ba f Z call74 (Wk.b m ho) λG2 w hl2 m a f=>Ai f Z Z b_or λa f=>Aa f Z λa f=>AK f Z call52 (ih _ _ _ _ _ _ _ _ _ (gt h0 (gt hl1 hl2)) m hr) λv3 G3 Ho3 w hl3 m hQ3 a f=> ?_
     obtain⟨rfl,rfl⟩:=hQ3
     refine Ab ?_
     have hle:GLe G G3:=gt hl1 (gt hl2 hl3)
     rcases Ae hs with⟨hc3,hs⟩|⟨hc3,hs⟩
     ·refine Am f Z hc3 ?_
      obtain rfl:=sj hs
      obtain rfl:=hqq _ rfl
      refine Af ?_
      refine Ac f Z λa f=>Ab ?_
      refine Ar ?_
      exact⟨[.bool true],f.g Z,f.d,G3,its r.2,hle,m,Z,Z⟩
     ·refine Aj f Z hc3 ?_
      obtain rfl:=sj hs
      refine Ao ?_
      refine Ap ?_
      refine Aa f Z λa f=>Ai f Z Z Ax λa f=>Ac f Z λa f=>Ab ?_
      exact⟨_,Z,G3,hle,f.k Z,m⟩
    ·refine Aj f Z hc2 ?_
     refine AF Z ?_
     obtain rfl:=sj hs
     obtain rfl:=hqq _ rfl
     exact⟨G1,hl1,Z,f.weak trivial,m⟩
   ·clear hd f m
    rintro a w ⟨G1,hl1,hy,f,m⟩
    refine Af ?_
    refine Ac f Z λa f=>Ab ?_
    refine Ar ?_
    exact⟨[.bool false],f.g Z,f.d,G1,its y.2,hl1,m,Z,congrArg Value.bool hy.symm⟩
end Go.Proofs.YtmkcbhidbdggiaaDoor

set_option maxRecDepth 100000
namespace Go.Proofs.YtmkcbhidbdggiaaDoor
open Go Go.Sx
open Go.Proofs.Tryd Go.Proofs.YtmkcbhidbdggiaaDoor.Tryd IntKind
variable {W w : World} {G : GH} {H : List Itm}
theorem Wk.r {v0:Value}{x0:LI}(m:Mem W G w (H))(h0:R1 G v0 x0){y:(LI)}(hd:D.r x0=some y):
  Calls prog 68 #[v0] w (Res W G H (λG' Ho v=>∃r0:Value,∃i0:Itm,Ho=[i0]∧r0=v∧Ow R0 2 G' i0 r0 y)):=by
 refine As (args:=[v0]) (N:=21) [.tmp 2] func68 Z Z (lb Z) Z λa f=> ?_
 unfold D.r at hd
 refine Af ?_
 refine Ac f Z λa f=>Ay ?_
 refine Aa f Z λa f=>Be underlying65 f Z Z h0 λa f=> ?_
 have⟨aa,ab,hd⟩:=bind_some hd
 refine l_make (R:=R0) m T31 Z (by decide) Z f Z Z Z ab λac ad w a m ae f=>Ac f Z λa f=>Ab (Ah (Af ?_))
 refine Aa f Z λa f=>Be underlying65 f Z Z h0 λa f=>Aa f Z λa f=>Ab ?_
 have⟨af,ag,hd⟩:=bind_some hd
 refine AL (λa w=>∃ah:LI,ah=af∧∃(ai:GH) (aj:Value) (ak:Itm),GLe G ai∧Fr a 21 [(3,aj)]∧Mem W ai w (ak::H)∧Ow R0 2 ai ak aj ah) ?_ ?_
 ·refine An ?_
  refine AJ (λal a w=>∃am:LI,∃an:Int,(am,an)=al∧∃(ao:GH) (ap:Value) (aq:Itm),GLe G ao∧Fr a 21 [(3,ap),(9,v0),(10,(iv (x0.length:Int))),(11,(iv an))]∧Mem W ao w (aq::H)∧Ow R0 2 ao aq ap am) ag ⟨_,_,Z,_,ad,ac,gr,f.k Z,m,ae⟩ ?_
  clear ag f m
  rintro al ar au av a w ⟨am,an,rfl,ao,ap,aq,aw,f,m,ax⟩
  have h0:=rd1 aw h0
  refine Af ?_
  refine Ai f Z Z AM λa f=>Ab (Ah ?_)
  rcases Ae au with⟨ay,au⟩|⟨ay,au⟩
  ·refine Am f Z ay ?_
   refine Ao ?_
   refine Ah (An (Af ?_))
   have⟨az,aA,au⟩:=bind_some au
   refine BG T65 f Z Z Z h0 aA λaB aC a aD aE f=> ?_
   subst aE
   refine AZ m Pl3 f Z Z aD λa f=>Ac f Z λa f=>Ab (Ap ?_)
   refine Aa f Z λa f=>Aa f Z λa f=>BC (R:=R0) (xs:=([az]:LI)) (RI.one _) m T31 f Z Z Z (by decide) (All2.cons Z (All2.nil _)) λaF aG w a m aH f=> ?_
   have⟨aI,aJ,au⟩:=bind_some au
   refine BJ (RI.one _) 1 m ax Z T31 Z (by decide) f Z Z Z (Ow.src (j:=0) aH m Z) aJ λaK aL w a m aM f=>Ac f Z λa f=>Ab (Ap ?_)
   refine Ai f Z Z Ax λa f=>Aa f Z λa f=>Ab ?_
   have m:=m.fr 1
   have m:=m.eraseAt 1
   obtain rfl:=sj au
   exact⟨_,Z,_,_,Z,_,aL,aK,aw,f.k Z,m,aM⟩
  ·refine Aj f Z ay ?_
   refine AF Z ?_
   obtain rfl:=sj au
   obtain rfl:=av _ rfl
   exact⟨_,Z,_,ap,aq,aw,f.k Z,m,ax⟩
 ·rintro a w ⟨ah,rfl,ai,aj,ak,aN,f,m,aO⟩
  refine Af ?_
  refine Aa f Z λa f=>Ac f Z λa f=>Ab ?_
  refine Ar ?_
  obtain rfl:=sj hd
  exact⟨[aj],f.g Z,f.d,_,[ak],aN,m,_,_,Z,Z,aO⟩
theorem Wk.y {x0:Int}(hW:Bw W)(m:Mem W G w (H)){y:(LI)}(hd:D.y x0=some y):
  Calls prog 56 #[(.int .u32 x0)] w (Res W G H (λG' Ho v=>∃r0:Value,∃i0:Itm,Ho=[i0]∧r0=v∧Ow R0 2 G' i0 r0 y)):=by
 refine As (args:=[(.int .u32 x0)]) (N:=6) [.tmp 2] func56 Z Z (lb Z) Z λa f=> ?_
 unfold D.y at hd
 refine Af ?_
 refine Ac f Z λa f=>Ay ?_
 refine Aa f Z λa f=> ?_
 have⟨aa,ab,hd⟩:=bind_some hd
 refine AK f Z call54 (Wk.c hW m ab) λac ad ae w af m ag a f=> ?_
 obtain⟨ah,ai,rfl,rfl,aj⟩:=ag
 have⟨ak,al,hd⟩:=bind_some hd
 refine AK f Z call68 (Ow.lendCall (RI.mono _) 0 aj m Z (λam an m ao=>Wk.r m ao al) (λ_ G' _ _ ⟨a0,a1,e1,e2,o0⟩=>⟨a0,a1,e1,e2,Ow.free (RI.free _) G' o0⟩)) λap aq ar w au m av a f=> ?_
 obtain⟨aw,ax,rfl,rfl,ay⟩:=av
 refine Ac f Z λa f=>Ab ?_
 refine Ar ?_
 have m:=m.eraseAt 1
 obtain rfl:=sj hd
 exact⟨[aw],f.g Z,f.d,_,[ax],(gt af au),m,_,_,Z,Z,ay⟩
end Go.Proofs.YtmkcbhidbdggiaaDoor

set_option maxRecDepth 100000
namespace Go.Proofs.YtmkcbhidbdggiaaDoor
open Go Go.Sx
open Go.Proofs.Tryd Go.Proofs.YtmkcbhidbdggiaaDoor.Tryd IntKind
variable {W w : World} {G : GH} {H : List Itm}
abbrev apIts (bf ba:Nat)(v0:Value)(s:Int):List Itm:=[ib bf 63 [(.int .u32 s)],ib ba 60 [v0]]
theorem Wk.n1 {W:World}(hW:Bw W){F:LI}{v0:Value}{bf ba:Nat}{G0:GH}(h0:RSl (RI .u32) G0 v0 F)(w:World)(G:GH)(H:List Itm)(c s:Int)(y:Bool×Int)(hG:GLe G0 G)
  (m:Mem W G w (apIts bf ba v0 s++H)) (hd:D.D0 F c s=some y):
  Calls prog 53 ((.int .u32 c)::[(pb bf),(pb ba)]).toArray w (Res W G H (λ_ Ho v=>Ho=apIts bf ba v0 y.2∧v= .bool y.1)):=by
 refine As (args:=[(.int .u32 c),(pb bf),(pb ba)]) (N:=20) [.tmp 4] func53 Z Z (lb Z) Z λa f=> ?_
 unfold D.D0 at hd
 have h0:=rd1 hG h0
 have⟨l,hl,hd⟩:=bind_some hd
 have⟨u,hu,hd⟩:=bind_some hd
 have⟨v,hv,hd⟩:=bind_some hd
 have⟨w',hw,hd⟩:=bind_some hd
 have⟨b,hb,hd⟩:=bind_some hd
 obtain rfl:=sj hd
 refine Af ?_
 refine Ac f Z λa f=>Ay ?_
 refine Aa f Z λa f=>A6 0 0 (ds:=[(.int .u32 c)]) m sizeOf63 f Z Z Z (Bb Z Bh) Z (lb Z) Z λw m=>Ay ?_
 refine Aa f Z λa f=>AK f Z call54 (Wk.c hW m hl) λv1 G1 Ho1 w hl1 m hQ1 a f=> ?_
 obtain⟨vl,itl,rfl,rfl,ol⟩:=hQ1
 obtain⟨G2,hl2,m,hL⟩:=ol.stamp (RI.mono _) m
 have h0:=rd1 (gt hl1 hl2) h0
 refine Ac f Z λa f=>Ab (Ah ?_)
 refine AL (λa w=>∃(G':GH),GLe G2 G'∧Fr a 20 [(4,(.bool b))]∧Mem W G' w (ib bf 63 [(.int .u32 c)]::ib ba 60 [v0]::H)) ?_ ?_
 ·refine Bf 11 AI (by kernel_rfl) m ?_
  refine CM 0 11 1 hPl56 Z Z Z f Z λa f=>Ag 1 11 Z f Z λa f=>B8 2 11 T65 hL hu Z f Z Z λp c a g h f=> ?_
  subst h
  refine Ca 3 11 Pl3 g Z f Z λa f=>Ag 4 11 Z f Z λa f=>B8 5 11 T65 hL hv Z f Z Z λp c a g h f=> ?_
  subst h
  refine Ca 6 11 Pl3 g Z f Z λa f=>Ag 7 11 Z f Z λa f=>B8 8 11 T65 hL hw Z f Z Z λp c a g h f=> ?_
  subst h
  refine Ca 9 11 Pl3 g Z f Z λa f=>BP (i:=10) 11 Z (by kernel_rfl) Z f Z Z Z call55 (λ_ _ w hG m=>Wk.l0 hW m (rd1 hG h0) hb) λa f=>A4 λG3 w hl3 m=>Ac f Z λa f=>Ab ?_
  exact⟨G3,hl3,f.k Z,m⟩
 ·rintro a w ⟨G3,hl3,f,m⟩
  refine Ar ?_
  exact⟨[.bool b],f.g Z,f.d,G3,apIts bf ba v0 c,gt hl1 (gt hl2 hl3),m,Z,Z⟩
set_option maxHeartbeats 1000000 in
theorem Wk.P {aa:Value}{ab:LL}(hW:Bw W)(m:Mem W G w (H))(ac:R2 G aa ab){y:LI×Bool}(hd:D.P ab=some y):
  Calls prog 11 #[(.agg #[aa])] w (Res W G H (λG' Ho v=>∃r0:Value,∃i0:Itm,Ho=[i0]∧v= .tuple #[r0,(.bool y.2)]∧Ow R0 2 G' i0 r0 y.1)):=by
 refine As (args:=[(.agg #[aa])]) (N:=18) [.tmp 2,.tmp 3] func11 Z Z (lb Z) Z λa f=> ?_
 unfold D.P at hd
 refine Af ?_
 refine B3 (cs:=[aa]) m f Z Z Z λbg w a m f=>Ac f Z λa f=>Ac f Z λa f=>Ab (Ah (Af ?_))
 refine A7 0 0 (ds:=[aa]) m Bj f Z Z Z Z Z λa f=> ?_
 have⟨b,hb,hd⟩:=bind_some hd
 refine Ba f Z call50 (Wk.l m ac hb) λG1 w hl1 m a f=> ?_
 have ac:=rd2 hl1 ac
 refine l_o f (Bv (f.e Z)) λa f=>Ab ?_
 rcases Ae hd with⟨hc1,hd⟩|⟨hc1,hd⟩
 ·obtain rfl:=sj hd
  refine Am f Z hc1 ?_
  refine Af ?_
  refine Ac f Z λa f=>Ac f Z λa f=>Ab ?_
  refine Ar ?_
  have m:Mem W G1 w H:=Mem.drop (H':=[ib bg 29 [aa]]) m
  obtain⟨itN,m,oN⟩:=Ow.nil R0 2 m
  exact⟨[.slice none 0 0,.bool false],⟨f.get _ _ Z,f.get _ _ Z,trivial⟩,f.d,G1,[itN],hl1,m,_,_,Z,Z,oN⟩
 ·refine Aj f Z hc1 ?_
  refine Ao ?_
  have⟨F,hF,hd⟩:=bind_some hd
  have⟨r,hr,hd⟩:=bind_some hd
  refine Af ?_
  refine A7 0 0 (ds:=[aa]) m Bj f Z Z Z Z Z λa f=>AK f Z call51 (Wk.n m ac hF) λv2 G2 Ho2 w hl2 m hQ2 a f=> ?_
  obtain⟨vF,itF,rfl,rfl,oF⟩:=hQ2
  obtain⟨G3,hl3,m,hA⟩:=oF.stamp (RI.mono _) m
  refine BX (cs:=[sn]) zeroValue60 m f Z Z λba w a m f=>BX (cs:=[(.int .u32 0)]) zeroValue63 m f Z Z λbf w a m f=>A6 1 0 (ds:=[vF]) m sizeOf60 f Z Z hA.cells (Bb hA.one1 Bh) Z (lb Z) Z λw m=>A6 0 0 (ds:=[(.int .u32 0)]) m sizeOf63 f Z Z Z (Bb Z Bh) Z (lb Z) Z λw m=> ?_
  have hle3:GLe G G3:=gt hl1 (gt hl2 hl3)
  refine Ab (Ah (Af ?_))
  refine AR 1 0 m hPl56 f Z Z Z Z λa f=>Be underlying60 f Z Z hA λa f=>l_makeFunc (vs:=[]) (us:=[(pb bf),(pb ba)]) f Z Z Z λa f=>AK f Z call52 (Wk.i1 (its:=apIts bf ba vF) call53 (Wk.n1 hW hA) Bq _ _ _ _ _ _ _ _ _ gr m hr) λv6 G6 Ho6 w hl6 m hQ6 a f=> ?_
  obtain⟨rfl,rfl⟩:=hQ6
  refine l_o f (Bv (f.e Z)) λa f=>Ab ?_
  rcases Ae hd with⟨hc3,hd⟩|⟨hc3,hd⟩
  ·obtain rfl:=sj hd
   refine Am f Z hc3 ?_
   refine Af ?_
   refine Ac f Z λa f=>Ac f Z λa f=>Ab ?_
   refine Ar ?_
   have m:Mem W G6 w H:=m.tail.tail.tail
   obtain⟨itN,m,oN⟩:=Ow.nil R0 2 m
   exact⟨[.slice none 0 0,.bool false],⟨f.get _ _ Z,f.get _ _ Z,trivial⟩,f.d,G6,[itN],gt hle3 hl6,m,_,_,Z,Z,oN⟩
  ·refine Aj f Z hc3 ?_
   refine Ao ?_
   have⟨l,hl,hd⟩:=bind_some hd
   obtain rfl:=sj hd
   refine Af ?_
   refine AR 0 0 m AY f Z Z Z Z λa f=>AK f Z call56 (Wk.y hW m hl) λv8 G8 Ho8 w hl8 m hQ8 a f=> ?_
   obtain⟨vl,itl,rfl,rfl,ol⟩:=hQ8
   refine Ac f Z λa f=>Ac f Z λa f=>Ab ?_
   refine Ar ?_
   have m:Mem W G8 w (itl::H):=(((m.eraseAt 1).eraseAt 1).eraseAt 1)
   exact⟨[vl,.bool true],⟨f.get _ _ Z,f.get _ _ Z,trivial⟩,f.d,G8,[itl],gt hle3 (gt hl6 hl8),m,_,_,Z,Z,ol⟩
end Go.Proofs.YtmkcbhidbdggiaaDoor

set_option maxRecDepth 100000
namespace Go.Proofs.YtmkcbhidbdggiaaDoor
open Go Go.Sx
open Go.Proofs.Tryd Go.Proofs.YtmkcbhidbdggiaaDoor.Tryd IntKind
variable {W w : World} {G : GH} {H : List Itm}
theorem T59 :SlT prog 59 63 1 4 (.int .u32 0):=⟨underlying59,Tryd.t63,by kernel_rfl,by kernel_rfl,by kernel_rfl,by kernel_rfl⟩
theorem Wk.V {v0:Value}{x0:LI}(hW:Bw W)(m:Mem W G w (H))(h0:RSl (RI .u32) G v0 x0){y:(LI)}(hd:D.V x0=some y):
  Calls prog 150 #[v0] w (Res W G H (λG' Ho v=>∃r0:Value,∃i0:Itm,Ho=[i0]∧r0=v∧Ow R0 3 G' i0 r0 y∧CE r0=y.isEmpty)):=by
 refine As (args:=[v0]) (N:=42) [.tmp 2] func150 Z Z (lb Z) Z λa f=> ?_
 unfold D.V at hd
 refine Af ?_
 refine Ac f Z λa f=>Ay ?_
 refine BC (R:=R0) (xs:=([]:LI)) (RI.one _) m T65 f Z Z Z (by decide) (All2.nil _) λaa ab w a m ac f=>Ac f Z λa f=>Ab (Ah (Af ?_))
 refine Aa f Z λa f=> ?_
 have⟨ad,ae,hd⟩:=bind_some hd
 refine Ba f Z call69 (Wk.p m h0 ae) λaf w ag m a f=> ?_
 have h0:=rd1 ag h0
 have ac:=od1 ag ac
 refine Ac f Z λa f=>Ab ?_
 have⟨ah,ai,hd⟩:=bind_some hd
 refine AL (λa w=>∃q_275':LI,ah= .inl q_275'∧∃aj:LI,aj=q_275'∧∃(ak:GH) (al:Value) (am:Itm),GLe af ak∧Fr a 42 [(3,al)]∧Mem W ak w (am::H)∧Ow R0 3 ak am al aj) ?_ ?_
 ·refine An ?_
  refine AJ (λan a w=>∃ao:LI,∃ap:Int,(ao,ap)=an∧∃(aq:GH) (ar:Value) (au:Itm),GLe af aq∧Fr a 42 [(0,v0),(3,ar),(4,(.int .u32 ap))]∧Mem W aq w (au::H)∧Ow R0 3 aq au ar ao) ai ⟨_,_,Z,_,ab,aa,gr,f.k Z,m,ac⟩ ?_
  clear ai f m
  rintro an av aw ax a w ⟨ao,ap,rfl,aq,ar,au,ay,f,m,az⟩
  have h0:=rd1 ay h0
  refine Ah (Af ?_)
  refine Aa f Z λa f=>Ai f Z Z C4 λa f=>Ab ?_
  rcases Ae aw with⟨aA,aw⟩|⟨aA,aw⟩
  ·refine Am f Z aA ?_
   refine Ao ?_
   refine An (Af ?_)
   refine Ac f Z λa f=>Ab (Ah (Af ?_))
   refine Aa f Z λa f=> ?_
   have⟨aB,aC,aw⟩:=bind_some aw
   refine AK f Z call54 (Wk.c hW m aC) λaD aE aF w aG m aH a f=> ?_
   obtain⟨aI,aJ,rfl,rfl,aK⟩:=aH
   have h0:=rd1 aG h0
   have az:=od1 aG az
   refine Cf 0 m aK Z underlying65 f Z Z λa f=>Aa f Z λa f=>Ab ?_
   have⟨aL,aM,aw⟩:=bind_some aw
   refine AL (λa w=>∃aN:Int,aN=aL∧∃(aO:GH),GLe aE aO∧Fr a 42 [(0,v0),(3,ar),(4,(.int .u32 ap)),(5,(iv aN))]∧Mem W aO w (au::H)) ?_ ?_
   ·refine An ?_
    have m:=m.fr 1
    refine AJ (λaP a w=>∃aQ:Int,aQ=aP∧∃(aR:GH),GLe aE aR∧Fr a 42 [(0,v0),(3,ar),(4,(.int .u32 ap)),(5,(iv (-1))),(14,aI),(15,(iv (aB.length:Int))),(16,(iv aQ))]∧Mem W aR w (au::aJ::H)) aM ⟨_,Z,_,gr,f.k Z,m⟩ ?_
    clear aM f m
    rintro aP aS aT aU a w ⟨aQ,rfl,aR,aV,f,m⟩
    have h0:=rd1 aV h0
    have aK:=od1 aV aK
    refine Af ?_
    refine Ai f Z Z AM λa f=>Ab (Ah ?_)
    rcases Ae aT with⟨aW,aT⟩|⟨aW,aT⟩
    ·refine Am f Z aW ?_
     refine Ao ?_
     refine Ah (An (Af ?_))
     have⟨aX,aY,aT⟩:=bind_some aT
     refine Bk 1 m aK Z T65 f Z Z Z aY λaZ a a0 f=>Cr 1 m aK Z Pl3 f Z Z a0 aY λa1 a a2 f=> ?_
     subst a2
     refine Ac f Z λa f=>Ay ?_
     refine Aa f Z λa f=>Aa f Z λa f=>Aa f Z λa f=> ?_
     have⟨a3,a4,aT⟩:=bind_some aT
     refine BG T60 f Z Z Z h0 a4 λa5 a6 a a7 a8 f=> ?_
     subst a8
     refine AZ m AY f Z Z a7 λa f=>Aa f Z λa f=>Ai f Z Z CP λa f=> ?_
     have⟨a9,ba,aT⟩:=bind_some aT
     refine Ba f Z call65 (Wk.t hW m h0 ba) λbb w bc m a f=>Ai f Z Z BE λa f=>Ab ?_
     rcases Ae aT with⟨bd,aT⟩|⟨bd,aT⟩
     ·refine Am f Z bd ?_
      refine Af ?_
      refine Aa f Z λa f=>Ac f Z λa f=>Ab ?_
      refine AF Z ?_
      have m:=m.eraseAt 1
      obtain rfl:=sj aT
      obtain rfl:=aU _ rfl
      exact⟨_,Z,_,(gt aV bc),f.k Z,m⟩
     ·refine Aj f Z bd ?_
      refine Ao ?_
      refine Ap ?_
      refine Ai f Z Z Ax λa f=>Aa f Z λa f=>Ab ?_
      obtain rfl:=sj aT
      exact⟨_,Z,_,Z,_,(gt aV bc),f.k Z,m⟩
    ·refine Aj f Z aW ?_
     refine AF Z ?_
     have m:=m.eraseAt 1
     obtain rfl:=sj aT
     obtain rfl:=aU _ rfl
     exact⟨_,Z,_,aV,f.k Z,m⟩
   ·rintro a w ⟨aN,rfl,aO,be,f,m⟩
    have az:=od1 be az
    refine Ah (Af ?_)
    refine Aa f Z λa f=>Ai f Z Z AM λa f=>Ab ?_
    rcases Ae aw with⟨bf,aw⟩|⟨bf,aw⟩
    ·refine Am f Z bf ?_
     refine Af ?_
     refine Ac f Z λa f=>Ab ?_
     refine Ar ?_
     obtain⟨bg,m,bh⟩:=Ow.nil R0 3 m
     have m:=m.eraseAt 1
     obtain rfl:=sj aw
     obtain rfl:=ax _ rfl
     obtain rfl:=sj hd
     exact⟨[sn],f.g Z,f.d,_,[bg],(gt ag (gt ay (gt aG be))),m,_,_,Z,Z,bh,Z⟩
    ·refine Aj f Z bf ?_
     refine Ao ?_
     refine Af ?_
     refine Aa f Z λa f=>Aa f Z λa f=> ?_
     have⟨bi,bj,aw⟩:=bind_some aw
     refine Ba f Z call74 (Wk.b m bj) λbk w bl m a f=> ?_
     have az:=od1 bl az
     refine Ai f Z Z Cj λa f=>Ac f Z λa f=>Ab (Ap ?_)
     refine Aa f Z λa f=>Aa f Z λa f=>BC (R:=R0) (xs:=([aN]:LI)) (RI.one _) m T65 f Z Z Z (by decide) (All2.cons Z (All2.nil _)) λbm bn w a m bo f=> ?_
     have⟨bp,bq,aw⟩:=bind_some aw
     refine BJ (RI.one _) 1 m az Z T65 Z (by decide) f Z Z Z (Ow.src (j:=0) bo m Z) bq λbr bs w a m bt f=>Ac f Z λa f=>Ab ?_
     have m:=m.fr 1
     have m:=m.eraseAt 1
     obtain rfl:=sj aw
     exact⟨_,Z,_,_,Z,_,bs,br,(gt ay (gt aG (gt be bl))),f.k Z,m,bt⟩
  ·refine Aj f Z aA ?_
   refine AF Z ?_
   obtain rfl:=sj aw
   obtain rfl:=ax _ rfl
   exact⟨_,Z,_,Z,_,ar,au,ay,f.k Z,m,az⟩
 ·rintro a w ⟨_,rfl,aj,rfl,ak,al,am,bu,f,m,bv⟩
  refine Af ?_
  refine Aa f Z λa f=>Ac f Z λa f=>Ab ?_
  refine Ar ?_
  have⟨_,bw,hd⟩:=bind_some hd
  have hx_555':=Ow.notNil 0 m bv rfl bw
  obtain rfl:=sj hd
  exact⟨[al],f.g Z,f.d,_,[am],(gt ag bu),m,_,_,Z,Z,bv,hx_555'⟩
theorem Wk.T {W:World}(hW:Bw W)(n:Nat):∀{w:World} {G:GH} {H:List Itm} {v0 v4:Value} {it4:Itm} {x0:LI} {x1 x2 x3:Int} {x4:LI} (m:Mem W G w (it4::H)) (h0:RSl (RI .u32) G v0 x0) (o4:Ow (RI .u32) 63 G it4 v4 x4) {y:(LI)} (hd:D.T n x0 x1 x2 x3 x4=some y),
  Calls prog 162 #[v0,(.int .u32 x1),(.int .u32 x2),(.int .u32 x3),v4] w (Res W G H (λG' Ho v=>∃r0:Value,∃i0:Itm,Ho=[i0]∧r0=v∧Ow (RI .u32) 63 G' i0 r0 y)):=by
 induction n with
 |zero=>intros;rename_i hd;simp[D.T] at hd
 |succ fuel ih=>
  intro w G H v0 v4 it4 x0 x1 x2 x3 x4 m h0 o4 y hd
  refine As (args:=[v0,(.int .u32 x1),(.int .u32 x2),(.int .u32 x3),v4]) (N:=58) [.tmp 10] func162 Z Z (lb Z) Z λa f=> ?_
  unfold D.T at hd
  refine Af ?_
  refine Ac f Z λa f=>Ab (Ah (Af ?_))
  refine Aa f Z λa f=>Ai f Z Z BE λa f=>Ab ?_
  rcases Ae hd with⟨aa,hd⟩|⟨aa,hd⟩
  ·refine Am f Z aa ?_
   refine Ah (Af ?_)
   refine Aa f Z λa f=>Ai f Z Z BE λa f=>Ab ?_
   have⟨ab,ac,hd⟩:=bind_some hd
   refine AL (λa w=>∃ad:LI,ad=ab∧∃(ae:GH) (af:Value) (ag:Itm),GLe G ae∧Fr a 58 [(4,af)]∧Mem W ae w (ag::H)∧Ow (RI .u32) 63 ae ag af ad) ?_ ?_
   ·rcases Ae ac with⟨ah,ac⟩|⟨ah,ac⟩
    ·refine Am f Z ah ?_
     refine Ap ?_
     refine Aa f Z λa f=>Aa f Z λa f=>BC (R:=(RI .u32)) (xs:=([x1]:LI)) (RI.one _) m T59 f Z Z Z (by decide) (All2.cons Z (All2.nil _)) λai aj w a m ak f=> ?_
     have⟨al,am,ac⟩:=bind_some ac
     refine BJ (RI.one _) 1 m o4 Z T59 Z (by decide) f Z Z Z (Ow.src (j:=0) ak m Z) am λan ao w a m ap f=>Ac f Z λa f=>Ab ?_
     have m:=m.fr 1
     have m:=m.eraseAt 1
     obtain rfl:=sj ac
     exact⟨_,Z,_,ao,an,gr,f.k Z,m,ap⟩
    ·refine Aj f Z ah ?_
     refine Ao ?_
     obtain rfl:=sj ac
     exact⟨_,Z,_,v4,it4,gr,f.k Z,m,o4⟩
   ·rintro a w ⟨ad,rfl,ae,af,ag,aq,f,m,ar⟩
    refine Af ?_
    refine Aa f Z λa f=>Ac f Z λa f=>Ab ?_
    refine Ar ?_
    obtain rfl:=sj hd
    exact⟨[af],f.g Z,f.d,_,[ag],aq,m,_,_,Z,Z,ar⟩
  ·refine Aj f Z aa ?_
   refine Ao ?_
   refine Ah (Af ?_)
   refine Aa f Z λa f=> ?_
   have⟨au,av,hd⟩:=bind_some hd
   refine AK f Z call54 (Wk.c hW m av) λaw ax ay w az m aA a f=> ?_
   obtain⟨aB,aC,rfl,rfl,aD⟩:=aA
   have h0:=rd1 az h0
   have o4:=od1 az o4
   refine Cf 0 m aD Z underlying65 f Z Z λa f=>Aa f Z λa f=>Ab ?_
   have⟨aE,aF,hd⟩:=bind_some hd
   refine AL (λa w=>∃aG:LI,aG=aE∧∃(aH:GH) (aI:Value) (aJ:Itm),GLe ax aH∧Fr a 58 [(4,aI)]∧Mem W aH w (aJ::H)∧Ow (RI .u32) 63 aH aJ aI aG) ?_ ?_
   ·refine An ?_
    have m:=m.fr 1
    refine AJ (λaK a w=>∃aL:Int,∃aM:Int,∃aN:LI,∃aO:Int,(aL,aM,aN,aO)=aK∧∃(aP:GH) (aQ:Value) (aR:Itm),GLe ax aP∧Fr a 58 [(0,v0),(1,(.int .u32 x1)),(2,(.int .u32 aL)),(3,(.int .u32 aM)),(4,aQ),(23,aB),(24,(iv (au.length:Int))),(25,(iv aO))]∧Mem W aP w (aR::aC::H)∧Ow (RI .u32) 63 aP aR aQ aN) aF ⟨_,_,_,_,Z,_,v4,it4,gr,f.k Z,m,o4⟩ ?_
    clear aF f m
    rintro aK aS aT aU a w ⟨aL,aM,aN,aO,rfl,aP,aQ,aR,aV,f,m,aW⟩
    have h0:=rd1 aV h0
    have aD:=od1 aV aD
    refine Af ?_
    refine Ai f Z Z AM λa f=>Ab (Ah ?_)
    rcases Ae aT with⟨aX,aT⟩|⟨aX,aT⟩
    ·refine Am f Z aX ?_
     refine Ao ?_
     refine Ah (An (Af ?_))
     have⟨aY,aZ,aT⟩:=bind_some aT
     refine Bk 1 m aD Z T65 f Z Z Z aZ λa0 a a1 f=>Cr 1 m aD Z Pl3 f Z Z a1 aZ λa2 a a3 f=> ?_
     subst a3
     refine Ac f Z λa f=>Ab (Ah ?_)
     refine Bf 18 AI (by kernel_rfl) m ?_
     refine Ag 0 18 Z f Z λa f=>Ag 1 18 Z f Z λa f=>Ag 2 18 Z f Z λa f=> ?_
     have⟨a4,a5,aT⟩:=bind_some aT
     refine BP (i:=3) 18 Z (by kernel_rfl) Z f Z Z Z call74 (λ_ _ w a6 m=>Wk.b m a5) λa f=>q_p 4 18 Z f (λ_=>Az (f.e Z) (f.e Z) b_or) λa f=>Ag 5 18 Z f Z λa f=>Ag 6 18 Z f Z λa f=>Ag 7 18 Z f Z λa f=> ?_
     have⟨a7,a8,aT⟩:=bind_some aT
     refine B8 8 18 T60 h0 a8 Z f Z Z λa9 ba a bb bc f=> ?_
     subst bc
     refine Ca 9 18 AY bb Z f Z λa f=>q_p 10 18 Z f (λ_=>Az (f.e Z) (f.e Z) CP) λa f=>Ag 11 18 Z f Z λa f=>Ag 12 18 Z f Z λa f=>Ag 13 18 Z f Z λa f=> ?_
     have⟨bd,be,aT⟩:=bind_some aT
     refine B8 14 18 T60 h0 be Z f Z Z λbf bg a bh bi f=> ?_
     subst bi
     refine Ca 15 18 AY bh Z f Z λa f=>q_p 16 18 Z f (λ_=>Az (f.e Z) (f.e Z) CP) λa f=>Ag 17 18 Z f Z λa f=>A4 λbj w bk m=> ?_
     have h0:=rd1 bk h0
     have aW:=od1 bk aW
     have⟨bl,bm,aT⟩:=bind_some aT
     refine AK f Z call162 (ih m h0 aW bm) λbn bo bp w bq m br a f=> ?_
     obtain⟨bs,bt,rfl,rfl,bu⟩:=br
     refine Ac f Z λa f=>Ay ?_
     refine Aa f Z λa f=>Aa f Z λa f=> ?_
     have⟨bv,bw,aT⟩:=bind_some aT
     refine Ba f Z call74 (Wk.b m bw) λbx w bz m a f=> ?_
     have bu:=od1 bz bu
     refine Ai f Z Z Cj λa f=>Ac f Z λa f=>Ab (Ap ?_)
     refine Aa f Z λa f=>Aa f Z λa f=> ?_
     have⟨bA,bB,aT⟩:=bind_some aT
     refine Ba f Z call74 (Wk.b m bB) λbC w bD m a f=> ?_
     have bu:=od1 bD bu
     refine Ai f Z Z b_or λa f=>Ac f Z λa f=>Ab (Ap ?_)
     refine Ai f Z Z Ax λa f=>Aa f Z λa f=>Ab ?_
     obtain rfl:=sj aT
     exact⟨_,Z,_,_,_,_,Z,_,bs,bt,(gt aV (gt bk (gt bq (gt bz bD)))),f.k Z,m,bu⟩
    ·refine Aj f Z aX ?_
     refine AF Z ?_
     have m:=m.eraseAt 1
     obtain rfl:=sj aT
     obtain rfl:=aU _ rfl
     exact⟨_,Z,_,aQ,aR,aV,f.k Z,m,aW⟩
   ·rintro a w ⟨aG,rfl,aH,aI,aJ,bE,f,m,bF⟩
    refine Af ?_
    refine Aa f Z λa f=>Ac f Z λa f=>Ab ?_
    refine Ar ?_
    obtain rfl:=sj hd
    exact⟨[aI],f.g Z,f.d,_,[aJ],(gt az bE),m,_,_,Z,Z,bF⟩
theorem Wk.m {v0 v4:Value}{it4:Itm}{x0:LI}{x1 x2 x3:Int}{x4:LI}(hW:Bw W)(m:Mem W G w (it4::H))(h0:RSl (RI .u32) G v0 x0)(o4:Ow (RI .u32) 63 G it4 v4 x4){y:(LI)}(hd:D.m x0 x1 x2 x3 x4=some y):
  Calls prog 162 #[v0,(.int .u32 x1),(.int .u32 x2),(.int .u32 x3),v4] w (Res W G H (λG' Ho v=>∃r0:Value,∃i0:Itm,Ho=[i0]∧r0=v∧Ow (RI .u32) 63 G' i0 r0 y)):=by
 exact Wk.T hW Bq m h0 o4 hd
theorem Wk.a {x0 x1:Int}(hW:Bw W)(m:Mem W G w (H)){y:Int}(hd:D.a x0 x1=some y):
  Calls prog 164 #[(.int .u32 x0),(.int .u32 x1)] w (Res W G H (λ_ Ho v=>Ho=[]∧v=(iv y))):=by
 refine As (args:=[(.int .u32 x0),(.int .u32 x1)]) (N:=10) [.tmp 4] func164 Z Z (lb Z) Z λa f=> ?_
 unfold D.a at hd
 refine Af ?_
 refine Ac f Z λa f=>Ay ?_
 refine Aa f Z λa f=> ?_
 have⟨aa,ab,hd⟩:=bind_some hd
 refine AK f Z call54 (Wk.c hW m ab) λac ad ae w af m ag a f=> ?_
 obtain⟨ah,ai,rfl,rfl,aj⟩:=ag
 refine Aa f Z λa f=> ?_
 have⟨ak,al,hd⟩:=bind_some hd
 refine AK f Z call54 (Wk.c hW m al) λam an ao w ap m aq a f=> ?_
 obtain⟨ar,au,rfl,rfl,av⟩:=aq
 have aj:=od1 ap aj
 have⟨aw,ax,hd⟩:=bind_some hd
 refine AK f Z call179 (Ow.lendCall (RI.mono _) 1 aj m Z (λay az m aA=>(Ow.lendCall (RI.mono _) 0 (od1 az av) m Z (λaB aC m aD=>Wk.z0 m (rd1 aC aA) aD ax) (λ_ _ _ _ h=>h))) (λ_ _ _ _ h=>h)) λaE aF aG w aH m aI a f=> ?_
 obtain⟨rfl,rfl⟩:=aI
 refine Ac f Z λa f=>Ab ?_
 refine Ar ?_
 have m:Mem W aF w H:=Mem.drop (H':=[au,ai]) m
 obtain rfl:=sj hd
 exact⟨[(iv aw)],f.g Z,f.d,_,[],(gt af (gt ap aH)),m,Z,Z⟩
theorem Wk.K0 {v0:Value}{it0:Itm}{x0:LI}{x1 x2:Int}(hW:Bw W)(m:Mem W G w (it0::H))(o0:Ow (RI .u32) 63 G it0 v0 x0){y:(LI)}(hd:D.K0 x0 x1 x2=some y):
  Calls prog 194 #[v0,(iv x1),(iv x2),(.func (.func 164) #[] #[])] w (Res W G H (λG' Ho _=>∃i0:Itm,Ho=[i0]∧Ow (RI .u32) 63 G' i0 v0 y)):=by
 refine As (args:=[v0,(iv x1),(iv x2),(.func (.func 164) #[] #[])]) (N:=53) [] func194 Z Z (lb Z) Z λa f=> ?_
 unfold D.K0 at hd
 refine Af ?_
 refine Aa f Z λa f=>Ai f Z Z Ax λa f=>Ac f Z λa f=>Ab ?_
 have⟨aa,ab,hd⟩:=bind_some hd
 refine AL (λa w=>∃ac:LI,ac=aa∧∃(ad:GH) (ae:Itm),GLe G ad∧Fr a 53 []∧Mem W ad w (ae::H)∧Ow (RI .u32) 63 ad ae v0 ac) ?_ ?_
 ·refine An ?_
  refine AJ (λaf a w=>∃ag:LI,∃ah:Int,(ag,ah)=af∧∃(ai:GH) (aj:Itm),GLe G ai∧Fr a 53 [(0,v0),(1,(iv x1)),(2,(iv x2)),(3,(.func (.func 164) #[] #[])),(8,(iv ah))]∧Mem W ai w (aj::H)∧Ow (RI .u32) 63 ai aj v0 ag) ab ⟨_,_,Z,_,it0,gr,f.k Z,m,o0⟩ ?_
  clear ab f m
  rintro af ak al am a w ⟨ag,ah,rfl,ai,aj,an,f,m,ao⟩
  refine Ah (Af ?_)
  refine Aa f Z λa f=>Aa f Z λa f=>Ai f Z Z AM λa f=>Ab ?_
  rcases Ae al with⟨ap,al⟩|⟨ap,al⟩
  ·refine Am f Z ap ?_
   refine Ao ?_
   refine Ah (An (Af ?_))
   refine Aa f Z λa f=>Ac f Z λa f=>Ab ?_
   have⟨aq,ar,al⟩:=bind_some al
   refine AL (λa w=>∃au:LI,au=aq∧∃(av:GH) (aw:Itm),GLe ai av∧Fr a 53 [(0,v0),(1,(iv x1)),(2,(iv x2)),(3,(.func (.func 164) #[] #[])),(8,(iv ah))]∧Mem W av w (aw::H)∧Ow (RI .u32) 63 av aw v0 au) ?_ ?_
   ·refine An ?_
    refine AJ (λax a w=>∃ay:LI,∃az:Int,(ay,az)=ax∧∃(aA:GH) (aB:Itm),GLe ai aA∧Fr a 53 [(0,v0),(1,(iv x1)),(2,(iv x2)),(3,(.func (.func 164) #[] #[])),(8,(iv ah)),(9,(iv az))]∧Mem W aA w (aB::H)∧Ow (RI .u32) 63 aA aB v0 ay) ar ⟨_,_,Z,_,aj,gr,f.k Z,m,ao⟩ ?_
    clear ar f m
    rintro ax aC aD aE a w ⟨ay,az,rfl,aA,aB,aF,f,m,aG⟩
    refine Ah (Ah ?_)
    refine Bf 17 AI (by kernel_rfl) m ?_
    refine Ag 0 17 Z f Z λa f=>Ag 1 17 Z f Z λa f=>q_p 2 17 Z f (λ_=>Az (f.e Z) (f.e Z) CF) λa f=>Ag 3 17 Z f Z λa f=> ?_
    have⟨aH,aI,aD⟩:=bind_some aD
    refine BN (fuel':=0) (listed':= #[true,true,true,true,true,true,true,true,true,true,true,true,true,true,true,true,true]) (λa=>Fr a 53 [(0,v0),(1,(iv x1)),(2,(iv x2)),(3,(.func (.func 164) #[] #[])),(8,(iv ah)),(9,(iv az)),(18,(iv az)),(19,(iv x1)),(20,(.bool (decide (x1<az)))),(21,(.bool (decide (x1<az)))),(34,(.bool aH))]) ?_ ?_
    ·intro a f
     refine A4 λaJ w aK m=> ?_
     have aG:=od1 aK aG
     refine Ab ?_
     rcases Ae aD with⟨aL,aD⟩|⟨aL,aD⟩
     ·refine Am f Z aL ?_
      refine Ao ?_
      refine Ah (An ?_)
      refine BW AI m ?_
      refine p_p 2 Z f (λ_=>Bl (f.e Z)) λa f=>p_p 3 Z f (λ_=>Bl (f.e Z)) λa f=>p_p 4 Z f (λ_=>Az (f.e Z) (f.e Z) AT) λa f=>BU 28015 12 (by kernel_rfl) Z ?_
      refine Ag 0 28015 Z f Z λa f=>Ag 1 28015 Z f Z λa f=>Ag 5 28015 Z f Z λa f=>Ag 6 28015 Z f Z λa f=>q_p 7 28015 Z f (λ_=>Az (f.e Z) (f.e Z) AT) λa f=> ?_
      have⟨aM,aN,aD⟩:=bind_some aD
      refine AG 8 28015 0 m aG T59 aN Z f Z Z λaO a aP f=>AO 9 28015 0 aG AY aP aN Z f Z λaQ a aR f=> ?_
      subst aR
      refine Ag 10 28015 Z f Z λa f=>Ag 11 28015 Z f Z λa f=> ?_
      have⟨aS,aT,aD⟩:=bind_some aD
      refine AG 12 28015 0 m aG T59 aT Z f Z Z λaU a aV f=>AO 13 28015 0 aG AY aV aT Z f Z λaW a aX f=> ?_
      subst aX
      have⟨aY,aZ,aD⟩:=bind_some aD
      refine AG 14 28015 0 m aG T59 aZ Z f Z Z λa0 a a1 f=>A4 λa2 w a3 m=> ?_
      have aG:=od1 a3 aG
      refine AH 0 m aG Z sizeOf63 f Z Z a1 aZ Z Z Z λa4 w m a5=> ?_
      have⟨a6,a7,aD⟩:=bind_some aD
      refine Bk 0 m a5 Z T59 f Z Z Z a7 λa8 a a9 f=>AH 0 m a5 Z sizeOf63 f Z Z a9 a7 Z Z Z λba w m bb=>Ab (Ap ?_)
      refine Aa f Z λa f=>Ai f Z Z AT λa f=>Ac f Z λa f=>Ab ?_
      obtain rfl:=sj aD
      exact⟨_,Z,_,_,Z,_,ba,(gt aF (gt aK a3)),f.k Z,m,bb⟩
     ·refine Aj f Z aL ?_
      refine AF Z ?_
      obtain rfl:=sj aD
      obtain rfl:=aE _ rfl
      exact⟨_,Z,_,aB,(gt aF aK),f.k Z,m,aG⟩
    ·intro bc
     rcases Ae aI with⟨bd,aI⟩|⟨bd,aI⟩
     ·refine Ag (hw:=wo f bd) 4 17 Z f Z λa f=> ?_
      refine Ag (hw:=wo f bd) 5 17 Z f Z λa f=>Ag (hw:=wo f bd) 6 17 Z f Z λa f=> ?_
      have⟨be,bf,aI⟩:=bind_some aI
      refine AG (hw:=wo f bd) 7 17 0 m aG T59 bf Z f Z Z λbg a bh f=>AO (hw:=wo f bd) 8 17 0 aG AY bh bf Z f Z λbi a bj f=> ?_
      subst bj
      refine Ag (hw:=wo f bd) 9 17 Z f Z λa f=>Ag (hw:=wo f bd) 10 17 Z f Z λa f=>q_p (hw:=wo f bd) 11 17 Z f (λ_=>Az (f.e Z) (f.e Z) AT) λa f=> ?_
      have⟨bk,bl,aI⟩:=bind_some aI
      refine AG (hw:=wo f bd) 12 17 0 m aG T59 bl Z f Z Z λbm a bn f=>AO (hw:=wo f bd) 13 17 0 aG AY bn bl Z f Z λbo a bp f=> ?_
      subst bp
      have⟨bq,br,aI⟩:=bind_some aI
      refine B7 (i:=14) 17 Z (by kernel_rfl) Z f (AS f Z Z Z bd) Z Z Z call164 (λ_ _ w bs m=>Wk.a hW m br) λa f=>q_p (hw:=wo f bd) 15 17 Z f (λ_=>Az (f.e Z) (f.e Z) AM) λa f=>q_p 16 17 Z f (λ_=>AD (f.e Z) bd (f.e Z)) λa f=> ?_
      obtain rfl:=sj aI
      exact bc _ (f.k Z)
     ·refine Ak 4 17 Z f bd λa f=> ?_
      refine Ak 5 17 Z f bd λa f=>Ak 6 17 Z f bd λa f=>Ak 7 17 Z f bd λa f=>Ak 8 17 Z f bd λa f=>Ak 9 17 Z f bd λa f=>Ak 10 17 Z f bd λa f=>Ak 11 17 Z f bd λa f=>Ak 12 17 Z f bd λa f=>Ak 13 17 Z f bd λa f=>Ak 14 17 Z f bd λa f=>Ak 15 17 Z f bd λa f=>q_p 16 17 Z f (λ_=>AC (f.e Z) bd (f.e Z)) λa f=> ?_
      obtain rfl:=sj aI
      exact bc _ (f.k Z)
   ·rintro a w ⟨au,rfl,av,aw,bt,f,m,bu⟩
    refine Ap ?_
    refine Aa f Z λa f=>Ai f Z Z Ax λa f=>Ac f Z λa f=>Ab ?_
    obtain rfl:=sj al
    exact⟨_,Z,_,_,Z,_,aw,(gt an bt),f.k Z,m,bu⟩
  ·refine Aj f Z ap ?_
   refine AF Z ?_
   obtain rfl:=sj al
   obtain rfl:=am _ rfl
   exact⟨_,Z,_,aj,an,f.weak trivial,m,ao⟩
 ·rintro a w ⟨ac,rfl,ad,ae,bv,f,m,bw⟩
  obtain rfl:=sj hd
  exact⟨[],trivial,f.d,_,[ae],bv,m,_,Z,bw⟩
theorem Wk.o0 {v0:Value}{it0:Itm}{x0:LI}{x1 x2 x3:Int}(hW:Bw W)(m:Mem W G w (it0::H))(o0:Ow (RI .u32) 63 G it0 v0 x0){y:(LI)}(hd:D.o0 x0 x1 x2 x3=some y):
  Calls prog 208 #[v0,(iv x1),(iv x2),(iv x3),(.func (.func 164) #[] #[])] w (Res W G H (λG' Ho _=>∃i0:Itm,Ho=[i0]∧Ow (RI .u32) 63 G' i0 v0 y)):=by
 refine As (args:=[v0,(iv x1),(iv x2),(iv x3),(.func (.func 164) #[] #[])]) (N:=82) [] func208 Z Z (lb Z) Z λa f=> ?_
 unfold D.o0 at hd
 refine Af ?_
 refine Aa f Z λa f=>Ac f Z λa f=>Ab ?_
 have⟨aa,ab,hd⟩:=bind_some hd
 refine AL (λa w=>∃q_182':LI,aa= .inl q_182'∧∃ac:LI,ac=q_182'∧∃(ad:GH) (ae:Itm),GLe G ad∧Fr a 82 []∧Mem W ad w (ae::H)∧Ow (RI .u32) 63 ad ae v0 ac) ?_ ?_
 ·refine An ?_
  refine AJ (λaf a w=>∃ag:LI,∃ah:Int,(ag,ah)=af∧∃(ai:GH) (aj:Itm),GLe G ai∧Fr a 82 [(0,v0),(2,(iv x2)),(3,(iv x3)),(4,(.func (.func 164) #[] #[])),(10,(iv ah))]∧Mem W ai w (aj::H)∧Ow (RI .u32) 63 ai aj v0 ag) ab ⟨_,_,Z,_,it0,gr,f.k Z,m,o0⟩ ?_
  clear ab f m
  rintro af ak al am a w ⟨ag,ah,rfl,ai,aj,an,f,m,ao⟩
  refine An (Af ?_)
  refine Aa f Z λa f=>Ai f Z Z Dr λa f=>Ai f Z Z Ax λa f=>Ac f Z λa f=>Ab (Ah (Af ?_))
  refine Aa f Z λa f=>Aa f Z λa f=>Ai f Z Z Cm λa f=>Ab ?_
  rcases Ae al with⟨ap,al⟩|⟨ap,al⟩
  ·refine Am f Z ap ?_
   refine AF Z ?_
   obtain rfl:=sj al
   obtain rfl:=am _ rfl
   exact⟨_,Z,_,Z,_,aj,an,f.weak trivial,m,ao⟩
  ·refine Aj f Z ap ?_
   refine Ao ?_
   refine Ah (Ah ?_)
   refine Bf 22 AI (by kernel_rfl) m ?_
   refine Ag 0 22 Z f Z λa f=>q_p 1 22 Z f (λ_=>Az (f.e Z) (f.e Z) Ax) λa f=>Ag 2 22 Z f Z λa f=>q_p 3 22 Z f (λ_=>Az (f.e Z) (f.e Z) AM) λa f=>Ag 4 22 Z f Z λa f=> ?_
   have⟨aq,ar,al⟩:=bind_some al
   refine BN (fuel':=0) (listed':= #[true,true,true,true,true,true,true,true,true,true,true,true,true,true,true,true,true,true,true,true,true,true]) (λa=>Fr a 82 [(0,v0),(2,(iv x2)),(3,(iv x3)),(4,(.func (.func 164) #[] #[])),(10,(iv ah)),(11,(iv (i64.wrap ((i64.wrap (2*ah))+1)))),(18,(.bool (decide (x2≤(i64.wrap ((i64.wrap (2*ah))+1)))))),(19,(iv (i64.wrap ((i64.wrap (2*ah))+1)))),(20,(iv (i64.wrap ((i64.wrap ((i64.wrap (2*ah))+1))+1)))),(21,(iv x2)),(22,(.bool (decide ((i64.wrap ((i64.wrap ((i64.wrap (2*ah))+1))+1))<x2)))),(23,(.bool (decide ((i64.wrap ((i64.wrap ((i64.wrap (2*ah))+1))+1))<x2)))),(40,(.bool aq))]) ?_ ?_
   ·intro a f
    refine A4 λau w av m=> ?_
    have ao:=od1 av ao
    refine Ab ?_
    have⟨aw,ax,al⟩:=bind_some al
    refine AL (λa w=>∃ay:Int,ay=aw∧∃(az:GH),GLe au az∧Fr a 82 [(0,v0),(2,(iv x2)),(3,(iv x3)),(4,(.func (.func 164) #[] #[])),(10,(iv ah)),(11,(iv ay))]∧Mem W az w (aj::H)) ?_ ?_
    ·rcases Ae ax with⟨aA,ax⟩|⟨aA,ax⟩
     ·refine Am f Z aA ?_
      refine Ap ?_
      refine Aa f Z λa f=>Ai f Z Z Ax λa f=>Ac f Z λa f=>Ab ?_
      obtain rfl:=sj ax
      exact⟨_,Z,_,gr,f.k Z,m⟩
     ·refine Aj f Z aA ?_
      refine Ao ?_
      obtain rfl:=sj ax
      exact⟨_,Z,_,gr,f.k Z,m⟩
    ·rintro a w ⟨ay,rfl,az,aB,f,m⟩
     have ao:=od1 aB ao
     refine Ah (Ah ?_)
     refine Bf 16 AI (by kernel_rfl) m ?_
     refine Ag 0 16 Z f Z λa f=>Ag 1 16 Z f Z λa f=>Ag 2 16 Z f Z λa f=>Ag 3 16 Z f Z λa f=>q_p 4 16 Z f (λ_=>Az (f.e Z) (f.e Z) Ax) λa f=> ?_
     have⟨aC,aD,al⟩:=bind_some al
     refine AG 5 16 0 m ao T59 aD Z f Z Z λaE a aF f=>AO 6 16 0 ao AY aF aD Z f Z λaG a aH f=> ?_
     subst aH
     refine Ag 7 16 Z f Z λa f=>Ag 8 16 Z f Z λa f=>Ag 9 16 Z f Z λa f=>q_p 10 16 Z f (λ_=>Az (f.e Z) (f.e Z) Ax) λa f=> ?_
     have⟨aI,aJ,al⟩:=bind_some al
     refine AG 11 16 0 m ao T59 aJ Z f Z Z λaK a aL f=>AO 12 16 0 ao AY aL aJ Z f Z λaM a aN f=> ?_
     subst aN
     have⟨aO,aP,al⟩:=bind_some al
     refine B7 (i:=13) 16 Z (by kernel_rfl) Z f Z Z Z Z call164 (λ_ _ w aQ m=>Wk.a hW m aP) λa f=>q_p 14 16 Z f (λ_=>Az (f.e Z) (f.e Z) AM) λa f=>q_p 15 16 Z f (λ_=>Bv (f.e Z)) λa f=>A4 λaR w aS m=> ?_
     have ao:=od1 aS ao
     refine Ab ?_
     rcases Ae al with⟨aT,al⟩|⟨aT,al⟩
     ·refine Am f Z aT ?_
      refine Ar ?_
      obtain rfl:=sj al
      obtain rfl:=am _ rfl
      obtain rfl:=sj hd
      exact⟨[],trivial,f.d,_,[aj],(gt an (gt av (gt aB aS))),m,_,Z,ao⟩
     ·refine Aj f Z aT ?_
      refine Ao ?_
      refine Ah ?_
      refine BW AI m ?_
      refine p_p 4 Z f (λ_=>Bl (f.e Z)) λa f=>p_p 5 Z f (λ_=>Bl (f.e Z)) λa f=>p_p 6 Z f (λ_=>Bl (f.e Z)) λa f=>p_p 7 Z f (λ_=>Az (f.e Z) (f.e Z) Ax) λa f=>BU 240021 17 (by kernel_rfl) Z ?_
      refine Ag 0 240021 Z f Z λa f=>Ag 1 240021 Z f Z λa f=>Ag 2 240021 Z f Z λa f=>q_p 3 240021 Z f (λ_=>Az (f.e Z) (f.e Z) Ax) λa f=>Ag 8 240021 Z f Z λa f=>Ag 9 240021 Z f Z λa f=>Ag 10 240021 Z f Z λa f=>q_p 11 240021 Z f (λ_=>Az (f.e Z) (f.e Z) Ax) λa f=> ?_
      have⟨aU,aV,al⟩:=bind_some al
      refine AG 12 240021 0 m ao T59 aV Z f Z Z λaW a aX f=>AO 13 240021 0 ao AY aX aV Z f Z λaY a aZ f=> ?_
      subst aZ
      refine Ag 14 240021 Z f Z λa f=>Ag 15 240021 Z f Z λa f=>Ag 16 240021 Z f Z λa f=>q_p 17 240021 Z f (λ_=>Az (f.e Z) (f.e Z) Ax) λa f=> ?_
      have⟨a0,a1,al⟩:=bind_some al
      refine AG 18 240021 0 m ao T59 a1 Z f Z Z λa2 a a3 f=>AO 19 240021 0 ao AY a3 a1 Z f Z λa4 a a5 f=> ?_
      subst a5
      have⟨a6,a7,al⟩:=bind_some al
      refine AG 20 240021 0 m ao T59 a7 Z f Z Z λa8 a a9 f=>A4 λba w bb m=> ?_
      have ao:=od1 bb ao
      refine AH 0 m ao Z sizeOf63 f Z Z a9 a7 Z Z Z λbc w m bd=> ?_
      have⟨be,bf,al⟩:=bind_some al
      refine Bk 0 m bd Z T59 f Z Z Z bf λbg a bh f=>AH 0 m bd Z sizeOf63 f Z Z bh bf Z Z Z λbi w m bj=>Ab (Ap ?_)
      refine Aa f Z λa f=>Ac f Z λa f=>Ab ?_
      obtain rfl:=sj al
      exact⟨_,Z,_,_,Z,_,bi,(gt an (gt av (gt aB (gt aS bb)))),f.k Z,m,bj⟩
   ·intro bk
    rcases Ae ar with⟨bl,ar⟩|⟨bl,ar⟩
    ·refine Ag (hw:=wo f bl) 5 22 Z f Z λa f=> ?_
     refine Ag (hw:=wo f bl) 6 22 Z f Z λa f=>Ag (hw:=wo f bl) 7 22 Z f Z λa f=>Ag (hw:=wo f bl) 8 22 Z f Z λa f=>q_p (hw:=wo f bl) 9 22 Z f (λ_=>Az (f.e Z) (f.e Z) Ax) λa f=> ?_
     have⟨bm,bn,ar⟩:=bind_some ar
     refine AG (hw:=wo f bl) 10 22 0 m ao T59 bn Z f Z Z λbo a bp f=>AO (hw:=wo f bl) 11 22 0 ao AY bp bn Z f Z λbq a br f=> ?_
     subst br
     refine Ag (hw:=wo f bl) 12 22 Z f Z λa f=>Ag (hw:=wo f bl) 13 22 Z f Z λa f=>Ag (hw:=wo f bl) 14 22 Z f Z λa f=>q_p (hw:=wo f bl) 15 22 Z f (λ_=>Az (f.e Z) (f.e Z) Ax) λa f=>q_p (hw:=wo f bl) 16 22 Z f (λ_=>Az (f.e Z) (f.e Z) Ax) λa f=> ?_
     have⟨bs,bt,ar⟩:=bind_some ar
     refine AG (hw:=wo f bl) 17 22 0 m ao T59 bt Z f Z Z λbu a bv f=>AO (hw:=wo f bl) 18 22 0 ao AY bv bt Z f Z λbw a bx f=> ?_
     subst bx
     have⟨bz,bA,ar⟩:=bind_some ar
     refine B7 (i:=19) 22 Z (by kernel_rfl) Z f (AS f Z Z Z bl) Z Z Z call164 (λ_ _ w bB m=>Wk.a hW m bA) λa f=>q_p (hw:=wo f bl) 20 22 Z f (λ_=>Az (f.e Z) (f.e Z) AM) λa f=>q_p 21 22 Z f (λ_=>AD (f.e Z) bl (f.e Z)) λa f=> ?_
     obtain rfl:=sj ar
     exact bk _ (f.k Z)
    ·refine Ak 5 22 Z f bl λa f=> ?_
     refine Ak 6 22 Z f bl λa f=>Ak 7 22 Z f bl λa f=>Ak 8 22 Z f bl λa f=>Ak 9 22 Z f bl λa f=>Ak 10 22 Z f bl λa f=>Ak 11 22 Z f bl λa f=>Ak 12 22 Z f bl λa f=>Ak 13 22 Z f bl λa f=>Ak 14 22 Z f bl λa f=>Ak 15 22 Z f bl λa f=>Ak 16 22 Z f bl λa f=>Ak 17 22 Z f bl λa f=>Ak 18 22 Z f bl λa f=>Ak 19 22 Z f bl λa f=>Ak 20 22 Z f bl λa f=>q_p 21 22 Z f (λ_=>AC (f.e Z) bl (f.e Z)) λa f=> ?_
     obtain rfl:=sj ar
     exact bk _ (f.k Z)
 ·rintro a w ⟨_,rfl,ac,rfl,ad,ae,bC,f,m,bD⟩
  obtain rfl:=sj hd
  exact⟨[],trivial,f.d,_,[ae],bC,m,_,Z,bD⟩
theorem Wk.T0 {v0:Value}{it0:Itm}{x0:LI}{x1 x2:Int}(hW:Bw W)(m:Mem W G w (it0::H))(o0:Ow (RI .u32) 63 G it0 v0 x0){y:(LI)}(hd:D.T0 x0 x1 x2=some y):
  Calls prog 195 #[v0,(iv x1),(iv x2),(.func (.func 164) #[] #[])] w (Res W G H (λG' Ho _=>∃i0:Itm,Ho=[i0]∧Ow (RI .u32) 63 G' i0 v0 y)):=by
 refine As (args:=[v0,(iv x1),(iv x2),(.func (.func 164) #[] #[])]) (N:=60) [] func195 Z Z (lb Z) Z λa f=> ?_
 unfold D.T0 at hd
 refine Af ?_
 refine Aa f Z λa f=>Ac f Z λa f=>Ay ?_
 refine Ac f Z λa f=>Ay ?_
 refine Aa f Z λa f=>Aa f Z λa f=>Ai f Z Z AT λa f=>Ac f Z λa f=>Ab (Ah (Af ?_))
 refine Aa f Z λa f=>Ai f Z Z AT λa f=>Ai f Z Z (D4 Z) λa f=>Ac f Z λa f=>Ab ?_
 have⟨aa,ab,hd⟩:=bind_some hd
 refine AL (λa w=>∃ac:LI,ac=aa∧∃(ad:GH) (ae:Itm),GLe G ad∧Fr a 60 [(0,v0),(3,(.func (.func 164) #[] #[])),(8,(iv x1)),(9,(iv 0)),(10,(iv (i64.wrap (x2-x1))))]∧Mem W ad w (ae::H)∧Ow (RI .u32) 63 ad ae v0 ac) ?_ ?_
 ·refine An ?_
  refine AJ (λaf a w=>∃ag:LI,∃ah:Int,(ag,ah)=af∧∃(ai:GH) (aj:Itm),GLe G ai∧Fr a 60 [(0,v0),(3,(.func (.func 164) #[] #[])),(8,(iv x1)),(9,(iv 0)),(10,(iv (i64.wrap (x2-x1)))),(11,(iv ah))]∧Mem W ai w (aj::H)∧Ow (RI .u32) 63 ai aj v0 ag) ab ⟨_,_,Z,_,it0,gr,f.k Z,m,o0⟩ ?_
  clear ab f m
  rintro af ak al am a w ⟨ag,ah,rfl,ai,aj,an,f,m,ao⟩
  refine Ah (Af ?_)
  refine Aa f Z λa f=>Ai f Z Z Cm λa f=>Ab ?_
  rcases Ae al with⟨ap,al⟩|⟨ap,al⟩
  ·refine Am f Z ap ?_
   refine Ao ?_
   refine Ah (An (Ap ?_))
   refine Aa f Z λa f=>Aa f Z λa f=>Aa f Z λa f=>Aa f Z λa f=>Aa f Z λa f=> ?_
   have⟨aq,ar,al⟩:=bind_some al
   refine AK f Z call208 (Wk.o0 hW m ao ar) λau av aw w ax m ay a f=> ?_
   obtain⟨az,rfl,aA⟩:=ay
   refine Ab (Ap ?_)
   refine Aa f Z λa f=>Ai f Z Z AT λa f=>Ac f Z λa f=>Ab ?_
   obtain rfl:=sj al
   exact⟨_,Z,_,_,Z,_,az,(gt an ax),f.k Z,m,aA⟩
  ·refine Aj f Z ap ?_
   refine AF Z ?_
   obtain rfl:=sj al
   obtain rfl:=am _ rfl
   exact⟨_,Z,_,aj,an,f.k Z,m,ao⟩
 ·rintro a w ⟨ac,rfl,ad,ae,aB,f,m,aC⟩
  refine Af ?_
  refine Aa f Z λa f=>Ai f Z Z AT λa f=>Ac f Z λa f=>Ab ?_
  have⟨aD,aE,hd⟩:=bind_some hd
  refine AL (λa w=>∃aF:LI,aF=aD∧∃(aG:GH) (aH:Itm),GLe ad aG∧Fr a 60 []∧Mem W aG w (aH::H)∧Ow (RI .u32) 63 aG aH v0 aF) ?_ ?_
  ·refine An ?_
   refine AJ (λaI a w=>∃aJ:LI,∃aK:Int,(aJ,aK)=aI∧∃(aL:GH) (aM:Itm),GLe ad aL∧Fr a 60 [(0,v0),(3,(.func (.func 164) #[] #[])),(8,(iv x1)),(9,(iv 0)),(12,(iv aK))]∧Mem W aL w (aM::H)∧Ow (RI .u32) 63 aL aM v0 aJ) aE ⟨_,_,Z,_,ae,gr,f.k Z,m,aC⟩ ?_
   clear aE f m
   rintro aI aN aO aP a w ⟨aJ,aK,rfl,aL,aM,aQ,f,m,aR⟩
   refine Ah (Af ?_)
   refine Aa f Z λa f=>Ai f Z Z Cm λa f=>Ab ?_
   rcases Ae aO with⟨aS,aO⟩|⟨aS,aO⟩
   ·refine Am f Z aS ?_
    refine Ao ?_
    refine Ah (An (Ah ?_))
    refine BW AI m ?_
    refine p_p 2 Z f (λ_=>Bl (f.e Z)) λa f=>p_p 3 Z f (λ_=>Bl (f.e Z)) λa f=>p_p 4 Z f (λ_=>Bl (f.e Z)) λa f=>p_p 5 Z f (λ_=>Az (f.e Z) (f.e Z) Ax) λa f=>BU 60017 13 (by kernel_rfl) Z ?_
    refine Ag 0 60017 Z f Z λa f=>Ag 1 60017 Z f Z λa f=>Ag 6 60017 Z f Z λa f=>Ag 7 60017 Z f Z λa f=>Ag 8 60017 Z f Z λa f=>q_p 9 60017 Z f (λ_=>Az (f.e Z) (f.e Z) Ax) λa f=> ?_
    have⟨aT,aU,aO⟩:=bind_some aO
    refine AG 10 60017 0 m aR T59 aU Z f Z Z λaV a aW f=>AO 11 60017 0 aR AY aW aU Z f Z λaX a aY f=> ?_
    subst aY
    refine Ag 12 60017 Z f Z λa f=>Ag 13 60017 Z f Z λa f=> ?_
    have⟨aZ,a0,aO⟩:=bind_some aO
    refine AG 14 60017 0 m aR T59 a0 Z f Z Z λa1 a a2 f=>AO 15 60017 0 aR AY a2 a0 Z f Z λa3 a a4 f=> ?_
    subst a4
    have⟨a5,a6,aO⟩:=bind_some aO
    refine AG 16 60017 0 m aR T59 a6 Z f Z Z λa7 a a8 f=>A4 λa9 w ba m=> ?_
    have aR:=od1 ba aR
    refine AH 0 m aR Z sizeOf63 f Z Z a8 a6 Z Z Z λbb w m bc=> ?_
    have⟨bd,be,aO⟩:=bind_some aO
    refine Bk 0 m bc Z T59 f Z Z Z be λbf a bg f=>AH 0 m bc Z sizeOf63 f Z Z bg be Z Z Z λbh w m bi=>Ab (Ap ?_)
    refine Aa f Z λa f=>Aa f Z λa f=>Aa f Z λa f=>Aa f Z λa f=>Aa f Z λa f=> ?_
    have⟨bj,bk,aO⟩:=bind_some aO
    refine AK f Z call208 (Wk.o0 hW m bi bk) λbl bm bn w bo m bp a f=> ?_
    obtain⟨bq,rfl,br⟩:=bp
    refine Ab (Ap ?_)
    refine Aa f Z λa f=>Ai f Z Z AT λa f=>Ac f Z λa f=>Ab ?_
    obtain rfl:=sj aO
    exact⟨_,Z,_,_,Z,_,bq,(gt aQ (gt ba bo)),f.k Z,m,br⟩
   ·refine Aj f Z aS ?_
    refine AF Z ?_
    obtain rfl:=sj aO
    obtain rfl:=aP _ rfl
    exact⟨_,Z,_,aM,aQ,f.weak trivial,m,aR⟩
  ·rintro a w ⟨aF,rfl,aG,aH,bs,f,m,bt⟩
   obtain rfl:=sj hd
   exact⟨[],trivial,f.d,_,[aH],(gt aB bs),m,_,Z,bt⟩
theorem Wk.W0 {v0:Value}{it0:Itm}{x0:LI}{x1 x2:Int}(m:Mem W G w (it0::H))(o0:Ow (RI .u32) 63 G it0 v0 x0){y:(LI)}(hd:D.W0 x0 x1 x2=some y):
  Calls prog 196 #[v0,(iv x1),(iv x2),(.func (.func 164) #[] #[])] w (Res W G H (λG' Ho _=>∃i0:Itm,Ho=[i0]∧Ow (RI .u32) 63 G' i0 v0 y)):=by
 refine As (args:=[v0,(iv x1),(iv x2),(.func (.func 164) #[] #[])]) (N:=67) [] func196 Z Z (lb Z) Z λa f=> ?_
 unfold D.W0 at hd
 refine Af ?_
 refine Aa f Z λa f=>Aa f Z λa f=>Ai f Z Z AT λa f=>Ac f Z λa f=>Ay ?_
 refine Aa f Z λa f=>Ai f Z Z Cm λa f=>Ab ?_
 rcases Ae hd with⟨aa,hd⟩|⟨aa,hd⟩
 ·refine Am f Z aa ?_
  refine Af ?_
  refine Aa f Z λa f=>l_o f (CX (f.e Z) ⟨_,underlying3⟩ underlying172) λa f=>BX (cs:=[(.int .u64 0)]) zeroValue172 m f Z Z λab w a m f=>A6 0 0 (ds:=[(.int .u64 (IntKind.u64.wrap (i64.wrap (x2-x1))))]) m sizeOf172 f Z Z Z (Bb Z Bh) Z (lb Z) Z λw m=>Ay ?_
  refine Aa f Z λa f=> ?_
  have⟨ac,ad,hd⟩:=bind_some hd
  refine Ba f Z call190 (Wk.b0 m ad) λae w af m a f=> ?_
  have o0:=od1 af o0
  refine Ac f Z λa f=>Ay ?_
  refine Aa f Z λa f=>Aa f Z λa f=>Ai f Z Z (D4 Z) λa f=>Ai f Z Z Dr λa f=>Ai f Z Z Ax λa f=>Ai f Z Z AT λa f=>Ac f Z λa f=>Ab ?_
  have⟨ag,ah,hd⟩:=bind_some hd
  refine AL (λa w=>∃ai:LI,ai=ag∧∃(aj:GH) (ak:Itm),GLe ae aj∧Fr a 67 []∧Mem W aj w (ak::H)∧Ow (RI .u32) 63 aj ak v0 ai) ?_ ?_
  ·refine An ?_
   refine AJ (λal a w=>∃am:LI,∃an:Int,∃ao:Int,(am,an,ao)=al∧∃(ap:GH) (aq:Itm),GLe ae ap∧Fr a 67 [(0,v0),(1,(iv x1)),(8,(iv (i64.wrap (x2-x1)))),(9,(pb ab)),(10,(.int .u64 ac)),(11,(iv an))]∧Mem W ap w (ib ab 172 [(.int .u64 ao)]::aq::H)∧Ow (RI .u32) 63 ap aq v0 am) ah ⟨_,_,_,Z,_,it0,gr,f.k Z,m,o0⟩ ?_
   clear ah f m
   rintro al ar au av a w ⟨am,an,ao,rfl,ap,aq,aw,f,m,ax⟩
   refine Ah (Af ?_)
   refine Aa f Z λa f=>Aa f Z λa f=>Aa f Z λa f=>Ai f Z Z (D4 Z) λa f=>Ai f Z Z Dr λa f=>Ai f Z Z Ax λa f=>Ai f Z Z Ax λa f=>Ai f Z Z CO λa f=>Ab ?_
   rcases Ae au with⟨ay,au⟩|⟨ay,au⟩
   ·refine Am f Z ay ?_
    refine Ao ?_
    refine Ah (An (Af ?_))
    have⟨az,aA,au⟩:=bind_some au
    refine AK f Z call191 (Wk.g0 m aA) λaB aC aD w aE m aF a f=> ?_
    obtain⟨rfl,rfl⟩:=aF
    have ax:=od1 aE ax
    refine Aa f Z λa f=>Ai f Z Z AT λa f=>Ai f Z Z CP λa f=>l_o f (CX (f.e Z) ⟨_,underlying111⟩ underlying3) λa f=>Ac f Z λa f=>Ab (Ah (Af ?_))
    refine Aa f Z λa f=>Aa f Z λa f=>Ai f Z Z Cm λa f=>Ab ?_
    have⟨aG,aH,au⟩:=bind_some au
    refine AL (λa w=>∃aI:Int,aI=aG∧∃(aJ:GH),GLe aC aJ∧Fr a 67 [(0,v0),(1,(iv x1)),(8,(iv (i64.wrap (x2-x1)))),(9,(pb ab)),(10,(.int .u64 ac)),(11,(iv an)),(12,(iv aI))]∧Mem W aJ w (ib ab 172 [(.int .u64 az.2)]::aq::H)) ?_ ?_
    ·rcases Ae aH with⟨aK,aH⟩|⟨aK,aH⟩
     ·refine Am f Z aK ?_
      refine Ap ?_
      refine Aa f Z λa f=>Aa f Z λa f=>Ai f Z Z AT λa f=>Ac f Z λa f=>Ab ?_
      obtain rfl:=sj aH
      exact⟨_,Z,_,gr,f.k Z,m⟩
     ·refine Aj f Z aK ?_
      refine Ao ?_
      obtain rfl:=sj aH
      exact⟨_,Z,_,gr,f.k Z,m⟩
    ·rintro a w ⟨aI,rfl,aJ,aL,f,m⟩
     have ax:=od1 aL ax
     refine BW AI m ?_
     refine p_p 2 Z f (λ_=>Bl (f.e Z)) λa f=>p_p 3 Z f (λ_=>Bl (f.e Z)) λa f=>p_p 4 Z f (λ_=>Bl (f.e Z)) λa f=>p_p 5 Z f (λ_=>Az (f.e Z) (f.e Z) Ax) λa f=>BU 60017 13 (by kernel_rfl) Z ?_
     refine Ag 0 60017 Z f Z λa f=>Ag 1 60017 Z f Z λa f=>Ag 6 60017 Z f Z λa f=>Ag 7 60017 Z f Z λa f=>Ag 8 60017 Z f Z λa f=>q_p 9 60017 Z f (λ_=>Az (f.e Z) (f.e Z) Ax) λa f=> ?_
     have⟨aM,aN,au⟩:=bind_some au
     refine AG 10 60017 1 m ax T59 aN Z f Z Z λaO a aP f=>AO 11 60017 1 ax AY aP aN Z f Z λaQ a aR f=> ?_
     subst aR
     refine Ag 12 60017 Z f Z λa f=>Ag 13 60017 Z f Z λa f=> ?_
     have⟨aS,aT,au⟩:=bind_some au
     refine AG 14 60017 1 m ax T59 aT Z f Z Z λaU a aV f=>AO 15 60017 1 ax AY aV aT Z f Z λaW a aX f=> ?_
     subst aX
     have⟨aY,aZ,au⟩:=bind_some au
     refine AG 16 60017 1 m ax T59 aZ Z f Z Z λa0 a a1 f=>A4 λa2 w a3 m=> ?_
     have ax:=od1 a3 ax
     refine AH 1 m ax Z sizeOf63 f Z Z a1 aZ Z Z Z λa4 w m a5=> ?_
     have⟨a6,a7,au⟩:=bind_some au
     refine Bk 1 m a5 Z T59 f Z Z Z a7 λa8 a a9 f=>AH 1 m a5 Z sizeOf63 f Z Z a9 a7 Z Z Z λba w m bb=>Ab (Ap ?_)
     refine Aa f Z λa f=>Ai f Z Z Ax λa f=>Ac f Z λa f=>Ab ?_
     obtain rfl:=sj au
     exact⟨_,Z,_,_,_,Z,_,ba,(gt aw (gt aE (gt aL a3))),f.k Z,m,bb⟩
   ·refine Aj f Z ay ?_
    refine AF Z ?_
    have m:=m.fr 1
    have m:=m.eraseAt 1
    obtain rfl:=sj au
    obtain rfl:=av _ rfl
    exact⟨_,Z,_,aq,aw,f.weak trivial,m,ax⟩
  ·rintro a w ⟨ai,rfl,aj,ak,bc,f,m,bd⟩
   obtain rfl:=sj hd
   exact⟨[],trivial,f.d,_,[ak],(gt af bc),m,_,Z,bd⟩
 ·refine Aj f Z aa ?_
  refine Ao ?_
  obtain rfl:=sj hd
  exact⟨[],trivial,f.d,_,[it0],gr,m,_,Z,o0⟩
theorem Wk.N {v0:Value}{it0:Itm}{b3:Nat}{x0:LI}{x1 x2 aa:Int}(hW:Bw W)(m:Mem W G w (it0::ib b3 3 [(iv aa)]::H))(o0:Ow (RI .u32) 63 G it0 v0 x0){y:Int×Int×(LI)×Int}(hd:D.N x0 x1 x2 aa=some y):
  Calls prog 213 #[v0,(iv x1),(iv x2),(pb b3),(.func (.func 164) #[] #[])] w (Res W G H (λG' Ho v=>∃i0:Itm,Ho=[i0,ib b3 3 [(iv y.2.2.2)]]∧v= .tuple #[(iv y.1),(iv y.2.1)]∧Ow (RI .u32) 63 G' i0 v0 y.2.2.1)):=by
 refine As (args:=[v0,(iv x1),(iv x2),(pb b3),(.func (.func 164) #[] #[])]) (N:=32) [.tmp 10,.tmp 11] func213 Z Z (lb Z) Z λa f=> ?_
 unfold D.N at hd
 refine Af ?_
 refine Ac f Z λa f=>Ac f Z λa f=>Ab (Ah (Ah ?_))
 refine Bf 11 AI (by kernel_rfl) m ?_
 refine Ag 0 11 Z f Z λa f=>Ag 1 11 Z f Z λa f=>Ag 2 11 Z f Z λa f=> ?_
 have⟨ab,ac,hd⟩:=bind_some hd
 refine AG 3 11 0 m o0 T59 ac Z f Z Z λad a ae f=>AO 4 11 0 o0 AY ae ac Z f Z λaf a ag f=> ?_
 subst ag
 refine Ag 5 11 Z f Z λa f=>Ag 6 11 Z f Z λa f=> ?_
 have⟨ah,ai,hd⟩:=bind_some hd
 refine AG 7 11 0 m o0 T59 ai Z f Z Z λaj a ak f=>AO 8 11 0 o0 AY ak ai Z f Z λal a am f=> ?_
 subst am
 have⟨an,ao,hd⟩:=bind_some hd
 refine B7 (i:=9) 11 Z (by kernel_rfl) Z f Z Z Z Z call164 (λ_ _ w ap m=>Wk.a hW m ao) λa f=>q_p 10 11 Z f (λ_=>Az (f.e Z) (f.e Z) AM) λa f=>A4 λaq w ar m=> ?_
 have o0:=od1 ar o0
 refine Ab ?_
 rcases Ae hd with⟨au,hd⟩|⟨au,hd⟩
 ·refine Am f Z au ?_
  refine Af ?_
  refine Aa f Z λa f=>l_o f (AX (f.e Z)) λa f=>AR 1 0 m Pl3 f Z Z Z Z λa f=>Ai f Z Z Ax λa f=>l_o f (AX (f.e Z)) λa f=>A6 1 0 (ds:=[(iv (i64.wrap (aa+1)))]) m sizeOf3 f Z Z Z (Bb Z Bh) Z (lb Z) Z λw m=>Ay ?_
  refine Aa f Z λa f=>Aa f Z λa f=>Ac f Z λa f=>Ac f Z λa f=>Ab ?_
  refine Ar ?_
  obtain rfl:=sj hd
  exact⟨[(iv x2),(iv x1)],⟨f.get _ _ Z,f.get _ _ Z,trivial⟩,f.d,_,[it0,ib b3 3 [(iv (i64.wrap (aa+1)))]],ar,m,_,Z,Z,o0⟩
 ·refine Aj f Z au ?_
  refine Ao ?_
  refine Af ?_
  refine Aa f Z λa f=>Aa f Z λa f=>Ac f Z λa f=>Ac f Z λa f=>Ab ?_
  refine Ar ?_
  obtain rfl:=sj hd
  exact⟨[(iv x1),(iv x2)],⟨f.get _ _ Z,f.get _ _ Z,trivial⟩,f.d,_,[it0,ib b3 3 [(iv aa)]],ar,m,_,Z,Z,o0⟩
theorem Wk.j0 {v0:Value}{it0:Itm}{b4:Nat}{x0:LI}{x1 x2 x3 aa:Int}(hW:Bw W)(m:Mem W G w (it0::ib b4 3 [(iv aa)]::H))(o0:Ow (RI .u32) 63 G it0 v0 x0){y:Int×(LI)×Int}(hd:D.j0 x0 x1 x2 x3 aa=some y):
  Calls prog 210 #[v0,(iv x1),(iv x2),(iv x3),(pb b4),(.func (.func 164) #[] #[])] w (Res W G H (λG' Ho v=>∃i0:Itm,Ho=[i0,ib b4 3 [(iv y.2.2)]]∧v=(iv y.1)∧Ow (RI .u32) 63 G' i0 v0 y.2.1)):=by
 refine As (args:=[v0,(iv x1),(iv x2),(iv x3),(pb b4),(.func (.func 164) #[] #[])]) (N:=41) [.tmp 12] func210 Z Z (lb Z) Z λa f=> ?_
 unfold D.j0 at hd
 refine Af ?_
 refine Ac f Z λa f=>Ay ?_
 refine Aa f Z λa f=>Aa f Z λa f=>Aa f Z λa f=>Aa f Z λa f=>Aa f Z λa f=> ?_
 have⟨ab,ac,hd⟩:=bind_some hd
 refine AK f Z call213 (Wk.N hW m o0 ac) λad ae af w ag m ah a f=> ?_
 obtain⟨ai,rfl,rfl,aj⟩:=ah
 refine Aa f Z λa f=>l_o f (Bg (f.e Z) Z) λa f=>l_o f (Bg (f.e Z) Z) λa f=>Ac f Z λa f=>Ac f Z λa f=>Ay ?_
 refine Aa f Z λa f=>Aa f Z λa f=>Aa f Z λa f=>Aa f Z λa f=>Aa f Z λa f=> ?_
 have⟨ak,al,hd⟩:=bind_some hd
 refine AK f Z call213 (Wk.N hW m aj al) λam an ao w ap m aq a f=> ?_
 obtain⟨ar,rfl,rfl,au⟩:=aq
 refine Aa f Z λa f=>l_o f (Bg (f.e Z) Z) λa f=>l_o f (Bg (f.e Z) Z) λa f=>Ac f Z λa f=>Ac f Z λa f=>Ay ?_
 refine Aa f Z λa f=>Aa f Z λa f=>Aa f Z λa f=>Aa f Z λa f=>Aa f Z λa f=> ?_
 have⟨av,aw,hd⟩:=bind_some hd
 refine AK f Z call213 (Wk.N hW m au aw) λax ay az w aA m aB a f=> ?_
 obtain⟨aC,rfl,rfl,aD⟩:=aB
 refine Aa f Z λa f=>l_o f (Bg (f.e Z) Z) λa f=>l_o f (Bg (f.e Z) Z) λa f=>Ac f Z λa f=>Ac f Z λa f=>Ay ?_
 refine Aa f Z λa f=>Ac f Z λa f=>Ab ?_
 refine Ar ?_
 obtain rfl:=sj hd
 exact⟨[(iv av.2.1)],f.g Z,f.d,_,[aC,ib b4 3 [(iv av.2.2.2)]],(gt ag (gt ap aA)),m,_,Z,Z,aD⟩
theorem Wk.O {v0:Value}{it0:Itm}{b2:Nat}{x0:LI}{x1 aa:Int}(hW:Bw W)(m:Mem W G w (it0::ib b2 3 [(iv aa)]::H))(o0:Ow (RI .u32) 63 G it0 v0 x0){y:Int×(LI)×Int}(hd:D.O x0 x1 aa=some y):
  Calls prog 209 #[v0,(iv x1),(pb b2),(.func (.func 164) #[] #[])] w (Res W G H (λG' Ho v=>∃i0:Itm,Ho=[i0,ib b2 3 [(iv y.2.2)]]∧v=(iv y.1)∧Ow (RI .u32) 63 G' i0 v0 y.2.1)):=by
 refine As (args:=[v0,(iv x1),(pb b2),(.func (.func 164) #[] #[])]) (N:=18) [.tmp 8] func209 Z Z (lb Z) Z λa f=> ?_
 unfold D.O at hd
 refine Af ?_
 refine Ac f Z λa f=>Ay ?_
 refine Aa f Z λa f=>Aa f Z λa f=>Ai f Z Z AT λa f=>Aa f Z λa f=>Aa f Z λa f=>Ai f Z Z Ax λa f=>Aa f Z λa f=>Aa f Z λa f=> ?_
 have⟨ab,ac,hd⟩:=bind_some hd
 refine AK f Z call210 (Wk.j0 hW m o0 ac) λad ae af w ag m ah a f=> ?_
 obtain⟨ai,rfl,rfl,aj⟩:=ah
 refine Ac f Z λa f=>Ab ?_
 refine Ar ?_
 obtain rfl:=sj hd
 exact⟨[(iv ab.1)],f.g Z,f.d,_,[ai,ib b2 3 [(iv ab.2.2)]],ag,m,_,Z,Z,aj⟩
theorem Wk.S0 {v0:Value}{it0:Itm}{x0:LI}{x1 x2:Int}(hW:Bw W)(m:Mem W G w (it0::H))(o0:Ow (RI .u32) 63 G it0 v0 x0){y:Int×Int×(LI)}(hd:D.S0 x0 x1 x2=some y):
  Calls prog 197 #[v0,(iv x1),(iv x2),(.func (.func 164) #[] #[])] w (Res W G H (λG' Ho v=>∃i0:Itm,Ho=[i0]∧v= .tuple #[(iv y.1),(iv y.2.1)]∧Ow (RI .u32) 63 G' i0 v0 y.2.2)):=by
 refine As (args:=[v0,(iv x1),(iv x2),(.func (.func 164) #[] #[])]) (N:=63) [.tmp 8,.tmp 9] func197 Z Z (lb Z) Z λa f=> ?_
 unfold D.S0 at hd
 refine Af ?_
 refine Ac f Z λa f=>Ac f Z λa f=>Ay ?_
 refine Aa f Z λa f=>Aa f Z λa f=>Ai f Z Z AT λa f=>Ac f Z λa f=>Ay ?_
 refine BX (cs:=[(iv 0)]) zeroValue3 m f Z Z λaa w a m f=>Ay ?_
 refine Aa f Z λa f=>Aa f Z λa f=>Ai f Z Z (D4 Z) λa f=>Ai f Z Z Dr λa f=>Ai f Z Z Ax λa f=>Ac f Z λa f=>Ay ?_
 refine Aa f Z λa f=>Aa f Z λa f=>Ai f Z Z (D4 Z) λa f=>Ai f Z Z Dr λa f=>Ai f Z Z Ax λa f=>Ac f Z λa f=>Ay ?_
 refine Aa f Z λa f=>Aa f Z λa f=>Ai f Z Z (D4 Z) λa f=>Ai f Z Z Dr λa f=>Ai f Z Z Ax λa f=>Ac f Z λa f=>Ab (Ah (Af ?_))
 refine Aa f Z λa f=>Ai f Z Z Cm λa f=>Ab ?_
 rcases Ae hd with⟨ab,hd⟩|⟨ab,hd⟩
 ·refine Am f Z ab ?_
  refine Ah (Af ?_)
  refine Aa f Z λa f=>Ai f Z Z Cm λa f=>Ab ?_
  have⟨ac,ad,hd⟩:=bind_some hd
  refine AL (λa w=>∃ae:LI,∃af:Int,∃ag:Int,∃ah:Int,∃ai:Int,(ae,af,ag,ah,ai)=ac∧∃(aj:GH) (ak:Itm),GLe G aj∧Fr a 63 [(0,v0),(3,(.func (.func 164) #[] #[])),(11,(pb aa)),(12,(iv af)),(13,(iv ag)),(14,(iv ah))]∧Mem W aj w (ib aa 3 [(iv ai)]::ak::H)∧Ow (RI .u32) 63 aj ak v0 ae) ?_ ?_
  ·rcases Ae ad with⟨al,ad⟩|⟨al,ad⟩
   ·refine Am f Z al ?_
    refine Af ?_
    refine Aa f Z λa f=>Aa f Z λa f=>Aa f Z λa f=> ?_
    have m:=m.fr 1
    have⟨am,an,ad⟩:=bind_some ad
    refine AK f Z call209 (Wk.O hW m o0 an) λao ap aq w ar m au a f=> ?_
    obtain⟨av,rfl,rfl,aw⟩:=au
    refine Ac f Z λa f=>Ay ?_
    refine Aa f Z λa f=>Aa f Z λa f=>Aa f Z λa f=> ?_
    have⟨ax,ay,ad⟩:=bind_some ad
    refine AK f Z call209 (Wk.O hW m aw ay) λaz aA aB w aC m aD a f=> ?_
    obtain⟨aE,rfl,rfl,aF⟩:=aD
    refine Ac f Z λa f=>Ab (Ap ?_)
    refine Aa f Z λa f=>Aa f Z λa f=>Aa f Z λa f=> ?_
    have⟨aG,aH,ad⟩:=bind_some ad
    refine AK f Z call209 (Wk.O hW m aF aH) λaI aJ aK w aL m aM a f=> ?_
    obtain⟨aN,rfl,rfl,aO⟩:=aM
    refine Ac f Z λa f=>Ab ?_
    have m:=m.fr 1
    obtain rfl:=sj ad
    exact⟨_,_,_,_,_,Z,_,aN,(gt ar (gt aC aL)),f.k Z,m,aO⟩
   ·refine Aj f Z al ?_
    refine Ao ?_
    obtain rfl:=sj ad
    exact⟨_,_,_,_,_,Z,_,it0,gr,f.k Z,m,o0⟩
  ·rintro a w ⟨ae,af,ag,ah,ai,rfl,aj,ak,aP,f,m,aQ⟩
   refine Ap ?_
   refine Aa f Z λa f=>Aa f Z λa f=>Aa f Z λa f=>Aa f Z λa f=>Aa f Z λa f=> ?_
   have m:=m.fr 1
   have⟨aR,aS,hd⟩:=bind_some hd
   refine AK f Z call210 (Wk.j0 hW m aQ aS) λaT aU aV w aW m aX a f=> ?_
   obtain⟨aY,rfl,rfl,aZ⟩:=aX
   refine Ac f Z λa f=>Ay ?_
   refine AR 1 0 m Pl3 f Z Z Z Z λa f=>Ab (An (Af ?_))
   refine Ai f Z Z BE λa f=>Ac f Z λa f=>Ab ?_
   rcases Ae hd with⟨a0,hd⟩|⟨a0,hd⟩
   ·refine Am f Z a0 ?_
    refine Af ?_
    refine Aa f Z λa f=>Ac f Z λa f=>Ac f Z λa f=>Ab ?_
    refine Ar ?_
    have m:=m.eraseAt 1
    obtain rfl:=sj hd
    exact⟨[(iv aR.1),(iv 1)],⟨f.get _ _ Z,f.get _ _ Z,trivial⟩,f.d,_,[aY],(gt aP aW),m,_,Z,Z,aZ⟩
   ·refine Aj f Z a0 ?_
    refine Af ?_
    refine Ai f Z Z BE λa f=>Ac f Z λa f=>Ab ?_
    rcases Ae hd with⟨a1,hd⟩|⟨a1,hd⟩
    ·refine Am f Z a1 ?_
     refine Af ?_
     refine Aa f Z λa f=>Ac f Z λa f=>Ac f Z λa f=>Ab ?_
     refine Ar ?_
     have m:=m.eraseAt 1
     obtain rfl:=sj hd
     exact⟨[(iv aR.1),(iv 2)],⟨f.get _ _ Z,f.get _ _ Z,trivial⟩,f.d,_,[aY],(gt aP aW),m,_,Z,Z,aZ⟩
    ·refine Aj f Z a1 ?_
     refine Af ?_
     refine Aa f Z λa f=>Ac f Z λa f=>Ac f Z λa f=>Ab ?_
     refine Ar ?_
     have m:=m.eraseAt 1
     obtain rfl:=sj hd
     exact⟨[(iv aR.1),(iv 0)],⟨f.get _ _ Z,f.get _ _ Z,trivial⟩,f.d,_,[aY],(gt aP aW),m,_,Z,Z,aZ⟩
 ·refine Aj f Z ab ?_
  refine Ao ?_
  refine Af ?_
  refine AR 0 0 m Pl3 f Z Z Z Z λa f=>Ab (An (Af ?_))
  refine Ai f Z Z BE λa f=>Ac f Z λa f=>Ab ?_
  rcases Ae hd with⟨a2,hd⟩|⟨a2,hd⟩
  ·refine Am f Z a2 ?_
   refine Af ?_
   refine Aa f Z λa f=>Ac f Z λa f=>Ac f Z λa f=>Ab ?_
   refine Ar ?_
   have m:=m.fr 1
   have m:=m.eraseAt 1
   obtain rfl:=sj hd
   exact⟨[(iv (i64.wrap (x1+(i64.wrap ((i64.wrap (Int.tdiv (i64.wrap (x2-x1)) 4))*2))))),(iv 1)],⟨f.get _ _ Z,f.get _ _ Z,trivial⟩,f.d,_,[it0],gr,m,_,Z,Z,o0⟩
  ·refine Aj f Z a2 ?_
   refine Af ?_
   refine Ai f Z Z BE λa f=>Ac f Z λa f=>Ab ?_
   rcases Ae hd with⟨a3,hd⟩|⟨a3,hd⟩
   ·refine Am f Z a3 ?_
    refine Af ?_
    refine Aa f Z λa f=>Ac f Z λa f=>Ac f Z λa f=>Ab ?_
    refine Ar ?_
    have m:=m.fr 1
    have m:=m.eraseAt 1
    obtain rfl:=sj hd
    exact⟨[(iv (i64.wrap (x1+(i64.wrap ((i64.wrap (Int.tdiv (i64.wrap (x2-x1)) 4))*2))))),(iv 2)],⟨f.get _ _ Z,f.get _ _ Z,trivial⟩,f.d,_,[it0],gr,m,_,Z,Z,o0⟩
   ·refine Aj f Z a3 ?_
    refine Af ?_
    refine Aa f Z λa f=>Ac f Z λa f=>Ac f Z λa f=>Ab ?_
    refine Ar ?_
    have m:=m.fr 1
    have m:=m.eraseAt 1
    obtain rfl:=sj hd
    exact⟨[(iv (i64.wrap (x1+(i64.wrap ((i64.wrap (Int.tdiv (i64.wrap (x2-x1)) 4))*2))))),(iv 0)],⟨f.get _ _ Z,f.get _ _ Z,trivial⟩,f.d,_,[it0],gr,m,_,Z,Z,o0⟩
theorem Wk.Q0 {v0:Value}{it0:Itm}{x0:LI}{x1 x2:Int}(m:Mem W G w (it0::H))(o0:Ow (RI .u32) 63 G it0 v0 x0){y:(LI)}(hd:D.Q0 x0 x1 x2=some y):
  Calls prog 198 #[v0,(iv x1),(iv x2),(.func (.func 164) #[] #[])] w (Res W G H (λG' Ho _=>∃i0:Itm,Ho=[i0]∧Ow (RI .u32) 63 G' i0 v0 y)):=by
 refine As (args:=[v0,(iv x1),(iv x2),(.func (.func 164) #[] #[])]) (N:=34) [] func198 Z Z (lb Z) Z λa f=> ?_
 unfold D.Q0 at hd
 refine Af ?_
 refine Aa f Z λa f=>Ac f Z λa f=>Ay ?_
 refine Aa f Z λa f=>Ai f Z Z AT λa f=>Ac f Z λa f=>Ab ?_
 have⟨aa,ab,hd⟩:=bind_some hd
 refine AL (λa w=>∃ac:LI,ac=aa∧∃(ad:GH) (ae:Itm),GLe G ad∧Fr a 34 []∧Mem W ad w (ae::H)∧Ow (RI .u32) 63 ad ae v0 ac) ?_ ?_
 ·refine An ?_
  refine AJ (λaf a w=>∃ag:LI,∃ah:Int,∃ai:Int,(ag,ah,ai)=af∧∃(aj:GH) (ak:Itm),GLe G aj∧Fr a 34 [(0,v0),(8,(iv ah)),(9,(iv ai))]∧Mem W aj w (ak::H)∧Ow (RI .u32) 63 aj ak v0 ag) ab ⟨_,_,_,Z,_,it0,gr,f.k Z,m,o0⟩ ?_
  clear ab f m
  rintro af al am an a w ⟨ag,ah,ai,rfl,aj,ak,ao,f,m,ap⟩
  refine Ah (Af ?_)
  refine Aa f Z λa f=>Aa f Z λa f=>Ai f Z Z AM λa f=>Ab ?_
  rcases Ae am with⟨aq,am⟩|⟨aq,am⟩
  ·refine Am f Z aq ?_
   refine Ao ?_
   refine An (Ah ?_)
   refine BW AI m ?_
   refine p_p 2 Z f (λ_=>Bl (f.e Z)) λa f=>p_p 3 Z f (λ_=>Bl (f.e Z)) λa f=>BU 12013 11 (by kernel_rfl) Z ?_
   refine Ag 0 12013 Z f Z λa f=>Ag 1 12013 Z f Z λa f=>Ag 4 12013 Z f Z λa f=>Ag 5 12013 Z f Z λa f=> ?_
   have⟨ar,au,am⟩:=bind_some am
   refine AG 6 12013 0 m ap T59 au Z f Z Z λav a aw f=>AO 7 12013 0 ap AY aw au Z f Z λax a ay f=> ?_
   subst ay
   refine Ag 8 12013 Z f Z λa f=>Ag 9 12013 Z f Z λa f=> ?_
   have⟨az,aA,am⟩:=bind_some am
   refine AG 10 12013 0 m ap T59 aA Z f Z Z λaB a aC f=>AO 11 12013 0 ap AY aC aA Z f Z λaD a aE f=> ?_
   subst aE
   have⟨aF,aG,am⟩:=bind_some am
   refine AG 12 12013 0 m ap T59 aG Z f Z Z λaH a aI f=>A4 λaJ w aK m=> ?_
   have ap:=od1 aK ap
   refine AH 0 m ap Z sizeOf63 f Z Z aI aG Z Z Z λaL w m aM=> ?_
   have⟨aN,aO,am⟩:=bind_some am
   refine Bk 0 m aM Z T59 f Z Z Z aO λaP a aQ f=>AH 0 m aM Z sizeOf63 f Z Z aQ aO Z Z Z λaR w m aS=>Ay ?_
   refine Aa f Z λa f=>Ai f Z Z Ax λa f=>Ac f Z λa f=>Ab (Ap ?_)
   refine Aa f Z λa f=>Ai f Z Z AT λa f=>Ac f Z λa f=>Ab ?_
   obtain rfl:=sj am
   exact⟨_,Z,_,_,_,Z,_,aR,(gt ao aK),f.k Z,m,aS⟩
  ·refine Aj f Z aq ?_
   refine AF Z ?_
   obtain rfl:=sj am
   obtain rfl:=an _ rfl
   exact⟨_,Z,_,ak,ao,f.weak trivial,m,ap⟩
 ·rintro a w ⟨ac,rfl,ad,ae,aT,f,m,aU⟩
  obtain rfl:=sj hd
  exact⟨[],trivial,f.d,_,[ae],aT,m,_,Z,aU⟩
theorem Wk.L0 {v0:Value}{it0:Itm}{x0:LI}{x1 x2:Int}(hW:Bw W)(m:Mem W G w (it0::H))(o0:Ow (RI .u32) 63 G it0 v0 x0){y:Bool×(LI)}(hd:D.L0 x0 x1 x2=some y):
  Calls prog 199 #[v0,(iv x1),(iv x2),(.func (.func 164) #[] #[])] w (Res W G H (λG' Ho v=>∃i0:Itm,Ho=[i0]∧v=(.bool y.1)∧Ow (RI .u32) 63 G' i0 v0 y.2)):=by
 refine As (args:=[v0,(iv x1),(iv x2),(.func (.func 164) #[] #[])]) (N:=141) [.tmp 8] func199 Z Z (lb Z) Z λa f=> ?_
 unfold D.L0 at hd
 refine Af ?_
 refine Ac f Z λa f=>Ay ?_
 refine Aa f Z λa f=>Ai f Z Z Ax λa f=>Ac f Z λa f=>Ab (Ah (Af ?_))
 refine Ac f Z λa f=>Ab ?_
 have⟨aa,ab,hd⟩:=bind_some hd
 refine AL (λa w=>∃q_1621':LI,aa= .inl q_1621'∧∃ac:LI,ac=q_1621'∧∃(ad:GH) (ae:Itm),GLe G ad∧Fr a 141 []∧Mem W ad w (ae::H)∧Ow (RI .u32) 63 ad ae v0 ac) ?_ ?_
 ·refine An ?_
  refine AJ (λaf a w=>∃ag:LI,∃ah:Int,∃ai:Int,(ag,ah,ai)=af∧∃(aj:GH) (ak:Itm),GLe G aj∧Fr a 141 [(0,v0),(1,(iv x1)),(2,(iv x2)),(3,(.func (.func 164) #[] #[])),(9,(iv ah)),(10,(iv ai))]∧Mem W aj w (ak::H)∧Ow (RI .u32) 63 aj ak v0 ag) ab ⟨_,_,_,Z,_,it0,gr,f.k Z,m,o0⟩ ?_
  clear ab f m
  rintro af al am an a w ⟨ag,ah,ai,rfl,aj,ak,ao,f,m,ap⟩
  refine Ah (Af ?_)
  refine Aa f Z λa f=>Ai f Z Z AM λa f=>Ab ?_
  rcases Ae am with⟨aq,am⟩|⟨aq,am⟩
  ·refine Am f Z aq ?_
   refine Ao ?_
   refine Ah (An (Ah ?_))
   have⟨ar,au,am⟩:=bind_some am
   refine AL (λa w=>∃av:Int,av=ar∧∃(aw:GH),GLe aj aw∧Fr a 141 [(0,v0),(1,(iv x1)),(2,(iv x2)),(3,(.func (.func 164) #[] #[])),(9,(iv av)),(10,(iv ai))]∧Mem W aw w (ak::H)) ?_ ?_
   ·refine An ?_
    refine AJ (λax a w=>∃ay:Int,ay=ax∧∃(az:GH),GLe aj az∧Fr a 141 [(0,v0),(1,(iv x1)),(2,(iv x2)),(3,(.func (.func 164) #[] #[])),(9,(iv ay)),(10,(iv ai))]∧Mem W az w (ak::H)) au ⟨_,Z,_,gr,f.k Z,m⟩ ?_
    clear au f m
    rintro ax aA aB aC a w ⟨ay,rfl,az,aD,f,m⟩
    have ap:=od1 aD ap
    refine Ah (Ah ?_)
    refine Bf 18 AI (by kernel_rfl) m ?_
    refine Ag 0 18 Z f Z λa f=>Ag 1 18 Z f Z λa f=>q_p 2 18 Z f (λ_=>Az (f.e Z) (f.e Z) AM) λa f=>Ag 3 18 Z f Z λa f=> ?_
    have⟨aE,aF,aB⟩:=bind_some aB
    refine BN (fuel':=0) (listed':= #[true,true,true,true,true,true,true,true,true,true,true,true,true,true,true,true,true,true]) (λa=>Fr a 141 [(0,v0),(1,(iv x1)),(2,(iv x2)),(3,(.func (.func 164) #[] #[])),(9,(iv ay)),(10,(iv ai)),(19,(iv ay)),(20,(iv x2)),(21,(.bool (decide (ay<x2)))),(22,(.bool (decide (ay<x2)))),(36,(.bool aE))]) ?_ ?_
    ·intro a f
     refine A4 λaG w aH m=>Ab ?_
     rcases Ae aB with⟨aI,aB⟩|⟨aI,aB⟩
     ·refine Am f Z aI ?_
      refine Ao ?_
      refine An (Ap ?_)
      refine Aa f Z λa f=>Ai f Z Z Ax λa f=>Ac f Z λa f=>Ab ?_
      obtain rfl:=sj aB
      exact⟨_,Z,_,Z,_,(gt aD aH),f.k Z,m⟩
     ·refine Aj f Z aI ?_
      refine AF Z ?_
      obtain rfl:=sj aB
      obtain rfl:=aC _ rfl
      exact⟨_,Z,_,(gt aD aH),f.k Z,m⟩
    ·intro aJ
     rcases Ae aF with⟨aK,aF⟩|⟨aK,aF⟩
     ·refine Ag (hw:=wo f aK) 4 18 Z f Z λa f=> ?_
      refine Ag (hw:=wo f aK) 5 18 Z f Z λa f=>Ag (hw:=wo f aK) 6 18 Z f Z λa f=> ?_
      have⟨aL,aM,aF⟩:=bind_some aF
      refine AG (hw:=wo f aK) 7 18 0 m ap T59 aM Z f Z Z λaN a aO f=>AO (hw:=wo f aK) 8 18 0 ap AY aO aM Z f Z λaP a aQ f=> ?_
      subst aQ
      refine Ag (hw:=wo f aK) 9 18 Z f Z λa f=>Ag (hw:=wo f aK) 10 18 Z f Z λa f=>q_p (hw:=wo f aK) 11 18 Z f (λ_=>Az (f.e Z) (f.e Z) AT) λa f=> ?_
      have⟨aR,aS,aF⟩:=bind_some aF
      refine AG (hw:=wo f aK) 12 18 0 m ap T59 aS Z f Z Z λaT a aU f=>AO (hw:=wo f aK) 13 18 0 ap AY aU aS Z f Z λaV a aW f=> ?_
      subst aW
      have⟨aX,aY,aF⟩:=bind_some aF
      refine B7 (i:=14) 18 Z (by kernel_rfl) Z f (AS f Z Z Z aK) Z Z Z call164 (λ_ _ w aZ m=>Wk.a hW m aY) λa f=>q_p (hw:=wo f aK) 15 18 Z f (λ_=>Az (f.e Z) (f.e Z) AM) λa f=>q_p (hw:=wo f aK) 16 18 Z f (λ_=>Bv (f.e Z)) λa f=>q_p 17 18 Z f (λ_=>AD (f.e Z) aK (f.e Z)) λa f=> ?_
      obtain rfl:=sj aF
      exact aJ _ (f.k Z)
     ·refine Ak 4 18 Z f aK λa f=> ?_
      refine Ak 5 18 Z f aK λa f=>Ak 6 18 Z f aK λa f=>Ak 7 18 Z f aK λa f=>Ak 8 18 Z f aK λa f=>Ak 9 18 Z f aK λa f=>Ak 10 18 Z f aK λa f=>Ak 11 18 Z f aK λa f=>Ak 12 18 Z f aK λa f=>Ak 13 18 Z f aK λa f=>Ak 14 18 Z f aK λa f=>Ak 15 18 Z f aK λa f=>Ak 16 18 Z f aK λa f=>q_p 17 18 Z f (λ_=>AC (f.e Z) aK (f.e Z)) λa f=> ?_
      obtain rfl:=sj aF
      exact aJ _ (f.k Z)
   ·rintro a w ⟨av,rfl,aw,a0,f,m⟩
    have ap:=od1 a0 ap
    refine Ah (Af ?_)
    refine Aa f Z λa f=>Aa f Z λa f=>Ai f Z Z BE λa f=>Ab ?_
    rcases Ae am with⟨a1,am⟩|⟨a1,am⟩
    ·refine Am f Z a1 ?_
     refine Af ?_
     refine Ac f Z λa f=>Ab ?_
     refine Ar ?_
     obtain rfl:=sj am
     obtain rfl:=an _ rfl
     obtain rfl:=sj hd
     exact⟨[(.bool true)],f.g Z,f.d,_,[ak],(gt ao a0),m,_,Z,Z,ap⟩
    ·refine Aj f Z a1 ?_
     refine Ao ?_
     refine Ah (Af ?_)
     refine Aa f Z λa f=>Aa f Z λa f=>Ai f Z Z AT λa f=>Ai f Z Z AM λa f=>Ab ?_
     rcases Ae am with⟨a2,am⟩|⟨a2,am⟩
     ·refine Am f Z a2 ?_
      refine Af ?_
      refine Ac f Z λa f=>Ab ?_
      refine Ar ?_
      obtain rfl:=sj am
      obtain rfl:=an _ rfl
      obtain rfl:=sj hd
      exact⟨[(.bool false)],f.g Z,f.d,_,[ak],(gt ao a0),m,_,Z,Z,ap⟩
     ·refine Aj f Z a2 ?_
      refine Ao ?_
      refine Ah ?_
      refine BW AI m ?_
      refine p_p 2 Z f (λ_=>Bl (f.e Z)) λa f=>p_p 3 Z f (λ_=>Bl (f.e Z)) λa f=>p_p 4 Z f (λ_=>Az (f.e Z) (f.e Z) AT) λa f=>BU 28015 12 (by kernel_rfl) Z ?_
      refine Ag 0 28015 Z f Z λa f=>Ag 1 28015 Z f Z λa f=>Ag 5 28015 Z f Z λa f=>Ag 6 28015 Z f Z λa f=>q_p 7 28015 Z f (λ_=>Az (f.e Z) (f.e Z) AT) λa f=> ?_
      have⟨a3,a4,am⟩:=bind_some am
      refine AG 8 28015 0 m ap T59 a4 Z f Z Z λa5 a a6 f=>AO 9 28015 0 ap AY a6 a4 Z f Z λa7 a a8 f=> ?_
      subst a8
      refine Ag 10 28015 Z f Z λa f=>Ag 11 28015 Z f Z λa f=> ?_
      have⟨a9,ba,am⟩:=bind_some am
      refine AG 12 28015 0 m ap T59 ba Z f Z Z λbb a bc f=>AO 13 28015 0 ap AY bc ba Z f Z λbd a be f=> ?_
      subst be
      have⟨bf,bg,am⟩:=bind_some am
      refine AG 14 28015 0 m ap T59 bg Z f Z Z λbh a bi f=>A4 λbj w bk m=> ?_
      have ap:=od1 bk ap
      refine AH 0 m ap Z sizeOf63 f Z Z bi bg Z Z Z λbl w m bm=> ?_
      have⟨bn,bo,am⟩:=bind_some am
      refine Bk 0 m bm Z T59 f Z Z Z bo λbp a bq f=>AH 0 m bm Z sizeOf63 f Z Z bq bo Z Z Z λbr w m bs=>Ab (Ah (Af ?_))
      refine Aa f Z λa f=>Aa f Z λa f=>Ai f Z Z AT λa f=>Ai f Z Z Cm λa f=>Ab ?_
      have⟨bt,bu,am⟩:=bind_some am
      refine AL (λa w=>∃bv:LI,bv=bt∧∃(bw:GH) (bx:Itm),GLe bj bw∧Fr a 141 [(0,v0),(1,(iv x1)),(2,(iv x2)),(3,(.func (.func 164) #[] #[])),(9,(iv av)),(10,(iv ai))]∧Mem W bw w (bx::H)∧Ow (RI .u32) 63 bw bx v0 bv) ?_ ?_
      ·rcases Ae bu with⟨bz,bu⟩|⟨bz,bu⟩
       ·refine Am f Z bz ?_
        refine Af ?_
        refine Aa f Z λa f=>Ai f Z Z AT λa f=>Ac f Z λa f=>Ab ?_
        have⟨bA,bB,bu⟩:=bind_some bu
        refine AL (λa w=>∃bC:LI,bC=bA∧∃(bD:GH) (bE:Itm),GLe bj bD∧Fr a 141 [(0,v0),(1,(iv x1)),(2,(iv x2)),(3,(.func (.func 164) #[] #[])),(9,(iv av)),(10,(iv ai))]∧Mem W bD w (bE::H)∧Ow (RI .u32) 63 bD bE v0 bC) ?_ ?_
        ·refine An ?_
         refine AJ (λbF a w=>∃bG:LI,∃bH:Int,(bG,bH)=bF∧∃(bI:GH) (bJ:Itm),GLe bj bI∧Fr a 141 [(0,v0),(1,(iv x1)),(2,(iv x2)),(3,(.func (.func 164) #[] #[])),(9,(iv av)),(10,(iv ai)),(11,(iv bH))]∧Mem W bI w (bJ::H)∧Ow (RI .u32) 63 bI bJ v0 bG) bB ⟨_,_,Z,_,br,gr,f.k Z,m,bs⟩ ?_
         clear bB f m
         rintro bF bK bL bM a w ⟨bG,bH,rfl,bI,bJ,bN,f,m,bO⟩
         refine Ah (Af ?_)
         refine Aa f Z λa f=>Ai f Z Z Cm λa f=>Ab ?_
         rcases Ae bL with⟨bP,bL⟩|⟨bP,bL⟩
         ·refine Am f Z bP ?_
          refine Ao ?_
          refine Ah (An (Ah (Ah ?_)))
          refine Bf 13 AI (by kernel_rfl) m ?_
          refine Ag 0 13 Z f Z λa f=>Ag 1 13 Z f Z λa f=>Ag 2 13 Z f Z λa f=> ?_
          have⟨bQ,bR,bL⟩:=bind_some bL
          refine AG 3 13 0 m bO T59 bR Z f Z Z λbS a bT f=>AO 4 13 0 bO AY bT bR Z f Z λbU a bV f=> ?_
          subst bV
          refine Ag 5 13 Z f Z λa f=>Ag 6 13 Z f Z λa f=>q_p 7 13 Z f (λ_=>Az (f.e Z) (f.e Z) AT) λa f=> ?_
          have⟨bW,bX,bL⟩:=bind_some bL
          refine AG 8 13 0 m bO T59 bX Z f Z Z λbY a bZ f=>AO 9 13 0 bO AY bZ bX Z f Z λb0 a b1 f=> ?_
          subst b1
          have⟨b2,b3,bL⟩:=bind_some bL
          refine B7 (i:=10) 13 Z (by kernel_rfl) Z f Z Z Z Z call164 (λ_ _ w b4 m=>Wk.a hW m b3) λa f=>q_p 11 13 Z f (λ_=>Az (f.e Z) (f.e Z) AM) λa f=>q_p 12 13 Z f (λ_=>Bv (f.e Z)) λa f=>A4 λb5 w b6 m=> ?_
          have bO:=od1 b6 bO
          refine Ab ?_
          rcases Ae bL with⟨b7,bL⟩|⟨b7,bL⟩
          ·refine Am f Z b7 ?_
           refine AF Z ?_
           obtain rfl:=sj bL
           obtain rfl:=bM _ rfl
           exact⟨_,Z,_,bJ,(gt bN b6),f.k Z,m,bO⟩
          ·refine Aj f Z b7 ?_
           refine Ao ?_
           refine BW AI m ?_
           refine p_p 2 Z f (λ_=>Bl (f.e Z)) λa f=>p_p 3 Z f (λ_=>Bl (f.e Z)) λa f=>p_p 4 Z f (λ_=>Az (f.e Z) (f.e Z) AT) λa f=>BU 28015 12 (by kernel_rfl) Z ?_
           refine Ag 0 28015 Z f Z λa f=>Ag 1 28015 Z f Z λa f=>Ag 5 28015 Z f Z λa f=>Ag 6 28015 Z f Z λa f=>q_p 7 28015 Z f (λ_=>Az (f.e Z) (f.e Z) AT) λa f=> ?_
           have⟨b8,b9,bL⟩:=bind_some bL
           refine AG 8 28015 0 m bO T59 b9 Z f Z Z λca a cb f=>AO 9 28015 0 bO AY cb b9 Z f Z λcc a cd f=> ?_
           subst cd
           refine Ag 10 28015 Z f Z λa f=>Ag 11 28015 Z f Z λa f=> ?_
           have⟨ce,cf,bL⟩:=bind_some bL
           refine AG 12 28015 0 m bO T59 cf Z f Z Z λcg a ch f=>AO 13 28015 0 bO AY ch cf Z f Z λci a cj f=> ?_
           subst cj
           have⟨ck,cl,bL⟩:=bind_some bL
           refine AG 14 28015 0 m bO T59 cl Z f Z Z λcm a cn f=>A4 λco w cp m=> ?_
           have bO:=od1 cp bO
           refine AH 0 m bO Z sizeOf63 f Z Z cn cl Z Z Z λcq w m cr=> ?_
           have⟨cs,ct,bL⟩:=bind_some bL
           refine Bk 0 m cr Z T59 f Z Z Z ct λcu a cv f=>AH 0 m cr Z sizeOf63 f Z Z cv ct Z Z Z λcw w m cx=>Ab (Ap ?_)
           refine Aa f Z λa f=>Ai f Z Z AT λa f=>Ac f Z λa f=>Ab ?_
           obtain rfl:=sj bL
           exact⟨_,Z,_,_,Z,_,cw,(gt bN (gt b6 cp)),f.k Z,m,cx⟩
         ·refine Aj f Z bP ?_
          refine AF Z ?_
          obtain rfl:=sj bL
          obtain rfl:=bM _ rfl
          exact⟨_,Z,_,bJ,bN,f.k Z,m,bO⟩
        ·rintro a w ⟨bC,rfl,bD,bE,cy,f,m,cz⟩
         obtain rfl:=sj bu
         exact⟨_,Z,_,bE,cy,f.k Z,m,cz⟩
       ·refine Aj f Z bz ?_
        refine Ao ?_
        obtain rfl:=sj bu
        exact⟨_,Z,_,br,gr,f.k Z,m,bs⟩
      ·rintro a w ⟨bv,rfl,bw,bx,cA,f,m,cB⟩
       refine Af ?_
       refine Aa f Z λa f=>Aa f Z λa f=>Ai f Z Z AT λa f=>Ai f Z Z Cm λa f=>Ab ?_
       rcases Ae am with⟨cC,am⟩|⟨cC,am⟩
       ·refine Am f Z cC ?_
        refine Af ?_
        refine Aa f Z λa f=>Ai f Z Z Ax λa f=>Ac f Z λa f=>Ab ?_
        have⟨cD,cE,am⟩:=bind_some am
        refine AL (λa w=>∃cF:LI,cF=cD∧∃(cG:GH) (cH:Itm),GLe bw cG∧Fr a 141 [(0,v0),(1,(iv x1)),(2,(iv x2)),(3,(.func (.func 164) #[] #[])),(9,(iv av)),(10,(iv ai))]∧Mem W cG w (cH::H)∧Ow (RI .u32) 63 cG cH v0 cF) ?_ ?_
        ·refine An ?_
         refine AJ (λcI a w=>∃cJ:LI,∃cK:Int,(cJ,cK)=cI∧∃(cL:GH) (cM:Itm),GLe bw cL∧Fr a 141 [(0,v0),(1,(iv x1)),(2,(iv x2)),(3,(.func (.func 164) #[] #[])),(9,(iv av)),(10,(iv ai)),(12,(iv cK))]∧Mem W cL w (cM::H)∧Ow (RI .u32) 63 cL cM v0 cJ) cE ⟨_,_,Z,_,bx,gr,f.k Z,m,cB⟩ ?_
         clear cE f m
         rintro cI cN cO cP a w ⟨cJ,cK,rfl,cL,cM,cQ,f,m,cR⟩
         refine Ah (Af ?_)
         refine Aa f Z λa f=>Aa f Z λa f=>Ai f Z Z AM λa f=>Ab ?_
         rcases Ae cO with⟨cS,cO⟩|⟨cS,cO⟩
         ·refine Am f Z cS ?_
          refine Ao ?_
          refine Ah (An (Ah (Ah ?_)))
          refine Bf 13 AI (by kernel_rfl) m ?_
          refine Ag 0 13 Z f Z λa f=>Ag 1 13 Z f Z λa f=>Ag 2 13 Z f Z λa f=> ?_
          have⟨cT,cU,cO⟩:=bind_some cO
          refine AG 3 13 0 m cR T59 cU Z f Z Z λcV a cW f=>AO 4 13 0 cR AY cW cU Z f Z λcX a cY f=> ?_
          subst cY
          refine Ag 5 13 Z f Z λa f=>Ag 6 13 Z f Z λa f=>q_p 7 13 Z f (λ_=>Az (f.e Z) (f.e Z) AT) λa f=> ?_
          have⟨cZ,c0,cO⟩:=bind_some cO
          refine AG 8 13 0 m cR T59 c0 Z f Z Z λc1 a c2 f=>AO 9 13 0 cR AY c2 c0 Z f Z λc3 a c4 f=> ?_
          subst c4
          have⟨c5,c6,cO⟩:=bind_some cO
          refine B7 (i:=10) 13 Z (by kernel_rfl) Z f Z Z Z Z call164 (λ_ _ w c7 m=>Wk.a hW m c6) λa f=>q_p 11 13 Z f (λ_=>Az (f.e Z) (f.e Z) AM) λa f=>q_p 12 13 Z f (λ_=>Bv (f.e Z)) λa f=>A4 λc8 w c9 m=> ?_
          have cR:=od1 c9 cR
          refine Ab ?_
          rcases Ae cO with⟨da,cO⟩|⟨da,cO⟩
          ·refine Am f Z da ?_
           refine AF Z ?_
           obtain rfl:=sj cO
           obtain rfl:=cP _ rfl
           exact⟨_,Z,_,cM,(gt cQ c9),f.k Z,m,cR⟩
          ·refine Aj f Z da ?_
           refine Ao ?_
           refine BW AI m ?_
           refine p_p 2 Z f (λ_=>Bl (f.e Z)) λa f=>p_p 3 Z f (λ_=>Bl (f.e Z)) λa f=>p_p 4 Z f (λ_=>Az (f.e Z) (f.e Z) AT) λa f=>BU 28015 12 (by kernel_rfl) Z ?_
           refine Ag 0 28015 Z f Z λa f=>Ag 1 28015 Z f Z λa f=>Ag 5 28015 Z f Z λa f=>Ag 6 28015 Z f Z λa f=>q_p 7 28015 Z f (λ_=>Az (f.e Z) (f.e Z) AT) λa f=> ?_
           have⟨db,dc,cO⟩:=bind_some cO
           refine AG 8 28015 0 m cR T59 dc Z f Z Z λdd a de f=>AO 9 28015 0 cR AY de dc Z f Z λdf a dg f=> ?_
           subst dg
           refine Ag 10 28015 Z f Z λa f=>Ag 11 28015 Z f Z λa f=> ?_
           have⟨dh,di,cO⟩:=bind_some cO
           refine AG 12 28015 0 m cR T59 di Z f Z Z λdj a dk f=>AO 13 28015 0 cR AY dk di Z f Z λdl a dm f=> ?_
           subst dm
           have⟨dn,dp,cO⟩:=bind_some cO
           refine AG 14 28015 0 m cR T59 dp Z f Z Z λdq a dr f=>A4 λds w dt m=> ?_
           have cR:=od1 dt cR
           refine AH 0 m cR Z sizeOf63 f Z Z dr dp Z Z Z λdu w m dv=> ?_
           have⟨dw,dx,cO⟩:=bind_some cO
           refine Bk 0 m dv Z T59 f Z Z Z dx λdy a dz f=>AH 0 m dv Z sizeOf63 f Z Z dz dx Z Z Z λdA w m dB=>Ab (Ap ?_)
           refine Aa f Z λa f=>Ai f Z Z Ax λa f=>Ac f Z λa f=>Ab ?_
           obtain rfl:=sj cO
           exact⟨_,Z,_,_,Z,_,dA,(gt cQ (gt c9 dt)),f.k Z,m,dB⟩
         ·refine Aj f Z cS ?_
          refine AF Z ?_
          obtain rfl:=sj cO
          obtain rfl:=cP _ rfl
          exact⟨_,Z,_,cM,cQ,f.k Z,m,cR⟩
        ·rintro a w ⟨cF,rfl,cG,cH,dC,f,m,dD⟩
         refine Ap ?_
         refine Aa f Z λa f=>Ai f Z Z Ax λa f=>Ac f Z λa f=>Ab ?_
         obtain rfl:=sj am
         exact⟨_,Z,_,_,_,Z,_,cH,(gt ao (gt a0 (gt bk (gt cA dC)))),f.k Z,m,dD⟩
       ·refine Aj f Z cC ?_
        refine Ao ?_
        refine Ap ?_
        refine Aa f Z λa f=>Ai f Z Z Ax λa f=>Ac f Z λa f=>Ab ?_
        obtain rfl:=sj am
        exact⟨_,Z,_,_,_,Z,_,bx,(gt ao (gt a0 (gt bk cA))),f.k Z,m,cB⟩
  ·refine Aj f Z aq ?_
   refine AF Z ?_
   obtain rfl:=sj am
   obtain rfl:=an _ rfl
   exact⟨_,Z,_,Z,_,ak,ao,f.weak trivial,m,ap⟩
 ·rintro a w ⟨_,rfl,ac,rfl,ad,ae,dE,f,m,dF⟩
  refine Af ?_
  refine Ac f Z λa f=>Ab ?_
  refine Ar ?_
  obtain rfl:=sj hd
  exact⟨[(.bool false)],f.g Z,f.d,_,[ae],dE,m,_,Z,Z,dF⟩
theorem Wk.M0 {v0:Value}{it0:Itm}{x0:LI}{x1 x2 x3:Int}(hW:Bw W)(m:Mem W G w (it0::H))(o0:Ow (RI .u32) 63 G it0 v0 x0){y:Int×(LI)}(hd:D.M0 x0 x1 x2 x3=some y):
  Calls prog 200 #[v0,(iv x1),(iv x2),(iv x3),(.func (.func 164) #[] #[])] w (Res W G H (λG' Ho v=>∃i0:Itm,Ho=[i0]∧v=(iv y.1)∧Ow (RI .u32) 63 G' i0 v0 y.2)):=by
 refine As (args:=[v0,(iv x1),(iv x2),(iv x3),(.func (.func 164) #[] #[])]) (N:=90) [.tmp 10] func200 Z Z (lb Z) Z λa f=> ?_
 unfold D.M0 at hd
 refine Af ?_
 refine Ac f Z λa f=>Ab (Ah ?_)
 refine BW AI m ?_
 refine p_p 2 Z f (λ_=>Bl (f.e Z)) λa f=>p_p 3 Z f (λ_=>Bl (f.e Z)) λa f=>BU 12013 11 (by kernel_rfl) Z ?_
 refine Ag 0 12013 Z f Z λa f=>Ag 1 12013 Z f Z λa f=>Ag 4 12013 Z f Z λa f=>Ag 5 12013 Z f Z λa f=> ?_
 have⟨aa,ab,hd⟩:=bind_some hd
 refine AG 6 12013 0 m o0 T59 ab Z f Z Z λac a ad f=>AO 7 12013 0 o0 AY ad ab Z f Z λae a af f=> ?_
 subst af
 refine Ag 8 12013 Z f Z λa f=>Ag 9 12013 Z f Z λa f=> ?_
 have⟨ag,ah,hd⟩:=bind_some hd
 refine AG 10 12013 0 m o0 T59 ah Z f Z Z λai a aj f=>AO 11 12013 0 o0 AY aj ah Z f Z λak a al f=> ?_
 subst al
 have⟨am,an,hd⟩:=bind_some hd
 refine AG 12 12013 0 m o0 T59 an Z f Z Z λao a ap f=>A4 λaq w ar m=> ?_
 have o0:=od1 ar o0
 refine AH 0 m o0 Z sizeOf63 f Z Z ap an Z Z Z λau w m av=> ?_
 have⟨aw,ax,hd⟩:=bind_some hd
 refine Bk 0 m av Z T59 f Z Z Z ax λay a az f=>AH 0 m av Z sizeOf63 f Z Z az ax Z Z Z λaA w m aB=>Ay ?_
 refine Aa f Z λa f=>Ai f Z Z Ax λa f=>Aa f Z λa f=>Ai f Z Z AT λa f=>Ac f Z λa f=>Ac f Z λa f=>Ab (Ah ?_)
 have⟨aC,aD,hd⟩:=bind_some hd
 refine AL (λa w=>∃aE:LI,∃aF:Int,(aE,aF)=aC∧∃(aG:GH) (aH:Itm),GLe aq aG∧Fr a 90 [(11,(iv aF))]∧Mem W aG w (aH::H)∧Ow (RI .u32) 63 aG aH v0 aE) ?_ ?_
 ·refine An ?_
  refine AJ (λaI a w=>∃aJ:LI,∃aK:Int,∃aL:Int,(aJ,aK,aL)=aI∧∃(aM:GH) (aN:Itm),GLe aq aM∧Fr a 90 [(0,v0),(1,(iv x1)),(4,(.func (.func 164) #[] #[])),(11,(iv aK)),(12,(iv aL))]∧Mem W aM w (aN::H)∧Ow (RI .u32) 63 aM aN v0 aJ) aD ⟨_,_,_,Z,_,aA,gr,f.k Z,m,aB⟩ ?_
  clear aD f m
  rintro aI aO aP aQ a w ⟨aJ,aK,aL,rfl,aM,aN,aR,f,m,aS⟩
  refine An (Ah ?_)
  have⟨aT,aU,aP⟩:=bind_some aP
  refine AL (λa w=>∃aV:Int,aV=aT∧∃(aW:GH),GLe aM aW∧Fr a 90 [(0,v0),(1,(iv x1)),(4,(.func (.func 164) #[] #[])),(11,(iv aV)),(12,(iv aL))]∧Mem W aW w (aN::H)) ?_ ?_
  ·refine An ?_
   refine AJ (λaX a w=>∃aY:Int,aY=aX∧∃(aZ:GH),GLe aM aZ∧Fr a 90 [(0,v0),(1,(iv x1)),(4,(.func (.func 164) #[] #[])),(11,(iv aY)),(12,(iv aL))]∧Mem W aZ w (aN::H)) aU ⟨_,Z,_,gr,f.k Z,m⟩ ?_
   clear aU f m
   rintro aX a0 a1 a2 a w ⟨aY,rfl,aZ,a3,f,m⟩
   have aS:=od1 a3 aS
   refine Ah (Ah ?_)
   refine Bf 17 AI (by kernel_rfl) m ?_
   refine Ag 0 17 Z f Z λa f=>Ag 1 17 Z f Z λa f=>q_p 2 17 Z f (λ_=>Az (f.e Z) (f.e Z) CO) λa f=>Ag 3 17 Z f Z λa f=> ?_
   have⟨a4,a5,a1⟩:=bind_some a1
   refine BN (fuel':=0) (listed':= #[true,true,true,true,true,true,true,true,true,true,true,true,true,true,true,true,true]) (λa=>Fr a 90 [(0,v0),(1,(iv x1)),(4,(.func (.func 164) #[] #[])),(11,(iv aY)),(12,(iv aL)),(31,(iv aY)),(32,(iv aL)),(33,(.bool (decide (aY≤aL)))),(34,(.bool (decide (aY≤aL)))),(47,(.bool a4))]) ?_ ?_
   ·intro a f
    refine A4 λa6 w a7 m=>Ab ?_
    rcases Ae a1 with⟨a8,a1⟩|⟨a8,a1⟩
    ·refine Am f Z a8 ?_
     refine Ao ?_
     refine An (Ap ?_)
     refine Aa f Z λa f=>Ai f Z Z Ax λa f=>Ac f Z λa f=>Ab ?_
     obtain rfl:=sj a1
     exact⟨_,Z,_,Z,_,(gt a3 a7),f.k Z,m⟩
    ·refine Aj f Z a8 ?_
     refine AF Z ?_
     obtain rfl:=sj a1
     obtain rfl:=a2 _ rfl
     exact⟨_,Z,_,(gt a3 a7),f.k Z,m⟩
   ·intro a9
    rcases Ae a5 with⟨ba,a5⟩|⟨ba,a5⟩
    ·refine Ag (hw:=wo f ba) 4 17 Z f Z λa f=> ?_
     refine Ag (hw:=wo f ba) 5 17 Z f Z λa f=>Ag (hw:=wo f ba) 6 17 Z f Z λa f=> ?_
     have⟨bb,bc,a5⟩:=bind_some a5
     refine AG (hw:=wo f ba) 7 17 0 m aS T59 bc Z f Z Z λbd a be f=>AO (hw:=wo f ba) 8 17 0 aS AY be bc Z f Z λbf a bg f=> ?_
     subst bg
     refine Ag (hw:=wo f ba) 9 17 Z f Z λa f=>Ag (hw:=wo f ba) 10 17 Z f Z λa f=> ?_
     have⟨bh,bi,a5⟩:=bind_some a5
     refine AG (hw:=wo f ba) 11 17 0 m aS T59 bi Z f Z Z λbj a bk f=>AO (hw:=wo f ba) 12 17 0 aS AY bk bi Z f Z λbl a bm f=> ?_
     subst bm
     have⟨bn,bo,a5⟩:=bind_some a5
     refine B7 (i:=13) 17 Z (by kernel_rfl) Z f (AS f Z Z Z ba) Z Z Z call164 (λ_ _ w bp m=>Wk.a hW m bo) λa f=>q_p (hw:=wo f ba) 14 17 Z f (λ_=>Az (f.e Z) (f.e Z) AM) λa f=>q_p (hw:=wo f ba) 15 17 Z f (λ_=>Bv (f.e Z)) λa f=>q_p 16 17 Z f (λ_=>AD (f.e Z) ba (f.e Z)) λa f=> ?_
     obtain rfl:=sj a5
     exact a9 _ (f.k Z)
    ·refine Ak 4 17 Z f ba λa f=> ?_
     refine Ak 5 17 Z f ba λa f=>Ak 6 17 Z f ba λa f=>Ak 7 17 Z f ba λa f=>Ak 8 17 Z f ba λa f=>Ak 9 17 Z f ba λa f=>Ak 10 17 Z f ba λa f=>Ak 11 17 Z f ba λa f=>Ak 12 17 Z f ba λa f=>Ak 13 17 Z f ba λa f=>Ak 14 17 Z f ba λa f=>Ak 15 17 Z f ba λa f=>q_p 16 17 Z f (λ_=>AC (f.e Z) ba (f.e Z)) λa f=> ?_
     obtain rfl:=sj a5
     exact a9 _ (f.k Z)
  ·rintro a w ⟨aV,rfl,aW,bq,f,m⟩
   have aS:=od1 bq aS
   refine Ah ?_
   have⟨br,bs,aP⟩:=bind_some aP
   refine AL (λa w=>∃bt:Int,bt=br∧∃(bu:GH),GLe aW bu∧Fr a 90 [(0,v0),(1,(iv x1)),(4,(.func (.func 164) #[] #[])),(11,(iv aV)),(12,(iv bt))]∧Mem W bu w (aN::H)) ?_ ?_
   ·refine An ?_
    refine AJ (λbv a w=>∃bw:Int,bw=bv∧∃(bx:GH),GLe aW bx∧Fr a 90 [(0,v0),(1,(iv x1)),(4,(.func (.func 164) #[] #[])),(11,(iv aV)),(12,(iv bw))]∧Mem W bx w (aN::H)) bs ⟨_,Z,_,gr,f.k Z,m⟩ ?_
    clear bs f m
    rintro bv bz bA bB a w ⟨bw,rfl,bx,bC,f,m⟩
    have aS:=od1 bC aS
    refine Ah (Ah ?_)
    refine Bf 16 AI (by kernel_rfl) m ?_
    refine Ag 0 16 Z f Z λa f=>Ag 1 16 Z f Z λa f=>q_p 2 16 Z f (λ_=>Az (f.e Z) (f.e Z) CO) λa f=>Ag 3 16 Z f Z λa f=> ?_
    have⟨bD,bE,bA⟩:=bind_some bA
    refine BN (fuel':=0) (listed':= #[true,true,true,true,true,true,true,true,true,true,true,true,true,true,true,true]) (λa=>Fr a 90 [(0,v0),(1,(iv x1)),(4,(.func (.func 164) #[] #[])),(11,(iv aV)),(12,(iv bw)),(50,(iv aV)),(51,(iv bw)),(52,(.bool (decide (aV≤bw)))),(53,(.bool (decide (aV≤bw)))),(65,(.bool bD))]) ?_ ?_
    ·intro a f
     refine A4 λbF w bG m=>Ab ?_
     rcases Ae bA with⟨bH,bA⟩|⟨bH,bA⟩
     ·refine Am f Z bH ?_
      refine Ao ?_
      refine An (Ap ?_)
      refine Aa f Z λa f=>Ai f Z Z AT λa f=>Ac f Z λa f=>Ab ?_
      obtain rfl:=sj bA
      exact⟨_,Z,_,Z,_,(gt bC bG),f.k Z,m⟩
     ·refine Aj f Z bH ?_
      refine AF Z ?_
      obtain rfl:=sj bA
      obtain rfl:=bB _ rfl
      exact⟨_,Z,_,(gt bC bG),f.k Z,m⟩
    ·intro bI
     rcases Ae bE with⟨bJ,bE⟩|⟨bJ,bE⟩
     ·refine Ag (hw:=wo f bJ) 4 16 Z f Z λa f=> ?_
      refine Ag (hw:=wo f bJ) 5 16 Z f Z λa f=>Ag (hw:=wo f bJ) 6 16 Z f Z λa f=> ?_
      have⟨bK,bL,bE⟩:=bind_some bE
      refine AG (hw:=wo f bJ) 7 16 0 m aS T59 bL Z f Z Z λbM a bN f=>AO (hw:=wo f bJ) 8 16 0 aS AY bN bL Z f Z λbO a bP f=> ?_
      subst bP
      refine Ag (hw:=wo f bJ) 9 16 Z f Z λa f=>Ag (hw:=wo f bJ) 10 16 Z f Z λa f=> ?_
      have⟨bQ,bR,bE⟩:=bind_some bE
      refine AG (hw:=wo f bJ) 11 16 0 m aS T59 bR Z f Z Z λbS a bT f=>AO (hw:=wo f bJ) 12 16 0 aS AY bT bR Z f Z λbU a bV f=> ?_
      subst bV
      have⟨bW,bX,bE⟩:=bind_some bE
      refine B7 (i:=13) 16 Z (by kernel_rfl) Z f (AS f Z Z Z bJ) Z Z Z call164 (λ_ _ w bY m=>Wk.a hW m bX) λa f=>q_p (hw:=wo f bJ) 14 16 Z f (λ_=>Az (f.e Z) (f.e Z) AM) λa f=>q_p 15 16 Z f (λ_=>AD (f.e Z) bJ (f.e Z)) λa f=> ?_
      obtain rfl:=sj bE
      exact bI _ (f.k Z)
     ·refine Ak 4 16 Z f bJ λa f=> ?_
      refine Ak 5 16 Z f bJ λa f=>Ak 6 16 Z f bJ λa f=>Ak 7 16 Z f bJ λa f=>Ak 8 16 Z f bJ λa f=>Ak 9 16 Z f bJ λa f=>Ak 10 16 Z f bJ λa f=>Ak 11 16 Z f bJ λa f=>Ak 12 16 Z f bJ λa f=>Ak 13 16 Z f bJ λa f=>Ak 14 16 Z f bJ λa f=>q_p 15 16 Z f (λ_=>AC (f.e Z) bJ (f.e Z)) λa f=> ?_
      obtain rfl:=sj bE
      exact bI _ (f.k Z)
   ·rintro a w ⟨bt,rfl,bu,bZ,f,m⟩
    have aS:=od1 bZ aS
    refine Ah (Af ?_)
    refine Aa f Z λa f=>Aa f Z λa f=>Ai f Z Z CF λa f=>Ab ?_
    rcases Ae aP with⟨b0,aP⟩|⟨b0,aP⟩
    ·refine Am f Z b0 ?_
     refine AF Z ?_
     obtain rfl:=sj aP
     obtain rfl:=aQ _ rfl
     exact⟨_,_,Z,_,aN,(gt aR (gt bq bZ)),f.k Z,m,aS⟩
    ·refine Aj f Z b0 ?_
     refine Ao ?_
     refine Ah ?_
     refine BW AI m ?_
     refine p_p 2 Z f (λ_=>Bl (f.e Z)) λa f=>p_p 3 Z f (λ_=>Bl (f.e Z)) λa f=>BU 12013 11 (by kernel_rfl) Z ?_
     refine Ag 0 12013 Z f Z λa f=>Ag 1 12013 Z f Z λa f=>Ag 4 12013 Z f Z λa f=>Ag 5 12013 Z f Z λa f=> ?_
     have⟨b1,b2,aP⟩:=bind_some aP
     refine AG 6 12013 0 m aS T59 b2 Z f Z Z λb3 a b4 f=>AO 7 12013 0 aS AY b4 b2 Z f Z λb5 a b6 f=> ?_
     subst b6
     refine Ag 8 12013 Z f Z λa f=>Ag 9 12013 Z f Z λa f=> ?_
     have⟨b7,b8,aP⟩:=bind_some aP
     refine AG 10 12013 0 m aS T59 b8 Z f Z Z λb9 a ca f=>AO 11 12013 0 aS AY ca b8 Z f Z λcb a cc f=> ?_
     subst cc
     have⟨cd,ce,aP⟩:=bind_some aP
     refine AG 12 12013 0 m aS T59 ce Z f Z Z λcf a cg f=>A4 λch w ci m=> ?_
     have aS:=od1 ci aS
     refine AH 0 m aS Z sizeOf63 f Z Z cg ce Z Z Z λcj w m ck=> ?_
     have⟨cl,cm,aP⟩:=bind_some aP
     refine Bk 0 m ck Z T59 f Z Z Z cm λcn a co f=>AH 0 m ck Z sizeOf63 f Z Z co cm Z Z Z λcp w m cq=>Ay ?_
     refine Aa f Z λa f=>Ai f Z Z Ax λa f=>Ac f Z λa f=>Ab (Ap ?_)
     refine Aa f Z λa f=>Ai f Z Z AT λa f=>Ac f Z λa f=>Ab ?_
     obtain rfl:=sj aP
     exact⟨_,Z,_,_,_,Z,_,cp,(gt aR (gt bq (gt bZ ci))),f.k Z,m,cq⟩
 ·rintro a w ⟨aE,aF,rfl,aG,aH,cr,f,m,cs⟩
  refine Af ?_
  refine Aa f Z λa f=>Ac f Z λa f=>Ab ?_
  refine Ar ?_
  obtain rfl:=sj hd
  exact⟨[(iv aF)],f.g Z,f.d,_,[aH],(gt ar cr),m,_,Z,Z,cs⟩
theorem Wk.P0 {v0:Value}{it0:Itm}{x0:LI}{x1 x2 x3:Int}(hW:Bw W)(m:Mem W G w (it0::H))(o0:Ow (RI .u32) 63 G it0 v0 x0){y:Int×Bool×(LI)}(hd:D.P0 x0 x1 x2 x3=some y):
  Calls prog 201 #[v0,(iv x1),(iv x2),(iv x3),(.func (.func 164) #[] #[])] w (Res W G H (λG' Ho v=>∃i0:Itm,Ho=[i0]∧v= .tuple #[(iv y.1),(.bool y.2.1)]∧Ow (RI .u32) 63 G' i0 v0 y.2.2)):=by
 refine As (args:=[v0,(iv x1),(iv x2),(iv x3),(.func (.func 164) #[] #[])]) (N:=178) [.tmp 10,.tmp 11] func201 Z Z (lb Z) Z λa f=> ?_
 unfold D.P0 at hd
 refine Af ?_
 refine Ac f Z λa f=>Ac f Z λa f=>Ab (Ah ?_)
 refine BW AI m ?_
 refine p_p 2 Z f (λ_=>Bl (f.e Z)) λa f=>p_p 3 Z f (λ_=>Bl (f.e Z)) λa f=>BU 12013 11 (by kernel_rfl) Z ?_
 refine Ag 0 12013 Z f Z λa f=>Ag 1 12013 Z f Z λa f=>Ag 4 12013 Z f Z λa f=>Ag 5 12013 Z f Z λa f=> ?_
 have⟨aa,ab,hd⟩:=bind_some hd
 refine AG 6 12013 0 m o0 T59 ab Z f Z Z λac a ad f=>AO 7 12013 0 o0 AY ad ab Z f Z λae a af f=> ?_
 subst af
 refine Ag 8 12013 Z f Z λa f=>Ag 9 12013 Z f Z λa f=> ?_
 have⟨ag,ah,hd⟩:=bind_some hd
 refine AG 10 12013 0 m o0 T59 ah Z f Z Z λai a aj f=>AO 11 12013 0 o0 AY aj ah Z f Z λak a al f=> ?_
 subst al
 have⟨am,an,hd⟩:=bind_some hd
 refine AG 12 12013 0 m o0 T59 an Z f Z Z λao a ap f=>A4 λaq w ar m=> ?_
 have o0:=od1 ar o0
 refine AH 0 m o0 Z sizeOf63 f Z Z ap an Z Z Z λau w m av=> ?_
 have⟨aw,ax,hd⟩:=bind_some hd
 refine Bk 0 m av Z T59 f Z Z Z ax λay a az f=>AH 0 m av Z sizeOf63 f Z Z az ax Z Z Z λaA w m aB=>Ay ?_
 refine Aa f Z λa f=>Ai f Z Z Ax λa f=>Aa f Z λa f=>Ai f Z Z AT λa f=>Ac f Z λa f=>Ac f Z λa f=>Ab (Ah ?_)
 have⟨aC,aD,hd⟩:=bind_some hd
 refine AL (λa w=>∃aE:Int,aE=aC∧∃(aF:GH),GLe aq aF∧Fr a 178 [(0,v0),(1,(iv x1)),(4,(.func (.func 164) #[] #[])),(12,(iv aE)),(13,(iv (i64.wrap (x2-1))))]∧Mem W aF w (aA::H)) ?_ ?_
 ·refine An ?_
  refine AJ (λaG a w=>∃aH:Int,aH=aG∧∃(aI:GH),GLe aq aI∧Fr a 178 [(0,v0),(1,(iv x1)),(4,(.func (.func 164) #[] #[])),(12,(iv aH)),(13,(iv (i64.wrap (x2-1))))]∧Mem W aI w (aA::H)) aD ⟨_,Z,_,gr,f.k Z,m⟩ ?_
  clear aD f m
  rintro aG aJ aK aL a w ⟨aH,rfl,aI,aM,f,m⟩
  have aB:=od1 aM aB
  refine Ah (Ah ?_)
  refine Bf 16 AI (by kernel_rfl) m ?_
  refine Ag 0 16 Z f Z λa f=>Ag 1 16 Z f Z λa f=>q_p 2 16 Z f (λ_=>Az (f.e Z) (f.e Z) CO) λa f=>Ag 3 16 Z f Z λa f=> ?_
  have⟨aN,aO,aK⟩:=bind_some aK
  refine BN (fuel':=0) (listed':= #[true,true,true,true,true,true,true,true,true,true,true,true,true,true,true,true]) (λa=>Fr a 178 [(0,v0),(1,(iv x1)),(4,(.func (.func 164) #[] #[])),(12,(iv aH)),(13,(iv (i64.wrap (x2-1)))),(32,(iv aH)),(33,(iv (i64.wrap (x2-1)))),(34,(.bool (decide (aH≤(i64.wrap (x2-1)))))),(35,(.bool (decide (aH≤(i64.wrap (x2-1)))))),(47,(.bool aN))]) ?_ ?_
  ·intro a f
   refine A4 λaP w aQ m=>Ab ?_
   rcases Ae aK with⟨aR,aK⟩|⟨aR,aK⟩
   ·refine Am f Z aR ?_
    refine Ao ?_
    refine An (Ap ?_)
    refine Aa f Z λa f=>Ai f Z Z Ax λa f=>Ac f Z λa f=>Ab ?_
    obtain rfl:=sj aK
    exact⟨_,Z,_,Z,_,(gt aM aQ),f.k Z,m⟩
   ·refine Aj f Z aR ?_
    refine AF Z ?_
    obtain rfl:=sj aK
    obtain rfl:=aL _ rfl
    exact⟨_,Z,_,(gt aM aQ),f.k Z,m⟩
  ·intro aS
   rcases Ae aO with⟨aT,aO⟩|⟨aT,aO⟩
   ·refine Ag (hw:=wo f aT) 4 16 Z f Z λa f=> ?_
    refine Ag (hw:=wo f aT) 5 16 Z f Z λa f=>Ag (hw:=wo f aT) 6 16 Z f Z λa f=> ?_
    have⟨aU,aV,aO⟩:=bind_some aO
    refine AG (hw:=wo f aT) 7 16 0 m aB T59 aV Z f Z Z λaW a aX f=>AO (hw:=wo f aT) 8 16 0 aB AY aX aV Z f Z λaY a aZ f=> ?_
    subst aZ
    refine Ag (hw:=wo f aT) 9 16 Z f Z λa f=>Ag (hw:=wo f aT) 10 16 Z f Z λa f=> ?_
    have⟨a0,a1,aO⟩:=bind_some aO
    refine AG (hw:=wo f aT) 11 16 0 m aB T59 a1 Z f Z Z λa2 a a3 f=>AO (hw:=wo f aT) 12 16 0 aB AY a3 a1 Z f Z λa4 a a5 f=> ?_
    subst a5
    have⟨a6,a7,aO⟩:=bind_some aO
    refine B7 (i:=13) 16 Z (by kernel_rfl) Z f (AS f Z Z Z aT) Z Z Z call164 (λ_ _ w a8 m=>Wk.a hW m a7) λa f=>q_p (hw:=wo f aT) 14 16 Z f (λ_=>Az (f.e Z) (f.e Z) AM) λa f=>q_p 15 16 Z f (λ_=>AD (f.e Z) aT (f.e Z)) λa f=> ?_
    obtain rfl:=sj aO
    exact aS _ (f.k Z)
   ·refine Ak 4 16 Z f aT λa f=> ?_
    refine Ak 5 16 Z f aT λa f=>Ak 6 16 Z f aT λa f=>Ak 7 16 Z f aT λa f=>Ak 8 16 Z f aT λa f=>Ak 9 16 Z f aT λa f=>Ak 10 16 Z f aT λa f=>Ak 11 16 Z f aT λa f=>Ak 12 16 Z f aT λa f=>Ak 13 16 Z f aT λa f=>Ak 14 16 Z f aT λa f=>q_p 15 16 Z f (λ_=>AC (f.e Z) aT (f.e Z)) λa f=> ?_
    obtain rfl:=sj aO
    exact aS _ (f.k Z)
 ·rintro a w ⟨aE,rfl,aF,a9,f,m⟩
  have aB:=od1 a9 aB
  refine Ah ?_
  have⟨ba,bb,hd⟩:=bind_some hd
  refine AL (λa w=>∃bc:Int,bc=ba∧∃(bd:GH),GLe aF bd∧Fr a 178 [(0,v0),(1,(iv x1)),(4,(.func (.func 164) #[] #[])),(12,(iv aE)),(13,(iv bc))]∧Mem W bd w (aA::H)) ?_ ?_
  ·refine An ?_
   refine AJ (λbe a w=>∃bf:Int,bf=be∧∃(bg:GH),GLe aF bg∧Fr a 178 [(0,v0),(1,(iv x1)),(4,(.func (.func 164) #[] #[])),(12,(iv aE)),(13,(iv bf))]∧Mem W bg w (aA::H)) bb ⟨_,Z,_,gr,f.k Z,m⟩ ?_
   clear bb f m
   rintro be bh bi bj a w ⟨bf,rfl,bg,bk,f,m⟩
   have aB:=od1 bk aB
   refine Ah (Ah ?_)
   refine Bf 17 AI (by kernel_rfl) m ?_
   refine Ag 0 17 Z f Z λa f=>Ag 1 17 Z f Z λa f=>q_p 2 17 Z f (λ_=>Az (f.e Z) (f.e Z) CO) λa f=>Ag 3 17 Z f Z λa f=> ?_
   have⟨bl,bm,bi⟩:=bind_some bi
   refine BN (fuel':=0) (listed':= #[true,true,true,true,true,true,true,true,true,true,true,true,true,true,true,true,true]) (λa=>Fr a 178 [(0,v0),(1,(iv x1)),(4,(.func (.func 164) #[] #[])),(12,(iv aE)),(13,(iv bf)),(50,(iv aE)),(51,(iv bf)),(52,(.bool (decide (aE≤bf)))),(53,(.bool (decide (aE≤bf)))),(66,(.bool bl))]) ?_ ?_
   ·intro a f
    refine A4 λbn w bo m=>Ab ?_
    rcases Ae bi with⟨bp,bi⟩|⟨bp,bi⟩
    ·refine Am f Z bp ?_
     refine Ao ?_
     refine An (Ap ?_)
     refine Aa f Z λa f=>Ai f Z Z AT λa f=>Ac f Z λa f=>Ab ?_
     obtain rfl:=sj bi
     exact⟨_,Z,_,Z,_,(gt bk bo),f.k Z,m⟩
    ·refine Aj f Z bp ?_
     refine AF Z ?_
     obtain rfl:=sj bi
     obtain rfl:=bj _ rfl
     exact⟨_,Z,_,(gt bk bo),f.k Z,m⟩
   ·intro bq
    rcases Ae bm with⟨br,bm⟩|⟨br,bm⟩
    ·refine Ag (hw:=wo f br) 4 17 Z f Z λa f=> ?_
     refine Ag (hw:=wo f br) 5 17 Z f Z λa f=>Ag (hw:=wo f br) 6 17 Z f Z λa f=> ?_
     have⟨bs,bt,bm⟩:=bind_some bm
     refine AG (hw:=wo f br) 7 17 0 m aB T59 bt Z f Z Z λbu a bv f=>AO (hw:=wo f br) 8 17 0 aB AY bv bt Z f Z λbw a bx f=> ?_
     subst bx
     refine Ag (hw:=wo f br) 9 17 Z f Z λa f=>Ag (hw:=wo f br) 10 17 Z f Z λa f=> ?_
     have⟨bz,bA,bm⟩:=bind_some bm
     refine AG (hw:=wo f br) 11 17 0 m aB T59 bA Z f Z Z λbB a bC f=>AO (hw:=wo f br) 12 17 0 aB AY bC bA Z f Z λbD a bE f=> ?_
     subst bE
     have⟨bF,bG,bm⟩:=bind_some bm
     refine B7 (i:=13) 17 Z (by kernel_rfl) Z f (AS f Z Z Z br) Z Z Z call164 (λ_ _ w bH m=>Wk.a hW m bG) λa f=>q_p (hw:=wo f br) 14 17 Z f (λ_=>Az (f.e Z) (f.e Z) AM) λa f=>q_p (hw:=wo f br) 15 17 Z f (λ_=>Bv (f.e Z)) λa f=>q_p 16 17 Z f (λ_=>AD (f.e Z) br (f.e Z)) λa f=> ?_
     obtain rfl:=sj bm
     exact bq _ (f.k Z)
    ·refine Ak 4 17 Z f br λa f=> ?_
     refine Ak 5 17 Z f br λa f=>Ak 6 17 Z f br λa f=>Ak 7 17 Z f br λa f=>Ak 8 17 Z f br λa f=>Ak 9 17 Z f br λa f=>Ak 10 17 Z f br λa f=>Ak 11 17 Z f br λa f=>Ak 12 17 Z f br λa f=>Ak 13 17 Z f br λa f=>Ak 14 17 Z f br λa f=>Ak 15 17 Z f br λa f=>q_p 16 17 Z f (λ_=>AC (f.e Z) br (f.e Z)) λa f=> ?_
     obtain rfl:=sj bm
     exact bq _ (f.k Z)
  ·rintro a w ⟨bc,rfl,bd,bI,f,m⟩
   have aB:=od1 bI aB
   refine Ah (Af ?_)
   refine Aa f Z λa f=>Aa f Z λa f=>Ai f Z Z CF λa f=>Ab ?_
   rcases Ae hd with⟨bJ,hd⟩|⟨bJ,hd⟩
   ·refine Am f Z bJ ?_
    refine Ah ?_
    refine BW AI m ?_
    refine p_p 2 Z f (λ_=>Bl (f.e Z)) λa f=>p_p 3 Z f (λ_=>Bl (f.e Z)) λa f=>BU 12013 11 (by kernel_rfl) Z ?_
    refine Ag 0 12013 Z f Z λa f=>Ag 1 12013 Z f Z λa f=>Ag 4 12013 Z f Z λa f=>Ag 5 12013 Z f Z λa f=> ?_
    have⟨bK,bL,hd⟩:=bind_some hd
    refine AG 6 12013 0 m aB T59 bL Z f Z Z λbM a bN f=>AO 7 12013 0 aB AY bN bL Z f Z λbO a bP f=> ?_
    subst bP
    refine Ag 8 12013 Z f Z λa f=>Ag 9 12013 Z f Z λa f=> ?_
    have⟨bQ,bR,hd⟩:=bind_some hd
    refine AG 10 12013 0 m aB T59 bR Z f Z Z λbS a bT f=>AO 11 12013 0 aB AY bT bR Z f Z λbU a bV f=> ?_
    subst bV
    have⟨bW,bX,hd⟩:=bind_some hd
    refine AG 12 12013 0 m aB T59 bX Z f Z Z λbY a bZ f=>A4 λb0 w b1 m=> ?_
    have aB:=od1 b1 aB
    refine AH 0 m aB Z sizeOf63 f Z Z bZ bX Z Z Z λb2 w m b3=> ?_
    have⟨b4,b5,hd⟩:=bind_some hd
    refine Bk 0 m b3 Z T59 f Z Z Z b5 λb6 a b7 f=>AH 0 m b3 Z sizeOf63 f Z Z b7 b5 Z Z Z λb8 w m b9=>Ay ?_
    refine Aa f Z λa f=>Ac f Z λa f=>Ac f Z λa f=>Ab ?_
    refine Ar ?_
    obtain rfl:=sj hd
    exact⟨[(iv bc),(.bool true)],⟨f.get _ _ Z,f.get _ _ Z,trivial⟩,f.d,_,[b8],(gt ar (gt a9 (gt bI b1))),m,_,Z,Z,b9⟩
   ·refine Aj f Z bJ ?_
    refine Ao ?_
    refine Ah ?_
    refine BW AI m ?_
    refine p_p 2 Z f (λ_=>Bl (f.e Z)) λa f=>p_p 3 Z f (λ_=>Bl (f.e Z)) λa f=>BU 12013 11 (by kernel_rfl) Z ?_
    refine Ag 0 12013 Z f Z λa f=>Ag 1 12013 Z f Z λa f=>Ag 4 12013 Z f Z λa f=>Ag 5 12013 Z f Z λa f=> ?_
    have⟨ca,cb,hd⟩:=bind_some hd
    refine AG 6 12013 0 m aB T59 cb Z f Z Z λcc a cd f=>AO 7 12013 0 aB AY cd cb Z f Z λce a cf f=> ?_
    subst cf
    refine Ag 8 12013 Z f Z λa f=>Ag 9 12013 Z f Z λa f=> ?_
    have⟨cg,ch,hd⟩:=bind_some hd
    refine AG 10 12013 0 m aB T59 ch Z f Z Z λci a cj f=>AO 11 12013 0 aB AY cj ch Z f Z λck a cl f=> ?_
    subst cl
    have⟨cm,cn,hd⟩:=bind_some hd
    refine AG 12 12013 0 m aB T59 cn Z f Z Z λco a cp f=>A4 λcq w cr m=> ?_
    have aB:=od1 cr aB
    refine AH 0 m aB Z sizeOf63 f Z Z cp cn Z Z Z λcs w m ct=> ?_
    have⟨cu,cv,hd⟩:=bind_some hd
    refine Bk 0 m ct Z T59 f Z Z Z cv λcw a cx f=>AH 0 m ct Z sizeOf63 f Z Z cx cv Z Z Z λcy w m cz=>Ay ?_
    refine Aa f Z λa f=>Ai f Z Z Ax λa f=>Ac f Z λa f=>Ay ?_
    refine Aa f Z λa f=>Ai f Z Z AT λa f=>Ac f Z λa f=>Ab (Ah ?_)
    have⟨cA,cB,hd⟩:=bind_some hd
    refine AL (λa w=>∃cC:LI,∃cD:Int,(cC,cD)=cA∧∃(cE:GH) (cF:Itm),GLe cq cE∧Fr a 178 [(0,v0),(1,(iv x1)),(13,(iv cD))]∧Mem W cE w (cF::H)∧Ow (RI .u32) 63 cE cF v0 cC) ?_ ?_
    ·refine An ?_
     refine AJ (λcG a w=>∃cH:LI,∃cI:Int,∃cJ:Int,(cH,cI,cJ)=cG∧∃(cK:GH) (cL:Itm),GLe cq cK∧Fr a 178 [(0,v0),(1,(iv x1)),(4,(.func (.func 164) #[] #[])),(12,(iv cI)),(13,(iv cJ))]∧Mem W cK w (cL::H)∧Ow (RI .u32) 63 cK cL v0 cH) cB ⟨_,_,_,Z,_,cy,gr,f.k Z,m,cz⟩ ?_
     clear cB f m
     rintro cG cM cN cO a w ⟨cH,cI,cJ,rfl,cK,cL,cP,f,m,cQ⟩
     refine An (Ah ?_)
     have⟨cR,cS,cN⟩:=bind_some cN
     refine AL (λa w=>∃cT:Int,cT=cR∧∃(cU:GH),GLe cK cU∧Fr a 178 [(0,v0),(1,(iv x1)),(4,(.func (.func 164) #[] #[])),(12,(iv cT)),(13,(iv cJ))]∧Mem W cU w (cL::H)) ?_ ?_
     ·refine An ?_
      refine AJ (λcV a w=>∃cW:Int,cW=cV∧∃(cX:GH),GLe cK cX∧Fr a 178 [(0,v0),(1,(iv x1)),(4,(.func (.func 164) #[] #[])),(12,(iv cW)),(13,(iv cJ))]∧Mem W cX w (cL::H)) cS ⟨_,Z,_,gr,f.k Z,m⟩ ?_
      clear cS f m
      rintro cV cY cZ c0 a w ⟨cW,rfl,cX,c1,f,m⟩
      have cQ:=od1 c1 cQ
      refine Ah (Ah ?_)
      refine Bf 16 AI (by kernel_rfl) m ?_
      refine Ag 0 16 Z f Z λa f=>Ag 1 16 Z f Z λa f=>q_p 2 16 Z f (λ_=>Az (f.e Z) (f.e Z) CO) λa f=>Ag 3 16 Z f Z λa f=> ?_
      have⟨c2,c3,cZ⟩:=bind_some cZ
      refine BN (fuel':=0) (listed':= #[true,true,true,true,true,true,true,true,true,true,true,true,true,true,true,true]) (λa=>Fr a 178 [(0,v0),(1,(iv x1)),(4,(.func (.func 164) #[] #[])),(12,(iv cW)),(13,(iv cJ)),(105,(iv cW)),(106,(iv cJ)),(107,(.bool (decide (cW≤cJ)))),(108,(.bool (decide (cW≤cJ)))),(120,(.bool c2))]) ?_ ?_
      ·intro a f
       refine A4 λc4 w c5 m=>Ab ?_
       rcases Ae cZ with⟨c6,cZ⟩|⟨c6,cZ⟩
       ·refine Am f Z c6 ?_
        refine Ao ?_
        refine An (Ap ?_)
        refine Aa f Z λa f=>Ai f Z Z Ax λa f=>Ac f Z λa f=>Ab ?_
        obtain rfl:=sj cZ
        exact⟨_,Z,_,Z,_,(gt c1 c5),f.k Z,m⟩
       ·refine Aj f Z c6 ?_
        refine AF Z ?_
        obtain rfl:=sj cZ
        obtain rfl:=c0 _ rfl
        exact⟨_,Z,_,(gt c1 c5),f.k Z,m⟩
      ·intro c7
       rcases Ae c3 with⟨c8,c3⟩|⟨c8,c3⟩
       ·refine Ag (hw:=wo f c8) 4 16 Z f Z λa f=> ?_
        refine Ag (hw:=wo f c8) 5 16 Z f Z λa f=>Ag (hw:=wo f c8) 6 16 Z f Z λa f=> ?_
        have⟨c9,da,c3⟩:=bind_some c3
        refine AG (hw:=wo f c8) 7 16 0 m cQ T59 da Z f Z Z λdb a dc f=>AO (hw:=wo f c8) 8 16 0 cQ AY dc da Z f Z λdd a de f=> ?_
        subst de
        refine Ag (hw:=wo f c8) 9 16 Z f Z λa f=>Ag (hw:=wo f c8) 10 16 Z f Z λa f=> ?_
        have⟨df,dg,c3⟩:=bind_some c3
        refine AG (hw:=wo f c8) 11 16 0 m cQ T59 dg Z f Z Z λdh a di f=>AO (hw:=wo f c8) 12 16 0 cQ AY di dg Z f Z λdj a dk f=> ?_
        subst dk
        have⟨dl,dm,c3⟩:=bind_some c3
        refine B7 (i:=13) 16 Z (by kernel_rfl) Z f (AS f Z Z Z c8) Z Z Z call164 (λ_ _ w dn m=>Wk.a hW m dm) λa f=>q_p (hw:=wo f c8) 14 16 Z f (λ_=>Az (f.e Z) (f.e Z) AM) λa f=>q_p 15 16 Z f (λ_=>AD (f.e Z) c8 (f.e Z)) λa f=> ?_
        obtain rfl:=sj c3
        exact c7 _ (f.k Z)
       ·refine Ak 4 16 Z f c8 λa f=> ?_
        refine Ak 5 16 Z f c8 λa f=>Ak 6 16 Z f c8 λa f=>Ak 7 16 Z f c8 λa f=>Ak 8 16 Z f c8 λa f=>Ak 9 16 Z f c8 λa f=>Ak 10 16 Z f c8 λa f=>Ak 11 16 Z f c8 λa f=>Ak 12 16 Z f c8 λa f=>Ak 13 16 Z f c8 λa f=>Ak 14 16 Z f c8 λa f=>q_p 15 16 Z f (λ_=>AC (f.e Z) c8 (f.e Z)) λa f=> ?_
        obtain rfl:=sj c3
        exact c7 _ (f.k Z)
     ·rintro a w ⟨cT,rfl,cU,dp,f,m⟩
      have cQ:=od1 dp cQ
      refine Ah ?_
      have⟨dq,dr,cN⟩:=bind_some cN
      refine AL (λa w=>∃ds:Int,ds=dq∧∃(dt:GH),GLe cU dt∧Fr a 178 [(0,v0),(1,(iv x1)),(4,(.func (.func 164) #[] #[])),(12,(iv cT)),(13,(iv ds))]∧Mem W dt w (cL::H)) ?_ ?_
      ·refine An ?_
       refine AJ (λdu a w=>∃dv:Int,dv=du∧∃(dw:GH),GLe cU dw∧Fr a 178 [(0,v0),(1,(iv x1)),(4,(.func (.func 164) #[] #[])),(12,(iv cT)),(13,(iv dv))]∧Mem W dw w (cL::H)) dr ⟨_,Z,_,gr,f.k Z,m⟩ ?_
       clear dr f m
       rintro du dx dy dz a w ⟨dv,rfl,dw,dA,f,m⟩
       have cQ:=od1 dA cQ
       refine Ah (Ah ?_)
       refine Bf 17 AI (by kernel_rfl) m ?_
       refine Ag 0 17 Z f Z λa f=>Ag 1 17 Z f Z λa f=>q_p 2 17 Z f (λ_=>Az (f.e Z) (f.e Z) CO) λa f=>Ag 3 17 Z f Z λa f=> ?_
       have⟨dB,dC,dy⟩:=bind_some dy
       refine BN (fuel':=0) (listed':= #[true,true,true,true,true,true,true,true,true,true,true,true,true,true,true,true,true]) (λa=>Fr a 178 [(0,v0),(1,(iv x1)),(4,(.func (.func 164) #[] #[])),(12,(iv cT)),(13,(iv dv)),(123,(iv cT)),(124,(iv dv)),(125,(.bool (decide (cT≤dv)))),(126,(.bool (decide (cT≤dv)))),(139,(.bool dB))]) ?_ ?_
       ·intro a f
        refine A4 λdD w dE m=>Ab ?_
        rcases Ae dy with⟨dF,dy⟩|⟨dF,dy⟩
        ·refine Am f Z dF ?_
         refine Ao ?_
         refine An (Ap ?_)
         refine Aa f Z λa f=>Ai f Z Z AT λa f=>Ac f Z λa f=>Ab ?_
         obtain rfl:=sj dy
         exact⟨_,Z,_,Z,_,(gt dA dE),f.k Z,m⟩
        ·refine Aj f Z dF ?_
         refine AF Z ?_
         obtain rfl:=sj dy
         obtain rfl:=dz _ rfl
         exact⟨_,Z,_,(gt dA dE),f.k Z,m⟩
       ·intro dG
        rcases Ae dC with⟨dH,dC⟩|⟨dH,dC⟩
        ·refine Ag (hw:=wo f dH) 4 17 Z f Z λa f=> ?_
         refine Ag (hw:=wo f dH) 5 17 Z f Z λa f=>Ag (hw:=wo f dH) 6 17 Z f Z λa f=> ?_
         have⟨dI,dJ,dC⟩:=bind_some dC
         refine AG (hw:=wo f dH) 7 17 0 m cQ T59 dJ Z f Z Z λdK a dL f=>AO (hw:=wo f dH) 8 17 0 cQ AY dL dJ Z f Z λdM a dN f=> ?_
         subst dN
         refine Ag (hw:=wo f dH) 9 17 Z f Z λa f=>Ag (hw:=wo f dH) 10 17 Z f Z λa f=> ?_
         have⟨dO,dP,dC⟩:=bind_some dC
         refine AG (hw:=wo f dH) 11 17 0 m cQ T59 dP Z f Z Z λdQ a dR f=>AO (hw:=wo f dH) 12 17 0 cQ AY dR dP Z f Z λdS a dT f=> ?_
         subst dT
         have⟨dU,dV,dC⟩:=bind_some dC
         refine B7 (i:=13) 17 Z (by kernel_rfl) Z f (AS f Z Z Z dH) Z Z Z call164 (λ_ _ w dW m=>Wk.a hW m dV) λa f=>q_p (hw:=wo f dH) 14 17 Z f (λ_=>Az (f.e Z) (f.e Z) AM) λa f=>q_p (hw:=wo f dH) 15 17 Z f (λ_=>Bv (f.e Z)) λa f=>q_p 16 17 Z f (λ_=>AD (f.e Z) dH (f.e Z)) λa f=> ?_
         obtain rfl:=sj dC
         exact dG _ (f.k Z)
        ·refine Ak 4 17 Z f dH λa f=> ?_
         refine Ak 5 17 Z f dH λa f=>Ak 6 17 Z f dH λa f=>Ak 7 17 Z f dH λa f=>Ak 8 17 Z f dH λa f=>Ak 9 17 Z f dH λa f=>Ak 10 17 Z f dH λa f=>Ak 11 17 Z f dH λa f=>Ak 12 17 Z f dH λa f=>Ak 13 17 Z f dH λa f=>Ak 14 17 Z f dH λa f=>Ak 15 17 Z f dH λa f=>q_p 16 17 Z f (λ_=>AC (f.e Z) dH (f.e Z)) λa f=> ?_
         obtain rfl:=sj dC
         exact dG _ (f.k Z)
      ·rintro a w ⟨ds,rfl,dt,dX,f,m⟩
       have cQ:=od1 dX cQ
       refine Ah (Af ?_)
       refine Aa f Z λa f=>Aa f Z λa f=>Ai f Z Z CF λa f=>Ab ?_
       rcases Ae cN with⟨dY,cN⟩|⟨dY,cN⟩
       ·refine Am f Z dY ?_
        refine AF Z ?_
        obtain rfl:=sj cN
        obtain rfl:=cO _ rfl
        exact⟨_,_,Z,_,cL,(gt cP (gt dp dX)),f.k Z,m,cQ⟩
       ·refine Aj f Z dY ?_
        refine Ao ?_
        refine Ah ?_
        refine BW AI m ?_
        refine p_p 2 Z f (λ_=>Bl (f.e Z)) λa f=>p_p 3 Z f (λ_=>Bl (f.e Z)) λa f=>BU 12013 11 (by kernel_rfl) Z ?_
        refine Ag 0 12013 Z f Z λa f=>Ag 1 12013 Z f Z λa f=>Ag 4 12013 Z f Z λa f=>Ag 5 12013 Z f Z λa f=> ?_
        have⟨dZ,d0,cN⟩:=bind_some cN
        refine AG 6 12013 0 m cQ T59 d0 Z f Z Z λd1 a d2 f=>AO 7 12013 0 cQ AY d2 d0 Z f Z λd3 a d4 f=> ?_
        subst d4
        refine Ag 8 12013 Z f Z λa f=>Ag 9 12013 Z f Z λa f=> ?_
        have⟨d5,d6,cN⟩:=bind_some cN
        refine AG 10 12013 0 m cQ T59 d6 Z f Z Z λd7 a d8 f=>AO 11 12013 0 cQ AY d8 d6 Z f Z λd9 a ea f=> ?_
        subst ea
        have⟨eb,ec,cN⟩:=bind_some cN
        refine AG 12 12013 0 m cQ T59 ec Z f Z Z λed a ee f=>A4 λef w eg m=> ?_
        have cQ:=od1 eg cQ
        refine AH 0 m cQ Z sizeOf63 f Z Z ee ec Z Z Z λeh w m ei=> ?_
        have⟨ej,ek,cN⟩:=bind_some cN
        refine Bk 0 m ei Z T59 f Z Z Z ek λel a em f=>AH 0 m ei Z sizeOf63 f Z Z em ek Z Z Z λen w m eo=>Ay ?_
        refine Aa f Z λa f=>Ai f Z Z Ax λa f=>Ac f Z λa f=>Ab (Ap ?_)
        refine Aa f Z λa f=>Ai f Z Z AT λa f=>Ac f Z λa f=>Ab ?_
        obtain rfl:=sj cN
        exact⟨_,Z,_,_,_,Z,_,en,(gt cP (gt dp (gt dX eg))),f.k Z,m,eo⟩
    ·rintro a w ⟨cC,cD,rfl,cE,cF,ep,f,m,eq⟩
     refine Ah ?_
     refine BW AI m ?_
     refine p_p 2 Z f (λ_=>Bl (f.e Z)) λa f=>p_p 3 Z f (λ_=>Bl (f.e Z)) λa f=>BU 12013 11 (by kernel_rfl) Z ?_
     refine Ag 0 12013 Z f Z λa f=>Ag 1 12013 Z f Z λa f=>Ag 4 12013 Z f Z λa f=>Ag 5 12013 Z f Z λa f=> ?_
     have⟨er,es,hd⟩:=bind_some hd
     refine AG 6 12013 0 m eq T59 es Z f Z Z λet a eu f=>AO 7 12013 0 eq AY eu es Z f Z λev a ew f=> ?_
     subst ew
     refine Ag 8 12013 Z f Z λa f=>Ag 9 12013 Z f Z λa f=> ?_
     have⟨ex,ey,hd⟩:=bind_some hd
     refine AG 10 12013 0 m eq T59 ey Z f Z Z λez a eA f=>AO 11 12013 0 eq AY eA ey Z f Z λeB a eC f=> ?_
     subst eC
     have⟨eD,eE,hd⟩:=bind_some hd
     refine AG 12 12013 0 m eq T59 eE Z f Z Z λeF a eG f=>A4 λeH w eI m=> ?_
     have eq:=od1 eI eq
     refine AH 0 m eq Z sizeOf63 f Z Z eG eE Z Z Z λeJ w m eK=> ?_
     have⟨eL,eM,hd⟩:=bind_some hd
     refine Bk 0 m eK Z T59 f Z Z Z eM λeN a eO f=>AH 0 m eK Z sizeOf63 f Z Z eO eM Z Z Z λeP w m eQ=>Ay ?_
     refine Aa f Z λa f=>Ac f Z λa f=>Ac f Z λa f=>Ab ?_
     refine Ar ?_
     obtain rfl:=sj hd
     exact⟨[(iv cD),(.bool false)],⟨f.get _ _ Z,f.get _ _ Z,trivial⟩,f.d,_,[eP],(gt ar (gt a9 (gt bI (gt cr (gt ep eI))))),m,_,Z,Z,eQ⟩
theorem Wk.L {W:World}(hW:Bw W)(n:Nat):∀{w:World} {G:GH} {H:List Itm} {v0:Value} {it0:Itm} {x0:LI} {x1 x2 x3:Int} (m:Mem W G w (it0::H)) (o0:Ow (RI .u32) 63 G it0 v0 x0) {y:(LI)} (hd:D.L n x0 x1 x2 x3=some y),
  Calls prog 178 #[v0,(iv x1),(iv x2),(iv x3),(.func (.func 164) #[] #[])] w (Res W G H (λG' Ho _=>∃i0:Itm,Ho=[i0]∧Ow (RI .u32) 63 G' i0 v0 y)):=by
 induction n with
 |zero=>intros;rename_i hd;simp[D.L] at hd
 |succ fuel ih=>
  intro w G H v0 it0 x0 x1 x2 x3 m o0 y hd
  refine As (args:=[v0,(iv x1),(iv x2),(iv x3),(.func (.func 164) #[] #[])]) (N:=148) [] func178 Z Z (lb Z) Z λa f=> ?_
  unfold D.L at hd
  refine Af ?_
  refine Ac f Z λa f=>Ay ?_
  refine Ac f Z λa f=>Ab ?_
  have⟨aa,ab,hd⟩:=bind_some hd
  refine An ?_
  refine AJ (λac a w=>∃ad:LI,∃ae:Int,∃af:Int,∃ag:Int,∃ah:Bool,∃ai:Bool,(ad,ae,af,ag,ah,ai)=ac∧∃(aj:GH) (ak:Itm),GLe G aj∧Fr a 148 [(0,v0),(1,(iv ae)),(2,(iv af)),(3,(iv ag)),(4,(.func (.func 164) #[] #[])),(10,(.bool ah)),(11,(.bool ai))]∧Mem W aj w (ak::H)∧Ow (RI .u32) 63 aj ak v0 ad) ab ⟨_,_,_,_,_,_,Z,_,it0,gr,f.k Z,m,o0⟩ ?_
  clear ab f m
  rintro ac al am an a w ⟨ad,ae,af,ag,ah,ai,rfl,aj,ak,ao,f,m,ap⟩
  refine An (Af ?_)
  refine Aa f Z λa f=>Aa f Z λa f=>Ai f Z Z AT λa f=>Ac f Z λa f=>Ab (Ah (Af ?_))
  refine Aa f Z λa f=>Ai f Z Z CO λa f=>Ab ?_
  rcases Ae am with⟨aq,am⟩|⟨aq,am⟩
  ·refine Am f Z aq ?_
   refine Af ?_
   refine Aa f Z λa f=>Aa f Z λa f=>Aa f Z λa f=>Aa f Z λa f=> ?_
   have⟨ar,au,am⟩:=bind_some am
   refine AK f Z call194 (Wk.K0 hW m ap au) λav aw ax w ay m az a f=> ?_
   obtain⟨aA,rfl,aB⟩:=az
   refine Ab ?_
   refine Ar ?_
   obtain rfl:=sj am
   obtain rfl:=an _ rfl
   obtain rfl:=sj hd
   exact⟨[],trivial,f.d,_,[aA],(gt ao ay),m,_,Z,aB⟩
  ·refine Aj f Z aq ?_
   refine Ao ?_
   refine Ah (Af ?_)
   refine Aa f Z λa f=>Ai f Z Z BE λa f=>Ab ?_
   rcases Ae am with⟨aC,am⟩|⟨aC,am⟩
   ·refine Am f Z aC ?_
    refine Af ?_
    refine Aa f Z λa f=>Aa f Z λa f=>Aa f Z λa f=>Aa f Z λa f=> ?_
    have⟨aD,aE,am⟩:=bind_some am
    refine AK f Z call195 (Wk.T0 hW m ap aE) λaF aG aH w aI m aJ a f=> ?_
    obtain⟨aK,rfl,aL⟩:=aJ
    refine Ab ?_
    refine Ar ?_
    obtain rfl:=sj am
    obtain rfl:=an _ rfl
    obtain rfl:=sj hd
    exact⟨[],trivial,f.d,_,[aK],(gt ao aI),m,_,Z,aL⟩
   ·refine Aj f Z aC ?_
    refine Ao ?_
    refine Ah (Af ?_)
    refine Aa f Z λa f=>l_o f (Bv (f.e Z)) λa f=>Ab ?_
    have⟨aM,aN,am⟩:=bind_some am
    refine AL (λa w=>∃aO:LI,∃aP:Int,(aO,aP)=aM∧∃(aQ:GH) (aR:Itm),GLe aj aQ∧Fr a 148 [(0,v0),(1,(iv ae)),(2,(iv af)),(3,(iv aP)),(4,(.func (.func 164) #[] #[])),(10,(.bool ah)),(11,(.bool ai)),(12,(iv (i64.wrap (af-ae))))]∧Mem W aQ w (aR::H)∧Ow (RI .u32) 63 aQ aR v0 aO) ?_ ?_
    ·rcases Ae aN with⟨aS,aN⟩|⟨aS,aN⟩
     ·refine Am f Z aS ?_
      refine Af ?_
      refine Aa f Z λa f=>Aa f Z λa f=>Aa f Z λa f=>Aa f Z λa f=> ?_
      have⟨aT,aU,aN⟩:=bind_some aN
      refine AK f Z call196 (Wk.W0 m ap aU) λaV aW aX w aY m aZ a f=> ?_
      obtain⟨a0,rfl,a1⟩:=aZ
      refine Ab (Ap ?_)
      refine Aa f Z λa f=>Ai f Z Z AT λa f=>Ac f Z λa f=>Ab ?_
      obtain rfl:=sj aN
      exact⟨_,_,Z,_,a0,aY,f.k Z,m,a1⟩
     ·refine Aj f Z aS ?_
      refine Ao ?_
      obtain rfl:=sj aN
      exact⟨_,_,Z,_,ak,gr,f.k Z,m,ap⟩
    ·rintro a w ⟨aO,aP,rfl,aQ,aR,a2,f,m,a3⟩
     refine Af ?_
     refine Aa f Z λa f=>Aa f Z λa f=>Aa f Z λa f=>Aa f Z λa f=> ?_
     have⟨a4,a5,am⟩:=bind_some am
     refine AK f Z call197 (Wk.S0 hW m a3 a5) λa6 a7 a8 w a9 m ba a f=> ?_
     obtain⟨bb,rfl,rfl,bc⟩:=ba
     refine Aa f Z λa f=>l_o f (Bg (f.e Z) Z) λa f=>l_o f (Bg (f.e Z) Z) λa f=>Ac f Z λa f=>Ac f Z λa f=>Ab (Ah (Af ?_))
     refine Aa f Z λa f=>Ai f Z Z BE λa f=>Ab ?_
     have⟨bd,be,am⟩:=bind_some am
     refine AL (λa w=>∃bf:LI,∃bg:Int,∃bh:Int,(bf,bg,bh)=bd∧∃(bi:GH) (bj:Itm),GLe a7 bi∧Fr a 148 [(0,v0),(1,(iv ae)),(2,(iv af)),(3,(iv aP)),(4,(.func (.func 164) #[] #[])),(10,(.bool ah)),(11,(.bool ai)),(12,(iv (i64.wrap (af-ae)))),(13,(iv bg)),(14,(iv bh))]∧Mem W bi w (bj::H)∧Ow (RI .u32) 63 bi bj v0 bf) ?_ ?_
     ·rcases Ae be with⟨bk,be⟩|⟨bk,be⟩
      ·refine Am f Z bk ?_
       refine Af ?_
       refine Aa f Z λa f=>Aa f Z λa f=>Aa f Z λa f=>Aa f Z λa f=> ?_
       have⟨bl,bm,be⟩:=bind_some be
       refine AK f Z call198 (Wk.Q0 m bc bm) λbn bo bp w bq m br a f=> ?_
       obtain⟨bs,rfl,bt⟩:=br
       refine Ay ?_
       refine Aa f Z λa f=>Ai f Z Z AT λa f=>Aa f Z λa f=>Aa f Z λa f=>Ai f Z Z AT λa f=>Ai f Z Z AT λa f=>Ac f Z λa f=>Ab (Ap ?_)
       refine Ac f Z λa f=>Ab ?_
       obtain rfl:=sj be
       exact⟨_,_,_,Z,_,bs,bq,f.k Z,m,bt⟩
      ·refine Aj f Z bk ?_
       refine Ao ?_
       obtain rfl:=sj be
       exact⟨_,_,_,Z,_,bb,gr,f.k Z,m,bc⟩
     ·rintro a w ⟨bf,bg,bh,rfl,bi,bj,bu,f,m,bv⟩
      refine Ah (Af ?_)
      refine Aa f Z λa f=>Aa f Z λa f=> ?_
      refine Bu 2 (λa w=>∃bw,GLe bi bw∧Mem W bw w (bj::H)∧Fr a 148 [(0,v0),(1,(iv ae)),(2,(iv af)),(3,(iv aP)),(4,(.func (.func 164) #[] #[])),(10,(.bool ah)),(11,(.bool ai)),(12,(iv (i64.wrap (af-ae)))),(13,(iv bg)),(14,(iv bh)),(68,(.bool ah)),(69,(.bool ah)),(71,(.bool (ah&&ai)))]) ?_ ?_
      ·rcases Bool.eq_false_or_eq_true ah with bx|bx
       ·refine Au f bx ?_
        refine Aa f Z λa f=>l_o f (AD (f.e Z) bx (f.e Z)) λa f=> ?_
        exact⟨_,gr,m,f.weak ⟨Z,Z,Z,Z,Z,Z,Z,Z,Z,Z,Z,Z,by rw[bx];rfl,trivial⟩⟩
       ·refine Aw f bx λa f=> ?_
        refine l_o f (AC (f.e Z) bx (f.e Z)) λa f=> ?_
        exact⟨_,gr,m,f.weak ⟨Z,Z,Z,Z,Z,Z,Z,Z,Z,Z,Z,Z,by rw[bx];rfl,trivial⟩⟩
      ·rintro a w ⟨bw,bz,m,f⟩
       have bv:=od1 bz bv
       refine Aa f Z λa f=> ?_
       refine Bu 3 (λa w=>∃bA,GLe bw bA∧Mem W bA w (bj::H)∧Fr a 148 [(0,v0),(1,(iv ae)),(2,(iv af)),(3,(iv aP)),(4,(.func (.func 164) #[] #[])),(10,(.bool ah)),(11,(.bool ai)),(12,(iv (i64.wrap (af-ae)))),(13,(iv bg)),(14,(iv bh)),(68,(.bool ah)),(69,(.bool ah)),(71,(.bool (ah&&ai))),(72,(.bool (ah&&ai))),(75,(.bool ((ah&&ai)&&(bh==1))))]) ?_ ?_
       ·rcases Bool.eq_false_or_eq_true (ah&&ai) with bB|bB
        ·refine Au f bB ?_
         refine Aa f Z λa f=>Au f bB ?_
         refine Ai f Z Z BE λa f=>l_o f (AD (f.e Z) bB (f.e Z)) λa f=> ?_
         exact⟨_,gr,m,f.weak ⟨Z,Z,Z,Z,Z,Z,Z,Z,Z,Z,Z,Z,Z,Z,by rw[bB];rfl,trivial⟩⟩
        ·refine Aw f bB λa f=> ?_
         refine Aw f bB λa f=>l_o f (AC (f.e Z) bB (f.e Z)) λa f=> ?_
         exact⟨_,gr,m,f.weak ⟨Z,Z,Z,Z,Z,Z,Z,Z,Z,Z,Z,Z,Z,Z,by rw[bB];rfl,trivial⟩⟩
       ·rintro a w ⟨bA,bC,m,f⟩
        have bv:=od1 bC bv
        refine Ab ?_
        have⟨bD,bE,am⟩:=bind_some am
        refine AL (λa w=>∃j_513':LI,bD= .inl j_513'∧∃bF:LI,bF=j_513'∧∃(bG:GH) (bH:Itm),GLe bA bG∧Fr a 148 [(0,v0),(1,(iv ae)),(2,(iv af)),(3,(iv aP)),(4,(.func (.func 164) #[] #[])),(10,(.bool ah)),(11,(.bool ai)),(12,(iv (i64.wrap (af-ae)))),(13,(iv bg))]∧Mem W bG w (bH::H)∧Ow (RI .u32) 63 bG bH v0 bF) ?_ ?_
        ·rcases Ae bE with⟨bI,bE⟩|⟨bI,bE⟩
         ·refine Am f Z bI ?_
          refine Af ?_
          refine Aa f Z λa f=>Aa f Z λa f=>Aa f Z λa f=>Aa f Z λa f=> ?_
          have⟨bJ,bK,bE⟩:=bind_some bE
          refine AK f Z call199 (Wk.L0 hW m bv bK) λbL bM bN w bO m bP a f=> ?_
          obtain⟨bQ,rfl,rfl,bR⟩:=bP
          refine Ab ?_
          rcases Ae bE with⟨bS,bE⟩|⟨bS,bE⟩
          ·refine Am f Z bS ?_
           refine Ar ?_
           obtain rfl:=sj bE
           obtain rfl:=sj am
           obtain rfl:=an _ rfl
           obtain rfl:=sj hd
           exact⟨[],trivial,f.d,_,[bQ],(gt ao (gt a2 (gt a9 (gt bu (gt bz (gt bC bO)))))),m,_,Z,bR⟩
          ·refine Aj f Z bS ?_
           refine Ao ?_
           obtain rfl:=sj bE
           exact⟨_,Z,_,Z,_,bQ,bO,f.k Z,m,bR⟩
         ·refine Aj f Z bI ?_
          refine Ao ?_
          obtain rfl:=sj bE
          exact⟨_,Z,_,Z,_,bj,gr,f.k Z,m,bv⟩
        ·rintro a w ⟨_,rfl,bF,rfl,bG,bH,bT,f,m,bU⟩
         refine Ah (Ah ?_)
         refine Bf 17 AI (by kernel_rfl) m ?_
         refine Ag 0 17 Z f Z λa f=>q_p 1 17 Z f (λ_=>Az (f.e Z) (f.e Z) CF) λa f=>Ag 2 17 Z f Z λa f=> ?_
         have⟨bV,bW,am⟩:=bind_some am
         refine BN (fuel':=0) (listed':= #[true,true,true,true,true,true,true,true,true,true,true,true,true,true,true,true,true]) (λa=>Fr a 148 [(0,v0),(1,(iv ae)),(2,(iv af)),(3,(iv aP)),(4,(.func (.func 164) #[] #[])),(10,(.bool ah)),(11,(.bool ai)),(12,(iv (i64.wrap (af-ae)))),(13,(iv bg)),(81,(iv ae)),(82,(.bool (decide ((0:Int)<ae)))),(83,(.bool (decide ((0:Int)<ae)))),(97,(.bool bV))]) ?_ ?_
         ·intro a f
          refine A4 λbX w bY m=> ?_
          have bU:=od1 bY bU
          refine Ab ?_
          rcases Ae am with⟨bZ,am⟩|⟨bZ,am⟩
          ·refine Am f Z bZ ?_
           refine Af ?_
           refine Aa f Z λa f=>Aa f Z λa f=>Aa f Z λa f=>Aa f Z λa f=>Aa f Z λa f=> ?_
           have⟨b0,b1,am⟩:=bind_some am
           refine AK f Z call200 (Wk.M0 hW m bU b1) λb2 b3 b4 w b5 m b6 a f=> ?_
           obtain⟨b7,rfl,rfl,b8⟩:=b6
           refine Ac f Z λa f=>Ay ?_
           refine Aa f Z λa f=>Ac f Z λa f=>Ab ?_
           refine AF Z ?_
           obtain rfl:=sj am
           exact⟨_,Z,_,_,_,_,_,_,Z,_,b7,(gt ao (gt a2 (gt a9 (gt bu (gt bz (gt bC (gt bT (gt bY b5)))))))),f.k Z,m,b8⟩
          ·refine Aj f Z bZ ?_
           refine Ao ?_
           refine Af ?_
           refine Aa f Z λa f=>Aa f Z λa f=>Aa f Z λa f=>Aa f Z λa f=>Aa f Z λa f=> ?_
           have⟨b9,ca,am⟩:=bind_some am
           refine AK f Z call201 (Wk.P0 hW m bU ca) λcb cc cd w ce m cf a f=> ?_
           obtain⟨cg,rfl,rfl,ch⟩:=cf
           refine Aa f Z λa f=>l_o f (Bg (f.e Z) Z) λa f=>l_o f (Bg (f.e Z) Z) λa f=>Ac f Z λa f=>Ac f Z λa f=>Ay ?_
           refine Aa f Z λa f=>Ac f Z λa f=>Ay ?_
           refine Aa f Z λa f=>Aa f Z λa f=>Ai f Z Z AT λa f=>Aa f Z λa f=>Aa f Z λa f=>Ai f Z Z AT λa f=>Ac f Z λa f=>Ac f Z λa f=>Ay ?_
           refine Aa f Z λa f=>Ai f Z Z (D4 Z) λa f=>Ac f Z λa f=>Ay ?_
           refine Aa f Z λa f=>Aa f Z λa f=>Ai f Z Z AM λa f=>Ab ?_
           rcases Ae am with⟨ci,am⟩|⟨ci,am⟩
           ·refine Am f Z ci ?_
            refine Af ?_
            refine Aa f Z λa f=>Aa f Z λa f=>Ai f Z Z Cm λa f=>Ac f Z λa f=>Ay ?_
            refine Aa f Z λa f=>Aa f Z λa f=>Aa f Z λa f=>Aa f Z λa f=>Aa f Z λa f=> ?_
            have⟨cj,ck,am⟩:=bind_some am
            refine AK f Z call178 (ih m ch ck) λcl cm cn w co m cp a f=> ?_
            obtain⟨cq,rfl,cr⟩:=cp
            refine Ab (Ap ?_)
            refine Aa f Z λa f=>Ai f Z Z Ax λa f=>Ac f Z λa f=>Ab ?_
            obtain rfl:=sj am
            exact⟨_,Z,_,_,_,_,_,_,Z,_,cq,(gt ao (gt a2 (gt a9 (gt bu (gt bz (gt bC (gt bT (gt bY (gt ce co))))))))),f.k Z,m,cr⟩
           ·refine Aj f Z ci ?_
            refine Af ?_
            refine Aa f Z λa f=>Aa f Z λa f=>Ai f Z Z Cm λa f=>Ac f Z λa f=>Ay ?_
            refine Aa f Z λa f=>Aa f Z λa f=>Ai f Z Z Ax λa f=>Aa f Z λa f=>Aa f Z λa f=>Aa f Z λa f=> ?_
            have⟨cs,ct,am⟩:=bind_some am
            refine AK f Z call178 (ih m ch ct) λcu cv cw w cx m cy a f=> ?_
            obtain⟨cz,rfl,cA⟩:=cy
            refine Ab (Ap ?_)
            refine Aa f Z λa f=>Ac f Z λa f=>Ab ?_
            obtain rfl:=sj am
            exact⟨_,Z,_,_,_,_,_,_,Z,_,cz,(gt ao (gt a2 (gt a9 (gt bu (gt bz (gt bC (gt bT (gt bY (gt ce cx))))))))),f.k Z,m,cA⟩
         ·intro cB
          rcases Ae bW with⟨cC,bW⟩|⟨cC,bW⟩
          ·refine Ag (hw:=wo f cC) 3 17 Z f Z λa f=> ?_
           refine Ag (hw:=wo f cC) 4 17 Z f Z λa f=>Ag (hw:=wo f cC) 5 17 Z f Z λa f=>q_p (hw:=wo f cC) 6 17 Z f (λ_=>Az (f.e Z) (f.e Z) AT) λa f=> ?_
           have⟨cD,cE,bW⟩:=bind_some bW
           refine AG (hw:=wo f cC) 7 17 0 m bU T59 cE Z f Z Z λcF a cG f=>AO (hw:=wo f cC) 8 17 0 bU AY cG cE Z f Z λcH a cI f=> ?_
           subst cI
           refine Ag (hw:=wo f cC) 9 17 Z f Z λa f=>Ag (hw:=wo f cC) 10 17 Z f Z λa f=> ?_
           have⟨cJ,cK,bW⟩:=bind_some bW
           refine AG (hw:=wo f cC) 11 17 0 m bU T59 cK Z f Z Z λcL a cM f=>AO (hw:=wo f cC) 12 17 0 bU AY cM cK Z f Z λcN a cO f=> ?_
           subst cO
           have⟨cP,cQ,bW⟩:=bind_some bW
           refine B7 (i:=13) 17 Z (by kernel_rfl) Z f (AS f Z Z Z cC) Z Z Z call164 (λ_ _ w cR m=>Wk.a hW m cQ) λa f=>q_p (hw:=wo f cC) 14 17 Z f (λ_=>Az (f.e Z) (f.e Z) AM) λa f=>q_p (hw:=wo f cC) 15 17 Z f (λ_=>Bv (f.e Z)) λa f=>q_p 16 17 Z f (λ_=>AD (f.e Z) cC (f.e Z)) λa f=> ?_
           obtain rfl:=sj bW
           exact cB _ (f.k Z)
          ·refine Ak 3 17 Z f cC λa f=> ?_
           refine Ak 4 17 Z f cC λa f=>Ak 5 17 Z f cC λa f=>Ak 6 17 Z f cC λa f=>Ak 7 17 Z f cC λa f=>Ak 8 17 Z f cC λa f=>Ak 9 17 Z f cC λa f=>Ak 10 17 Z f cC λa f=>Ak 11 17 Z f cC λa f=>Ak 12 17 Z f cC λa f=>Ak 13 17 Z f cC λa f=>Ak 14 17 Z f cC λa f=>Ak 15 17 Z f cC λa f=>q_p 16 17 Z f (λ_=>AC (f.e Z) cC (f.e Z)) λa f=> ?_
           obtain rfl:=sj bW
           exact cB _ (f.k Z)
theorem Wk.j {v0:Value}{it0:Itm}{x0:LI}{x1 x2 x3:Int}(hW:Bw W)(m:Mem W G w (it0::H))(o0:Ow (RI .u32) 63 G it0 v0 x0){y:(LI)}(hd:D.j x0 x1 x2 x3=some y):
  Calls prog 178 #[v0,(iv x1),(iv x2),(iv x3),(.func (.func 164) #[] #[])] w (Res W G H (λG' Ho _=>∃i0:Itm,Ho=[i0]∧Ow (RI .u32) 63 G' i0 v0 y)):=by
 exact Wk.L hW Bq m o0 hd
theorem Wk.u0 {v0:Value}{it0:Itm}{x0:LI}(hW:Bw W)(m:Mem W G w (it0::H))(o0:Ow (RI .u32) 63 G it0 v0 x0){y:(LI)}(hd:D.u0 x0=some y):
  Calls prog 163 #[v0,(.func (.func 164) #[] #[])] w (Res W G H (λG' Ho _=>∃i0:Itm,Ho=[i0]∧Ow (RI .u32) 63 G' i0 v0 y)):=by
 refine As (args:=[v0,(.func (.func 164) #[] #[])]) (N:=14) [] func163 Z Z (lb Z) Z λa f=> ?_
 unfold D.u0 at hd
 refine Af ?_
 refine Aa f Z λa f=>Cf 0 m o0 Z underlying59 f Z Z λa f=>Ac f Z λa f=>Ab (Ap ?_)
 refine Aa f Z λa f=>Aa f Z λa f=>Aa f Z λa f=>l_o f (CX (f.e Z) ⟨_,underlying3⟩ underlying111) λa f=> ?_
 have⟨aa,ab,hd⟩:=bind_some hd
 refine AK f Z call161 (Wk.J m ab) λac ad ae w af m ag a f=> ?_
 obtain⟨rfl,rfl⟩:=ag
 have o0:=od1 af o0
 refine Aa f Z λa f=> ?_
 have⟨ah,ai,hd⟩:=bind_some hd
 refine AK f Z call178 (Wk.j hW m o0 ai) λaj ak al w am m an a f=> ?_
 obtain⟨ao,rfl,ap⟩:=an
 refine Ab ?_
 obtain rfl:=sj hd
 exact⟨[],trivial,f.d,_,[ao],(gt af am),m,_,Z,ap⟩
theorem Wk.E {v0:Value}{x0:LI}(hW:Bw W)(m:Mem W G w (H))(h0:RSl (RI .u32) G v0 x0){y:(LI)}(hd:D.E x0=some y):
  Calls prog 151 #[v0] w (Res W G H (λG' Ho v=>∃r0:Value,∃i0:Itm,Ho=[i0]∧r0=v∧Ow (RI .u32) 63 G' i0 r0 y)):=by
 refine As (args:=[v0]) (N:=11) [.tmp 2] func151 Z Z (lb Z) Z λa f=> ?_
 unfold D.E at hd
 refine Af ?_
 refine Ac f Z λa f=>Ay ?_
 refine Aa f Z λa f=>Aa f Z λa f=> ?_
 have⟨aa,ab,hd⟩:=bind_some hd
 refine Ba f Z call69 (Wk.p m h0 ab) λac w ad m a f=> ?_
 have h0:=rd1 ad h0
 obtain⟨ae,m,af⟩:=Ow.nil (RI .u32) 63 m
 have⟨ag,ah,hd⟩:=bind_some hd
 refine AK f Z call162 (Wk.m hW m h0 af ah) λai aj ak w al m am a f=> ?_
 obtain⟨an,ao,rfl,rfl,ap⟩:=am
 refine Ac f Z λa f=>Ay ?_
 refine Aa f Z λa f=> ?_
 have⟨aq,ar,hd⟩:=bind_some hd
 refine AK f Z call163 (Wk.u0 hW m ap ar) λau av aw w ax m ay a f=> ?_
 obtain⟨az,rfl,aA⟩:=ay
 refine Ay ?_
 refine Aa f Z λa f=>Ac f Z λa f=>Ab ?_
 refine Ar ?_
 obtain rfl:=sj hd
 exact⟨[an],f.g Z,f.d,_,[az],(gt ad (gt al ax)),m,_,_,Z,Z,aA⟩
end Go.Proofs.YtmkcbhidbdggiaaDoor

namespace Go.Sx
def OwMp {β:Type}(q:IntKind)(enc:β→Value)(it:Itm)(v:Value)(M:List (Int×β)):Prop:=
 ∃(b:Nat) (es:Array MapEntry) (clock:Nat),it= .obj b (.map es clock)∧v= .map (some b)∧es.toList.map (λe=>(e.key,e.val))=M.map (λkv=>(Value.int q kv.1,enc kv.2))
theorem find_now {β:Type}{q:IntKind}{enc:β→Value}(x:Int):∀(es:List MapEntry) (M:List (Int×β)) (i:Nat),es.map (λe=>(e.key,e.val))=M.map (λkv=>(Value.int q kv.1,enc kv.2))→
  (Instr.findNow (.int q) (.int q x) es i=some none∧∀kv∈M,kv.1≠x)∨∃j kv,Instr.findNow (.int q) (.int q x) es i=some (some (i+j,enc kv.2))∧M[j]? =some kv∧kv.1=x
 |[],M,i,h=>by
  have:M=[]:=by simpa using h.symm
  subst this
  exact .inl ⟨rfl,by simp⟩
 |e::es,[],i,h=>by simp at h
 |e::es,kv::M,i,h=>by
  simp only[List.map_cons,List.cons.injEq,Prod.mk.injEq] at h
  obtain⟨⟨h1,h2⟩,h3⟩:=h
  unfold Instr.findNow
  rw[h1]
  simp only[Instr.sameNow,if_true]
  by_cases hx:x=kv.1
  ·rw[show (x==kv.1)=true by simp[hx]]
   exact .inr ⟨0,kv,by simp[h2],rfl,hx.symm⟩
  ·rw[show (x==kv.1)=false by simp[hx]]
   rcases find_now x es M (i+1) h3 with⟨h4,h5⟩|⟨j,kv',h4,h5,h6⟩
   ·refine .inl ⟨h4,λz hz=> ?_⟩
    rcases List.mem_cons.1 hz with rfl|hz
    ·exact λe=>hx e.symm
    ·exact h5 z hz
   ·exact .inr ⟨j+1,kv',by simp only[h4];congr 3;omega,by simpa using h5,h6⟩
section
variable {P : Program} {ρ : Operand → Value} {w : World} {d : Option Tmp} {t : TypeId} {pos : String} {af : Array Edge} {gd : Option (Nat × Bool)}
theorem EE {q:IntKind}{kt:TypeId}(hk:P.underlying kt=some (.int q)){k:Value}{es:List MapEntry}{o:Option (Nat×Value)}(h:Instr.findNow (.int q) k es 0=some o):(Instr.findKey kt k es).run P w= .ok o w:=by
 simp[Instr.findKey,run_underlying hk,h]
theorem D5 {q:IntKind}{kt:TypeId}(hk:P.underlying kt=some (.int q))(e:Bool)(x:Int):(Instr.checkKey e 10000 kt (.int q x)).run P w= .ok () w:=by
 unfold Instr.checkKey
 simp[run_underlying hk]
theorem run_map {b:Nat}{es:Array MapEntry}{clock:Nat}(h:w.heap[b]? =some (.map es clock)):(getObj b).run P w= .ok (.map es clock) w:=by
 simp[getObj,Sem.run,h]
theorem run_setMap {b:Nat}{es:Array MapEntry}{clock:Nat}{o':Obj}(h:w.heap[b]? =some (.map es clock)):(setObj b o').run P w= .ok () {w with heap:=w.heap.setIfInBounds b o'}:=by
 simp[setObj,Sem.run,h]
theorem run_stays (q:IntKind)(x:Int):(Instr.keyThatStays (.int q x) (.int q x)).run P w= .ok (.int q x) w:=by
 have e:Instr.sameBits 10000 (.int q x) (.int q x)=true:=by simp[Instr.sameBits]
 unfold Instr.keyThatStays
 rw[e];rfl
theorem r_lookup {xo ko:Operand}{mt kt et:TypeId}{q:IntKind}{b:Nat}{es:Array MapEntry}{clock:Nat}{x:Int}{z:Value}{o:Option (Nat×Value)}{ok:Bool}(hx:ρ xo= .map (some b))(hk:ρ ko= .int q x)
  (ht:P.underlying mt=some (.map kt et)) (hq:P.underlying kt=some (.int q)) (hz:∀w,(zeroValue et).run P w= .ok z w) (hg:w.heap[b]? =some (.map es clock)) (ho:Instr.findNow (.int q) (.int q x) es.toList 0=some o):
  (execOp ρ ⟨d,.lookup mt xo ko ok,t,pos,af,gd⟩).run P w= .ok (.value (if ok then .tuple #[(o.map (·.2)).getD z,.bool o.isSome] else(o.map (·.2)).getD z)) w:=by
 cases o with
 |none=>simp[execOp,hx,hk,Instr.lookup,run_underlying ht,run_map hg,D5 hq,EE hq ho,hz w]
 |some p=>obtain⟨i,v⟩:=p;simp[execOp,hx,hk,Instr.lookup,run_underlying ht,run_map hg,D5 hq,EE hq ho]
theorem r_makeMap {mt:TypeId}:(execOp ρ ⟨d,.makeMap mt none,t,pos,af,gd⟩).run P w= .ok (.value (.map (some w.heap.size))) (w.alloc (.map #[] 0)):=by
 simp[execOp,Instr.makeMap]
theorem Fe {mo ko vo:Operand}{mt kt et:TypeId}{q:IntKind}{b:Nat}{es:Array MapEntry}{clock:Nat}{x:Int}{y:Value}{o:Option (Nat×Value)}(hm:ρ mo= .map (some b))(hk:ρ ko= .int q x)(hv:ρ vo=y)
  (ht:P.underlying mt=some (.map kt et)) (hq:P.underlying kt=some (.int q)) (hg:w.heap[b]? =some (.map es clock)) (ho:Instr.findNow (.int q) (.int q x) es.toList 0=some o) (hkey:∀j v,o=some (j,v)→(es[j]?).map (·.key)=some (.int q x)):
  (execOp ρ ⟨d,.mapUpdate mt mo ko vo,t,pos,af,gd⟩).run P w= .ok .skip {w with heap:=w.heap.setIfInBounds b (match o with|some (j,_)=> .map (es.modify j λe=>{e with key:= .int q x,val:=y}) clock|none=> .map (es.push {key:= .int q x,val:=y,born:=clock}) (clock+1))}:=by
 cases o with
 |none=>simp[execOp,hm,hk,hv,Instr.mapUpdate,run_underlying ht,run_map hg,D5 hq,EE hq ho,run_setMap hg]
 |some p=>
  obtain⟨j,v⟩:=p
  have h1:=hkey j v rfl
  have h2:((es[j]?).map (·.key)).getD (.int q x)= .int q x:=by rw[h1];rfl
  simp only[execOp,hm,hk,hv,Instr.mapUpdate]
  simp[run_underlying ht,run_map hg,D5 hq,EE hq ho,h2,run_stays,run_setMap hg]
end
section
variable {P : Program} {ops : Array Oper} {rest : List Oper} {n r : AV} {x : List (Nat × AV)} {a : Act} {w : World} {N : Nat} {L : A9}
variable {W : World} {G : GH} {H : List Itm}
variable {d : Nat} {t : TypeId} {pos : String} {af : Array Edge}
theorem l_makeMap {β:Type}(q:IntKind)(enc:β→Value){mt:TypeId}(m:Mem W G w H)(f:Fr a N L)(hN:Nat.blt d N=true)
  (k:∀it v w' a',Mem W G w' (it::H)→OwMp q enc it v []→Fr a' N ((d,v)::L)→wpList P ops (Qk n x r) rest a' w'):
  wpList P ops (Qk n x r) (⟨some d,.makeMap mt none,t,pos,af,none⟩::rest) a w:=
 B4 f rfl rfl hN r_makeMap (λa' f'=>k (.obj w.heap.size (.map #[] 0)) _ _ a' (m.add rfl rfl rfl (λy hy=>by first|exact heap_alloc_old w _ y hy|exact heap_alloc_old w _ hy) (heap_alloc_new w _) (λy hy=>by simp[Itm.foot] at hy;omega)) ⟨_,_,_,rfl,rfl,rfl⟩ f')
theorem l_lookup {β:Type}{q:IntKind}{enc:β→Value}{it:Itm}{v z:Value}{M:List (Int×β)}{mt kt et:TypeId}{xo ko:Operand}{i:Int}(j:Nat)(m:Mem W G w H)(h:OwMp q enc it v M)(hj:H[j]? =some it)
  (ht:P.underlying mt=some (.map kt et)) (hq:P.underlying kt=some (.int q)) (hz:∀w,(zeroValue et).run P w= .ok z w) (f:Fr a N L) (hN:Nat.blt d N=true) (hx:AN L xo=some v) (hk:AN L ko=some (.int q i))
  (k:∀(o:Option β),(∀y,o=some y→(i,y)∈M)→∀a',Fr a' N ((d,(o.map enc).getD z)::L)→wpList P ops (Qk n x r) rest a' w):
  wpList P ops (Qk n x r) (⟨some d,.lookup mt xo ko false,t,pos,af,none⟩::rest) a w:=by
 obtain⟨b,es,clock,rfl,rfl,he⟩:=h
 have hg:w.heap[b]? =some (.map es clock):=m.items j _ hj
 rcases find_now i es.toList M 0 he with⟨h1,_⟩|⟨j',kv,h1,h2,h3⟩
 ·exact B4 f rfl rfl hN (r_lookup (f.eval hx) (f.eval hk) ht hq hz hg h1) (λa' f'=>k none (λy hy=>by cases hy) a' f')
 ·exact B4 f rfl rfl hN (r_lookup (f.eval hx) (f.eval hk) ht hq hz hg h1) (λa' f'=>k (some kv.2) (λy hy=>by
   simp only[Option.some.injEq] at hy
   subst hy;rw[←h3];exact List.mem_of_getElem? h2) a' f')
theorem l_mapUpdate {β:Type}{q:IntKind}{enc:β→Value}{it:Itm}{v:Value}{M:List (Int×β)}{mt kt et:TypeId}{xo ko vo:Operand}{i:Int}{y:β}(j:Nat)(m:Mem W G w H)(h:OwMp q enc it v M)(hj:H[j]? =some it)
  (ht:P.underlying mt=some (.map kt et)) (hq:P.underlying kt=some (.int q)) (f:Fr a N L) (hx:AN L xo=some v) (hk:AN L ko=some (.int q i)) (hv:AN L vo=some (enc y))
  (k:∀it' M' w',(∀kv∈M',kv=(i,y)∨kv∈M)→Mem W G w' (H.set j it')→OwMp q enc it' v M'→wpList P ops (Qk n x r) rest a w'):
  wpList P ops (Qk n x r) (⟨none,.mapUpdate mt xo ko vo,t,pos,af,none⟩::rest) a w:=by
 obtain⟨b,es,clock,rfl,rfl,he⟩:=h
 have hg:w.heap[b]? =some (.map es clock):=m.items j _ hj
 have hb:b<w.heap.size:=(Array.getElem?_eq_some_iff.1 hg).1
 have hlen:es.toList.length=M.length:=by have:=congrArg List.length he;simpa using this
 have hmem:∀(o:Obj),Mem W G {w with heap:=w.heap.setIfInBounds b o} (H.set j (.obj b o)):=λo=>
  m.changeAt j hj rfl rfl rfl (λy _ hy=>by
   have:y≠b:=λe=>hy (by rw[e];simp[Itm.foot])
   simp[Ne.symm this]) (by simp[Itm.ok,hb]) (λy hy=> .inl hy)
 rcases find_now i es.toList M 0 he with⟨h1,_⟩|⟨j',kv,h1,h2,h3⟩
 ·refine l_void rfl rfl (Fe (f.eval hx) (f.eval hk) (f.eval hv) ht hq hg h1 (λj v hc=>by cases hc)) ?_
  refine k _ (M++[(i,y)]) _ (λkv hkv=> ?_) (hmem _) ⟨b,_,_,rfl,rfl,?_⟩
  ·rcases List.mem_append.1 hkv with h|h
   ·exact .inr h
   ·exact .inl (by simpa using h)
  ·simp[he]
 ·have hjl:j'<es.toList.length:=by rw[hlen];exact(List.getElem?_eq_some_iff.1 h2).1
  have hkey:(es[j']?).map (·.key)=some (.int q i):=by
   have hA:=congrArg (λl=>l[j']?) he
   simp only[List.getElem?_map,h2,Option.map_some,Array.getElem?_toList] at hA
   cases hE:es[j']? with
   |none=>rw[hE] at hA;simp at hA
   |some e=>
    rw[hE] at hA
    simp only[Option.map_some,Option.some.injEq,Prod.mk.injEq] at hA
    rw[Option.map_some,hA.1,h3]
  refine l_void rfl rfl (Fe (f.eval hx) (f.eval hk) (f.eval hv) ht hq hg h1 (λj v hc=>by
   simp only[Option.some.injEq,Prod.mk.injEq,Nat.zero_add] at hc
   rw[←hc.1];exact hkey)) ?_
  refine k _ (M.set j' (i,y)) _ (λkv' hkv=> ?_) (hmem _) ⟨b,_,_,rfl,rfl,?_⟩
  ·rcases List.mem_or_eq_of_mem_set hkv with h|h
   ·exact .inr h
   ·exact .inl h
  ·refine List.ext_getElem? λp=> ?_
   have hA:=congrArg (λl=>l[p]?) he
   simp only[List.getElem?_map,Array.getElem?_toList] at hA
   simp only[List.getElem?_map,Array.getElem?_toList,Array.getElem?_modify,List.getElem?_set,Nat.zero_add]
   by_cases hp:j'=p
   ·subst hp
    rw[if_pos rfl,if_pos rfl,if_pos (by rw[←hlen];exact hjl)]
    have:j'<es.size:=by simpa using hjl
    simp[this]
   ·rw[if_neg hp,if_neg hp]
    exact hA
end
end Go.Sx

set_option maxRecDepth 100000
namespace Go.Proofs.YtmkcbhidbdggiaaDoor
open Go Go.Sx
open Go.Proofs.Tryd Go.Proofs.YtmkcbhidbdggiaaDoor.Tryd IntKind
variable {W w : World} {G : GH} {H : List Itm}
theorem hPl99 :BT prog 140:=isAgg140
theorem hPl54 :BT prog 59:=isAgg59
theorem l_slit0 {P:Program}{ops:Array Oper}{rest:List Oper}{n r:AV}{x:List (Nat×AV)}{a:Act}{w W:World}{N:Nat}{L:A9}{d:Nat}{t:TypeId}{pos:String}{af:Array Edge}{G:GH}{H:List Itm}{α:Type}{R:Rep α}
  {tt u bytes:Nat} {z:Value} (m:Mem W G w H) (hu:SlT P u tt 1 bytes z) (f:Fr a N L) (hN:Nat.blt d N=true)
  (k:∀it v w' a',Mem W G w' (it::H)→Ow R tt G it v []→CE v=false→Fr a' N ((d,v)::L)→wpList P ops (Qk n x r) rest a' w'):
  wpList P ops (Qk n x r) (⟨some d,.buildSlice u 0 #[],t,pos,af,none⟩::rest) a w:=by
 obtain⟨ti,hi1,hi2,hi3,hi4⟩:=hu.info
 have hr:(execOp a.eval ⟨some d,.buildSlice u 0 #[],t,pos,af,none⟩).run P w= .ok (.value (.slice (some ⟨w.heap.size,0,none⟩) 0 0)) (w.alloc (.cells #[] tt)):=by
  simp[execOp,Instr.buildSlice,run_underlying hu.und,sizeOf,typeInfo,hi1,newRow,Instr.fill,Array.range_zero']
 refine B4 f Z Z hN hr (λa' f'=>k (.row (.slice (some ⟨w.heap.size,0,none⟩) 0 0) tt 1 ([]:List α).length []) _ _ a' ?_ ⟨[],Z,All2.nil _⟩ Z f')
 refine m.add Z Z Z (λq hq=>by first|exact heap_alloc_old w _ q hq|exact heap_alloc_old w _ hq) ⟨by simp,.inr ⟨w.heap.size,0,_,by simp,Nat.zero_le _,heap_alloc_new w _,by simp,by simp[maxLen],by simp,by simp⟩⟩ (λq hq=>by simp[Itm.foot,Value.ownBlock] at hq;omega)
abbrev Dp (b:Nat)(va vm:Value):Itm:=ib b 142 [va,vm]
abbrev cPtr (b:Nat):Value:= .pointer (some ⟨b,0,none⟩)
theorem OwMp.cells {β:Type}{q:IntKind}{enc:β→Value}{it:Itm}{v:Value}{M:List (Int×β)}(h:OwMp q enc it v M):v.cells= #[v]:=by
 obtain⟨b,es,clock,rfl,rfl,_⟩:=h;rfl
set_option maxHeartbeats 1000000 in
theorem Wk.m1 {bx:Nat}{va vm:Value}{cs:LI}{p u:Int}(hW:Bw W)(m:Mem W G w (Dp bx va vm::H))(h0:RSl (RI .u32) G va cs)(hd:D.J0 cs p=some u):
  Calls prog 165 #[cPtr bx,(.int .u32 p)] w (Res W G H (λ_ Ho v=>Ho=[Dp bx va vm]∧v= .int .u32 u)):=by
 refine As (args:=[cPtr bx,(.int .u32 p)]) (N:=26) [.tmp 4] func165 Z Z (lb Z) Z λa f=> ?_
 unfold D.J0 at hd
 have⟨us,hus,hd⟩:=bind_some hd
 refine Af ?_
 refine Ac f Z λa f=>Ay ?_
 refine Ac f Z λa f=>Ab (Ah (Af ?_))
 refine Aa f Z λa f=>AK f Z call54 (Wk.c hW m hus) λv1 G1 Ho1 w hl1 m hQ1 a f=> ?_
 obtain⟨vu,itu,rfl,rfl,ou⟩:=hQ1
 obtain⟨G2,hl2,m,hu⟩:=ou.stamp (RI.mono _) m
 have hle2:=gt hl1 hl2
 have h0:=rd1 hle2 h0
 refine Be underlying65 f Z Z hu λa f=>Aa f Z λa f=>Ab ?_
 refine AL (λa w=>Fr a 26 [(5,(.int .u32 u))]∧Mem W G2 w (Dp bx va vm::H)) ?_ ?_
 ·refine An ?_
  refine AJ (fun(s:Int×Int) a w=>Fr a 26 [(0,cPtr bx),(5,(.int .u32 s.1)),(9,vu),(10,(iv (us.length:Int))),(11,(iv s.2))]∧Mem W G2 w (Dp bx va vm::H)) hd ⟨f.k Z,m⟩ ?_
  clear hd f m
  rintro⟨out,i⟩ o hs hqq a w ⟨f,m⟩
  dsimp only at f
  unfold D.b1 at hs
  dsimp only at hs
  refine Af ?_
  refine Ai f Z Z AM λa f=>Ab (Ah ?_)
  rcases Ae hs with⟨hc2,hs⟩|⟨hc2,hs⟩
  ·refine Am f Z hc2 ?_
   refine Ao ?_
   have⟨v,hv,hs⟩:=bind_some hs
   have⟨c,hc,hs⟩:=bind_some hs
   obtain rfl:=sj hs
   refine Ah (An (Af ?_))
   refine BG T65 f Z Z Z hu hv λp3 c3 a g3 h3 f=> ?_
   subst h3
   refine AZ m Pl3 f Z Z g3 λa f=>Ac f Z λa f=>Ab (Ap ?_)
   refine Aa f Z λa f=>Aa f Z λa f=>l_o f (AX (f.e Z)) λa f=>B9 underlying142 Z sizeOf59 f Z λa f=>AR 0 0 m hPl54 f Z Z Z Z λa f=>Aa f Z λa f=>BG T59 f Z Z Z h0 hc λp4 c4 a g4 h4 f=> ?_
   subst h4
   refine AZ m AY f Z Z g4 λa f=>Ai f Z Z b_or λa f=>Ac f Z λa f=>Ab (Ap ?_)
   refine Ai f Z Z Ax λa f=>Aa f Z λa f=>Ab ?_
   exact⟨_,Z,f.k Z,m⟩
  ·refine Aj f Z hc2 ?_
   refine AF Z ?_
   obtain rfl:=sj hs
   obtain rfl:=hqq _ rfl
   exact⟨f.k Z,m⟩
 ·clear hd f m
  rintro a w ⟨f,m⟩
  refine Af ?_
  refine Aa f Z λa f=>Ac f Z λa f=>Ab ?_
  refine Ar ?_
  exact⟨[.int .u32 u],f.g Z,f.d,G2,[Dp bx va vm],hle2,m,Z,Z⟩
def GrowOk (W:World)(cs:LI)(n:Nat):Prop:=∀(w:World) (G:GH) (H:List Itm) (bx:Nat) (va vm:Value) (itM:Itm) (M:List (Int×Bool)) (p:Int) (y:Option LI) (m:Mem W G w (Dp bx va vm::itM::H)) (h0:RSl (RI .u32) G va cs) (oM:OwMp .u32 Value.bool itM vm M) (hc:ConsC cs M) (hd:D.g n cs p=some y),
 Calls prog 152 #[cPtr bx,(.int .u32 p)] w (Res W G H (λG' Ho v=>∃(it':Itm) (M':List (Int×Bool)) (itO:Itm),Ho=[itO,Dp bx va vm,it']∧OwMp .u32 Value.bool it' vm M'∧ConsC cs M'∧Ow R0 3 G' itO v (y.getD [])∧CE v=y.isNone))
set_option maxHeartbeats 2000000 in
theorem Wk.q1 {W:World}(hW:Bw W){cs:LI}(n:Nat):GrowOk W cs n:=by
 induction n with
 |zero=>intro w G H bx va vm itM M p y m h0 oM hc hd;simp[D.g] at hd
 |succ n ih=>
  intro w G H bx va vm itM M p y m h0 oM hc hd
  have hd0:=hd
  refine As (args:=[cPtr bx,(.int .u32 p)]) (N:=72) [.tmp 4] func152 Z Z (lb Z) Z λa f=> ?_
  unfold D.g at hd
  have⟨all,ha,hd⟩:=bind_some hd
  refine Af ?_
  refine Ac f Z λa f=>Ay ?_
  refine Aa f Z λa f=>l_o f (AX (f.e Z)) λa f=>B9 underlying142 Z sizeOf59 f Z λa f=>AR 0 0 m hPl54 f Z Z Z Z λa f=>Be underlying59 f Z Z h0 λa f=>Ba f Z call125 (Wk.A m ha) λG1 w hl1 m a f=> ?_
  have h0:=rd1 hl1 h0
  refine Ac f Z λa f=>Ab (Ah (Af ?_))
  refine Aa f Z λa f=>Aa f Z λa f=>Ai f Z Z BE λa f=>Ab ?_
  rcases Ae hd with⟨hc1,hd⟩|⟨hc1,hd⟩
  ·obtain rfl:=sj hd
   refine Am f Z hc1 ?_
   refine Af ?_
   refine l_slit0 (R:=R0) m T65 f Z λit2 v2 w a m o2 hn2 f=>Ac f Z λa f=>Ab ?_
   refine Ar ?_
   exact⟨[v2],f.g Z,f.d,G1,[it2,Dp bx va vm,itM],hl1,m,_,_,_,Z,oM,hc,o2,hn2⟩
  ·refine Aj f Z hc1 ?_
   refine Ao ?_
   refine Ah (Af ?_)
   refine Aa f Z λa f=>l_o f (AX (f.e Z)) λa f=>B9 underlying142 Z sizeOf140 f Z λa f=>AR 0 1 m hPl99 f Z Z Z Z λa f=>Aa f Z λa f=>l_lookup 1 m oM Z underlying140 underlying63 zeroValue4 f Z Z Z λo ho a f=>Ab ?_
   have hval:∃b:Bool,(o.map Value.bool).getD (.bool false)= .bool b∧(b=true→o=some true):=by
    cases o with
    |none=>exact⟨false,rfl,λh=>by cases h⟩
    |some z=>exact⟨z,rfl,λh=>by rw[h]⟩
   obtain⟨b,hb,hbt⟩:=hval
   rw[hb] at f
   cases b with
   |true=>
    obtain⟨n',hn'⟩:=hc _ (ho true (hbt rfl)) rfl
    have hzy:none=y:=clGrowR_det hn' hd0
    subst hzy
    refine Am f Z Z ?_
    refine Af ?_
    refine Ac f Z λa f=>Ab ?_
    refine Ar ?_
    obtain⟨itN,m,oN⟩:=Ow.nil R0 3 m
    exact⟨[.slice none 0 0],f.g Z,f.d,G1,[itN,Dp bx va vm,itM],hl1,m,_,_,_,Z,oM,hc,oN,Z⟩
   |false=>
    refine Aj f Z Z ?_
    refine Ao ?_
    have⟨ua,hua,hd⟩:=bind_some hd
    have⟨ub,hub,hd⟩:=bind_some hd
    have⟨us,hus,hd⟩:=bind_some hd
    refine Af ?_
    refine Aa f Z λa f=>Aa f Z λa f=>AK f Z call165 (Wk.m1 hW m h0 hua) λv2 G2 Ho2 w hl2 m hQ2 a f=> ?_
    obtain⟨rfl,rfl⟩:=hQ2
    have h0:=rd1 hl2 h0
    refine Aa f Z λa f=>Aa f Z λa f=>Aa f Z λa f=>Ai f Z Z Cj λa f=>AK f Z call165 (Wk.m1 hW m h0 hub) λv3 G3 Ho3 w hl3 m hQ3 a f=> ?_
    obtain⟨rfl,rfl⟩:=hQ3
    have h0:=rd1 hl3 h0
    refine Ai f Z Z CP λa f=>Ac f Z λa f=>Ab (Ah (Af ?_))
    refine Aa f Z λa f=>Aa f Z λa f=>Ai f Z Z Cj λa f=>AK f Z call54 (Wk.c hW m hus) λv4 G4 Ho4 w hl4 m hQ4 a f=> ?_
    obtain⟨vu,itu,rfl,rfl,ou⟩:=hQ4
    obtain⟨G5,hl5,m,hu⟩:=ou.stamp (RI.mono _) m
    have h0:=rd1 (gt hl4 hl5) h0
    refine Be underlying65 f Z Z hu λa f=>Aa f Z λa f=>Ab ?_
    have hle5:GLe G G5:=gt hl1 (gt hl2 (gt hl3 (gt hl4 hl5)))
    refine AL (λa w=>y=none∧∃(G':GH) (it':Itm) (M':List (Int×Bool)),GLe G5 G'∧Fr a 72 [(0,cPtr bx),(1,(.int .u32 p))]∧Mem W G' w (Dp bx va vm::it'::H)∧OwMp .u32 Value.bool it' vm M'∧ConsC cs M') ?_ ?_
    ·refine An ?_
     refine AJ (fun(i:Int) a w=>∃(G':GH) (it':Itm) (M':List (Int×Bool)),GLe G5 G'∧Fr a 72 [(0,cPtr bx),(1,(.int .u32 p)),(6,(.int .u32 (iand .u32 ua ub))),(38,vu),(39,(iv (us.length:Int))),(40,(iv i))]∧Mem W G' w (Dp bx va vm::it'::H)∧OwMp .u32 Value.bool it' vm M'∧ConsC cs M') hd ⟨_,_,_,gr,f.k Z,m,oM,hc⟩ ?_
     clear hd f m oM hc ho
     rintro i o hs hqq a w ⟨G6,itM,M,hl6,f,m,oM,hc⟩
     have h0:=rd1 hl6 h0
     have hu:=rd1 hl6 hu
     unfold D.I at hs
     refine Af ?_
     refine Ai f Z Z AM λa f=>Ab (Ah ?_)
     rcases Ae hs with⟨hc2,hs⟩|⟨hc2,hs⟩
     ·refine Am f Z hc2 ?_
      refine Ao ?_
      have⟨v,hv,hs⟩:=bind_some hs
      have⟨c,hcc,hs⟩:=bind_some hs
      refine Ah (An (Af ?_))
      refine BG T65 f Z Z Z hu hv λp7 c7 a g7 h7 f=> ?_
      subst h7
      refine AZ m Pl3 f Z Z g7 λa f=>Ac f Z λa f=>Ab (Ah (Af ?_))
      refine Aa f Z λa f=>Aa f Z λa f=>l_o f (AX (f.e Z)) λa f=>B9 underlying142 Z sizeOf59 f Z λa f=>AR 0 0 m hPl54 f Z Z Z Z λa f=>Aa f Z λa f=>BG T59 f Z Z Z h0 hcc λp8 c8 a g8 h8 f=> ?_
      subst h8
      refine AZ m AY f Z Z g8 λa f=>Ai f Z Z Cj λa f=>Ai f Z Z C4 λa f=>Ab ?_
      rcases Ae hs with⟨hc3,hs⟩|⟨hc3,hs⟩
      ·obtain rfl:=sj hs
       refine Am f Z hc3 ?_
       refine AF Z ?_
       refine Ap ?_
       refine Ai f Z Z Ax λa f=>Aa f Z λa f=>Ab ?_
       exact⟨_,Z,G6,_,_,hl6,f.k Z,m,oM,hc⟩
      ·refine Aj f Z hc3 ?_
       refine Ao ?_
       have⟨oo,hoo,hs⟩:=bind_some hs
       have⟨r,hr,hs⟩:=bind_some hs
       refine Af ?_
       refine Aa f Z λa f=>Aa f Z λa f=>Aa f Z λa f=>Ba f Z call74 (Wk.b m hoo) λG9 w hl9 m a f=> ?_
       have h0:=rd1 hl9 h0
       refine Ai f Z Z b_or λa f=>AK f Z call152 (ih _ _ _ _ _ _ _ _ _ _ m h0 oM hc hr) λvr G10 Ho10 w hl10 m hQ10 a f=> ?_
       obtain⟨itM,M,itO,rfl,oM,hc,oO,hnO⟩:=hQ10
       have hle10:GLe G5 G10:=gt hl6 (gt hl9 hl10)
       refine Ac f Z λa f=>Ay ?_
       refine Aa f Z λa f=>l_o f (D3 (f.e Z) (f.e Z) (Ow.hdr 0 m oO Z) underlying65 hnO) λa f=>Ab ?_
       cases r with
       |none=>
        obtain rfl:=sj hs
        refine Aj f Z Z ?_
        refine Ao ?_
        refine Ap ?_
        refine Ai f Z Z Ax λa f=>Aa f Z λa f=>Ab ?_
        exact⟨_,Z,G10,_,_,hle10,f.k Z,m.tail,oM,hc⟩
       |some rest=>
        have⟨l,hl,hs⟩:=bind_some hs
        obtain rfl:=sj hs
        obtain rfl:=hqq _ rfl
        refine Am f Z Z ?_
        refine Af ?_
        refine Aa f Z λa f=>BC (R:=R0) (xs:=([v]:LI)) (RI.one _) m T65 f Z Z Z (by decide) (All2.cons Z (All2.nil _)) λit11 v11 w a m o11 f=>Aa f Z λa f=>BJ (RI.one _) 0 m o11 Z T65 Z (by decide) f Z Z Z (Ow.src (j:=1) oO m Z) hl λit12 v12 w a m o12 f=>Ac f Z λa f=>Ab ?_
        refine Ar ?_
        have m:=m.eraseAt 1
        have hne:nonE l=some ():=by
         unfold AP at hl
         split at hl
         ·obtain rfl:=sj hl;rfl
         ·cases hl
        have hemp:l.isEmpty=false:=by
         cases l with
         |nil=>simp[nonE] at hne
         |cons x t=>rfl
        exact⟨[v12],f.g Z,f.d,G10,[it12,Dp bx va vm,itM],gt hle5 hle10,m,_,_,_,Z,oM,hc,o12,(Ow.notNil 0 m o12 Z hne).trans hemp⟩
     ·refine Aj f Z hc2 ?_
      refine AF Z ?_
      obtain rfl:=sj hs
      obtain rfl:=hqq _ rfl
      exact⟨Z,G6,_,_,hl6,f.k Z,m,oM,hc⟩
    ·clear hd f m oM hc ho
     rintro a w ⟨rfl,G6,itM,M,hl6,f,m,oM,hc⟩
     refine Af ?_
     refine Aa f Z λa f=>l_o f (AX (f.e Z)) λa f=>B9 underlying142 Z sizeOf140 f Z λa f=>AR 0 1 m hPl99 f Z Z Z Z λa f=>Aa f Z λa f=>l_mapUpdate (enc:=Value.bool) (y:=true) 1 m oM Z underlying140 underlying63 f Z Z Z λit' M' w hM' m oM=>Ay ?_
     refine Ac f Z λa f=>Ab ?_
     refine Ar ?_
     obtain⟨itN,m,oN⟩:=Ow.nil R0 3 m
     exact⟨[.slice none 0 0],f.g Z,f.d,G6,[itN,Dp bx va vm,it'],gt hle5 hl6,m,_,_,_,Z,oM,λkv hkv hkt=>by
      rcases hM' kv hkv with rfl|h
      ·exact⟨n+1,hd0⟩
      ·exact hc kv h hkt,oN,Z⟩
set_option maxHeartbeats 1000000 in
theorem Wk.r0 {v0:Value}{x0:LI}(hW:Bw W)(m:Mem W G w (H))(h0:RSl (RI .u32) G v0 x0){y:LI×LI}(hd:D.r0 x0=some y):
  Calls prog 122 #[v0] w (Res W G H (λG' Ho v=>∃r0:Value,∃i0:Itm,∃r1:Value,Ho=[i0]∧v= .tuple #[r0,r1]∧Ow R0 3 G' i0 r0 y.1∧CE r0=y.1.isEmpty∧RSl (RI .u32) G' r1 y.2)):=by
 refine As (args:=[v0]) (N:=18) [.tmp 2,.tmp 3] func122 Z Z (lb Z) Z λa f=> ?_
 unfold D.r0 at hd
 have⟨po,hp,hd⟩:=bind_some hd
 refine Af ?_
 refine Ac f Z λa f=>Ac f Z λa f=>Ab (Ah (Af ?_))
 refine Aa f Z λa f=>AK f Z call150 (Wk.V hW m h0 hp) λv1 G1 Ho1 w hl1 m hQ1 a f=> ?_
 obtain⟨vp,itp,rfl,rfl,op,hnp⟩:=hQ1
 have h0:=rd1 hl1 h0
 refine l_o f (EY (f.e Z) (f.e Z) (Ow.hdr 0 m op Z) underlying65 hnp) λa f=>Ab ?_
 have m:Mem W G1 w H:=m.tail
 rcases Ae hd with⟨hc1,hd⟩|⟨hc1,hd⟩
 ·obtain rfl:=sj hd
  refine Am f Z hc1 ?_
  refine Af ?_
  refine Ac f Z λa f=>Ac f Z λa f=>Ab ?_
  refine Ar ?_
  obtain⟨itC,m,oC⟩:=Ow.nil (RI .u32) 75 m
  obtain⟨G2,hl2,m,hC⟩:=oC.stamp (RI.mono _) m
  obtain⟨itN,m,oN⟩:=Ow.nil R0 3 m
  exact⟨[.slice none 0 0,.slice none 0 0],⟨f.get _ _ Z,f.get _ _ Z,trivial⟩,f.d,G2,[itN],gt hl1 hl2,m,_,_,_,Z,Z,oN,Z,hC⟩
 ·refine Aj f Z hc1 ?_
  refine Ao ?_
  have⟨cs,hcs,hd⟩:=bind_some hd
  have⟨r,hr,hd⟩:=bind_some hd
  refine Af ?_
  refine Aa f Z λa f=>AK f Z call151 (Wk.E hW m h0 hcs) λv2 G2 Ho2 w hl2 m hQ2 a f=> ?_
  obtain⟨vc,itc,rfl,rfl,oc⟩:=hQ2
  obtain⟨G3,hl3,m,hC⟩:=oc.stamp (RI.mono _) m
  refine Ac f Z λa f=>Ay ?_
  refine Aa f Z λa f=>l_makeMap .u32 Value.bool m f Z λitM vm w a m oM f=> ?_
  have hb:∀w,(Instr.build 142 #[(0,vc),(1,vm)]).run prog w= .ok (.agg #[vc,vm]) w:=by intro w;simp[Instr.build,Instr.fill,hC.cells,OwMp.cells oM,DA]
  refine Ek f Z Z hb λa f=>B3 (cs:=[vc,vm]) m f Z Z Z λbx w a m f=>Ac f Z λa f=>Ay ?_
  refine Aa f Z λa f=>AK f Z call152 (Wk.q1 hW Bq _ _ _ _ _ _ _ _ _ _ m hC oM (λkv hkv=>by simp at hkv) hr) λvr G4 Ho4 w hl4 m hQ4 a f=> ?_
  obtain⟨itM',M',itO,rfl,oM',_,oO,hnO⟩:=hQ4
  have m:Mem W G4 w (itO::H):=(m.eraseAt 1).eraseAt 1
  have hC:=rd1 hl4 hC
  refine Aa f Z λa f=>Ac f Z λa f=>Ac f Z λa f=>Ab ?_
  refine Ar ?_
  have hle:GLe G G4:=gt hl1 (gt hl2 (gt hl3 hl4))
  cases r with
  |none=>
   obtain rfl:=sj hd
   exact⟨[vr,vc],⟨f.get _ _ Z,f.get _ _ Z,trivial⟩,f.d,G4,[itO],hle,m,_,_,_,Z,Z,oO,hnO,hC⟩
  |some l=>
   have⟨un,hun,hd⟩:=bind_some hd
   obtain rfl:=sj hd
   exact⟨[vr,vc],⟨f.get _ _ Z,f.get _ _ Z,trivial⟩,f.d,G4,[itO],hle,m,_,_,_,Z,Z,oO,Ow.notNil 0 m oO Z hun,hC⟩
end Go.Proofs.YtmkcbhidbdggiaaDoor

set_option maxRecDepth 100000
namespace Go.Proofs.YtmkcbhidbdggiaaDoor
open Go Go.Sx
open Go.Proofs.Tryd Go.Proofs.YtmkcbhidbdggiaaDoor.Tryd IntKind
variable {W w : World} {G : GH} {H : List Itm}
theorem Wk.p0 {aa:Value}{ab:LL}(hW:Bw W)(m:Mem W G w (H))(ac:R2 G aa ab){y:(LI)×Bool}(hd:D.p0 ab=some y):
  Calls prog 57 #[(.agg #[aa])] w (Res W G H (λG' Ho v=>∃r0:Value,∃i0:Itm,Ho=[i0]∧v= .tuple #[r0,(.bool y.2)]∧Ow R0 2 G' i0 r0 y.1)):=by
 refine As (args:=[(.agg #[aa])]) (N:=19) [.tmp 2,.tmp 3] func57 Z Z (lb Z) Z λa f=> ?_
 unfold D.p0 at hd
 refine Af ?_
 refine B3 (cs:=[aa]) m f Z Z Z λad w a m f=>Ac f Z λa f=>Ac f Z λa f=>Ab (Ah (Af ?_))
 refine A7 0 0 (ds:=[aa]) m Bj f Z Z Z Z Z λa f=> ?_
 have⟨ae,af,hd⟩:=bind_some hd
 refine Ba f Z call50 (Wk.l m ac af) λag w ah m a f=> ?_
 have ac:=rd2 ah ac
 refine l_o f (Bv (f.e Z)) λa f=>Ab ?_
 rcases Ae hd with⟨ai,hd⟩|⟨ai,hd⟩
 ·refine Am f Z ai ?_
  refine Af ?_
  refine Ac f Z λa f=>Ac f Z λa f=>Ab ?_
  refine Ar ?_
  obtain⟨aj,m,ak⟩:=Ow.nil R0 2 m
  have m:=m.eraseAt 1
  obtain rfl:=sj hd
  exact⟨[sn,(.bool false)],⟨f.get _ _ Z,f.get _ _ Z,trivial⟩,f.d,_,[aj],ah,m,_,_,Z,Z,ak⟩
 ·refine Aj f Z ai ?_
  refine Ao ?_
  refine Af ?_
  refine A7 0 0 (ds:=[aa]) m Bj f Z Z Z Z Z λa f=> ?_
  have⟨al,am,hd⟩:=bind_some hd
  refine AK f Z call51 (Wk.n m ac am) λan ao ap w aq m ar a f=> ?_
  obtain⟨au,av,rfl,rfl,aw⟩:=ar
  obtain⟨ax,ay,m,az⟩:=Ow.stamp (RI.mono _) aw m
  have⟨aA,aB,hd⟩:=bind_some hd
  refine AK f Z call122 (Wk.r0 hW m az aB) λaC aD aE w aF m aG a f=> ?_
  obtain⟨aH,aI,aJ,rfl,rfl,aK,aL,aM⟩:=aG
  refine Aa f Z λa f=>l_o f (Bg (f.e Z) Z) λa f=>l_o f (Bg (f.e Z) Z) λa f=>Ac f Z λa f=>Ac f Z λa f=>Ab (Ah (Af ?_))
  refine Aa f Z λa f=>l_o f (EY (f.e Z) (f.e Z) (Ow.hdr 0 m aK Z) underlying65 aL) λa f=>Ab ?_
  rcases Ae hd with⟨aN,hd⟩|⟨aN,hd⟩
  ·refine Am f Z aN ?_
   refine Af ?_
   refine Ac f Z λa f=>Ac f Z λa f=>Ab ?_
   refine Ar ?_
   obtain⟨aO,m,aP⟩:=Ow.nil R0 2 m
   have m:=m.eraseAt 2
   have m:=m.eraseAt 1
   obtain rfl:=sj hd
   exact⟨[sn,(.bool false)],⟨f.get _ _ Z,f.get _ _ Z,trivial⟩,f.d,_,[aO],(gt ah (gt aq (gt ay aF))),m,_,_,Z,Z,aP⟩
  ·refine Aj f Z aN ?_
   refine Ao ?_
   refine Af ?_
   refine Aa f Z λa f=> ?_
   have⟨aQ,aR,hd⟩:=bind_some hd
   refine AK f Z call68 (Ow.lendCall (RI.mono _) 0 aK m Z (λaS aT m aU=>Wk.r m aU aR) (λ_ G' _ _ ⟨a0,a1,e1,e2,o0⟩=>⟨a0,a1,e1,e2,Ow.free (RI.free _) G' o0⟩)) λaV aW aX w aY m aZ a f=> ?_
   obtain⟨a2,a3,rfl,rfl,a4⟩:=aZ
   refine Ac f Z λa f=>Ac f Z λa f=>Ab ?_
   refine Ar ?_
   have m:=m.eraseAt 2
   have m:=m.eraseAt 1
   obtain rfl:=sj hd
   exact⟨[a2,(.bool true)],⟨f.get _ _ Z,f.get _ _ Z,trivial⟩,f.d,_,[a3],(gt ah (gt aq (gt ay (gt aF aY)))),m,_,_,Z,Z,a4⟩
theorem Wk.U {aa:Value}{ab:LL}(hW:Bw W)(m:Mem W G w (H))(ac:R2 G aa ab){y:Bool}(hd:D.U ab=some y):
  Calls prog 12 #[(.agg #[aa])] w (Res W G H (λ_ Ho v=>Ho=[]∧v=(.bool y))):=by
 refine As (args:=[(.agg #[aa])]) (N:=11) [.tmp 2] func12 Z Z (lb Z) Z λa f=> ?_
 unfold D.U at hd
 refine Af ?_
 refine B3 (cs:=[aa]) m f Z Z Z λad w a m f=>Ac f Z λa f=>Ay ?_
 refine A7 0 0 (ds:=[aa]) m Bj f Z Z Z Z Z λa f=> ?_
 have⟨ae,af,hd⟩:=bind_some hd
 refine AK f Z call57 (Wk.p0 hW m ac af) λag ah ai w aj m ak a f=> ?_
 obtain⟨al,am,rfl,rfl,an⟩:=ak
 refine Aa f Z λa f=>l_o f (Bg (f.e Z) Z) λa f=>l_o f (Bg (f.e Z) Z) λa f=>Ac f Z λa f=>Ac f Z λa f=>Ay ?_
 refine Aa f Z λa f=>Ac f Z λa f=>Ab ?_
 refine Ar ?_
 have m:Mem W ah w H:=Mem.drop (H':=[am,ib ad 29 [aa]]) m
 obtain rfl:=sj hd
 exact⟨[(.bool ae.2)],f.g Z,f.d,_,[],aj,m,Z,Z⟩
theorem Wk.Q {aa:Value}{ab:LL}{x1:Int}(m:Mem W G w (H))(ac:R2 G aa ab){y:Bool}(hd:D.Q ab x1=some y):
  Calls prog 58 #[(.agg #[aa]),(iv x1)] w (Res W G H (λ_ Ho v=>Ho=[]∧v=(.bool y))):=by
 refine As (args:=[(.agg #[aa]),(iv x1)]) (N:=10) [.tmp 4] func58 Z Z (lb Z) Z λa f=> ?_
 unfold D.Q at hd
 refine Af ?_
 refine B3 (cs:=[aa]) m f Z Z Z λad w a m f=>Ac f Z λa f=>Ay ?_
 refine Aa f Z λa f=>A7 0 0 (ds:=[aa]) m Bj f Z Z Z Z Z λa f=> ?_
 have⟨ae,af,hd⟩:=bind_some hd
 refine Ba f Z call47 (Wk.d m ac af) λag w ah m a f=>Ai f Z Z AT λa f=> ?_
 have⟨ai,aj,hd⟩:=bind_some hd
 refine Ba f Z call105 (Wk.f m aj) λak w al m a f=>Ac f Z λa f=>Ab ?_
 refine Ar ?_
 have m:Mem W ak w H:=Mem.drop (H':=[ib ad 29 [aa]]) m
 obtain rfl:=sj hd
 exact⟨[(.bool ai)],f.g Z,f.d,_,[],(gt ah al),m,Z,Z⟩
theorem Wk.e {aa:Value}{ab:LL}{x1 x2:Int}(m:Mem W G w (H))(ac:R2 G aa ab){y:Bool}(hd:D.e ab x1 x2=some y):
  Calls prog 13 #[(.agg #[aa]),(iv x1),(iv x2)] w (Res W G H (λ_ Ho v=>Ho=[]∧v=(.bool y))):=by
 refine As (args:=[(.agg #[aa]),(iv x1),(iv x2)]) (N:=25) [.tmp 6] func13 Z Z (lb Z) Z λa f=> ?_
 unfold D.e at hd
 refine Af ?_
 refine B3 (cs:=[aa]) m f Z Z Z λad w a m f=>Ac f Z λa f=>Ay ?_
 refine A7 0 0 (ds:=[aa]) m Bj f Z Z Z Z Z λa f=> ?_
 have⟨ae,af,hd⟩:=bind_some hd
 refine Ba f Z call48 (Wk.z m ac af) λag w ah m a f=> ?_
 have ac:=rd2 ah ac
 refine Aa f Z λa f=> ?_
 have⟨ai,aj,hd⟩:=bind_some hd
 refine Bu 4 (λa w=>∃ak,GLe ag ak∧Mem W ak w (ib ad 29 [aa]::H)∧Fr a 25 [(0,(.agg #[aa])),(1,(iv x1)),(2,(iv x2)),(3,(pb ad)),(7,(.agg #[aa])),(8,(.bool ae)),(9,(.bool ae)),(13,(.bool ai))]) ?_ ?_
 ·rcases Ae aj with⟨al,aj⟩|⟨al,aj⟩
  ·refine Au f al ?_
   refine A7 0 0 (ds:=[aa]) m Bj f Z Z Z Z Z λa f=>Au f al ?_
   refine Aa f Z λa f=>Au f al ?_
   have⟨am,an,aj⟩:=bind_some aj
   refine Ba f Z call58 (Wk.Q m ac an) λao w ap m a f=>l_o f (AD (f.e Z) al (f.e Z)) λa f=> ?_
   obtain rfl:=sj aj
   exact⟨_,ap,m,f.k Z⟩
  ·refine Aw f al λa f=> ?_
   refine Aw f al λa f=>Aw f al λa f=>l_o f (AC (f.e Z) al (f.e Z)) λa f=> ?_
   obtain rfl:=sj aj
   exact⟨_,gr,m,f.k Z⟩
 ·rintro a w ⟨ak,aq,m,f⟩
  have ac:=rd2 aq ac
  refine Aa f Z λa f=> ?_
  have⟨ar,au,hd⟩:=bind_some hd
  refine Bu 4 (λa w=>∃av,GLe ak av∧Mem W av w (ib ad 29 [aa]::H)∧Fr a 25 [(0,(.agg #[aa])),(1,(iv x1)),(2,(iv x2)),(3,(pb ad)),(7,(.agg #[aa])),(8,(.bool ae)),(9,(.bool ae)),(13,(.bool ai)),(14,(.bool ai)),(18,(.bool ar))]) ?_ ?_
  ·rcases Ae au with⟨aw,au⟩|⟨aw,au⟩
   ·refine Au f aw ?_
    refine A7 0 0 (ds:=[aa]) m Bj f Z Z Z Z Z λa f=>Au f aw ?_
    refine Aa f Z λa f=>Au f aw ?_
    have⟨ax,ay,au⟩:=bind_some au
    refine Ba f Z call58 (Wk.Q m ac ay) λaz w aA m a f=>l_o f (AD (f.e Z) aw (f.e Z)) λa f=> ?_
    obtain rfl:=sj au
    exact⟨_,aA,m,f.k Z⟩
   ·refine Aw f aw λa f=> ?_
    refine Aw f aw λa f=>Aw f aw λa f=>l_o f (AC (f.e Z) aw (f.e Z)) λa f=> ?_
    obtain rfl:=sj au
    exact⟨_,gr,m,f.k Z⟩
  ·rintro a w ⟨av,aB,m,f⟩
   have ac:=rd2 aB ac
   refine Aa f Z λa f=> ?_
   have⟨aC,aD,hd⟩:=bind_some hd
   refine Bu 5 (λa w=>∃aE,GLe av aE∧Mem W aE w (ib ad 29 [aa]::H)∧Fr a 25 [(0,(.agg #[aa])),(1,(iv x1)),(2,(iv x2)),(3,(pb ad)),(7,(.agg #[aa])),(8,(.bool ae)),(9,(.bool ae)),(13,(.bool ai)),(14,(.bool ai)),(18,(.bool ar)),(19,(.bool ar)),(24,(.bool aC))]) ?_ ?_
   ·rcases Ae aD with⟨aF,aD⟩|⟨aF,aD⟩
    ·refine Au f aF ?_
     refine A7 0 0 (ds:=[aa]) m Bj f Z Z Z Z Z λa f=>Au f aF ?_
     refine Aa f Z λa f=>Au f aF ?_
     refine Aa f Z λa f=>Au f aF ?_
     have⟨aG,aH,aD⟩:=bind_some aD
     refine Ba f Z call59 (Wk.q m ac aH) λaI w aJ m a f=>l_o f (AD (f.e Z) aF (f.e Z)) λa f=> ?_
     obtain rfl:=sj aD
     exact⟨_,aJ,m,f.k Z⟩
    ·refine Aw f aF λa f=> ?_
     refine Aw f aF λa f=>Aw f aF λa f=>Aw f aF λa f=>l_o f (AC (f.e Z) aF (f.e Z)) λa f=> ?_
     obtain rfl:=sj aD
     exact⟨_,gr,m,f.k Z⟩
   ·rintro a w ⟨aE,aK,m,f⟩
    refine Ac f Z λa f=>Ab ?_
    refine Ar ?_
    have m:Mem W aE w H:=Mem.drop (H':=[ib ad 29 [aa]]) m
    obtain rfl:=sj hd
    exact⟨[(.bool aC)],f.g Z,f.d,_,[],(gt ah (gt aq (gt aB aK))),m,Z,Z⟩
theorem Wk.B {aa:Value}{ab:LL}{x1:Int}(m:Mem W G w (H))(ac:R2 G aa ab){y:Bool}(hd:D.B ab x1=some y):
  Calls prog 61 #[(.agg #[aa]),(iv x1)] w (Res W G H (λ_ Ho v=>Ho=[]∧v=(.bool y))):=by
 refine As (args:=[(.agg #[aa]),(iv x1)]) (N:=15) [.tmp 4] func61 Z Z (lb Z) Z λa f=> ?_
 unfold D.B at hd
 refine Af ?_
 refine B3 (cs:=[aa]) m f Z Z Z λad w a m f=>Ac f Z λa f=>Ay ?_
 refine A7 0 0 (ds:=[aa]) m Bj f Z Z Z Z Z λa f=> ?_
 have⟨ae,af,hd⟩:=bind_some hd
 refine Ba f Z call50 (Wk.l m ac af) λag w ah m a f=> ?_
 have ac:=rd2 ah ac
 refine Aa f Z λa f=> ?_
 have⟨ai,aj,hd⟩:=bind_some hd
 refine Bu 7 (λa w=>∃ak,GLe ag ak∧Mem W ak w (ib ad 29 [aa]::H)∧Fr a 15 [(0,(.agg #[aa])),(1,(iv x1)),(2,(pb ad)),(5,(.agg #[aa])),(6,(.bool ae)),(7,(.bool ae)),(14,(.bool ai))]) ?_ ?_
 ·rcases Ae aj with⟨al,aj⟩|⟨al,aj⟩
  ·refine Au f al ?_
   refine Aa f Z λa f=>Au f al ?_
   refine B9 underlying29 Z sizeOf27 f Z λa f=>Au f al ?_
   refine AR 0 0 m Cx f Z Z Z Z λa f=>Au f al ?_
   refine Be underlying27 f Z Z ac λa f=>Au f al ?_
   refine Ai f Z Z AT λa f=>Au f al ?_
   have⟨am,an,aj⟩:=bind_some aj
   refine Ba f Z call123 (Wk.d0 m an) λao w ap m a f=>l_o f (AD (f.e Z) al (f.e Z)) λa f=> ?_
   obtain rfl:=sj aj
   exact⟨_,ap,m,f.k Z⟩
  ·refine Aw f al λa f=> ?_
   refine Aw f al λa f=>Aw f al λa f=>Aw f al λa f=>Aw f al λa f=>Aw f al λa f=>l_o f (AC (f.e Z) al (f.e Z)) λa f=> ?_
   obtain rfl:=sj aj
   exact⟨_,gr,m,f.k Z⟩
 ·rintro a w ⟨ak,aq,m,f⟩
  refine Ac f Z λa f=>Ab ?_
  refine Ar ?_
  have m:Mem W ak w H:=Mem.drop (H':=[ib ad 29 [aa]]) m
  obtain rfl:=sj hd
  exact⟨[(.bool ai)],f.g Z,f.d,_,[],(gt ah aq),m,Z,Z⟩
theorem Wk.N0 {aa:Value}{ab:LL}{x1 x2:Int}(m:Mem W G w (H))(ac:R2 G aa ab){y:Bool}(hd:D.N0 ab x1 x2=some y):
  Calls prog 60 #[(.agg #[aa]),(iv x1),(iv x2)] w (Res W G H (λ_ Ho v=>Ho=[]∧v=(.bool y))):=by
 refine As (args:=[(.agg #[aa]),(iv x1),(iv x2)]) (N:=15) [.tmp 6] func60 Z Z (lb Z) Z λa f=> ?_
 unfold D.N0 at hd
 refine Af ?_
 refine B3 (cs:=[aa]) m f Z Z Z λad w a m f=>Ac f Z λa f=>Ay ?_
 refine A7 0 0 (ds:=[aa]) m Bj f Z Z Z Z Z λa f=>Aa f Z λa f=> ?_
 have⟨ae,af,hd⟩:=bind_some hd
 refine Ba f Z call61 (Wk.B m ac af) λag w ah m a f=> ?_
 have ac:=rd2 ah ac
 refine Aa f Z λa f=> ?_
 have⟨ai,aj,hd⟩:=bind_some hd
 refine Bu 4 (λa w=>∃ak,GLe ag ak∧Mem W ak w (ib ad 29 [aa]::H)∧Fr a 15 [(0,(.agg #[aa])),(1,(iv x1)),(2,(iv x2)),(3,(pb ad)),(7,(.agg #[aa])),(8,(iv x1)),(9,(.bool ae)),(10,(.bool ae)),(14,(.bool ai))]) ?_ ?_
 ·rcases Ae aj with⟨al,aj⟩|⟨al,aj⟩
  ·refine Au f al ?_
   refine A7 0 0 (ds:=[aa]) m Bj f Z Z Z Z Z λa f=>Au f al ?_
   refine Aa f Z λa f=>Au f al ?_
   have⟨am,an,aj⟩:=bind_some aj
   refine Ba f Z call61 (Wk.B m ac an) λao w ap m a f=>l_o f (AD (f.e Z) al (f.e Z)) λa f=> ?_
   obtain rfl:=sj aj
   exact⟨_,ap,m,f.k Z⟩
  ·refine Aw f al λa f=> ?_
   refine Aw f al λa f=>Aw f al λa f=>l_o f (AC (f.e Z) al (f.e Z)) λa f=> ?_
   obtain rfl:=sj aj
   exact⟨_,gr,m,f.k Z⟩
 ·rintro a w ⟨ak,aq,m,f⟩
  refine Ac f Z λa f=>Ab ?_
  refine Ar ?_
  have m:Mem W ak w H:=Mem.drop (H':=[ib ad 29 [aa]]) m
  obtain rfl:=sj hd
  exact⟨[(.bool ai)],f.g Z,f.d,_,[],(gt ah aq),m,Z,Z⟩
theorem Wk.H0 {v0:Value}{x0:LI}(m:Mem W G w (H))(h0:R1 G v0 x0){y:(LI)}(hd:D.H0 x0=some y):
  Calls prog 62 #[v0] w (Res W G H (λG' Ho v=>∃r0:Value,∃i0:Itm,Ho=[i0]∧r0=v∧Ow R0 2 G' i0 r0 y)):=by
 refine As (args:=[v0]) (N:=7) [.tmp 2] func62 Z Z (lb Z) Z λa f=> ?_
 unfold D.H0 at hd
 refine Af ?_
 refine Ac f Z λa f=>Ab (Ah (Af ?_))
 refine Aa f Z λa f=>l_o f (EY (f.e Z) (f.e Z) h0.hdr underlying65 Z) λa f=>Ab ?_
 rcases Bool.eq_false_or_eq_true (CE v0) with aa|aa
 ·have hz:=h0.nil_inv aa
  subst hz
  replace hd:some ([]:LI)=some _:=nilW hd
  refine Am f Z aa ?_
  refine Af ?_
  refine Ac f Z λa f=>Ab ?_
  refine Ar ?_
  obtain⟨ab,m,ac⟩:=Ow.nil R0 2 m
  obtain rfl:=sj hd
  exact⟨[sn],f.g Z,f.d,_,[ab],gr,m,_,_,Z,Z,ac⟩
 ·refine Aj f Z aa ?_
  refine Ao ?_
  refine Af ?_
  refine Aa f Z λa f=> ?_
  have⟨ad,ae,hd⟩:=bind_some hd
  refine AK f Z call68 (Wk.r m h0 ae) λaf ag ah w ai m aj a f=> ?_
  obtain⟨ak,al,rfl,rfl,am⟩:=aj
  refine Ac f Z λa f=>Ab ?_
  refine Ar ?_
  obtain rfl:=sj hd
  exact⟨[ak],f.g Z,f.d,_,[al],ai,m,_,_,Z,Z,am⟩
theorem Wk.t0 {aa:Value}{ab:LL}{x1 x2 x3:Int}(hW:Bw W)(m:Mem W G w (H))(ac:R2 G aa ab){y:(LI)}(hd:D.t0 ab x1 x2 x3=some y):
  Calls prog 14 #[(.agg #[aa]),(iv x1),(iv x2),(iv x3)] w (Res W G H (λG' Ho v=>∃r0:Value,∃i0:Itm,Ho=[i0]∧r0=v∧Ow R0 2 G' i0 r0 y)):=by
 refine As (args:=[(.agg #[aa]),(iv x1),(iv x2),(iv x3)]) (N:=42) [.tmp 8] func14 Z Z (lb Z) Z λa f=> ?_
 unfold D.t0 at hd
 refine Af ?_
 refine B3 (cs:=[aa]) m f Z Z Z λad w a m f=>Ac f Z λa f=>Ab (Ah (Af ?_))
 refine A7 0 0 (ds:=[aa]) m Bj f Z Z Z Z Z λa f=>Aa f Z λa f=>Aa f Z λa f=> ?_
 have⟨ae,af,hd⟩:=bind_some hd
 refine Ba f Z call60 (Wk.N0 m ac af) λag w ah m a f=> ?_
 have ac:=rd2 ah ac
 refine l_o f (Bv (f.e Z)) λa f=>Aa f Z λa f=> ?_
 have⟨ai,aj,hd⟩:=bind_some hd
 refine Bu 5 (λa w=>∃ak,GLe ag ak∧Mem W ak w (ib ad 29 [aa]::H)∧Fr a 42 [(0,(.agg #[aa])),(1,(iv x1)),(2,(iv x2)),(3,(iv x3)),(4,(pb ad)),(9,(.agg #[aa])),(10,(iv x1)),(11,(iv x2)),(12,(.bool ae)),(13,(.bool (!ae))),(14,(.bool (!ae))),(19,(.bool ai))]) ?_ ?_
 ·rcases Ae aj with⟨al,aj⟩|⟨al,aj⟩
  ·refine Aw f al λa f=> ?_
   refine Aw f al λa f=>Aw f al λa f=>Aw f al λa f=>l_o f (AD (f.e Z) al (f.e Z)) λa f=> ?_
   obtain rfl:=sj aj
   exact⟨_,gr,m,f.k Z⟩
  ·refine Au f al ?_
   refine A7 0 0 (ds:=[aa]) m Bj f Z Z Z Z Z λa f=>Au f al ?_
   refine Aa f Z λa f=>Au f al ?_
   have⟨am,an,aj⟩:=bind_some aj
   refine Ba f Z call61 (Wk.B m ac an) λao w ap m a f=>Au f al ?_
   refine l_o f (Bv (f.e Z)) λa f=>l_o f (AC (f.e Z) al (f.e Z)) λa f=> ?_
   obtain rfl:=sj aj
   exact⟨_,ap,m,f.k Z⟩
 ·rintro a w ⟨ak,aq,m,f⟩
  have ac:=rd2 aq ac
  refine Aa f Z λa f=> ?_
  refine Bu 4 (λa w=>∃ar,GLe ak ar∧Mem W ar w (ib ad 29 [aa]::H)∧Fr a 42 [(0,(.agg #[aa])),(1,(iv x1)),(2,(iv x2)),(3,(iv x3)),(4,(pb ad)),(9,(.agg #[aa])),(10,(iv x1)),(11,(iv x2)),(12,(.bool ae)),(13,(.bool (!ae))),(14,(.bool (!ae))),(19,(.bool ai)),(20,(.bool ai)),(24,(.bool (ai||(x1==x2))))]) ?_ ?_
  ·rcases Bool.eq_false_or_eq_true ai with au|au
   ·refine Aw f au λa f=> ?_
    refine Aw f au λa f=>Aw f au λa f=>l_o f (AD (f.e Z) au (f.e Z)) λa f=> ?_
    exact⟨_,gr,m,f.weak ⟨Z,Z,Z,Z,Z,Z,Z,Z,Z,Z,Z,Z,Z,by rw[au];rfl,trivial⟩⟩
   ·refine Au f au ?_
    refine Aa f Z λa f=>Au f au ?_
    refine Aa f Z λa f=>Au f au ?_
    refine Ai f Z Z BE λa f=>l_o f (AC (f.e Z) au (f.e Z)) λa f=> ?_
    exact⟨_,gr,m,f.weak ⟨Z,Z,Z,Z,Z,Z,Z,Z,Z,Z,Z,Z,Z,by rw[au];rfl,trivial⟩⟩
  ·rintro a w ⟨ar,av,m,f⟩
   have ac:=rd2 av ac
   refine Aa f Z λa f=> ?_
   refine Bu 4 (λa w=>∃aw,GLe ar aw∧Mem W aw w (ib ad 29 [aa]::H)∧Fr a 42 [(0,(.agg #[aa])),(1,(iv x1)),(2,(iv x2)),(3,(iv x3)),(4,(pb ad)),(9,(.agg #[aa])),(10,(iv x1)),(11,(iv x2)),(12,(.bool ae)),(13,(.bool (!ae))),(14,(.bool (!ae))),(19,(.bool ai)),(20,(.bool ai)),(24,(.bool (ai||(x1==x2)))),(25,(.bool (ai||(x1==x2)))),(29,(.bool ((ai||(x1==x2))||(x1==x3))))]) ?_ ?_
   ·rcases Bool.eq_false_or_eq_true (ai||(x1==x2)) with ax|ax
    ·refine Aw f ax λa f=> ?_
     refine Aw f ax λa f=>Aw f ax λa f=>l_o f (AD (f.e Z) ax (f.e Z)) λa f=> ?_
     exact⟨_,gr,m,f.weak ⟨Z,Z,Z,Z,Z,Z,Z,Z,Z,Z,Z,Z,Z,Z,Z,by rw[ax];rfl,trivial⟩⟩
    ·refine Au f ax ?_
     refine Aa f Z λa f=>Au f ax ?_
     refine Aa f Z λa f=>Au f ax ?_
     refine Ai f Z Z BE λa f=>l_o f (AC (f.e Z) ax (f.e Z)) λa f=> ?_
     exact⟨_,gr,m,f.weak ⟨Z,Z,Z,Z,Z,Z,Z,Z,Z,Z,Z,Z,Z,Z,Z,by rw[ax];rfl,trivial⟩⟩
   ·rintro a w ⟨aw,ay,m,f⟩
    have ac:=rd2 ay ac
    refine Aa f Z λa f=> ?_
    refine Bu 4 (λa w=>∃az,GLe aw az∧Mem W az w (ib ad 29 [aa]::H)∧Fr a 42 [(0,(.agg #[aa])),(1,(iv x1)),(2,(iv x2)),(3,(iv x3)),(4,(pb ad)),(9,(.agg #[aa])),(10,(iv x1)),(11,(iv x2)),(12,(.bool ae)),(13,(.bool (!ae))),(14,(.bool (!ae))),(19,(.bool ai)),(20,(.bool ai)),(24,(.bool (ai||(x1==x2)))),(25,(.bool (ai||(x1==x2)))),(29,(.bool ((ai||(x1==x2))||(x1==x3)))),(30,(.bool ((ai||(x1==x2))||(x1==x3)))),(34,(.bool (((ai||(x1==x2))||(x1==x3))||(x2==x3))))]) ?_ ?_
    ·rcases Bool.eq_false_or_eq_true ((ai||(x1==x2))||(x1==x3)) with aA|aA
     ·refine Aw f aA λa f=> ?_
      refine Aw f aA λa f=>Aw f aA λa f=>l_o f (AD (f.e Z) aA (f.e Z)) λa f=> ?_
      exact⟨_,gr,m,f.weak ⟨Z,Z,Z,Z,Z,Z,Z,Z,Z,Z,Z,Z,Z,Z,Z,Z,Z,by rw[aA];rfl,trivial⟩⟩
     ·refine Au f aA ?_
      refine Aa f Z λa f=>Au f aA ?_
      refine Aa f Z λa f=>Au f aA ?_
      refine Ai f Z Z BE λa f=>l_o f (AC (f.e Z) aA (f.e Z)) λa f=> ?_
      exact⟨_,gr,m,f.weak ⟨Z,Z,Z,Z,Z,Z,Z,Z,Z,Z,Z,Z,Z,Z,Z,Z,Z,by rw[aA];rfl,trivial⟩⟩
    ·rintro a w ⟨az,aB,m,f⟩
     have ac:=rd2 aB ac
     refine Ab ?_
     rcases Ae hd with⟨aC,hd⟩|⟨aC,hd⟩
     ·refine Am f Z aC ?_
      refine Af ?_
      refine Ac f Z λa f=>Ab ?_
      refine Ar ?_
      obtain⟨aD,m,aE⟩:=Ow.nil R0 2 m
      have m:=m.eraseAt 1
      obtain rfl:=sj hd
      exact⟨[sn],f.g Z,f.d,_,[aD],(gt ah (gt aq (gt av (gt ay aB)))),m,_,_,Z,Z,aE⟩
     ·refine Aj f Z aC ?_
      refine Ao ?_
      refine Af ?_
      refine A7 0 0 (ds:=[aa]) m Bj f Z Z Z Z Z λa f=> ?_
      have⟨aF,aG,hd⟩:=bind_some hd
      refine AK f Z call51 (Wk.n m ac aG) λaH aI aJ w aK m aL a f=> ?_
      obtain⟨aM,aN,rfl,rfl,aO⟩:=aL
      refine Aa f Z λa f=>Aa f Z λa f=>Aa f Z λa f=> ?_
      obtain⟨aP,aQ,m,aR⟩:=Ow.stamp (RI.mono _) aO m
      have⟨aS,aT,hd⟩:=bind_some hd
      refine AK f Z call63 (Wk.u hW m aR aT) λaU aV aW w aX m aY a f=> ?_
      obtain⟨aZ,a2,rfl,rfl,a3,a4⟩:=aY
      have⟨a5,a6,hd⟩:=bind_some hd
      refine AK f Z call62 (Ow.lendCall (RI.mono _) 0 a3 m Z (λa7 a8 m a9=>Wk.H0 m a9 a6) (λ_ G' _ _ ⟨a0,a1,e1,e2,o0⟩=>⟨a0,a1,e1,e2,Ow.free (RI.free _) G' o0⟩)) λba bb bc w bd m be a f=> ?_
      obtain⟨bf,bg,rfl,rfl,bh⟩:=be
      refine Ac f Z λa f=>Ab ?_
      refine Ar ?_
      have m:=m.eraseAt 2
      have m:=m.eraseAt 1
      obtain rfl:=sj hd
      exact⟨[bf],f.g Z,f.d,_,[bg],(gt ah (gt aq (gt av (gt ay (gt aB (gt aK (gt aQ (gt aX bd)))))))),m,_,_,Z,Z,bh⟩
end Go.Proofs.YtmkcbhidbdggiaaDoor

set_option maxRecDepth 100000
namespace Go.Proofs.YtmkcbhidbdggiaaDoor
open Go Go.Sx
open Go.Proofs.Tryd Go.Proofs.YtmkcbhidbdggiaaDoor.Tryd IntKind
variable {W w : World} {G : GH} {H : List Itm}
abbrev clIts (bf bn ba:Nat)(near:Int)(v0:Value)(s:Int):List Itm:=[ib bf 63 [(.int .u32 s)],ib bn 63 [(.int .u32 near)],ib ba 60 [v0]]
theorem Wk.p1 {W:World}(hW:Bw W){F:LI}{v0:Value}{bf bn ba:Nat}{near:Int}{G0:GH}(h0:RSl (RI .u32) G0 v0 F)(w:World)(G:GH)(H:List Itm)(c s:Int)(y:Bool×Int)(hG:GLe G0 G)
  (m:Mem W G w (clIts bf bn ba near v0 s++H)) (hd:D.x0 F near c s=some y):
  Calls prog 64 ((.int .u32 c)::[(pb bf),(pb bn),(pb ba)]).toArray w (Res W G H (λ_ Ho v=>Ho=clIts bf bn ba near v0 y.2∧v= .bool y.1)):=by
 refine As (args:=[(.int .u32 c),(pb bf),(pb bn),(pb ba)]) (N:=17) [.tmp 5] func64 Z Z (lb Z) Z λa f=> ?_
 unfold D.x0 at hd
 have h0:=rd1 hG h0
 refine Af ?_
 refine Ac f Z λa f=>Ay ?_
 refine Aa f Z λa f=>A6 0 0 (ds:=[(.int .u32 c)]) m sizeOf63 f Z Z Z (Bb Z Bh) Z (lb Z) Z λw m=>Ay ?_
 refine Aa f Z λa f=>AR 1 0 m AY f Z Z Z Z λa f=>Ai f Z Z Cj λa f=>Ai f Z Z BE λa f=>Aa f Z λa f=> ?_
 have⟨b,hb,hd⟩:=bind_some hd
 obtain rfl:=sj hd
 rcases Ae hb with⟨hc1,hb⟩|⟨hc1,hb⟩
 ·have⟨k,hk,hb⟩:=bind_some hb
  obtain rfl:=sj hb
  refine Au f hc1 ?_
  refine AR 2 0 m hPl56 f Z Z Z Z λa f=>Au f hc1 ?_
  refine Aa f Z λa f=>Au f hc1 ?_
  refine Ba f Z call65 (Wk.t hW m h0 hk) λG1 w hl1 m a f=>Au f hc1 ?_
  refine Ai f Z Z BE λa f=>l_o f (AD (f.e Z) hc1 (f.e Z)) λa f=>Ac f Z λa f=>Ab ?_
  refine Ar ?_
  exact⟨[.bool (k==3)],f.g Z,f.d,G1,clIts bf bn ba near v0 c,hl1,m,Z,Z⟩
 ·obtain rfl:=sj hb
  refine Aw f hc1 λa f=>Aw f hc1 λa f=>Aw f hc1 λa f=>Aw f hc1 λa f=>l_o f (AC (f.e Z) hc1 (f.e Z)) λa f=>Ac f Z λa f=>Ab ?_
  refine Ar ?_
  exact⟨[.bool false],f.g Z,f.d,G,clIts bf bn ba near v0 c,gr,m,Z,Z⟩
set_option maxHeartbeats 1000000 in
theorem Wk.C {aa:Value}{ab:LL}(hW:Bw W)(m:Mem W G w (H))(ac:R2 G aa ab){y:LI×Bool}(hd:D.C ab=some y):
  Calls prog 15 #[(.agg #[aa])] w (Res W G H (λG' Ho v=>∃r0:Value,∃i0:Itm,Ho=[i0]∧v= .tuple #[r0,(.bool y.2)]∧Ow R0 2 G' i0 r0 y.1)):=by
 refine As (args:=[(.agg #[aa])]) (N:=30) [.tmp 2,.tmp 3] func15 Z Z (lb Z) Z λa f=> ?_
 unfold D.C at hd
 refine Af ?_
 refine B3 (cs:=[aa]) m f Z Z Z λbg w a m f=>Ac f Z λa f=>Ac f Z λa f=>Ab (Ah (Af ?_))
 refine A7 0 0 (ds:=[aa]) m Bj f Z Z Z Z Z λa f=> ?_
 have⟨b,hb,hd⟩:=bind_some hd
 refine Ba f Z call50 (Wk.l m ac hb) λG1 w hl1 m a f=> ?_
 have ac:=rd2 hl1 ac
 refine l_o f (Bv (f.e Z)) λa f=>Ab ?_
 rcases Ae hd with⟨hc1,hd⟩|⟨hc1,hd⟩
 ·obtain rfl:=sj hd
  refine Am f Z hc1 ?_
  refine Af ?_
  refine Ac f Z λa f=>Ac f Z λa f=>Ab ?_
  refine Ar ?_
  have m:Mem W G1 w H:=Mem.drop (H':=[ib bg 29 [aa]]) m
  obtain⟨itN,m,oN⟩:=Ow.nil R0 2 m
  exact⟨[.slice none 0 0,.bool false],⟨f.get _ _ Z,f.get _ _ Z,trivial⟩,f.d,G1,[itN],hl1,m,_,_,Z,Z,oN⟩
 ·refine Aj f Z hc1 ?_
  refine Ao ?_
  have⟨F,hF,hd⟩:=bind_some hd
  refine Af ?_
  refine A7 0 0 (ds:=[aa]) m Bj f Z Z Z Z Z λa f=>AK f Z call51 (Wk.n m ac hF) λv2 G2 Ho2 w hl2 m hQ2 a f=> ?_
  obtain⟨vF,itF,rfl,rfl,oF⟩:=hQ2
  obtain⟨G3,hl3,m,hA⟩:=oF.stamp (RI.mono _) m
  refine BX (cs:=[sn]) zeroValue60 m f Z Z λba w a m f=>A6 0 0 (ds:=[vF]) m sizeOf60 f Z Z hA.cells (Bb hA.one1 Bh) Z (lb Z) Z λw m=>Ab (Ah (Af ?_))
  refine AR 0 0 m hPl56 f Z Z Z Z λa f=>Be underlying60 f Z Z hA λa f=>Aa f Z λa f=>Ab ?_
  have hle3:GLe G G3:=gt hl1 (gt hl2 hl3)
  refine AL (λa w=>y=([],false)∧∃(G':GH),GLe G3 G'∧Fr a 30 []∧Mem W G' w (ib ba 60 [vF]::ib bg 29 [aa]::H)) ?_ ?_
  ·refine An ?_
   refine AJ (fun(i:Int) a w=>∃(G':GH),GLe G3 G'∧Fr a 30 [(4,(pb ba)),(13,vF),(14,(iv (F.length:Int))),(15,(iv i))]∧Mem W G' w (ib ba 60 [vF]::ib bg 29 [aa]::H)) hd ⟨_,gr,f.k Z,m⟩ ?_
   clear hd f m
   rintro i o hs hqq a w ⟨G4,hl4,f,m⟩
   have hA:=rd1 hl4 hA
   unfold D.F0 at hs
   refine Af ?_
   refine Ai f Z Z AM λa f=>Ab (Ah ?_)
   rcases Ae hs with⟨hc2,hs⟩|⟨hc2,hs⟩
   ·refine Am f Z hc2 ?_
    refine Ao ?_
    have⟨near,hn,hs⟩:=bind_some hs
    have⟨r,hr,hs⟩:=bind_some hs
    refine Ah (An (Af ?_))
    refine Aa f Z λa f=>BG hT56 f Z Z Z hA hn λp5 c5 a g5 h5 f=> ?_
    subst h5
    refine AZ m AY f Z Z g5 λa f=>BX (cs:=[(.int .u32 0)]) zeroValue63 m f Z Z λbn w a m f=>Ac f Z λa f=>A6 0 0 (ds:=[(.int .u32 near)]) m sizeOf63 f Z Z Z (Bb Z Bh) Z (lb Z) Z λw m=>Ay ?_
    refine BX (cs:=[(.int .u32 0)]) zeroValue63 m f Z Z λbf w a m f=>A6 0 0 (ds:=[(.int .u32 0)]) m sizeOf63 f Z Z Z (Bb Z Bh) Z (lb Z) Z λw m=>Ay ?_
    refine AR 2 0 m hPl56 f Z Z Z Z λa f=>Be underlying60 f Z Z hA λa f=>l_makeFunc (vs:=[]) (us:=[(pb bf),(pb bn),(pb ba)]) f Z Z Z λa f=>AK f Z call52 (Wk.i1 (its:=clIts bf bn ba near vF) call64 (Wk.p1 hW hA) Bq _ _ _ _ _ _ _ _ _ gr m hr) λv6 G6 Ho6 w hl6 m hQ6 a f=> ?_
    obtain⟨rfl,rfl⟩:=hQ6
    refine Ab ?_
    rcases Ae hs with⟨hc3,hs⟩|⟨hc3,hs⟩
    ·refine Am f Z hc3 ?_
     have⟨l,hl,hs⟩:=bind_some hs
     have⟨o2,ho2,hs⟩:=bind_some hs
     obtain rfl:=sj hs
     obtain rfl:=hqq _ rfl
     refine Af ?_
     refine Aa f Z λa f=>BC (R:=R0) (xs:=([i]:LI)) (RI.one _) m T31 f Z Z Z (by decide) (All2.cons Z (All2.nil _)) λit7 v7 w a m o7 f=>AR 1 0 m AY f Z Z Z Z λa f=>AK f Z call56 (Wk.y hW m hl) λv8 G8 Ho8 w hl8 m hQ8 a f=> ?_
     obtain⟨vl,itl,rfl,rfl,ol⟩:=hQ8
     have o7:=od1 hl8 o7
     refine BJ (RI.one _) 1 m o7 Z T31 Z (by decide) f Z Z Z (Ow.src (j:=0) ol m Z) ho2 λit9 v9 w a m o9 f=>Ac f Z λa f=>Ac f Z λa f=>Ab ?_
     refine Ar ?_
     have m:Mem W G8 w (it9::H):=((((m.tail.eraseAt 1).eraseAt 1).eraseAt 1).eraseAt 1)
     exact⟨[v9,.bool true],⟨f.get _ _ Z,f.get _ _ Z,trivial⟩,f.d,G8,[it9],gt hle3 (gt hl4 (gt hl6 hl8)),m,_,_,Z,Z,o9⟩
    ·refine Aj f Z hc3 ?_
     obtain rfl:=sj hs
     refine Ao ?_
     refine Ap ?_
     refine Ai f Z Z Ax λa f=>Aa f Z λa f=>Ab ?_
     exact⟨_,Z,G6,gt hl4 hl6,f.k Z,m.tail.tail⟩
   ·refine Aj f Z hc2 ?_
    refine AF Z ?_
    obtain rfl:=sj hs
    obtain rfl:=hqq _ rfl
    exact⟨Z,G4,hl4,f.weak trivial,m⟩
  ·clear hd f m
   rintro a w ⟨rfl,G4,hl4,f,m⟩
   refine Af ?_
   refine Ac f Z λa f=>Ac f Z λa f=>Ab ?_
   refine Ar ?_
   have m:Mem W G4 w H:=m.tail.tail
   obtain⟨itN,m,oN⟩:=Ow.nil R0 2 m
   exact⟨[.slice none 0 0,.bool false],⟨f.get _ _ Z,f.get _ _ Z,trivial⟩,f.d,G4,[itN],gt hle3 hl4,m,_,_,Z,Z,oN⟩
end Go.Proofs.YtmkcbhidbdggiaaDoor
