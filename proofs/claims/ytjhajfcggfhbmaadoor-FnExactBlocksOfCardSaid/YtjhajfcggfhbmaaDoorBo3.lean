/- Parts. -/
import Derived.Test.YtjhajfcggfhbmaaDoorBo2
import Derived.Test.YtjhajfcggfhbmaaDoorProg
import Derived.KernelRfl
import Derived.Lib.TrailingZeros
set_option linter.unusedVariables false
set_option linter.unusedSimpArgs false
set_option linter.unusedSectionVars false
set_option maxRecDepth 100000
namespace Go.Proofs.YtjhajfcggfhbmaaDoor
open Go Go.Sx
open Go.Proofs.Tryd Go.Proofs.YtjhajfcggfhbmaaDoor.Tryd IntKind
variable {W w : World} {G : GH} {H : List Itm}
theorem T56 :SlT prog 56 75 1 4 (.int .u32 0):=⟨underlying56,Tryd.t75,by kernel_rfl,by kernel_rfl,by kernel_rfl,by kernel_rfl⟩
theorem AR :BC prog 75:=isAgg75
theorem T54 :SlT prog 54 75 1 4 (.int .u32 0):=⟨underlying54,Tryd.t75,by kernel_rfl,by kernel_rfl,by kernel_rfl,by kernel_rfl⟩
theorem Wk.k0 {v0:Value}{x0:LI}{x1:Int}(m:Mem W G w (H))(h0:R1 G v0 x0){y:Bool}(hd:D.k0 x0 x1=some y):
  Calls prog 64 #[v0,(iv x1)] w (Res W G H (λ_ Ho v=>Ho=[]∧v=(.bool y))):=by
 refine As (args:=[v0,(iv x1)]) (N:=33) [.tmp 4] func64 Z Z (lb Z) Z λa f=> ?_
 unfold D.k0 at hd
 refine Af ?_
 refine Ac f Z λa f=>Ab (Ag (Af ?_))
 refine Aa f Z λa f=>AP underlying49 f Z Z h0 λa f=>Aa f Z λa f=>Ab ?_
 have⟨aa,ab,hd⟩:=bind_some hd
 refine AE (λa w=>∃q_181':Unit,aa= .inl q_181'∧∃(ac:GH),GLe G ac∧Fr a 33 []∧Mem W ac w (H)) ?_ ?_
 ·refine Ak ?_
  refine Az (λad a w=>∃ae:Int,ae=ad∧∃(af:GH),GLe G af∧Fr a 33 [(0,v0),(1,(iv x1)),(7,v0),(8,(iv (x0.length:Int))),(9,(iv ae))]∧Mem W af w (H)) ab ⟨_,Z,_,gr,f.k Z,m⟩ ?_
  clear ab f m
  rintro ad ag ah ai a w ⟨ae,rfl,af,aj,f,m⟩
  have h0:=rd1 aj h0
  refine Af ?_
  refine Ah f Z Z Aw λa f=>Ab (Ag ?_)
  rcases Ae ah with⟨ak,ah⟩|⟨ak,ah⟩
  ·refine Al f Z ak ?_
   refine Am ?_
   refine Ag (Ak (Af ?_))
   refine Aa f Z λa f=> ?_
   have⟨al,am,ah⟩:=bind_some ah
   refine A8 T49 f Z Z Z h0 am λan ao a ap aq f=> ?_
   subst aq
   refine AF m Pl2 f Z Z ap λa f=>Ac f Z λa f=>Ac f Z λa f=>Au ?_
   refine Aa f Z λa f=>Aa f Z λa f=>Ah f Z Z AL λa f=> ?_
   have⟨ar,au,ah⟩:=bind_some ah
   refine Ba f Z call89 (Wk.t0 m au) λav w aw m a f=> ?_
   have h0:=rd1 aw h0
   refine l_o f (Bi (f.e Z)) λa f=>Aa f Z λa f=> ?_
   have⟨ax,ay,ah⟩:=bind_some ah
   refine BF 12 (λa w=>∃az,GLe av az∧Mem W az w (H)∧Fr a 33 [(0,v0),(1,(iv x1)),(5,(iv ae)),(6,(iv al)),(7,v0),(8,(iv (x0.length:Int))),(9,(iv ae)),(14,(iv al)),(15,(iv x1)),(16,(iv (i64.wrap (x1-1)))),(17,(.bool ar)),(18,(.bool (!ar))),(19,(.bool (!ar))),(31,(.bool ax))]) ?_ ?_
   ·rcases Ae ay with⟨aA,ay⟩|⟨aA,ay⟩
    ·refine AD f aA λa f=> ?_
     refine AD f aA λa f=>AD f aA λa f=>CX f Z Z Z λa f=>CX f Z Z Z λa f=>CX f Z Z Z λa f=>CX f Z Z Z λa f=>CX f Z Z Z λa f=>CX f Z Z Z λa f=>CX f Z Z Z λa f=>AD f aA λa f=>l_o f (AZ (f.e Z) aA (f.e Z)) λa f=> ?_
     obtain rfl:=sj ay
     exact⟨_,gr,m,f.k Z⟩
    ·refine AC f aA ?_
     refine Aa f Z λa f=>AC f aA ?_
     refine Ah f Z Z Cw λa f=>AC f aA ?_
     refine Aa f Z λa f=> ?_
     have⟨aB,aC,ay⟩:=bind_some ay
     refine BF 8 (λa w=>∃aD,GLe av aD∧Mem W aD w (H)∧Fr a 33 [(0,v0),(1,(iv x1)),(5,(iv ae)),(6,(iv al)),(7,v0),(8,(iv (x0.length:Int))),(9,(iv ae)),(14,(iv al)),(15,(iv x1)),(16,(iv (i64.wrap (x1-1)))),(17,(.bool ar)),(18,(.bool (!ar))),(19,(.bool (!ar))),(20,(iv ae)),(21,(.bool (decide ((0:Int)<ae)))),(22,(.bool (decide ((0:Int)<ae)))),(30,(.bool aB))]) ?_ ?_
     ·rcases Ae aC with⟨aE,aC⟩|⟨aE,aC⟩
      ·refine AC f aE ?_
       refine Aa f Z λa f=>AC f aE ?_
       refine Aa f Z λa f=>AC f aE ?_
       refine Ah f Z Z AL λa f=>AC f aE ?_
       have⟨aF,aG,aC⟩:=bind_some aC
       refine A8 T49 f Z Z Z h0 aG λaH aI a aJ aK f=> ?_
       subst aK
       refine AC f aE ?_
       refine AF m Pl2 f Z Z aJ λa f=>AC f aE ?_
       refine Aa f Z λa f=>AC f aE ?_
       refine Ah f Z Z BW λa f=>AC f aA ?_
       refine l_o f (AZ (f.e Z) aE (f.e Z)) λa f=> ?_
       obtain rfl:=sj aC
       exact⟨_,gr,m,f.k Z⟩
      ·refine AD f aE λa f=> ?_
       refine AD f aE λa f=>AD f aE λa f=>AD f aE λa f=>AD f aE λa f=>AD f aE λa f=>AD f aE λa f=>AC f aA ?_
       refine l_o f (AY (f.e Z) aE (f.e Z)) λa f=> ?_
       obtain rfl:=sj aC
       exact⟨_,gr,m,f.k Z⟩
     ·rintro a w ⟨aD,aL,m,f⟩
      refine l_o f (AY (f.e Z) aA (f.e Z)) λa f=> ?_
      obtain rfl:=sj ay
      exact⟨_,aL,m,f.k Z⟩
   ·rintro a w ⟨az,aM,m,f⟩
    refine Ab ?_
    rcases Ae ah with⟨aN,ah⟩|⟨aN,ah⟩
    ·refine Al f Z aN ?_
     refine Af ?_
     refine Ac f Z λa f=>Ab ?_
     refine Aq ?_
     obtain rfl:=sj ah
     obtain rfl:=ai _ rfl
     obtain rfl:=sj hd
     exact⟨[(.bool false)],f.g Z,f.d,_,[],(gt aj (gt aw aM)),m,Z,Z⟩
    ·refine Ai f Z aN ?_
     refine Am ?_
     refine An ?_
     refine Ah f Z Z Av λa f=>Aa f Z λa f=>Ab ?_
     obtain rfl:=sj ah
     exact⟨_,Z,_,Z,_,(gt aj (gt aw aM)),f.k Z,m⟩
  ·refine Ai f Z ak ?_
   refine Ax Z ?_
   obtain rfl:=sj ah
   obtain rfl:=ai _ rfl
   exact⟨_,Z,_,aj,f.weak trivial,m⟩
 ·rintro a w ⟨_,rfl,ac,aO,f,m⟩
  refine Af ?_
  refine Ac f Z λa f=>Ab ?_
  refine Aq ?_
  obtain rfl:=sj hd
  exact⟨[(.bool true)],f.g Z,f.d,_,[],aO,m,Z,Z⟩
theorem Wk.U {aa:Value}{ab:LL}(m:Mem W G w (H))(ac:R2 G aa ab){y:Bool}(hd:D.U ab=some y):
  Calls prog 30 #[(.agg #[aa])] w (Res W G H (λ_ Ho v=>Ho=[]∧v=(.bool y))):=by
 refine As (args:=[(.agg #[aa])]) (N:=61) [.tmp 2] func30 Z Z (lb Z) Z λa f=> ?_
 unfold D.U at hd
 refine Af ?_
 refine B6 (cs:=[aa]) m f Z Z Z λad w a m f=>Ac f Z λa f=>Au ?_
 refine BM underlying27 Z sizeOf22 f Z λa f=>AW 0 0 m BG f Z Z Z Z λa f=>AP underlying22 f Z Z ac λa f=>Ac f Z λa f=>Ab (Ag (Af ?_))
 refine Aa f Z λa f=>Ah f Z Z Aw λa f=>Aa f Z λa f=> ?_
 refine BF 3 (λa w=>∃ae,GLe G ae∧Mem W ae w (ib ad 27 [aa]::H)∧Fr a 61 [(0,(.agg #[aa])),(1,(pb ad)),(3,(iv (ab.length:Int))),(13,(iv (ab.length:Int))),(14,(.bool (decide ((ab.length:Int)<1)))),(15,(.bool (decide ((ab.length:Int)<1)))),(18,(.bool ((decide ((ab.length:Int)<1))||(decide ((16:Int)<(ab.length:Int))))))]) ?_ ?_
 ·rcases Bool.eq_false_or_eq_true (decide ((ab.length:Int)<1)) with af|af
  ·refine AD f af λa f=> ?_
   refine AD f af λa f=>l_o f (AZ (f.e Z) af (f.e Z)) λa f=> ?_
   exact⟨_,gr,m,f.weak ⟨Z,Z,Z,Z,Z,Z,by rw[af];rfl,trivial⟩⟩
  ·refine AC f af ?_
   refine Aa f Z λa f=>AC f af ?_
   refine Ah f Z Z Cw λa f=>l_o f (AY (f.e Z) af (f.e Z)) λa f=> ?_
   exact⟨_,gr,m,f.weak ⟨Z,Z,Z,Z,Z,Z,by rw[af];rfl,trivial⟩⟩
 ·rintro a w ⟨ae,ag,m,f⟩
  have ac:=rd2 ag ac
  refine Ab ?_
  rcases Ae hd with⟨ah,hd⟩|⟨ah,hd⟩
  ·refine Al f Z ah ?_
   refine Af ?_
   refine Ac f Z λa f=>Ab ?_
   refine Aq ?_
   have m:Mem W ae w H:=Mem.drop (H':=[ib ad 27 [aa]]) m
   obtain rfl:=sj hd
   exact⟨[(.bool false)],f.g Z,f.d,_,[],ag,m,Z,Z⟩
  ·refine Ai f Z ah ?_
   refine Am ?_
   refine Ag (Af ?_)
   refine BM underlying27 Z sizeOf22 f Z λa f=>AW 0 0 m BG f Z Z Z Z λa f=>AP underlying22 f Z Z ac λa f=>Aa f Z λa f=>Ab ?_
   have⟨ai,aj,hd⟩:=bind_some hd
   refine AE (λa w=>∃q_91':Unit,ai= .inl q_91'∧∃(ak:GH),GLe ae ak∧Fr a 61 [(1,(pb ad))]∧Mem W ak w (ib ad 27 [aa]::H)) ?_ ?_
   ·refine Ak ?_
    refine Az (λal a w=>∃am:Int,am=al∧∃(an:GH),GLe ae an∧Fr a 61 [(1,(pb ad)),(3,(iv (ab.length:Int))),(20,aa),(21,(iv (ab.length:Int))),(22,(iv am))]∧Mem W an w (ib ad 27 [aa]::H)) aj ⟨_,Z,_,gr,f.k Z,m⟩ ?_
    clear aj f m
    rintro al ao ap aq a w ⟨am,rfl,an,ar,f,m⟩
    have ac:=rd2 ar ac
    refine Af ?_
    refine Ah f Z Z Aw λa f=>Ab (Ag ?_)
    rcases Ae ap with⟨au,ap⟩|⟨au,ap⟩
    ·refine Al f Z au ?_
     refine Am ?_
     refine Ag (Ak (Af ?_))
     refine Aa f Z λa f=> ?_
     have⟨av,aw,ap⟩:=bind_some ap
     refine A8 T22 f Z Z Z ac aw λax ay a az aA f=>AF m Bt f Z Z az λa f=>Ac f Z λa f=>Ac f Z λa f=>Au ?_
     refine Aa f Z λa f=>Aa f Z λa f=> ?_
     have⟨aB,aC,ap⟩:=bind_some ap
     refine Ba f Z call64 (Wk.k0 m aA aC) λaD w aE m a f=> ?_
     have aA:=rd1 aE aA
     refine l_o f (Bi (f.e Z)) λa f=>Aa f Z λa f=> ?_
     have⟨aF,aG,ap⟩:=bind_some ap
     refine BF 4 (λa w=>∃aH,GLe aD aH∧Mem W aH w (ib ad 27 [aa]::H)∧Fr a 61 [(1,(pb ad)),(3,(iv (ab.length:Int))),(4,(iv am)),(5,ay),(20,aa),(21,(iv (ab.length:Int))),(22,(iv am)),(27,ay),(28,(iv (ab.length:Int))),(29,(.bool aB)),(30,(.bool (!aB))),(31,(.bool (!aB))),(35,(.bool aF))]) ?_ ?_
     ·rcases Ae aG with⟨aI,aG⟩|⟨aI,aG⟩
      ·refine AD f aI λa f=> ?_
       refine AD f aI λa f=>AD f aI λa f=>l_o f (AZ (f.e Z) aI (f.e Z)) λa f=> ?_
       obtain rfl:=sj aG
       exact⟨_,gr,m,f.k Z⟩
      ·refine AC f aI ?_
       refine Aa f Z λa f=>AC f aI ?_
       refine Aa f Z λa f=>AC f aI ?_
       have⟨aJ,aK,aG⟩:=bind_some aG
       refine Ba f Z call65 (Wk.K m aA aK) λaL w aM m a f=>l_o f (AY (f.e Z) aI (f.e Z)) λa f=> ?_
       obtain rfl:=sj aG
       exact⟨_,aM,m,f.k Z⟩
     ·rintro a w ⟨aH,aN,m,f⟩
      refine Ab ?_
      rcases Ae ap with⟨aO,ap⟩|⟨aO,ap⟩
      ·refine Al f Z aO ?_
       refine Af ?_
       refine Ac f Z λa f=>Ab ?_
       refine Aq ?_
       have m:Mem W aH w H:=Mem.drop (H':=[ib ad 27 [aa]]) m
       obtain rfl:=sj ap
       obtain rfl:=aq _ rfl
       obtain rfl:=sj hd
       exact⟨[(.bool false)],f.g Z,f.d,_,[],(gt ag (gt ar (gt aE aN))),m,Z,Z⟩
      ·refine Ai f Z aO ?_
       refine Am ?_
       refine An ?_
       refine Ah f Z Z Av λa f=>Aa f Z λa f=>Ab ?_
       obtain rfl:=sj ap
       exact⟨_,Z,_,Z,_,(gt ar (gt aE aN)),f.k Z,m⟩
    ·refine Ai f Z au ?_
     refine Ax Z ?_
     obtain rfl:=sj ap
     obtain rfl:=aq _ rfl
     exact⟨_,Z,_,ar,f.k Z,m⟩
   ·rintro a w ⟨_,rfl,ak,aP,f,m⟩
    have ac:=rd2 aP ac
    refine Ag (Af ?_)
    refine BM underlying27 Z sizeOf22 f Z λa f=>AW 0 0 m BG f Z Z Z Z λa f=>AP underlying22 f Z Z ac λa f=>Aa f Z λa f=>Ab ?_
    have⟨aQ,aR,hd⟩:=bind_some hd
    refine AE (λa w=>∃q_394':Unit,aQ= .inl q_394'∧∃(aS:GH),GLe ak aS∧Fr a 61 []∧Mem W aS w (H)) ?_ ?_
    ·refine Ak ?_
     refine Az (λaT a w=>∃aU:Int,aU=aT∧∃(aV:GH),GLe ak aV∧Fr a 61 [(1,(pb ad)),(38,aa),(39,(iv (ab.length:Int))),(40,(iv aU))]∧Mem W aV w (ib ad 27 [aa]::H)) aR ⟨_,Z,_,gr,f.k Z,m⟩ ?_
     clear aR f m
     rintro aT aW aX aY a w ⟨aU,rfl,aV,aZ,f,m⟩
     have ac:=rd2 aZ ac
     refine Af ?_
     refine Ah f Z Z Aw λa f=>Ab (Ag ?_)
     rcases Ae aX with⟨a0,aX⟩|⟨a0,aX⟩
     ·refine Al f Z a0 ?_
      refine Am ?_
      refine Ag (Ak (Af ?_))
      refine Aa f Z λa f=> ?_
      have⟨a1,a2,aX⟩:=bind_some aX
      refine A8 T22 f Z Z Z ac a2 λa3 a4 a a5 a6 f=>AF m Bt f Z Z a5 λa f=>Ac f Z λa f=>Ac f Z λa f=>Au ?_
      refine Aa f Z λa f=>AP underlying49 f Z Z a6 λa f=>Aa f Z λa f=>Ab ?_
      have⟨a7,a8,aX⟩:=bind_some aX
      refine AE (λa w=>∃q_560':Unit,a7= .inl q_560'∧∃(a9:GH),GLe aV a9∧Fr a 61 [(1,(pb ad)),(38,aa),(39,(iv (ab.length:Int))),(40,(iv aU))]∧Mem W a9 w (ib ad 27 [aa]::H)) ?_ ?_
      ·refine Ak ?_
       refine Az (λba a w=>∃bb:Int,bb=ba∧∃(bc:GH),GLe aV bc∧Fr a 61 [(1,(pb ad)),(6,(iv aU)),(38,aa),(39,(iv (ab.length:Int))),(40,(iv aU)),(45,a4),(46,(iv (a1.length:Int))),(47,(iv bb))]∧Mem W bc w (ib ad 27 [aa]::H)) a8 ⟨_,Z,_,gr,f.k Z,m⟩ ?_
       clear a8 f m
       rintro ba bd be bf a w ⟨bb,rfl,bc,bg,f,m⟩
       have ac:=rd2 bg ac
       have a6:=rd1 bg a6
       refine Af ?_
       refine Ah f Z Z Aw λa f=>Ab (Ag ?_)
       rcases Ae be with⟨bh,be⟩|⟨bh,be⟩
       ·refine Al f Z bh ?_
        refine Am ?_
        refine Ag (Ak (Af ?_))
        have⟨bi,bj,be⟩:=bind_some be
        refine A8 T49 f Z Z Z a6 bj λbk bl a bm bn f=> ?_
        subst bn
        refine AF m Pl2 f Z Z bm λa f=>Ac f Z λa f=>Au ?_
        refine BM underlying27 Z sizeOf22 f Z λa f=>AW 0 0 m BG f Z Z Z Z λa f=>Aa f Z λa f=> ?_
        have⟨bo,bp,be⟩:=bind_some be
        refine A8 T22 f Z Z Z ac bp λbq br a bs bt f=>AF m Bt f Z Z bs λa f=>Aa f Z λa f=> ?_
        have⟨bu,bv,be⟩:=bind_some be
        refine Ba f Z call65 (Wk.K m bt bv) λbw w bx m a f=>l_o f (Bi (f.e Z)) λa f=>Ab ?_
        rcases Ae be with⟨bz,be⟩|⟨bz,be⟩
        ·refine Al f Z bz ?_
         refine Af ?_
         refine Ac f Z λa f=>Ab ?_
         refine Aq ?_
         have m:Mem W bw w H:=Mem.drop (H':=[ib ad 27 [aa]]) m
         obtain rfl:=sj be
         obtain rfl:=bf _ rfl
         obtain rfl:=sj aX
         obtain rfl:=aY _ rfl
         obtain rfl:=sj hd
         exact⟨[(.bool false)],f.g Z,f.d,_,[],(gt ag (gt aP (gt aZ (gt bg bx)))),m,Z,Z⟩
        ·refine Ai f Z bz ?_
         refine Am ?_
         refine An ?_
         refine Ah f Z Z Av λa f=>Aa f Z λa f=>Ab ?_
         obtain rfl:=sj be
         exact⟨_,Z,_,Z,_,(gt bg bx),f.k Z,m⟩
       ·refine Ai f Z bh ?_
        refine Ax Z ?_
        obtain rfl:=sj be
        obtain rfl:=bf _ rfl
        exact⟨_,Z,_,bg,f.k Z,m⟩
      ·rintro a w ⟨_,rfl,a9,bA,f,m⟩
       refine An ?_
       refine Ah f Z Z Av λa f=>Aa f Z λa f=>Ab ?_
       obtain rfl:=sj aX
       exact⟨_,Z,_,Z,_,(gt aZ bA),f.k Z,m⟩
     ·refine Ai f Z a0 ?_
      refine Ax Z ?_
      have m:Mem W aV w H:=Mem.drop (H':=[ib ad 27 [aa]]) m
      obtain rfl:=sj aX
      obtain rfl:=aY _ rfl
      exact⟨_,Z,_,aZ,f.weak trivial,m⟩
    ·rintro a w ⟨_,rfl,aS,bB,f,m⟩
     refine Af ?_
     refine Ac f Z λa f=>Ab ?_
     refine Aq ?_
     obtain rfl:=sj hd
     exact⟨[(.bool true)],f.g Z,f.d,_,[],(gt ag (gt aP bB)),m,Z,Z⟩
theorem Wk.e {x0:Int}(m:Mem W G w (H)){y:Int}(hd:D.e x0=some y):
  Calls prog 74 #[(iv x0)] w (Res W G H (λ_ Ho v=>Ho=[]∧v=(.int .u32 y))):=by
 refine As (args:=[(iv x0)]) (N:=5) [.tmp 2] func74 Z Z (lb Z) Z λa f=> ?_
 unfold D.e at hd
 refine Af ?_
 refine Ac f Z λa f=>Au ?_
 refine Aa f Z λa f=> ?_
 obtain⟨aa,hd⟩:=Dx hd
 refine l_o f (r_shl (f.e Z) (f.e Z) aa) λa f=>Ac f Z λa f=>Ab ?_
 refine Aq ?_
 obtain rfl:=sj hd
 exact⟨[(.int .u32 (ishl .u32 1 x0))],f.g Z,f.d,_,[],gr,m,Z,Z⟩
theorem Wk.f0 {v0:Value}{x0:LI}(m:Mem W G w (H))(h0:R1 G v0 x0){y:Int}(hd:D.f0 x0=some y):
  Calls prog 72 #[v0] w (Res W G H (λ_ Ho v=>Ho=[]∧v=(.int .u32 y))):=by
 refine As (args:=[v0]) (N:=18) [.tmp 2] func72 Z Z (lb Z) Z λa f=> ?_
 unfold D.f0 at hd
 refine Af ?_
 refine Ac f Z λa f=>Au ?_
 refine Ac f Z λa f=>Ab (Ag (Af ?_))
 refine Aa f Z λa f=>AP underlying49 f Z Z h0 λa f=>Aa f Z λa f=>Ab ?_
 have⟨aa,ab,hd⟩:=bind_some hd
 refine AE (λa w=>∃ac:Int,ac=aa∧∃(ad:GH),GLe G ad∧Fr a 18 [(3,(.int .u32 ac))]∧Mem W ad w (H)) ?_ ?_
 ·refine Ak ?_
  refine Az (λae a w=>∃af:Int,∃ag:Int,(af,ag)=ae∧∃(ah:GH),GLe G ah∧Fr a 18 [(3,(.int .u32 af)),(6,v0),(7,(iv (x0.length:Int))),(8,(iv ag))]∧Mem W ah w (H)) ab ⟨_,_,Z,_,gr,f.k Z,m⟩ ?_
  clear ab f m
  rintro ae ai aj ak a w ⟨af,ag,rfl,ah,al,f,m⟩
  have h0:=rd1 al h0
  refine Af ?_
  refine Ah f Z Z Aw λa f=>Ab (Ag ?_)
  rcases Ae aj with⟨am,aj⟩|⟨am,aj⟩
  ·refine Al f Z am ?_
   refine Am ?_
   refine Ag (Ak (Af ?_))
   have⟨an,ao,aj⟩:=bind_some aj
   refine A8 T49 f Z Z Z h0 ao λap aq a ar au f=> ?_
   subst au
   refine AF m Pl2 f Z Z ar λa f=>Ac f Z λa f=>Ab (An ?_)
   refine Aa f Z λa f=>Aa f Z λa f=> ?_
   have⟨av,aw,aj⟩:=bind_some aj
   refine Ba f Z call74 (Wk.e m aw) λax w ay m a f=>Ah f Z Z b_or λa f=>Ac f Z λa f=>Ab (An ?_)
   refine Ah f Z Z Av λa f=>Aa f Z λa f=>Ab ?_
   obtain rfl:=sj aj
   exact⟨_,Z,_,_,Z,_,(gt al ay),f.k Z,m⟩
  ·refine Ai f Z am ?_
   refine Ax Z ?_
   obtain rfl:=sj aj
   obtain rfl:=ak _ rfl
   exact⟨_,Z,_,al,f.k Z,m⟩
 ·rintro a w ⟨ac,rfl,ad,az,f,m⟩
  refine Af ?_
  refine Aa f Z λa f=>Ac f Z λa f=>Ab ?_
  refine Aq ?_
  obtain rfl:=sj hd
  exact⟨[(.int .u32 ac)],f.g Z,f.d,_,[],az,m,Z,Z⟩
theorem Wk.b0 {aa:Value}{ab:LL}(m:Mem W G w (H))(ac:R2 G aa ab){y:(LI)}(hd:D.b0 ab=some y):
  Calls prog 33 #[(.agg #[aa])] w (Res W G H (λG' Ho v=>∃r0:Value,∃i0:Itm,Ho=[i0]∧r0=v∧Ow (RI .u32) 75 G' i0 r0 y)):=by
 refine As (args:=[(.agg #[aa])]) (N:=21) [.tmp 2] func33 Z Z (lb Z) Z λa f=> ?_
 unfold D.b0 at hd
 refine Af ?_
 refine B6 (cs:=[aa]) m f Z Z Z λad w a m f=>Ac f Z λa f=>Au ?_
 refine A3 (R:=(RI .u32)) (xs:=([]:LI)) (RI.one _) m T56 f Z Z Z (by decide) (All2.nil _) λae af w a m ag f=>Ac f Z λa f=>Ab (Ag (Af ?_))
 refine BM underlying27 Z sizeOf22 f Z λa f=>AW 1 0 m BG f Z Z Z Z λa f=>AP underlying22 f Z Z ac λa f=>Aa f Z λa f=>Ab ?_
 have⟨ah,ai,hd⟩:=bind_some hd
 refine AE (λa w=>∃aj:LI,aj=ah∧∃(ak:GH) (al:Value) (am:Itm),GLe G ak∧Fr a 21 [(3,al)]∧Mem W ak w (am::H)∧Ow (RI .u32) 75 ak am al aj) ?_ ?_
 ·refine Ak ?_
  have m:=m.eraseAt 1
  refine Az (λan a w=>∃ao:LI,∃ap:Int,(ao,ap)=an∧∃(aq:GH) (ar:Value) (au:Itm),GLe G aq∧Fr a 21 [(3,ar),(8,aa),(9,(iv (ab.length:Int))),(10,(iv ap))]∧Mem W aq w (au::H)∧Ow (RI .u32) 75 aq au ar ao) ai ⟨_,_,Z,_,af,ae,gr,f.k Z,m,ag⟩ ?_
  clear ai f m
  rintro an av aw ax a w ⟨ao,ap,rfl,aq,ar,au,ay,f,m,az⟩
  have ac:=rd2 ay ac
  refine Af ?_
  refine Ah f Z Z Aw λa f=>Ab (Ag ?_)
  rcases Ae aw with⟨aA,aw⟩|⟨aA,aw⟩
  ·refine Al f Z aA ?_
   refine Am ?_
   refine Ag (Ak (Af ?_))
   have⟨aB,aC,aw⟩:=bind_some aw
   refine A8 T22 f Z Z Z ac aC λaD aE a aF aG f=>AF m Bt f Z Z aF λa f=>Ac f Z λa f=>Ab (An ?_)
   refine Aa f Z λa f=>Aa f Z λa f=> ?_
   have⟨aH,aI,aw⟩:=bind_some aw
   refine Ba f Z call72 (Wk.f0 m aG aI) λaJ w aK m a f=> ?_
   have az:=od1 aK az
   refine A3 (R:=(RI .u32)) (xs:=([aH]:LI)) (RI.one _) m T56 f Z Z Z (by decide) (All2.cons Z (All2.nil _)) λaL aM w a m aN f=> ?_
   have⟨aO,aP,aw⟩:=bind_some aw
   refine Bm (RI.one _) 1 m az Z T56 Z (by decide) f Z Z Z (Ow.src (j:=0) aN m Z) aP λaQ aR w a m aS f=>Ac f Z λa f=>Ab (An ?_)
   refine Ah f Z Z Av λa f=>Aa f Z λa f=>Ab ?_
   have m:=m.fr 1
   have m:=m.eraseAt 1
   obtain rfl:=sj aw
   exact⟨_,Z,_,_,Z,_,aR,aQ,(gt ay aK),f.k Z,m,aS⟩
  ·refine Ai f Z aA ?_
   refine Ax Z ?_
   obtain rfl:=sj aw
   obtain rfl:=ax _ rfl
   exact⟨_,Z,_,ar,au,ay,f.k Z,m,az⟩
 ·rintro a w ⟨aj,rfl,ak,al,am,aT,f,m,aU⟩
  refine Af ?_
  refine Aa f Z λa f=>Ac f Z λa f=>Ab ?_
  refine Aq ?_
  obtain rfl:=sj hd
  exact⟨[al],f.g Z,f.d,_,[am],aT,m,_,_,Z,Z,aU⟩
theorem Wk.C0 {x0:Int}(m:Mem W G w (H)){y:Int}(hd:D.C0 x0=some y):
  Calls prog 94 #[(iv x0)] w (Res W G H (λ_ Ho v=>Ho=[]∧v=(.int .u32 y))):=by
 refine As (args:=[(iv x0)]) (N:=6) [.tmp 2] func94 Z Z (lb Z) Z λa f=> ?_
 unfold D.C0 at hd
 refine Af ?_
 refine Ac f Z λa f=>Au ?_
 refine Aa f Z λa f=> ?_
 obtain⟨aa,hd⟩:=Dx hd
 refine l_o f (r_shl (f.e Z) (f.e Z) aa) λa f=>Ah f Z Z AL λa f=>Ac f Z λa f=>Ab ?_
 refine Aq ?_
 obtain rfl:=sj hd
 exact⟨[(.int .u32 (IntKind.u32.wrap ((ishl .u32 1 x0)-1)))],f.g Z,f.d,_,[],gr,m,Z,Z⟩
theorem Wk.M {v0:Value}{x0:LI}(m:Mem W G w (H))(h0:RSl (RI .u32) G v0 x0){y:Int}(hd:D.M x0=some y):
  Calls prog 68 #[v0] w (Res W G H (λ_ Ho v=>Ho=[]∧v=(.int .u32 y))):=by
 refine As (args:=[v0]) (N:=6) [.tmp 2] func68 Z Z (lb Z) Z λa f=> ?_
 unfold D.M at hd
 refine Af ?_
 refine Ac f Z λa f=>Au ?_
 refine Aa f Z λa f=>AP underlying56 f Z Z h0 λa f=> ?_
 have⟨aa,ab,hd⟩:=bind_some hd
 refine Ba f Z call94 (Wk.C0 m ab) λac w ad m a f=>Ac f Z λa f=>Ab ?_
 refine Aq ?_
 obtain rfl:=sj hd
 exact⟨[(.int .u32 aa)],f.g Z,f.d,_,[],ad,m,Z,Z⟩
theorem Wk.q {x0:Int}(hW:Bn W)(m:Mem W G w (H)){y:Int}(hd:D.q x0=some y):
  Calls prog 93 #[(.int .u32 x0)] w (Res W G H (λ_ Ho v=>Ho=[]∧v=(iv y))):=by
 refine As (args:=[(.int .u32 x0)]) (N:=5) [.tmp 2] func93 Z Z (lb Z) Z λa f=> ?_
 unfold D.q at hd
 refine Af ?_
 refine Ac f Z λa f=>Au ?_
 refine Aa f Z λa f=> ?_
 have⟨aa,ab,hd⟩:=bind_some hd
 refine Ba f Z call109 (Wk.A0 hW m ab) λac w ad m a f=>Ac f Z λa f=>Ab ?_
 refine Aq ?_
 obtain rfl:=sj hd
 exact⟨[(iv aa)],f.g Z,f.d,_,[],ad,m,Z,Z⟩
theorem Wk.g {x0:Int}(hW:Bn W)(m:Mem W G w (H)){y:(LI)}(hd:D.g x0=some y):
  Calls prog 91 #[(.int .u32 x0)] w (Res W G H (λG' Ho v=>∃r0:Value,∃i0:Itm,Ho=[i0]∧r0=v∧Ow R0 3 G' i0 r0 y)):=by
 refine As (args:=[(.int .u32 x0)]) (N:=17) [.tmp 2] func91 Z Z (lb Z) Z λa f=> ?_
 unfold D.g at hd
 refine Af ?_
 refine Ac f Z λa f=>Au ?_
 refine A3 (R:=R0) (xs:=([]:LI)) (RI.one _) m T71 f Z Z Z (by decide) (All2.nil _) λaa ab w a m ac f=>Ac f Z λa f=>Ab (Ag ?_)
 have⟨ad,ae,hd⟩:=bind_some hd
 refine AE (λa w=>∃af:LI,af=ad∧∃(ag:GH) (ah:Value) (ai:Itm),GLe G ag∧Fr a 17 [(3,ah)]∧Mem W ag w (ai::H)∧Ow R0 3 ag ai ah af) ?_ ?_
 ·refine Ak ?_
  refine Az (λaj a w=>∃ak:Int,∃al:LI,(ak,al)=aj∧∃(am:GH) (an:Value) (ao:Itm),GLe G am∧Fr a 17 [(0,(.int .u32 ak)),(3,an)]∧Mem W am w (ao::H)∧Ow R0 3 am ao an al) ae ⟨_,_,Z,_,ab,aa,gr,f.k Z,m,ac⟩ ?_
  clear ae f m
  rintro aj ap aq ar a w ⟨ak,al,rfl,am,an,ao,au,f,m,av⟩
  refine Ag (Af ?_)
  refine Aa f Z λa f=>Ah f Z Z B5 λa f=>Ab ?_
  rcases Ae aq with⟨aw,aq⟩|⟨aw,aq⟩
  ·refine Al f Z aw ?_
   refine Am ?_
   refine Ag (Ak (An ?_))
   refine Aa f Z λa f=>Aa f Z λa f=> ?_
   have⟨ax,ay,aq⟩:=bind_some aq
   refine Ba f Z call93 (Wk.q hW m ay) λaz w aA m a f=> ?_
   have av:=od1 aA av
   refine A3 (R:=R0) (xs:=([ax]:LI)) (RI.one _) m T71 f Z Z Z (by decide) (All2.cons Z (All2.nil _)) λaB aC w a m aD f=> ?_
   have⟨aE,aF,aq⟩:=bind_some aq
   refine Bm (RI.one _) 1 m av Z T71 Z (by decide) f Z Z Z (Ow.src (j:=0) aD m Z) aF λaG aH w a m aI f=>Ac f Z λa f=>Ab (An ?_)
   refine Aa f Z λa f=>Aa f Z λa f=>Ah f Z Z AL λa f=>Ah f Z Z b_and λa f=>Ac f Z λa f=>Ab ?_
   have m:=m.fr 1
   have m:=m.eraseAt 1
   obtain rfl:=sj aq
   exact⟨_,Z,_,_,Z,_,aH,aG,(gt au aA),f.k Z,m,aI⟩
  ·refine Ai f Z aw ?_
   refine Ax Z ?_
   obtain rfl:=sj aq
   obtain rfl:=ar _ rfl
   exact⟨_,Z,_,an,ao,au,f.k Z,m,av⟩
 ·rintro a w ⟨af,rfl,ag,ah,ai,aJ,f,m,aK⟩
  refine Af ?_
  refine Aa f Z λa f=>Ac f Z λa f=>Ab ?_
  refine Aq ?_
  obtain rfl:=sj hd
  exact⟨[ah],f.g Z,f.d,_,[ai],aJ,m,_,_,Z,Z,aK⟩
theorem Wk.O {v0:Value}{x0:LI}{x1 x2:Int}(hW:Bn W)(m:Mem W G w (H))(h0:RSl (RI .u32) G v0 x0){y:Int}(hd:D.O x0 x1 x2=some y):
  Calls prog 92 #[v0,(iv x1),(.int .u32 x2)] w (Res W G H (λ_ Ho v=>Ho=[]∧v=(.int .u32 y))):=by
 refine As (args:=[v0,(iv x1),(.int .u32 x2)]) (N:=35) [.tmp 6] func92 Z Z (lb Z) Z λa f=> ?_
 unfold D.O at hd
 refine Af ?_
 refine Ac f Z λa f=>Au ?_
 refine Aa f Z λa f=> ?_
 have⟨aa,ab,hd⟩:=bind_some hd
 refine Ba f Z call74 (Wk.e m ab) λac w ad m a f=> ?_
 have h0:=rd1 ad h0
 refine Ac f Z λa f=>Ab ?_
 have⟨ae,af,hd⟩:=bind_some hd
 refine Ak ?_
 refine Az (λag a w=>∃ah:Int,ah=ag∧∃(ai:GH),GLe ac ai∧Fr a 35 [(0,v0),(2,(.int .u32 x2)),(7,(.int .u32 ah))]∧Mem W ai w (H)) af ⟨_,Z,_,gr,f.k Z,m⟩ ?_
 clear af f m
 rintro ag aj ak al a w ⟨ah,rfl,ai,am,f,m⟩
 have h0:=rd1 am h0
 refine Ak (Af ?_)
 refine Aa f Z λa f=>Ac f Z λa f=>Ab (Ag (Af ?_))
 refine Aa f Z λa f=> ?_
 have⟨an,ao,ak⟩:=bind_some ak
 refine AM f Z call91 (Wk.g hW m ao) λap aq ar w au m av a f=> ?_
 obtain⟨aw,ax,rfl,rfl,ay⟩:=av
 have h0:=rd1 au h0
 refine BQ 0 m ay Z underlying71 f Z Z λa f=>Aa f Z λa f=>Ab ?_
 have⟨az,aA,ak⟩:=bind_some ak
 refine AE (λa w=>∃aB:Int,aB=az∧∃(aC:GH),GLe aq aC∧Fr a 35 [(0,v0),(2,(.int .u32 x2)),(7,(.int .u32 ah)),(8,(.int .u32 aB))]∧Mem W aC w (H)) ?_ ?_
 ·refine Ak ?_
  refine Az (λaD a w=>∃aE:Int,∃aF:Int,(aE,aF)=aD∧∃(aG:GH),GLe aq aG∧Fr a 35 [(0,v0),(2,(.int .u32 x2)),(7,(.int .u32 ah)),(8,(.int .u32 aE)),(15,aw),(16,(iv (an.length:Int))),(17,(iv aF))]∧Mem W aG w (ax::H)) aA ⟨_,_,Z,_,gr,f.k Z,m⟩ ?_
  clear aA f m
  rintro aD aH aI aJ a w ⟨aE,aF,rfl,aG,aK,f,m⟩
  have h0:=rd1 aK h0
  have ay:=od1 aK ay
  refine Af ?_
  refine Ah f Z Z Aw λa f=>Ab (Ag ?_)
  rcases Ae aI with⟨aL,aI⟩|⟨aL,aI⟩
  ·refine Al f Z aL ?_
   refine Am ?_
   refine Ag (Ak (Af ?_))
   have⟨aM,aN,aI⟩:=bind_some aI
   refine A4 0 m ay Z T71 f Z Z Z aN λaO a aP f=>B7 0 m ay Z Pl3 f Z Z aP aN λaQ a aR f=> ?_
   subst aR
   refine Ac f Z λa f=>Ab (An ?_)
   refine Aa f Z λa f=>Aa f Z λa f=>Aa f Z λa f=> ?_
   have⟨aS,aT,aI⟩:=bind_some aI
   refine A8 T56 f Z Z Z h0 aT λaU aV a aW aX f=> ?_
   subst aX
   refine AF m AR f Z Z aW λa f=>Aa f Z λa f=>Ah f Z Z b_and λa f=>Ah f Z Z b_or λa f=>Ac f Z λa f=>Ab (An ?_)
   refine Ah f Z Z Av λa f=>Aa f Z λa f=>Ab ?_
   obtain rfl:=sj aI
   exact⟨_,Z,_,_,Z,_,aK,f.k Z,m⟩
  ·refine Ai f Z aL ?_
   refine Ax Z ?_
   have m:Mem W aG w H:=Mem.drop (H':=[ax]) m
   obtain rfl:=sj aI
   obtain rfl:=aJ _ rfl
   exact⟨_,Z,_,aK,f.k Z,m⟩
 ·rintro a w ⟨aB,rfl,aC,aY,f,m⟩
  refine Ag (Af ?_)
  refine Aa f Z λa f=>Aa f Z λa f=>Ah f Z Z BO λa f=>Ab ?_
  rcases Ae ak with⟨aZ,ak⟩|⟨aZ,ak⟩
  ·refine Al f Z aZ ?_
   refine Af ?_
   refine Aa f Z λa f=>Ac f Z λa f=>Ab ?_
   refine Aq ?_
   obtain rfl:=sj ak
   obtain rfl:=al _ rfl
   obtain rfl:=sj hd
   exact⟨[(.int .u32 ah)],f.g Z,f.d,_,[],(gt ad (gt am (gt au aY))),m,Z,Z⟩
  ·refine Ai f Z aZ ?_
   refine Am ?_
   refine An ?_
   refine Aa f Z λa f=>Ac f Z λa f=>Ab ?_
   obtain rfl:=sj ak
   exact⟨_,Z,_,Z,_,(gt am (gt au aY)),f.k Z,m⟩
theorem Wk.r {v0:Value}{x0:LI}{x1:Int}(hW:Bn W)(m:Mem W G w (H))(h0:RSl (RI .u32) G v0 x0){y:(LI)}(hd:D.r x0 x1=some y):
  Calls prog 67 #[v0,(.int .u32 x1)] w (Res W G H (λG' Ho v=>∃r0:Value,∃i0:Itm,Ho=[i0]∧r0=v∧Ow (RI .u32) 75 G' i0 r0 y)):=by
 refine As (args:=[v0,(.int .u32 x1)]) (N:=23) [.tmp 4] func67 Z Z (lb Z) Z λa f=> ?_
 unfold D.r at hd
 refine Af ?_
 refine Ac f Z λa f=>Au ?_
 refine A3 (R:=(RI .u32)) (xs:=([]:LI)) (RI.one _) m T54 f Z Z Z (by decide) (All2.nil _) λaa ab w a m ac f=>Ac f Z λa f=>Ab (Ag ?_)
 have⟨ad,ae,hd⟩:=bind_some hd
 refine AE (λa w=>∃af:LI,af=ad∧∃(ag:GH) (ah:Value) (ai:Itm),GLe G ag∧Fr a 23 [(5,ah)]∧Mem W ag w (ai::H)∧Ow (RI .u32) 75 ag ai ah af) ?_ ?_
 ·refine Ak ?_
  refine Az (λaj a w=>∃ak:Int,∃al:LI,(ak,al)=aj∧∃(am:GH) (an:Value) (ao:Itm),GLe G am∧Fr a 23 [(0,v0),(1,(.int .u32 ak)),(5,an)]∧Mem W am w (ao::H)∧Ow (RI .u32) 75 am ao an al) ae ⟨_,_,Z,_,ab,aa,gr,f.k Z,m,ac⟩ ?_
  clear ae f m
  rintro aj ap aq ar a w ⟨ak,al,rfl,am,an,ao,au,f,m,av⟩
  have h0:=rd1 au h0
  refine Ag (Af ?_)
  refine Aa f Z λa f=>Ah f Z Z B5 λa f=>Ab ?_
  rcases Ae aq with⟨aw,aq⟩|⟨aw,aq⟩
  ·refine Al f Z aw ?_
   refine Am ?_
   refine Ak (Af ?_)
   refine Aa f Z λa f=>Aa f Z λa f=> ?_
   have⟨ax,ay,aq⟩:=bind_some aq
   refine Ba f Z call93 (Wk.q hW m ay) λaz w aA m a f=> ?_
   have h0:=rd1 aA h0
   have av:=od1 aA av
   refine Aa f Z λa f=> ?_
   have⟨aB,aC,aq⟩:=bind_some aq
   refine Ba f Z call92 (Wk.O hW m h0 aC) λaD w aE m a f=> ?_
   have av:=od1 aE av
   refine Ac f Z λa f=>Au ?_
   refine Aa f Z λa f=>Aa f Z λa f=>A3 (R:=(RI .u32)) (xs:=([aB]:LI)) (RI.one _) m T54 f Z Z Z (by decide) (All2.cons Z (All2.nil _)) λaF aG w a m aH f=> ?_
   have⟨aI,aJ,aq⟩:=bind_some aq
   refine Bm (RI.one _) 1 m av Z T54 Z (by decide) f Z Z Z (Ow.src (j:=0) aH m Z) aJ λaK aL w a m aM f=>Ac f Z λa f=>Ab (An ?_)
   refine Aa f Z λa f=>Aa f Z λa f=>Ah f Z Z b_andNot λa f=>Ac f Z λa f=>Ab ?_
   have m:=m.fr 1
   have m:=m.eraseAt 1
   obtain rfl:=sj aq
   exact⟨_,Z,_,_,Z,_,aL,aK,(gt au (gt aA aE)),f.k Z,m,aM⟩
  ·refine Ai f Z aw ?_
   refine Ax Z ?_
   obtain rfl:=sj aq
   obtain rfl:=ar _ rfl
   exact⟨_,Z,_,an,ao,au,f.k Z,m,av⟩
 ·rintro a w ⟨af,rfl,ag,ah,ai,aN,f,m,aO⟩
  refine Af ?_
  refine Aa f Z λa f=>Ac f Z λa f=>Ab ?_
  refine Aq ?_
  obtain rfl:=sj hd
  exact⟨[ah],f.g Z,f.d,_,[ai],aN,m,_,_,Z,Z,aO⟩
theorem Wk.c0 {v0:Value}{x0:LI}{x1:Int}(hW:Bn W)(m:Mem W G w (H))(h0:RSl (RI .u32) G v0 x0){y:Int}(hd:D.c0 x0 x1=some y):
  Calls prog 95 #[v0,(.int .u32 x1)] w (Res W G H (λ_ Ho v=>Ho=[]∧v=(.int .u32 y))):=by
 refine As (args:=[v0,(.int .u32 x1)]) (N:=35) [.tmp 4] func95 Z Z (lb Z) Z λa f=> ?_
 unfold D.c0 at hd
 refine Af ?_
 refine Ac f Z λa f=>Au ?_
 refine Aa f Z λa f=>Aa f Z λa f=> ?_
 have⟨aa,ab,hd⟩:=bind_some hd
 refine AM f Z call67 (Wk.r hW m h0 ab) λac ad ae w af m ag a f=> ?_
 obtain⟨ah,ai,rfl,rfl,aj⟩:=ag
 have h0:=rd1 af h0
 refine BQ 0 m aj Z underlying54 f Z Z λa f=>Ac f Z λa f=>Ac f Z λa f=>Ab (Ag (Af ?_))
 refine Aa f Z λa f=> ?_
 have⟨ak,al,hd⟩:=bind_some hd
 refine AM f Z call91 (Wk.g hW m al) λam an ao w ap m aq a f=> ?_
 obtain⟨ar,au,rfl,rfl,av⟩:=aq
 have h0:=rd1 ap h0
 refine BQ 0 m av Z underlying71 f Z Z λa f=>Aa f Z λa f=>Ab ?_
 have⟨aw,ax,hd⟩:=bind_some hd
 refine AE (λa w=>∃ay:Int,ay=aw∧∃(az:GH),GLe an az∧Fr a 35 [(5,(.int .u32 ay))]∧Mem W az w (H)) ?_ ?_
 ·refine Ak ?_
  have m:=m.eraseAt 1
  refine Az (λaA a w=>∃aB:Int,∃aC:Int,(aB,aC)=aA∧∃(aD:GH),GLe an aD∧Fr a 35 [(0,v0),(1,(.int .u32 x1)),(5,(.int .u32 aB)),(6,(iv (aa.length:Int))),(14,ar),(15,(iv (ak.length:Int))),(16,(iv aC))]∧Mem W aD w (au::H)) ax ⟨_,_,Z,_,gr,f.k Z,m⟩ ?_
  clear ax f m
  rintro aA aE aF aG a w ⟨aB,aC,rfl,aD,aH,f,m⟩
  have h0:=rd1 aH h0
  have av:=od1 aH av
  refine Af ?_
  refine Ah f Z Z Aw λa f=>Ab (Ag ?_)
  rcases Ae aF with⟨aI,aF⟩|⟨aI,aF⟩
  ·refine Al f Z aI ?_
   refine Am ?_
   refine Ag (Ak (Af ?_))
   have⟨aJ,aK,aF⟩:=bind_some aF
   refine A4 0 m av Z T71 f Z Z Z aK λaL a aM f=>B7 0 m av Z Pl3 f Z Z aM aK λaN a aO f=> ?_
   subst aO
   refine Ac f Z λa f=>Au ?_
   refine Aa f Z λa f=>Aa f Z λa f=>Aa f Z λa f=> ?_
   have⟨aP,aQ,aF⟩:=bind_some aF
   refine Ba f Z call74 (Wk.e m aQ) λaR w aS m a f=> ?_
   have h0:=rd1 aS h0
   refine Ah f Z Z b_andNot λa f=> ?_
   have⟨aT,aU,aF⟩:=bind_some aF
   refine AM f Z call67 (Wk.r hW m h0 aU) λaV aW aX w aY m aZ a f=> ?_
   obtain⟨a0,a1,rfl,rfl,a2⟩:=aZ
   refine BQ 0 m a2 Z underlying54 f Z Z λa f=>Aa f Z λa f=>Ah f Z Z Cw λa f=>Ab ?_
   rcases Ae aF with⟨a3,aF⟩|⟨a3,aF⟩
   ·refine Al f Z a3 ?_
    refine An ?_
    refine Aa f Z λa f=>Aa f Z λa f=> ?_
    have⟨a4,a5,aF⟩:=bind_some aF
    refine Ba f Z call74 (Wk.e m a5) λa6 w a7 m a f=>Ah f Z Z b_or λa f=>Ac f Z λa f=>Ab (An ?_)
    refine Ah f Z Z Av λa f=>Aa f Z λa f=>Ab ?_
    have m:=m.fr 1
    have m:=m.eraseAt 1
    obtain rfl:=sj aF
    exact⟨_,Z,_,_,Z,_,(gt aH (gt aS (gt aY a7))),f.k Z,m⟩
   ·refine Ai f Z a3 ?_
    refine Am ?_
    refine An ?_
    refine Ah f Z Z Av λa f=>Aa f Z λa f=>Ab ?_
    have m:=m.fr 1
    have m:=m.eraseAt 1
    obtain rfl:=sj aF
    exact⟨_,Z,_,_,Z,_,(gt aH (gt aS aY)),f.k Z,m⟩
  ·refine Ai f Z aI ?_
   refine Ax Z ?_
   have m:Mem W aD w H:=Mem.drop (H':=[au]) m
   obtain rfl:=sj aF
   obtain rfl:=aG _ rfl
   exact⟨_,Z,_,aH,f.k Z,m⟩
 ·rintro a w ⟨ay,rfl,az,a8,f,m⟩
  refine Af ?_
  refine Aa f Z λa f=>Ac f Z λa f=>Ab ?_
  refine Aq ?_
  obtain rfl:=sj hd
  exact⟨[(.int .u32 ay)],f.g Z,f.d,_,[],(gt af (gt ap a8)),m,Z,Z⟩
theorem Wk.t {W:World}(hW:Bn W)(n:Nat):∀{w:World} {G:GH} {H:List Itm} {v0 v2:Value} {it2:Itm} {x0:LI} {x1:Int} {x2:LI} (m:Mem W G w (it2::H)) (h0:RSl (RI .u32) G v0 x0) (o2:Ow (RI .u32) 75 G it2 v2 x2) {y:(LI)} (hd:D.t n x0 x1 x2=some y),
  Calls prog 69 #[v0,(.int .u32 x1),v2] w (Res W G H (λG' Ho v=>∃r0:Value,∃i0:Itm,Ho=[i0]∧r0=v∧Ow (RI .u32) 75 G' i0 r0 y)):=by
 induction n with
 |zero=>intros;rename_i hd;simp[D.t] at hd
 |succ fuel ih=>
  intro w G H v0 v2 it2 x0 x1 x2 m h0 o2 y hd
  refine As (args:=[v0,(.int .u32 x1),v2]) (N:=41) [.tmp 6] func69 Z Z (lb Z) Z λa f=> ?_
  unfold D.t at hd
  refine Af ?_
  refine Ac f Z λa f=>Au ?_
  refine Aa f Z λa f=>Aa f Z λa f=> ?_
  have⟨aa,ab,hd⟩:=bind_some hd
  refine Ba f Z call95 (Wk.c0 hW m h0 ab) λac w ad m a f=> ?_
  have h0:=rd1 ad h0
  have o2:=od1 ad o2
  refine Ac f Z λa f=>Ab (Ag (Af ?_))
  refine Aa f Z λa f=>Ah f Z Z BO λa f=>Ab ?_
  rcases Ae hd with⟨ae,hd⟩|⟨ae,hd⟩
  ·refine Al f Z ae ?_
   refine Af ?_
   refine Aa f Z λa f=>Aa f Z λa f=>A3 (R:=(RI .u32)) (xs:=([x1]:LI)) (RI.one _) m T54 f Z Z Z (by decide) (All2.cons Z (All2.nil _)) λaf ag w a m ah f=> ?_
   have⟨ai,aj,hd⟩:=bind_some hd
   refine Bm (RI.one _) 1 m o2 Z T54 Z (by decide) f Z Z Z (Ow.src (j:=0) ah m Z) aj λak al w a m am f=>Ac f Z λa f=>Ab ?_
   refine Aq ?_
   have m:=m.fr 1
   have m:=m.eraseAt 1
   obtain rfl:=sj hd
   exact⟨[al],f.g Z,f.d,_,[ak],ad,m,_,_,Z,Z,am⟩
  ·refine Ai f Z ae ?_
   refine Am ?_
   refine Af ?_
   refine Aa f Z λa f=> ?_
   have⟨an,ao,hd⟩:=bind_some hd
   refine Ba f Z call93 (Wk.q hW m ao) λap w aq m a f=> ?_
   have h0:=rd1 aq h0
   have o2:=od1 aq o2
   have⟨ar,au,hd⟩:=bind_some hd
   refine Ba f Z call74 (Wk.e m au) λav w aw m a f=> ?_
   have h0:=rd1 aw h0
   have o2:=od1 aw o2
   refine Ac f Z λa f=>Ab (Ag (Af ?_))
   refine Aa f Z λa f=>Aa f Z λa f=>Aa f Z λa f=>Ah f Z Z b_andNot λa f=> ?_
   have⟨ax,ay,hd⟩:=bind_some hd
   refine AM f Z call67 (Wk.r hW m h0 ay) λaz aA aB w aC m aD a f=> ?_
   obtain⟨aE,aF,rfl,rfl,aG⟩:=aD
   have h0:=rd1 aC h0
   have o2:=od1 aC o2
   refine BQ 0 m aG Z underlying54 f Z Z λa f=>Aa f Z λa f=>Ab ?_
   have⟨aH,aI,hd⟩:=bind_some hd
   refine AE (λa w=>∃aJ:LI,aJ=aH∧∃(aK:GH) (aL:Value) (aM:Itm),GLe aA aK∧Fr a 41 [(2,aL)]∧Mem W aK w (aM::H)∧Ow (RI .u32) 75 aK aM aL aJ) ?_ ?_
   ·refine Ak ?_
    have m:=m.fr 1
    refine Az (λaN a w=>∃aO:LI,∃aP:Int,(aO,aP)=aN∧∃(aQ:GH) (aR:Value) (aS:Itm),GLe aA aQ∧Fr a 41 [(0,v0),(2,aR),(8,(.int .u32 ar)),(27,aE),(28,(iv (ax.length:Int))),(29,(iv aP))]∧Mem W aQ w (aS::aF::H)∧Ow (RI .u32) 75 aQ aS aR aO) aI ⟨_,_,Z,_,v2,it2,gr,f.k Z,m,o2⟩ ?_
    clear aI f m
    rintro aN aT aU aV a w ⟨aO,aP,rfl,aQ,aR,aS,aW,f,m,aX⟩
    have h0:=rd1 aW h0
    have aG:=od1 aW aG
    refine Af ?_
    refine Ah f Z Z Aw λa f=>Ab (Ag ?_)
    rcases Ae aU with⟨aY,aU⟩|⟨aY,aU⟩
    ·refine Al f Z aY ?_
     refine Am ?_
     refine Ag (Ak (Af ?_))
     have⟨aZ,a0,aU⟩:=bind_some aU
     refine A4 1 m aG Z T54 f Z Z Z a0 λa1 a a2 f=>B7 1 m aG Z AR f Z Z a2 a0 λa3 a a4 f=> ?_
     subst a4
     refine Ac f Z λa f=>Ab (An ?_)
     refine Aa f Z λa f=>Aa f Z λa f=>Aa f Z λa f=>Ah f Z Z b_or λa f=>Aa f Z λa f=> ?_
     have⟨a5,a6,aU⟩:=bind_some aU
     refine AM f Z call69 (ih m h0 aX a6) λa7 a8 a9 w ba m bb a f=> ?_
     obtain⟨bc,bd,rfl,rfl,be⟩:=bb
     refine Ac f Z λa f=>Ab (An ?_)
     refine Ah f Z Z Av λa f=>Aa f Z λa f=>Ab ?_
     obtain rfl:=sj aU
     exact⟨_,Z,_,_,Z,_,bc,bd,(gt aW ba),f.k Z,m,be⟩
    ·refine Ai f Z aY ?_
     refine Ax Z ?_
     have m:=m.eraseAt 1
     obtain rfl:=sj aU
     obtain rfl:=aV _ rfl
     exact⟨_,Z,_,aR,aS,aW,f.k Z,m,aX⟩
   ·rintro a w ⟨aJ,rfl,aK,aL,aM,bf,f,m,bg⟩
    refine Af ?_
    refine Aa f Z λa f=>Ac f Z λa f=>Ab ?_
    refine Aq ?_
    obtain rfl:=sj hd
    exact⟨[aL],f.g Z,f.d,_,[aM],(gt ad (gt aq (gt aw (gt aC bf)))),m,_,_,Z,Z,bg⟩
theorem Wk.f {v0 v2:Value}{it2:Itm}{x0:LI}{x1:Int}{x2:LI}(hW:Bn W)(m:Mem W G w (it2::H))(h0:RSl (RI .u32) G v0 x0)(o2:Ow (RI .u32) 75 G it2 v2 x2){y:(LI)}(hd:D.f x0 x1 x2=some y):
  Calls prog 69 #[v0,(.int .u32 x1),v2] w (Res W G H (λG' Ho v=>∃r0:Value,∃i0:Itm,Ho=[i0]∧r0=v∧Ow (RI .u32) 75 G' i0 r0 y)):=by
 exact Wk.t hW BJ m h0 o2 hd
theorem Wk.a {x0 x1:Int}(hW:Bn W)(m:Mem W G w (H)){y:Int}(hd:D.a x0 x1=some y):
  Calls prog 71 #[(.int .u32 x0),(.int .u32 x1)] w (Res W G H (λ_ Ho v=>Ho=[]∧v=(iv y))):=by
 refine As (args:=[(.int .u32 x0),(.int .u32 x1)]) (N:=10) [.tmp 4] func71 Z Z (lb Z) Z λa f=> ?_
 unfold D.a at hd
 refine Af ?_
 refine Ac f Z λa f=>Au ?_
 refine Aa f Z λa f=> ?_
 have⟨aa,ab,hd⟩:=bind_some hd
 refine AM f Z call91 (Wk.g hW m ab) λac ad ae w af m ag a f=> ?_
 obtain⟨ah,ai,rfl,rfl,aj⟩:=ag
 refine Aa f Z λa f=> ?_
 have⟨ak,al,hd⟩:=bind_some hd
 refine AM f Z call91 (Wk.g hW m al) λam an ao w ap m aq a f=> ?_
 obtain⟨ar,au,rfl,rfl,av⟩:=aq
 have aj:=od1 ap aj
 have⟨aw,ax,hd⟩:=bind_some hd
 refine AM f Z call98 (Ow.lendCall (RI.mono _) 1 aj m Z (λay az m aA=>(Ow.lendCall (RI.mono _) 0 (od1 az av) m Z (λaB aC m aD=>Wk.n0 m (rd1 aC aA) aD ax) (λ_ _ _ _ h=>h))) (λ_ _ _ _ h=>h)) λaE aF aG w aH m aI a f=> ?_
 obtain⟨rfl,rfl⟩:=aI
 refine Ac f Z λa f=>Ab ?_
 refine Aq ?_
 have m:Mem W aF w H:=Mem.drop (H':=[au,ai]) m
 obtain rfl:=sj hd
 exact⟨[(iv aw)],f.g Z,f.d,_,[],(gt af (gt ap aH)),m,Z,Z⟩
theorem Wk.q0 {v0:Value}{it0:Itm}{x0:LI}{x1 x2:Int}(hW:Bn W)(m:Mem W G w (it0::H))(o0:Ow (RI .u32) 75 G it0 v0 x0){y:(LI)}(hd:D.q0 x0 x1 x2=some y):
  Calls prog 110 #[v0,(iv x1),(iv x2),(.func (.func 71) #[] #[])] w (Res W G H (λG' Ho _=>∃i0:Itm,Ho=[i0]∧Ow (RI .u32) 75 G' i0 v0 y)):=by
 refine As (args:=[v0,(iv x1),(iv x2),(.func (.func 71) #[] #[])]) (N:=53) [] func110 Z Z (lb Z) Z λa f=> ?_
 unfold D.q0 at hd
 refine Af ?_
 refine Aa f Z λa f=>Ah f Z Z Av λa f=>Ac f Z λa f=>Ab ?_
 have⟨aa,ab,hd⟩:=bind_some hd
 refine AE (λa w=>∃ac:LI,ac=aa∧∃(ad:GH) (ae:Itm),GLe G ad∧Fr a 53 []∧Mem W ad w (ae::H)∧Ow (RI .u32) 75 ad ae v0 ac) ?_ ?_
 ·refine Ak ?_
  refine Az (λaf a w=>∃ag:LI,∃ah:Int,(ag,ah)=af∧∃(ai:GH) (aj:Itm),GLe G ai∧Fr a 53 [(0,v0),(1,(iv x1)),(2,(iv x2)),(3,(.func (.func 71) #[] #[])),(8,(iv ah))]∧Mem W ai w (aj::H)∧Ow (RI .u32) 75 ai aj v0 ag) ab ⟨_,_,Z,_,it0,gr,f.k Z,m,o0⟩ ?_
  clear ab f m
  rintro af ak al am a w ⟨ag,ah,rfl,ai,aj,an,f,m,ao⟩
  refine Ag (Af ?_)
  refine Aa f Z λa f=>Aa f Z λa f=>Ah f Z Z Aw λa f=>Ab ?_
  rcases Ae al with⟨ap,al⟩|⟨ap,al⟩
  ·refine Al f Z ap ?_
   refine Am ?_
   refine Ag (Ak (Af ?_))
   refine Aa f Z λa f=>Ac f Z λa f=>Ab ?_
   have⟨aq,ar,al⟩:=bind_some al
   refine AE (λa w=>∃au:LI,au=aq∧∃(av:GH) (aw:Itm),GLe ai av∧Fr a 53 [(0,v0),(1,(iv x1)),(2,(iv x2)),(3,(.func (.func 71) #[] #[])),(8,(iv ah))]∧Mem W av w (aw::H)∧Ow (RI .u32) 75 av aw v0 au) ?_ ?_
   ·refine Ak ?_
    refine Az (λax a w=>∃ay:LI,∃az:Int,(ay,az)=ax∧∃(aA:GH) (aB:Itm),GLe ai aA∧Fr a 53 [(0,v0),(1,(iv x1)),(2,(iv x2)),(3,(.func (.func 71) #[] #[])),(8,(iv ah)),(9,(iv az))]∧Mem W aA w (aB::H)∧Ow (RI .u32) 75 aA aB v0 ay) ar ⟨_,_,Z,_,aj,gr,f.k Z,m,ao⟩ ?_
    clear ar f m
    rintro ax aC aD aE a w ⟨ay,az,rfl,aA,aB,aF,f,m,aG⟩
    refine Ag (Ag ?_)
    refine A6 17 AI (by kernel_rfl) m ?_
    refine Aj 0 17 Z f Z λa f=>Aj 1 17 Z f Z λa f=>q_p 2 17 Z f (λ_=>AH (f.e Z) (f.e Z) Cw) λa f=>Aj 3 17 Z f Z λa f=> ?_
    have⟨aH,aI,aD⟩:=bind_some aD
    refine Cu (fuel':=0) (listed':= #[true,true,true,true,true,true,true,true,true,true,true,true,true,true,true,true,true]) (λa=>Fr a 53 [(0,v0),(1,(iv x1)),(2,(iv x2)),(3,(.func (.func 71) #[] #[])),(8,(iv ah)),(9,(iv az)),(18,(iv az)),(19,(iv x1)),(20,(.bool (decide (x1<az)))),(21,(.bool (decide (x1<az)))),(34,(.bool aH))]) ?_ ?_
    ·intro a f
     refine A2 λaJ w aK m=> ?_
     have aG:=od1 aK aG
     refine Ab ?_
     rcases Ae aD with⟨aL,aD⟩|⟨aL,aD⟩
     ·refine Al f Z aL ?_
      refine Am ?_
      refine Ag (Ak ?_)
      refine Bq AI m ?_
      refine p_p 2 Z f (λ_=>A1 (f.e Z)) λa f=>p_p 3 Z f (λ_=>A1 (f.e Z)) λa f=>p_p 4 Z f (λ_=>AH (f.e Z) (f.e Z) AL) λa f=>Br 28015 12 (by kernel_rfl) Z ?_
      refine Aj 0 28015 Z f Z λa f=>Aj 1 28015 Z f Z λa f=>Aj 5 28015 Z f Z λa f=>Aj 6 28015 Z f Z λa f=>q_p 7 28015 Z f (λ_=>AH (f.e Z) (f.e Z) AL) λa f=> ?_
      have⟨aM,aN,aD⟩:=bind_some aD
      refine AJ 8 28015 0 m aG T54 aN Z f Z Z λaO a aP f=>AV 9 28015 0 aG AR aP aN Z f Z λaQ a aR f=> ?_
      subst aR
      refine Aj 10 28015 Z f Z λa f=>Aj 11 28015 Z f Z λa f=> ?_
      have⟨aS,aT,aD⟩:=bind_some aD
      refine AJ 12 28015 0 m aG T54 aT Z f Z Z λaU a aV f=>AV 13 28015 0 aG AR aV aT Z f Z λaW a aX f=> ?_
      subst aX
      have⟨aY,aZ,aD⟩:=bind_some aD
      refine AJ 14 28015 0 m aG T54 aZ Z f Z Z λa0 a a1 f=>A2 λa2 w a3 m=> ?_
      have aG:=od1 a3 aG
      refine AB 0 m aG Z sizeOf75 f Z Z a1 aZ Z Z Z λa4 w m a5=> ?_
      have⟨a6,a7,aD⟩:=bind_some aD
      refine A4 0 m a5 Z T54 f Z Z Z a7 λa8 a a9 f=>AB 0 m a5 Z sizeOf75 f Z Z a9 a7 Z Z Z λba w m bb=>Ab (An ?_)
      refine Aa f Z λa f=>Ah f Z Z AL λa f=>Ac f Z λa f=>Ab ?_
      obtain rfl:=sj aD
      exact⟨_,Z,_,_,Z,_,ba,(gt aF (gt aK a3)),f.k Z,m,bb⟩
     ·refine Ai f Z aL ?_
      refine Ax Z ?_
      obtain rfl:=sj aD
      obtain rfl:=aE _ rfl
      exact⟨_,Z,_,aB,(gt aF aK),f.k Z,m,aG⟩
    ·intro bc
     rcases Ae aI with⟨bd,aI⟩|⟨bd,aI⟩
     ·refine Aj (hw:=wo f bd) 4 17 Z f Z λa f=> ?_
      refine Aj (hw:=wo f bd) 5 17 Z f Z λa f=>Aj (hw:=wo f bd) 6 17 Z f Z λa f=> ?_
      have⟨be,bf,aI⟩:=bind_some aI
      refine AJ (hw:=wo f bd) 7 17 0 m aG T54 bf Z f Z Z λbg a bh f=>AV (hw:=wo f bd) 8 17 0 aG AR bh bf Z f Z λbi a bj f=> ?_
      subst bj
      refine Aj (hw:=wo f bd) 9 17 Z f Z λa f=>Aj (hw:=wo f bd) 10 17 Z f Z λa f=>q_p (hw:=wo f bd) 11 17 Z f (λ_=>AH (f.e Z) (f.e Z) AL) λa f=> ?_
      have⟨bk,bl,aI⟩:=bind_some aI
      refine AJ (hw:=wo f bd) 12 17 0 m aG T54 bl Z f Z Z λbm a bn f=>AV (hw:=wo f bd) 13 17 0 aG AR bn bl Z f Z λbo a bp f=> ?_
      subst bp
      have⟨bq,br,aI⟩:=bind_some aI
      refine BA (i:=14) 17 Z (by kernel_rfl) Z f (By f Z Z Z bd) Z Z Z call71 (λ_ _ w bs m=>Wk.a hW m br) λa f=>q_p (hw:=wo f bd) 15 17 Z f (λ_=>AH (f.e Z) (f.e Z) Aw) λa f=>q_p 16 17 Z f (λ_=>AZ (f.e Z) bd (f.e Z)) λa f=> ?_
      obtain rfl:=sj aI
      exact bc _ (f.k Z)
     ·refine Ar 4 17 Z f bd λa f=> ?_
      refine Ar 5 17 Z f bd λa f=>Ar 6 17 Z f bd λa f=>Ar 7 17 Z f bd λa f=>Ar 8 17 Z f bd λa f=>Ar 9 17 Z f bd λa f=>Ar 10 17 Z f bd λa f=>Ar 11 17 Z f bd λa f=>Ar 12 17 Z f bd λa f=>Ar 13 17 Z f bd λa f=>Ar 14 17 Z f bd λa f=>Ar 15 17 Z f bd λa f=>q_p 16 17 Z f (λ_=>AY (f.e Z) bd (f.e Z)) λa f=> ?_
      obtain rfl:=sj aI
      exact bc _ (f.k Z)
   ·rintro a w ⟨au,rfl,av,aw,bt,f,m,bu⟩
    refine An ?_
    refine Aa f Z λa f=>Ah f Z Z Av λa f=>Ac f Z λa f=>Ab ?_
    obtain rfl:=sj al
    exact⟨_,Z,_,_,Z,_,aw,(gt an bt),f.k Z,m,bu⟩
  ·refine Ai f Z ap ?_
   refine Ax Z ?_
   obtain rfl:=sj al
   obtain rfl:=am _ rfl
   exact⟨_,Z,_,aj,an,f.weak trivial,m,ao⟩
 ·rintro a w ⟨ac,rfl,ad,ae,bv,f,m,bw⟩
  obtain rfl:=sj hd
  exact⟨[],trivial,f.d,_,[ae],bv,m,_,Z,bw⟩
theorem Wk.d0 {v0:Value}{it0:Itm}{x0:LI}{x1 x2 x3:Int}(hW:Bn W)(m:Mem W G w (it0::H))(o0:Ow (RI .u32) 75 G it0 v0 x0){y:(LI)}(hd:D.d0 x0 x1 x2 x3=some y):
  Calls prog 125 #[v0,(iv x1),(iv x2),(iv x3),(.func (.func 71) #[] #[])] w (Res W G H (λG' Ho _=>∃i0:Itm,Ho=[i0]∧Ow (RI .u32) 75 G' i0 v0 y)):=by
 refine As (args:=[v0,(iv x1),(iv x2),(iv x3),(.func (.func 71) #[] #[])]) (N:=82) [] func125 Z Z (lb Z) Z λa f=> ?_
 unfold D.d0 at hd
 refine Af ?_
 refine Aa f Z λa f=>Ac f Z λa f=>Ab ?_
 have⟨aa,ab,hd⟩:=bind_some hd
 refine AE (λa w=>∃q_182':LI,aa= .inl q_182'∧∃ac:LI,ac=q_182'∧∃(ad:GH) (ae:Itm),GLe G ad∧Fr a 82 []∧Mem W ad w (ae::H)∧Ow (RI .u32) 75 ad ae v0 ac) ?_ ?_
 ·refine Ak ?_
  refine Az (λaf a w=>∃ag:LI,∃ah:Int,(ag,ah)=af∧∃(ai:GH) (aj:Itm),GLe G ai∧Fr a 82 [(0,v0),(2,(iv x2)),(3,(iv x3)),(4,(.func (.func 71) #[] #[])),(10,(iv ah))]∧Mem W ai w (aj::H)∧Ow (RI .u32) 75 ai aj v0 ag) ab ⟨_,_,Z,_,it0,gr,f.k Z,m,o0⟩ ?_
  clear ab f m
  rintro af ak al am a w ⟨ag,ah,rfl,ai,aj,an,f,m,ao⟩
  refine Ak (Af ?_)
  refine Aa f Z λa f=>Ah f Z Z b_mul λa f=>Ah f Z Z Av λa f=>Ac f Z λa f=>Ab (Ag (Af ?_))
  refine Aa f Z λa f=>Aa f Z λa f=>Ah f Z Z BW λa f=>Ab ?_
  rcases Ae al with⟨ap,al⟩|⟨ap,al⟩
  ·refine Al f Z ap ?_
   refine Ax Z ?_
   obtain rfl:=sj al
   obtain rfl:=am _ rfl
   exact⟨_,Z,_,Z,_,aj,an,f.weak trivial,m,ao⟩
  ·refine Ai f Z ap ?_
   refine Am ?_
   refine Ag (Ag ?_)
   refine A6 22 AI (by kernel_rfl) m ?_
   refine Aj 0 22 Z f Z λa f=>q_p 1 22 Z f (λ_=>AH (f.e Z) (f.e Z) Av) λa f=>Aj 2 22 Z f Z λa f=>q_p 3 22 Z f (λ_=>AH (f.e Z) (f.e Z) Aw) λa f=>Aj 4 22 Z f Z λa f=> ?_
   have⟨aq,ar,al⟩:=bind_some al
   refine Cu (fuel':=0) (listed':= #[true,true,true,true,true,true,true,true,true,true,true,true,true,true,true,true,true,true,true,true,true,true]) (λa=>Fr a 82 [(0,v0),(2,(iv x2)),(3,(iv x3)),(4,(.func (.func 71) #[] #[])),(10,(iv ah)),(11,(iv (i64.wrap ((i64.wrap (2*ah))+1)))),(18,(.bool (decide (x2≤(i64.wrap ((i64.wrap (2*ah))+1)))))),(19,(iv (i64.wrap ((i64.wrap (2*ah))+1)))),(20,(iv (i64.wrap ((i64.wrap ((i64.wrap (2*ah))+1))+1)))),(21,(iv x2)),(22,(.bool (decide ((i64.wrap ((i64.wrap ((i64.wrap (2*ah))+1))+1))<x2)))),(23,(.bool (decide ((i64.wrap ((i64.wrap ((i64.wrap (2*ah))+1))+1))<x2)))),(40,(.bool aq))]) ?_ ?_
   ·intro a f
    refine A2 λau w av m=> ?_
    have ao:=od1 av ao
    refine Ab ?_
    have⟨aw,ax,al⟩:=bind_some al
    refine AE (λa w=>∃ay:Int,ay=aw∧∃(az:GH),GLe au az∧Fr a 82 [(0,v0),(2,(iv x2)),(3,(iv x3)),(4,(.func (.func 71) #[] #[])),(10,(iv ah)),(11,(iv ay))]∧Mem W az w (aj::H)) ?_ ?_
    ·rcases Ae ax with⟨aA,ax⟩|⟨aA,ax⟩
     ·refine Al f Z aA ?_
      refine An ?_
      refine Aa f Z λa f=>Ah f Z Z Av λa f=>Ac f Z λa f=>Ab ?_
      obtain rfl:=sj ax
      exact⟨_,Z,_,gr,f.k Z,m⟩
     ·refine Ai f Z aA ?_
      refine Am ?_
      obtain rfl:=sj ax
      exact⟨_,Z,_,gr,f.k Z,m⟩
    ·rintro a w ⟨ay,rfl,az,aB,f,m⟩
     have ao:=od1 aB ao
     refine Ag (Ag ?_)
     refine A6 16 AI (by kernel_rfl) m ?_
     refine Aj 0 16 Z f Z λa f=>Aj 1 16 Z f Z λa f=>Aj 2 16 Z f Z λa f=>Aj 3 16 Z f Z λa f=>q_p 4 16 Z f (λ_=>AH (f.e Z) (f.e Z) Av) λa f=> ?_
     have⟨aC,aD,al⟩:=bind_some al
     refine AJ 5 16 0 m ao T54 aD Z f Z Z λaE a aF f=>AV 6 16 0 ao AR aF aD Z f Z λaG a aH f=> ?_
     subst aH
     refine Aj 7 16 Z f Z λa f=>Aj 8 16 Z f Z λa f=>Aj 9 16 Z f Z λa f=>q_p 10 16 Z f (λ_=>AH (f.e Z) (f.e Z) Av) λa f=> ?_
     have⟨aI,aJ,al⟩:=bind_some al
     refine AJ 11 16 0 m ao T54 aJ Z f Z Z λaK a aL f=>AV 12 16 0 ao AR aL aJ Z f Z λaM a aN f=> ?_
     subst aN
     have⟨aO,aP,al⟩:=bind_some al
     refine BA (i:=13) 16 Z (by kernel_rfl) Z f Z Z Z Z call71 (λ_ _ w aQ m=>Wk.a hW m aP) λa f=>q_p 14 16 Z f (λ_=>AH (f.e Z) (f.e Z) Aw) λa f=>q_p 15 16 Z f (λ_=>Bi (f.e Z)) λa f=>A2 λaR w aS m=> ?_
     have ao:=od1 aS ao
     refine Ab ?_
     rcases Ae al with⟨aT,al⟩|⟨aT,al⟩
     ·refine Al f Z aT ?_
      refine Aq ?_
      obtain rfl:=sj al
      obtain rfl:=am _ rfl
      obtain rfl:=sj hd
      exact⟨[],trivial,f.d,_,[aj],(gt an (gt av (gt aB aS))),m,_,Z,ao⟩
     ·refine Ai f Z aT ?_
      refine Am ?_
      refine Ag ?_
      refine Bq AI m ?_
      refine p_p 4 Z f (λ_=>A1 (f.e Z)) λa f=>p_p 5 Z f (λ_=>A1 (f.e Z)) λa f=>p_p 6 Z f (λ_=>A1 (f.e Z)) λa f=>p_p 7 Z f (λ_=>AH (f.e Z) (f.e Z) Av) λa f=>Br 240021 17 (by kernel_rfl) Z ?_
      refine Aj 0 240021 Z f Z λa f=>Aj 1 240021 Z f Z λa f=>Aj 2 240021 Z f Z λa f=>q_p 3 240021 Z f (λ_=>AH (f.e Z) (f.e Z) Av) λa f=>Aj 8 240021 Z f Z λa f=>Aj 9 240021 Z f Z λa f=>Aj 10 240021 Z f Z λa f=>q_p 11 240021 Z f (λ_=>AH (f.e Z) (f.e Z) Av) λa f=> ?_
      have⟨aU,aV,al⟩:=bind_some al
      refine AJ 12 240021 0 m ao T54 aV Z f Z Z λaW a aX f=>AV 13 240021 0 ao AR aX aV Z f Z λaY a aZ f=> ?_
      subst aZ
      refine Aj 14 240021 Z f Z λa f=>Aj 15 240021 Z f Z λa f=>Aj 16 240021 Z f Z λa f=>q_p 17 240021 Z f (λ_=>AH (f.e Z) (f.e Z) Av) λa f=> ?_
      have⟨a0,a1,al⟩:=bind_some al
      refine AJ 18 240021 0 m ao T54 a1 Z f Z Z λa2 a a3 f=>AV 19 240021 0 ao AR a3 a1 Z f Z λa4 a a5 f=> ?_
      subst a5
      have⟨a6,a7,al⟩:=bind_some al
      refine AJ 20 240021 0 m ao T54 a7 Z f Z Z λa8 a a9 f=>A2 λba w bb m=> ?_
      have ao:=od1 bb ao
      refine AB 0 m ao Z sizeOf75 f Z Z a9 a7 Z Z Z λbc w m bd=> ?_
      have⟨be,bf,al⟩:=bind_some al
      refine A4 0 m bd Z T54 f Z Z Z bf λbg a bh f=>AB 0 m bd Z sizeOf75 f Z Z bh bf Z Z Z λbi w m bj=>Ab (An ?_)
      refine Aa f Z λa f=>Ac f Z λa f=>Ab ?_
      obtain rfl:=sj al
      exact⟨_,Z,_,_,Z,_,bi,(gt an (gt av (gt aB (gt aS bb)))),f.k Z,m,bj⟩
   ·intro bk
    rcases Ae ar with⟨bl,ar⟩|⟨bl,ar⟩
    ·refine Aj (hw:=wo f bl) 5 22 Z f Z λa f=> ?_
     refine Aj (hw:=wo f bl) 6 22 Z f Z λa f=>Aj (hw:=wo f bl) 7 22 Z f Z λa f=>Aj (hw:=wo f bl) 8 22 Z f Z λa f=>q_p (hw:=wo f bl) 9 22 Z f (λ_=>AH (f.e Z) (f.e Z) Av) λa f=> ?_
     have⟨bm,bn,ar⟩:=bind_some ar
     refine AJ (hw:=wo f bl) 10 22 0 m ao T54 bn Z f Z Z λbo a bp f=>AV (hw:=wo f bl) 11 22 0 ao AR bp bn Z f Z λbq a br f=> ?_
     subst br
     refine Aj (hw:=wo f bl) 12 22 Z f Z λa f=>Aj (hw:=wo f bl) 13 22 Z f Z λa f=>Aj (hw:=wo f bl) 14 22 Z f Z λa f=>q_p (hw:=wo f bl) 15 22 Z f (λ_=>AH (f.e Z) (f.e Z) Av) λa f=>q_p (hw:=wo f bl) 16 22 Z f (λ_=>AH (f.e Z) (f.e Z) Av) λa f=> ?_
     have⟨bs,bt,ar⟩:=bind_some ar
     refine AJ (hw:=wo f bl) 17 22 0 m ao T54 bt Z f Z Z λbu a bv f=>AV (hw:=wo f bl) 18 22 0 ao AR bv bt Z f Z λbw a bx f=> ?_
     subst bx
     have⟨bz,bA,ar⟩:=bind_some ar
     refine BA (i:=19) 22 Z (by kernel_rfl) Z f (By f Z Z Z bl) Z Z Z call71 (λ_ _ w bB m=>Wk.a hW m bA) λa f=>q_p (hw:=wo f bl) 20 22 Z f (λ_=>AH (f.e Z) (f.e Z) Aw) λa f=>q_p 21 22 Z f (λ_=>AZ (f.e Z) bl (f.e Z)) λa f=> ?_
     obtain rfl:=sj ar
     exact bk _ (f.k Z)
    ·refine Ar 5 22 Z f bl λa f=> ?_
     refine Ar 6 22 Z f bl λa f=>Ar 7 22 Z f bl λa f=>Ar 8 22 Z f bl λa f=>Ar 9 22 Z f bl λa f=>Ar 10 22 Z f bl λa f=>Ar 11 22 Z f bl λa f=>Ar 12 22 Z f bl λa f=>Ar 13 22 Z f bl λa f=>Ar 14 22 Z f bl λa f=>Ar 15 22 Z f bl λa f=>Ar 16 22 Z f bl λa f=>Ar 17 22 Z f bl λa f=>Ar 18 22 Z f bl λa f=>Ar 19 22 Z f bl λa f=>Ar 20 22 Z f bl λa f=>q_p 21 22 Z f (λ_=>AY (f.e Z) bl (f.e Z)) λa f=> ?_
     obtain rfl:=sj ar
     exact bk _ (f.k Z)
 ·rintro a w ⟨_,rfl,ac,rfl,ad,ae,bC,f,m,bD⟩
  obtain rfl:=sj hd
  exact⟨[],trivial,f.d,_,[ae],bC,m,_,Z,bD⟩
theorem Wk.r0 {v0:Value}{it0:Itm}{x0:LI}{x1 x2:Int}(hW:Bn W)(m:Mem W G w (it0::H))(o0:Ow (RI .u32) 75 G it0 v0 x0){y:(LI)}(hd:D.r0 x0 x1 x2=some y):
  Calls prog 111 #[v0,(iv x1),(iv x2),(.func (.func 71) #[] #[])] w (Res W G H (λG' Ho _=>∃i0:Itm,Ho=[i0]∧Ow (RI .u32) 75 G' i0 v0 y)):=by
 refine As (args:=[v0,(iv x1),(iv x2),(.func (.func 71) #[] #[])]) (N:=60) [] func111 Z Z (lb Z) Z λa f=> ?_
 unfold D.r0 at hd
 refine Af ?_
 refine Aa f Z λa f=>Ac f Z λa f=>Au ?_
 refine Ac f Z λa f=>Au ?_
 refine Aa f Z λa f=>Aa f Z λa f=>Ah f Z Z AL λa f=>Ac f Z λa f=>Ab (Ag (Af ?_))
 refine Aa f Z λa f=>Ah f Z Z AL λa f=>Ah f Z Z (b_quo Z) λa f=>Ac f Z λa f=>Ab ?_
 have⟨aa,ab,hd⟩:=bind_some hd
 refine AE (λa w=>∃ac:LI,ac=aa∧∃(ad:GH) (ae:Itm),GLe G ad∧Fr a 60 [(0,v0),(3,(.func (.func 71) #[] #[])),(8,(iv x1)),(9,(iv 0)),(10,(iv (i64.wrap (x2-x1))))]∧Mem W ad w (ae::H)∧Ow (RI .u32) 75 ad ae v0 ac) ?_ ?_
 ·refine Ak ?_
  refine Az (λaf a w=>∃ag:LI,∃ah:Int,(ag,ah)=af∧∃(ai:GH) (aj:Itm),GLe G ai∧Fr a 60 [(0,v0),(3,(.func (.func 71) #[] #[])),(8,(iv x1)),(9,(iv 0)),(10,(iv (i64.wrap (x2-x1)))),(11,(iv ah))]∧Mem W ai w (aj::H)∧Ow (RI .u32) 75 ai aj v0 ag) ab ⟨_,_,Z,_,it0,gr,f.k Z,m,o0⟩ ?_
  clear ab f m
  rintro af ak al am a w ⟨ag,ah,rfl,ai,aj,an,f,m,ao⟩
  refine Ag (Af ?_)
  refine Aa f Z λa f=>Ah f Z Z BW λa f=>Ab ?_
  rcases Ae al with⟨ap,al⟩|⟨ap,al⟩
  ·refine Al f Z ap ?_
   refine Am ?_
   refine Ag (Ak (An ?_))
   refine Aa f Z λa f=>Aa f Z λa f=>Aa f Z λa f=>Aa f Z λa f=>Aa f Z λa f=> ?_
   have⟨aq,ar,al⟩:=bind_some al
   refine AM f Z call125 (Wk.d0 hW m ao ar) λau av aw w ax m ay a f=> ?_
   obtain⟨az,rfl,aA⟩:=ay
   refine Ab (An ?_)
   refine Aa f Z λa f=>Ah f Z Z AL λa f=>Ac f Z λa f=>Ab ?_
   obtain rfl:=sj al
   exact⟨_,Z,_,_,Z,_,az,(gt an ax),f.k Z,m,aA⟩
  ·refine Ai f Z ap ?_
   refine Ax Z ?_
   obtain rfl:=sj al
   obtain rfl:=am _ rfl
   exact⟨_,Z,_,aj,an,f.k Z,m,ao⟩
 ·rintro a w ⟨ac,rfl,ad,ae,aB,f,m,aC⟩
  refine Af ?_
  refine Aa f Z λa f=>Ah f Z Z AL λa f=>Ac f Z λa f=>Ab ?_
  have⟨aD,aE,hd⟩:=bind_some hd
  refine AE (λa w=>∃aF:LI,aF=aD∧∃(aG:GH) (aH:Itm),GLe ad aG∧Fr a 60 []∧Mem W aG w (aH::H)∧Ow (RI .u32) 75 aG aH v0 aF) ?_ ?_
  ·refine Ak ?_
   refine Az (λaI a w=>∃aJ:LI,∃aK:Int,(aJ,aK)=aI∧∃(aL:GH) (aM:Itm),GLe ad aL∧Fr a 60 [(0,v0),(3,(.func (.func 71) #[] #[])),(8,(iv x1)),(9,(iv 0)),(12,(iv aK))]∧Mem W aL w (aM::H)∧Ow (RI .u32) 75 aL aM v0 aJ) aE ⟨_,_,Z,_,ae,gr,f.k Z,m,aC⟩ ?_
   clear aE f m
   rintro aI aN aO aP a w ⟨aJ,aK,rfl,aL,aM,aQ,f,m,aR⟩
   refine Ag (Af ?_)
   refine Aa f Z λa f=>Ah f Z Z BW λa f=>Ab ?_
   rcases Ae aO with⟨aS,aO⟩|⟨aS,aO⟩
   ·refine Al f Z aS ?_
    refine Am ?_
    refine Ag (Ak (Ag ?_))
    refine Bq AI m ?_
    refine p_p 2 Z f (λ_=>A1 (f.e Z)) λa f=>p_p 3 Z f (λ_=>A1 (f.e Z)) λa f=>p_p 4 Z f (λ_=>A1 (f.e Z)) λa f=>p_p 5 Z f (λ_=>AH (f.e Z) (f.e Z) Av) λa f=>Br 60017 13 (by kernel_rfl) Z ?_
    refine Aj 0 60017 Z f Z λa f=>Aj 1 60017 Z f Z λa f=>Aj 6 60017 Z f Z λa f=>Aj 7 60017 Z f Z λa f=>Aj 8 60017 Z f Z λa f=>q_p 9 60017 Z f (λ_=>AH (f.e Z) (f.e Z) Av) λa f=> ?_
    have⟨aT,aU,aO⟩:=bind_some aO
    refine AJ 10 60017 0 m aR T54 aU Z f Z Z λaV a aW f=>AV 11 60017 0 aR AR aW aU Z f Z λaX a aY f=> ?_
    subst aY
    refine Aj 12 60017 Z f Z λa f=>Aj 13 60017 Z f Z λa f=> ?_
    have⟨aZ,a0,aO⟩:=bind_some aO
    refine AJ 14 60017 0 m aR T54 a0 Z f Z Z λa1 a a2 f=>AV 15 60017 0 aR AR a2 a0 Z f Z λa3 a a4 f=> ?_
    subst a4
    have⟨a5,a6,aO⟩:=bind_some aO
    refine AJ 16 60017 0 m aR T54 a6 Z f Z Z λa7 a a8 f=>A2 λa9 w ba m=> ?_
    have aR:=od1 ba aR
    refine AB 0 m aR Z sizeOf75 f Z Z a8 a6 Z Z Z λbb w m bc=> ?_
    have⟨bd,be,aO⟩:=bind_some aO
    refine A4 0 m bc Z T54 f Z Z Z be λbf a bg f=>AB 0 m bc Z sizeOf75 f Z Z bg be Z Z Z λbh w m bi=>Ab (An ?_)
    refine Aa f Z λa f=>Aa f Z λa f=>Aa f Z λa f=>Aa f Z λa f=>Aa f Z λa f=> ?_
    have⟨bj,bk,aO⟩:=bind_some aO
    refine AM f Z call125 (Wk.d0 hW m bi bk) λbl bm bn w bo m bp a f=> ?_
    obtain⟨bq,rfl,br⟩:=bp
    refine Ab (An ?_)
    refine Aa f Z λa f=>Ah f Z Z AL λa f=>Ac f Z λa f=>Ab ?_
    obtain rfl:=sj aO
    exact⟨_,Z,_,_,Z,_,bq,(gt aQ (gt ba bo)),f.k Z,m,br⟩
   ·refine Ai f Z aS ?_
    refine Ax Z ?_
    obtain rfl:=sj aO
    obtain rfl:=aP _ rfl
    exact⟨_,Z,_,aM,aQ,f.weak trivial,m,aR⟩
  ·rintro a w ⟨aF,rfl,aG,aH,bs,f,m,bt⟩
   obtain rfl:=sj hd
   exact⟨[],trivial,f.d,_,[aH],(gt aB bs),m,_,Z,bt⟩
theorem Wk.u0 {v0:Value}{it0:Itm}{x0:LI}{x1 x2:Int}(m:Mem W G w (it0::H))(o0:Ow (RI .u32) 75 G it0 v0 x0){y:(LI)}(hd:D.u0 x0 x1 x2=some y):
  Calls prog 112 #[v0,(iv x1),(iv x2),(.func (.func 71) #[] #[])] w (Res W G H (λG' Ho _=>∃i0:Itm,Ho=[i0]∧Ow (RI .u32) 75 G' i0 v0 y)):=by
 refine As (args:=[v0,(iv x1),(iv x2),(.func (.func 71) #[] #[])]) (N:=67) [] func112 Z Z (lb Z) Z λa f=> ?_
 unfold D.u0 at hd
 refine Af ?_
 refine Aa f Z λa f=>Aa f Z λa f=>Ah f Z Z AL λa f=>Ac f Z λa f=>Au ?_
 refine Aa f Z λa f=>Ah f Z Z BW λa f=>Ab ?_
 rcases Ae hd with⟨aa,hd⟩|⟨aa,hd⟩
 ·refine Al f Z aa ?_
  refine Af ?_
  refine Aa f Z λa f=>l_o f (r_conv (f.e Z) ⟨_,underlying3⟩ underlying135) λa f=>Dh (cs:=[(.int .u64 0)]) zeroValue135 m f Z Z λab w a m f=>BP 0 0 (ds:=[(.int .u64 (IntKind.u64.wrap (i64.wrap (x2-x1))))]) m sizeOf135 f Z Z Z (B2 Z Ci) Z (lb Z) Z λw m=>Au ?_
  refine Aa f Z λa f=> ?_
  have⟨ac,ad,hd⟩:=bind_some hd
  refine Ba f Z call126 (Wk.N m ad) λae w af m a f=> ?_
  have o0:=od1 af o0
  refine Ac f Z λa f=>Au ?_
  refine Aa f Z λa f=>Aa f Z λa f=>Ah f Z Z (b_quo Z) λa f=>Ah f Z Z b_mul λa f=>Ah f Z Z Av λa f=>Ah f Z Z AL λa f=>Ac f Z λa f=>Ab ?_
  have⟨ag,ah,hd⟩:=bind_some hd
  refine AE (λa w=>∃ai:LI,ai=ag∧∃(aj:GH) (ak:Itm),GLe ae aj∧Fr a 67 []∧Mem W aj w (ak::H)∧Ow (RI .u32) 75 aj ak v0 ai) ?_ ?_
  ·refine Ak ?_
   refine Az (λal a w=>∃am:LI,∃an:Int,∃ao:Int,(am,an,ao)=al∧∃(ap:GH) (aq:Itm),GLe ae ap∧Fr a 67 [(0,v0),(1,(iv x1)),(8,(iv (i64.wrap (x2-x1)))),(9,(pb ab)),(10,(.int .u64 ac)),(11,(iv an))]∧Mem W ap w (ib ab 135 [(.int .u64 ao)]::aq::H)∧Ow (RI .u32) 75 ap aq v0 am) ah ⟨_,_,_,Z,_,it0,gr,f.k Z,m,o0⟩ ?_
   clear ah f m
   rintro al ar au av a w ⟨am,an,ao,rfl,ap,aq,aw,f,m,ax⟩
   refine Ag (Af ?_)
   refine Aa f Z λa f=>Aa f Z λa f=>Aa f Z λa f=>Ah f Z Z (b_quo Z) λa f=>Ah f Z Z b_mul λa f=>Ah f Z Z Av λa f=>Ah f Z Z Av λa f=>Ah f Z Z Cy λa f=>Ab ?_
   rcases Ae au with⟨ay,au⟩|⟨ay,au⟩
   ·refine Al f Z ay ?_
    refine Am ?_
    refine Ag (Ak (Af ?_))
    have⟨az,aA,au⟩:=bind_some au
    refine AM f Z call127 (Wk.l0 m aA) λaB aC aD w aE m aF a f=> ?_
    obtain⟨rfl,rfl⟩:=aF
    have ax:=od1 aE ax
    refine Aa f Z λa f=>Ah f Z Z AL λa f=>Ah f Z Z b_and λa f=>l_o f (r_conv (f.e Z) ⟨_,underlying62⟩ underlying3) λa f=>Ac f Z λa f=>Ab (Ag (Af ?_))
    refine Aa f Z λa f=>Aa f Z λa f=>Ah f Z Z BW λa f=>Ab ?_
    have⟨aG,aH,au⟩:=bind_some au
    refine AE (λa w=>∃aI:Int,aI=aG∧∃(aJ:GH),GLe aC aJ∧Fr a 67 [(0,v0),(1,(iv x1)),(8,(iv (i64.wrap (x2-x1)))),(9,(pb ab)),(10,(.int .u64 ac)),(11,(iv an)),(12,(iv aI))]∧Mem W aJ w (ib ab 135 [(.int .u64 az.2)]::aq::H)) ?_ ?_
    ·rcases Ae aH with⟨aK,aH⟩|⟨aK,aH⟩
     ·refine Al f Z aK ?_
      refine An ?_
      refine Aa f Z λa f=>Aa f Z λa f=>Ah f Z Z AL λa f=>Ac f Z λa f=>Ab ?_
      obtain rfl:=sj aH
      exact⟨_,Z,_,gr,f.k Z,m⟩
     ·refine Ai f Z aK ?_
      refine Am ?_
      obtain rfl:=sj aH
      exact⟨_,Z,_,gr,f.k Z,m⟩
    ·rintro a w ⟨aI,rfl,aJ,aL,f,m⟩
     have ax:=od1 aL ax
     refine Bq AI m ?_
     refine p_p 2 Z f (λ_=>A1 (f.e Z)) λa f=>p_p 3 Z f (λ_=>A1 (f.e Z)) λa f=>p_p 4 Z f (λ_=>A1 (f.e Z)) λa f=>p_p 5 Z f (λ_=>AH (f.e Z) (f.e Z) Av) λa f=>Br 60017 13 (by kernel_rfl) Z ?_
     refine Aj 0 60017 Z f Z λa f=>Aj 1 60017 Z f Z λa f=>Aj 6 60017 Z f Z λa f=>Aj 7 60017 Z f Z λa f=>Aj 8 60017 Z f Z λa f=>q_p 9 60017 Z f (λ_=>AH (f.e Z) (f.e Z) Av) λa f=> ?_
     have⟨aM,aN,au⟩:=bind_some au
     refine AJ 10 60017 1 m ax T54 aN Z f Z Z λaO a aP f=>AV 11 60017 1 ax AR aP aN Z f Z λaQ a aR f=> ?_
     subst aR
     refine Aj 12 60017 Z f Z λa f=>Aj 13 60017 Z f Z λa f=> ?_
     have⟨aS,aT,au⟩:=bind_some au
     refine AJ 14 60017 1 m ax T54 aT Z f Z Z λaU a aV f=>AV 15 60017 1 ax AR aV aT Z f Z λaW a aX f=> ?_
     subst aX
     have⟨aY,aZ,au⟩:=bind_some au
     refine AJ 16 60017 1 m ax T54 aZ Z f Z Z λa0 a a1 f=>A2 λa2 w a3 m=> ?_
     have ax:=od1 a3 ax
     refine AB 1 m ax Z sizeOf75 f Z Z a1 aZ Z Z Z λa4 w m a5=> ?_
     have⟨a6,a7,au⟩:=bind_some au
     refine A4 1 m a5 Z T54 f Z Z Z a7 λa8 a a9 f=>AB 1 m a5 Z sizeOf75 f Z Z a9 a7 Z Z Z λba w m bb=>Ab (An ?_)
     refine Aa f Z λa f=>Ah f Z Z Av λa f=>Ac f Z λa f=>Ab ?_
     obtain rfl:=sj au
     exact⟨_,Z,_,_,_,Z,_,ba,(gt aw (gt aE (gt aL a3))),f.k Z,m,bb⟩
   ·refine Ai f Z ay ?_
    refine Ax Z ?_
    have m:=m.fr 1
    have m:=m.eraseAt 1
    obtain rfl:=sj au
    obtain rfl:=av _ rfl
    exact⟨_,Z,_,aq,aw,f.weak trivial,m,ax⟩
  ·rintro a w ⟨ai,rfl,aj,ak,bc,f,m,bd⟩
   obtain rfl:=sj hd
   exact⟨[],trivial,f.d,_,[ak],(gt af bc),m,_,Z,bd⟩
 ·refine Ai f Z aa ?_
  refine Am ?_
  obtain rfl:=sj hd
  exact⟨[],trivial,f.d,_,[it0],gr,m,_,Z,o0⟩
theorem Wk.E {v0:Value}{it0:Itm}{b3:Nat}{x0:LI}{x1 x2 aa:Int}(hW:Bn W)(m:Mem W G w (it0::ib b3 3 [(iv aa)]::H))(o0:Ow (RI .u32) 75 G it0 v0 x0){y:Int×Int×(LI)×Int}(hd:D.E x0 x1 x2 aa=some y):
  Calls prog 134 #[v0,(iv x1),(iv x2),(pb b3),(.func (.func 71) #[] #[])] w (Res W G H (λG' Ho v=>∃i0:Itm,Ho=[i0,ib b3 3 [(iv y.2.2.2)]]∧v= .tuple #[(iv y.1),(iv y.2.1)]∧Ow (RI .u32) 75 G' i0 v0 y.2.2.1)):=by
 refine As (args:=[v0,(iv x1),(iv x2),(pb b3),(.func (.func 71) #[] #[])]) (N:=32) [.tmp 10,.tmp 11] func134 Z Z (lb Z) Z λa f=> ?_
 unfold D.E at hd
 refine Af ?_
 refine Ac f Z λa f=>Ac f Z λa f=>Ab (Ag (Ag ?_))
 refine A6 11 AI (by kernel_rfl) m ?_
 refine Aj 0 11 Z f Z λa f=>Aj 1 11 Z f Z λa f=>Aj 2 11 Z f Z λa f=> ?_
 have⟨ab,ac,hd⟩:=bind_some hd
 refine AJ 3 11 0 m o0 T54 ac Z f Z Z λad a ae f=>AV 4 11 0 o0 AR ae ac Z f Z λaf a ag f=> ?_
 subst ag
 refine Aj 5 11 Z f Z λa f=>Aj 6 11 Z f Z λa f=> ?_
 have⟨ah,ai,hd⟩:=bind_some hd
 refine AJ 7 11 0 m o0 T54 ai Z f Z Z λaj a ak f=>AV 8 11 0 o0 AR ak ai Z f Z λal a am f=> ?_
 subst am
 have⟨an,ao,hd⟩:=bind_some hd
 refine BA (i:=9) 11 Z (by kernel_rfl) Z f Z Z Z Z call71 (λ_ _ w ap m=>Wk.a hW m ao) λa f=>q_p 10 11 Z f (λ_=>AH (f.e Z) (f.e Z) Aw) λa f=>A2 λaq w ar m=> ?_
 have o0:=od1 ar o0
 refine Ab ?_
 rcases Ae hd with⟨au,hd⟩|⟨au,hd⟩
 ·refine Al f Z au ?_
  refine Af ?_
  refine Aa f Z λa f=>l_o f (Bl (f.e Z)) λa f=>AW 1 0 m Pl3 f Z Z Z Z λa f=>Ah f Z Z Av λa f=>l_o f (Bl (f.e Z)) λa f=>BP 1 0 (ds:=[(iv (i64.wrap (aa+1)))]) m sizeOf3 f Z Z Z (B2 Z Ci) Z (lb Z) Z λw m=>Au ?_
  refine Aa f Z λa f=>Aa f Z λa f=>Ac f Z λa f=>Ac f Z λa f=>Ab ?_
  refine Aq ?_
  obtain rfl:=sj hd
  exact⟨[(iv x2),(iv x1)],⟨f.get _ _ Z,f.get _ _ Z,trivial⟩,f.d,_,[it0,ib b3 3 [(iv (i64.wrap (aa+1)))]],ar,m,_,Z,Z,o0⟩
 ·refine Ai f Z au ?_
  refine Am ?_
  refine Af ?_
  refine Aa f Z λa f=>Aa f Z λa f=>Ac f Z λa f=>Ac f Z λa f=>Ab ?_
  refine Aq ?_
  obtain rfl:=sj hd
  exact⟨[(iv x1),(iv x2)],⟨f.get _ _ Z,f.get _ _ Z,trivial⟩,f.d,_,[it0,ib b3 3 [(iv aa)]],ar,m,_,Z,Z,o0⟩
theorem Wk.T {v0:Value}{it0:Itm}{b4:Nat}{x0:LI}{x1 x2 x3 aa:Int}(hW:Bn W)(m:Mem W G w (it0::ib b4 3 [(iv aa)]::H))(o0:Ow (RI .u32) 75 G it0 v0 x0){y:Int×(LI)×Int}(hd:D.T x0 x1 x2 x3 aa=some y):
  Calls prog 129 #[v0,(iv x1),(iv x2),(iv x3),(pb b4),(.func (.func 71) #[] #[])] w (Res W G H (λG' Ho v=>∃i0:Itm,Ho=[i0,ib b4 3 [(iv y.2.2)]]∧v=(iv y.1)∧Ow (RI .u32) 75 G' i0 v0 y.2.1)):=by
 refine As (args:=[v0,(iv x1),(iv x2),(iv x3),(pb b4),(.func (.func 71) #[] #[])]) (N:=41) [.tmp 12] func129 Z Z (lb Z) Z λa f=> ?_
 unfold D.T at hd
 refine Af ?_
 refine Ac f Z λa f=>Au ?_
 refine Aa f Z λa f=>Aa f Z λa f=>Aa f Z λa f=>Aa f Z λa f=>Aa f Z λa f=> ?_
 have⟨ab,ac,hd⟩:=bind_some hd
 refine AM f Z call134 (Wk.E hW m o0 ac) λad ae af w ag m ah a f=> ?_
 obtain⟨ai,rfl,rfl,aj⟩:=ah
 refine Aa f Z λa f=>l_o f (BH (f.e Z) Z) λa f=>l_o f (BH (f.e Z) Z) λa f=>Ac f Z λa f=>Ac f Z λa f=>Au ?_
 refine Aa f Z λa f=>Aa f Z λa f=>Aa f Z λa f=>Aa f Z λa f=>Aa f Z λa f=> ?_
 have⟨ak,al,hd⟩:=bind_some hd
 refine AM f Z call134 (Wk.E hW m aj al) λam an ao w ap m aq a f=> ?_
 obtain⟨ar,rfl,rfl,au⟩:=aq
 refine Aa f Z λa f=>l_o f (BH (f.e Z) Z) λa f=>l_o f (BH (f.e Z) Z) λa f=>Ac f Z λa f=>Ac f Z λa f=>Au ?_
 refine Aa f Z λa f=>Aa f Z λa f=>Aa f Z λa f=>Aa f Z λa f=>Aa f Z λa f=> ?_
 have⟨av,aw,hd⟩:=bind_some hd
 refine AM f Z call134 (Wk.E hW m au aw) λax ay az w aA m aB a f=> ?_
 obtain⟨aC,rfl,rfl,aD⟩:=aB
 refine Aa f Z λa f=>l_o f (BH (f.e Z) Z) λa f=>l_o f (BH (f.e Z) Z) λa f=>Ac f Z λa f=>Ac f Z λa f=>Au ?_
 refine Aa f Z λa f=>Ac f Z λa f=>Ab ?_
 refine Aq ?_
 obtain rfl:=sj hd
 exact⟨[(iv av.2.1)],f.g Z,f.d,_,[aC,ib b4 3 [(iv av.2.2.2)]],(gt ag (gt ap aA)),m,_,Z,Z,aD⟩
theorem Wk.I {v0:Value}{it0:Itm}{b2:Nat}{x0:LI}{x1 aa:Int}(hW:Bn W)(m:Mem W G w (it0::ib b2 3 [(iv aa)]::H))(o0:Ow (RI .u32) 75 G it0 v0 x0){y:Int×(LI)×Int}(hd:D.I x0 x1 aa=some y):
  Calls prog 128 #[v0,(iv x1),(pb b2),(.func (.func 71) #[] #[])] w (Res W G H (λG' Ho v=>∃i0:Itm,Ho=[i0,ib b2 3 [(iv y.2.2)]]∧v=(iv y.1)∧Ow (RI .u32) 75 G' i0 v0 y.2.1)):=by
 refine As (args:=[v0,(iv x1),(pb b2),(.func (.func 71) #[] #[])]) (N:=18) [.tmp 8] func128 Z Z (lb Z) Z λa f=> ?_
 unfold D.I at hd
 refine Af ?_
 refine Ac f Z λa f=>Au ?_
 refine Aa f Z λa f=>Aa f Z λa f=>Ah f Z Z AL λa f=>Aa f Z λa f=>Aa f Z λa f=>Ah f Z Z Av λa f=>Aa f Z λa f=>Aa f Z λa f=> ?_
 have⟨ab,ac,hd⟩:=bind_some hd
 refine AM f Z call129 (Wk.T hW m o0 ac) λad ae af w ag m ah a f=> ?_
 obtain⟨ai,rfl,rfl,aj⟩:=ah
 refine Ac f Z λa f=>Ab ?_
 refine Aq ?_
 obtain rfl:=sj hd
 exact⟨[(iv ab.1)],f.g Z,f.d,_,[ai,ib b2 3 [(iv ab.2.2)]],ag,m,_,Z,Z,aj⟩
theorem Wk.y0 {v0:Value}{it0:Itm}{x0:LI}{x1 x2:Int}(hW:Bn W)(m:Mem W G w (it0::H))(o0:Ow (RI .u32) 75 G it0 v0 x0){y:Int×Int×(LI)}(hd:D.y0 x0 x1 x2=some y):
  Calls prog 113 #[v0,(iv x1),(iv x2),(.func (.func 71) #[] #[])] w (Res W G H (λG' Ho v=>∃i0:Itm,Ho=[i0]∧v= .tuple #[(iv y.1),(iv y.2.1)]∧Ow (RI .u32) 75 G' i0 v0 y.2.2)):=by
 refine As (args:=[v0,(iv x1),(iv x2),(.func (.func 71) #[] #[])]) (N:=63) [.tmp 8,.tmp 9] func113 Z Z (lb Z) Z λa f=> ?_
 unfold D.y0 at hd
 refine Af ?_
 refine Ac f Z λa f=>Ac f Z λa f=>Au ?_
 refine Aa f Z λa f=>Aa f Z λa f=>Ah f Z Z AL λa f=>Ac f Z λa f=>Au ?_
 refine Dh (cs:=[(iv 0)]) zeroValue3 m f Z Z λaa w a m f=>Au ?_
 refine Aa f Z λa f=>Aa f Z λa f=>Ah f Z Z (b_quo Z) λa f=>Ah f Z Z b_mul λa f=>Ah f Z Z Av λa f=>Ac f Z λa f=>Au ?_
 refine Aa f Z λa f=>Aa f Z λa f=>Ah f Z Z (b_quo Z) λa f=>Ah f Z Z b_mul λa f=>Ah f Z Z Av λa f=>Ac f Z λa f=>Au ?_
 refine Aa f Z λa f=>Aa f Z λa f=>Ah f Z Z (b_quo Z) λa f=>Ah f Z Z b_mul λa f=>Ah f Z Z Av λa f=>Ac f Z λa f=>Ab (Ag (Af ?_))
 refine Aa f Z λa f=>Ah f Z Z BW λa f=>Ab ?_
 rcases Ae hd with⟨ab,hd⟩|⟨ab,hd⟩
 ·refine Al f Z ab ?_
  refine Ag (Af ?_)
  refine Aa f Z λa f=>Ah f Z Z BW λa f=>Ab ?_
  have⟨ac,ad,hd⟩:=bind_some hd
  refine AE (λa w=>∃ae:LI,∃af:Int,∃ag:Int,∃ah:Int,∃ai:Int,(ae,af,ag,ah,ai)=ac∧∃(aj:GH) (ak:Itm),GLe G aj∧Fr a 63 [(0,v0),(3,(.func (.func 71) #[] #[])),(11,(pb aa)),(12,(iv af)),(13,(iv ag)),(14,(iv ah))]∧Mem W aj w (ib aa 3 [(iv ai)]::ak::H)∧Ow (RI .u32) 75 aj ak v0 ae) ?_ ?_
  ·rcases Ae ad with⟨al,ad⟩|⟨al,ad⟩
   ·refine Al f Z al ?_
    refine Af ?_
    refine Aa f Z λa f=>Aa f Z λa f=>Aa f Z λa f=> ?_
    have m:=m.fr 1
    have⟨am,an,ad⟩:=bind_some ad
    refine AM f Z call128 (Wk.I hW m o0 an) λao ap aq w ar m au a f=> ?_
    obtain⟨av,rfl,rfl,aw⟩:=au
    refine Ac f Z λa f=>Au ?_
    refine Aa f Z λa f=>Aa f Z λa f=>Aa f Z λa f=> ?_
    have⟨ax,ay,ad⟩:=bind_some ad
    refine AM f Z call128 (Wk.I hW m aw ay) λaz aA aB w aC m aD a f=> ?_
    obtain⟨aE,rfl,rfl,aF⟩:=aD
    refine Ac f Z λa f=>Ab (An ?_)
    refine Aa f Z λa f=>Aa f Z λa f=>Aa f Z λa f=> ?_
    have⟨aG,aH,ad⟩:=bind_some ad
    refine AM f Z call128 (Wk.I hW m aF aH) λaI aJ aK w aL m aM a f=> ?_
    obtain⟨aN,rfl,rfl,aO⟩:=aM
    refine Ac f Z λa f=>Ab ?_
    have m:=m.fr 1
    obtain rfl:=sj ad
    exact⟨_,_,_,_,_,Z,_,aN,(gt ar (gt aC aL)),f.k Z,m,aO⟩
   ·refine Ai f Z al ?_
    refine Am ?_
    obtain rfl:=sj ad
    exact⟨_,_,_,_,_,Z,_,it0,gr,f.k Z,m,o0⟩
  ·rintro a w ⟨ae,af,ag,ah,ai,rfl,aj,ak,aP,f,m,aQ⟩
   refine An ?_
   refine Aa f Z λa f=>Aa f Z λa f=>Aa f Z λa f=>Aa f Z λa f=>Aa f Z λa f=> ?_
   have m:=m.fr 1
   have⟨aR,aS,hd⟩:=bind_some hd
   refine AM f Z call129 (Wk.T hW m aQ aS) λaT aU aV w aW m aX a f=> ?_
   obtain⟨aY,rfl,rfl,aZ⟩:=aX
   refine Ac f Z λa f=>Au ?_
   refine AW 1 0 m Pl3 f Z Z Z Z λa f=>Ab (Ak (Af ?_))
   refine Ah f Z Z BO λa f=>Ac f Z λa f=>Ab ?_
   rcases Ae hd with⟨a0,hd⟩|⟨a0,hd⟩
   ·refine Al f Z a0 ?_
    refine Af ?_
    refine Aa f Z λa f=>Ac f Z λa f=>Ac f Z λa f=>Ab ?_
    refine Aq ?_
    have m:=m.eraseAt 1
    obtain rfl:=sj hd
    exact⟨[(iv aR.1),(iv 1)],⟨f.get _ _ Z,f.get _ _ Z,trivial⟩,f.d,_,[aY],(gt aP aW),m,_,Z,Z,aZ⟩
   ·refine Ai f Z a0 ?_
    refine Af ?_
    refine Ah f Z Z BO λa f=>Ac f Z λa f=>Ab ?_
    rcases Ae hd with⟨a1,hd⟩|⟨a1,hd⟩
    ·refine Al f Z a1 ?_
     refine Af ?_
     refine Aa f Z λa f=>Ac f Z λa f=>Ac f Z λa f=>Ab ?_
     refine Aq ?_
     have m:=m.eraseAt 1
     obtain rfl:=sj hd
     exact⟨[(iv aR.1),(iv 2)],⟨f.get _ _ Z,f.get _ _ Z,trivial⟩,f.d,_,[aY],(gt aP aW),m,_,Z,Z,aZ⟩
    ·refine Ai f Z a1 ?_
     refine Af ?_
     refine Aa f Z λa f=>Ac f Z λa f=>Ac f Z λa f=>Ab ?_
     refine Aq ?_
     have m:=m.eraseAt 1
     obtain rfl:=sj hd
     exact⟨[(iv aR.1),(iv 0)],⟨f.get _ _ Z,f.get _ _ Z,trivial⟩,f.d,_,[aY],(gt aP aW),m,_,Z,Z,aZ⟩
 ·refine Ai f Z ab ?_
  refine Am ?_
  refine Af ?_
  refine AW 0 0 m Pl3 f Z Z Z Z λa f=>Ab (Ak (Af ?_))
  refine Ah f Z Z BO λa f=>Ac f Z λa f=>Ab ?_
  rcases Ae hd with⟨a2,hd⟩|⟨a2,hd⟩
  ·refine Al f Z a2 ?_
   refine Af ?_
   refine Aa f Z λa f=>Ac f Z λa f=>Ac f Z λa f=>Ab ?_
   refine Aq ?_
   have m:=m.fr 1
   have m:=m.eraseAt 1
   obtain rfl:=sj hd
   exact⟨[(iv (i64.wrap (x1+(i64.wrap ((i64.wrap (Int.tdiv (i64.wrap (x2-x1)) 4))*2))))),(iv 1)],⟨f.get _ _ Z,f.get _ _ Z,trivial⟩,f.d,_,[it0],gr,m,_,Z,Z,o0⟩
  ·refine Ai f Z a2 ?_
   refine Af ?_
   refine Ah f Z Z BO λa f=>Ac f Z λa f=>Ab ?_
   rcases Ae hd with⟨a3,hd⟩|⟨a3,hd⟩
   ·refine Al f Z a3 ?_
    refine Af ?_
    refine Aa f Z λa f=>Ac f Z λa f=>Ac f Z λa f=>Ab ?_
    refine Aq ?_
    have m:=m.fr 1
    have m:=m.eraseAt 1
    obtain rfl:=sj hd
    exact⟨[(iv (i64.wrap (x1+(i64.wrap ((i64.wrap (Int.tdiv (i64.wrap (x2-x1)) 4))*2))))),(iv 2)],⟨f.get _ _ Z,f.get _ _ Z,trivial⟩,f.d,_,[it0],gr,m,_,Z,Z,o0⟩
   ·refine Ai f Z a3 ?_
    refine Af ?_
    refine Aa f Z λa f=>Ac f Z λa f=>Ac f Z λa f=>Ab ?_
    refine Aq ?_
    have m:=m.fr 1
    have m:=m.eraseAt 1
    obtain rfl:=sj hd
    exact⟨[(iv (i64.wrap (x1+(i64.wrap ((i64.wrap (Int.tdiv (i64.wrap (x2-x1)) 4))*2))))),(iv 0)],⟨f.get _ _ Z,f.get _ _ Z,trivial⟩,f.d,_,[it0],gr,m,_,Z,Z,o0⟩
theorem Wk.B0 {v0:Value}{it0:Itm}{x0:LI}{x1 x2:Int}(m:Mem W G w (it0::H))(o0:Ow (RI .u32) 75 G it0 v0 x0){y:(LI)}(hd:D.B0 x0 x1 x2=some y):
  Calls prog 114 #[v0,(iv x1),(iv x2),(.func (.func 71) #[] #[])] w (Res W G H (λG' Ho _=>∃i0:Itm,Ho=[i0]∧Ow (RI .u32) 75 G' i0 v0 y)):=by
 refine As (args:=[v0,(iv x1),(iv x2),(.func (.func 71) #[] #[])]) (N:=34) [] func114 Z Z (lb Z) Z λa f=> ?_
 unfold D.B0 at hd
 refine Af ?_
 refine Aa f Z λa f=>Ac f Z λa f=>Au ?_
 refine Aa f Z λa f=>Ah f Z Z AL λa f=>Ac f Z λa f=>Ab ?_
 have⟨aa,ab,hd⟩:=bind_some hd
 refine AE (λa w=>∃ac:LI,ac=aa∧∃(ad:GH) (ae:Itm),GLe G ad∧Fr a 34 []∧Mem W ad w (ae::H)∧Ow (RI .u32) 75 ad ae v0 ac) ?_ ?_
 ·refine Ak ?_
  refine Az (λaf a w=>∃ag:LI,∃ah:Int,∃ai:Int,(ag,ah,ai)=af∧∃(aj:GH) (ak:Itm),GLe G aj∧Fr a 34 [(0,v0),(8,(iv ah)),(9,(iv ai))]∧Mem W aj w (ak::H)∧Ow (RI .u32) 75 aj ak v0 ag) ab ⟨_,_,_,Z,_,it0,gr,f.k Z,m,o0⟩ ?_
  clear ab f m
  rintro af al am an a w ⟨ag,ah,ai,rfl,aj,ak,ao,f,m,ap⟩
  refine Ag (Af ?_)
  refine Aa f Z λa f=>Aa f Z λa f=>Ah f Z Z Aw λa f=>Ab ?_
  rcases Ae am with⟨aq,am⟩|⟨aq,am⟩
  ·refine Al f Z aq ?_
   refine Am ?_
   refine Ak (Ag ?_)
   refine Bq AI m ?_
   refine p_p 2 Z f (λ_=>A1 (f.e Z)) λa f=>p_p 3 Z f (λ_=>A1 (f.e Z)) λa f=>Br 12013 11 (by kernel_rfl) Z ?_
   refine Aj 0 12013 Z f Z λa f=>Aj 1 12013 Z f Z λa f=>Aj 4 12013 Z f Z λa f=>Aj 5 12013 Z f Z λa f=> ?_
   have⟨ar,au,am⟩:=bind_some am
   refine AJ 6 12013 0 m ap T54 au Z f Z Z λav a aw f=>AV 7 12013 0 ap AR aw au Z f Z λax a ay f=> ?_
   subst ay
   refine Aj 8 12013 Z f Z λa f=>Aj 9 12013 Z f Z λa f=> ?_
   have⟨az,aA,am⟩:=bind_some am
   refine AJ 10 12013 0 m ap T54 aA Z f Z Z λaB a aC f=>AV 11 12013 0 ap AR aC aA Z f Z λaD a aE f=> ?_
   subst aE
   have⟨aF,aG,am⟩:=bind_some am
   refine AJ 12 12013 0 m ap T54 aG Z f Z Z λaH a aI f=>A2 λaJ w aK m=> ?_
   have ap:=od1 aK ap
   refine AB 0 m ap Z sizeOf75 f Z Z aI aG Z Z Z λaL w m aM=> ?_
   have⟨aN,aO,am⟩:=bind_some am
   refine A4 0 m aM Z T54 f Z Z Z aO λaP a aQ f=>AB 0 m aM Z sizeOf75 f Z Z aQ aO Z Z Z λaR w m aS=>Au ?_
   refine Aa f Z λa f=>Ah f Z Z Av λa f=>Ac f Z λa f=>Ab (An ?_)
   refine Aa f Z λa f=>Ah f Z Z AL λa f=>Ac f Z λa f=>Ab ?_
   obtain rfl:=sj am
   exact⟨_,Z,_,_,_,Z,_,aR,(gt ao aK),f.k Z,m,aS⟩
  ·refine Ai f Z aq ?_
   refine Ax Z ?_
   obtain rfl:=sj am
   obtain rfl:=an _ rfl
   exact⟨_,Z,_,ak,ao,f.weak trivial,m,ap⟩
 ·rintro a w ⟨ac,rfl,ad,ae,aT,f,m,aU⟩
  obtain rfl:=sj hd
  exact⟨[],trivial,f.d,_,[ae],aT,m,_,Z,aU⟩
theorem Wk.v0 {v0:Value}{it0:Itm}{x0:LI}{x1 x2:Int}(hW:Bn W)(m:Mem W G w (it0::H))(o0:Ow (RI .u32) 75 G it0 v0 x0){y:Bool×(LI)}(hd:D.v0 x0 x1 x2=some y):
  Calls prog 115 #[v0,(iv x1),(iv x2),(.func (.func 71) #[] #[])] w (Res W G H (λG' Ho v=>∃i0:Itm,Ho=[i0]∧v=(.bool y.1)∧Ow (RI .u32) 75 G' i0 v0 y.2)):=by
 refine As (args:=[v0,(iv x1),(iv x2),(.func (.func 71) #[] #[])]) (N:=141) [.tmp 8] func115 Z Z (lb Z) Z λa f=> ?_
 unfold D.v0 at hd
 refine Af ?_
 refine Ac f Z λa f=>Au ?_
 refine Aa f Z λa f=>Ah f Z Z Av λa f=>Ac f Z λa f=>Ab (Ag (Af ?_))
 refine Ac f Z λa f=>Ab ?_
 have⟨aa,ab,hd⟩:=bind_some hd
 refine AE (λa w=>∃q_1621':LI,aa= .inl q_1621'∧∃ac:LI,ac=q_1621'∧∃(ad:GH) (ae:Itm),GLe G ad∧Fr a 141 []∧Mem W ad w (ae::H)∧Ow (RI .u32) 75 ad ae v0 ac) ?_ ?_
 ·refine Ak ?_
  refine Az (λaf a w=>∃ag:LI,∃ah:Int,∃ai:Int,(ag,ah,ai)=af∧∃(aj:GH) (ak:Itm),GLe G aj∧Fr a 141 [(0,v0),(1,(iv x1)),(2,(iv x2)),(3,(.func (.func 71) #[] #[])),(9,(iv ah)),(10,(iv ai))]∧Mem W aj w (ak::H)∧Ow (RI .u32) 75 aj ak v0 ag) ab ⟨_,_,_,Z,_,it0,gr,f.k Z,m,o0⟩ ?_
  clear ab f m
  rintro af al am an a w ⟨ag,ah,ai,rfl,aj,ak,ao,f,m,ap⟩
  refine Ag (Af ?_)
  refine Aa f Z λa f=>Ah f Z Z Aw λa f=>Ab ?_
  rcases Ae am with⟨aq,am⟩|⟨aq,am⟩
  ·refine Al f Z aq ?_
   refine Am ?_
   refine Ag (Ak (Ag ?_))
   have⟨ar,au,am⟩:=bind_some am
   refine AE (λa w=>∃av:Int,av=ar∧∃(aw:GH),GLe aj aw∧Fr a 141 [(0,v0),(1,(iv x1)),(2,(iv x2)),(3,(.func (.func 71) #[] #[])),(9,(iv av)),(10,(iv ai))]∧Mem W aw w (ak::H)) ?_ ?_
   ·refine Ak ?_
    refine Az (λax a w=>∃ay:Int,ay=ax∧∃(az:GH),GLe aj az∧Fr a 141 [(0,v0),(1,(iv x1)),(2,(iv x2)),(3,(.func (.func 71) #[] #[])),(9,(iv ay)),(10,(iv ai))]∧Mem W az w (ak::H)) au ⟨_,Z,_,gr,f.k Z,m⟩ ?_
    clear au f m
    rintro ax aA aB aC a w ⟨ay,rfl,az,aD,f,m⟩
    have ap:=od1 aD ap
    refine Ag (Ag ?_)
    refine A6 18 AI (by kernel_rfl) m ?_
    refine Aj 0 18 Z f Z λa f=>Aj 1 18 Z f Z λa f=>q_p 2 18 Z f (λ_=>AH (f.e Z) (f.e Z) Aw) λa f=>Aj 3 18 Z f Z λa f=> ?_
    have⟨aE,aF,aB⟩:=bind_some aB
    refine Cu (fuel':=0) (listed':= #[true,true,true,true,true,true,true,true,true,true,true,true,true,true,true,true,true,true]) (λa=>Fr a 141 [(0,v0),(1,(iv x1)),(2,(iv x2)),(3,(.func (.func 71) #[] #[])),(9,(iv ay)),(10,(iv ai)),(19,(iv ay)),(20,(iv x2)),(21,(.bool (decide (ay<x2)))),(22,(.bool (decide (ay<x2)))),(36,(.bool aE))]) ?_ ?_
    ·intro a f
     refine A2 λaG w aH m=>Ab ?_
     rcases Ae aB with⟨aI,aB⟩|⟨aI,aB⟩
     ·refine Al f Z aI ?_
      refine Am ?_
      refine Ak (An ?_)
      refine Aa f Z λa f=>Ah f Z Z Av λa f=>Ac f Z λa f=>Ab ?_
      obtain rfl:=sj aB
      exact⟨_,Z,_,Z,_,(gt aD aH),f.k Z,m⟩
     ·refine Ai f Z aI ?_
      refine Ax Z ?_
      obtain rfl:=sj aB
      obtain rfl:=aC _ rfl
      exact⟨_,Z,_,(gt aD aH),f.k Z,m⟩
    ·intro aJ
     rcases Ae aF with⟨aK,aF⟩|⟨aK,aF⟩
     ·refine Aj (hw:=wo f aK) 4 18 Z f Z λa f=> ?_
      refine Aj (hw:=wo f aK) 5 18 Z f Z λa f=>Aj (hw:=wo f aK) 6 18 Z f Z λa f=> ?_
      have⟨aL,aM,aF⟩:=bind_some aF
      refine AJ (hw:=wo f aK) 7 18 0 m ap T54 aM Z f Z Z λaN a aO f=>AV (hw:=wo f aK) 8 18 0 ap AR aO aM Z f Z λaP a aQ f=> ?_
      subst aQ
      refine Aj (hw:=wo f aK) 9 18 Z f Z λa f=>Aj (hw:=wo f aK) 10 18 Z f Z λa f=>q_p (hw:=wo f aK) 11 18 Z f (λ_=>AH (f.e Z) (f.e Z) AL) λa f=> ?_
      have⟨aR,aS,aF⟩:=bind_some aF
      refine AJ (hw:=wo f aK) 12 18 0 m ap T54 aS Z f Z Z λaT a aU f=>AV (hw:=wo f aK) 13 18 0 ap AR aU aS Z f Z λaV a aW f=> ?_
      subst aW
      have⟨aX,aY,aF⟩:=bind_some aF
      refine BA (i:=14) 18 Z (by kernel_rfl) Z f (By f Z Z Z aK) Z Z Z call71 (λ_ _ w aZ m=>Wk.a hW m aY) λa f=>q_p (hw:=wo f aK) 15 18 Z f (λ_=>AH (f.e Z) (f.e Z) Aw) λa f=>q_p (hw:=wo f aK) 16 18 Z f (λ_=>Bi (f.e Z)) λa f=>q_p 17 18 Z f (λ_=>AZ (f.e Z) aK (f.e Z)) λa f=> ?_
      obtain rfl:=sj aF
      exact aJ _ (f.k Z)
     ·refine Ar 4 18 Z f aK λa f=> ?_
      refine Ar 5 18 Z f aK λa f=>Ar 6 18 Z f aK λa f=>Ar 7 18 Z f aK λa f=>Ar 8 18 Z f aK λa f=>Ar 9 18 Z f aK λa f=>Ar 10 18 Z f aK λa f=>Ar 11 18 Z f aK λa f=>Ar 12 18 Z f aK λa f=>Ar 13 18 Z f aK λa f=>Ar 14 18 Z f aK λa f=>Ar 15 18 Z f aK λa f=>Ar 16 18 Z f aK λa f=>q_p 17 18 Z f (λ_=>AY (f.e Z) aK (f.e Z)) λa f=> ?_
      obtain rfl:=sj aF
      exact aJ _ (f.k Z)
   ·rintro a w ⟨av,rfl,aw,a0,f,m⟩
    have ap:=od1 a0 ap
    refine Ag (Af ?_)
    refine Aa f Z λa f=>Aa f Z λa f=>Ah f Z Z BO λa f=>Ab ?_
    rcases Ae am with⟨a1,am⟩|⟨a1,am⟩
    ·refine Al f Z a1 ?_
     refine Af ?_
     refine Ac f Z λa f=>Ab ?_
     refine Aq ?_
     obtain rfl:=sj am
     obtain rfl:=an _ rfl
     obtain rfl:=sj hd
     exact⟨[(.bool true)],f.g Z,f.d,_,[ak],(gt ao a0),m,_,Z,Z,ap⟩
    ·refine Ai f Z a1 ?_
     refine Am ?_
     refine Ag (Af ?_)
     refine Aa f Z λa f=>Aa f Z λa f=>Ah f Z Z AL λa f=>Ah f Z Z Aw λa f=>Ab ?_
     rcases Ae am with⟨a2,am⟩|⟨a2,am⟩
     ·refine Al f Z a2 ?_
      refine Af ?_
      refine Ac f Z λa f=>Ab ?_
      refine Aq ?_
      obtain rfl:=sj am
      obtain rfl:=an _ rfl
      obtain rfl:=sj hd
      exact⟨[(.bool false)],f.g Z,f.d,_,[ak],(gt ao a0),m,_,Z,Z,ap⟩
     ·refine Ai f Z a2 ?_
      refine Am ?_
      refine Ag ?_
      refine Bq AI m ?_
      refine p_p 2 Z f (λ_=>A1 (f.e Z)) λa f=>p_p 3 Z f (λ_=>A1 (f.e Z)) λa f=>p_p 4 Z f (λ_=>AH (f.e Z) (f.e Z) AL) λa f=>Br 28015 12 (by kernel_rfl) Z ?_
      refine Aj 0 28015 Z f Z λa f=>Aj 1 28015 Z f Z λa f=>Aj 5 28015 Z f Z λa f=>Aj 6 28015 Z f Z λa f=>q_p 7 28015 Z f (λ_=>AH (f.e Z) (f.e Z) AL) λa f=> ?_
      have⟨a3,a4,am⟩:=bind_some am
      refine AJ 8 28015 0 m ap T54 a4 Z f Z Z λa5 a a6 f=>AV 9 28015 0 ap AR a6 a4 Z f Z λa7 a a8 f=> ?_
      subst a8
      refine Aj 10 28015 Z f Z λa f=>Aj 11 28015 Z f Z λa f=> ?_
      have⟨a9,ba,am⟩:=bind_some am
      refine AJ 12 28015 0 m ap T54 ba Z f Z Z λbb a bc f=>AV 13 28015 0 ap AR bc ba Z f Z λbd a be f=> ?_
      subst be
      have⟨bf,bg,am⟩:=bind_some am
      refine AJ 14 28015 0 m ap T54 bg Z f Z Z λbh a bi f=>A2 λbj w bk m=> ?_
      have ap:=od1 bk ap
      refine AB 0 m ap Z sizeOf75 f Z Z bi bg Z Z Z λbl w m bm=> ?_
      have⟨bn,bo,am⟩:=bind_some am
      refine A4 0 m bm Z T54 f Z Z Z bo λbp a bq f=>AB 0 m bm Z sizeOf75 f Z Z bq bo Z Z Z λbr w m bs=>Ab (Ag (Af ?_))
      refine Aa f Z λa f=>Aa f Z λa f=>Ah f Z Z AL λa f=>Ah f Z Z BW λa f=>Ab ?_
      have⟨bt,bu,am⟩:=bind_some am
      refine AE (λa w=>∃bv:LI,bv=bt∧∃(bw:GH) (bx:Itm),GLe bj bw∧Fr a 141 [(0,v0),(1,(iv x1)),(2,(iv x2)),(3,(.func (.func 71) #[] #[])),(9,(iv av)),(10,(iv ai))]∧Mem W bw w (bx::H)∧Ow (RI .u32) 75 bw bx v0 bv) ?_ ?_
      ·rcases Ae bu with⟨bz,bu⟩|⟨bz,bu⟩
       ·refine Al f Z bz ?_
        refine Af ?_
        refine Aa f Z λa f=>Ah f Z Z AL λa f=>Ac f Z λa f=>Ab ?_
        have⟨bA,bB,bu⟩:=bind_some bu
        refine AE (λa w=>∃bC:LI,bC=bA∧∃(bD:GH) (bE:Itm),GLe bj bD∧Fr a 141 [(0,v0),(1,(iv x1)),(2,(iv x2)),(3,(.func (.func 71) #[] #[])),(9,(iv av)),(10,(iv ai))]∧Mem W bD w (bE::H)∧Ow (RI .u32) 75 bD bE v0 bC) ?_ ?_
        ·refine Ak ?_
         refine Az (λbF a w=>∃bG:LI,∃bH:Int,(bG,bH)=bF∧∃(bI:GH) (bJ:Itm),GLe bj bI∧Fr a 141 [(0,v0),(1,(iv x1)),(2,(iv x2)),(3,(.func (.func 71) #[] #[])),(9,(iv av)),(10,(iv ai)),(11,(iv bH))]∧Mem W bI w (bJ::H)∧Ow (RI .u32) 75 bI bJ v0 bG) bB ⟨_,_,Z,_,br,gr,f.k Z,m,bs⟩ ?_
         clear bB f m
         rintro bF bK bL bM a w ⟨bG,bH,rfl,bI,bJ,bN,f,m,bO⟩
         refine Ag (Af ?_)
         refine Aa f Z λa f=>Ah f Z Z BW λa f=>Ab ?_
         rcases Ae bL with⟨bP,bL⟩|⟨bP,bL⟩
         ·refine Al f Z bP ?_
          refine Am ?_
          refine Ag (Ak (Ag (Ag ?_)))
          refine A6 13 AI (by kernel_rfl) m ?_
          refine Aj 0 13 Z f Z λa f=>Aj 1 13 Z f Z λa f=>Aj 2 13 Z f Z λa f=> ?_
          have⟨bQ,bR,bL⟩:=bind_some bL
          refine AJ 3 13 0 m bO T54 bR Z f Z Z λbS a bT f=>AV 4 13 0 bO AR bT bR Z f Z λbU a bV f=> ?_
          subst bV
          refine Aj 5 13 Z f Z λa f=>Aj 6 13 Z f Z λa f=>q_p 7 13 Z f (λ_=>AH (f.e Z) (f.e Z) AL) λa f=> ?_
          have⟨bW,bX,bL⟩:=bind_some bL
          refine AJ 8 13 0 m bO T54 bX Z f Z Z λbY a bZ f=>AV 9 13 0 bO AR bZ bX Z f Z λb0 a b1 f=> ?_
          subst b1
          have⟨b2,b3,bL⟩:=bind_some bL
          refine BA (i:=10) 13 Z (by kernel_rfl) Z f Z Z Z Z call71 (λ_ _ w b4 m=>Wk.a hW m b3) λa f=>q_p 11 13 Z f (λ_=>AH (f.e Z) (f.e Z) Aw) λa f=>q_p 12 13 Z f (λ_=>Bi (f.e Z)) λa f=>A2 λb5 w b6 m=> ?_
          have bO:=od1 b6 bO
          refine Ab ?_
          rcases Ae bL with⟨b7,bL⟩|⟨b7,bL⟩
          ·refine Al f Z b7 ?_
           refine Ax Z ?_
           obtain rfl:=sj bL
           obtain rfl:=bM _ rfl
           exact⟨_,Z,_,bJ,(gt bN b6),f.k Z,m,bO⟩
          ·refine Ai f Z b7 ?_
           refine Am ?_
           refine Bq AI m ?_
           refine p_p 2 Z f (λ_=>A1 (f.e Z)) λa f=>p_p 3 Z f (λ_=>A1 (f.e Z)) λa f=>p_p 4 Z f (λ_=>AH (f.e Z) (f.e Z) AL) λa f=>Br 28015 12 (by kernel_rfl) Z ?_
           refine Aj 0 28015 Z f Z λa f=>Aj 1 28015 Z f Z λa f=>Aj 5 28015 Z f Z λa f=>Aj 6 28015 Z f Z λa f=>q_p 7 28015 Z f (λ_=>AH (f.e Z) (f.e Z) AL) λa f=> ?_
           have⟨b8,b9,bL⟩:=bind_some bL
           refine AJ 8 28015 0 m bO T54 b9 Z f Z Z λca a cb f=>AV 9 28015 0 bO AR cb b9 Z f Z λcc a cd f=> ?_
           subst cd
           refine Aj 10 28015 Z f Z λa f=>Aj 11 28015 Z f Z λa f=> ?_
           have⟨ce,cf,bL⟩:=bind_some bL
           refine AJ 12 28015 0 m bO T54 cf Z f Z Z λcg a ch f=>AV 13 28015 0 bO AR ch cf Z f Z λci a cj f=> ?_
           subst cj
           have⟨ck,cl,bL⟩:=bind_some bL
           refine AJ 14 28015 0 m bO T54 cl Z f Z Z λcm a cn f=>A2 λco w cp m=> ?_
           have bO:=od1 cp bO
           refine AB 0 m bO Z sizeOf75 f Z Z cn cl Z Z Z λcq w m cr=> ?_
           have⟨cs,ct,bL⟩:=bind_some bL
           refine A4 0 m cr Z T54 f Z Z Z ct λcu a cv f=>AB 0 m cr Z sizeOf75 f Z Z cv ct Z Z Z λcw w m cx=>Ab (An ?_)
           refine Aa f Z λa f=>Ah f Z Z AL λa f=>Ac f Z λa f=>Ab ?_
           obtain rfl:=sj bL
           exact⟨_,Z,_,_,Z,_,cw,(gt bN (gt b6 cp)),f.k Z,m,cx⟩
         ·refine Ai f Z bP ?_
          refine Ax Z ?_
          obtain rfl:=sj bL
          obtain rfl:=bM _ rfl
          exact⟨_,Z,_,bJ,bN,f.k Z,m,bO⟩
        ·rintro a w ⟨bC,rfl,bD,bE,cy,f,m,cz⟩
         obtain rfl:=sj bu
         exact⟨_,Z,_,bE,cy,f.k Z,m,cz⟩
       ·refine Ai f Z bz ?_
        refine Am ?_
        obtain rfl:=sj bu
        exact⟨_,Z,_,br,gr,f.k Z,m,bs⟩
      ·rintro a w ⟨bv,rfl,bw,bx,cA,f,m,cB⟩
       refine Af ?_
       refine Aa f Z λa f=>Aa f Z λa f=>Ah f Z Z AL λa f=>Ah f Z Z BW λa f=>Ab ?_
       rcases Ae am with⟨cC,am⟩|⟨cC,am⟩
       ·refine Al f Z cC ?_
        refine Af ?_
        refine Aa f Z λa f=>Ah f Z Z Av λa f=>Ac f Z λa f=>Ab ?_
        have⟨cD,cE,am⟩:=bind_some am
        refine AE (λa w=>∃cF:LI,cF=cD∧∃(cG:GH) (cH:Itm),GLe bw cG∧Fr a 141 [(0,v0),(1,(iv x1)),(2,(iv x2)),(3,(.func (.func 71) #[] #[])),(9,(iv av)),(10,(iv ai))]∧Mem W cG w (cH::H)∧Ow (RI .u32) 75 cG cH v0 cF) ?_ ?_
        ·refine Ak ?_
         refine Az (λcI a w=>∃cJ:LI,∃cK:Int,(cJ,cK)=cI∧∃(cL:GH) (cM:Itm),GLe bw cL∧Fr a 141 [(0,v0),(1,(iv x1)),(2,(iv x2)),(3,(.func (.func 71) #[] #[])),(9,(iv av)),(10,(iv ai)),(12,(iv cK))]∧Mem W cL w (cM::H)∧Ow (RI .u32) 75 cL cM v0 cJ) cE ⟨_,_,Z,_,bx,gr,f.k Z,m,cB⟩ ?_
         clear cE f m
         rintro cI cN cO cP a w ⟨cJ,cK,rfl,cL,cM,cQ,f,m,cR⟩
         refine Ag (Af ?_)
         refine Aa f Z λa f=>Aa f Z λa f=>Ah f Z Z Aw λa f=>Ab ?_
         rcases Ae cO with⟨cS,cO⟩|⟨cS,cO⟩
         ·refine Al f Z cS ?_
          refine Am ?_
          refine Ag (Ak (Ag (Ag ?_)))
          refine A6 13 AI (by kernel_rfl) m ?_
          refine Aj 0 13 Z f Z λa f=>Aj 1 13 Z f Z λa f=>Aj 2 13 Z f Z λa f=> ?_
          have⟨cT,cU,cO⟩:=bind_some cO
          refine AJ 3 13 0 m cR T54 cU Z f Z Z λcV a cW f=>AV 4 13 0 cR AR cW cU Z f Z λcX a cY f=> ?_
          subst cY
          refine Aj 5 13 Z f Z λa f=>Aj 6 13 Z f Z λa f=>q_p 7 13 Z f (λ_=>AH (f.e Z) (f.e Z) AL) λa f=> ?_
          have⟨cZ,c0,cO⟩:=bind_some cO
          refine AJ 8 13 0 m cR T54 c0 Z f Z Z λc1 a c2 f=>AV 9 13 0 cR AR c2 c0 Z f Z λc3 a c4 f=> ?_
          subst c4
          have⟨c5,c6,cO⟩:=bind_some cO
          refine BA (i:=10) 13 Z (by kernel_rfl) Z f Z Z Z Z call71 (λ_ _ w c7 m=>Wk.a hW m c6) λa f=>q_p 11 13 Z f (λ_=>AH (f.e Z) (f.e Z) Aw) λa f=>q_p 12 13 Z f (λ_=>Bi (f.e Z)) λa f=>A2 λc8 w c9 m=> ?_
          have cR:=od1 c9 cR
          refine Ab ?_
          rcases Ae cO with⟨da,cO⟩|⟨da,cO⟩
          ·refine Al f Z da ?_
           refine Ax Z ?_
           obtain rfl:=sj cO
           obtain rfl:=cP _ rfl
           exact⟨_,Z,_,cM,(gt cQ c9),f.k Z,m,cR⟩
          ·refine Ai f Z da ?_
           refine Am ?_
           refine Bq AI m ?_
           refine p_p 2 Z f (λ_=>A1 (f.e Z)) λa f=>p_p 3 Z f (λ_=>A1 (f.e Z)) λa f=>p_p 4 Z f (λ_=>AH (f.e Z) (f.e Z) AL) λa f=>Br 28015 12 (by kernel_rfl) Z ?_
           refine Aj 0 28015 Z f Z λa f=>Aj 1 28015 Z f Z λa f=>Aj 5 28015 Z f Z λa f=>Aj 6 28015 Z f Z λa f=>q_p 7 28015 Z f (λ_=>AH (f.e Z) (f.e Z) AL) λa f=> ?_
           have⟨db,dc,cO⟩:=bind_some cO
           refine AJ 8 28015 0 m cR T54 dc Z f Z Z λdd a de f=>AV 9 28015 0 cR AR de dc Z f Z λdf a dg f=> ?_
           subst dg
           refine Aj 10 28015 Z f Z λa f=>Aj 11 28015 Z f Z λa f=> ?_
           have⟨dh,di,cO⟩:=bind_some cO
           refine AJ 12 28015 0 m cR T54 di Z f Z Z λdj a dk f=>AV 13 28015 0 cR AR dk di Z f Z λdl a dm f=> ?_
           subst dm
           have⟨dn,dp,cO⟩:=bind_some cO
           refine AJ 14 28015 0 m cR T54 dp Z f Z Z λdq a dr f=>A2 λds w dt m=> ?_
           have cR:=od1 dt cR
           refine AB 0 m cR Z sizeOf75 f Z Z dr dp Z Z Z λdu w m dv=> ?_
           have⟨dw,dx,cO⟩:=bind_some cO
           refine A4 0 m dv Z T54 f Z Z Z dx λdy a dz f=>AB 0 m dv Z sizeOf75 f Z Z dz dx Z Z Z λdA w m dB=>Ab (An ?_)
           refine Aa f Z λa f=>Ah f Z Z Av λa f=>Ac f Z λa f=>Ab ?_
           obtain rfl:=sj cO
           exact⟨_,Z,_,_,Z,_,dA,(gt cQ (gt c9 dt)),f.k Z,m,dB⟩
         ·refine Ai f Z cS ?_
          refine Ax Z ?_
          obtain rfl:=sj cO
          obtain rfl:=cP _ rfl
          exact⟨_,Z,_,cM,cQ,f.k Z,m,cR⟩
        ·rintro a w ⟨cF,rfl,cG,cH,dC,f,m,dD⟩
         refine An ?_
         refine Aa f Z λa f=>Ah f Z Z Av λa f=>Ac f Z λa f=>Ab ?_
         obtain rfl:=sj am
         exact⟨_,Z,_,_,_,Z,_,cH,(gt ao (gt a0 (gt bk (gt cA dC)))),f.k Z,m,dD⟩
       ·refine Ai f Z cC ?_
        refine Am ?_
        refine An ?_
        refine Aa f Z λa f=>Ah f Z Z Av λa f=>Ac f Z λa f=>Ab ?_
        obtain rfl:=sj am
        exact⟨_,Z,_,_,_,Z,_,bx,(gt ao (gt a0 (gt bk cA))),f.k Z,m,cB⟩
  ·refine Ai f Z aq ?_
   refine Ax Z ?_
   obtain rfl:=sj am
   obtain rfl:=an _ rfl
   exact⟨_,Z,_,Z,_,ak,ao,f.weak trivial,m,ap⟩
 ·rintro a w ⟨_,rfl,ac,rfl,ad,ae,dE,f,m,dF⟩
  refine Af ?_
  refine Ac f Z λa f=>Ab ?_
  refine Aq ?_
  obtain rfl:=sj hd
  exact⟨[(.bool false)],f.g Z,f.d,_,[ae],dE,m,_,Z,Z,dF⟩
theorem Wk.w0 {v0:Value}{it0:Itm}{x0:LI}{x1 x2 x3:Int}(hW:Bn W)(m:Mem W G w (it0::H))(o0:Ow (RI .u32) 75 G it0 v0 x0){y:Int×(LI)}(hd:D.w0 x0 x1 x2 x3=some y):
  Calls prog 116 #[v0,(iv x1),(iv x2),(iv x3),(.func (.func 71) #[] #[])] w (Res W G H (λG' Ho v=>∃i0:Itm,Ho=[i0]∧v=(iv y.1)∧Ow (RI .u32) 75 G' i0 v0 y.2)):=by
 refine As (args:=[v0,(iv x1),(iv x2),(iv x3),(.func (.func 71) #[] #[])]) (N:=90) [.tmp 10] func116 Z Z (lb Z) Z λa f=> ?_
 unfold D.w0 at hd
 refine Af ?_
 refine Ac f Z λa f=>Ab (Ag ?_)
 refine Bq AI m ?_
 refine p_p 2 Z f (λ_=>A1 (f.e Z)) λa f=>p_p 3 Z f (λ_=>A1 (f.e Z)) λa f=>Br 12013 11 (by kernel_rfl) Z ?_
 refine Aj 0 12013 Z f Z λa f=>Aj 1 12013 Z f Z λa f=>Aj 4 12013 Z f Z λa f=>Aj 5 12013 Z f Z λa f=> ?_
 have⟨aa,ab,hd⟩:=bind_some hd
 refine AJ 6 12013 0 m o0 T54 ab Z f Z Z λac a ad f=>AV 7 12013 0 o0 AR ad ab Z f Z λae a af f=> ?_
 subst af
 refine Aj 8 12013 Z f Z λa f=>Aj 9 12013 Z f Z λa f=> ?_
 have⟨ag,ah,hd⟩:=bind_some hd
 refine AJ 10 12013 0 m o0 T54 ah Z f Z Z λai a aj f=>AV 11 12013 0 o0 AR aj ah Z f Z λak a al f=> ?_
 subst al
 have⟨am,an,hd⟩:=bind_some hd
 refine AJ 12 12013 0 m o0 T54 an Z f Z Z λao a ap f=>A2 λaq w ar m=> ?_
 have o0:=od1 ar o0
 refine AB 0 m o0 Z sizeOf75 f Z Z ap an Z Z Z λau w m av=> ?_
 have⟨aw,ax,hd⟩:=bind_some hd
 refine A4 0 m av Z T54 f Z Z Z ax λay a az f=>AB 0 m av Z sizeOf75 f Z Z az ax Z Z Z λaA w m aB=>Au ?_
 refine Aa f Z λa f=>Ah f Z Z Av λa f=>Aa f Z λa f=>Ah f Z Z AL λa f=>Ac f Z λa f=>Ac f Z λa f=>Ab (Ag ?_)
 have⟨aC,aD,hd⟩:=bind_some hd
 refine AE (λa w=>∃aE:LI,∃aF:Int,(aE,aF)=aC∧∃(aG:GH) (aH:Itm),GLe aq aG∧Fr a 90 [(11,(iv aF))]∧Mem W aG w (aH::H)∧Ow (RI .u32) 75 aG aH v0 aE) ?_ ?_
 ·refine Ak ?_
  refine Az (λaI a w=>∃aJ:LI,∃aK:Int,∃aL:Int,(aJ,aK,aL)=aI∧∃(aM:GH) (aN:Itm),GLe aq aM∧Fr a 90 [(0,v0),(1,(iv x1)),(4,(.func (.func 71) #[] #[])),(11,(iv aK)),(12,(iv aL))]∧Mem W aM w (aN::H)∧Ow (RI .u32) 75 aM aN v0 aJ) aD ⟨_,_,_,Z,_,aA,gr,f.k Z,m,aB⟩ ?_
  clear aD f m
  rintro aI aO aP aQ a w ⟨aJ,aK,aL,rfl,aM,aN,aR,f,m,aS⟩
  refine Ak (Ag ?_)
  have⟨aT,aU,aP⟩:=bind_some aP
  refine AE (λa w=>∃aV:Int,aV=aT∧∃(aW:GH),GLe aM aW∧Fr a 90 [(0,v0),(1,(iv x1)),(4,(.func (.func 71) #[] #[])),(11,(iv aV)),(12,(iv aL))]∧Mem W aW w (aN::H)) ?_ ?_
  ·refine Ak ?_
   refine Az (λaX a w=>∃aY:Int,aY=aX∧∃(aZ:GH),GLe aM aZ∧Fr a 90 [(0,v0),(1,(iv x1)),(4,(.func (.func 71) #[] #[])),(11,(iv aY)),(12,(iv aL))]∧Mem W aZ w (aN::H)) aU ⟨_,Z,_,gr,f.k Z,m⟩ ?_
   clear aU f m
   rintro aX a0 a1 a2 a w ⟨aY,rfl,aZ,a3,f,m⟩
   have aS:=od1 a3 aS
   refine Ag (Ag ?_)
   refine A6 17 AI (by kernel_rfl) m ?_
   refine Aj 0 17 Z f Z λa f=>Aj 1 17 Z f Z λa f=>q_p 2 17 Z f (λ_=>AH (f.e Z) (f.e Z) Cy) λa f=>Aj 3 17 Z f Z λa f=> ?_
   have⟨a4,a5,a1⟩:=bind_some a1
   refine Cu (fuel':=0) (listed':= #[true,true,true,true,true,true,true,true,true,true,true,true,true,true,true,true,true]) (λa=>Fr a 90 [(0,v0),(1,(iv x1)),(4,(.func (.func 71) #[] #[])),(11,(iv aY)),(12,(iv aL)),(31,(iv aY)),(32,(iv aL)),(33,(.bool (decide (aY≤aL)))),(34,(.bool (decide (aY≤aL)))),(47,(.bool a4))]) ?_ ?_
   ·intro a f
    refine A2 λa6 w a7 m=>Ab ?_
    rcases Ae a1 with⟨a8,a1⟩|⟨a8,a1⟩
    ·refine Al f Z a8 ?_
     refine Am ?_
     refine Ak (An ?_)
     refine Aa f Z λa f=>Ah f Z Z Av λa f=>Ac f Z λa f=>Ab ?_
     obtain rfl:=sj a1
     exact⟨_,Z,_,Z,_,(gt a3 a7),f.k Z,m⟩
    ·refine Ai f Z a8 ?_
     refine Ax Z ?_
     obtain rfl:=sj a1
     obtain rfl:=a2 _ rfl
     exact⟨_,Z,_,(gt a3 a7),f.k Z,m⟩
   ·intro a9
    rcases Ae a5 with⟨ba,a5⟩|⟨ba,a5⟩
    ·refine Aj (hw:=wo f ba) 4 17 Z f Z λa f=> ?_
     refine Aj (hw:=wo f ba) 5 17 Z f Z λa f=>Aj (hw:=wo f ba) 6 17 Z f Z λa f=> ?_
     have⟨bb,bc,a5⟩:=bind_some a5
     refine AJ (hw:=wo f ba) 7 17 0 m aS T54 bc Z f Z Z λbd a be f=>AV (hw:=wo f ba) 8 17 0 aS AR be bc Z f Z λbf a bg f=> ?_
     subst bg
     refine Aj (hw:=wo f ba) 9 17 Z f Z λa f=>Aj (hw:=wo f ba) 10 17 Z f Z λa f=> ?_
     have⟨bh,bi,a5⟩:=bind_some a5
     refine AJ (hw:=wo f ba) 11 17 0 m aS T54 bi Z f Z Z λbj a bk f=>AV (hw:=wo f ba) 12 17 0 aS AR bk bi Z f Z λbl a bm f=> ?_
     subst bm
     have⟨bn,bo,a5⟩:=bind_some a5
     refine BA (i:=13) 17 Z (by kernel_rfl) Z f (By f Z Z Z ba) Z Z Z call71 (λ_ _ w bp m=>Wk.a hW m bo) λa f=>q_p (hw:=wo f ba) 14 17 Z f (λ_=>AH (f.e Z) (f.e Z) Aw) λa f=>q_p (hw:=wo f ba) 15 17 Z f (λ_=>Bi (f.e Z)) λa f=>q_p 16 17 Z f (λ_=>AZ (f.e Z) ba (f.e Z)) λa f=> ?_
     obtain rfl:=sj a5
     exact a9 _ (f.k Z)
    ·refine Ar 4 17 Z f ba λa f=> ?_
     refine Ar 5 17 Z f ba λa f=>Ar 6 17 Z f ba λa f=>Ar 7 17 Z f ba λa f=>Ar 8 17 Z f ba λa f=>Ar 9 17 Z f ba λa f=>Ar 10 17 Z f ba λa f=>Ar 11 17 Z f ba λa f=>Ar 12 17 Z f ba λa f=>Ar 13 17 Z f ba λa f=>Ar 14 17 Z f ba λa f=>Ar 15 17 Z f ba λa f=>q_p 16 17 Z f (λ_=>AY (f.e Z) ba (f.e Z)) λa f=> ?_
     obtain rfl:=sj a5
     exact a9 _ (f.k Z)
  ·rintro a w ⟨aV,rfl,aW,bq,f,m⟩
   have aS:=od1 bq aS
   refine Ag ?_
   have⟨br,bs,aP⟩:=bind_some aP
   refine AE (λa w=>∃bt:Int,bt=br∧∃(bu:GH),GLe aW bu∧Fr a 90 [(0,v0),(1,(iv x1)),(4,(.func (.func 71) #[] #[])),(11,(iv aV)),(12,(iv bt))]∧Mem W bu w (aN::H)) ?_ ?_
   ·refine Ak ?_
    refine Az (λbv a w=>∃bw:Int,bw=bv∧∃(bx:GH),GLe aW bx∧Fr a 90 [(0,v0),(1,(iv x1)),(4,(.func (.func 71) #[] #[])),(11,(iv aV)),(12,(iv bw))]∧Mem W bx w (aN::H)) bs ⟨_,Z,_,gr,f.k Z,m⟩ ?_
    clear bs f m
    rintro bv bz bA bB a w ⟨bw,rfl,bx,bC,f,m⟩
    have aS:=od1 bC aS
    refine Ag (Ag ?_)
    refine A6 16 AI (by kernel_rfl) m ?_
    refine Aj 0 16 Z f Z λa f=>Aj 1 16 Z f Z λa f=>q_p 2 16 Z f (λ_=>AH (f.e Z) (f.e Z) Cy) λa f=>Aj 3 16 Z f Z λa f=> ?_
    have⟨bD,bE,bA⟩:=bind_some bA
    refine Cu (fuel':=0) (listed':= #[true,true,true,true,true,true,true,true,true,true,true,true,true,true,true,true]) (λa=>Fr a 90 [(0,v0),(1,(iv x1)),(4,(.func (.func 71) #[] #[])),(11,(iv aV)),(12,(iv bw)),(50,(iv aV)),(51,(iv bw)),(52,(.bool (decide (aV≤bw)))),(53,(.bool (decide (aV≤bw)))),(65,(.bool bD))]) ?_ ?_
    ·intro a f
     refine A2 λbF w bG m=>Ab ?_
     rcases Ae bA with⟨bH,bA⟩|⟨bH,bA⟩
     ·refine Al f Z bH ?_
      refine Am ?_
      refine Ak (An ?_)
      refine Aa f Z λa f=>Ah f Z Z AL λa f=>Ac f Z λa f=>Ab ?_
      obtain rfl:=sj bA
      exact⟨_,Z,_,Z,_,(gt bC bG),f.k Z,m⟩
     ·refine Ai f Z bH ?_
      refine Ax Z ?_
      obtain rfl:=sj bA
      obtain rfl:=bB _ rfl
      exact⟨_,Z,_,(gt bC bG),f.k Z,m⟩
    ·intro bI
     rcases Ae bE with⟨bJ,bE⟩|⟨bJ,bE⟩
     ·refine Aj (hw:=wo f bJ) 4 16 Z f Z λa f=> ?_
      refine Aj (hw:=wo f bJ) 5 16 Z f Z λa f=>Aj (hw:=wo f bJ) 6 16 Z f Z λa f=> ?_
      have⟨bK,bL,bE⟩:=bind_some bE
      refine AJ (hw:=wo f bJ) 7 16 0 m aS T54 bL Z f Z Z λbM a bN f=>AV (hw:=wo f bJ) 8 16 0 aS AR bN bL Z f Z λbO a bP f=> ?_
      subst bP
      refine Aj (hw:=wo f bJ) 9 16 Z f Z λa f=>Aj (hw:=wo f bJ) 10 16 Z f Z λa f=> ?_
      have⟨bQ,bR,bE⟩:=bind_some bE
      refine AJ (hw:=wo f bJ) 11 16 0 m aS T54 bR Z f Z Z λbS a bT f=>AV (hw:=wo f bJ) 12 16 0 aS AR bT bR Z f Z λbU a bV f=> ?_
      subst bV
      have⟨bW,bX,bE⟩:=bind_some bE
      refine BA (i:=13) 16 Z (by kernel_rfl) Z f (By f Z Z Z bJ) Z Z Z call71 (λ_ _ w bY m=>Wk.a hW m bX) λa f=>q_p (hw:=wo f bJ) 14 16 Z f (λ_=>AH (f.e Z) (f.e Z) Aw) λa f=>q_p 15 16 Z f (λ_=>AZ (f.e Z) bJ (f.e Z)) λa f=> ?_
      obtain rfl:=sj bE
      exact bI _ (f.k Z)
     ·refine Ar 4 16 Z f bJ λa f=> ?_
      refine Ar 5 16 Z f bJ λa f=>Ar 6 16 Z f bJ λa f=>Ar 7 16 Z f bJ λa f=>Ar 8 16 Z f bJ λa f=>Ar 9 16 Z f bJ λa f=>Ar 10 16 Z f bJ λa f=>Ar 11 16 Z f bJ λa f=>Ar 12 16 Z f bJ λa f=>Ar 13 16 Z f bJ λa f=>Ar 14 16 Z f bJ λa f=>q_p 15 16 Z f (λ_=>AY (f.e Z) bJ (f.e Z)) λa f=> ?_
      obtain rfl:=sj bE
      exact bI _ (f.k Z)
   ·rintro a w ⟨bt,rfl,bu,bZ,f,m⟩
    have aS:=od1 bZ aS
    refine Ag (Af ?_)
    refine Aa f Z λa f=>Aa f Z λa f=>Ah f Z Z Cw λa f=>Ab ?_
    rcases Ae aP with⟨b0,aP⟩|⟨b0,aP⟩
    ·refine Al f Z b0 ?_
     refine Ax Z ?_
     obtain rfl:=sj aP
     obtain rfl:=aQ _ rfl
     exact⟨_,_,Z,_,aN,(gt aR (gt bq bZ)),f.k Z,m,aS⟩
    ·refine Ai f Z b0 ?_
     refine Am ?_
     refine Ag ?_
     refine Bq AI m ?_
     refine p_p 2 Z f (λ_=>A1 (f.e Z)) λa f=>p_p 3 Z f (λ_=>A1 (f.e Z)) λa f=>Br 12013 11 (by kernel_rfl) Z ?_
     refine Aj 0 12013 Z f Z λa f=>Aj 1 12013 Z f Z λa f=>Aj 4 12013 Z f Z λa f=>Aj 5 12013 Z f Z λa f=> ?_
     have⟨b1,b2,aP⟩:=bind_some aP
     refine AJ 6 12013 0 m aS T54 b2 Z f Z Z λb3 a b4 f=>AV 7 12013 0 aS AR b4 b2 Z f Z λb5 a b6 f=> ?_
     subst b6
     refine Aj 8 12013 Z f Z λa f=>Aj 9 12013 Z f Z λa f=> ?_
     have⟨b7,b8,aP⟩:=bind_some aP
     refine AJ 10 12013 0 m aS T54 b8 Z f Z Z λb9 a ca f=>AV 11 12013 0 aS AR ca b8 Z f Z λcb a cc f=> ?_
     subst cc
     have⟨cd,ce,aP⟩:=bind_some aP
     refine AJ 12 12013 0 m aS T54 ce Z f Z Z λcf a cg f=>A2 λch w ci m=> ?_
     have aS:=od1 ci aS
     refine AB 0 m aS Z sizeOf75 f Z Z cg ce Z Z Z λcj w m ck=> ?_
     have⟨cl,cm,aP⟩:=bind_some aP
     refine A4 0 m ck Z T54 f Z Z Z cm λcn a co f=>AB 0 m ck Z sizeOf75 f Z Z co cm Z Z Z λcp w m cq=>Au ?_
     refine Aa f Z λa f=>Ah f Z Z Av λa f=>Ac f Z λa f=>Ab (An ?_)
     refine Aa f Z λa f=>Ah f Z Z AL λa f=>Ac f Z λa f=>Ab ?_
     obtain rfl:=sj aP
     exact⟨_,Z,_,_,_,Z,_,cp,(gt aR (gt bq (gt bZ ci))),f.k Z,m,cq⟩
 ·rintro a w ⟨aE,aF,rfl,aG,aH,cr,f,m,cs⟩
  refine Af ?_
  refine Aa f Z λa f=>Ac f Z λa f=>Ab ?_
  refine Aq ?_
  obtain rfl:=sj hd
  exact⟨[(iv aF)],f.g Z,f.d,_,[aH],(gt ar cr),m,_,Z,Z,cs⟩
theorem Wk.x0 {v0:Value}{it0:Itm}{x0:LI}{x1 x2 x3:Int}(hW:Bn W)(m:Mem W G w (it0::H))(o0:Ow (RI .u32) 75 G it0 v0 x0){y:Int×Bool×(LI)}(hd:D.x0 x0 x1 x2 x3=some y):
  Calls prog 117 #[v0,(iv x1),(iv x2),(iv x3),(.func (.func 71) #[] #[])] w (Res W G H (λG' Ho v=>∃i0:Itm,Ho=[i0]∧v= .tuple #[(iv y.1),(.bool y.2.1)]∧Ow (RI .u32) 75 G' i0 v0 y.2.2)):=by
 refine As (args:=[v0,(iv x1),(iv x2),(iv x3),(.func (.func 71) #[] #[])]) (N:=178) [.tmp 10,.tmp 11] func117 Z Z (lb Z) Z λa f=> ?_
 unfold D.x0 at hd
 refine Af ?_
 refine Ac f Z λa f=>Ac f Z λa f=>Ab (Ag ?_)
 refine Bq AI m ?_
 refine p_p 2 Z f (λ_=>A1 (f.e Z)) λa f=>p_p 3 Z f (λ_=>A1 (f.e Z)) λa f=>Br 12013 11 (by kernel_rfl) Z ?_
 refine Aj 0 12013 Z f Z λa f=>Aj 1 12013 Z f Z λa f=>Aj 4 12013 Z f Z λa f=>Aj 5 12013 Z f Z λa f=> ?_
 have⟨aa,ab,hd⟩:=bind_some hd
 refine AJ 6 12013 0 m o0 T54 ab Z f Z Z λac a ad f=>AV 7 12013 0 o0 AR ad ab Z f Z λae a af f=> ?_
 subst af
 refine Aj 8 12013 Z f Z λa f=>Aj 9 12013 Z f Z λa f=> ?_
 have⟨ag,ah,hd⟩:=bind_some hd
 refine AJ 10 12013 0 m o0 T54 ah Z f Z Z λai a aj f=>AV 11 12013 0 o0 AR aj ah Z f Z λak a al f=> ?_
 subst al
 have⟨am,an,hd⟩:=bind_some hd
 refine AJ 12 12013 0 m o0 T54 an Z f Z Z λao a ap f=>A2 λaq w ar m=> ?_
 have o0:=od1 ar o0
 refine AB 0 m o0 Z sizeOf75 f Z Z ap an Z Z Z λau w m av=> ?_
 have⟨aw,ax,hd⟩:=bind_some hd
 refine A4 0 m av Z T54 f Z Z Z ax λay a az f=>AB 0 m av Z sizeOf75 f Z Z az ax Z Z Z λaA w m aB=>Au ?_
 refine Aa f Z λa f=>Ah f Z Z Av λa f=>Aa f Z λa f=>Ah f Z Z AL λa f=>Ac f Z λa f=>Ac f Z λa f=>Ab (Ag ?_)
 have⟨aC,aD,hd⟩:=bind_some hd
 refine AE (λa w=>∃aE:Int,aE=aC∧∃(aF:GH),GLe aq aF∧Fr a 178 [(0,v0),(1,(iv x1)),(4,(.func (.func 71) #[] #[])),(12,(iv aE)),(13,(iv (i64.wrap (x2-1))))]∧Mem W aF w (aA::H)) ?_ ?_
 ·refine Ak ?_
  refine Az (λaG a w=>∃aH:Int,aH=aG∧∃(aI:GH),GLe aq aI∧Fr a 178 [(0,v0),(1,(iv x1)),(4,(.func (.func 71) #[] #[])),(12,(iv aH)),(13,(iv (i64.wrap (x2-1))))]∧Mem W aI w (aA::H)) aD ⟨_,Z,_,gr,f.k Z,m⟩ ?_
  clear aD f m
  rintro aG aJ aK aL a w ⟨aH,rfl,aI,aM,f,m⟩
  have aB:=od1 aM aB
  refine Ag (Ag ?_)
  refine A6 16 AI (by kernel_rfl) m ?_
  refine Aj 0 16 Z f Z λa f=>Aj 1 16 Z f Z λa f=>q_p 2 16 Z f (λ_=>AH (f.e Z) (f.e Z) Cy) λa f=>Aj 3 16 Z f Z λa f=> ?_
  have⟨aN,aO,aK⟩:=bind_some aK
  refine Cu (fuel':=0) (listed':= #[true,true,true,true,true,true,true,true,true,true,true,true,true,true,true,true]) (λa=>Fr a 178 [(0,v0),(1,(iv x1)),(4,(.func (.func 71) #[] #[])),(12,(iv aH)),(13,(iv (i64.wrap (x2-1)))),(32,(iv aH)),(33,(iv (i64.wrap (x2-1)))),(34,(.bool (decide (aH≤(i64.wrap (x2-1)))))),(35,(.bool (decide (aH≤(i64.wrap (x2-1)))))),(47,(.bool aN))]) ?_ ?_
  ·intro a f
   refine A2 λaP w aQ m=>Ab ?_
   rcases Ae aK with⟨aR,aK⟩|⟨aR,aK⟩
   ·refine Al f Z aR ?_
    refine Am ?_
    refine Ak (An ?_)
    refine Aa f Z λa f=>Ah f Z Z Av λa f=>Ac f Z λa f=>Ab ?_
    obtain rfl:=sj aK
    exact⟨_,Z,_,Z,_,(gt aM aQ),f.k Z,m⟩
   ·refine Ai f Z aR ?_
    refine Ax Z ?_
    obtain rfl:=sj aK
    obtain rfl:=aL _ rfl
    exact⟨_,Z,_,(gt aM aQ),f.k Z,m⟩
  ·intro aS
   rcases Ae aO with⟨aT,aO⟩|⟨aT,aO⟩
   ·refine Aj (hw:=wo f aT) 4 16 Z f Z λa f=> ?_
    refine Aj (hw:=wo f aT) 5 16 Z f Z λa f=>Aj (hw:=wo f aT) 6 16 Z f Z λa f=> ?_
    have⟨aU,aV,aO⟩:=bind_some aO
    refine AJ (hw:=wo f aT) 7 16 0 m aB T54 aV Z f Z Z λaW a aX f=>AV (hw:=wo f aT) 8 16 0 aB AR aX aV Z f Z λaY a aZ f=> ?_
    subst aZ
    refine Aj (hw:=wo f aT) 9 16 Z f Z λa f=>Aj (hw:=wo f aT) 10 16 Z f Z λa f=> ?_
    have⟨a0,a1,aO⟩:=bind_some aO
    refine AJ (hw:=wo f aT) 11 16 0 m aB T54 a1 Z f Z Z λa2 a a3 f=>AV (hw:=wo f aT) 12 16 0 aB AR a3 a1 Z f Z λa4 a a5 f=> ?_
    subst a5
    have⟨a6,a7,aO⟩:=bind_some aO
    refine BA (i:=13) 16 Z (by kernel_rfl) Z f (By f Z Z Z aT) Z Z Z call71 (λ_ _ w a8 m=>Wk.a hW m a7) λa f=>q_p (hw:=wo f aT) 14 16 Z f (λ_=>AH (f.e Z) (f.e Z) Aw) λa f=>q_p 15 16 Z f (λ_=>AZ (f.e Z) aT (f.e Z)) λa f=> ?_
    obtain rfl:=sj aO
    exact aS _ (f.k Z)
   ·refine Ar 4 16 Z f aT λa f=> ?_
    refine Ar 5 16 Z f aT λa f=>Ar 6 16 Z f aT λa f=>Ar 7 16 Z f aT λa f=>Ar 8 16 Z f aT λa f=>Ar 9 16 Z f aT λa f=>Ar 10 16 Z f aT λa f=>Ar 11 16 Z f aT λa f=>Ar 12 16 Z f aT λa f=>Ar 13 16 Z f aT λa f=>Ar 14 16 Z f aT λa f=>q_p 15 16 Z f (λ_=>AY (f.e Z) aT (f.e Z)) λa f=> ?_
    obtain rfl:=sj aO
    exact aS _ (f.k Z)
 ·rintro a w ⟨aE,rfl,aF,a9,f,m⟩
  have aB:=od1 a9 aB
  refine Ag ?_
  have⟨ba,bb,hd⟩:=bind_some hd
  refine AE (λa w=>∃bc:Int,bc=ba∧∃(bd:GH),GLe aF bd∧Fr a 178 [(0,v0),(1,(iv x1)),(4,(.func (.func 71) #[] #[])),(12,(iv aE)),(13,(iv bc))]∧Mem W bd w (aA::H)) ?_ ?_
  ·refine Ak ?_
   refine Az (λbe a w=>∃bf:Int,bf=be∧∃(bg:GH),GLe aF bg∧Fr a 178 [(0,v0),(1,(iv x1)),(4,(.func (.func 71) #[] #[])),(12,(iv aE)),(13,(iv bf))]∧Mem W bg w (aA::H)) bb ⟨_,Z,_,gr,f.k Z,m⟩ ?_
   clear bb f m
   rintro be bh bi bj a w ⟨bf,rfl,bg,bk,f,m⟩
   have aB:=od1 bk aB
   refine Ag (Ag ?_)
   refine A6 17 AI (by kernel_rfl) m ?_
   refine Aj 0 17 Z f Z λa f=>Aj 1 17 Z f Z λa f=>q_p 2 17 Z f (λ_=>AH (f.e Z) (f.e Z) Cy) λa f=>Aj 3 17 Z f Z λa f=> ?_
   have⟨bl,bm,bi⟩:=bind_some bi
   refine Cu (fuel':=0) (listed':= #[true,true,true,true,true,true,true,true,true,true,true,true,true,true,true,true,true]) (λa=>Fr a 178 [(0,v0),(1,(iv x1)),(4,(.func (.func 71) #[] #[])),(12,(iv aE)),(13,(iv bf)),(50,(iv aE)),(51,(iv bf)),(52,(.bool (decide (aE≤bf)))),(53,(.bool (decide (aE≤bf)))),(66,(.bool bl))]) ?_ ?_
   ·intro a f
    refine A2 λbn w bo m=>Ab ?_
    rcases Ae bi with⟨bp,bi⟩|⟨bp,bi⟩
    ·refine Al f Z bp ?_
     refine Am ?_
     refine Ak (An ?_)
     refine Aa f Z λa f=>Ah f Z Z AL λa f=>Ac f Z λa f=>Ab ?_
     obtain rfl:=sj bi
     exact⟨_,Z,_,Z,_,(gt bk bo),f.k Z,m⟩
    ·refine Ai f Z bp ?_
     refine Ax Z ?_
     obtain rfl:=sj bi
     obtain rfl:=bj _ rfl
     exact⟨_,Z,_,(gt bk bo),f.k Z,m⟩
   ·intro bq
    rcases Ae bm with⟨br,bm⟩|⟨br,bm⟩
    ·refine Aj (hw:=wo f br) 4 17 Z f Z λa f=> ?_
     refine Aj (hw:=wo f br) 5 17 Z f Z λa f=>Aj (hw:=wo f br) 6 17 Z f Z λa f=> ?_
     have⟨bs,bt,bm⟩:=bind_some bm
     refine AJ (hw:=wo f br) 7 17 0 m aB T54 bt Z f Z Z λbu a bv f=>AV (hw:=wo f br) 8 17 0 aB AR bv bt Z f Z λbw a bx f=> ?_
     subst bx
     refine Aj (hw:=wo f br) 9 17 Z f Z λa f=>Aj (hw:=wo f br) 10 17 Z f Z λa f=> ?_
     have⟨bz,bA,bm⟩:=bind_some bm
     refine AJ (hw:=wo f br) 11 17 0 m aB T54 bA Z f Z Z λbB a bC f=>AV (hw:=wo f br) 12 17 0 aB AR bC bA Z f Z λbD a bE f=> ?_
     subst bE
     have⟨bF,bG,bm⟩:=bind_some bm
     refine BA (i:=13) 17 Z (by kernel_rfl) Z f (By f Z Z Z br) Z Z Z call71 (λ_ _ w bH m=>Wk.a hW m bG) λa f=>q_p (hw:=wo f br) 14 17 Z f (λ_=>AH (f.e Z) (f.e Z) Aw) λa f=>q_p (hw:=wo f br) 15 17 Z f (λ_=>Bi (f.e Z)) λa f=>q_p 16 17 Z f (λ_=>AZ (f.e Z) br (f.e Z)) λa f=> ?_
     obtain rfl:=sj bm
     exact bq _ (f.k Z)
    ·refine Ar 4 17 Z f br λa f=> ?_
     refine Ar 5 17 Z f br λa f=>Ar 6 17 Z f br λa f=>Ar 7 17 Z f br λa f=>Ar 8 17 Z f br λa f=>Ar 9 17 Z f br λa f=>Ar 10 17 Z f br λa f=>Ar 11 17 Z f br λa f=>Ar 12 17 Z f br λa f=>Ar 13 17 Z f br λa f=>Ar 14 17 Z f br λa f=>Ar 15 17 Z f br λa f=>q_p 16 17 Z f (λ_=>AY (f.e Z) br (f.e Z)) λa f=> ?_
     obtain rfl:=sj bm
     exact bq _ (f.k Z)
  ·rintro a w ⟨bc,rfl,bd,bI,f,m⟩
   have aB:=od1 bI aB
   refine Ag (Af ?_)
   refine Aa f Z λa f=>Aa f Z λa f=>Ah f Z Z Cw λa f=>Ab ?_
   rcases Ae hd with⟨bJ,hd⟩|⟨bJ,hd⟩
   ·refine Al f Z bJ ?_
    refine Ag ?_
    refine Bq AI m ?_
    refine p_p 2 Z f (λ_=>A1 (f.e Z)) λa f=>p_p 3 Z f (λ_=>A1 (f.e Z)) λa f=>Br 12013 11 (by kernel_rfl) Z ?_
    refine Aj 0 12013 Z f Z λa f=>Aj 1 12013 Z f Z λa f=>Aj 4 12013 Z f Z λa f=>Aj 5 12013 Z f Z λa f=> ?_
    have⟨bK,bL,hd⟩:=bind_some hd
    refine AJ 6 12013 0 m aB T54 bL Z f Z Z λbM a bN f=>AV 7 12013 0 aB AR bN bL Z f Z λbO a bP f=> ?_
    subst bP
    refine Aj 8 12013 Z f Z λa f=>Aj 9 12013 Z f Z λa f=> ?_
    have⟨bQ,bR,hd⟩:=bind_some hd
    refine AJ 10 12013 0 m aB T54 bR Z f Z Z λbS a bT f=>AV 11 12013 0 aB AR bT bR Z f Z λbU a bV f=> ?_
    subst bV
    have⟨bW,bX,hd⟩:=bind_some hd
    refine AJ 12 12013 0 m aB T54 bX Z f Z Z λbY a bZ f=>A2 λb0 w b1 m=> ?_
    have aB:=od1 b1 aB
    refine AB 0 m aB Z sizeOf75 f Z Z bZ bX Z Z Z λb2 w m b3=> ?_
    have⟨b4,b5,hd⟩:=bind_some hd
    refine A4 0 m b3 Z T54 f Z Z Z b5 λb6 a b7 f=>AB 0 m b3 Z sizeOf75 f Z Z b7 b5 Z Z Z λb8 w m b9=>Au ?_
    refine Aa f Z λa f=>Ac f Z λa f=>Ac f Z λa f=>Ab ?_
    refine Aq ?_
    obtain rfl:=sj hd
    exact⟨[(iv bc),(.bool true)],⟨f.get _ _ Z,f.get _ _ Z,trivial⟩,f.d,_,[b8],(gt ar (gt a9 (gt bI b1))),m,_,Z,Z,b9⟩
   ·refine Ai f Z bJ ?_
    refine Am ?_
    refine Ag ?_
    refine Bq AI m ?_
    refine p_p 2 Z f (λ_=>A1 (f.e Z)) λa f=>p_p 3 Z f (λ_=>A1 (f.e Z)) λa f=>Br 12013 11 (by kernel_rfl) Z ?_
    refine Aj 0 12013 Z f Z λa f=>Aj 1 12013 Z f Z λa f=>Aj 4 12013 Z f Z λa f=>Aj 5 12013 Z f Z λa f=> ?_
    have⟨ca,cb,hd⟩:=bind_some hd
    refine AJ 6 12013 0 m aB T54 cb Z f Z Z λcc a cd f=>AV 7 12013 0 aB AR cd cb Z f Z λce a cf f=> ?_
    subst cf
    refine Aj 8 12013 Z f Z λa f=>Aj 9 12013 Z f Z λa f=> ?_
    have⟨cg,ch,hd⟩:=bind_some hd
    refine AJ 10 12013 0 m aB T54 ch Z f Z Z λci a cj f=>AV 11 12013 0 aB AR cj ch Z f Z λck a cl f=> ?_
    subst cl
    have⟨cm,cn,hd⟩:=bind_some hd
    refine AJ 12 12013 0 m aB T54 cn Z f Z Z λco a cp f=>A2 λcq w cr m=> ?_
    have aB:=od1 cr aB
    refine AB 0 m aB Z sizeOf75 f Z Z cp cn Z Z Z λcs w m ct=> ?_
    have⟨cu,cv,hd⟩:=bind_some hd
    refine A4 0 m ct Z T54 f Z Z Z cv λcw a cx f=>AB 0 m ct Z sizeOf75 f Z Z cx cv Z Z Z λcy w m cz=>Au ?_
    refine Aa f Z λa f=>Ah f Z Z Av λa f=>Ac f Z λa f=>Au ?_
    refine Aa f Z λa f=>Ah f Z Z AL λa f=>Ac f Z λa f=>Ab (Ag ?_)
    have⟨cA,cB,hd⟩:=bind_some hd
    refine AE (λa w=>∃cC:LI,∃cD:Int,(cC,cD)=cA∧∃(cE:GH) (cF:Itm),GLe cq cE∧Fr a 178 [(0,v0),(1,(iv x1)),(13,(iv cD))]∧Mem W cE w (cF::H)∧Ow (RI .u32) 75 cE cF v0 cC) ?_ ?_
    ·refine Ak ?_
     refine Az (λcG a w=>∃cH:LI,∃cI:Int,∃cJ:Int,(cH,cI,cJ)=cG∧∃(cK:GH) (cL:Itm),GLe cq cK∧Fr a 178 [(0,v0),(1,(iv x1)),(4,(.func (.func 71) #[] #[])),(12,(iv cI)),(13,(iv cJ))]∧Mem W cK w (cL::H)∧Ow (RI .u32) 75 cK cL v0 cH) cB ⟨_,_,_,Z,_,cy,gr,f.k Z,m,cz⟩ ?_
     clear cB f m
     rintro cG cM cN cO a w ⟨cH,cI,cJ,rfl,cK,cL,cP,f,m,cQ⟩
     refine Ak (Ag ?_)
     have⟨cR,cS,cN⟩:=bind_some cN
     refine AE (λa w=>∃cT:Int,cT=cR∧∃(cU:GH),GLe cK cU∧Fr a 178 [(0,v0),(1,(iv x1)),(4,(.func (.func 71) #[] #[])),(12,(iv cT)),(13,(iv cJ))]∧Mem W cU w (cL::H)) ?_ ?_
     ·refine Ak ?_
      refine Az (λcV a w=>∃cW:Int,cW=cV∧∃(cX:GH),GLe cK cX∧Fr a 178 [(0,v0),(1,(iv x1)),(4,(.func (.func 71) #[] #[])),(12,(iv cW)),(13,(iv cJ))]∧Mem W cX w (cL::H)) cS ⟨_,Z,_,gr,f.k Z,m⟩ ?_
      clear cS f m
      rintro cV cY cZ c0 a w ⟨cW,rfl,cX,c1,f,m⟩
      have cQ:=od1 c1 cQ
      refine Ag (Ag ?_)
      refine A6 16 AI (by kernel_rfl) m ?_
      refine Aj 0 16 Z f Z λa f=>Aj 1 16 Z f Z λa f=>q_p 2 16 Z f (λ_=>AH (f.e Z) (f.e Z) Cy) λa f=>Aj 3 16 Z f Z λa f=> ?_
      have⟨c2,c3,cZ⟩:=bind_some cZ
      refine Cu (fuel':=0) (listed':= #[true,true,true,true,true,true,true,true,true,true,true,true,true,true,true,true]) (λa=>Fr a 178 [(0,v0),(1,(iv x1)),(4,(.func (.func 71) #[] #[])),(12,(iv cW)),(13,(iv cJ)),(105,(iv cW)),(106,(iv cJ)),(107,(.bool (decide (cW≤cJ)))),(108,(.bool (decide (cW≤cJ)))),(120,(.bool c2))]) ?_ ?_
      ·intro a f
       refine A2 λc4 w c5 m=>Ab ?_
       rcases Ae cZ with⟨c6,cZ⟩|⟨c6,cZ⟩
       ·refine Al f Z c6 ?_
        refine Am ?_
        refine Ak (An ?_)
        refine Aa f Z λa f=>Ah f Z Z Av λa f=>Ac f Z λa f=>Ab ?_
        obtain rfl:=sj cZ
        exact⟨_,Z,_,Z,_,(gt c1 c5),f.k Z,m⟩
       ·refine Ai f Z c6 ?_
        refine Ax Z ?_
        obtain rfl:=sj cZ
        obtain rfl:=c0 _ rfl
        exact⟨_,Z,_,(gt c1 c5),f.k Z,m⟩
      ·intro c7
       rcases Ae c3 with⟨c8,c3⟩|⟨c8,c3⟩
       ·refine Aj (hw:=wo f c8) 4 16 Z f Z λa f=> ?_
        refine Aj (hw:=wo f c8) 5 16 Z f Z λa f=>Aj (hw:=wo f c8) 6 16 Z f Z λa f=> ?_
        have⟨c9,da,c3⟩:=bind_some c3
        refine AJ (hw:=wo f c8) 7 16 0 m cQ T54 da Z f Z Z λdb a dc f=>AV (hw:=wo f c8) 8 16 0 cQ AR dc da Z f Z λdd a de f=> ?_
        subst de
        refine Aj (hw:=wo f c8) 9 16 Z f Z λa f=>Aj (hw:=wo f c8) 10 16 Z f Z λa f=> ?_
        have⟨df,dg,c3⟩:=bind_some c3
        refine AJ (hw:=wo f c8) 11 16 0 m cQ T54 dg Z f Z Z λdh a di f=>AV (hw:=wo f c8) 12 16 0 cQ AR di dg Z f Z λdj a dk f=> ?_
        subst dk
        have⟨dl,dm,c3⟩:=bind_some c3
        refine BA (i:=13) 16 Z (by kernel_rfl) Z f (By f Z Z Z c8) Z Z Z call71 (λ_ _ w dn m=>Wk.a hW m dm) λa f=>q_p (hw:=wo f c8) 14 16 Z f (λ_=>AH (f.e Z) (f.e Z) Aw) λa f=>q_p 15 16 Z f (λ_=>AZ (f.e Z) c8 (f.e Z)) λa f=> ?_
        obtain rfl:=sj c3
        exact c7 _ (f.k Z)
       ·refine Ar 4 16 Z f c8 λa f=> ?_
        refine Ar 5 16 Z f c8 λa f=>Ar 6 16 Z f c8 λa f=>Ar 7 16 Z f c8 λa f=>Ar 8 16 Z f c8 λa f=>Ar 9 16 Z f c8 λa f=>Ar 10 16 Z f c8 λa f=>Ar 11 16 Z f c8 λa f=>Ar 12 16 Z f c8 λa f=>Ar 13 16 Z f c8 λa f=>Ar 14 16 Z f c8 λa f=>q_p 15 16 Z f (λ_=>AY (f.e Z) c8 (f.e Z)) λa f=> ?_
        obtain rfl:=sj c3
        exact c7 _ (f.k Z)
     ·rintro a w ⟨cT,rfl,cU,dp,f,m⟩
      have cQ:=od1 dp cQ
      refine Ag ?_
      have⟨dq,dr,cN⟩:=bind_some cN
      refine AE (λa w=>∃ds:Int,ds=dq∧∃(dt:GH),GLe cU dt∧Fr a 178 [(0,v0),(1,(iv x1)),(4,(.func (.func 71) #[] #[])),(12,(iv cT)),(13,(iv ds))]∧Mem W dt w (cL::H)) ?_ ?_
      ·refine Ak ?_
       refine Az (λdu a w=>∃dv:Int,dv=du∧∃(dw:GH),GLe cU dw∧Fr a 178 [(0,v0),(1,(iv x1)),(4,(.func (.func 71) #[] #[])),(12,(iv cT)),(13,(iv dv))]∧Mem W dw w (cL::H)) dr ⟨_,Z,_,gr,f.k Z,m⟩ ?_
       clear dr f m
       rintro du dx dy dz a w ⟨dv,rfl,dw,dA,f,m⟩
       have cQ:=od1 dA cQ
       refine Ag (Ag ?_)
       refine A6 17 AI (by kernel_rfl) m ?_
       refine Aj 0 17 Z f Z λa f=>Aj 1 17 Z f Z λa f=>q_p 2 17 Z f (λ_=>AH (f.e Z) (f.e Z) Cy) λa f=>Aj 3 17 Z f Z λa f=> ?_
       have⟨dB,dC,dy⟩:=bind_some dy
       refine Cu (fuel':=0) (listed':= #[true,true,true,true,true,true,true,true,true,true,true,true,true,true,true,true,true]) (λa=>Fr a 178 [(0,v0),(1,(iv x1)),(4,(.func (.func 71) #[] #[])),(12,(iv cT)),(13,(iv dv)),(123,(iv cT)),(124,(iv dv)),(125,(.bool (decide (cT≤dv)))),(126,(.bool (decide (cT≤dv)))),(139,(.bool dB))]) ?_ ?_
       ·intro a f
        refine A2 λdD w dE m=>Ab ?_
        rcases Ae dy with⟨dF,dy⟩|⟨dF,dy⟩
        ·refine Al f Z dF ?_
         refine Am ?_
         refine Ak (An ?_)
         refine Aa f Z λa f=>Ah f Z Z AL λa f=>Ac f Z λa f=>Ab ?_
         obtain rfl:=sj dy
         exact⟨_,Z,_,Z,_,(gt dA dE),f.k Z,m⟩
        ·refine Ai f Z dF ?_
         refine Ax Z ?_
         obtain rfl:=sj dy
         obtain rfl:=dz _ rfl
         exact⟨_,Z,_,(gt dA dE),f.k Z,m⟩
       ·intro dG
        rcases Ae dC with⟨dH,dC⟩|⟨dH,dC⟩
        ·refine Aj (hw:=wo f dH) 4 17 Z f Z λa f=> ?_
         refine Aj (hw:=wo f dH) 5 17 Z f Z λa f=>Aj (hw:=wo f dH) 6 17 Z f Z λa f=> ?_
         have⟨dI,dJ,dC⟩:=bind_some dC
         refine AJ (hw:=wo f dH) 7 17 0 m cQ T54 dJ Z f Z Z λdK a dL f=>AV (hw:=wo f dH) 8 17 0 cQ AR dL dJ Z f Z λdM a dN f=> ?_
         subst dN
         refine Aj (hw:=wo f dH) 9 17 Z f Z λa f=>Aj (hw:=wo f dH) 10 17 Z f Z λa f=> ?_
         have⟨dO,dP,dC⟩:=bind_some dC
         refine AJ (hw:=wo f dH) 11 17 0 m cQ T54 dP Z f Z Z λdQ a dR f=>AV (hw:=wo f dH) 12 17 0 cQ AR dR dP Z f Z λdS a dT f=> ?_
         subst dT
         have⟨dU,dV,dC⟩:=bind_some dC
         refine BA (i:=13) 17 Z (by kernel_rfl) Z f (By f Z Z Z dH) Z Z Z call71 (λ_ _ w dW m=>Wk.a hW m dV) λa f=>q_p (hw:=wo f dH) 14 17 Z f (λ_=>AH (f.e Z) (f.e Z) Aw) λa f=>q_p (hw:=wo f dH) 15 17 Z f (λ_=>Bi (f.e Z)) λa f=>q_p 16 17 Z f (λ_=>AZ (f.e Z) dH (f.e Z)) λa f=> ?_
         obtain rfl:=sj dC
         exact dG _ (f.k Z)
        ·refine Ar 4 17 Z f dH λa f=> ?_
         refine Ar 5 17 Z f dH λa f=>Ar 6 17 Z f dH λa f=>Ar 7 17 Z f dH λa f=>Ar 8 17 Z f dH λa f=>Ar 9 17 Z f dH λa f=>Ar 10 17 Z f dH λa f=>Ar 11 17 Z f dH λa f=>Ar 12 17 Z f dH λa f=>Ar 13 17 Z f dH λa f=>Ar 14 17 Z f dH λa f=>Ar 15 17 Z f dH λa f=>q_p 16 17 Z f (λ_=>AY (f.e Z) dH (f.e Z)) λa f=> ?_
         obtain rfl:=sj dC
         exact dG _ (f.k Z)
      ·rintro a w ⟨ds,rfl,dt,dX,f,m⟩
       have cQ:=od1 dX cQ
       refine Ag (Af ?_)
       refine Aa f Z λa f=>Aa f Z λa f=>Ah f Z Z Cw λa f=>Ab ?_
       rcases Ae cN with⟨dY,cN⟩|⟨dY,cN⟩
       ·refine Al f Z dY ?_
        refine Ax Z ?_
        obtain rfl:=sj cN
        obtain rfl:=cO _ rfl
        exact⟨_,_,Z,_,cL,(gt cP (gt dp dX)),f.k Z,m,cQ⟩
       ·refine Ai f Z dY ?_
        refine Am ?_
        refine Ag ?_
        refine Bq AI m ?_
        refine p_p 2 Z f (λ_=>A1 (f.e Z)) λa f=>p_p 3 Z f (λ_=>A1 (f.e Z)) λa f=>Br 12013 11 (by kernel_rfl) Z ?_
        refine Aj 0 12013 Z f Z λa f=>Aj 1 12013 Z f Z λa f=>Aj 4 12013 Z f Z λa f=>Aj 5 12013 Z f Z λa f=> ?_
        have⟨dZ,d0,cN⟩:=bind_some cN
        refine AJ 6 12013 0 m cQ T54 d0 Z f Z Z λd1 a d2 f=>AV 7 12013 0 cQ AR d2 d0 Z f Z λd3 a d4 f=> ?_
        subst d4
        refine Aj 8 12013 Z f Z λa f=>Aj 9 12013 Z f Z λa f=> ?_
        have⟨d5,d6,cN⟩:=bind_some cN
        refine AJ 10 12013 0 m cQ T54 d6 Z f Z Z λd7 a d8 f=>AV 11 12013 0 cQ AR d8 d6 Z f Z λd9 a ea f=> ?_
        subst ea
        have⟨eb,ec,cN⟩:=bind_some cN
        refine AJ 12 12013 0 m cQ T54 ec Z f Z Z λed a ee f=>A2 λef w eg m=> ?_
        have cQ:=od1 eg cQ
        refine AB 0 m cQ Z sizeOf75 f Z Z ee ec Z Z Z λeh w m ei=> ?_
        have⟨ej,ek,cN⟩:=bind_some cN
        refine A4 0 m ei Z T54 f Z Z Z ek λel a em f=>AB 0 m ei Z sizeOf75 f Z Z em ek Z Z Z λen w m eo=>Au ?_
        refine Aa f Z λa f=>Ah f Z Z Av λa f=>Ac f Z λa f=>Ab (An ?_)
        refine Aa f Z λa f=>Ah f Z Z AL λa f=>Ac f Z λa f=>Ab ?_
        obtain rfl:=sj cN
        exact⟨_,Z,_,_,_,Z,_,en,(gt cP (gt dp (gt dX eg))),f.k Z,m,eo⟩
    ·rintro a w ⟨cC,cD,rfl,cE,cF,ep,f,m,eq⟩
     refine Ag ?_
     refine Bq AI m ?_
     refine p_p 2 Z f (λ_=>A1 (f.e Z)) λa f=>p_p 3 Z f (λ_=>A1 (f.e Z)) λa f=>Br 12013 11 (by kernel_rfl) Z ?_
     refine Aj 0 12013 Z f Z λa f=>Aj 1 12013 Z f Z λa f=>Aj 4 12013 Z f Z λa f=>Aj 5 12013 Z f Z λa f=> ?_
     have⟨er,es,hd⟩:=bind_some hd
     refine AJ 6 12013 0 m eq T54 es Z f Z Z λet a eu f=>AV 7 12013 0 eq AR eu es Z f Z λev a ew f=> ?_
     subst ew
     refine Aj 8 12013 Z f Z λa f=>Aj 9 12013 Z f Z λa f=> ?_
     have⟨ex,ey,hd⟩:=bind_some hd
     refine AJ 10 12013 0 m eq T54 ey Z f Z Z λez a eA f=>AV 11 12013 0 eq AR eA ey Z f Z λeB a eC f=> ?_
     subst eC
     have⟨eD,eE,hd⟩:=bind_some hd
     refine AJ 12 12013 0 m eq T54 eE Z f Z Z λeF a eG f=>A2 λeH w eI m=> ?_
     have eq:=od1 eI eq
     refine AB 0 m eq Z sizeOf75 f Z Z eG eE Z Z Z λeJ w m eK=> ?_
     have⟨eL,eM,hd⟩:=bind_some hd
     refine A4 0 m eK Z T54 f Z Z Z eM λeN a eO f=>AB 0 m eK Z sizeOf75 f Z Z eO eM Z Z Z λeP w m eQ=>Au ?_
     refine Aa f Z λa f=>Ac f Z λa f=>Ac f Z λa f=>Ab ?_
     refine Aq ?_
     obtain rfl:=sj hd
     exact⟨[(iv cD),(.bool false)],⟨f.get _ _ Z,f.get _ _ Z,trivial⟩,f.d,_,[eP],(gt ar (gt a9 (gt bI (gt cr (gt ep eI))))),m,_,Z,Z,eQ⟩
theorem Wk.A {W:World}(hW:Bn W)(n:Nat):∀{w:World} {G:GH} {H:List Itm} {v0:Value} {it0:Itm} {x0:LI} {x1 x2 x3:Int} (m:Mem W G w (it0::H)) (o0:Ow (RI .u32) 75 G it0 v0 x0) {y:(LI)} (hd:D.A n x0 x1 x2 x3=some y),
  Calls prog 96 #[v0,(iv x1),(iv x2),(iv x3),(.func (.func 71) #[] #[])] w (Res W G H (λG' Ho _=>∃i0:Itm,Ho=[i0]∧Ow (RI .u32) 75 G' i0 v0 y)):=by
 induction n with
 |zero=>intros;rename_i hd;simp[D.A] at hd
 |succ fuel ih=>
  intro w G H v0 it0 x0 x1 x2 x3 m o0 y hd
  refine As (args:=[v0,(iv x1),(iv x2),(iv x3),(.func (.func 71) #[] #[])]) (N:=148) [] func96 Z Z (lb Z) Z λa f=> ?_
  unfold D.A at hd
  refine Af ?_
  refine Ac f Z λa f=>Au ?_
  refine Ac f Z λa f=>Ab ?_
  have⟨aa,ab,hd⟩:=bind_some hd
  refine Ak ?_
  refine Az (λac a w=>∃ad:LI,∃ae:Int,∃af:Int,∃ag:Int,∃ah:Bool,∃ai:Bool,(ad,ae,af,ag,ah,ai)=ac∧∃(aj:GH) (ak:Itm),GLe G aj∧Fr a 148 [(0,v0),(1,(iv ae)),(2,(iv af)),(3,(iv ag)),(4,(.func (.func 71) #[] #[])),(10,(.bool ah)),(11,(.bool ai))]∧Mem W aj w (ak::H)∧Ow (RI .u32) 75 aj ak v0 ad) ab ⟨_,_,_,_,_,_,Z,_,it0,gr,f.k Z,m,o0⟩ ?_
  clear ab f m
  rintro ac al am an a w ⟨ad,ae,af,ag,ah,ai,rfl,aj,ak,ao,f,m,ap⟩
  refine Ak (Af ?_)
  refine Aa f Z λa f=>Aa f Z λa f=>Ah f Z Z AL λa f=>Ac f Z λa f=>Ab (Ag (Af ?_))
  refine Aa f Z λa f=>Ah f Z Z Cy λa f=>Ab ?_
  rcases Ae am with⟨aq,am⟩|⟨aq,am⟩
  ·refine Al f Z aq ?_
   refine Af ?_
   refine Aa f Z λa f=>Aa f Z λa f=>Aa f Z λa f=>Aa f Z λa f=> ?_
   have⟨ar,au,am⟩:=bind_some am
   refine AM f Z call110 (Wk.q0 hW m ap au) λav aw ax w ay m az a f=> ?_
   obtain⟨aA,rfl,aB⟩:=az
   refine Ab ?_
   refine Aq ?_
   obtain rfl:=sj am
   obtain rfl:=an _ rfl
   obtain rfl:=sj hd
   exact⟨[],trivial,f.d,_,[aA],(gt ao ay),m,_,Z,aB⟩
  ·refine Ai f Z aq ?_
   refine Am ?_
   refine Ag (Af ?_)
   refine Aa f Z λa f=>Ah f Z Z BO λa f=>Ab ?_
   rcases Ae am with⟨aC,am⟩|⟨aC,am⟩
   ·refine Al f Z aC ?_
    refine Af ?_
    refine Aa f Z λa f=>Aa f Z λa f=>Aa f Z λa f=>Aa f Z λa f=> ?_
    have⟨aD,aE,am⟩:=bind_some am
    refine AM f Z call111 (Wk.r0 hW m ap aE) λaF aG aH w aI m aJ a f=> ?_
    obtain⟨aK,rfl,aL⟩:=aJ
    refine Ab ?_
    refine Aq ?_
    obtain rfl:=sj am
    obtain rfl:=an _ rfl
    obtain rfl:=sj hd
    exact⟨[],trivial,f.d,_,[aK],(gt ao aI),m,_,Z,aL⟩
   ·refine Ai f Z aC ?_
    refine Am ?_
    refine Ag (Af ?_)
    refine Aa f Z λa f=>l_o f (Bi (f.e Z)) λa f=>Ab ?_
    have⟨aM,aN,am⟩:=bind_some am
    refine AE (λa w=>∃aO:LI,∃aP:Int,(aO,aP)=aM∧∃(aQ:GH) (aR:Itm),GLe aj aQ∧Fr a 148 [(0,v0),(1,(iv ae)),(2,(iv af)),(3,(iv aP)),(4,(.func (.func 71) #[] #[])),(10,(.bool ah)),(11,(.bool ai)),(12,(iv (i64.wrap (af-ae))))]∧Mem W aQ w (aR::H)∧Ow (RI .u32) 75 aQ aR v0 aO) ?_ ?_
    ·rcases Ae aN with⟨aS,aN⟩|⟨aS,aN⟩
     ·refine Al f Z aS ?_
      refine Af ?_
      refine Aa f Z λa f=>Aa f Z λa f=>Aa f Z λa f=>Aa f Z λa f=> ?_
      have⟨aT,aU,aN⟩:=bind_some aN
      refine AM f Z call112 (Wk.u0 m ap aU) λaV aW aX w aY m aZ a f=> ?_
      obtain⟨a0,rfl,a1⟩:=aZ
      refine Ab (An ?_)
      refine Aa f Z λa f=>Ah f Z Z AL λa f=>Ac f Z λa f=>Ab ?_
      obtain rfl:=sj aN
      exact⟨_,_,Z,_,a0,aY,f.k Z,m,a1⟩
     ·refine Ai f Z aS ?_
      refine Am ?_
      obtain rfl:=sj aN
      exact⟨_,_,Z,_,ak,gr,f.k Z,m,ap⟩
    ·rintro a w ⟨aO,aP,rfl,aQ,aR,a2,f,m,a3⟩
     refine Af ?_
     refine Aa f Z λa f=>Aa f Z λa f=>Aa f Z λa f=>Aa f Z λa f=> ?_
     have⟨a4,a5,am⟩:=bind_some am
     refine AM f Z call113 (Wk.y0 hW m a3 a5) λa6 a7 a8 w a9 m ba a f=> ?_
     obtain⟨bb,rfl,rfl,bc⟩:=ba
     refine Aa f Z λa f=>l_o f (BH (f.e Z) Z) λa f=>l_o f (BH (f.e Z) Z) λa f=>Ac f Z λa f=>Ac f Z λa f=>Ab (Ag (Af ?_))
     refine Aa f Z λa f=>Ah f Z Z BO λa f=>Ab ?_
     have⟨bd,be,am⟩:=bind_some am
     refine AE (λa w=>∃bf:LI,∃bg:Int,∃bh:Int,(bf,bg,bh)=bd∧∃(bi:GH) (bj:Itm),GLe a7 bi∧Fr a 148 [(0,v0),(1,(iv ae)),(2,(iv af)),(3,(iv aP)),(4,(.func (.func 71) #[] #[])),(10,(.bool ah)),(11,(.bool ai)),(12,(iv (i64.wrap (af-ae)))),(13,(iv bg)),(14,(iv bh))]∧Mem W bi w (bj::H)∧Ow (RI .u32) 75 bi bj v0 bf) ?_ ?_
     ·rcases Ae be with⟨bk,be⟩|⟨bk,be⟩
      ·refine Al f Z bk ?_
       refine Af ?_
       refine Aa f Z λa f=>Aa f Z λa f=>Aa f Z λa f=>Aa f Z λa f=> ?_
       have⟨bl,bm,be⟩:=bind_some be
       refine AM f Z call114 (Wk.B0 m bc bm) λbn bo bp w bq m br a f=> ?_
       obtain⟨bs,rfl,bt⟩:=br
       refine Au ?_
       refine Aa f Z λa f=>Ah f Z Z AL λa f=>Aa f Z λa f=>Aa f Z λa f=>Ah f Z Z AL λa f=>Ah f Z Z AL λa f=>Ac f Z λa f=>Ab (An ?_)
       refine Ac f Z λa f=>Ab ?_
       obtain rfl:=sj be
       exact⟨_,_,_,Z,_,bs,bq,f.k Z,m,bt⟩
      ·refine Ai f Z bk ?_
       refine Am ?_
       obtain rfl:=sj be
       exact⟨_,_,_,Z,_,bb,gr,f.k Z,m,bc⟩
     ·rintro a w ⟨bf,bg,bh,rfl,bi,bj,bu,f,m,bv⟩
      refine Ag (Af ?_)
      refine Aa f Z λa f=>Aa f Z λa f=> ?_
      refine BF 2 (λa w=>∃bw,GLe bi bw∧Mem W bw w (bj::H)∧Fr a 148 [(0,v0),(1,(iv ae)),(2,(iv af)),(3,(iv aP)),(4,(.func (.func 71) #[] #[])),(10,(.bool ah)),(11,(.bool ai)),(12,(iv (i64.wrap (af-ae)))),(13,(iv bg)),(14,(iv bh)),(68,(.bool ah)),(69,(.bool ah)),(71,(.bool (ah&&ai)))]) ?_ ?_
      ·rcases Bool.eq_false_or_eq_true ah with bx|bx
       ·refine AC f bx ?_
        refine Aa f Z λa f=>l_o f (AZ (f.e Z) bx (f.e Z)) λa f=> ?_
        exact⟨_,gr,m,f.weak ⟨Z,Z,Z,Z,Z,Z,Z,Z,Z,Z,Z,Z,by rw[bx];rfl,trivial⟩⟩
       ·refine AD f bx λa f=> ?_
        refine l_o f (AY (f.e Z) bx (f.e Z)) λa f=> ?_
        exact⟨_,gr,m,f.weak ⟨Z,Z,Z,Z,Z,Z,Z,Z,Z,Z,Z,Z,by rw[bx];rfl,trivial⟩⟩
      ·rintro a w ⟨bw,bz,m,f⟩
       have bv:=od1 bz bv
       refine Aa f Z λa f=> ?_
       refine BF 3 (λa w=>∃bA,GLe bw bA∧Mem W bA w (bj::H)∧Fr a 148 [(0,v0),(1,(iv ae)),(2,(iv af)),(3,(iv aP)),(4,(.func (.func 71) #[] #[])),(10,(.bool ah)),(11,(.bool ai)),(12,(iv (i64.wrap (af-ae)))),(13,(iv bg)),(14,(iv bh)),(68,(.bool ah)),(69,(.bool ah)),(71,(.bool (ah&&ai))),(72,(.bool (ah&&ai))),(75,(.bool ((ah&&ai)&&(bh==1))))]) ?_ ?_
       ·rcases Bool.eq_false_or_eq_true (ah&&ai) with bB|bB
        ·refine AC f bB ?_
         refine Aa f Z λa f=>AC f bB ?_
         refine Ah f Z Z BO λa f=>l_o f (AZ (f.e Z) bB (f.e Z)) λa f=> ?_
         exact⟨_,gr,m,f.weak ⟨Z,Z,Z,Z,Z,Z,Z,Z,Z,Z,Z,Z,Z,Z,by rw[bB];rfl,trivial⟩⟩
        ·refine AD f bB λa f=> ?_
         refine AD f bB λa f=>l_o f (AY (f.e Z) bB (f.e Z)) λa f=> ?_
         exact⟨_,gr,m,f.weak ⟨Z,Z,Z,Z,Z,Z,Z,Z,Z,Z,Z,Z,Z,Z,by rw[bB];rfl,trivial⟩⟩
       ·rintro a w ⟨bA,bC,m,f⟩
        have bv:=od1 bC bv
        refine Ab ?_
        have⟨bD,bE,am⟩:=bind_some am
        refine AE (λa w=>∃j_513':LI,bD= .inl j_513'∧∃bF:LI,bF=j_513'∧∃(bG:GH) (bH:Itm),GLe bA bG∧Fr a 148 [(0,v0),(1,(iv ae)),(2,(iv af)),(3,(iv aP)),(4,(.func (.func 71) #[] #[])),(10,(.bool ah)),(11,(.bool ai)),(12,(iv (i64.wrap (af-ae)))),(13,(iv bg))]∧Mem W bG w (bH::H)∧Ow (RI .u32) 75 bG bH v0 bF) ?_ ?_
        ·rcases Ae bE with⟨bI,bE⟩|⟨bI,bE⟩
         ·refine Al f Z bI ?_
          refine Af ?_
          refine Aa f Z λa f=>Aa f Z λa f=>Aa f Z λa f=>Aa f Z λa f=> ?_
          have⟨bJ,bK,bE⟩:=bind_some bE
          refine AM f Z call115 (Wk.v0 hW m bv bK) λbL bM bN w bO m bP a f=> ?_
          obtain⟨bQ,rfl,rfl,bR⟩:=bP
          refine Ab ?_
          rcases Ae bE with⟨bS,bE⟩|⟨bS,bE⟩
          ·refine Al f Z bS ?_
           refine Aq ?_
           obtain rfl:=sj bE
           obtain rfl:=sj am
           obtain rfl:=an _ rfl
           obtain rfl:=sj hd
           exact⟨[],trivial,f.d,_,[bQ],(gt ao (gt a2 (gt a9 (gt bu (gt bz (gt bC bO)))))),m,_,Z,bR⟩
          ·refine Ai f Z bS ?_
           refine Am ?_
           obtain rfl:=sj bE
           exact⟨_,Z,_,Z,_,bQ,bO,f.k Z,m,bR⟩
         ·refine Ai f Z bI ?_
          refine Am ?_
          obtain rfl:=sj bE
          exact⟨_,Z,_,Z,_,bj,gr,f.k Z,m,bv⟩
        ·rintro a w ⟨_,rfl,bF,rfl,bG,bH,bT,f,m,bU⟩
         refine Ag (Ag ?_)
         refine A6 17 AI (by kernel_rfl) m ?_
         refine Aj 0 17 Z f Z λa f=>q_p 1 17 Z f (λ_=>AH (f.e Z) (f.e Z) Cw) λa f=>Aj 2 17 Z f Z λa f=> ?_
         have⟨bV,bW,am⟩:=bind_some am
         refine Cu (fuel':=0) (listed':= #[true,true,true,true,true,true,true,true,true,true,true,true,true,true,true,true,true]) (λa=>Fr a 148 [(0,v0),(1,(iv ae)),(2,(iv af)),(3,(iv aP)),(4,(.func (.func 71) #[] #[])),(10,(.bool ah)),(11,(.bool ai)),(12,(iv (i64.wrap (af-ae)))),(13,(iv bg)),(81,(iv ae)),(82,(.bool (decide ((0:Int)<ae)))),(83,(.bool (decide ((0:Int)<ae)))),(97,(.bool bV))]) ?_ ?_
         ·intro a f
          refine A2 λbX w bY m=> ?_
          have bU:=od1 bY bU
          refine Ab ?_
          rcases Ae am with⟨bZ,am⟩|⟨bZ,am⟩
          ·refine Al f Z bZ ?_
           refine Af ?_
           refine Aa f Z λa f=>Aa f Z λa f=>Aa f Z λa f=>Aa f Z λa f=>Aa f Z λa f=> ?_
           have⟨b0,b1,am⟩:=bind_some am
           refine AM f Z call116 (Wk.w0 hW m bU b1) λb2 b3 b4 w b5 m b6 a f=> ?_
           obtain⟨b7,rfl,rfl,b8⟩:=b6
           refine Ac f Z λa f=>Au ?_
           refine Aa f Z λa f=>Ac f Z λa f=>Ab ?_
           refine Ax Z ?_
           obtain rfl:=sj am
           exact⟨_,Z,_,_,_,_,_,_,Z,_,b7,(gt ao (gt a2 (gt a9 (gt bu (gt bz (gt bC (gt bT (gt bY b5)))))))),f.k Z,m,b8⟩
          ·refine Ai f Z bZ ?_
           refine Am ?_
           refine Af ?_
           refine Aa f Z λa f=>Aa f Z λa f=>Aa f Z λa f=>Aa f Z λa f=>Aa f Z λa f=> ?_
           have⟨b9,ca,am⟩:=bind_some am
           refine AM f Z call117 (Wk.x0 hW m bU ca) λcb cc cd w ce m cf a f=> ?_
           obtain⟨cg,rfl,rfl,ch⟩:=cf
           refine Aa f Z λa f=>l_o f (BH (f.e Z) Z) λa f=>l_o f (BH (f.e Z) Z) λa f=>Ac f Z λa f=>Ac f Z λa f=>Au ?_
           refine Aa f Z λa f=>Ac f Z λa f=>Au ?_
           refine Aa f Z λa f=>Aa f Z λa f=>Ah f Z Z AL λa f=>Aa f Z λa f=>Aa f Z λa f=>Ah f Z Z AL λa f=>Ac f Z λa f=>Ac f Z λa f=>Au ?_
           refine Aa f Z λa f=>Ah f Z Z (b_quo Z) λa f=>Ac f Z λa f=>Au ?_
           refine Aa f Z λa f=>Aa f Z λa f=>Ah f Z Z Aw λa f=>Ab ?_
           rcases Ae am with⟨ci,am⟩|⟨ci,am⟩
           ·refine Al f Z ci ?_
            refine Af ?_
            refine Aa f Z λa f=>Aa f Z λa f=>Ah f Z Z BW λa f=>Ac f Z λa f=>Au ?_
            refine Aa f Z λa f=>Aa f Z λa f=>Aa f Z λa f=>Aa f Z λa f=>Aa f Z λa f=> ?_
            have⟨cj,ck,am⟩:=bind_some am
            refine AM f Z call96 (ih m ch ck) λcl cm cn w co m cp a f=> ?_
            obtain⟨cq,rfl,cr⟩:=cp
            refine Ab (An ?_)
            refine Aa f Z λa f=>Ah f Z Z Av λa f=>Ac f Z λa f=>Ab ?_
            obtain rfl:=sj am
            exact⟨_,Z,_,_,_,_,_,_,Z,_,cq,(gt ao (gt a2 (gt a9 (gt bu (gt bz (gt bC (gt bT (gt bY (gt ce co))))))))),f.k Z,m,cr⟩
           ·refine Ai f Z ci ?_
            refine Af ?_
            refine Aa f Z λa f=>Aa f Z λa f=>Ah f Z Z BW λa f=>Ac f Z λa f=>Au ?_
            refine Aa f Z λa f=>Aa f Z λa f=>Ah f Z Z Av λa f=>Aa f Z λa f=>Aa f Z λa f=>Aa f Z λa f=> ?_
            have⟨cs,ct,am⟩:=bind_some am
            refine AM f Z call96 (ih m ch ct) λcu cv cw w cx m cy a f=> ?_
            obtain⟨cz,rfl,cA⟩:=cy
            refine Ab (An ?_)
            refine Aa f Z λa f=>Ac f Z λa f=>Ab ?_
            obtain rfl:=sj am
            exact⟨_,Z,_,_,_,_,_,_,Z,_,cz,(gt ao (gt a2 (gt a9 (gt bu (gt bz (gt bC (gt bT (gt bY (gt ce cx))))))))),f.k Z,m,cA⟩
         ·intro cB
          rcases Ae bW with⟨cC,bW⟩|⟨cC,bW⟩
          ·refine Aj (hw:=wo f cC) 3 17 Z f Z λa f=> ?_
           refine Aj (hw:=wo f cC) 4 17 Z f Z λa f=>Aj (hw:=wo f cC) 5 17 Z f Z λa f=>q_p (hw:=wo f cC) 6 17 Z f (λ_=>AH (f.e Z) (f.e Z) AL) λa f=> ?_
           have⟨cD,cE,bW⟩:=bind_some bW
           refine AJ (hw:=wo f cC) 7 17 0 m bU T54 cE Z f Z Z λcF a cG f=>AV (hw:=wo f cC) 8 17 0 bU AR cG cE Z f Z λcH a cI f=> ?_
           subst cI
           refine Aj (hw:=wo f cC) 9 17 Z f Z λa f=>Aj (hw:=wo f cC) 10 17 Z f Z λa f=> ?_
           have⟨cJ,cK,bW⟩:=bind_some bW
           refine AJ (hw:=wo f cC) 11 17 0 m bU T54 cK Z f Z Z λcL a cM f=>AV (hw:=wo f cC) 12 17 0 bU AR cM cK Z f Z λcN a cO f=> ?_
           subst cO
           have⟨cP,cQ,bW⟩:=bind_some bW
           refine BA (i:=13) 17 Z (by kernel_rfl) Z f (By f Z Z Z cC) Z Z Z call71 (λ_ _ w cR m=>Wk.a hW m cQ) λa f=>q_p (hw:=wo f cC) 14 17 Z f (λ_=>AH (f.e Z) (f.e Z) Aw) λa f=>q_p (hw:=wo f cC) 15 17 Z f (λ_=>Bi (f.e Z)) λa f=>q_p 16 17 Z f (λ_=>AZ (f.e Z) cC (f.e Z)) λa f=> ?_
           obtain rfl:=sj bW
           exact cB _ (f.k Z)
          ·refine Ar 3 17 Z f cC λa f=> ?_
           refine Ar 4 17 Z f cC λa f=>Ar 5 17 Z f cC λa f=>Ar 6 17 Z f cC λa f=>Ar 7 17 Z f cC λa f=>Ar 8 17 Z f cC λa f=>Ar 9 17 Z f cC λa f=>Ar 10 17 Z f cC λa f=>Ar 11 17 Z f cC λa f=>Ar 12 17 Z f cC λa f=>Ar 13 17 Z f cC λa f=>Ar 14 17 Z f cC λa f=>Ar 15 17 Z f cC λa f=>q_p 16 17 Z f (λ_=>AY (f.e Z) cC (f.e Z)) λa f=> ?_
           obtain rfl:=sj bW
           exact cB _ (f.k Z)
theorem Wk.j {v0:Value}{it0:Itm}{x0:LI}{x1 x2 x3:Int}(hW:Bn W)(m:Mem W G w (it0::H))(o0:Ow (RI .u32) 75 G it0 v0 x0){y:(LI)}(hd:D.j x0 x1 x2 x3=some y):
  Calls prog 96 #[v0,(iv x1),(iv x2),(iv x3),(.func (.func 71) #[] #[])] w (Res W G H (λG' Ho _=>∃i0:Itm,Ho=[i0]∧Ow (RI .u32) 75 G' i0 v0 y)):=by
 exact Wk.A hW BJ m o0 hd
theorem Wk.i0 {v0:Value}{it0:Itm}{x0:LI}(hW:Bn W)(m:Mem W G w (it0::H))(o0:Ow (RI .u32) 75 G it0 v0 x0){y:(LI)}(hd:D.i0 x0=some y):
  Calls prog 70 #[v0,(.func (.func 71) #[] #[])] w (Res W G H (λG' Ho _=>∃i0:Itm,Ho=[i0]∧Ow (RI .u32) 75 G' i0 v0 y)):=by
 refine As (args:=[v0,(.func (.func 71) #[] #[])]) (N:=14) [] func70 Z Z (lb Z) Z λa f=> ?_
 unfold D.i0 at hd
 refine Af ?_
 refine Aa f Z λa f=>BQ 0 m o0 Z underlying54 f Z Z λa f=>Ac f Z λa f=>Ab (An ?_)
 refine Aa f Z λa f=>Aa f Z λa f=>Aa f Z λa f=>l_o f (r_conv (f.e Z) ⟨_,underlying3⟩ underlying62) λa f=> ?_
 have⟨aa,ab,hd⟩:=bind_some hd
 refine AM f Z call97 (Wk.y m ab) λac ad ae w af m ag a f=> ?_
 obtain⟨rfl,rfl⟩:=ag
 have o0:=od1 af o0
 refine Aa f Z λa f=> ?_
 have⟨ah,ai,hd⟩:=bind_some hd
 refine AM f Z call96 (Wk.j hW m o0 ai) λaj ak al w am m an a f=> ?_
 obtain⟨ao,rfl,ap⟩:=an
 refine Ab ?_
 obtain rfl:=sj hd
 exact⟨[],trivial,f.d,_,[ao],(gt af am),m,_,Z,ap⟩
theorem Wk.j0 {v0:Value}{x0:LI}(hW:Bn W)(m:Mem W G w (H))(h0:RSl (RI .u32) G v0 x0){y:(LI)}(hd:D.j0 x0=some y):
  Calls prog 32 #[v0] w (Res W G H (λG' Ho v=>∃r0:Value,∃i0:Itm,Ho=[i0]∧r0=v∧Ow (RI .u32) 75 G' i0 r0 y)):=by
 refine As (args:=[v0]) (N:=24) [.tmp 2] func32 Z Z (lb Z) Z λa f=> ?_
 unfold D.j0 at hd
 refine Af ?_
 refine Ac f Z λa f=>Au ?_
 refine A3 (R:=(RI .u32)) (xs:=([]:LI)) (RI.one _) m T54 f Z Z Z (by decide) (All2.nil _) λaa ab w a m ac f=>Ac f Z λa f=>Ab (Ag (Af ?_))
 refine Aa f Z λa f=>Aa f Z λa f=> ?_
 have⟨ad,ae,hd⟩:=bind_some hd
 refine Ba f Z call68 (Wk.M m h0 ae) λaf w ag m a f=> ?_
 have h0:=rd1 ag h0
 have ac:=od1 ag ac
 have⟨ah,ai,hd⟩:=bind_some hd
 refine AM f Z call67 (Wk.r hW m h0 ai) λaj ak al w am m an a f=> ?_
 obtain⟨ao,ap,rfl,rfl,aq⟩:=an
 have h0:=rd1 am h0
 have ac:=od1 am ac
 refine BQ 0 m aq Z underlying54 f Z Z λa f=>Aa f Z λa f=>Ab ?_
 have⟨ar,au,hd⟩:=bind_some hd
 refine AE (λa w=>∃av:LI,av=ar∧∃(aw:GH) (ax:Value) (ay:Itm),GLe ak aw∧Fr a 24 [(3,ax)]∧Mem W aw w (ay::H)∧Ow (RI .u32) 75 aw ay ax av) ?_ ?_
 ·refine Ak ?_
  have m:=m.fr 1
  refine Az (λaz a w=>∃aA:LI,∃aB:Int,(aA,aB)=az∧∃(aC:GH) (aD:Value) (aE:Itm),GLe ak aC∧Fr a 24 [(0,v0),(3,aD),(10,ao),(11,(iv (ah.length:Int))),(12,(iv aB))]∧Mem W aC w (aE::ap::H)∧Ow (RI .u32) 75 aC aE aD aA) au ⟨_,_,Z,_,ab,aa,gr,f.k Z,m,ac⟩ ?_
  clear au f m
  rintro az aF aG aH a w ⟨aA,aB,rfl,aC,aD,aE,aI,f,m,aJ⟩
  have h0:=rd1 aI h0
  have aq:=od1 aI aq
  refine Af ?_
  refine Ah f Z Z Aw λa f=>Ab (Ag ?_)
  rcases Ae aG with⟨aK,aG⟩|⟨aK,aG⟩
  ·refine Al f Z aK ?_
   refine Am ?_
   refine Ag (Ak (Af ?_))
   have⟨aL,aM,aG⟩:=bind_some aG
   refine A4 1 m aq Z T54 f Z Z Z aM λaN a aO f=>B7 1 m aq Z AR f Z Z aO aM λaP a aQ f=> ?_
   subst aQ
   refine Ac f Z λa f=>Ab (An ?_)
   refine Aa f Z λa f=>Aa f Z λa f=>Aa f Z λa f=> ?_
   have⟨aR,aS,aG⟩:=bind_some aG
   refine AM f Z call69 (Wk.f hW m h0 aJ aS) λaT aU aV w aW m aX a f=> ?_
   obtain⟨aY,aZ,rfl,rfl,a0⟩:=aX
   refine Ac f Z λa f=>Ab (An ?_)
   refine Ah f Z Z Av λa f=>Aa f Z λa f=>Ab ?_
   obtain rfl:=sj aG
   exact⟨_,Z,_,_,Z,_,aY,aZ,(gt aI aW),f.k Z,m,a0⟩
  ·refine Ai f Z aK ?_
   refine Ax Z ?_
   have m:=m.eraseAt 1
   obtain rfl:=sj aG
   obtain rfl:=aH _ rfl
   exact⟨_,Z,_,aD,aE,aI,f.k Z,m,aJ⟩
 ·rintro a w ⟨av,rfl,aw,ax,ay,a1,f,m,a2⟩
  refine Af ?_
  refine Aa f Z λa f=> ?_
  have⟨a3,a4,hd⟩:=bind_some hd
  refine AM f Z call70 (Wk.i0 hW m a2 a4) λa5 a6 a7 w a8 m a9 a f=> ?_
  obtain⟨ba,rfl,bb⟩:=a9
  refine Au ?_
  refine Aa f Z λa f=>Ac f Z λa f=>Ab ?_
  refine Aq ?_
  obtain rfl:=sj hd
  exact⟨[ax],f.g Z,f.d,_,[ba],(gt ag (gt am (gt a1 a8))),m,_,_,Z,Z,bb⟩
theorem Wk.S {v0:Value}{x0:LI}(m:Mem W G w (H))(h0:R1 G v0 x0){y:(LI)}(hd:D.S x0=some y):
  Calls prog 78 #[v0] w (Res W G H (λG' Ho v=>∃r0:Value,∃i0:Itm,Ho=[i0]∧r0=v∧Ow R0 2 G' i0 r0 y)):=by
 refine As (args:=[v0]) (N:=21) [.tmp 2] func78 Z Z (lb Z) Z λa f=> ?_
 unfold D.S at hd
 refine Af ?_
 refine Ac f Z λa f=>Au ?_
 refine Aa f Z λa f=>AP underlying71 f Z Z h0 λa f=> ?_
 have⟨aa,ab,hd⟩:=bind_some hd
 refine l_make (R:=R0) m T49 Z (by decide) Z f Z Z Z ab λac ad w a m ae f=>Ac f Z λa f=>Ab (Ag (Af ?_))
 refine Aa f Z λa f=>AP underlying71 f Z Z h0 λa f=>Aa f Z λa f=>Ab ?_
 have⟨af,ag,hd⟩:=bind_some hd
 refine AE (λa w=>∃ah:LI,ah=af∧∃(ai:GH) (aj:Value) (ak:Itm),GLe G ai∧Fr a 21 [(3,aj)]∧Mem W ai w (ak::H)∧Ow R0 2 ai ak aj ah) ?_ ?_
 ·refine Ak ?_
  refine Az (λal a w=>∃am:LI,∃an:Int,(am,an)=al∧∃(ao:GH) (ap:Value) (aq:Itm),GLe G ao∧Fr a 21 [(3,ap),(9,v0),(10,(iv (x0.length:Int))),(11,(iv an))]∧Mem W ao w (aq::H)∧Ow R0 2 ao aq ap am) ag ⟨_,_,Z,_,ad,ac,gr,f.k Z,m,ae⟩ ?_
  clear ag f m
  rintro al ar au av a w ⟨am,an,rfl,ao,ap,aq,aw,f,m,ax⟩
  have h0:=rd1 aw h0
  refine Af ?_
  refine Ah f Z Z Aw λa f=>Ab (Ag ?_)
  rcases Ae au with⟨ay,au⟩|⟨ay,au⟩
  ·refine Al f Z ay ?_
   refine Am ?_
   refine Ag (Ak (Af ?_))
   have⟨az,aA,au⟩:=bind_some au
   refine A8 T71 f Z Z Z h0 aA λaB aC a aD aE f=> ?_
   subst aE
   refine AF m Pl3 f Z Z aD λa f=>Ac f Z λa f=>Ab (An ?_)
   refine Aa f Z λa f=>Aa f Z λa f=>A3 (R:=R0) (xs:=([az]:LI)) (RI.one _) m T49 f Z Z Z (by decide) (All2.cons Z (All2.nil _)) λaF aG w a m aH f=> ?_
   have⟨aI,aJ,au⟩:=bind_some au
   refine Bm (RI.one _) 1 m ax Z T49 Z (by decide) f Z Z Z (Ow.src (j:=0) aH m Z) aJ λaK aL w a m aM f=>Ac f Z λa f=>Ab (An ?_)
   refine Ah f Z Z Av λa f=>Aa f Z λa f=>Ab ?_
   have m:=m.fr 1
   have m:=m.eraseAt 1
   obtain rfl:=sj au
   exact⟨_,Z,_,_,Z,_,aL,aK,aw,f.k Z,m,aM⟩
  ·refine Ai f Z ay ?_
   refine Ax Z ?_
   obtain rfl:=sj au
   obtain rfl:=av _ rfl
   exact⟨_,Z,_,ap,aq,aw,f.k Z,m,ax⟩
 ·rintro a w ⟨ah,rfl,ai,aj,ak,aN,f,m,aO⟩
  refine Af ?_
  refine Aa f Z λa f=>Ac f Z λa f=>Ab ?_
  refine Aq ?_
  obtain rfl:=sj hd
  exact⟨[aj],f.g Z,f.d,_,[ak],aN,m,_,_,Z,Z,aO⟩
theorem Wk.g0 {x0:Int}(hW:Bn W)(m:Mem W G w (H)){y:(LI)}(hd:D.g0 x0=some y):
  Calls prog 66 #[(.int .u32 x0)] w (Res W G H (λG' Ho v=>∃r0:Value,∃i0:Itm,Ho=[i0]∧r0=v∧Ow R0 2 G' i0 r0 y)):=by
 refine As (args:=[(.int .u32 x0)]) (N:=6) [.tmp 2] func66 Z Z (lb Z) Z λa f=> ?_
 unfold D.g0 at hd
 refine Af ?_
 refine Ac f Z λa f=>Au ?_
 refine Aa f Z λa f=> ?_
 have⟨aa,ab,hd⟩:=bind_some hd
 refine AM f Z call91 (Wk.g hW m ab) λac ad ae w af m ag a f=> ?_
 obtain⟨ah,ai,rfl,rfl,aj⟩:=ag
 have⟨ak,al,hd⟩:=bind_some hd
 refine AM f Z call78 (Ow.lendCall (RI.mono _) 0 aj m Z (λam an m ao=>Wk.S m ao al) (λ_ G' _ _ ⟨a0,a1,e1,e2,o0⟩=>⟨a0,a1,e1,e2,Ow.free (RI.free _) G' o0⟩)) λap aq ar w au m av a f=> ?_
 obtain⟨aw,ax,rfl,rfl,ay⟩:=av
 refine Ac f Z λa f=>Ab ?_
 refine Aq ?_
 have m:=m.eraseAt 1
 obtain rfl:=sj hd
 exact⟨[aw],f.g Z,f.d,_,[ax],(gt af au),m,_,_,Z,Z,ay⟩
theorem Wk.X {v0:Value}{x0:LI}(hW:Bn W)(m:Mem W G w (H))(h0:RSl (RI .u32) G v0 x0){y:(LL)}(hd:D.X x0=some y):
  Calls prog 31 #[v0] w (Res W G H (λG' Ho v=>∃r0:Value,∃i0:Itm,Ho=[i0]∧r0=v∧Ow2 R0 49 2 G' i0 r0 y)):=by
 refine As (args:=[v0]) (N:=20) [.tmp 2] func31 Z Z (lb Z) Z λa f=> ?_
 unfold D.X at hd
 refine Af ?_
 refine Ac f Z λa f=>Au ?_
 refine A3 (R:=RawS) (xs:=[]) RawS.one m T22 f Z Z Z (by decide) (All2.nil _) λaa ab w a m ac f=> ?_
 obtain⟨ad,m,ae⟩:=Ow2.of_empty R0 2 m ac
 refine Ac f Z λa f=>Ab (Ag (Af ?_))
 refine Aa f Z λa f=>AP underlying54 f Z Z h0 λa f=>Aa f Z λa f=>Ab ?_
 have⟨af,ag,hd⟩:=bind_some hd
 refine AE (λa w=>∃ah:LL,ah=af∧∃(ai:GH) (aj:Value) (ak:Itm),GLe G ai∧Fr a 20 [(3,aj)]∧Mem W ai w (ak::H)∧Ow2 R0 49 2 ai ak aj ah) ?_ ?_
 ·refine Ak ?_
  refine Az (λal a w=>∃am:LL,∃an:Int,(am,an)=al∧∃(ao:GH) (ap:Value) (aq:Itm),GLe G ao∧Fr a 20 [(3,ap),(7,v0),(8,(iv (x0.length:Int))),(9,(iv an))]∧Mem W ao w (aq::H)∧Ow2 R0 49 2 ao aq ap am) ag ⟨_,_,Z,_,ab,ad,gr,f.k Z,m,ae⟩ ?_
  clear ag f m
  rintro al ar au av a w ⟨am,an,rfl,ao,ap,aq,aw,f,m,ax⟩
  have h0:=rd1 aw h0
  refine Af ?_
  refine Ah f Z Z Aw λa f=>Ab (Ag ?_)
  rcases Ae au with⟨ay,au⟩|⟨ay,au⟩
  ·refine Al f Z ay ?_
   refine Am ?_
   refine Ag (Ak (Af ?_))
   have⟨az,aA,au⟩:=bind_some au
   refine A8 T54 f Z Z Z h0 aA λaB aC a aD aE f=> ?_
   subst aE
   refine AF m AR f Z Z aD λa f=>Ac f Z λa f=>Ab (An ?_)
   refine Aa f Z λa f=>Aa f Z λa f=> ?_
   have⟨aF,aG,au⟩:=bind_some au
   refine AM f Z call66 (Wk.g0 hW m aG) λaH aI aJ w aK m aL a f=> ?_
   obtain⟨aM,aN,rfl,rfl,aO⟩:=aL
   have ax:=od2 aK ax
   refine A3 (R:=RawS) (xs:=[aM]) RawS.one m T22 f Z Z Z (by decide) (All2.cons ⟨Z,Ow.one1 0 m aO Z,Ow.cells 0 m aO Z⟩ (All2.nil _)) λaP aQ w a m aR f=> ?_
   have m:=m.fr 1
   have m:=m.fr 2
   have⟨aS,aT,au⟩:=bind_some au
   refine l_append2 m ax aO aR T22 Z (by decide) f Z Z Z aT λaU aV w a m aW f=>Ac f Z λa f=>Ab (An ?_)
   refine Ah f Z Z Av λa f=>Aa f Z λa f=>Ab ?_
   obtain rfl:=sj au
   exact⟨_,Z,_,_,Z,_,aV,aU,(gt aw aK),f.k Z,m,aW⟩
  ·refine Ai f Z ay ?_
   refine Ax Z ?_
   obtain rfl:=sj au
   obtain rfl:=av _ rfl
   exact⟨_,Z,_,ap,aq,aw,f.k Z,m,ax⟩
 ·rintro a w ⟨ah,rfl,ai,aj,ak,aX,f,m,aY⟩
  refine Af ?_
  refine Aa f Z λa f=>Ac f Z λa f=>Ab ?_
  refine Aq ?_
  obtain rfl:=sj hd
  exact⟨[aj],f.g Z,f.d,_,[ak],aX,m,_,_,Z,Z,aY⟩
theorem Wk.v {aa:Value}{ab:LL}(hW:Bn W)(m:Mem W G w (H))(ac:R2 G aa ab){y:(LL)}(hd:D.v ab=some y):
  Calls prog 9 #[(.agg #[aa])] w (Res W G H (λG' Ho v=>∃r0:Value,∃i0:Itm,Ho=[i0]∧r0=v∧Ow2 R0 49 2 G' i0 r0 y)):=by
 refine As (args:=[(.agg #[aa])]) (N:=10) [.tmp 2] func9 Z Z (lb Z) Z λa f=> ?_
 unfold D.v at hd
 refine Af ?_
 refine B6 (cs:=[aa]) m f Z Z Z λad w a m f=>Ac f Z λa f=>Ab (Ag (Af ?_))
 refine BL 0 0 (ds:=[aa]) m CO f Z Z Z Z Z λa f=> ?_
 have⟨ae,af,hd⟩:=bind_some hd
 refine Ba f Z call30 (Wk.U m ac af) λag w ah m a f=> ?_
 have ac:=rd2 ah ac
 refine l_o f (Bi (f.e Z)) λa f=>Ab ?_
 rcases Ae hd with⟨ai,hd⟩|⟨ai,hd⟩
 ·refine Al f Z ai ?_
  refine Af ?_
  refine Ac f Z λa f=>Ab ?_
  refine Aq ?_
  obtain⟨aj,m,ak⟩:=Ow2.nil R0 49 2 m
  have m:=m.eraseAt 1
  obtain rfl:=sj hd
  exact⟨[sn],f.g Z,f.d,_,[aj],ah,m,_,_,Z,Z,ak⟩
 ·refine Ai f Z ai ?_
  refine Am ?_
  refine Af ?_
  refine BL 0 0 (ds:=[aa]) m CO f Z Z Z Z Z λa f=> ?_
  have⟨al,am,hd⟩:=bind_some hd
  refine AM f Z call33 (Wk.b0 m ac am) λan ao ap w aq m ar a f=> ?_
  obtain⟨au,av,rfl,rfl,aw⟩:=ar
  have⟨ax,ay,hd⟩:=bind_some hd
  refine AM f Z call32 (Ow.lendCall (RI.mono _) 0 aw m Z (λaz aA m aB=>Wk.j0 hW m aB ay) (λ_ G' _ _ ⟨a0,a1,e1,e2,o0⟩=>⟨a0,a1,e1,e2,Ow.free (RI.free _) G' o0⟩)) λaC aD aE w aF m aG a f=> ?_
  obtain⟨aH,aI,rfl,rfl,aJ⟩:=aG
  have⟨aK,aL,hd⟩:=bind_some hd
  refine AM f Z call31 (Ow.lendCall (RI.mono _) 0 aJ m Z (λaM aN m aO=>Wk.X hW m aO aL) (λ_ G' _ _ ⟨a0,a1,e1,e2,o0⟩=>⟨a0,a1,e1,e2,Ow2.free (RI.free _) G' o0⟩)) λaP aQ aR w aS m aT a f=> ?_
  obtain⟨aU,aV,rfl,rfl,aW⟩:=aT
  refine Ac f Z λa f=>Ab ?_
  refine Aq ?_
  have m:=m.eraseAt 3
  have m:=m.eraseAt 2
  have m:=m.eraseAt 1
  obtain rfl:=sj hd
  exact⟨[aU],f.g Z,f.d,_,[aV],(gt ah (gt aq (gt aF aS))),m,_,_,Z,Z,aW⟩
theorem Wk.b {v0 v1:Value}{x0 x1:LI}(m:Mem W G w (H))(h0:R1 G v0 x0)(h1:R1 G v1 x1){y:Bool}(hd:D.b x0 x1=some y):
  Calls prog 34 #[v0,v1] w (Res W G H (λ_ Ho v=>Ho=[]∧v=(.bool y))):=by
 refine As (args:=[v0,v1]) (N:=26) [.tmp 4] func34 Z Z (lb Z) Z λa f=> ?_
 unfold D.b at hd
 refine Af ?_
 refine Ac f Z λa f=>Ab (Ag (Af ?_))
 refine Aa f Z λa f=>AP underlying49 f Z Z h0 λa f=>Aa f Z λa f=>AP underlying49 f Z Z h1 λa f=>Ah f Z Z B5 λa f=>Ab ?_
 rcases Ae hd with⟨aa,hd⟩|⟨aa,hd⟩
 ·refine Al f Z aa ?_
  refine Af ?_
  refine Ac f Z λa f=>Ab ?_
  refine Aq ?_
  obtain rfl:=sj hd
  exact⟨[(.bool false)],f.g Z,f.d,_,[],gr,m,Z,Z⟩
 ·refine Ai f Z aa ?_
  refine Am ?_
  refine Ag (Af ?_)
  refine Ac f Z λa f=>Ab ?_
  have⟨ab,ac,hd⟩:=bind_some hd
  refine AE (λa w=>∃q_36':Unit,ab= .inl q_36'∧∃(ad:GH),GLe G ad∧Fr a 26 []∧Mem W ad w (H)) ?_ ?_
  ·refine Ak ?_
   refine Az (λae a w=>∃af:Int,af=ae∧∃(ag:GH),GLe G ag∧Fr a 26 [(0,v0),(1,v1),(5,(iv af))]∧Mem W ag w (H)) ac ⟨_,Z,_,gr,f.k Z,m⟩ ?_
   clear ac f m
   rintro ae ah ai aj a w ⟨af,rfl,ag,ak,f,m⟩
   have h0:=rd1 ak h0
   have h1:=rd1 ak h1
   refine Ag (Af ?_)
   refine Aa f Z λa f=>Aa f Z λa f=>AP underlying49 f Z Z h0 λa f=>Ah f Z Z Aw λa f=>Ab ?_
   rcases Ae ai with⟨al,ai⟩|⟨al,ai⟩
   ·refine Al f Z al ?_
    refine Am ?_
    refine Ag (Ak (Ag ?_))
    refine A6 9 AI (by kernel_rfl) m ?_
    refine Aj 0 9 Z f Z λa f=>Aj 1 9 Z f Z λa f=> ?_
    have⟨am,an,ai⟩:=bind_some ai
    refine Cd 2 9 T49 h0 an Z f Z Z λao ap a aq ar f=> ?_
    subst ar
    refine Cb 3 9 Pl2 aq Z f Z λa f=>Aj 4 9 Z f Z λa f=>Aj 5 9 Z f Z λa f=> ?_
    have⟨au,av,ai⟩:=bind_some ai
    refine Cd 6 9 T49 h1 av Z f Z Z λaw ax a ay az f=> ?_
    subst az
    refine Cb 7 9 Pl2 ay Z f Z λa f=>q_p 8 9 Z f (λ_=>AH (f.e Z) (f.e Z) B5) λa f=>A2 λaA w aB m=>Ab ?_
    rcases Ae ai with⟨aC,ai⟩|⟨aC,ai⟩
    ·refine Al f Z aC ?_
     refine Af ?_
     refine Ac f Z λa f=>Ab ?_
     refine Aq ?_
     obtain rfl:=sj ai
     obtain rfl:=aj _ rfl
     obtain rfl:=sj hd
     exact⟨[(.bool false)],f.g Z,f.d,_,[],(gt ak aB),m,Z,Z⟩
    ·refine Ai f Z aC ?_
     refine Am ?_
     refine An ?_
     refine Aa f Z λa f=>Ah f Z Z Av λa f=>Ac f Z λa f=>Ab ?_
     obtain rfl:=sj ai
     exact⟨_,Z,_,Z,_,(gt ak aB),f.k Z,m⟩
   ·refine Ai f Z al ?_
    refine Ax Z ?_
    obtain rfl:=sj ai
    obtain rfl:=aj _ rfl
    exact⟨_,Z,_,ak,f.weak trivial,m⟩
  ·rintro a w ⟨_,rfl,ad,aD,f,m⟩
   refine Af ?_
   refine Ac f Z λa f=>Ab ?_
   refine Aq ?_
   obtain rfl:=sj hd
   exact⟨[(.bool true)],f.g Z,f.d,_,[],aD,m,Z,Z⟩
theorem Wk.p {v0 v1:Value}{x0 x1:LL}(m:Mem W G w (H))(h0:R2 G v0 x0)(h1:R2 G v1 x1){y:Bool}(hd:D.p x0 x1=some y):
  Calls prog 10 #[v0,v1] w (Res W G H (λ_ Ho v=>Ho=[]∧v=(.bool y))):=by
 refine As (args:=[v0,v1]) (N:=27) [.tmp 4] func10 Z Z (lb Z) Z λa f=> ?_
 unfold D.p at hd
 refine Af ?_
 refine Ac f Z λa f=>Ab (Ag (Af ?_))
 refine Aa f Z λa f=>AP underlying22 f Z Z h0 λa f=>Aa f Z λa f=>AP underlying22 f Z Z h1 λa f=>Ah f Z Z B5 λa f=>Ab ?_
 rcases Ae hd with⟨aa,hd⟩|⟨aa,hd⟩
 ·refine Al f Z aa ?_
  refine Af ?_
  refine Ac f Z λa f=>Ab ?_
  refine Aq ?_
  obtain rfl:=sj hd
  exact⟨[(.bool false)],f.g Z,f.d,_,[],gr,m,Z,Z⟩
 ·refine Ai f Z aa ?_
  refine Am ?_
  refine Ag (Af ?_)
  refine Ac f Z λa f=>Ab ?_
  have⟨ab,ac,hd⟩:=bind_some hd
  refine AE (λa w=>∃q_42':Unit,ab= .inl q_42'∧∃(ad:GH),GLe G ad∧Fr a 27 []∧Mem W ad w (H)) ?_ ?_
  ·refine Ak ?_
   refine Az (λae a w=>∃af:Int,af=ae∧∃(ag:GH),GLe G ag∧Fr a 27 [(0,v0),(1,v1),(5,(iv af))]∧Mem W ag w (H)) ac ⟨_,Z,_,gr,f.k Z,m⟩ ?_
   clear ac f m
   rintro ae ah ai aj a w ⟨af,rfl,ag,ak,f,m⟩
   have h0:=rd2 ak h0
   have h1:=rd2 ak h1
   refine Ag (Af ?_)
   refine Aa f Z λa f=>Aa f Z λa f=>AP underlying22 f Z Z h0 λa f=>Ah f Z Z Aw λa f=>Ab ?_
   rcases Ae ai with⟨al,ai⟩|⟨al,ai⟩
   ·refine Al f Z al ?_
    refine Am ?_
    refine Ag (Ak (Ag ?_))
    refine A6 10 AI (by kernel_rfl) m ?_
    refine Aj 0 10 Z f Z λa f=>Aj 1 10 Z f Z λa f=> ?_
    have⟨am,an,ai⟩:=bind_some ai
    refine Cd 2 10 T22 h0 an Z f Z Z λao ap a aq ar f=>Cb 3 10 Bt aq Z f Z λa f=>Aj 4 10 Z f Z λa f=>Aj 5 10 Z f Z λa f=> ?_
    have⟨au,av,ai⟩:=bind_some ai
    refine Cd 6 10 T22 h1 av Z f Z Z λaw ax a ay az f=>Cb 7 10 Bt ay Z f Z λa f=> ?_
    have⟨aA,aB,ai⟩:=bind_some ai
    refine q_call (i:=8) 10 Z (by kernel_rfl) Z f Z Z Z call34 (λ_ _ w aC m=>Wk.b m (rd1 aC ar) (rd1 aC az) aB) λa f=>q_p 9 10 Z f (λ_=>Bi (f.e Z)) λa f=>A2 λaD w aE m=>Ab ?_
    rcases Ae ai with⟨aF,ai⟩|⟨aF,ai⟩
    ·refine Al f Z aF ?_
     refine Af ?_
     refine Ac f Z λa f=>Ab ?_
     refine Aq ?_
     obtain rfl:=sj ai
     obtain rfl:=aj _ rfl
     obtain rfl:=sj hd
     exact⟨[(.bool false)],f.g Z,f.d,_,[],(gt ak aE),m,Z,Z⟩
    ·refine Ai f Z aF ?_
     refine Am ?_
     refine An ?_
     refine Aa f Z λa f=>Ah f Z Z Av λa f=>Ac f Z λa f=>Ab ?_
     obtain rfl:=sj ai
     exact⟨_,Z,_,Z,_,(gt ak aE),f.k Z,m⟩
   ·refine Ai f Z al ?_
    refine Ax Z ?_
    obtain rfl:=sj ai
    obtain rfl:=aj _ rfl
    exact⟨_,Z,_,ak,f.weak trivial,m⟩
  ·rintro a w ⟨_,rfl,ad,aG,f,m⟩
   refine Af ?_
   refine Ac f Z λa f=>Ab ?_
   refine Aq ?_
   obtain rfl:=sj hd
   exact⟨[(.bool true)],f.g Z,f.d,_,[],aG,m,Z,Z⟩
theorem Wk.h0 {aa ab:Value}{ac ad:LL}(m:Mem W G w (H))(ae:R2 G aa ac)(af:R2 G ab ad){y:Bool}(hd:D.h0 ac ad=some y):
  Calls prog 11 #[(.agg #[aa]),(.agg #[ab])] w (Res W G H (λ_ Ho v=>Ho=[]∧v=(.bool y))):=by
 refine As (args:=[(.agg #[aa]),(.agg #[ab])]) (N:=11) [.tmp 4] func11 Z Z (lb Z) Z λa f=> ?_
 unfold D.h0 at hd
 refine Af ?_
 refine B6 (cs:=[aa]) m f Z Z Z λag w a m f=>B6 (cs:=[ab]) m f Z Z Z λah w a m f=>Ac f Z λa f=>Ab (Ag (Af ?_))
 refine BM underlying27 Z sizeOf22 f Z λa f=>AW 1 0 m BG f Z Z Z Z λa f=>BM underlying27 Z sizeOf22 f Z λa f=>AW 0 0 m BG f Z Z Z Z λa f=> ?_
 have⟨ai,aj,hd⟩:=bind_some hd
 refine Ba f Z call10 (Wk.p m ae af aj) λak w al m a f=>l_o f (Bi (f.e Z)) λa f=>Ab ?_
 rcases Ae hd with⟨am,hd⟩|⟨am,hd⟩
 ·refine Al f Z am ?_
  refine Af ?_
  refine Ac f Z λa f=>Ab ?_
  refine Aq ?_
  have m:Mem W ak w H:=Mem.drop (H':=[ib ah 27 [ab],ib ag 27 [aa]]) m
  obtain rfl:=sj hd
  exact⟨[(.bool false)],f.g Z,f.d,_,[],al,m,Z,Z⟩
 ·refine Ai f Z am ?_
  refine Am ?_
  refine Af ?_
  refine Ac f Z λa f=>Ab ?_
  refine Aq ?_
  have m:Mem W ak w H:=Mem.drop (H':=[ib ah 27 [ab],ib ag 27 [aa]]) m
  obtain rfl:=sj hd
  exact⟨[(.bool true)],f.g Z,f.d,_,[],al,m,Z,Z⟩
end Go.Proofs.YtjhajfcggfhbmaaDoor

set_option maxRecDepth 100000
namespace Go.Proofs.YtjhajfcggfhbmaaDoor
open Go Go.Sx
open Go.Proofs.Tryd Go.Proofs.YtjhajfcggfhbmaaDoor.Tryd IntKind
variable {W w : World} {G : GH} {H : List Itm}
theorem Ag24 :Agg prog 24 1:=⟨isAgg24,sizeOf24⟩
theorem Wk.i {v0:Value}{it0:Itm}{x0:LI}{x1:Int}(m:Mem W G w (it0::H))(o0:Ow R0 2 G it0 v0 x0){y:Int×(LI)}(hd:D.i x0 x1=some y):
  Calls prog 35 #[v0,(iv x1)] w (Res W G H (λG' Ho v=>∃i0:Itm,Ho=[i0]∧v=(iv y.1)∧Ow R0 2 G' i0 v0 y.2)):=by
 refine As (args:=[v0,(iv x1)]) (N:=19) [.tmp 4] func35 Z Z (lb Z) Z λa f=> ?_
 unfold D.i at hd
 refine Af ?_
 refine Ac f Z λa f=>Ab (Ag (Af ?_))
 refine Ac f Z λa f=>Ab ?_
 have⟨aa,ab,hd⟩:=bind_some hd
 refine AE (λa w=>∃ac:LI,∃ad:Int,(ac,ad)=aa∧∃(ae:GH) (af:Itm),GLe G ae∧Fr a 19 [(1,(iv ad))]∧Mem W ae w (af::H)∧Ow R0 2 ae af v0 ac) ?_ ?_
 ·refine Ak ?_
  refine Az (λag a w=>∃ah:LI,∃ai:Int,∃aj:Int,(ah,ai,aj)=ag∧∃(ak:GH) (al:Itm),GLe G ak∧Fr a 19 [(0,v0),(1,(iv ai)),(5,(iv aj))]∧Mem W ak w (al::H)∧Ow R0 2 ak al v0 ah) ab ⟨_,_,_,Z,_,it0,gr,f.k Z,m,o0⟩ ?_
  clear ab f m
  rintro ag am an ao a w ⟨ah,ai,aj,rfl,ak,al,ap,f,m,aq⟩
  refine Ag (Af ?_)
  refine Aa f Z λa f=>Aa f Z λa f=>BQ 0 m aq Z underlying49 f Z Z λa f=>Ah f Z Z Aw λa f=>Ab ?_
  rcases Ae an with⟨ar,an⟩|⟨ar,an⟩
  ·refine Al f Z ar ?_
   refine Am ?_
   refine Ag (Ak (Af ?_))
   refine Aa f Z λa f=>Aa f Z λa f=>Aa f Z λa f=> ?_
   have⟨au,av,an⟩:=bind_some an
   refine A4 0 m aq Z T49 f Z Z Z av λaw a ax f=>AB 0 m aq Z sizeOf2 f Z Z ax av Z Z Z λay w m az=>Ab (An ?_)
   refine Aa f Z λa f=>Ah f Z Z Av λa f=>Ac f Z λa f=>Ab (An ?_)
   refine Aa f Z λa f=>Ah f Z Z Av λa f=>Ac f Z λa f=>Ab ?_
   obtain rfl:=sj an
   exact⟨_,Z,_,_,_,Z,_,ay,ap,f.k Z,m,az⟩
  ·refine Ai f Z ar ?_
   refine Ax Z ?_
   obtain rfl:=sj an
   obtain rfl:=ao _ rfl
   exact⟨_,_,Z,_,al,ap,f.k Z,m,aq⟩
 ·rintro a w ⟨ac,ad,rfl,ae,af,aA,f,m,aB⟩
  refine Af ?_
  refine Aa f Z λa f=>Ac f Z λa f=>Ab ?_
  refine Aq ?_
  obtain rfl:=sj hd
  exact⟨[(iv ad)],f.g Z,f.d,_,[af],aA,m,_,Z,Z,aB⟩
theorem Wk.C {v0:Value}{it0:Itm}{x0:LL}{x1:Int}(m:Mem W G w (it0::H))(o0:Ow2 R0 49 2 G it0 v0 x0){y:Int×(LL)}(hd:D.C x0 x1=some y):
  Calls prog 13 #[v0,(iv x1)] w (Res W G H (λG' Ho v=>∃i0:Itm,Ho=[i0]∧v=(iv y.1)∧Ow2 R0 49 2 G' i0 v0 y.2)):=by
 refine As (args:=[v0,(iv x1)]) (N:=19) [.tmp 4] func13 Z Z (lb Z) Z λa f=> ?_
 unfold D.C at hd
 refine Af ?_
 refine Ac f Z λa f=>Ab (Ag (Af ?_))
 refine Ac f Z λa f=>Ab ?_
 have⟨aa,ab,hd⟩:=bind_some hd
 refine AE (λa w=>∃ac:LL,∃ad:Int,(ac,ad)=aa∧∃(ae:GH) (af:Itm),GLe G ae∧Fr a 19 [(1,(iv ad))]∧Mem W ae w (af::H)∧Ow2 R0 49 2 ae af v0 ac) ?_ ?_
 ·refine Ak ?_
  refine Az (λag a w=>∃ah:LL,∃ai:Int,∃aj:Int,(ah,ai,aj)=ag∧∃(ak:GH) (al:Itm),GLe G ak∧Fr a 19 [(0,v0),(1,(iv ai)),(5,(iv aj))]∧Mem W ak w (al::H)∧Ow2 R0 49 2 ak al v0 ah) ab ⟨_,_,_,Z,_,it0,gr,f.k Z,m,o0⟩ ?_
  clear ab f m
  rintro ag am an ao a w ⟨ah,ai,aj,rfl,ak,al,ap,f,m,aq⟩
  refine Ag (Af ?_)
  refine Aa f Z λa f=>Aa f Z λa f=>l_own2_len 0 m aq Z underlying22 f Z Z λa f=>Ah f Z Z Aw λa f=>Ab ?_
  rcases Ae an with⟨ar,an⟩|⟨ar,an⟩
  ·refine Al f Z ar ?_
   refine Am ?_
   refine Ag (Ak (An ?_))
   refine Aa f Z λa f=>Aa f Z λa f=> ?_
   have⟨au,av,an⟩:=bind_some an
   refine l_own2_at 0 m aq Z T22 f Z Z Z av λaw a ax f=>l_own2_load 0 m aq Z Bt f Z Z ax av λay a az f=>Aa f Z λa f=> ?_
   have⟨aA,aB,an⟩:=bind_some an
   refine AM f Z call35 (Ow2.callAt aq (RI.mono _) m av az (λinn Hs m oi=>Wk.i m oi aB)) λaC aD aE w aF m aG a f=> ?_
   obtain⟨aH,rfl,rfl,aI⟩:=aG
   refine Ac f Z λa f=>Ab (An ?_)
   refine Aa f Z λa f=>Ah f Z Z Av λa f=>Ac f Z λa f=>Ab ?_
   obtain rfl:=sj an
   exact⟨_,Z,_,_,_,Z,_,aH,(gt ap aF),f.k Z,m,aI⟩
  ·refine Ai f Z ar ?_
   refine Ax Z ?_
   obtain rfl:=sj an
   obtain rfl:=ao _ rfl
   exact⟨_,_,Z,_,al,ap,f.k Z,m,aq⟩
 ·rintro a w ⟨ac,ad,rfl,ae,af,aJ,f,m,aK⟩
  refine Af ?_
  refine Aa f Z λa f=>Ac f Z λa f=>Ab ?_
  refine Aq ?_
  obtain rfl:=sj hd
  exact⟨[(iv ad)],f.g Z,f.d,_,[af],aJ,m,_,Z,Z,aK⟩
theorem Wk.Y {aa:Value}{ab:Itm}{ac:LL}{x1:Int}(m:Mem W G w (ab::H))(ad:Ow2 R0 49 2 G ab aa ac){y:Int×(LL)}(hd:D.Y ac x1=some y):
  Calls prog 12 #[(.agg #[aa]),(iv x1)] w (Res W G H (λG' Ho v=>∃i0:Itm,Ho=[i0]∧v=(iv y.1)∧Ow2 R0 49 2 G' i0 aa y.2)):=by
 refine As (args:=[(.agg #[aa]),(iv x1)]) (N:=10) [.tmp 4] func12 Z Z (lb Z) Z λa f=> ?_
 unfold D.Y at hd
 refine Af ?_
 refine B6 (cs:=[aa]) m f Z Z Z λae w a m f=>Ac f Z λa f=>Au ?_
 refine BM underlying27 Z sizeOf22 f Z λa f=>AW 0 0 m BG f Z Z Z Z λa f=>Aa f Z λa f=> ?_
 have m:=m.fr 1
 have⟨af,ag,hd⟩:=bind_some hd
 refine AM f Z call13 (Wk.C m ad ag) λah ai aj w ak m al a f=> ?_
 obtain⟨am,rfl,rfl,an⟩:=al
 refine Ac f Z λa f=>Au ?_
 refine Aa f Z λa f=>Ac f Z λa f=>Ab ?_
 refine Aq ?_
 have m:=m.eraseAt 1
 obtain rfl:=sj hd
 exact⟨[(iv af.1)],f.g Z,f.d,_,[am],ak,m,_,Z,Z,an⟩
theorem Wk.h {v0:Value}{x0:LI}{x1:Int}(m:Mem W G w (H))(h0:R1 G v0 x0){y:Int}(hd:D.h x0 x1=some y):
  Calls prog 36 #[v0,(iv x1)] w (Res W G H (λ_ Ho v=>Ho=[]∧v=(iv y))):=by
 refine As (args:=[v0,(iv x1)]) (N:=21) [.tmp 4] func36 Z Z (lb Z) Z λa f=> ?_
 unfold D.h at hd
 refine Af ?_
 refine Ac f Z λa f=>Ab (Ag (Af ?_))
 refine Ac f Z λa f=>Ab ?_
 have⟨aa,ab,hd⟩:=bind_some hd
 refine AE (λa w=>∃q_20':Int,aa= .inl q_20'∧∃ac:Int,ac=q_20'∧∃(ad:GH),GLe G ad∧Fr a 21 [(1,(iv ac))]∧Mem W ad w (H)) ?_ ?_
 ·refine Ak ?_
  refine Az (λae a w=>∃af:Int,∃ag:Int,(af,ag)=ae∧∃(ah:GH),GLe G ah∧Fr a 21 [(0,v0),(1,(iv af)),(5,(iv ag))]∧Mem W ah w (H)) ab ⟨_,_,Z,_,gr,f.k Z,m⟩ ?_
  clear ab f m
  rintro ae ai aj ak a w ⟨af,ag,rfl,ah,al,f,m⟩
  have h0:=rd1 al h0
  refine Ag (Af ?_)
  refine Aa f Z λa f=>Aa f Z λa f=>AP underlying49 f Z Z h0 λa f=>Ah f Z Z Aw λa f=>Ab ?_
  rcases Ae aj with⟨am,aj⟩|⟨am,aj⟩
  ·refine Al f Z am ?_
   refine Am ?_
   refine Ag (Ak (Ag (Af ?_)))
   refine Aa f Z λa f=>Aa f Z λa f=> ?_
   have⟨an,ao,aj⟩:=bind_some aj
   refine A8 T49 f Z Z Z h0 ao λap aq a ar au f=> ?_
   subst au
   refine AF m Pl2 f Z Z ar λa f=>Aa f Z λa f=>Ah f Z Z B5 λa f=>Ab ?_
   rcases Ae aj with⟨av,aj⟩|⟨av,aj⟩
   ·refine Al f Z av ?_
    refine Af ?_
    refine Ac f Z λa f=>Ab ?_
    refine Aq ?_
    obtain rfl:=sj aj
    obtain rfl:=ak _ rfl
    obtain rfl:=sj hd
    exact⟨[(iv (-1))],f.g Z,f.d,_,[],al,m,Z,Z⟩
   ·refine Ai f Z av ?_
    refine Am ?_
    refine An ?_
    refine Aa f Z λa f=>Ah f Z Z Av λa f=>Ac f Z λa f=>Ab (An ?_)
    refine Aa f Z λa f=>Ah f Z Z Av λa f=>Ac f Z λa f=>Ab ?_
    obtain rfl:=sj aj
    exact⟨_,Z,_,_,Z,_,al,f.k Z,m⟩
  ·refine Ai f Z am ?_
   refine Ax Z ?_
   obtain rfl:=sj aj
   obtain rfl:=ak _ rfl
   exact⟨_,Z,_,Z,_,al,f.k Z,m⟩
 ·rintro a w ⟨_,rfl,ac,rfl,ad,aw,f,m⟩
  refine Af ?_
  refine Aa f Z λa f=>Ac f Z λa f=>Ab ?_
  refine Aq ?_
  obtain rfl:=sj hd
  exact⟨[(iv ac)],f.g Z,f.d,_,[],aw,m,Z,Z⟩
theorem Wk.F {v0:Value}{x0:LL}{x1:Int}(m:Mem W G w (H))(h0:R2 G v0 x0){y:Int}(hd:D.F x0 x1=some y):
  Calls prog 14 #[v0,(iv x1)] w (Res W G H (λ_ Ho v=>Ho=[]∧v=(iv y))):=by
 refine As (args:=[v0,(iv x1)]) (N:=21) [.tmp 4] func14 Z Z (lb Z) Z λa f=> ?_
 unfold D.F at hd
 refine Af ?_
 refine Ac f Z λa f=>Ab (Ag (Af ?_))
 refine Ac f Z λa f=>Ab ?_
 have⟨aa,ab,hd⟩:=bind_some hd
 refine AE (λa w=>∃q_34':Int,aa= .inl q_34'∧∃ac:Int,ac=q_34'∧∃(ad:GH),GLe G ad∧Fr a 21 [(1,(iv ac))]∧Mem W ad w (H)) ?_ ?_
 ·refine Ak ?_
  refine Az (λae a w=>∃af:Int,∃ag:Int,(af,ag)=ae∧∃(ah:GH),GLe G ah∧Fr a 21 [(0,v0),(1,(iv af)),(5,(iv ag))]∧Mem W ah w (H)) ab ⟨_,_,Z,_,gr,f.k Z,m⟩ ?_
  clear ab f m
  rintro ae ai aj ak a w ⟨af,ag,rfl,ah,al,f,m⟩
  have h0:=rd2 al h0
  refine Ag (Af ?_)
  refine Aa f Z λa f=>Aa f Z λa f=>AP underlying22 f Z Z h0 λa f=>Ah f Z Z Aw λa f=>Ab ?_
  rcases Ae aj with⟨am,aj⟩|⟨am,aj⟩
  ·refine Al f Z am ?_
   refine Am ?_
   refine Ag (Ak (Af ?_))
   refine Aa f Z λa f=>Aa f Z λa f=> ?_
   have⟨an,ao,aj⟩:=bind_some aj
   refine A8 T22 f Z Z Z h0 ao λap aq a ar au f=>AF m Bt f Z Z ar λa f=>Aa f Z λa f=> ?_
   have⟨av,aw,aj⟩:=bind_some aj
   refine Ba f Z call36 (Wk.h m au aw) λax w ay m a f=>Ac f Z λa f=>Au ?_
   refine Aa f Z λa f=>Ah f Z Z Aw λa f=>Ab ?_
   rcases Ae aj with⟨az,aj⟩|⟨az,aj⟩
   ·refine Al f Z az ?_
    refine Af ?_
    refine Ac f Z λa f=>Ab ?_
    refine Aq ?_
    obtain rfl:=sj aj
    obtain rfl:=ak _ rfl
    obtain rfl:=sj hd
    exact⟨[(iv (-1))],f.g Z,f.d,_,[],(gt al ay),m,Z,Z⟩
   ·refine Ai f Z az ?_
    refine Am ?_
    refine An ?_
    refine Aa f Z λa f=>Ah f Z Z Av λa f=>Ac f Z λa f=>Ab ?_
    obtain rfl:=sj aj
    exact⟨_,Z,_,_,Z,_,(gt al ay),f.k Z,m⟩
  ·refine Ai f Z am ?_
   refine Ax Z ?_
   obtain rfl:=sj aj
   obtain rfl:=ak _ rfl
   exact⟨_,Z,_,Z,_,al,f.k Z,m⟩
 ·rintro a w ⟨_,rfl,ac,rfl,ad,aA,f,m⟩
  refine Af ?_
  refine Aa f Z λa f=>Ac f Z λa f=>Ab ?_
  refine Aq ?_
  obtain rfl:=sj hd
  exact⟨[(iv ac)],f.g Z,f.d,_,[],aA,m,Z,Z⟩
set_option maxHeartbeats 1000000 in
theorem Wk.p0 {aa:Value}{ab:LL}(hW:Bn W)(m:Mem W G w (H))(ac:R2 G aa ab){y:Bool}(hd:D.p0 ab=some y):
  Calls prog 3 #[(.agg #[aa])] w (Res W G H (λ_ Ho v=>Ho=[]∧v=(.bool y))):=by
 refine As (args:=[(.agg #[aa])]) (N:=69) [.tmp 2] func3 Z Z (lb Z) Z λa f=> ?_
 unfold D.p0 at hd
 refine Af ?_
 refine B6 (cs:=[aa]) m f Z Z Z λad w a m f=>Ac f Z λa f=>Au ?_
 refine Ac f Z λa f=>Au ?_
 refine BL 0 0 (ds:=[aa]) m Ag24 f Z Z Z Z Z λa f=>Aa f Z λa f=> ?_
 have⟨ae,af,hd⟩:=bind_some hd
 refine Ba f Z call6 (Wk.o0 m ac af) λag w ah m a f=> ?_
 have ac:=rd2 ah ac
 refine Ac f Z λa f=>Ab (Ag (Af ?_))
 refine Aa f Z λa f=>Ah f Z Z Aw λa f=>Ab ?_
 rcases Ae hd with⟨ai,hd⟩|⟨ai,hd⟩
 ·refine Al f Z ai ?_
  refine Af ?_
  refine Ac f Z λa f=>Ab ?_
  refine Aq ?_
  have m:Mem W ag w H:=Mem.drop (H':=[ib ad 24 [aa]]) m
  obtain rfl:=sj hd
  exact⟨[(.bool true)],f.g Z,f.d,_,[],ah,m,Z,Z⟩
 ·refine Ai f Z ai ?_
  refine Am ?_
  refine Af ?_
  refine BL 0 0 (ds:=[aa]) m Ag24 f Z Z Z Z Z λa f=> ?_
  have⟨aj,ak,hd⟩:=bind_some hd
  refine AM f Z call8 (Wk.o m ac ak) λal am an w ao m ap a f=> ?_
  obtain⟨aq,ar,rfl,rfl,au⟩:=ap
  have ac:=rd2 ao ac
  obtain⟨av,aw,m,ax⟩:=Ow2.stamp (RI.mono _) au m
  have ac:=rd2 aw ac
  have⟨ay,az,hd⟩:=bind_some hd
  refine AM f Z call7 (Wk.z m ax az) λaA aB aC w aD m aE a f=> ?_
  obtain⟨aF,rfl,rfl,aG⟩:=aE
  have ac:=rd2 aD ac
  refine Ac f Z λa f=>Au ?_
  refine BL 0 0 (ds:=[aa]) m Ag24 f Z Z Z Z Z λa f=> ?_
  have⟨aH,aI,hd⟩:=bind_some hd
  refine AM f Z call8 (Wk.o m ac aI) λaJ aK aL w aM m aN a f=> ?_
  obtain⟨aO,aP,rfl,rfl,aQ⟩:=aN
  have ac:=rd2 aM ac
  have aG:=rd2 aM aG
  refine Dh (cs:=[sn]) zeroValue27 m f Z Z λaR w a m f=>BP 0 0 (ds:=[aO]) m sizeOf27 f Z Z Z (B2 (Ow2.one1 1 m aQ Z) Ci) Z (lb Z) Z λw m=>Au ?_
  refine BL 0 0 (ds:=[aO]) m CO f Z Z Z Z Z λa f=> ?_
  have⟨aS,aT,hd⟩:=bind_some hd
  refine AM f Z call9 (Ow2.lendCall (RI.mono _) 1 aQ m Z (λaU aV m aW=>Wk.v hW m aW aT) (λ_ G' _ _ ⟨a0,a1,e1,e2,o0⟩=>⟨a0,a1,e1,e2,Ow2.free (RI.free _) G' o0⟩)) λaX aY aZ w a2 m a3 a f=> ?_
  obtain⟨a4,a5,rfl,rfl,a6⟩:=a3
  have ac:=rd2 a2 ac
  have aG:=rd2 a2 aG
  have aQ:=od2 a2 aQ
  refine Ac f Z λa f=>Ab (Ag (Af ?_))
  refine Aa f Z λa f=>Aa f Z λa f=> ?_
  have⟨a7,a8,hd⟩:=bind_some hd
  refine AM f Z call10 (Ow2.lendCall (RI.mono _) 0 a6 m Z (λa9 ba m bb=>Wk.p m bb (rd2 ba aG) a8) (λ_ _ _ _ h=>h)) λbc bd be w bf m bg a f=> ?_
  obtain⟨rfl,rfl⟩:=bg
  have ac:=rd2 bf ac
  have aG:=rd2 bf aG
  have a6:=od2 bf a6
  have aQ:=od2 bf aQ
  refine l_o f (Bi (f.e Z)) λa f=>Ab ?_
  rcases Ae hd with⟨bh,hd⟩|⟨bh,hd⟩
  ·refine Al f Z bh ?_
   refine Af ?_
   refine Ac f Z λa f=>Ab ?_
   refine Aq ?_
   have m:Mem W bd w H:=Mem.drop (H':=[a5,ib aR 27 [aO],aP,ib ad 24 [aa]]) m
   obtain rfl:=sj hd
   exact⟨[(.bool false)],f.g Z,f.d,_,[],(gt ah (gt ao (gt aw (gt aD (gt aM (gt a2 bf)))))),m,Z,Z⟩
  ·refine Ai f Z bh ?_
   refine Am ?_
   refine Ag (Ag ?_)
   refine A6 5 AI (by kernel_rfl) m ?_
   refine CZ (i:=0) (ds:=[aO]) 5 1 CO Z Z Z Z (by kernel_rfl) Z f Z Z Z λa f=>CZ (i:=1) (ds:=[aa]) 5 3 Ag24 Z Z Z Z (by kernel_rfl) Z f Z Z Z λa f=>q_on 2 Z λbi w bj m bk bk=> ?_
   have ac:=rd2 bj ac
   have aG:=rd2 bj aG
   have a6:=od2 bj a6
   have aQ:=od2 bj aQ
   have⟨bl,bm,hd⟩:=bind_some hd
   refine AM f Z call8 (Wk.o m ac bm) λbn bo bp w bq m br a f=> ?_
   obtain⟨bs,bt,rfl,rfl,bu⟩:=br
   have ac:=rd2 bq ac
   have aG:=rd2 bq aG
   have a6:=od2 bq a6
   have aQ:=od2 bq aQ
   refine Ab ?_
   refine bk bo [bt] _ _ bq m ?_
   refine q_on 3 Z λbv w bw m bx bx=> ?_
   have ac:=rd2 bw ac
   have aG:=rd2 bw aG
   have bu:=od2 bw bu
   have a6:=od2 bw a6
   have aQ:=od2 bw aQ
   have⟨bz,bA,hd⟩:=bind_some hd
   refine AM f Z call11 (Ow2.lendCall (RI.mono _) 3 aQ m Z (λbB bC m bD=>(Ow2.lendCall (RI.mono _) 0 (od2 bC bu) m Z (λbE bF m bG=>Wk.h0 m (rd2 bF bD) bG bA) (λ_ _ _ _ h=>h))) (λ_ _ _ _ h=>h)) λbH bI bJ w bK m bL a f=> ?_
   obtain⟨rfl,rfl⟩:=bL
   have ac:=rd2 bK ac
   have aG:=rd2 bK aG
   have a6:=od2 bK a6
   have aQ:=od2 bK aQ
   refine Ab ?_
   refine bx bI [bt] _ _ bK m ?_
   refine q_p 4 5 Z f (λ_=>Bi (f.e Z)) λa f=>A2 λbM w bN m=> ?_
   have ac:=rd2 bN ac
   have aG:=rd2 bN aG
   have a6:=od2 bN a6
   have aQ:=od2 bN aQ
   refine Ab ?_
   rcases Ae hd with⟨bO,hd⟩|⟨bO,hd⟩
   ·refine Al f Z bO ?_
    refine Af ?_
    refine Ac f Z λa f=>Ab ?_
    refine Aq ?_
    have m:Mem W bM w H:=Mem.drop (H':=[bt,a5,ib aR 27 [aO],aP,ib ad 24 [aa]]) m
    obtain rfl:=sj hd
    exact⟨[(.bool false)],f.g Z,f.d,_,[],(gt ah (gt ao (gt aw (gt aD (gt aM (gt a2 (gt bf (gt bj (gt bq (gt bw (gt bK bN))))))))))),m,Z,Z⟩
   ·refine Ai f Z bO ?_
    refine Am ?_
    refine Af ?_
    refine Ac f Z λa f=>Au ?_
    refine BL 2 0 (ds:=[aO]) m CO f Z Z Z Z Z λa f=>Aa f Z λa f=> ?_
    have m:=m.fr 3
    have⟨bP,bQ,hd⟩:=bind_some hd
    refine AM f Z call12 (Wk.Y m aQ bQ) λbR bS bT w bU m bV a f=> ?_
    obtain⟨bW,rfl,rfl,bX⟩:=bV
    have ac:=rd2 bU ac
    have aG:=rd2 bU aG
    have a6:=od2 bU a6
    refine Ac f Z λa f=>Ab (Ag (Af ?_))
    refine Aa f Z λa f=>Ah f Z Z Aw λa f=>Aa f Z λa f=> ?_
    have⟨bY,bZ,hd⟩:=bind_some hd
    refine BF 5 (λa w=>∃b0,GLe bS b0∧Mem W b0 w (bW::bt::a5::ib aR 27 [aO]::ib ad 24 [aa]::H)∧Fr a 69 [(0,(.agg #[aa])),(1,(pb ad)),(3,(iv ae)),(4,aF),(5,(pb aR)),(6,a4),(7,(iv bP.1)),(35,(iv bP.1)),(36,(.bool (decide (bP.1<0)))),(37,(.bool (decide (bP.1<0)))),(42,(.bool bY))]) ?_ ?_
    ·rcases Ae bZ with⟨b1,bZ⟩|⟨b1,bZ⟩
     ·refine AD f b1 λa f=> ?_
      refine AD f b1 λa f=>AD f b1 λa f=>AD f b1 λa f=>l_o f (AZ (f.e Z) b1 (f.e Z)) λa f=> ?_
      obtain rfl:=sj bZ
      exact⟨_,gr,m,f.k Z⟩
     ·refine AC f b1 ?_
      refine Aa f Z λa f=>AC f b1 ?_
      refine Aa f Z λa f=>AC f b1 ?_
      have⟨b2,b3,bZ⟩:=bind_some bZ
      refine AM f Z call10 (Ow2.lendCall (RI.mono _) 2 a6 m Z (λb4 b5 m b6=>Wk.p m b6 (rd2 b5 aG) b3) (λ_ _ _ _ h=>h)) λb7 b8 b9 w ca m cb a f=> ?_
      obtain⟨rfl,rfl⟩:=cb
      refine AC f b1 ?_
      refine l_o f (Bi (f.e Z)) λa f=>l_o f (AY (f.e Z) b1 (f.e Z)) λa f=> ?_
      obtain rfl:=sj bZ
      exact⟨_,ca,m,f.k Z⟩
    ·rintro a w ⟨b0,cc,m,f⟩
     have ac:=rd2 cc ac
     have aG:=rd2 cc aG
     have a6:=od2 cc a6
     refine Ab ?_
     rcases Ae hd with⟨cd,hd⟩|⟨cd,hd⟩
     ·refine Al f Z cd ?_
      refine Af ?_
      refine Ac f Z λa f=>Ab ?_
      refine Aq ?_
      have m:Mem W b0 w H:=Mem.drop (H':=[bW,bt,a5,ib aR 27 [aO],ib ad 24 [aa]]) m
      obtain rfl:=sj hd
      exact⟨[(.bool false)],f.g Z,f.d,_,[],(gt ah (gt ao (gt aw (gt aD (gt aM (gt a2 (gt bf (gt bj (gt bq (gt bw (gt bK (gt bN (gt bU cc))))))))))))),m,Z,Z⟩
     ·refine Ai f Z cd ?_
      refine Am ?_
      refine Af ?_
      refine Ac f Z λa f=>Au ?_
      refine Aa f Z λa f=>Aa f Z λa f=> ?_
      have m:Mem W b0 w (a5::bW::bt::ib aR 27 [aO]::ib ad 24 [aa]::H):=m.fr 2
      have⟨ce,cf,hd⟩:=bind_some hd
      refine AM f Z call13 (Wk.C m a6 cf) λcg ch ci w cj m ck a f=> ?_
      obtain⟨cl,rfl,rfl,cm⟩:=ck
      have ac:=rd2 cj ac
      have aG:=rd2 cj aG
      refine Ac f Z λa f=>Au ?_
      refine Ac f Z λa f=>Au ?_
      refine Aa f Z λa f=>Aa f Z λa f=> ?_
      have⟨cn,co,hd⟩:=bind_some hd
      refine AM f Z call14 (Ow2.lendCall (RI.mono _) 0 cm m Z (λcp cq m cr=>Wk.F m cr co) (λ_ _ _ _ h=>h)) λct cu cv w cw m cx a f=> ?_
      obtain⟨rfl,rfl⟩:=cx
      have ac:=rd2 cw ac
      have aG:=rd2 cw aG
      have cm:=od2 cw cm
      refine Ac f Z λa f=>Ab (Ag (Af ?_))
      refine Aa f Z λa f=>Ah f Z Z Aw λa f=>Ab ?_
      rcases Ae hd with⟨cy,hd⟩|⟨cy,hd⟩
      ·refine Al f Z cy ?_
       refine Af ?_
       refine Ac f Z λa f=>Ab ?_
       refine Aq ?_
       have m:Mem W cu w H:=Mem.drop (H':=[cl,bW,bt,ib aR 27 [aO],ib ad 24 [aa]]) m
       obtain rfl:=sj hd
       exact⟨[(.bool false)],f.g Z,f.d,_,[],(gt ah (gt ao (gt aw (gt aD (gt aM (gt a2 (gt bf (gt bj (gt bq (gt bw (gt bK (gt bN (gt bU (gt cc (gt cj cw))))))))))))))),m,Z,Z⟩
      ·refine Ai f Z cy ?_
       refine Am ?_
       refine Ag (Af ?_)
       refine Aa f Z λa f=>Aa f Z λa f=>Ah f Z Z B5 λa f=>Ab ?_
       rcases Ae hd with⟨cz,hd⟩|⟨cz,hd⟩
       ·refine Al f Z cz ?_
        refine Af ?_
        refine Ac f Z λa f=>Ab ?_
        refine Aq ?_
        have m:Mem W cu w H:=Mem.drop (H':=[cl,bW,bt,ib aR 27 [aO],ib ad 24 [aa]]) m
        obtain rfl:=sj hd
        exact⟨[(.bool false)],f.g Z,f.d,_,[],(gt ah (gt ao (gt aw (gt aD (gt aM (gt a2 (gt bf (gt bj (gt bq (gt bw (gt bK (gt bN (gt bU (gt cc (gt cj cw))))))))))))))),m,Z,Z⟩
       ·refine Ai f Z cz ?_
        refine Am ?_
        refine Af ?_
        refine BL 4 0 (ds:=[aa]) m Ag24 f Z Z Z Z Z λa f=> ?_
        have⟨cA,cB,hd⟩:=bind_some hd
        refine AM f Z call8 (Wk.o m ac cB) λcC cD cE w cF m cG a f=> ?_
        obtain⟨cH,cI,rfl,rfl,cJ⟩:=cG
        have aG:=rd2 cF aG
        have cm:=od2 cF cm
        have⟨cK,cL,hd⟩:=bind_some hd
        refine AM f Z call9 (Ow2.lendCall (RI.mono _) 0 cJ m Z (λcM cN m cO=>Wk.v hW m cO cL) (λ_ G' _ _ ⟨a0,a1,e1,e2,o0⟩=>⟨a0,a1,e1,e2,Ow2.free (RI.free _) G' o0⟩)) λcP cQ cR w cS m cT a f=> ?_
        obtain⟨cU,cV,rfl,rfl,cW⟩:=cT
        have aG:=rd2 cS aG
        have cm:=od2 cS cm
        refine Ac f Z λa f=>Ab (Ag (Af ?_))
        refine Aa f Z λa f=>Aa f Z λa f=> ?_
        have⟨cX,cY,hd⟩:=bind_some hd
        refine AM f Z call10 (Ow2.lendCall (RI.mono _) 0 cW m Z (λcZ c0 m c1=>Wk.p m c1 (rd2 c0 aG) cY) (λ_ _ _ _ h=>h)) λc2 c3 c4 w c5 m c6 a f=> ?_
        obtain⟨rfl,rfl⟩:=c6
        have cm:=od2 c5 cm
        refine l_o f (Bi (f.e Z)) λa f=>Ab ?_
        rcases Ae hd with⟨c7,hd⟩|⟨c7,hd⟩
        ·refine Al f Z c7 ?_
         refine Af ?_
         refine Ac f Z λa f=>Ab ?_
         refine Aq ?_
         have m:Mem W c3 w H:=Mem.drop (H':=[cV,cI,cl,bW,bt,ib aR 27 [aO],ib ad 24 [aa]]) m
         obtain rfl:=sj hd
         exact⟨[(.bool false)],f.g Z,f.d,_,[],(gt ah (gt ao (gt aw (gt aD (gt aM (gt a2 (gt bf (gt bj (gt bq (gt bw (gt bK (gt bN (gt bU (gt cc (gt cj (gt cw (gt cF (gt cS c5)))))))))))))))))),m,Z,Z⟩
        ·refine Ai f Z c7 ?_
         refine Am ?_
         refine Af ?_
         refine Ac f Z λa f=>Au ?_
         refine Aa f Z λa f=>Aa f Z λa f=> ?_
         have⟨c8,c9,hd⟩:=bind_some hd
         refine AM f Z call14 (Ow2.lendCall (RI.mono _) 2 cm m Z (λda db m dc=>Wk.F m dc c9) (λ_ _ _ _ h=>h)) λdd de df w dg m dh a f=> ?_
         obtain⟨rfl,rfl⟩:=dh
         refine Ac f Z λa f=>Ab (Ag (Af ?_))
         refine Aa f Z λa f=>Ah f Z Z Aw λa f=>Ab ?_
         rcases Ae hd with⟨di,hd⟩|⟨di,hd⟩
         ·refine Al f Z di ?_
          refine Af ?_
          refine Ac f Z λa f=>Ab ?_
          refine Aq ?_
          have m:Mem W de w H:=Mem.drop (H':=[cV,cI,cl,bW,bt,ib aR 27 [aO],ib ad 24 [aa]]) m
          obtain rfl:=sj hd
          exact⟨[(.bool false)],f.g Z,f.d,_,[],(gt ah (gt ao (gt aw (gt aD (gt aM (gt a2 (gt bf (gt bj (gt bq (gt bw (gt bK (gt bN (gt bU (gt cc (gt cj (gt cw (gt cF (gt cS (gt c5 dg))))))))))))))))))),m,Z,Z⟩
         ·refine Ai f Z di ?_
          refine Am ?_
          refine Ag (Af ?_)
          refine Aa f Z λa f=>Aa f Z λa f=>Ah f Z Z B5 λa f=>Ab ?_
          rcases Ae hd with⟨dj,hd⟩|⟨dj,hd⟩
          ·refine Al f Z dj ?_
           refine Af ?_
           refine Ac f Z λa f=>Ab ?_
           refine Aq ?_
           have m:Mem W de w H:=Mem.drop (H':=[cV,cI,cl,bW,bt,ib aR 27 [aO],ib ad 24 [aa]]) m
           obtain rfl:=sj hd
           exact⟨[(.bool false)],f.g Z,f.d,_,[],(gt ah (gt ao (gt aw (gt aD (gt aM (gt a2 (gt bf (gt bj (gt bq (gt bw (gt bK (gt bN (gt bU (gt cc (gt cj (gt cw (gt cF (gt cS (gt c5 dg))))))))))))))))))),m,Z,Z⟩
          ·refine Ai f Z dj ?_
           refine Am ?_
           refine Af ?_
           refine Ac f Z λa f=>Ab ?_
           refine Aq ?_
           have m:Mem W de w H:=Mem.drop (H':=[cV,cI,cl,bW,bt,ib aR 27 [aO],ib ad 24 [aa]]) m
           obtain rfl:=sj hd
           exact⟨[(.bool true)],f.g Z,f.d,_,[],(gt ah (gt ao (gt aw (gt aD (gt aM (gt a2 (gt bf (gt bj (gt bq (gt bw (gt bK (gt bN (gt bU (gt cc (gt cj (gt cw (gt cF (gt cS (gt c5 dg))))))))))))))))))),m,Z,Z⟩
end Go.Proofs.YtjhajfcggfhbmaaDoor

namespace Go.Sx
theorem C1 (n:Int):IntKind.u32.wrap n=n%4294967296:=by simp[IntKind.wrap,IntKind.signed,IntKind.bits]
def VS (s:Int):Prop:=0≤s∧s<4294967296
def has (s:Int)(v:Nat):Bool:=s.toNat.testBit v
theorem VS.nat {s:Int}(h:VS s):∃n:Nat,s=n∧n<4294967296:=⟨s.toNat,by have:=h.1;omega,by have:=h.1;have:=h.2;omega⟩
theorem VS.zero :VS 0:=⟨by omega,by omega⟩
theorem VS.wrap (n:Int):VS (IntKind.u32.wrap n):=by rw[C1];exact⟨by omega,by omega⟩
theorem VS.ofNat {n:Nat}(h:n<4294967296):VS (n:Int):=⟨by omega,by omega⟩
theorem Bo (n v:Nat):has (n:Int) v=n.testBit v:=by simp[has]
theorem B4 (v:Nat):has 0 v=false:=by simp[has]
theorem CB (n:Nat)(h:n<4294967296):(BitVec.ofInt 32 (n:Int)).toNat=n:=by
 rw[BitVec.toNat_ofInt]
 omega
theorem ior_nat {a b:Nat}(ha:a<4294967296)(hb:b<4294967296):ior .u32 (a:Int) (b:Int)=((a|||b:Nat):Int):=by
 have hw:a|||b<4294967296:=Nat.or_lt_two_pow (n:=32) ha hb
 show IntKind.u32.wrap (((BitVec.ofInt 32 (a:Int)|||BitVec.ofInt 32 (b:Int)).toNat:Nat):Int)=_
 rw[BitVec.toNat_or,CB a ha,CB b hb,C1];omega
theorem iand_nat {a b:Nat}(ha:a<4294967296)(hb:b<4294967296):iand .u32 (a:Int) (b:Int)=((a&&&b:Nat):Int):=by
 have hw:a&&&b<4294967296:=Nat.and_lt_two_pow (n:=32) _ hb
 show IntKind.u32.wrap (((BitVec.ofInt 32 (a:Int)&&&BitVec.ofInt 32 (b:Int)).toNat:Nat):Int)=_
 rw[BitVec.toNat_and,CB a ha,CB b hb,C1];omega
theorem VS.ior (a b:Int):VS (ior .u32 a b):=VS.wrap _
theorem VS.iand (a b:Int):VS (iand .u32 a b):=VS.wrap _
theorem VS.iandNot (a b:Int):VS (iandNot .u32 a b):=VS.wrap _
theorem VS.ishl (a b:Int):VS (ishl .u32 a b):=VS.wrap _
theorem Cz {a b:Int}(ha:VS a)(hb:VS b)(v:Nat):has (ior .u32 a b) v=(has a v||has b v):=by
 obtain⟨m,rfl,hm⟩:=ha.nat;obtain⟨n,rfl,hn⟩:=hb.nat
 rw[ior_nat hm hn];simp only[Bo,Nat.testBit_or]
theorem has_iand {a b:Int}(ha:VS a)(hb:VS b)(v:Nat):has (iand .u32 a b) v=(has a v&&has b v):=by
 obtain⟨m,rfl,hm⟩:=ha.nat;obtain⟨n,rfl,hn⟩:=hb.nat
 rw[iand_nat hm hn];simp only[Bo,Nat.testBit_and]
theorem Ca {a b:Int}(ha:VS a)(hb:VS b)(v:Nat):has (iandNot .u32 a b) v=(has a v&& !has b v):=by
 obtain⟨m,rfl,hm⟩:=ha.nat;obtain⟨n,rfl,hn⟩:=hb.nat
 have e:iandNot .u32 (m:Int) (n:Int)=(((BitVec.ofInt 32 (m:Int)&&& ~~~(BitVec.ofInt 32 (n:Int))).toNat:Nat):Int):=by
  have hw:=(BitVec.ofInt 32 (m:Int)&&& ~~~(BitVec.ofInt 32 (n:Int))).isLt
  show IntKind.u32.wrap (((BitVec.ofInt 32 (m:Int)&&& ~~~(BitVec.ofInt 32 (n:Int))).toNat:Nat):Int)=_
  rw[C1];omega
 rw[e,Bo,Bo,Bo]
 have h1:∀i,(BitVec.ofInt 32 (m:Int)).getLsbD i=m.testBit i:=λi=>by rw[BitVec.getLsbD,CB m hm]
 have h2:∀i,(BitVec.ofInt 32 (n:Int)).getLsbD i=n.testBit i:=λi=>by rw[BitVec.getLsbD,CB n hn]
 rw[←BitVec.getLsbD,BitVec.getLsbD_and,BitVec.getLsbD_not,h1,h2]
 by_cases hv:v<32
 ·simp[hv]
 ·have:m.testBit v=false:=Nat.testBit_lt_two_pow (Nat.lt_of_lt_of_le hm (Nat.pow_le_pow_right (n:=2) (by omega) (show 32≤v by omega)))
  simp[this]
theorem DH {a:Int}(ha:VS a){v:Nat}(hv:32≤v):has a v=false:=by
 obtain⟨m,rfl,hm⟩:=ha.nat
 rw[Bo]
 exact Nat.testBit_lt_two_pow (Nat.lt_of_lt_of_le hm (Nat.pow_le_pow_right (n:=2) (by omega) hv))
theorem VS.ext {a b:Int}(ha:VS a)(hb:VS b)(h:∀v,v<32→has a v=has b v):a=b:=by
 have:∀v,has a v=has b v:=λv=>by
  by_cases hv:v<32
  ·exact h v hv
  ·rw[DH ha (by omega),DH hb (by omega)]
 obtain⟨m,rfl,hm⟩:=ha.nat;obtain⟨n,rfl,hn⟩:=hb.nat
 congr 1
 apply Nat.eq_of_testBit_eq
 intro v
 have:=this v
 rwa [Bo,Bo] at this
theorem VS.eq_zero {a:Int}(ha:VS a):a=0↔∀v,v<32→has a v=false:=
 ⟨λh v _=>by rw[h,B4],λh=>ha.ext VS.zero (λv hv=>by rw[h v hv,B4])⟩
theorem one_eq {v:Nat}(hv:v<32):ishl .u32 1 (v:Int)=((2^v:Nat):Int):=by
 have h:(2:Nat)^v<2^32:=Nat.pow_lt_pow_right (by omega) hv
 have h':(2:Nat)^32=4294967296:=by decide
 rw[h'] at h
 show IntKind.u32.wrap (1*2^(min ((v:Int)).toNat 32))=_
 rw[C1,show min ((v:Int)).toNat 32=v by simp;omega,Int.one_mul]
 have e:((2^v:Nat):Int)=(2:Int)^v:=by simp
 rw[←e]
 generalize 2^v=p at h ⊢
 omega
theorem BY {v:Nat}(hv:v<32)(u:Nat):has (ishl .u32 1 (v:Int)) u=decide (u=v):=by
 rw[one_eq hv,Bo,Nat.testBit_two_pow]
 simp[eq_comm]
def Ao (s:Int):LI:=((List.range 32).filter (has s)).map Int.ofNat
theorem mem_elems {s:Int}{x:Int}:x∈Ao s↔∃v:Nat,v<32∧has s v=true∧x=v:=by
 unfold Ao
 rw[List.mem_map]
 constructor
 ·rintro⟨v,hv,rfl⟩
  rw[List.mem_filter,List.mem_range] at hv
  exact⟨v,hv.1,hv.2,rfl⟩
 ·rintro⟨v,h1,h2,rfl⟩
  exact⟨v,List.mem_filter.2 ⟨List.mem_range.2 h1,h2⟩,rfl⟩
theorem AQ {s:Int}(h:VS s){v:Nat}:(v:Int)∈Ao s↔has s v=true:=by
 rw[mem_elems]
 constructor
 ·rintro⟨u,_,h2,h3⟩;obtain rfl:v=u:=by omega
  exact h2
 ·intro h2
  refine⟨v,?_,h2,rfl⟩
  by_cases hv:v<32
  ·exact hv
  ·rw[DH h (by omega)] at h2;cases h2
theorem Bc (s:Int):(Ao s).length≤32:=by
 unfold Ao
 rw[List.length_map]
 exact Nat.le_trans (List.length_filter_le _ _) (by simp)
def Inc (l:LI):Prop:=l.Pairwise (·<·)
theorem Bz (s:Int):Inc (Ao s):=by
 unfold Ao Inc
 rw[List.pairwise_map]
 refine List.Pairwise.filter _ ?_
 refine List.Pairwise.imp ?_ (List.pairwise_lt_range (n:=32))
 intro a b h
 show (a:Int)<(b:Int)
 omega
theorem Inc.ext :∀{l l':LI},Inc l→Inc l'→(∀x,x∈l↔x∈l')→l=l'
 |[],[],_,_,_=>rfl
 |[],y::l',_,_,h=>by have:=(h y).2 (by simp);simp at this
 |x::l,[],_,_,h=>by have:=(h x).1 (by simp);simp at this
 |x::l,y::l',h1,h2,h=>by
  have h1':=List.pairwise_cons.1 h1;have h2':=List.pairwise_cons.1 h2
  have e:x=y:=by
   rcases List.mem_cons.1 ((h x).1 (by simp)) with e|e
   ·exact e
   ·rcases List.mem_cons.1 ((h y).2 (by simp)) with e'|e'
    ·exact e'.symm
    ·have:=h2'.1 x e;have:=h1'.1 y e';omega
  subst e
  have:l=l':=by
   refine Inc.ext h1'.2 h2'.2 (λz=> ?_)
   constructor
   ·intro hz
    rcases List.mem_cons.1 ((h z).1 (List.mem_cons_of_mem _ hz)) with e|e
    ·have:=h1'.1 z hz;omega
    ·exact e
   ·intro hz
    rcases List.mem_cons.1 ((h z).2 (List.mem_cons_of_mem _ hz)) with e|e
    ·have:=h2'.1 z hz;omega
    ·exact e
  rw[this]
theorem least_spec {s:Int}(h:VS s)(h0:s≠0):∃k:Nat,k<32∧has s k=true∧(∀v,v<k→has s v=false)∧
  iand .u32 s (IntKind.u32.wrap (0-s))=((2^k:Nat):Int)∧(∀v,has (iand .u32 s (IntKind.u32.wrap (s-1))) v=(has s v&& !decide (v=k))):=by
 obtain⟨m,rfl,hm⟩:=h.nat
 have hm0:m≠0:=by omega
 obtain⟨q,hq,hk⟩:=Lib.ctzFrom_spec 32 m (by omega) hm
 have hc:Lib.ctz 32 m=Lib.ctzFrom 32 m:=by unfold Lib.ctz;rw[if_neg hm0]
 obtain⟨hl,_⟩:=Lib.lowest_bit 32 m hm0 hm
 rw[hc] at hl
 generalize Lib.ctzFrom 32 m=k at*
 have hpos:0<2^k:=Nat.pow_pos (by omega)
 have hb:∀v,m.testBit v=(decide (v≥k)&&(2*q+1).testBit (v-k)):=λv=>by rw[hq,Nat.mul_comm,Nat.testBit_mul_two_pow,Bool.and_comm]
 refine⟨k,hk,?_,λv hv=> ?_,?_,λv=> ?_⟩
 ·rw[Bo,hb];simp
 ·rw[Bo,hb];simp;intro hc;omega
 ·have e:IntKind.u32.wrap (0-(m:Int))=((4294967296-m:Nat):Int):=by rw[C1];omega
  rw[e,iand_nat hm (by omega)]
  rw[←hl]
 ·have e:IntKind.u32.wrap ((m:Int)-1)=((m-1:Nat):Int):=by rw[C1];omega
  rw[e,iand_nat hm (by omega),Bo,Bo,Nat.testBit_and]
  have hm1:m-1=2^k*(2*q)+(2^k-1):=by rw[hq,Nat.mul_add];omega
  have hb1:(m-1).testBit v=if v<k then true else(2*q).testBit (v-k):=by
   rw[hm1,Nat.testBit_two_pow_mul_add _ (by omega)]
   split
   ·rename_i hv;rw[Nat.testBit_two_pow_sub_one];simp[hv]
   ·rfl
  rw[hb1,hb]
  by_cases hv:v<k
  ·simp[hv];intro hc;omega
  ·rw[if_neg hv]
   by_cases hvk:v=k
   ·subst hvk;simp
   ·obtain⟨t,ht⟩:∃t,v-k=t+1:=⟨v-k-1,by omega⟩
    rw[ht,Nat.testBit_succ,Nat.testBit_succ]
    have e1:(2*q+1)/2=q:=by omega
    have e2:2*q/2=q:=by omega
    rw[e1,e2]
    simp[hvk]
theorem elems_least {s t:Int}{k:Nat}(hk:k<32)(h1:has s k=true)(h2:∀v,v<k→has s v=false)(h3:∀v,has t v=(has s v&& !decide (v=k))):
  Ao s=(k:Int)::Ao t:=by
 refine Inc.ext (Bz s) ?_ (λx=> ?_)
 ·refine List.pairwise_cons.2 ⟨λx hx=> ?_,Bz t⟩
  obtain⟨v,hv,h4,rfl⟩:=mem_elems.1 hx
  rw[h3] at h4
  simp at h4
  by_cases hc:v<k
  ·rw[h2 v hc] at h4;simp at h4
  ·omega
 ·rw[List.mem_cons,mem_elems,mem_elems]
  constructor
  ·rintro⟨v,hv,h4,rfl⟩
   by_cases e:v=k
   ·left;omega
   ·right;exact⟨v,hv,by rw[h3,h4];simp[e],rfl⟩
  ·rintro(rfl|⟨v,hv,h4,rfl⟩)
   ·exact⟨k,hk,h1,rfl⟩
   ·rw[h3] at h4;simp at h4
    exact⟨v,hv,h4.1,rfl⟩
theorem elems_zero :Ao 0=[]:=by
 unfold Ao
 rw[List.filter_eq_nil_iff.2 (λv _=>by simp[B4])];rfl
theorem tz_table :∀k:Nat,k<32→idx tab32 (BR .u32 (IntKind.u32.wrap (((2^k:Nat):Int)*125613361)) 27)=some (k:Int):=by decide+kernel
def Out (l:LI)(a0 b0 a b:Int):Prop:=∀i j,a0≤i→i<j→j<b0→¬(a≤i∧j<b)→at' l i≤at' l j
theorem Out.keep {a0 a b b0:Int}{l l':LI}(h:Rg a b l l')(h0:0≤a0)(ha:a0≤a)(hb:b≤b0)(c:Out l a0 b0 a b):Out l' a0 b0 a b:=by
 intro i j h1 h2 h3 h4
 by_cases hi:a≤i∧i<b
 ·rw[h.out j (by omega) (by omega)]
  exact h.all (λx=>x≤at' l j) (λk k1 k2=>c k j (by omega) (by omega) h3 (by omega)) i hi.1 hi.2
 ·rw[h.out i (by omega) (by omega)]
  by_cases hj:a≤j∧j<b
  ·exact h.all (λx=>at' l i≤x) (λk k1 k2=>c i k (by omega) (by omega) (by omega) (by omega)) j hj.1 hj.2
  ·rw[h.out j (by omega) (by omega)];exact c i j h1 h2 h3 h4
end Go.Sx



namespace Go.Sx
def Sh {α:Type}(xs:List α):Prop:=xs.length≤4294967296
theorem l1In_eq (a b c:Int):D.c a b c=some (decide (b≤a)&&decide (a≤c)):=rfl
theorem inRange_eq (a b c:Int):D.t0 a b c=some (decide (b≤a)&&decide (a≤c)):=rfl
theorem any_beq (xs:LI)(n:Int):xs.any (λx=>x==n)=decide (n∈xs):=by
 rw[Bool.eq_iff_iff,List.any_eq_true];simp
theorem C4 (xs:LI)(n:Int)(h:Sh xs):D.d xs n=some (decide (n∈xs)):=by
 unfold Sh at h
 unfold D.d
 refine(loop_anyb xs.length (λi=>xs.getD i 0==n) true (λi hi=> ?_) ?_ rfl rfl).trans ?_
 ·simp only[dlt hi,cond_true,Ay hi,bs,wi' hi (by omega),AU hi]
  cases xs[i]==n<;>rfl
 ·simp only[A9,cond_false]
 ·rw[range_any_list xs (λx=>x==n) _ (λi hi=>by rw[AU hi]),any_beq]
theorem DR (xs:LI)(n:Int)(h:Sh xs):D.K xs n=some (decide (n∈xs)):=by
 unfold Sh at h
 unfold D.K D.z0
 have e:Ap (σ:=Int) (ρ:=(Unit) ⊕ (Int)) (fun(x_26:Int)=>cond (decide (x_26<(xs.length:Int))) ((idx xs x_26).bind λe_39=>cond (n==e_39) (some (.inr (.inr x_26))) (some (.inl (IntKind.i64.wrap (x_26+1))))) (some (.inr (.inl ())))) 0=
   some (((List.range xs.length).findSome? (λi=>if xs.getD i 0==n then some (Sum.inr (i:Int)) else none)).getD (.inl ())):=by
  refine C9 xs.length _ _ (λi hi=> ?_) ?_
  ·simp only[dlt hi,cond_true,Ay hi,bs,wi' hi (by omega),AU hi]
   rw[show (n==xs[i])=(xs[i]==n) from Bool.beq_comm ..]
   cases xs[i]==n<;>rfl
  ·simp only[A9,cond_false]
 rw[e,bs]
 cases hf:(List.range xs.length).findSome? (λi=>if xs.getD i 0==n then some (Sum.inr (i:Int):Unit ⊕ Int) else none) with
 |none=>
  have:n∉xs:=λhm=>by
   obtain⟨i,hi,e⟩:=List.getElem_of_mem hm
   have:=(List.findSome?_eq_none_iff.1 hf) i (List.mem_range.2 hi)
   rw[AU hi,e] at this
   simp at this
  simp[this]
 |some r=>
  obtain⟨i,hi,hr⟩:=List.exists_of_findSome?_eq_some hf
  have hi':=List.mem_range.1 hi
  rw[AU hi'] at hr
  split at hr
  ·rename_i hc
   cases hr
   have:n∈xs:=by rw[←(beq_iff_eq.1 hc)];exact List.getElem_mem _
   simp[this]
  ·cases hr
def SetOf (xs:LI)(n:Int):Prop:=Inc xs∧∀x∈xs,0≤x∧x<n
theorem SetOf.len :∀{xs:LI} {n a:Int},Inc xs→(∀x∈xs,a≤x∧x<n)→xs=[]∨(xs.length:Int)≤n-a
 |[],_,_,_,_=> .inl rfl
 |x::xs,n,a,h,hr=>by
  right
  have h':=List.pairwise_cons.1 h
  have hx:=hr x (by simp)
  rcases SetOf.len (a:=x+1) (n:=n) h'.2 (λy hy=>⟨by have:=h'.1 y hy;omega,(hr y (by simp[hy])).2⟩) with e|e
  ·subst e;simp;omega
  ·simp;omega
theorem SetOf.length_le {xs:LI}{n:Int}(h:SetOf xs n)(hn:0≤n):(xs.length:Int)≤n:=by
 rcases SetOf.len h.1 h.2 with e|e
 ·subst e;simpa using hn
 ·omega
theorem inc_iff (xs:LI):Inc xs↔∀i (hi:i+1<xs.length),xs[i]<xs[i+1]:=by
 unfold Inc
 constructor
 ·intro h i hi
  exact List.pairwise_iff_getElem.1 h i (i+1) (by omega) hi (by omega)
 ·intro h
  rw[List.pairwise_iff_getElem]
  intro i j hi hj hij
  have key:∀k,∀hk:i+k+1<xs.length,xs[i]<xs[i+k+1]:=by
   intro k
   induction k with
   |zero=>intro hk;exact h i hk
   |succ k ih=>intro hk;have:=ih (by omega);have:=h (i+k+1) hk;exact Int.lt_trans (ih (by omega)) this
  obtain⟨k,rfl⟩:∃k,j=i+k+1:=⟨j-i-1,by omega⟩
  exact key k hj
def setB (xs:LI)(n:Int):Bool:=(List.range xs.length).all λi=>(decide (0≤xs.getD i 0)&&decide (xs.getD i 0≤n-1))&& !(decide (0<i)&&decide (xs.getD i 0≤xs.getD (i-1) 0))
theorem Dk (xs:LI)(n:Int):setB xs n=true↔SetOf xs n:=by
 unfold setB SetOf
 rw[CF,inc_iff]
 constructor
 ·intro h
  refine⟨λi hi=> ?_,λx hx=> ?_⟩
  ·have:=h (i+1) hi
   simp[hi,show i<xs.length by omega] at this
   omega
  ·obtain⟨i,hi,rfl⟩:=List.getElem_of_mem hx
   have:=h i hi
   simp[hi] at this
   omega
 ·rintro⟨h1,h2⟩ i hi
  have h3:=h2 _ (List.getElem_mem hi)
  simp[hi]
  refine⟨by omega,?_⟩
  rcases Nat.eq_zero_or_pos i with h0|h0
  ·exact .inl h0
  ·right
   have:=h1 (i-1) (by omega)
   have e:i-1+1=i:=by omega
   simp only[e] at this
   have e2:xs[i-1]?.getD 0=xs[i-1]:=by rw[List.getElem?_eq_getElem (by omega)];rfl
   rw[e2];exact this
theorem increasing_eq (xs:LI)(n:Int)(h:Sh xs)(h0:0≤n)(hn:n≤4294967296):D.k0 xs n=some (setB xs n):=by
 unfold Sh at h
 unfold D.k0
 refine Cj xs.length _ false (λi hi=> ?_) ?_ rfl rfl
 ·simp only[dlt hi,cond_true,Ay hi,bs,wi' hi (by omega),AU hi,inRange_eq]
  rw[w64 (x:=n-1) (by omega) (by omega)]
  cases (decide (0≤xs[i])&&decide (xs[i]≤n-1))
  ·simp
  ·by_cases h0:0<i
   ·have e1:IntKind.i64.wrap ((i:Int)-1)=((i-1:Nat):Int):=by rw[w64 (by omega) (by omega)];omega
    have hd:decide ((0:Int)<(i:Int))=true:=by simp;omega
    simp only[Bool.not_true,cond_false,hd,cond_true,e1,Ay (show i-1<xs.length by omega),bs,AU (show i-1<xs.length by omega),h0,decide_true,Bool.true_and]
    cases decide (xs[i]≤xs[i-1])<;>rfl
   ·have hd:decide ((0:Int)<(i:Int))=false:=by simp;omega
    simp only[Bool.not_true,cond_false,hd,bs,h0,decide_false,Bool.false_and,Bool.not_false,Bool.and_true,if_true]
 ·simp only[A9,cond_false]
theorem l1Set_eq (xs:LI)(n:Int)(h:Sh xs)(h0:0≤n)(hn:n≤4294967296):D.a0 xs n=some (setB xs n):=by
 have hh:=h
 unfold Sh at h
 unfold D.a0
 by_cases hl:n<xs.length
 ·have:setB xs n=false:=by
   cases hb:setB xs n
   ·rfl
   ·have:=((Dk xs n).1 hb).length_le h0;omega
  simp[hl,this]
 ·simp only[hl,decide_false,cond_false]
  refine Cj xs.length _ false (λi hi=> ?_) ?_ rfl rfl
  ·simp only[dlt hi,cond_true,Ay hi,bs,wi' hi (by omega),AU hi,l1In_eq]
   rw[w64 (x:=n-1) (by omega) (by omega)]
   cases (decide (0≤xs[i])&&decide (xs[i]≤n-1))
   ·simp
   ·by_cases h0:0<i
    ·have e1:IntKind.i64.wrap ((i:Int)-1)=((i-1:Nat):Int):=by rw[w64 (by omega) (by omega)];omega
     have hd:decide ((0:Int)<(i:Int))=true:=by simp;omega
     simp only[Bool.not_true,cond_false,hd,cond_true,e1,Ay (show i-1<xs.length by omega),bs,AU (show i-1<xs.length by omega),h0,decide_true,Bool.true_and]
     cases decide (xs[i]≤xs[i-1])<;>rfl
    ·have hd:decide ((0:Int)<(i:Int))=false:=by simp;omega
     simp only[Bool.not_true,cond_false,hd,bs,h0,decide_false,Bool.false_and,Bool.not_false,Bool.and_true,if_true]
  ·simp only[A9,cond_false]
def row (g:LL)(v:Nat):LI:=g.getD v []
theorem row_eq {g:LL}{v:Nat}(h:v<g.length):row g v=g[v]:=AU h _
def adj (g:LL)(u v:Nat):Prop:=(v:Int)∈row g u
structure GOk (g:LL):Prop where
 n1:1≤g.length
 n16:g.length≤16
 rows:∀v,v<g.length→SetOf (row g v) g.length
 irr:∀v,v<g.length→¬adj g v v
 sym:∀u v,u<g.length→adj g u v→adj g v u
theorem GOk.mem {g:LL}(h:GOk g){u:Nat}(hu:u<g.length){x:Int}(hx:x∈row g u):∃v:Nat,x=v∧v<g.length∧adj g u v:=by
 have:=(h.rows u hu).2 x hx
 refine⟨x.toNat,by omega,by omega,?_⟩
 unfold adj
 rw[show ((x.toNat:Nat):Int)=x by omega];exact hx
theorem GOk.row_len {g:LL}(h:GOk g){u:Nat}(hu:u<g.length):(row g u).length≤16:=by
 have:=(h.rows u hu).length_le (by omega)
 have:=h.n16
 omega
theorem GOk.lt {g:LL}(h:GOk g){u v:Nat}(hu:u<g.length)(ha:adj g u v):v<g.length:=by
 obtain⟨w,h1,h2,_⟩:=h.mem hu ha
 omega
def Sh2 (g:LL):Prop:=Sh g∧∀r∈g,Sh r
theorem Sh2.row {g:LL}(h:Sh2 g){v:Nat}(hv:v<g.length):Sh (row g v):=by
 rw[row_eq hv];exact h.2 _ (List.getElem_mem hv)
theorem BX {g:LL}{v:Nat}(h:v<g.length):idx g (v:Int)=some (row g v):=by rw[row_eq h,Ay h]
def gB1 (g:LL):Bool:=(List.range g.length).all λv=>setB (row g v) g.length&& !decide ((v:Int)∈row g v)
def gB2 (g:LL):Bool:=(List.range g.length).all λv=>(row g v).all λx=>decide ((v:Int)∈row g x.toNat)
def gB (g:LL):Bool:=decide (1≤g.length)&&decide (g.length≤16)&&gB1 g&&gB2 g
theorem gB_iff (g:LL):gB g=true↔GOk g:=by
 unfold gB gB1 gB2
 simp only[Bool.and_eq_true,decide_eq_true_eq,Dk,Bool.not_eq_true',decide_eq_false_iff_not,List.all_eq_true,List.mem_range]
 constructor
 ·rintro⟨⟨⟨h1,h2⟩,h3⟩,h4⟩
  refine⟨h1,h2,λv hv=>(h3 v hv).1,λv hv=>(h3 v hv).2,λu v hu ha=> ?_⟩
  have:=h4 u hu v ha
  unfold adj
  simpa using this
 ·intro h
  refine⟨⟨⟨h.n1,h.n16⟩,λv hv=>⟨h.rows v hv,h.irr v hv⟩⟩,λv hv x hx=> ?_⟩
  obtain⟨u,rfl,hu,ha⟩:=h.mem hv hx
  have:=h.sym v u hv ha
  simpa [adj] using this
theorem C5 (g:LL)(h:Sh2 g):D.m0 g=some (gB g):=by
 have hl:g.length≤4294967296:=h.1
 unfold D.m0 D.s0
 simp only[bs,l1In_eq]
 by_cases hn:1≤g.length∧g.length≤16
 ·have e:(decide ((1:Int)≤(g.length:Int))&&decide ((g.length:Int)≤16))=true:=by simp;omega
  simp only[e,Bool.not_true,cond_false]
  refine(DF g.length (λv=>setB (row g v) g.length&& !decide ((v:Int)∈row g v)) (.inl ()) (.inr false) (λv hv=> ?_) ?_).trans ?_
  rotate_left
  ·simp only[A9,cond_false]
  ·show cond (gB1 g) _ _=_
   have e4:gB g=(gB1 g&&gB2 g):=by unfold gB;simp[hn.1,hn.2]
   rw[e4]
   cases hc:gB1 g with
   |false=>rfl
   |true=>
    rw[cond_true,Bool.true_and]
    refine Cj g.length _ false (λv hv=> ?_) ?_ rfl rfl
    ·have hset:SetOf (row g v) g.length:=by
      have:=(CF _ _).1 hc v hv
      simp only[Bool.and_eq_true] at this
      exact(Dk _ _).1 this.1
     simp only[dlt hv,cond_true]
     refine(DF (row g v).length (λi=>decide ((v:Int)∈row g ((row g v).getD i 0).toNat)) (.inl ()) (.inr false) (λi hi=> ?_) ?_).trans ?_
     ·have hx:=hset.2 _ (List.getElem_mem hi)
      have e5:idx g (row g v)[i]=some (row g ((row g v)[i]).toNat):=by
       have:=BX (g:=g) (v:=((row g v)[i]).toNat) (by omega)
       rwa [show ((((row g v)[i]).toNat:Nat):Int)=(row g v)[i] by omega] at this
      have hs:=h.row (v:=((row g v)[i]).toNat) (by omega)
      simp only[BX hv,bs,dlt hi,cond_true,Ay hi,e5,C4 _ _ hs,wi (show i<4611686018427387904 by have:=h.row hv;unfold Sh at this;omega),AU hi]
      cases decide ((v:Int)∈row g ((row g v)[i]).toNat)<;>rfl
     ·simp only[BX hv,bs,A9,cond_false]
     ·rw[De (row g v) (λx=>decide ((v:Int)∈row g x.toNat)) _ (λi hi=>by rw[AU hi]),wi' hv (by omega)]
      cases (row g v).all λx=>decide ((v:Int)∈row g x.toNat)<;>rfl
    ·simp only[A9,cond_false]
  ·simp only[dlt hv,cond_true,BX hv,bs,l1Set_eq _ _ (h.row hv) (show (0:Int)≤(g.length:Int) by omega) (by omega),C4 _ _ (h.row hv),wi' hv (by omega)]
   cases setB (row g v) g.length
   ·rfl
   ·cases decide ((v:Int)∈row g v)<;>rfl
 ·have e:(decide ((1:Int)≤(g.length:Int))&&decide ((g.length:Int)≤16))=false:=by
   rw[Bool.eq_false_iff];simp;omega
  simp only[e,Bool.not_false,cond_true]
  unfold gB
  congr 1
  symm
  rw[Bool.eq_false_iff]
  simp
  omega
theorem C6 (g:LL)(h:Sh2 g):D.U g=some (gB g):=by
 have hl:g.length≤4294967296:=h.1
 unfold D.U
 by_cases hn:1≤g.length∧g.length≤16
 ·have e:(decide ((g.length:Int)<(1:Int))||decide ((16:Int)<(g.length:Int)))=false:=by simp;omega
  simp only[e,cond_false]
  refine(DF g.length (λv=>setB (row g v) g.length&& !decide ((v:Int)∈row g v)) (.inl ()) (.inr false) (λv hv=> ?_) ?_).trans ?_
  rotate_left
  ·simp only[A9,cond_false]
  ·show cond (gB1 g) _ _=_
   have e4:gB g=(gB1 g&&gB2 g):=by unfold gB;simp[hn.1,hn.2]
   rw[e4]
   cases hc:gB1 g with
   |false=>rfl
   |true=>
    rw[cond_true,Bool.true_and]
    refine Cj g.length _ false (λv hv=> ?_) ?_ rfl rfl
    ·have hset:SetOf (row g v) g.length:=by
      have:=(CF _ _).1 hc v hv
      simp only[Bool.and_eq_true] at this
      exact(Dk _ _).1 this.1
     simp only[dlt hv,cond_true,BX hv,bs]
     refine(DF (row g v).length (λi=>decide ((v:Int)∈row g ((row g v).getD i 0).toNat)) (.inl ()) (.inr false) (λi hi=> ?_) ?_).trans ?_
     ·have hx:=hset.2 _ (List.getElem_mem hi)
      have e5:idx g (row g v)[i]=some (row g ((row g v)[i]).toNat):=by
       have:=BX (g:=g) (v:=((row g v)[i]).toNat) (by omega)
       rwa [show ((((row g v)[i]).toNat:Nat):Int)=(row g v)[i] by omega] at this
      have hs:=h.row (v:=((row g v)[i]).toNat) (by omega)
      simp only[bs,dlt hi,cond_true,Ay hi,e5,DR _ _ hs,wi (show i<4611686018427387904 by have:=h.row hv;unfold Sh at this;omega),AU hi]
      cases decide ((v:Int)∈row g ((row g v)[i]).toNat)<;>rfl
     ·simp only[A9,cond_false]
     ·rw[De (row g v) (λx=>decide ((v:Int)∈row g x.toNat)) _ (λi hi=>by rw[AU hi]),wi' hv (by omega)]
      cases (row g v).all λx=>decide ((v:Int)∈row g x.toNat)<;>rfl
    ·simp only[A9,cond_false]
  ·simp only[dlt hv,cond_true,BX hv,bs,increasing_eq _ _ (h.row hv) (show (0:Int)≤(g.length:Int) by omega) (by omega),DR _ _ (h.row hv),wi' hv (by omega)]
   cases setB (row g v) g.length
   ·rfl
   ·cases decide ((v:Int)∈row g v)<;>rfl
 ·have e:(decide ((g.length:Int)<(1:Int))||decide ((16:Int)<(g.length:Int)))=true:=by
   simp;omega
  simp only[e,cond_true]
  unfold gB
  congr 1
  symm
  rw[Bool.eq_false_iff]
  simp
  omega
structure OOk (g:LL)(o:LI):Prop where
 len:o.length=g.length
 rng:∀x∈o,0≤x∧x<g.length
 nd:o.Nodup
theorem mem_take_iff {α:Type}{l:List α}{i:Nat}{x:α}:x∈l.take i↔∃j,∃h:j<l.length,j<i∧l[j]=x:=by
 rw[List.mem_take_iff_getElem]
 constructor
 ·rintro⟨j,h,e⟩;exact⟨j,by omega,by omega,e⟩
 ·rintro⟨j,h,h2,e⟩;exact⟨j,by omega,e⟩
theorem nodup_iff {l:LI}:l.Nodup↔∀i (hi:i<l.length),l[i]∉l.take i:=by
 constructor
 ·intro h i hi hm
  obtain⟨j,hj,hji,e⟩:=mem_take_iff.1 hm
  have:=(List.pairwise_iff_getElem.1 h) j i hj hi hji
  exact this e
 ·intro h
  refine List.pairwise_iff_getElem.2 (λi j hi hj hij e=>h j hj (mem_take_iff.2 ⟨i,hi,hij,e⟩))
theorem CM (v:Nat):D.e (v:Int)=some (ishl .u32 1 (v:Int)):=by
 unfold D.e
 have:decide ((v:Int)<0)=false:=by simp
 rw[this];rfl
theorem impl_one_eq' {x:Int}(h:0≤x):D.e x=some (ishl .u32 1 x):=by
 have:=CM x.toNat
 rwa [show ((x.toNat:Nat):Int)=x by omega] at this
def mk (xs:LI):Int:=xs.foldl (λs v=>ior .u32 s (ishl .u32 1 v)) 0
theorem maskOf_eq (xs:LI)(h:Sh xs)(h0:∀x∈xs,0≤x):D.f0 xs=some (mk xs):=by
 unfold Sh at h
 unfold D.f0
 refine(loop_listb xs (λs i=>(s,i)) (λs v=>ior .u32 s (ishl .u32 1 v)) (λs=>s) (λ_=>True) 0 trivial (λs i hi _=>⟨?_,trivial⟩) (λs _=> ?_)).trans rfl
 ·simp only[dlt hi,cond_true,Ay hi,bs,wi' hi (by omega),impl_one_eq' (h0 _ (List.getElem_mem hi))]
 ·simp only[A9,cond_false]
theorem DC :∀(xs:LI) (s:Int),VS s→VS (xs.foldl (λs v=>ior .u32 s (ishl .u32 1 v)) s)
 |[],s,h=>h
 |x::xs,s,_=>DC xs _ (VS.ior _ _)
theorem VS.mk (xs:LI):VS (mk xs):=DC xs 0 VS.zero
theorem Dt (u:Nat):∀(xs:LI) (s:Int),VS s→(∀x∈xs,0≤x∧x<32)→has (xs.foldl (λs v=>ior .u32 s (ishl .u32 1 v)) s) u=(has s u||decide ((u:Int)∈xs))
 |[],s,_,_=>by simp
 |x::xs,s,hs,h=>by
  have hx:=h x (by simp)
  rw[List.foldl_cons,Dt u xs _ (VS.ior _ _) (λy hy=>h y (by simp[hy])),Cz hs (VS.ishl _ _)]
  obtain⟨k,rfl⟩:∃k:Nat,x=k:=⟨x.toNat,by omega⟩
  rw[BY (by omega)]
  by_cases hu:u=k
  ·subst hu;simp
  ·have:¬(u:Int)=(k:Int):=by omega
   simp[hu,this]
theorem has_mk {xs:LI}(h:∀x∈xs,0≤x∧x<32)(u:Nat):has (mk xs) u=decide ((u:Int)∈xs):=by
 unfold mk;rw[Dt u xs 0 VS.zero h,B4,Bool.false_or]
theorem GOk.mem0 {g:LL}(hg:GOk g){r:LI}(hr:r∈g):r.length≤16∧∀x∈r,0≤x∧x<g.length:=by
 obtain⟨v,hv,rfl⟩:=List.getElem_of_mem hr
 rw[←row_eq hv]
 exact⟨hg.row_len hv,(hg.rows v hv).2⟩
theorem netsOf_eq (g:LL)(hg:GOk g):D.b0 g=some (g.map mk):=by
 have h16:=hg.n16
 unfold D.b0
 refine(loop_map g (λs i=>(s,i)) mk (by omega) (λs i hi _=> ?_) (λs=> ?_)).trans rfl
 ·obtain⟨h1,h2⟩:=hg.mem0 (List.getElem_mem hi)
  simp only[dlt hi,cond_true,Ay hi,bs,wi' hi (by omega),maskOf_eq g[i] (by unfold Sh;omega) (λx hx=>(h2 x hx).1)]
 ·simp only[A9,cond_false]
theorem wide_eq (xs:LI)(h:Sh xs):D.S xs=some xs:=by
 unfold Sh at h
 unfold D.S
 rw[makeD_zero (by omega) (by omega),bs]
 refine(loop_map xs (λs i=>(s,i)) (λx=>x) h (λs i hi _=> ?_) (λs=> ?_)).trans (by simp)
 ·simp only[dlt hi,cond_true,Ay hi,bs,wi' hi (by omega)]
 ·simp only[A9,cond_false]
theorem least_eq {s:Int}(h:VS s)(h0:s≠0):∃k:Nat,k<32∧D.q s=some (k:Int)∧has s k=true∧(∀v,v<k→has s v=false)∧
  (∀v,has (iand .u32 s (IntKind.u32.wrap (s-1))) v=(has s v&& !decide (v=k))):=by
 obtain⟨k,h1,h2,h3,h4,h5⟩:=least_spec h h0
 refine⟨k,h1,?_,h2,h3,h5⟩
 unfold D.q D.A0
 have e:(s==0)=false:=by simpa using h0
 simp only[e,cond_false,h4,tz_table k h1,bs]
 rw[w64 (by omega) (by omega)]
theorem Dg (s:Int)(h:VS s):D.g s=some (Ao s):=by
 unfold D.g
 have key:∀(n:Nat) (x:Int) (l:LI),VS x→(Ao x).length=n→l.length+n≤32→
   Ap (σ:=Int×LI) (ρ:=(LI)) (fun(s_52:Int×LI)=>match s_52 with|(x_55,l_56)=>cond (x_55 !=0) ((D.q x_55).bind λy_88=>(AG l_56 ([y_88]:LI)).bind λl_99=>some (.inl ((iand .u32 x_55 (IntKind.u32.wrap (x_55-1))),l_99))) (some (.inr l_56))) (x,l)=some (l++Ao x):=by
  intro n
  induction n with
  |zero=>
   intro x l hx hn _
   have e:Ao x=[]:=List.eq_nil_of_length_eq_zero hn
   have e0:x=0:=hx.eq_zero.2 λv hv=>by
    cases hc:has x v
    ·rfl
    ·have:=mem_elems.2 ⟨v,hv,hc,rfl⟩;rw[e] at this;simp at this
   rw[e]
   refine AX ?_
   have:(x !=0)=false:=by simp[e0]
   simp only[this,cond_false,List.append_nil]
  |succ n ih=>
   intro x l hx hn hl
   have h0:x≠0:=by rintro rfl;rw[elems_zero] at hn;simp at hn
   obtain⟨k,h1,h2,h3,h4,h5⟩:=least_eq hx h0
   have e:=elems_least h1 h3 h4 h5
   have en:(Ao (iand .u32 x (IntKind.u32.wrap (x-1)))).length=n:=by rw[e] at hn;simpa using hn
   have hstep:=ih (iand .u32 x (IntKind.u32.wrap (x-1))) (l++[(k:Int)]) (VS.iand _ _) en (by simp;omega)
   have e1:(x !=0)=true:=by simpa using h0
   rw[Bf (s':=(iand .u32 x (IntKind.u32.wrap (x-1)),l++[(k:Int)]))]
   ·rw[hstep,e];simp
   ·simp only[e1,cond_true,h2,bs,Bg (xs:=l) (ys:=[(k:Int)]) (by simp;omega)]
 have:=key (Ao s).length s [] h rfl (by simpa using Bc s)
 rw[this];simp
theorem elems_sh (s:Int):Sh (Ao s):=by have:=Bc s;unfold Sh;omega
theorem numbers_eq (s:Int)(h:VS s):D.g0 s=some (Ao s):=by
 unfold D.g0
 rw[Dg s h,bs,wide_eq _ (elems_sh s)];rfl
theorem results_eq (xs:LI)(h:Sh xs)(hv:∀s∈xs,VS s):D.X xs=some (xs.map Ao):=by
 unfold Sh at h
 unfold D.X
 refine(loop_map xs (λs i=>(s,i)) Ao h (λs i hi _=> ?_) (λs=> ?_)).trans rfl
 ·simp only[dlt hi,cond_true,Ay hi,bs,wi' hi (by omega),numbers_eq _ (hv _ (List.getElem_mem hi))]
 ·simp only[A9,cond_false]
theorem l1Copy_eq (xs:LI)(h:Sh xs):D.P xs=some xs:=by
 unfold Sh at h
 unfold D.P
 rw[Bg (by simpa using h)];rfl
def into (xs:LI)(n:Int):LI:=if n∈xs then xs else xs.takeWhile (λx=>decide (x<n))++n::xs.dropWhile (λx=>decide (x<n))
theorem mem_into {xs:LI}{n x:Int}:x∈into xs n↔x=n∨x∈xs:=by
 unfold into
 split
 ·constructor
  ·intro h;exact .inr h
  ·rintro(rfl|h)
   ·assumption
   ·exact h
 ·have e:x∈xs↔x∈xs.takeWhile (λx=>decide (x<n))++xs.dropWhile (λx=>decide (x<n)):=by rw[List.takeWhile_append_dropWhile]
  rw[e];simp only[List.mem_append,List.mem_cons]
  constructor
  ·rintro(h|h|h)<;>simp[h]
  ·rintro(h|h|h)<;>simp[h]
theorem Ds {xs:LI}{n:Int}(h:Inc xs):∀y∈xs.dropWhile (λx=>decide (x<n)),n≤y:=by
 induction xs with
 |nil=>simp
 |cons x xs ih=>
  have h':=List.pairwise_cons.1 h
  intro y hy
  rw[List.dropWhile_cons] at hy
  split at hy
  ·exact ih h'.2 y hy
  ·rename_i hc
   simp at hc
   rcases List.mem_cons.1 hy with rfl|hy
   ·exact hc
   ·have:=h'.1 y hy;omega
theorem inc_takeWhile {xs:LI}{n:Int}:∀y∈xs.takeWhile (λx=>decide (x<n)),y<n:=by
 intro y hy
 induction xs with
 |nil=>simp at hy
 |cons x xs ih=>
  rw[List.takeWhile_cons] at hy
  split at hy
  ·rename_i hc
   rcases List.mem_cons.1 hy with rfl|hy
   ·simpa using hc
   ·exact ih hy
  ·simp at hy
theorem Inc.into {xs:LI}(h:Inc xs)(n:Int):Inc (into xs n):=by
 unfold Sx.into
 split
 ·exact h
 ·rename_i hn
  unfold Inc
  rw[List.pairwise_append]
  refine⟨List.Pairwise.sublist (List.takeWhile_sublist _) h,List.pairwise_cons.2 ⟨λy hy=> ?_,List.Pairwise.sublist (List.dropWhile_sublist _) h⟩,λa ha b hb=> ?_⟩
  ·have h1:=Ds h y hy
   have h2:y≠n:=λe=>hn (e▸(List.dropWhile_sublist _).mem hy)
   omega
  ·have h1:=inc_takeWhile a ha
   rcases List.mem_cons.1 hb with rfl|hb
   ·exact h1
   ·have:=Ds h b hb;omega
theorem into_len (xs:LI)(n:Int):(into xs n).length≤xs.length+1:=by
 unfold into
 split
 ·omega
 ·have:(xs.takeWhile (λx=>decide (x<n))++xs.dropWhile (λx=>decide (x<n))).length=xs.length:=by rw[List.takeWhile_append_dropWhile]
  simp only[List.length_append,List.length_cons] at this ⊢;omega
theorem Cp {α:Type}(p:α→Bool):∀(xs:List α),xs.takeWhile p=xs.take (xs.takeWhile p).length∧xs.dropWhile p=xs.drop (xs.takeWhile p).length
 |[]=>by simp
 |x::xs=>by
  rw[List.takeWhile_cons,List.dropWhile_cons]
  cases p x
  ·simp
  ·have:=Cp p xs
   simp only[if_true,List.length_cons,List.take_succ_cons,List.drop_succ_cons,←this.1,←this.2,and_self]
theorem Cv {α:Type}(p:α→Bool):∀(xs:List α) (i:Nat) (h:i<(xs.takeWhile p).length) (h':i<xs.length),p xs[i]=true
 |x::xs,i,h,h'=>by
  rw[List.takeWhile_cons] at h
  cases hp:p x
  ·rw[hp] at h;simp at h
  ·rw[hp] at h
   cases i with
   |zero=>simpa using hp
   |succ i=>simp only[if_true,List.length_cons] at h;simpa using Cv p xs i (by omega) (by simpa using h')
theorem CJ {α:Type}(p:α→Bool):∀(xs:List α) (h:(xs.takeWhile p).length<xs.length),p (xs[(xs.takeWhile p).length])=false
 |x::xs,h=>by
  cases hp:p x
  ·simp[List.takeWhile_cons,hp]
  ·have h2:(xs.takeWhile p).length<xs.length:=by simpa [List.takeWhile_cons,hp] using h
   simpa [List.takeWhile_cons,hp] using CJ p xs h2
theorem DU {α:Type}(p:α→Bool)(xs:List α):(xs.takeWhile p).length≤xs.length:=(List.takeWhile_sublist _).length_le
theorem DD (xs:LI)(n:Int)(h:Inc xs)(hl:xs.length≤4294967295):D.s xs n=some (into xs n):=by
 unfold D.s
 generalize hk:(xs.takeWhile (λx=>decide (x<n))).length=k
 have hkl:k≤xs.length:=by rw[←hk];exact DU _ _
 have htk:xs.takeWhile (λx=>decide (x<n))=xs.take k:=by rw[←hk];exact(Cp _ xs).1
 have hdk:xs.dropWhile (λx=>decide (x<n))=xs.drop k:=by rw[←hk];exact(Cp _ xs).2
 refine(CT (λi=>((i:Nat):Int)) k (k:Int) rfl (λi hi=> ?_) ?_).trans ?_
 ·have hi':i<xs.length:=by omega
  have hp:decide (xs[i]<n)=true:=Cv (λx=>decide (x<n)) xs i (by omega) hi'
  simp only[dlt hi',cond_true,Ay hi',bs,hp,wq i]
 ·by_cases hlt:k<xs.length
  ·have hp:decide (xs[k]<n)=false:=by
    have:=CJ (λx=>decide (x<n)) xs (by omega)
    simp only[hk] at this;exact this
   simp only[dlt hlt,cond_true,Ay hlt,bs,hp,cond_false]
  ·obtain rfl:k=xs.length:=by omega
   simp only[A9,cond_false,bs]
 ·have hS1:Sh (xs.take k):=by unfold Sh;rw[List.length_take];omega
  have hrest:((Bj xs 0 (k:Int)).bind λl_135=>(D.P l_135).bind λy_139=>(AG y_139 ([n]:LI)).bind λl_154=>(Bj xs (k:Int) (xs.length:Int)).bind λl_160=>(AG l_154 l_160).bind λl_164=>some l_164)=some (xs.take k++n::xs.drop k):=by
   simp only[sliceD_pre hkl,Da hkl,bs,l1Copy_eq _ hS1]
   rw[Bg (by simp;omega),bs,Bg (by simp;omega),bs]
   simp
  by_cases hlt:k<xs.length
  ·simp only[dlt hlt,cond_true,Ay hlt,bs]
   by_cases he:xs[k]=n
   ·have hm:n∈xs:=by rw[←he];exact List.getElem_mem _
    have:(xs[k]==n)=true:=by simp[he]
    simp only[this,cond_true]
    unfold into;rw[if_pos hm]
   ·have:(xs[k]==n)=false:=by simpa using he
    simp only[this,cond_false,hrest]
    unfold into
    rw[htk,hdk,if_neg]
    intro hm
    obtain⟨j,hj,e⟩:=List.getElem_of_mem hm
    have hst:decide (xs[k]<n)=false:=by
     have:=CJ (λx=>decide (x<n)) xs (by omega)
     simp only[hk] at this;exact this
    simp at hst
    rcases Nat.lt_trichotomy j k with h1|h1|h1
    ·have:=Cv (λx=>decide (x<n)) xs j (by omega) hj
     simp at this;omega
    ·subst h1;exact he e
    ·have:=(List.pairwise_iff_getElem.1 h) k j hlt hj h1
     omega
  ·obtain rfl:k=xs.length:=by omega
   simp only[A9,cond_false,bs,hrest]
   unfold into
   rw[htk,hdk,if_neg]
   intro hm
   obtain⟨j,hj,e⟩:=List.getElem_of_mem hm
   have:=Cv (λx=>decide (x<n)) xs j (by omega) hj
   simp at this;omega
theorem Inc.short {s:LI}{n:Nat}(h:Inc s)(hr:∀x∈s,0≤x∧x<n):s.length≤n:=by
 rcases SetOf.len h hr with e|e
 ·subst e;simp
 ·omega
end Go.Sx



namespace Go.Sx
structure DK (b:LI)(i:Int):Prop where
 byte:∀x∈b,0≤x∧x≤255
 len:b.length≤4096
 i0:0≤i
 i1:i≤b.length
end Go.Sx



namespace Go.Sx
theorem ext_getD {a b:LI}(hl:a.length=b.length)(h:∀j,j<a.length→a.getD j 0=b.getD j 0):a=b:=by
 apply List.ext_getElem hl
 intro j h1 h2
 have:=h j h1
 rwa [AU h1,AU h2] at this
theorem getD_set (l:LI)(i j:Nat)(x:Int)(hi:i<l.length):(l.set i x).getD j 0=if j=i then x else l.getD j 0:=by
 simp only[List.getD_eq_getElem?_getD,List.getElem?_set]
 by_cases h:j=i
 ·subst h;simp[hi]
 ·rw[if_neg (λe=>h e.symm),if_neg h]
def nb (F:LI)(u w:Nat):Bool:=has (F.getD u 0) w
structure FOk (F:LI)(n:Nat):Prop where
 len:F.length=n
 vs:∀u,u<n→VS (F.getD u 0)
 lt:∀u w,u<n→nb F u w=true→w<n
 irr:∀u,u<n→nb F u u=false
 sym:∀u w,u<n→nb F u w=true→nb F w u=true
theorem FOk.ext {F F':LI}{n:Nat}(h:F.length=n)(h':F'.length=n)(v:∀u,u<n→VS (F.getD u 0))(v':∀u,u<n→VS (F'.getD u 0))(e:∀u w,u<n→nb F u w=nb F' u w):F=F':=by
 refine ext_getD (by omega) (λj hj=> ?_)
 exact(v j (by omega)).ext (v' j (by omega)) (λw _=>e j w (by omega))
theorem DO (g:LL)(u:Nat):(g.map mk).getD u 0=mk (row g u):=by
 unfold row
 simp only[List.getD_eq_getElem?_getD,List.getElem?_map]
 cases g[u]? with
 |none=>simp[mk]
 |some r=>rfl
theorem nb_mk {g:LL}(hg:GOk g){u w:Nat}(hu:u<g.length):nb (g.map mk) u w=true↔adj g u w:=by
 have h16:=hg.n16
 unfold nb
 rw[DO,has_mk (λx hx=>by have:=(hg.rows u hu).2 x hx;omega)]
 simp[adj]
theorem FOk.of {g:LL}(hg:GOk g):FOk (g.map Sx.mk) g.length:=by
 refine⟨by simp,λu _=>by rw[DO];exact VS.mk _,λu w hu h=>hg.lt hu ((nb_mk hg hu).1 h),λu hu=> ?_,λu w hu h=> ?_⟩
 ·cases h:nb (g.map Sx.mk) u u
  ·rfl
  ·exact absurd ((nb_mk hg hu).1 h) (hg.irr u hu)
 ·have ha:=(nb_mk hg hu).1 h
  exact(nb_mk hg (hg.lt hu ha)).2 (hg.sym u w hu ha)
theorem mk_elems {s:Int}(h:VS s):mk (Ao s)=s:=by
 refine(VS.mk _).ext h (λv hv=> ?_)
 rw[has_mk (λx hx=>by obtain⟨w,h1,_,rfl⟩:=mem_elems.1 hx;omega),Bool.eq_iff_iff,decide_eq_true_eq,AQ h]
theorem all_mask :∀n:Fin 17,∀v:Fin 32,has (IntKind.u32.wrap (ishl .u32 1 (n.val:Int)-1)) v.val=decide (v.val<n.val):=by decide+kernel
def PEO (F:LI)(o:LI):Prop:=∀(j:Nat) (v u w:Nat),o[j]? =some (v:Int)→nb F v u=true→nb F v w=true→(u:Int)∉o.take (j+1)→(w:Int)∉o.take (j+1)→u≠w→nb F u w=true
def Lat (F L:LI)(o:LI)(i:Nat):Prop:=∀(j:Nat) (v:Nat),j<i→o[j]? =some (v:Int)→∀w,nb L v w=(nb F v w&&decide ((w:Int)∉o.take (j+1)))
inductive Via (F:LI)(gone:Nat→Prop)(u:Nat):Nat→Prop
 |me:Via F gone u u
 |step {x y:Nat}:Via F gone u x→nb F x y=true→gone y→Via F gone u y
theorem Via.mono {F:LI}{g g':Nat→Prop}{u x:Nat}(h:Via F g u x)(hg:∀y,g y→g' y):Via F g' u x:=by
 induction h with
 |me=>exact .me
 |step _ h1 h2 ih=>exact .step ih h1 (hg _ h2)
theorem Via.end_ {F:LI}{g:Nat→Prop}{u x:Nat}(h:Via F g u x):x=u∨g x:=by
 cases h with
 |me=>exact .inl rfl
 |step _ _ h2=>exact .inr h2
theorem Via.lt {F:LI}{n:Nat}(hF:FOk F n){g:Nat→Prop}{u x:Nat}(hu:u<n)(h:Via F g u x):x<n:=by
 induction h with
 |me=>exact hu
 |step _ h1 _ ih=>exact hF.lt _ _ ih h1
theorem Via.back {F:LI}{n:Nat}(hF:FOk F n){g g':Nat→Prop}(hg:∀y,g y→g' y){v x:Nat}(hv:v<n)(hgv:g' v)(h:Via F g v x):∀z,Via F g' z x→Via F g' z v:=by
 induction h with
 |me=>exact λz h=>h
 |step hx h1 h2 ih=>
  intro z hz
  have hxn:=Via.lt hF hv hx
  refine ih z (.step hz (hF.sym _ _ hxn h1) ?_)
  rcases hx.end_ with e|e
  ·rw[e];exact hgv
  ·exact hg _ e
def Bhd (F:LI)(gone:Nat→Prop)(v w:Nat):Prop:=∃x,Via F gone v x∧nb F x w=true
structure EInv (n:Nat)(F0 o:LI)(i:Nat)(F L:LI)(left:Int):Prop where
 f:FOk F n
 lenL:L.length=n
 vsL:∀u,u<n→VS (L.getD u 0)
 vsl:VS left
 left:∀v,has left v=decide (v<n∧(v:Int)∉o.take i)
 mono:∀u w,u<n→nb F0 u w=true→nb F u w=true
 lat:Lat F L o i
 peo:∀(j:Nat) (v u w:Nat),j<i→o[j]? =some (v:Int)→nb F v u=true→nb F v w=true→(u:Int)∉o.take (j+1)→(w:Int)∉o.take (j+1)→u≠w→nb F u w=true
 same:PEO F0 o→F=F0
 via:∀u w:Nat,u<n→(u:Int)∉o.take i→(w:Int)∉o.take i→u≠w→(nb F u w=true↔Bhd F0 (λx=>(x:Int)∈o.take i) u w)
 latb:∀(j:Nat) (v:Nat),j<i→o[j]? =some (v:Int)→∀w:Nat,nb L v w=true↔(w:Int)∉o.take (j+1)∧Bhd F0 (λx=>(x:Int)∈o.take j) v w
theorem Cx {o:LI}{j i:Nat}(h:j≤i){x:Int}(hx:x∈o.take j):x∈o.take i:=by
 rw[mem_take_iff] at hx ⊢
 obtain⟨k,h1,h2,h3⟩:=hx
 exact⟨k,h1,by omega,h3⟩
theorem EInv.step {n:Nat}{F0 o F L:LI}{i v:Nat}{left:Int}(h16:n≤16)(h0:FOk F0 n)(hn:∀x∈o,0≤x∧x<n)(hnd:o.Nodup)(hi:i<o.length)(hv:o[i]=(v:Int))(h:EInv n F0 o i F L left){F':LI}
  (hl':F'.length=n) (hv':∀u,u<n→VS (F'.getD u 0)) (h':∀u w,u<n→nb F' u w=(nb F u w||(has (iand .u32 (F.getD v 0) (iandNot .u32 left (ishl .u32 1 (v:Int)))) u&&has (iand .u32 (F.getD v 0) (iandNot .u32 left (ishl .u32 1 (v:Int)))) w&&decide (w≠u)))):
  EInv n F0 o (i+1) F' (L.set v (iand .u32 (F.getD v 0) (iandNot .u32 left (ishl .u32 1 (v:Int))))) (iandNot .u32 left (ishl .u32 1 (v:Int))):=by
 have hvn:v<n:=by have:=hn _ (List.getElem_mem hi);omega
 have hvt:(v:Int)∉o.take i:=by rw[←hv];exact nodup_iff.1 hnd i hi
 have htk:∀x:Nat,((x:Int)∈o.take (i+1))↔((x:Int)∈o.take i∨x=v):=λx=>by
  rw[List.take_succ_eq_append_getElem hi,List.mem_append,hv];simp[Int.natCast_inj]
 have hleft:∀w,has (iandNot .u32 left (ishl .u32 1 (v:Int))) w=decide (w<n∧(w:Int)∉o.take (i+1)):=λw=>by
  rw[Ca h.vsl (VS.ishl _ _),BY (by omega),h.left,Bool.eq_iff_iff]
  simp only[Bool.and_eq_true,decide_eq_true_eq,Bool.not_eq_true',decide_eq_false_iff_not,htk]
  constructor
  ·rintro⟨⟨a,b⟩,c⟩;exact⟨a,λhh=>hh.elim b c⟩
  ·rintro⟨a,b⟩;exact⟨⟨a,λhh=>b (.inl hh)⟩,λhh=>b (.inr hh)⟩
 have hS:∀w,has (iand .u32 (F.getD v 0) (iandNot .u32 left (ishl .u32 1 (v:Int)))) w=(nb F v w&&decide ((w:Int)∉o.take (i+1))):=λw=>by
  rw[has_iand (h.f.vs v hvn) (VS.iandNot _ _),hleft,Bool.eq_iff_iff]
  show (nb F v w&&_)=true↔_
  simp only[Bool.and_eq_true,decide_eq_true_eq]
  exact⟨fun⟨a,b,c⟩=>⟨a,c⟩,fun⟨a,c⟩=>⟨a,h.f.lt v w hvn a,c⟩⟩
 have hlV:VS (iandNot .u32 left (ishl .u32 1 (v:Int))):=VS.iandNot _ _
 generalize iandNot .u32 left (ishl .u32 1 (v:Int))=left' at*
 generalize hSS:iand .u32 (F.getD v 0) left'=S at*
 have hSV:VS S:=by rw[←hSS];exact VS.iand _ _
 have hSlt:∀w,has S w=true→w<n∧(w:Int)∉o.take (i+1):=λw hw=>by
  rw[hS] at hw
  simp only[Bool.and_eq_true,decide_eq_true_eq] at hw
  exact⟨h.f.lt v w hvn hw.1,hw.2⟩
 have hmono:∀u w,u<n→nb F u w=true→nb F' u w=true:=λu w hu hh=>by rw[h' u w hu,hh];rfl
 have hold:∀x:Nat,x<n→(x:Int)∈o.take (i+1)→∀w,nb F' x w=nb F x w:=λx hx hm w=>by
  rw[h' x w hx]
  have:has S x=false:=by
   cases hc:has S x
   ·rfl
   ·exact absurd hm (hSlt x hc).2
  simp[this]
 have hf':FOk F' n:=by
  refine⟨hl',hv',λu w hu hh=> ?_,λu hu=> ?_,λu w hu hh=> ?_⟩
  ·rw[h' u w hu] at hh
   simp only[Bool.or_eq_true,Bool.and_eq_true] at hh
   rcases hh with hh|⟨⟨_,hh⟩,_⟩
   ·exact h.f.lt u w hu hh
   ·exact(hSlt w hh).1
  ·rw[h' u u hu,h.f.irr u hu];simp
  ·rw[h' u w hu] at hh
   simp only[Bool.or_eq_true,Bool.and_eq_true,decide_eq_true_eq] at hh
   rcases hh with hh|⟨⟨h1,h2⟩,h3⟩
   ·exact hmono w u (h.f.lt u w hu hh) (h.f.sym u w hu hh)
   ·rw[h' w u (hSlt w h2).1,h1,h2]
    have:decide (u≠w)=true:=by simpa using λe=>h3 e.symm
    simp[this]
 have hjv:∀j (x:Nat),o[j]? =some (x:Int)→j<o.length∧x<n∧(x:Int)∈o.take (j+1):=λj x hx=>by
  obtain⟨h1,h2⟩:=List.getElem?_eq_some_iff.1 hx
  have:=hn _ (List.getElem_mem h1)
  refine⟨h1,by omega,?_⟩
  rw[mem_take_iff];exact⟨j,h1,by omega,h2⟩
 refine⟨hf',by simp[h.lenL],λu hu=> ?_,hlV,hleft,λu w hu hh=>hmono u w hu (h.mono u w hu hh),λj x hj hx w=> ?_,λj x u w hj hx h1 h2 h3 h4 h5=> ?_,λhp=> ?_,λu w hu k1 k2 huw=> ?_,λj x hj hx w=> ?_⟩
 ·rw[getD_set _ _ _ _ (by rw[h.lenL];exact hvn)]
  split
  ·exact hSV
  ·exact h.vsL u hu
 ·obtain⟨k1,k2,k3⟩:=hjv j x hx
  have k4:=Cx (show j+1≤i+1 by omega) k3
  rw[hold x k2 k4 w]
  unfold nb
  rw[getD_set _ _ _ _ (by rw[h.lenL];exact hvn)]
  by_cases hji:j=i
  ·subst hji
   rw[List.getElem?_eq_getElem hi,hv] at hx
   have:x=v:=by
    have:(v:Int)=(x:Int):=by simpa using hx
    omega
   subst this
   rw[if_pos rfl,hS];rfl
  ·have hne:x≠v:=λe=>by
    subst e
    exact hvt (Cx (show j+1≤i by omega) k3)
   rw[if_neg hne]
   exact h.lat j x (by omega) hx w
 ·obtain⟨k1,k2,k3⟩:=hjv j x hx
  have k4:=Cx (show j+1≤i+1 by omega) k3
  rw[hold x k2 k4] at h1 h2
  by_cases hji:j=i
  ·subst hji
   rw[List.getElem?_eq_getElem hi,hv] at hx
   have:x=v:=by
    have:(v:Int)=(x:Int):=by simpa using hx
    omega
   subst this
   have hu:has S u=true:=by rw[hS,h1];simpa using h3
   have hw:has S w=true:=by rw[hS,h2];simpa using h4
   rw[h' u w (hSlt u hu).1,hu,hw]
   have:decide (w≠u)=true:=by simpa using λe=>h5 e.symm
   simp[this]
  ·exact hmono u w (h.f.lt x u k2 h1) (h.peo j x u w (by omega) hx h1 h2 h3 h4 h5)
 ·have hFF:=h.same hp
  subst hFF
  refine FOk.ext hl' h.f.len hv' h.f.vs (λu w hu=> ?_)
  rw[h' u w hu,Bool.eq_iff_iff]
  simp only[Bool.or_eq_true,Bool.and_eq_true,decide_eq_true_eq]
  constructor
  ·rintro(hh|⟨⟨h1,h2⟩,h3⟩)
   ·exact hh
   ·have k1:=(hSlt u h1).2;have k2:=(hSlt w h2).2
    rw[hS] at h1 h2
    simp only[Bool.and_eq_true] at h1 h2
    exact hp i v u w (by rw[List.getElem?_eq_getElem hi,hv]) h1.1 h2.1 k1 k2 (λe=>h3 e.symm)
  ·exact .inl
 ·have q1:(u:Int)∉o.take i:=λe=>k1 ((htk u).2 (.inl e))
  have q2:(w:Int)∉o.take i:=λe=>k2 ((htk w).2 (.inl e))
  have huv:u≠v:=λe=>k1 ((htk u).2 (.inr e))
  have hwv:w≠v:=λe=>k2 ((htk w).2 (.inr e))
  have hgg:∀y:Nat,(y:Int)∈o.take i→(y:Int)∈o.take (i+1):=λy hy=>(htk y).2 (.inl hy)
  rw[h' u w hu]
  simp only[Bool.or_eq_true,Bool.and_eq_true,decide_eq_true_eq]
  constructor
  ·rintro(hh|⟨⟨a1,a2⟩,_⟩)
   ·obtain⟨x,hx,e⟩:=(h.via u w hu q1 q2 huw).1 hh
    exact⟨x,hx.mono hgg,e⟩
   ·rw[hS] at a1 a2
    simp only[Bool.and_eq_true,decide_eq_true_eq] at a1 a2
    obtain⟨x,hx,ex⟩:=(h.via v u hvn hvt q1 (λe=>huv e.symm)).1 a1.1
    obtain⟨y,hy,ey⟩:=(h.via v w hvn hvt q2 (λe=>hwv e.symm)).1 a2.1
    have hvg:(v:Int)∈o.take (i+1):=(htk v).2 (.inr rfl)
    have hxn:=Via.lt h0 hvn hx
    have hxg:(x:Int)∈o.take (i+1):=by
     rcases hx.end_ with e|e
     ·rw[e];exact hvg
     ·exact hgg x e
    have hux:Via F0 (λx=>(x:Int)∈o.take (i+1)) u x:= .step .me (h0.sym x u hxn ex) hxg
    have huv':=Via.back h0 (g':=λx=>(x:Int)∈o.take (i+1)) hgg hvn hvg hx u hux
    have hgo:∀y,Via F0 (λx=>(x:Int)∈o.take i) v y→Via F0 (λx=>(x:Int)∈o.take (i+1)) u y:=λy hy=>by
     induction hy with
     |me=>exact huv'
     |step _ b1 b2 ih=>exact .step ih b1 (hgg _ b2)
    exact⟨y,hgo y hy,ey⟩
  ·rintro⟨x,hx,ex⟩
   have hcl:∀x,Via F0 (λx=>(x:Int)∈o.take (i+1)) u x→Via F0 (λx=>(x:Int)∈o.take i) u x∨(Bhd F0 (λx=>(x:Int)∈o.take i) u v∧Via F0 (λx=>(x:Int)∈o.take i) v x):=λx hx=>by
    induction hx with
    |me=>exact .inl .me
    | @step a b _ b1 b2 ih=>
     rcases(htk b).1 b2 with b2|b2
     ·rcases ih with ih|⟨ih1,ih2⟩
      ·exact .inl (.step ih b1 b2)
      ·exact .inr ⟨ih1,.step ih2 b1 b2⟩
     ·rcases ih with ih|⟨ih1,ih2⟩
      ·subst b2;exact .inr ⟨⟨a,ih,b1⟩,.me⟩
      ·subst b2;exact .inr ⟨ih1,.me⟩
   rcases hcl x hx with hx|⟨hx1,hx2⟩
   ·exact .inl ((h.via u w hu q1 q2 huw).2 ⟨x,hx,ex⟩)
   ·right
    have a1:=(h.via u v hu q1 hvt huv).2 hx1
    have a2:=(h.via v w hvn hvt q2 (λe=>hwv e.symm)).2 ⟨x,hx2,ex⟩
    refine⟨⟨?_,?_⟩,λe=>huw e.symm⟩
    ·rw[hS,h.f.sym u v hu a1];simpa using k1
    ·rw[hS,a2];simpa using k2
 ·obtain⟨k1,k2,k3⟩:=hjv j x hx
  unfold nb
  rw[getD_set _ _ _ _ (by rw[h.lenL];exact hvn)]
  by_cases hji:j=i
  ·subst hji
   rw[List.getElem?_eq_getElem hi,hv] at hx
   have:x=v:=by
    have:(v:Int)=(x:Int):=by simpa using hx
    omega
   subst this
   rw[if_pos rfl,hS,Bool.and_eq_true,decide_eq_true_eq]
   constructor
   ·rintro⟨b1,b2⟩
    have b3:(w:Int)∉o.take j:=λe=>b2 ((htk w).2 (.inl e))
    have b4:x≠w:=λe=>b2 ((htk w).2 (.inr e.symm))
    exact⟨b2,(h.via x w hvn hvt b3 b4).1 b1⟩
   ·rintro⟨b2,b1⟩
    have b3:(w:Int)∉o.take j:=λe=>b2 ((htk w).2 (.inl e))
    have b4:x≠w:=λe=>b2 ((htk w).2 (.inr e.symm))
    exact⟨(h.via x w hvn hvt b3 b4).2 b1,b2⟩
  ·have hne:x≠v:=λe=>by
    subst e
    exact hvt (Cx (show j+1≤i by omega) k3)
   rw[if_neg hne]
   exact h.latb j x (by omega) hx w
theorem BB :∀{l m:LI},l.Nodup→(∀x∈l,x∈m)→l.length≤m.length
 |[],_,_,_=>by simp
 |x::l,m,h,hs=>by
  have h':=List.nodup_cons.1 h
  have hx:=hs x (by simp)
  have:=BB (l:=l) (m:=m.erase x) h'.2 (λy hy=>by
   have hne:y≠x:=λe=>h'.1 (e▸hy)
   exact(List.mem_erase_of_ne hne).2 (hs y (by simp[hy])))
  rw[List.length_erase_of_mem hx] at this
  have hp:0<m.length:=List.length_pos_of_mem hx
  simp;omega
theorem Inc.nodup {l:LI}(h:Inc l):l.Nodup:=List.Pairwise.imp (λh e=>by omega) h
def withV (bags:LL)(v:Int):LI:=((List.range bags.length).filter λb=>decide (v∈bags.getD b [])).map Int.ofNat
def Lk (links:LL)(x y:Int):Prop:=[x,y]∈links∨[y,x]∈links
structure Closed (links:LL)(sel m:LI):Prop where
 sub:∀x∈m,x∈sel
 first:∀x,sel.head? =some x→x∈m
 step:∀x∈m,∀y∈sel,Lk links x y→y∈m
def Conn (links:LL)(sel:LI):Prop:=∀m,Closed links sel m→∀x∈sel,x∈m
def LinkIn (n:Nat)(l:LI):Prop:=∃a b:Nat,l=[(a:Int),(b:Int)]∧a<b∧b<n
structure TB (g bags links:LL):Prop where
 n1:1≤bags.length
 n16:bags.length≤16
 many:links.length+1=bags.length
 lks:∀l∈links,LinkIn bags.length l
 sets:∀b∈bags,SetOf b g.length
 tree:Conn links ((List.range bags.length).map Int.ofNat)
 edges:∀u v:Nat,u<g.length→adj g u v→∃b∈bags,(u:Int)∈b∧(v:Int)∈b
 some:∀v,v<g.length→withV bags v≠[]
 conn:∀v,v<g.length→Conn links (withV bags v)
theorem GOk.sh2 {g:LL}(hg:GOk g):Sh2 g:=by
 have h16:=hg.n16
 exact⟨by unfold Sh;omega,λr hr=>by have:=(hg.mem0 hr).1;unfold Sh;omega⟩
theorem gB_true {g:LL}(hg:GOk g):gB g=true:=(gB_iff g).2 hg
theorem OOk.sh {g:LL}{o:LI}(hg:GOk g)(ho:OOk g o):Sh o:=by
 have:=hg.n16;have:=ho.len;unfold Sh;omega
structure Fill (g:LL)(o F L:LI):Prop where
 elim:D.D0 (g.map mk) o=some (F,L)
 f:FOk F g.length
 lenL:L.length=g.length
 vsL:∀u,u<g.length→VS (L.getD u 0)
 mono:∀u w,u<g.length→adj g u w→nb F u w=true
 lat:Lat F L o g.length
 peo:PEO F o
 same:PEO (g.map mk) o→F=g.map mk
 latb:∀(j:Nat) (v:Nat),o[j]? =some (v:Int)→∀w:Nat,nb L v w=true↔(w:Int)∉o.take (j+1)∧Bhd (g.map mk) (λx=>(x:Int)∈o.take j) v w
def sumN (f:Nat→Nat):Nat→Nat
 |0=>0
 |n+1=>sumN f n+f n
def bit (b:Bool):Nat:=if b then 1 else 0
def S2 (n:Nat)(p:Nat→Nat→Bool):Nat:=sumN (λu=>sumN (λw=>bit (p u w)) n) n
def full (n:Nat):Int:=IntKind.u32.wrap (ishl .u32 1 (n:Int)-1)
theorem full_vs (n:Nat):VS (full n):=VS.wrap _
theorem has_full {n:Nat}(h:n≤16)(v:Nat):has (full n) v=decide (v<n):=by
 by_cases hv:v<32
 ·exact all_mask ⟨n,by omega⟩ ⟨v,hv⟩
 ·rw[DH (full_vs n) (by omega)];symm;simp;omega
theorem nets_all_full (F:LI):D.M F=some (full F.length):=by
 unfold D.M D.C0
 have:decide ((F.length:Int)<0)=false:=by simp
 rw[this];rfl
section
variable {g : LL} {o : LI} (hg : GOk g) (ho : OOk g o)
include hg ho
end
end Go.Sx

namespace Go.Sx
section
variable {g : LL} {o : LI} (hg : GOk g) (ho : OOk g o)
include hg ho
def mx (f:Nat→Int):Nat→Int
 |0=>0
 |n+1=>max (mx f n) (f n)
end
end Go.Sx

namespace Go.Sx
def dg (g:LL)(s:Int)(v:Int):Int:=((Ao (iand .u32 (mk (row g v.toNat)) s)).length:Int)
structure SQ (n:Nat)(s:Int)(k:Nat):Prop where
 vs:VS s
 lt:∀v,has s v=true→v<n
 card:(Ao s).length=k
theorem SQ.ne {n k:Nat}{s:Int}(h:SQ n s (k+1)):Ao s≠[]:=λe=>by have:=h.card;rw[e] at this;simp at this
theorem SQ.z {n:Nat}{s:Int}(h:SQ n s 0):s=0:=by
 rw[h.vs.eq_zero]
 intro v hv
 cases hc:has s v
 ·rfl
 ·have:(v:Int)∈Ao s:=(AQ h.vs).2 hc
  have h0:=h.card
  rw[List.length_eq_zero_iff] at h0
  rw[h0] at this;simp at this
noncomputable def elimF (F:LI)(s b:Int):LI:=(D.E0 F s b).getD []
structure GQ (n i:Nat)(F o:LI)(s:Int):Prop where
 f:FOk F n
 left:SQ n s (n-i)
 len:o.length=i
 rng:∀x∈o,∃v:Nat,x=v∧v<n∧has s v=false
 nd:o.Nodup
noncomputable def ef (g:LL)(o:LI):Nat→LI×LI×Int
 |0=>(g.map mk,List.replicate g.length 0,full g.length)
 |i+1=>(elimF (ef g o i).1 (ef g o i).2.2 (o.getD i 0),(ef g o i).2.1.set (o.getD i 0).toNat (iand .u32 ((ef g o i).1.getD (o.getD i 0).toNat 0) (iandNot .u32 (ef g o i).2.2 (ishl .u32 1 (o.getD i 0)))),
   iandNot .u32 (ef g o i).2.2 (ishl .u32 1 (o.getD i 0)))
section
variable {g : LL} {o : LI} (hg : GOk g) (ho : OOk g o)
include hg ho
end
end Go.Sx

namespace Go.Sx
structure Net (A:LI)(n:Nat):Prop where
 len:A.length=n
 vs:∀u,u<n→VS (A.getD u 0)
 lt:∀u w,u<n→nb A u w=true→w<n
theorem FOk.net {A:LI}{n:Nat}(h:FOk A n):Net A n:=⟨h.len,h.vs,h.lt⟩
structure Rch (A:LI)(W:Int)(v:Nat)(S:Int):Prop where
 vs:VS S
 me:has S v=true
 step:∀x y,has S x=true→nb A x y=true→has W y=true→has S y=true
 least:∀T:Nat→Prop,T v→(∀x y,T x→nb A x y=true→has W y=true→T y)→∀x,has S x=true→T x
theorem reach_ok {A:LI}{n:Nat}(hn:n≤16)(hA:Net A n){v:Nat}(hv:v<n){W:Int}(hW:VS W):∃S,D.O A (v:Int) W=some S∧Rch A W v S∧∀x,has S x=true→x<n:=by
 unfold D.O
 rw[CM,bs]
 refine AK (λS=>VS S∧has S v=true∧(∀x,has S x=true→x<n)∧∀T:Nat→Prop,T v→(∀x y,T x→nb A x y=true→has W y=true→T y)→∀x,has S x=true→T x) (λS=>n-(Ao S).length)
  (λS=>Rch A W v S∧∀x,has S x=true→x<n) ?_ ?_ (λr hr=>⟨r,rfl,hr⟩)
 ·rintro S ⟨hS,hv',hlt,hT⟩
  have hle:=Bc S
  simp only[Dg S hS,bs]
  have hin:=AK (step:=(fun(s_223:Int×Int)=>match s_223 with|(x_226,x_227)=>cond (decide (x_227<((Ao S).length:Int))) ((idx (Ao S) x_227).bind λe_246=>(idx A e_246).bind λe_252=>some (.inl ((ior .u32 x_226 (iand .u32 e_252 W)),(IntKind.i64.wrap (x_227+1))))) (some (.inr x_226)))) (s:=(S,0)) (k:=λr=>some r) (Q:=λX:Int=>VS X∧∀y,has X y=true↔has S y=true∨∃u:Nat,has S u=true∧nb A u y=true∧has W y=true)
   (λs=>∃k:Nat,s.2=(k:Int)∧k≤(Ao S).length∧VS s.1∧∀y,has s.1 y=true↔has S y=true∨∃u:Nat,(u:Int)∈(Ao S).take k∧nb A u y=true∧has W y=true) (λs=>(Ao S).length-s.2.toNat) (λX=>VS X∧∀y,has X y=true↔has S y=true∨∃u:Nat,has S u=true∧nb A u y=true∧has W y=true)
   ?_ ⟨0,rfl,by omega,hS,λy=>by simp⟩ (λr hr=>⟨r,rfl,hr⟩)
  ·obtain⟨X,hX,hX1,hX2⟩:=hin
   rw[Option.bind_eq_some_iff] at hX
   obtain⟨z,e1,e2⟩:=hX
   cases e2
   rw[e1,bs]
   by_cases hc:X=S
   ·subst hc
    simp only[beq_self_eq_true,cond_true]
    refine⟨_,rfl,⟨hS,hv',λx y h1 h2 h3=>(hX2 y).2 (.inr ⟨x,h1,h2,h3⟩),hT⟩,hlt⟩
   ·have e3:(X==S)=false:=by simpa using hc
    simp only[e3,cond_false]
    have hXlt:∀x,has X x=true→x<n:=λx hx=>by
     rcases(hX2 x).1 hx with h|⟨u,h1,h2,_⟩
     ·exact hlt x h
     ·exact hA.lt u x (hlt u h1) h2
    refine⟨_,rfl,⟨hX1,(hX2 v).2 (.inl hv'),hXlt,λT h1 h2 x hx=> ?_⟩,?_⟩
    ·rcases(hX2 x).1 hx with h|⟨u,h3,h4,h5⟩
     ·exact hT T h1 h2 x h
     ·exact h2 u x (hT T h1 h2 u h3) h4 h5
    ·
     obtain⟨w,hw,hws⟩:∃w:Nat,has X w=true∧has S w=false:=by
      apply Classical.byContradiction
      intro hno
      refine hc (hX1.ext hS (λw _=> ?_))
      rw[Bool.eq_iff_iff]
      refine⟨λh=> ?_,λh=>(hX2 w).2 (.inl h)⟩
      cases hh:has S w
      ·exact absurd ⟨w,h,hh⟩ hno
      ·rfl
     have h1:((w:Int)::Ao S).length≤(Ao X).length:=BB (List.nodup_cons.2 ⟨λhm=>by rw[AQ hS,hws] at hm;exact Bool.noConfusion hm,(Bz S).nodup⟩) (λx hx=>by
      rcases List.mem_cons.1 hx with rfl|hx
      ·rw[AQ hX1];exact hw
      ·obtain⟨u,_,h2,rfl⟩:=mem_elems.1 hx
       rw[AQ hX1];exact(hX2 u).2 (.inl h2))
     have h2:(Ao X).length≤n:=(Bz X).short (n:=n) (λx hx=>by
      obtain⟨u,_,h2,rfl⟩:=mem_elems.1 hx
      have:=hXlt u h2;omega)
     simp at h1
     show n-(Ao X).length<n-(Ao S).length
     omega
  ·rintro⟨X,_⟩ ⟨k,rfl,hk,hX1,hX2⟩
   dsimp only at hX1 hX2 ⊢
   by_cases hkl:k<(Ao S).length
   ·obtain⟨u,_,h2,h3⟩:=mem_elems.1 (List.getElem_mem hkl)
    have hu:=hlt u h2
    have hAu:idx A (u:Int)=some (A.getD u 0):=by rw[Ay (by rw[hA.len];exact hu),AU (by rw[hA.len];exact hu)]
    simp only[dlt hkl,cond_true,Ay hkl,bs,h3,hAu,wq k]
    refine⟨_,rfl,⟨k+1,rfl,hkl,VS.ior _ _,λy=> ?_⟩,by dsimp only;omega⟩
    dsimp only
    rw[Cz hX1 (VS.iand _ _),Bool.or_eq_true,has_iand (hA.vs u hu) hW,Bool.and_eq_true,hX2,List.take_succ_eq_append_getElem hkl,h3]
    constructor
    ·rintro((h|⟨u',h4,h5⟩)|⟨h4,h5⟩)
     ·exact .inl h
     ·exact .inr ⟨u',List.mem_append_left _ h4,h5⟩
     ·exact .inr ⟨u,List.mem_append_right _ (by simp),h4,h5⟩
    ·rintro(h|⟨u',h4,h5,h6⟩)
     ·exact .inl (.inl h)
     ·rcases List.mem_append.1 h4 with h4|h4
      ·exact .inl (.inr ⟨u',h4,h5,h6⟩)
      ·simp at h4
       obtain rfl:u'=u:=by omega
       exact .inr ⟨h5,h6⟩
   ·obtain rfl:k=(Ao S).length:=by omega
    simp only[A9,cond_false]
    refine⟨_,rfl,hX1,λy=> ?_⟩
    rw[hX2,List.take_length]
    constructor
    ·rintro(h|⟨u,h1,h2⟩)
     ·exact .inl h
     ·exact .inr ⟨u,(AQ hS).1 h1,h2⟩
    ·rintro(h|⟨u,h1,h2⟩)
     ·exact .inl h
     ·exact .inr ⟨u,(AQ hS).2 h1,h2⟩
 ·refine⟨VS.ishl _ _,by rw[BY (by omega)];simp,λx hx=> ?_,λT h1 _ x hx=> ?_⟩
  ·rw[BY (by omega)] at hx
   have:=of_decide_eq_true hx;omega
  ·rw[BY (by omega)] at hx
   rw[of_decide_eq_true hx];exact h1
def cz :LI→LI→Int
 |[],[]=>0
 |[],_::_=> -1
 |_::_,[]=>1
 |a::x,b::y=>if a<b then-1 else if b<a then 1 else cz x y
theorem cz_range :∀x y,cz x y= -1∨cz x y=0∨cz x y=1
 |[],[]=> .inr (.inl rfl)
 |[],_::_=> .inl rfl
 |_::_,[]=> .inr (.inr rfl)
 |a::x,b::y=>by
  unfold cz
  split
  ·exact .inl rfl
  ·split
   ·exact .inr (.inr rfl)
   ·exact cz_range x y
theorem cmp_int (a b:Int):D.Q a b=some (if a<b then-1 else if b<a then 1 else 0):=by
 unfold D.Q D.L
 simp only[bne_self_eq_false,bs,cond_false]
 by_cases h:a<b
 ·simp[h]
 ·by_cases h2:b<a<;>simp[h,h2]
theorem compare_eq (x y:LI)(hx:Sh x)(hy:Sh y):D.n0 x y=some (cz x y):=by
 unfold Sh at hx hy
 unfold D.n0
 have key:∀(K:Unit ⊕ Int→Option Int),K (.inl ())=cond (decide ((x.length:Int)<(y.length:Int))) (some (-1)) (some 0)→(∀z,K (.inr z)=some z)→∀(k i:Nat),i+k=x.length→(i≤y.length)→(Ap (σ:=Int) (ρ:=(Unit) ⊕ (Int)) (fun(x_54:Int)=>cond (decide (x_54<(x.length:Int))) ((idx x x_54).bind λe_81=>cond (decide ((y.length:Int)≤x_54)) (some (.inr (.inr 1))) ((idx y x_54).bind λe_88=>(D.Q e_81 e_88).bind λy_94=>cond (y_94 !=0) (some (.inr (.inr y_94))) (some (.inl (IntKind.i64.wrap (x_54+1)))))) (some (.inr (.inl ())))) (i:Int)).bind K=some (cz (x.drop i) (y.drop i)):=by
  intro K hK1 hK2 k
  induction k with
  |zero=>
   intro i hi hiy
   obtain rfl:i=x.length:=by omega
   rw[AX (r:=Sum.inl ()) (by simp only[A9,cond_false])]
   simp only[bs,List.drop_length,hK1]
   by_cases h:x.length<y.length
   ·have e:decide ((x.length:Int)<(y.length:Int))=true:=by simp;omega
    rw[e,cond_true,List.drop_eq_getElem_cons h];rfl
   ·have e:decide ((x.length:Int)<(y.length:Int))=false:=by simp;omega
    rw[e,cond_false,List.drop_eq_nil_of_le (by omega)];rfl
  |succ k ih=>
   intro i hi hiy
   have hix:i<x.length:=by omega
   by_cases h:i<y.length
   ·have e:decide ((y.length:Int)≤(i:Int))=false:=by simp;omega
    rw[List.drop_eq_getElem_cons hix,List.drop_eq_getElem_cons h]
    by_cases h1:x[i]<y[i]
    ·rw[AX (r:=Sum.inr (-1)) (by simp only[dlt hix,cond_true,Ay hix,Ay h,bs,e,cond_false,cmp_int,h1,if_true];rfl),bs,hK2]
     simp[cz,h1]
    ·by_cases h2:y[i]<x[i]
     ·rw[AX (r:=Sum.inr 1) (by simp only[dlt hix,cond_true,Ay hix,Ay h,bs,e,cond_false,cmp_int,h1,h2,if_true,if_false];rfl),bs,hK2]
      simp[cz,h1,h2]
     ·rw[Bf (s':=((i+1:Nat):Int)) (by simp only[dlt hix,cond_true,Ay hix,Ay h,bs,e,cond_false,cmp_int,h1,h2,if_false,wq i];rfl),ih (i+1) (by omega) (by omega)]
      simp[cz,h1,h2]
   ·obtain rfl:i=y.length:=by omega
    have e:decide ((y.length:Int)≤(y.length:Int))=true:=by simp
    rw[AX (r:=Sum.inr 1) (by simp only[dlt hix,cond_true,Ay hix,bs,e]),bs,hK2]
    simp only[List.drop_length]
    rw[List.drop_eq_getElem_cons hix];rfl
 exact key _ rfl (λ_=>rfl) x.length 0 (by omega) (by omega)
def lk :Nat→LI→Int
 |0,_=>0
 |_+1,[]=>0
 |d+1,a::l=>(a+1)*33^d+lk d l
theorem pow33 (d:Nat):(1:Int)≤33^d:=by
 have:(0:Int)<33^d:=Int.pow_pos (by omega)
 omega
theorem CV :∀(d:Nat) (l:LI),(∀x∈l,0≤x∧x<32)→0≤lk d l∧lk d l<33^d
 |0,l,_=>by simp[lk]
 |d+1,[],_=>by have:=pow33 (d+1);simp only[lk];omega
 |d+1,a::l,h=>by
  have h1:=CV d l (λx hx=>h x (List.mem_cons_of_mem _ hx))
  have ha:=h a (by simp)
  have hp:=pow33 d
  simp only[lk]
  generalize hq:(33:Int)^d=p at*
  have e:(33:Int)^(d+1)=p*33:=by rw[←hq,Int.pow_succ]
  rw[e]
  have h2:(a+1)*p≤32*p:=Int.mul_le_mul_of_nonneg_right (by omega) (by omega)
  have h3:0≤(a+1)*p:=Int.mul_nonneg (by omega) (by omega)
  omega
theorem lk_cmp :∀(d:Nat) (x y:LI),x.length≤d→y.length≤d→(∀z∈x,0≤z∧z<32)→(∀z∈y,0≤z∧z<32)→(cz x y<0↔lk d x<lk d y)
 |d,[],[],_,_,_,_=>by cases d<;>simp[cz,lk]
 |0,_::_,_,h,_,_,_=>by simp at h
 |0,_,_::_,_,h,_,_=>by simp at h
 |d+1,[],b::y,_,h,_,hy=>by
  have h1:=CV d y (λx hx=>hy x (List.mem_cons_of_mem _ hx))
  have hb:=hy b (by simp)
  have hp:=pow33 d
  simp only[cz,lk]
  have h3:1*(33:Int)^d≤(b+1)*33^d:=Int.mul_le_mul_of_nonneg_right (by omega) (by omega)
  constructor
  ·intro _;omega
  ·intro _;omega
 |d+1,a::x,[],h,_,hx,_=>by
  have h1:=CV d x (λz hz=>hx z (List.mem_cons_of_mem _ hz))
  have ha:=hx a (by simp)
  have hp:=pow33 d
  simp only[cz,lk]
  have h3:1*(33:Int)^d≤(a+1)*33^d:=Int.mul_le_mul_of_nonneg_right (by omega) (by omega)
  constructor
  ·intro hc;omega
  ·intro hc;omega
 |d+1,a::x,b::y,hlx,hly,hx,hy=>by
  have ih:=lk_cmp d x y (by simpa using hlx) (by simpa using hly) (λz hz=>hx z (List.mem_cons_of_mem _ hz)) (λz hz=>hy z (List.mem_cons_of_mem _ hz))
  have h1:=CV d x (λz hz=>hx z (List.mem_cons_of_mem _ hz))
  have h2:=CV d y (λz hz=>hy z (List.mem_cons_of_mem _ hz))
  have hp:=pow33 d
  simp only[cz,lk]
  by_cases hab:a<b
  ·rw[if_pos hab]
   have h3:(a+1+1)*(33:Int)^d≤(b+1)*33^d:=Int.mul_le_mul_of_nonneg_right (by omega) (by omega)
   have h4:(a+1+1)*(33:Int)^d=(a+1)*33^d+33^d:=by rw[Int.add_mul (a+1) 1,Int.one_mul]
   constructor
   ·intro _;omega
   ·intro _;omega
  ·by_cases hba:b<a
   ·rw[if_neg hab,if_pos hba]
    have h3:(b+1+1)*(33:Int)^d≤(a+1)*33^d:=Int.mul_le_mul_of_nonneg_right (by omega) (by omega)
    have h4:(b+1+1)*(33:Int)^d=(b+1)*33^d+33^d:=by rw[Int.add_mul (b+1) 1,Int.one_mul]
    constructor
    ·intro hc;omega
    ·intro hc;omega
   ·rw[if_neg hab,if_neg hba]
    obtain rfl:a=b:=by omega
    rw[ih];omega
theorem cz_zero :∀x y,cz x y=0↔x=y
 |[],[]=>by simp[cz]
 |[],_::_=>by simp[cz]
 |_::_,[]=>by simp[cz]
 |a::x,b::y=>by
  unfold cz
  by_cases h:a<b
  ·simp[h];omega
  ·by_cases h2:b<a
   ·simp[h,h2];omega
   ·obtain rfl:a=b:=by omega
    simp[cz_zero x y]
theorem cz_anti :∀x y,cz y x= -cz x y
 |[],[]=>rfl
 |[],_::_=>rfl
 |_::_,[]=>rfl
 |a::x,b::y=>by
  unfold cz
  by_cases h:a<b
  ·have h2:¬b<a:=by omega
   simp[h,h2]
  ·by_cases h2:b<a
   ·simp[h,h2]
   ·simp[h,h2,cz_anti x y]
theorem lk_inj {d:Nat}{x y:LI}(hx:x.length≤d)(hy:y.length≤d)(h1:∀z∈x,0≤z∧z<32)(h2:∀z∈y,0≤z∧z<32)(h:lk d x=lk d y):x=y:=by
 have a:=lk_cmp d x y hx hy h1 h2
 have b:=lk_cmp d y x hy hx h2 h1
 rw[cz_anti x y] at b
 rw[←cz_zero]
 rcases cz_range x y with e|e|e<;>omega
theorem CA (s:Int):∀z∈Ao s,0≤z∧z<32:=λz hz=>by
 obtain⟨v,h1,_,rfl⟩:=mem_elems.1 hz;omega
def Bd (s:Int):Int:=lk 32 (Ao s)
def skey (s:Int):Int:=((Ao s).length:Int)*33^32+Bd s
theorem C8 {s t:Int}(hs:VS s)(ht:VS t)(h:Ao s=Ao t):s=t:=by rw[←mk_elems hs,←mk_elems ht,h]
theorem lkey_inj {s t:Int}(hs:VS s)(ht:VS t)(h:Bd s=Bd t):s=t:=
 C8 hs ht (lk_inj (Bc s) (Bc t) (CA s) (CA t) h)
theorem compareSets_eq {s t:Int}(hs:VS s)(ht:VS t):D.a s t=some (cz (Ao s) (Ao t)):=by
 unfold D.a
 rw[Dg s hs,bs,Dg t ht,bs,compare_eq _ _ (elems_sh s) (elems_sh t)]
 rfl
noncomputable abbrev byLex :Gs.Srtd Int where
 dflt:=0
 key:=Bd
 good:=VS
 cmp:=D.a
 law:=λs t hs ht=>⟨_,compareSets_eq hs ht,by rw[decide_eq_decide];exact lk_cmp 32 _ _ (Bc s) (Bc t) (CA s) (CA t)⟩
theorem DQ {k:Int→Int}:∀{l l':LI},l.Pairwise (λa b=>k a<k b)→l'.Pairwise (λa b=>k a<k b)→(∀x,x∈l↔x∈l')→l=l'
 |[],[],_,_,_=>rfl
 |[],y::l',_,_,h=>by have:=(h y).2 (by simp);simp at this
 |x::l,[],_,_,h=>by have:=(h x).1 (by simp);simp at this
 |x::l,y::l',h1,h2,h=>by
  have h1':=List.pairwise_cons.1 h1;have h2':=List.pairwise_cons.1 h2
  have e:x=y:=by
   rcases List.mem_cons.1 ((h x).1 (by simp)) with e|e
   ·exact e
   ·rcases List.mem_cons.1 ((h y).2 (by simp)) with e'|e'
    ·exact e'.symm
    ·have:=h2'.1 x e;have:=h1'.1 y e';omega
  subst e
  have:l=l':=by
   refine DQ h1'.2 h2'.2 (λz=> ?_)
   constructor
   ·intro hz
    rcases List.mem_cons.1 ((h z).1 (List.mem_cons_of_mem _ hz)) with e|e
    ·subst e;have:=h1'.1 z hz;omega
    ·exact e
   ·intro hz
    rcases List.mem_cons.1 ((h z).2 (List.mem_cons_of_mem _ hz)) with e|e
    ·subst e;have:=h2'.1 z hz;omega
    ·exact e
  rw[this]
theorem sorted_rise (I:Gs.Srtd Int)(hinj:∀x y,I.good x→I.good y→I.key x=I.key y→x=y)(l:LI)(hG:∀x∈l,I.good x)(hn:l.Nodup)(hlen:l.length≤1000000):
  ∃l',DG.Sort I.cmp l=some l'∧List.Perm l' l∧l'.Pairwise (λa b=>I.key a<I.key b):=by
 obtain⟨l',e,hp,hs⟩:= @Gs.sort_spec Int I l hG hlen
 refine⟨l',e,hp,?_⟩
 rw[List.pairwise_iff_getElem]
 intro i j hi hj hij
 have h:=hs i j (by omega) (by omega) (by omega)
 unfold Gs.at' Gs.el at h
 rw[Int.toNat_natCast,Int.toNat_natCast,AU hi,AU hj] at h
 have hne:l'[i]≠l'[j]:=λe=>by
  have hn':=hp.nodup_iff.2 hn
  have:=(List.nodup_iff_pairwise_ne.1 hn')
  exact(List.pairwise_iff_getElem.1 this) i j hi hj hij e
 have g1:=hG _ (hp.mem_iff.1 (List.getElem_mem hi))
 have g2:=hG _ (hp.mem_iff.1 (List.getElem_mem hj))
 have hk:I.key l'[i]≠I.key l'[j]:=λe=>hne (hinj _ _ g1 g2 e)
 omega
theorem BT :D.q0=DG.insertionSort D.a:=by kernel_rfl
theorem Cc :D.r0=DG.heapSort D.a:=by kernel_rfl
theorem BU :D.u0=DG.breakPatterns D.a:=by kernel_rfl
theorem B1 :D.y0=DG.choosePivot D.a:=by kernel_rfl
theorem BZ :D.B0=DG.reverseRange D.a:=by kernel_rfl
theorem BD :D.v0=DG.partialInsertionSort D.a:=by kernel_rfl
theorem BS :D.w0=DG.partitionEqual D.a:=by kernel_rfl
theorem B9 :D.x0=DG.partition D.a:=by kernel_rfl
theorem Bu :∀(n:Nat) x a b c,D.A n x a b c=DG.pdqsortR D.a n x a b c
 |0,_,_,_,_=>rfl
 |n+1,x,a,b,c=>by
  unfold D.A DG.pdqsortR
  rw[BT,Cc,BU,B1,BZ,BD,BS,B9,funext (λx=>funext λa=>funext λb=>funext λc=>Bu n x a b c)]
  kernel_rfl
theorem CI (x):D.i0 x=DG.Sort D.a x:=by
 unfold D.i0 DG.Sort D.j DG.pdqsort
 simp only[Bu]
def CQ (F:LI)(K:Int):Prop:=∀u w,has K u=true→has K w=true→u≠w→nb F u w=true
def MX (F:LI)(n:Nat)(K:Int):Prop:=CQ F K∧∀w,w<n→has K w=false→∃u,has K u=true∧nb F u w=false
def In (n:Nat)(K:Int):Prop:=VS K∧∀w,has K w=true→w<n
structure Tgt (F:LI)(n:Nat)(C O K:Int):Prop where
 ok:In n K
 mx:MX F n K
 sup:∀w,has C w=true→has K w=true
 sub:∀w,has K w=true→has C w=true∨has O w=true
theorem In.lt {n:Nat}{K:Int}(h:In n K)(hn:n≤16):0≤K∧K<65536:=by
 obtain⟨m,rfl,hm⟩:=h.1.nat
 refine⟨by omega,?_⟩
 have:m<2^16:=by
  apply Nat.lt_pow_two_of_testBit
  intro i hi
  cases hc:m.testBit i
  ·rfl
  ·have:=h.2 i (by rw[Bo];exact hc)
   omega
 omega
theorem CD {n:Nat}{l:LI}(hn:n≤16)(h:∀K∈l,In n K)(hd:l.Nodup):l.length≤65536:=by
 have:=BB (m:=(List.range 65536).map Int.ofNat) hd (λK hK=>by
  have:=(h K hK).lt hn
  exact List.mem_map.2 ⟨K.toNat,List.mem_range.2 (by omega),by show ((K.toNat:Nat):Int)=K;omega⟩)
 simpa using this
structure BK (F:LI)(n:Nat)(C O S:Int):Prop where
 c:In n C
 o:In n O
 s:In n S
 cq:CQ F C
 cn:∀w,w<n→((has O w=true∨has S w=true)↔∀u,has C u=true→nb F u w=true)
 dis:∀w,has O w=true→has S w=false
theorem recFuel_33 :33≤BJ:=by have:=DN;omega
theorem Dl {k:Int→Int}{l:LI}(h:l.Pairwise (λa b=>k a<k b)):l.Nodup:=List.Pairwise.imp (λh e=>by subst e;omega) h
def Dw {α:Type}(b:LI)(P:α→Prop)(e:Option (α×LI×Int×Int)):Prop:=∃y,e=some y∧(P y.1∧y.2.1=b∧DK b y.2.2.1)
theorem Dw.then {α β:Type}{b:LI}{P:α→Prop}{e:Option (α×LI×Int×Int)}{k:α×LI×Int×Int→Option β}{Q:β→Prop}(h:Dw b P e)
  (hk:∀a i z,P a→DK b i→∃y,k (a,b,i,z)=some y∧Q y):∃y,e.bind k=some y∧Q y:=by
 obtain⟨⟨a,b',i,z⟩,rfl,h1,h2,h3⟩:=h
 dsimp only at h1 h2 h3
 subst h2
 exact hk a i z h1 h3
def Few (g:LL):Prop:=g.length≤17∧∀r∈g,r.length≤17
theorem Few.sh2 {g:LL}(h:Few g):Sh2 g:=⟨by have:=h.1;unfold Sh;omega,λr hr=>by have:=h.2 r hr;unfold Sh;omega⟩
theorem Few.set {g:LL}(h:Few g)(k:Nat){r:LI}(hr:r.length≤17):Few (g.set k r):=by
 refine⟨by have:=h.1;simpa using this,λx hx=> ?_⟩
 rcases List.mem_or_eq_of_mem_set hx with hx|rfl
 ·exact h.2 x hx
 ·exact hr
end Go.Sx
