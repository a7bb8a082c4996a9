/- Parts. -/
import Derived.Test.YtjhajfcggfhbmaaDoorIv2
import Derived.Test.YtjhajfcggfhbmaaDoorProg
import Derived.KernelRfl
import Derived.Lib.TrailingZeros
set_option linter.unusedVariables false
set_option linter.unusedSimpArgs false
set_option maxRecDepth 100000
namespace Go.Proofs.YtjhajfcggfhbmaaDoor
open Go Go.Sx
open Go.Proofs.Tryd Go.Proofs.YtjhajfcggfhbmaaDoor.Tryd IntKind
variable {W w : World} {G : GH} {H : List Itm}
theorem T54 :SlT prog 54 75 1 4 (.int .u32 0):=⟨underlying54,Tryd.t75,by kernel_rfl,by kernel_rfl,by kernel_rfl,by kernel_rfl⟩
theorem Wk.l {v0 v1:Value}{x0 x1:LI}(m:Mem W G w (H))(h0:R1 G v0 x0)(h1:R1 G v1 x1){y:Bool}(hd:D.l x0 x1=some y):
  Calls prog 58 #[v0,v1] w (Res W G H (λ_ Ho v=>Ho=[]∧v=(.bool y))):=by
 refine Ar (args:=[v0,v1]) (N:=26) [.tmp 4] func58 Z Z (lb Z) Z λa f=> ?_
 unfold D.l at hd
 refine Ae ?_
 refine Ac f Z λa f=>Aa (Af (Ae ?_))
 refine Ab f Z λa f=>Ba underlying49 f Z Z h0 λa f=>Ab f Z λa f=>Ba underlying49 f Z Z h1 λa f=>Ah f Z Z CJ λa f=>Aa ?_
 rcases Ad hd with⟨aa,hd⟩|⟨aa,hd⟩
 ·refine Aj f Z aa ?_
  refine Ae ?_
  refine Ac f Z λa f=>Aa ?_
  refine Ap ?_
  obtain rfl:=sj hd
  exact⟨[(.bool false)],f.g Z,f.d,_,[],gr,m,Z,Z⟩
 ·refine Ai f Z aa ?_
  refine Al ?_
  refine Af (Ae ?_)
  refine Ac f Z λa f=>Aa ?_
  have⟨ab,ac,hd⟩:=bind_some hd
  refine AG (λa w=>∃q_36':Unit,ab= .inl q_36'∧∃(ad:GH),GLe G ad∧Fr a 26 []∧Mem W ad w (H)) ?_ ?_
  ·refine Ak ?_
   refine AE (λae a w=>∃af:Int,af=ae∧∃(ag:GH),GLe G ag∧Fr a 26 [(0,v0),(1,v1),(5,(iv af))]∧Mem W ag w (H)) ac ⟨_,Z,_,gr,f.k Z,m⟩ ?_
   clear ac f m
   rintro ae ah ai aj a w ⟨af,rfl,ag,ak,f,m⟩
   have h0:=rd1 ak h0
   have h1:=rd1 ak h1
   refine Af (Ae ?_)
   refine Ab f Z λa f=>Ab f Z λa f=>Ba underlying49 f Z Z h0 λa f=>Ah f Z Z AI λa f=>Aa ?_
   rcases Ad ai with⟨al,ai⟩|⟨al,ai⟩
   ·refine Aj f Z al ?_
    refine Al ?_
    refine Af (Ak (Af ?_))
    refine Bb 9 AF (by kernel_rfl) m ?_
    refine Ag 0 9 Z f Z λa f=>Ag 1 9 Z f Z λa f=> ?_
    have⟨am,an,ai⟩:=bind_some ai
    refine Ct 2 9 T49 h0 an Z f Z Z λao ap a aq ar f=> ?_
    subst ar
    refine Cs 3 9 Pl2 aq Z f Z λa f=>Ag 4 9 Z f Z λa f=>Ag 5 9 Z f Z λa f=> ?_
    have⟨au,av,ai⟩:=bind_some ai
    refine Ct 6 9 T49 h1 av Z f Z Z λaw ax a ay az f=> ?_
    subst az
    refine Cs 7 9 Pl2 ay Z f Z λa f=>q_p 8 9 Z f (λ_=>Ay (f.e Z) (f.e Z) CJ) λa f=>A2 λaA w aB m=>Aa ?_
    rcases Ad ai with⟨aC,ai⟩|⟨aC,ai⟩
    ·refine Aj f Z aC ?_
     refine Ae ?_
     refine Ac f Z λa f=>Aa ?_
     refine Ap ?_
     obtain rfl:=sj ai
     obtain rfl:=aj _ rfl
     obtain rfl:=sj hd
     exact⟨[(.bool false)],f.g Z,f.d,_,[],(gt ak aB),m,Z,Z⟩
    ·refine Ai f Z aC ?_
     refine Al ?_
     refine An ?_
     refine Ab f Z λa f=>Ah f Z Z As λa f=>Ac f Z λa f=>Aa ?_
     obtain rfl:=sj ai
     exact⟨_,Z,_,Z,_,(gt ak aB),f.k Z,m⟩
   ·refine Ai f Z al ?_
    refine AC Z ?_
    obtain rfl:=sj ai
    obtain rfl:=aj _ rfl
    exact⟨_,Z,_,ak,f.weak trivial,m⟩
  ·rintro a w ⟨_,rfl,ad,aD,f,m⟩
   refine Ae ?_
   refine Ac f Z λa f=>Aa ?_
   refine Ap ?_
   obtain rfl:=sj hd
   exact⟨[(.bool true)],f.g Z,f.d,_,[],aD,m,Z,Z⟩
theorem Wk.S0 {aa ab:Value}{ac ad:LL}(m:Mem W G w (H))(ae:R2 G aa ac)(af:R2 G ab ad){y:Bool}(hd:D.S0 ac ad=some y):
  Calls prog 76 #[(.agg #[aa]),(.agg #[ab])] w (Res W G H (λ_ Ho v=>Ho=[]∧v=(.bool y))):=by
 refine Ar (args:=[(.agg #[aa]),(.agg #[ab])]) (N:=32) [.tmp 4] func76 Z Z (lb Z) Z λa f=> ?_
 unfold D.S0 at hd
 refine Ae ?_
 refine BG (cs:=[aa]) m f Z Z Z λag w a m f=>BG (cs:=[ab]) m f Z Z Z λah w a m f=>Ac f Z λa f=>Aa (Af (Ae ?_))
 refine Bd underlying27 Z sizeOf22 f Z λa f=>Aw 1 0 m B8 f Z Z Z Z λa f=>Ba underlying22 f Z Z ae λa f=>Bd underlying27 Z sizeOf22 f Z λa f=>Aw 0 0 m B8 f Z Z Z Z λa f=>Ba underlying22 f Z Z af λa f=>Ah f Z Z CJ λa f=>Aa ?_
 rcases Ad hd with⟨ai,hd⟩|⟨ai,hd⟩
 ·refine Aj f Z ai ?_
  refine Ae ?_
  refine Ac f Z λa f=>Aa ?_
  refine Ap ?_
  have m:Mem W G w H:=Mem.drop (H':=[ib ah 27 [ab],ib ag 27 [aa]]) m
  obtain rfl:=sj hd
  exact⟨[(.bool false)],f.g Z,f.d,_,[],gr,m,Z,Z⟩
 ·refine Ai f Z ai ?_
  refine Al ?_
  refine Af (Ae ?_)
  refine Ac f Z λa f=>Aa ?_
  have⟨aj,ak,hd⟩:=bind_some hd
  refine AG (λa w=>∃q_46':Unit,aj= .inl q_46'∧∃(al:GH),GLe G al∧Fr a 32 []∧Mem W al w (H)) ?_ ?_
  ·refine Ak ?_
   have m:=m.fr 1
   refine AE (λam a w=>∃an:Int,an=am∧∃(ao:GH),GLe G ao∧Fr a 32 [(2,(pb ag)),(3,(pb ah)),(5,(iv an))]∧Mem W ao w (ib ag 27 [aa]::ib ah 27 [ab]::H)) ak ⟨_,Z,_,gr,f.k Z,m⟩ ?_
   clear ak f m
   rintro am ap aq ar a w ⟨an,rfl,ao,au,f,m⟩
   have ae:=rd2 au ae
   have af:=rd2 au af
   refine Af (Ae ?_)
   refine Ab f Z λa f=>Bd underlying27 Z sizeOf22 f Z λa f=>Aw 0 0 m B8 f Z Z Z Z λa f=>Ba underlying22 f Z Z ae λa f=>Ah f Z Z AI λa f=>Aa ?_
   rcases Ad aq with⟨av,aq⟩|⟨av,aq⟩
   ·refine Aj f Z av ?_
    refine Al ?_
    refine Af (Ak (Af ?_))
    refine Bb 12 AF (by kernel_rfl) m ?_
    refine q_fa 0 12 underlying27 Z sizeOf22 Z f Z λa f=>CD 1 12 0 B8 Z Z Z f Z λa f=>Ag 2 12 Z f Z λa f=> ?_
    have⟨aw,ax,aq⟩:=bind_some aq
    refine Ct 3 12 T22 ae ax Z f Z Z λay az a aA aB f=>Cs 4 12 C6 aA Z f Z λa f=>q_fa 5 12 underlying27 Z sizeOf22 Z f Z λa f=>CD 6 12 1 B8 Z Z Z f Z λa f=>Ag 7 12 Z f Z λa f=> ?_
    have⟨aC,aD,aq⟩:=bind_some aq
    refine Ct 8 12 T22 af aD Z f Z Z λaE aF a aG aH f=>Cs 9 12 C6 aG Z f Z λa f=> ?_
    have⟨aI,aJ,aq⟩:=bind_some aq
    refine Cu (i:=10) 12 Z (by kernel_rfl) Z f Z Z Z call58 (λ_ _ w aK m=>Wk.l m (rd1 aK aB) (rd1 aK aH) aJ) λa f=>q_p 11 12 Z f (λ_=>Bt (f.e Z)) λa f=>A2 λaL w aM m=>Aa ?_
    rcases Ad aq with⟨aN,aq⟩|⟨aN,aq⟩
    ·refine Aj f Z aN ?_
     refine Ae ?_
     refine Ac f Z λa f=>Aa ?_
     refine Ap ?_
     have m:Mem W aL w H:=Mem.drop (H':=[ib ag 27 [aa],ib ah 27 [ab]]) m
     obtain rfl:=sj aq
     obtain rfl:=ar _ rfl
     obtain rfl:=sj hd
     exact⟨[(.bool false)],f.g Z,f.d,_,[],(gt au aM),m,Z,Z⟩
    ·refine Ai f Z aN ?_
     refine Al ?_
     refine An ?_
     refine Ab f Z λa f=>Ah f Z Z As λa f=>Ac f Z λa f=>Aa ?_
     obtain rfl:=sj aq
     exact⟨_,Z,_,Z,_,(gt au aM),f.k Z,m⟩
   ·refine Ai f Z av ?_
    refine AC Z ?_
    have m:Mem W ao w H:=Mem.drop (H':=[ib ag 27 [aa],ib ah 27 [ab]]) m
    obtain rfl:=sj aq
    obtain rfl:=ar _ rfl
    exact⟨_,Z,_,au,f.weak trivial,m⟩
  ·rintro a w ⟨_,rfl,al,aO,f,m⟩
   refine Ae ?_
   refine Ac f Z λa f=>Aa ?_
   refine Ap ?_
   obtain rfl:=sj hd
   exact⟨[(.bool true)],f.g Z,f.d,_,[],aO,m,Z,Z⟩
theorem Wk.s0 {aa ab:Value}{ac ad:LL}(m:Mem W G w (H))(ae:R2 G aa ac)(af:R2 G ab ad){y:Bool}(hd:D.s0 ac ad=some y):
  Calls prog 43 #[(.agg #[aa]),(.agg #[ab])] w (Res W G H (λ_ Ho v=>Ho=[]∧v=(.bool y))):=by
 refine Ar (args:=[(.agg #[aa]),(.agg #[ab])]) (N:=16) [.tmp 4] func43 Z Z (lb Z) Z λa f=> ?_
 unfold D.s0 at hd
 refine Ae ?_
 refine BG (cs:=[aa]) m f Z Z Z λag w a m f=>BG (cs:=[ab]) m f Z Z Z λah w a m f=>Ac f Z λa f=>Av ?_
 refine A4 1 0 (ds:=[aa]) m BB f Z Z Z Z Z λa f=> ?_
 have⟨ai,aj,hd⟩:=bind_some hd
 refine Bc f Z call26 (Wk.o m ae aj) λak w al m a f=> ?_
 have ae:=rd2 al ae
 have af:=rd2 al af
 refine Ab f Z λa f=> ?_
 have⟨am,an,hd⟩:=bind_some hd
 refine Bx 3 (λa w=>∃ao,GLe ak ao∧Mem W ao w (ib ah 27 [ab]::ib ag 27 [aa]::H)∧Fr a 16 [(0,(.agg #[aa])),(1,(.agg #[ab])),(2,(pb ag)),(3,(pb ah)),(5,(.agg #[aa])),(6,(.bool ai)),(7,(.bool ai)),(10,(.bool am))]) ?_ ?_
 ·rcases Ad an with⟨ap,an⟩|⟨ap,an⟩
  ·refine Ax f ap ?_
   refine A4 0 0 (ds:=[ab]) m BB f Z Z Z Z Z λa f=>Ax f ap ?_
   have⟨aq,ar,an⟩:=bind_some an
   refine Bc f Z call26 (Wk.o m af ar) λau w av m a f=>l_o f (AK (f.e Z) ap (f.e Z)) λa f=> ?_
   obtain rfl:=sj an
   exact⟨_,av,m,f.k Z⟩
  ·refine Az f ap λa f=> ?_
   refine Az f ap λa f=>l_o f (AJ (f.e Z) ap (f.e Z)) λa f=> ?_
   obtain rfl:=sj an
   exact⟨_,gr,m,f.k Z⟩
 ·rintro a w ⟨ao,aw,m,f⟩
  have ae:=rd2 aw ae
  have af:=rd2 aw af
  refine Ab f Z λa f=> ?_
  have⟨ax,ay,hd⟩:=bind_some hd
  refine Bx 4 (λa w=>∃az,GLe ao az∧Mem W az w (ib ah 27 [ab]::ib ag 27 [aa]::H)∧Fr a 16 [(0,(.agg #[aa])),(1,(.agg #[ab])),(2,(pb ag)),(3,(pb ah)),(5,(.agg #[aa])),(6,(.bool ai)),(7,(.bool ai)),(10,(.bool am)),(11,(.bool am)),(15,(.bool ax))]) ?_ ?_
  ·rcases Ad ay with⟨aA,ay⟩|⟨aA,ay⟩
   ·refine Ax f aA ?_
    refine A4 1 0 (ds:=[aa]) m BB f Z Z Z Z Z λa f=>Ax f aA ?_
    refine A4 0 0 (ds:=[ab]) m BB f Z Z Z Z Z λa f=>Ax f aA ?_
    have⟨aB,aC,ay⟩:=bind_some ay
    refine Bc f Z call76 (Wk.S0 m ae af aC) λaD w aE m a f=>l_o f (AK (f.e Z) aA (f.e Z)) λa f=> ?_
    obtain rfl:=sj ay
    exact⟨_,aE,m,f.k Z⟩
   ·refine Az f aA λa f=> ?_
    refine Az f aA λa f=>Az f aA λa f=>l_o f (AJ (f.e Z) aA (f.e Z)) λa f=> ?_
    obtain rfl:=sj ay
    exact⟨_,gr,m,f.k Z⟩
  ·rintro a w ⟨az,aF,m,f⟩
   refine Ac f Z λa f=>Aa ?_
   refine Ap ?_
   have m:Mem W az w H:=Mem.drop (H':=[ib ah 27 [ab],ib ag 27 [aa]]) m
   obtain rfl:=sj hd
   exact⟨[(.bool ax)],f.g Z,f.d,_,[],(gt al (gt aw aF)),m,Z,Z⟩
theorem Wk.O {aa v1:Value}{ab:LL}{x1:(List (Int×Int))}(m:Mem W G w (H))(ac:R2 G aa ab)(h1:RSr P2 G v1 x1){y:Bool}(hd:D.O ab x1=some y):
  Calls prog 19 #[(.agg #[aa]),v1] w (Res W G H (λ_ Ho v=>Ho=[]∧v=(.bool y))):=by
 refine Ar (args:=[(.agg #[aa]),v1]) (N:=17) [.tmp 4] func19 Z Z (lb Z) Z λa f=> ?_
 unfold D.O at hd
 refine Ae ?_
 refine BG (cs:=[aa]) m f Z Z Z λad w a m f=>Ac f Z λa f=>Aa (Af ?_)
 refine Bb 13 AF (by kernel_rfl) m ?_
 refine q_boxAgg (i:=0) (ds:=[aa]) 13 0 BB Z Z Z Z (by kernel_rfl) Z f Z Z Z λa f=> ?_
 have⟨ae,af,hd⟩:=bind_some hd
 refine Cu (i:=1) 13 Z (by kernel_rfl) Z f Z Z Z call26 (λ_ _ w ag m=>Wk.o m (rd2 ag ac) af) λa f=>Ag 2 13 Z f Z λa f=> ?_
 have⟨ah,ai,hd⟩:=bind_some hd
 refine Cr (fuel':=7) (listed':= #[true,true,true,true,true,true,false,false,false,false,false,false,false]) (λa=>Fr a 17 [(0,(.agg #[aa])),(1,v1),(2,(pb ad)),(5,(.agg #[aa])),(6,(.bool ae)),(7,(.bool ae)),(10,(.bool ah))]) ?_ ?_
 ·intro a f
  refine Ag 6 13 Z f Z λa f=> ?_
  rcases Ad hd with⟨aj,hd⟩|⟨aj,hd⟩
  ·refine q_boxAgg (i:=7) (ds:=[aa]) 13 0 BB Z Z Z Z (by kernel_rfl) Z f (Bh f Z Z Z aj) Z Z λa f=> ?_
   refine Ag (hw:=wo f aj) 8 13 Z f Z λa f=>q_on 9 Z λak w al m am am=> ?_
   have ac:=rd2 al ac
   have h1:=RSr.mono trivial _ _ _ _ al h1
   refine Ax f aj ?_
   have⟨an,ao,hd⟩:=bind_some hd
   refine AN f Z call44 (Wk.u0 m h1 ao) λap aq ar w au m av a f=> ?_
   obtain⟨aw,ax,rfl,rfl,ay⟩:=av
   have ac:=rd2 au ac
   refine Aa ?_
   refine am aq [ax] _ _ au m ?_
   refine q_on 10 Z λaz w aA m aB aB=> ?_
   have ac:=rd2 aA ac
   have ay:=Ow.mono (RSl.mono (RI.mono _)) aA ay
   refine Ax f aj ?_
   have⟨aC,aD,hd⟩:=bind_some hd
   refine AN f Z call43 (Ow.lendCall (RSl.mono (RI.mono _)) 0 ay m Z (λaE aF m aG=>Wk.s0 m (rd2 aF ac) aG aD) (λ_ _ _ _ h=>h)) λaH aI aJ w aK m aL a f=> ?_
   obtain⟨rfl,rfl⟩:=aL
   refine Aa ?_
   refine aB aI [ax] _ _ aK m ?_
   refine q_p 11 13 Z f (λ_=>AK (f.e Z) aj (f.e Z)) λa f=>q_p 12 13 Z f (λ_=>CY (f.e Z)) λa f=>A2 λaM w aN m=>Aa ?_
   refine Ap ?_
   have m:Mem W aM w H:=Mem.drop (H':=[ax,ib ad 27 [aa]]) m
   obtain rfl:=sj hd
   exact⟨[(.bool aC)],f.g Z,f.d,_,[],(gt al (gt au (gt aA (gt aK aN)))),m,Z,Z⟩
  ·refine Aq 7 13 Z f aj λa f=> ?_
   refine Aq 8 13 Z f aj λa f=>Aq 9 13 Z f aj λa f=>Aq 10 13 Z f aj λa f=>q_p 11 13 Z f (λ_=>AJ (f.e Z) aj (f.e Z)) λa f=>q_p 12 13 Z f (λ_=>CY (f.e Z)) λa f=>A2 λaO w aP m=>Aa ?_
   refine Ap ?_
   have m:Mem W aO w H:=Mem.drop (H':=[ib ad 27 [aa]]) m
   obtain rfl:=sj hd
   exact⟨[(.bool false)],f.g Z,f.d,_,[],aP,m,Z,Z⟩
 ·intro aQ
  rcases Ad ai with⟨aR,ai⟩|⟨aR,ai⟩
  ·refine Ag (hw:=wo f aR) 3 13 Z f Z λa f=> ?_
   have⟨aS,aT,ai⟩:=bind_some ai
   refine Cu (i:=4) 13 Z (by kernel_rfl) Z f (Bh f Z Z Z aR) Z Z call42 (λ_ _ w aU m=>Wk.j0 m (RSr.mono trivial _ _ _ _ aU h1) aT) λa f=>q_p 5 13 Z f (λ_=>AK (f.e Z) aR (f.e Z)) λa f=> ?_
   obtain rfl:=sj ai
   exact aQ _ (f.k Z)
  ·refine Aq 3 13 Z f aR λa f=> ?_
   refine Aq 4 13 Z f aR λa f=>q_p 5 13 Z f (λ_=>AJ (f.e Z) aR (f.e Z)) λa f=> ?_
   obtain rfl:=sj ai
   exact aQ _ (f.k Z)
theorem Wk.O0 {x0 x1 x2:Int}(m:Mem W G w (H)){y:Bool}(hd:D.O0 x0 x1 x2=some y):
  Calls prog 89 #[(iv x0),(iv x1),(iv x2)] w (Res W G H (λ_ Ho v=>Ho=[]∧v=(.bool y))):=by
 refine Ar (args:=[(iv x0),(iv x1),(iv x2)]) (N:=15) [.tmp 6] func89 Z Z (lb Z) Z λa f=> ?_
 unfold D.O0 at hd
 refine Ae ?_
 refine Ac f Z λa f=>Av ?_
 refine Ab f Z λa f=>Ab f Z λa f=>Ah f Z Z BT λa f=>Ab f Z λa f=> ?_
 refine Bx 4 (λa w=>∃aa,GLe G aa∧Mem W aa w (H)∧Fr a 15 [(0,(iv x0)),(1,(iv x1)),(2,(iv x2)),(7,(iv x1)),(8,(iv x0)),(9,(.bool (decide (x1≤x0)))),(10,(.bool (decide (x1≤x0)))),(14,(.bool ((decide (x1≤x0))&&(decide (x0≤x2)))))]) ?_ ?_
 ·rcases Bool.eq_false_or_eq_true (decide (x1≤x0)) with ab|ab
  ·refine Ax f ab ?_
   refine Ab f Z λa f=>Ax f ab ?_
   refine Ab f Z λa f=>Ax f ab ?_
   refine Ah f Z Z BT λa f=>l_o f (AK (f.e Z) ab (f.e Z)) λa f=> ?_
   exact⟨_,gr,m,f.weak ⟨Z,Z,Z,Z,Z,Z,Z,by rw[ab];rfl,trivial⟩⟩
  ·refine Az f ab λa f=> ?_
   refine Az f ab λa f=>Az f ab λa f=>l_o f (AJ (f.e Z) ab (f.e Z)) λa f=> ?_
   exact⟨_,gr,m,f.weak ⟨Z,Z,Z,Z,Z,Z,Z,by rw[ab];rfl,trivial⟩⟩
 ·rintro a w ⟨aa,ac,m,f⟩
  refine Ac f Z λa f=>Aa ?_
  refine Ap ?_
  obtain rfl:=sj hd
  exact⟨[(.bool ((decide (x1≤x0))&&(decide (x0≤x2))))],f.g Z,f.d,_,[],ac,m,Z,Z⟩
theorem Wk.U {v0:Value}{x0:LI}{x1:Int}(m:Mem W G w (H))(h0:R1 G v0 x0){y:Bool}(hd:D.U x0 x1=some y):
  Calls prog 64 #[v0,(iv x1)] w (Res W G H (λ_ Ho v=>Ho=[]∧v=(.bool y))):=by
 refine Ar (args:=[v0,(iv x1)]) (N:=33) [.tmp 4] func64 Z Z (lb Z) Z λa f=> ?_
 unfold D.U at hd
 refine Ae ?_
 refine Ac f Z λa f=>Aa (Af (Ae ?_))
 refine Ab f Z λa f=>Ba underlying49 f Z Z h0 λa f=>Ab f Z λa f=>Aa ?_
 have⟨aa,ab,hd⟩:=bind_some hd
 refine AG (λa w=>∃q_181':Unit,aa= .inl q_181'∧∃(ac:GH),GLe G ac∧Fr a 33 []∧Mem W ac w (H)) ?_ ?_
 ·refine Ak ?_
  refine AE (λad a w=>∃ae:Int,ae=ad∧∃(af:GH),GLe G af∧Fr a 33 [(0,v0),(1,(iv x1)),(7,v0),(8,(iv (x0.length:Int))),(9,(iv ae))]∧Mem W af w (H)) ab ⟨_,Z,_,gr,f.k Z,m⟩ ?_
  clear ab f m
  rintro ad ag ah ai a w ⟨ae,rfl,af,aj,f,m⟩
  have h0:=rd1 aj h0
  refine Ae ?_
  refine Ah f Z Z AI λa f=>Aa (Af ?_)
  rcases Ad ah with⟨ak,ah⟩|⟨ak,ah⟩
  ·refine Aj f Z ak ?_
   refine Al ?_
   refine Af (Ak (Ae ?_))
   refine Ab f Z λa f=> ?_
   have⟨al,am,ah⟩:=bind_some ah
   refine BQ T49 f Z Z Z h0 am λan ao a ap aq f=> ?_
   subst aq
   refine A7 m Pl2 f Z Z ap λa f=>Ac f Z λa f=>Ac f Z λa f=>Av ?_
   refine Ab f Z λa f=>Ab f Z λa f=>Ah f Z Z AT λa f=> ?_
   have⟨ar,au,ah⟩:=bind_some ah
   refine Bc f Z call89 (Wk.O0 m au) λav w aw m a f=> ?_
   have h0:=rd1 aw h0
   refine l_o f (Bt (f.e Z)) λa f=>Ab f Z λa f=> ?_
   have⟨ax,ay,ah⟩:=bind_some ah
   refine Bx 12 (λa w=>∃az,GLe av az∧Mem W az w (H)∧Fr a 33 [(0,v0),(1,(iv x1)),(5,(iv ae)),(6,(iv al)),(7,v0),(8,(iv (x0.length:Int))),(9,(iv ae)),(14,(iv al)),(15,(iv x1)),(16,(iv (i64.wrap (x1-1)))),(17,(.bool ar)),(18,(.bool (!ar))),(19,(.bool (!ar))),(31,(.bool ax))]) ?_ ?_
   ·rcases Ad ay with⟨aA,ay⟩|⟨aA,ay⟩
    ·refine Az f aA λa f=> ?_
     refine Az f aA λa f=>Az f aA λa f=>CV f Z Z Z λa f=>CV f Z Z Z λa f=>CV f Z Z Z λa f=>CV f Z Z Z λa f=>CV f Z Z Z λa f=>CV f Z Z Z λa f=>CV f Z Z Z λa f=>Az f aA λa f=>l_o f (AK (f.e Z) aA (f.e Z)) λa f=> ?_
     obtain rfl:=sj ay
     exact⟨_,gr,m,f.k Z⟩
    ·refine Ax f aA ?_
     refine Ab f Z λa f=>Ax f aA ?_
     refine Ah f Z Z CC λa f=>Ax f aA ?_
     refine Ab f Z λa f=> ?_
     have⟨aB,aC,ay⟩:=bind_some ay
     refine Bx 8 (λa w=>∃aD,GLe av aD∧Mem W aD w (H)∧Fr a 33 [(0,v0),(1,(iv x1)),(5,(iv ae)),(6,(iv al)),(7,v0),(8,(iv (x0.length:Int))),(9,(iv ae)),(14,(iv al)),(15,(iv x1)),(16,(iv (i64.wrap (x1-1)))),(17,(.bool ar)),(18,(.bool (!ar))),(19,(.bool (!ar))),(20,(iv ae)),(21,(.bool (decide ((0:Int)<ae)))),(22,(.bool (decide ((0:Int)<ae)))),(30,(.bool aB))]) ?_ ?_
     ·rcases Ad aC with⟨aE,aC⟩|⟨aE,aC⟩
      ·refine Ax f aE ?_
       refine Ab f Z λa f=>Ax f aE ?_
       refine Ab f Z λa f=>Ax f aE ?_
       refine Ah f Z Z AT λa f=>Ax f aE ?_
       have⟨aF,aG,aC⟩:=bind_some aC
       refine BQ T49 f Z Z Z h0 aG λaH aI a aJ aK f=> ?_
       subst aK
       refine Ax f aE ?_
       refine A7 m Pl2 f Z Z aJ λa f=>Ax f aE ?_
       refine Ab f Z λa f=>Ax f aE ?_
       refine Ah f Z Z B3 λa f=>Ax f aA ?_
       refine l_o f (AK (f.e Z) aE (f.e Z)) λa f=> ?_
       obtain rfl:=sj aC
       exact⟨_,gr,m,f.k Z⟩
      ·refine Az f aE λa f=> ?_
       refine Az f aE λa f=>Az f aE λa f=>Az f aE λa f=>Az f aE λa f=>Az f aE λa f=>Az f aE λa f=>Ax f aA ?_
       refine l_o f (AJ (f.e Z) aE (f.e Z)) λa f=> ?_
       obtain rfl:=sj aC
       exact⟨_,gr,m,f.k Z⟩
     ·rintro a w ⟨aD,aL,m,f⟩
      refine l_o f (AJ (f.e Z) aA (f.e Z)) λa f=> ?_
      obtain rfl:=sj ay
      exact⟨_,aL,m,f.k Z⟩
   ·rintro a w ⟨az,aM,m,f⟩
    refine Aa ?_
    rcases Ad ah with⟨aN,ah⟩|⟨aN,ah⟩
    ·refine Aj f Z aN ?_
     refine Ae ?_
     refine Ac f Z λa f=>Aa ?_
     refine Ap ?_
     obtain rfl:=sj ah
     obtain rfl:=ai _ rfl
     obtain rfl:=sj hd
     exact⟨[(.bool false)],f.g Z,f.d,_,[],(gt aj (gt aw aM)),m,Z,Z⟩
    ·refine Ai f Z aN ?_
     refine Al ?_
     refine An ?_
     refine Ah f Z Z As λa f=>Ab f Z λa f=>Aa ?_
     obtain rfl:=sj ah
     exact⟨_,Z,_,Z,_,(gt aj (gt aw aM)),f.k Z,m⟩
  ·refine Ai f Z ak ?_
   refine AC Z ?_
   obtain rfl:=sj ah
   obtain rfl:=ai _ rfl
   exact⟨_,Z,_,aj,f.weak trivial,m⟩
 ·rintro a w ⟨_,rfl,ac,aO,f,m⟩
  refine Ae ?_
  refine Ac f Z λa f=>Aa ?_
  refine Ap ?_
  obtain rfl:=sj hd
  exact⟨[(.bool true)],f.g Z,f.d,_,[],aO,m,Z,Z⟩
theorem Wk.f {aa:Value}{ab:LL}(m:Mem W G w (H))(ac:R2 G aa ab){y:Bool}(hd:D.f ab=some y):
  Calls prog 30 #[(.agg #[aa])] w (Res W G H (λ_ Ho v=>Ho=[]∧v=(.bool y))):=by
 refine Ar (args:=[(.agg #[aa])]) (N:=61) [.tmp 2] func30 Z Z (lb Z) Z λa f=> ?_
 unfold D.f at hd
 refine Ae ?_
 refine BG (cs:=[aa]) m f Z Z Z λad w a m f=>Ac f Z λa f=>Av ?_
 refine Bd underlying27 Z sizeOf22 f Z λa f=>Aw 0 0 m B8 f Z Z Z Z λa f=>Ba underlying22 f Z Z ac λa f=>Ac f Z λa f=>Aa (Af (Ae ?_))
 refine Ab f Z λa f=>Ah f Z Z AI λa f=>Ab f Z λa f=> ?_
 refine Bx 3 (λa w=>∃ae,GLe G ae∧Mem W ae w (ib ad 27 [aa]::H)∧Fr a 61 [(0,(.agg #[aa])),(1,(pb ad)),(3,(iv (ab.length:Int))),(13,(iv (ab.length:Int))),(14,(.bool (decide ((ab.length:Int)<1)))),(15,(.bool (decide ((ab.length:Int)<1)))),(18,(.bool ((decide ((ab.length:Int)<1))||(decide ((16:Int)<(ab.length:Int))))))]) ?_ ?_
 ·rcases Bool.eq_false_or_eq_true (decide ((ab.length:Int)<1)) with af|af
  ·refine Az f af λa f=> ?_
   refine Az f af λa f=>l_o f (AK (f.e Z) af (f.e Z)) λa f=> ?_
   exact⟨_,gr,m,f.weak ⟨Z,Z,Z,Z,Z,Z,by rw[af];rfl,trivial⟩⟩
  ·refine Ax f af ?_
   refine Ab f Z λa f=>Ax f af ?_
   refine Ah f Z Z CC λa f=>l_o f (AJ (f.e Z) af (f.e Z)) λa f=> ?_
   exact⟨_,gr,m,f.weak ⟨Z,Z,Z,Z,Z,Z,by rw[af];rfl,trivial⟩⟩
 ·rintro a w ⟨ae,ag,m,f⟩
  have ac:=rd2 ag ac
  refine Aa ?_
  rcases Ad hd with⟨ah,hd⟩|⟨ah,hd⟩
  ·refine Aj f Z ah ?_
   refine Ae ?_
   refine Ac f Z λa f=>Aa ?_
   refine Ap ?_
   have m:Mem W ae w H:=Mem.drop (H':=[ib ad 27 [aa]]) m
   obtain rfl:=sj hd
   exact⟨[(.bool false)],f.g Z,f.d,_,[],ag,m,Z,Z⟩
  ·refine Ai f Z ah ?_
   refine Al ?_
   refine Af (Ae ?_)
   refine Bd underlying27 Z sizeOf22 f Z λa f=>Aw 0 0 m B8 f Z Z Z Z λa f=>Ba underlying22 f Z Z ac λa f=>Ab f Z λa f=>Aa ?_
   have⟨ai,aj,hd⟩:=bind_some hd
   refine AG (λa w=>∃q_91':Unit,ai= .inl q_91'∧∃(ak:GH),GLe ae ak∧Fr a 61 [(1,(pb ad))]∧Mem W ak w (ib ad 27 [aa]::H)) ?_ ?_
   ·refine Ak ?_
    refine AE (λal a w=>∃am:Int,am=al∧∃(an:GH),GLe ae an∧Fr a 61 [(1,(pb ad)),(3,(iv (ab.length:Int))),(20,aa),(21,(iv (ab.length:Int))),(22,(iv am))]∧Mem W an w (ib ad 27 [aa]::H)) aj ⟨_,Z,_,gr,f.k Z,m⟩ ?_
    clear aj f m
    rintro al ao ap aq a w ⟨am,rfl,an,ar,f,m⟩
    have ac:=rd2 ar ac
    refine Ae ?_
    refine Ah f Z Z AI λa f=>Aa (Af ?_)
    rcases Ad ap with⟨au,ap⟩|⟨au,ap⟩
    ·refine Aj f Z au ?_
     refine Al ?_
     refine Af (Ak (Ae ?_))
     refine Ab f Z λa f=> ?_
     have⟨av,aw,ap⟩:=bind_some ap
     refine BQ T22 f Z Z Z ac aw λax ay a az aA f=>A7 m C6 f Z Z az λa f=>Ac f Z λa f=>Ac f Z λa f=>Av ?_
     refine Ab f Z λa f=>Ab f Z λa f=> ?_
     have⟨aB,aC,ap⟩:=bind_some ap
     refine Bc f Z call64 (Wk.U m aA aC) λaD w aE m a f=> ?_
     have aA:=rd1 aE aA
     refine l_o f (Bt (f.e Z)) λa f=>Ab f Z λa f=> ?_
     have⟨aF,aG,ap⟩:=bind_some ap
     refine Bx 4 (λa w=>∃aH,GLe aD aH∧Mem W aH w (ib ad 27 [aa]::H)∧Fr a 61 [(1,(pb ad)),(3,(iv (ab.length:Int))),(4,(iv am)),(5,ay),(20,aa),(21,(iv (ab.length:Int))),(22,(iv am)),(27,ay),(28,(iv (ab.length:Int))),(29,(.bool aB)),(30,(.bool (!aB))),(31,(.bool (!aB))),(35,(.bool aF))]) ?_ ?_
     ·rcases Ad aG with⟨aI,aG⟩|⟨aI,aG⟩
      ·refine Az f aI λa f=> ?_
       refine Az f aI λa f=>Az f aI λa f=>l_o f (AK (f.e Z) aI (f.e Z)) λa f=> ?_
       obtain rfl:=sj aG
       exact⟨_,gr,m,f.k Z⟩
      ·refine Ax f aI ?_
       refine Ab f Z λa f=>Ax f aI ?_
       refine Ab f Z λa f=>Ax f aI ?_
       have⟨aJ,aK,aG⟩:=bind_some aG
       refine Bc f Z call65 (Wk.N m aA aK) λaL w aM m a f=>l_o f (AJ (f.e Z) aI (f.e Z)) λa f=> ?_
       obtain rfl:=sj aG
       exact⟨_,aM,m,f.k Z⟩
     ·rintro a w ⟨aH,aN,m,f⟩
      refine Aa ?_
      rcases Ad ap with⟨aO,ap⟩|⟨aO,ap⟩
      ·refine Aj f Z aO ?_
       refine Ae ?_
       refine Ac f Z λa f=>Aa ?_
       refine Ap ?_
       have m:Mem W aH w H:=Mem.drop (H':=[ib ad 27 [aa]]) m
       obtain rfl:=sj ap
       obtain rfl:=aq _ rfl
       obtain rfl:=sj hd
       exact⟨[(.bool false)],f.g Z,f.d,_,[],(gt ag (gt ar (gt aE aN))),m,Z,Z⟩
      ·refine Ai f Z aO ?_
       refine Al ?_
       refine An ?_
       refine Ah f Z Z As λa f=>Ab f Z λa f=>Aa ?_
       obtain rfl:=sj ap
       exact⟨_,Z,_,Z,_,(gt ar (gt aE aN)),f.k Z,m⟩
    ·refine Ai f Z au ?_
     refine AC Z ?_
     obtain rfl:=sj ap
     obtain rfl:=aq _ rfl
     exact⟨_,Z,_,ar,f.k Z,m⟩
   ·rintro a w ⟨_,rfl,ak,aP,f,m⟩
    have ac:=rd2 aP ac
    refine Af (Ae ?_)
    refine Bd underlying27 Z sizeOf22 f Z λa f=>Aw 0 0 m B8 f Z Z Z Z λa f=>Ba underlying22 f Z Z ac λa f=>Ab f Z λa f=>Aa ?_
    have⟨aQ,aR,hd⟩:=bind_some hd
    refine AG (λa w=>∃q_394':Unit,aQ= .inl q_394'∧∃(aS:GH),GLe ak aS∧Fr a 61 []∧Mem W aS w (H)) ?_ ?_
    ·refine Ak ?_
     refine AE (λaT a w=>∃aU:Int,aU=aT∧∃(aV:GH),GLe ak aV∧Fr a 61 [(1,(pb ad)),(38,aa),(39,(iv (ab.length:Int))),(40,(iv aU))]∧Mem W aV w (ib ad 27 [aa]::H)) aR ⟨_,Z,_,gr,f.k Z,m⟩ ?_
     clear aR f m
     rintro aT aW aX aY a w ⟨aU,rfl,aV,aZ,f,m⟩
     have ac:=rd2 aZ ac
     refine Ae ?_
     refine Ah f Z Z AI λa f=>Aa (Af ?_)
     rcases Ad aX with⟨a0,aX⟩|⟨a0,aX⟩
     ·refine Aj f Z a0 ?_
      refine Al ?_
      refine Af (Ak (Ae ?_))
      refine Ab f Z λa f=> ?_
      have⟨a1,a2,aX⟩:=bind_some aX
      refine BQ T22 f Z Z Z ac a2 λa3 a4 a a5 a6 f=>A7 m C6 f Z Z a5 λa f=>Ac f Z λa f=>Ac f Z λa f=>Av ?_
      refine Ab f Z λa f=>Ba underlying49 f Z Z a6 λa f=>Ab f Z λa f=>Aa ?_
      have⟨a7,a8,aX⟩:=bind_some aX
      refine AG (λa w=>∃q_560':Unit,a7= .inl q_560'∧∃(a9:GH),GLe aV a9∧Fr a 61 [(1,(pb ad)),(38,aa),(39,(iv (ab.length:Int))),(40,(iv aU))]∧Mem W a9 w (ib ad 27 [aa]::H)) ?_ ?_
      ·refine Ak ?_
       refine AE (λba a w=>∃bb:Int,bb=ba∧∃(bc:GH),GLe aV bc∧Fr a 61 [(1,(pb ad)),(6,(iv aU)),(38,aa),(39,(iv (ab.length:Int))),(40,(iv aU)),(45,a4),(46,(iv (a1.length:Int))),(47,(iv bb))]∧Mem W bc w (ib ad 27 [aa]::H)) a8 ⟨_,Z,_,gr,f.k Z,m⟩ ?_
       clear a8 f m
       rintro ba bd be bf a w ⟨bb,rfl,bc,bg,f,m⟩
       have ac:=rd2 bg ac
       have a6:=rd1 bg a6
       refine Ae ?_
       refine Ah f Z Z AI λa f=>Aa (Af ?_)
       rcases Ad be with⟨bh,be⟩|⟨bh,be⟩
       ·refine Aj f Z bh ?_
        refine Al ?_
        refine Af (Ak (Ae ?_))
        have⟨bi,bj,be⟩:=bind_some be
        refine BQ T49 f Z Z Z a6 bj λbk bl a bm bn f=> ?_
        subst bn
        refine A7 m Pl2 f Z Z bm λa f=>Ac f Z λa f=>Av ?_
        refine Bd underlying27 Z sizeOf22 f Z λa f=>Aw 0 0 m B8 f Z Z Z Z λa f=>Ab f Z λa f=> ?_
        have⟨bo,bp,be⟩:=bind_some be
        refine BQ T22 f Z Z Z ac bp λbq br a bs bt f=>A7 m C6 f Z Z bs λa f=>Ab f Z λa f=> ?_
        have⟨bu,bv,be⟩:=bind_some be
        refine Bc f Z call65 (Wk.N m bt bv) λbw w bx m a f=>l_o f (Bt (f.e Z)) λa f=>Aa ?_
        rcases Ad be with⟨bz,be⟩|⟨bz,be⟩
        ·refine Aj f Z bz ?_
         refine Ae ?_
         refine Ac f Z λa f=>Aa ?_
         refine Ap ?_
         have m:Mem W bw w H:=Mem.drop (H':=[ib ad 27 [aa]]) m
         obtain rfl:=sj be
         obtain rfl:=bf _ rfl
         obtain rfl:=sj aX
         obtain rfl:=aY _ rfl
         obtain rfl:=sj hd
         exact⟨[(.bool false)],f.g Z,f.d,_,[],(gt ag (gt aP (gt aZ (gt bg bx)))),m,Z,Z⟩
        ·refine Ai f Z bz ?_
         refine Al ?_
         refine An ?_
         refine Ah f Z Z As λa f=>Ab f Z λa f=>Aa ?_
         obtain rfl:=sj be
         exact⟨_,Z,_,Z,_,(gt bg bx),f.k Z,m⟩
       ·refine Ai f Z bh ?_
        refine AC Z ?_
        obtain rfl:=sj be
        obtain rfl:=bf _ rfl
        exact⟨_,Z,_,bg,f.k Z,m⟩
      ·rintro a w ⟨_,rfl,a9,bA,f,m⟩
       refine An ?_
       refine Ah f Z Z As λa f=>Ab f Z λa f=>Aa ?_
       obtain rfl:=sj aX
       exact⟨_,Z,_,Z,_,(gt aZ bA),f.k Z,m⟩
     ·refine Ai f Z a0 ?_
      refine AC Z ?_
      have m:Mem W aV w H:=Mem.drop (H':=[ib ad 27 [aa]]) m
      obtain rfl:=sj aX
      obtain rfl:=aY _ rfl
      exact⟨_,Z,_,aZ,f.weak trivial,m⟩
    ·rintro a w ⟨_,rfl,aS,bB,f,m⟩
     refine Ae ?_
     refine Ac f Z λa f=>Aa ?_
     refine Ap ?_
     obtain rfl:=sj hd
     exact⟨[(.bool true)],f.g Z,f.d,_,[],(gt ag (gt aP bB)),m,Z,Z⟩
theorem Wk.o0 {v0:Value}{x0:LI}(m:Mem W G w (H))(h0:R1 G v0 x0){y:Int}(hd:D.o0 x0=some y):
  Calls prog 72 #[v0] w (Res W G H (λ_ Ho v=>Ho=[]∧v=(.int .u32 y))):=by
 refine Ar (args:=[v0]) (N:=18) [.tmp 2] func72 Z Z (lb Z) Z λa f=> ?_
 unfold D.o0 at hd
 refine Ae ?_
 refine Ac f Z λa f=>Av ?_
 refine Ac f Z λa f=>Aa (Af (Ae ?_))
 refine Ab f Z λa f=>Ba underlying49 f Z Z h0 λa f=>Ab f Z λa f=>Aa ?_
 have⟨aa,ab,hd⟩:=bind_some hd
 refine AG (λa w=>∃ac:Int,ac=aa∧∃(ad:GH),GLe G ad∧Fr a 18 [(3,(.int .u32 ac))]∧Mem W ad w (H)) ?_ ?_
 ·refine Ak ?_
  refine AE (λae a w=>∃af:Int,∃ag:Int,(af,ag)=ae∧∃(ah:GH),GLe G ah∧Fr a 18 [(3,(.int .u32 af)),(6,v0),(7,(iv (x0.length:Int))),(8,(iv ag))]∧Mem W ah w (H)) ab ⟨_,_,Z,_,gr,f.k Z,m⟩ ?_
  clear ab f m
  rintro ae ai aj ak a w ⟨af,ag,rfl,ah,al,f,m⟩
  have h0:=rd1 al h0
  refine Ae ?_
  refine Ah f Z Z AI λa f=>Aa (Af ?_)
  rcases Ad aj with⟨am,aj⟩|⟨am,aj⟩
  ·refine Aj f Z am ?_
   refine Al ?_
   refine Af (Ak (Ae ?_))
   have⟨an,ao,aj⟩:=bind_some aj
   refine BQ T49 f Z Z Z h0 ao λap aq a ar au f=> ?_
   subst au
   refine A7 m Pl2 f Z Z ar λa f=>Ac f Z λa f=>Aa (An ?_)
   refine Ab f Z λa f=>Ab f Z λa f=> ?_
   have⟨av,aw,aj⟩:=bind_some aj
   refine Bc f Z call74 (Wk.b m aw) λax w ay m a f=>Ah f Z Z b_or λa f=>Ac f Z λa f=>Aa (An ?_)
   refine Ah f Z Z As λa f=>Ab f Z λa f=>Aa ?_
   obtain rfl:=sj aj
   exact⟨_,Z,_,_,Z,_,(gt al ay),f.k Z,m⟩
  ·refine Ai f Z am ?_
   refine AC Z ?_
   obtain rfl:=sj aj
   obtain rfl:=ak _ rfl
   exact⟨_,Z,_,al,f.k Z,m⟩
 ·rintro a w ⟨ac,rfl,ad,az,f,m⟩
  refine Ae ?_
  refine Ab f Z λa f=>Ac f Z λa f=>Aa ?_
  refine Ap ?_
  obtain rfl:=sj hd
  exact⟨[(.int .u32 ac)],f.g Z,f.d,_,[],az,m,Z,Z⟩
theorem Wk.n {aa:Value}{ab:LL}(m:Mem W G w (H))(ac:R2 G aa ab){y:(LI)}(hd:D.n ab=some y):
  Calls prog 33 #[(.agg #[aa])] w (Res W G H (λG' Ho v=>∃r0:Value,∃i0:Itm,Ho=[i0]∧r0=v∧Ow (RI .u32) 75 G' i0 r0 y)):=by
 refine Ar (args:=[(.agg #[aa])]) (N:=21) [.tmp 2] func33 Z Z (lb Z) Z λa f=> ?_
 unfold D.n at hd
 refine Ae ?_
 refine BG (cs:=[aa]) m f Z Z Z λad w a m f=>Ac f Z λa f=>Av ?_
 refine B2 (R:=(RI .u32)) (xs:=([]:LI)) (RI.one _) m T56 f Z Z Z (by decide) (All2.nil _) λae af w a m ag f=>Ac f Z λa f=>Aa (Af (Ae ?_))
 refine Bd underlying27 Z sizeOf22 f Z λa f=>Aw 1 0 m B8 f Z Z Z Z λa f=>Ba underlying22 f Z Z ac λa f=>Ab f Z λa f=>Aa ?_
 have⟨ah,ai,hd⟩:=bind_some hd
 refine AG (λa w=>∃aj:LI,aj=ah∧∃(ak:GH) (al:Value) (am:Itm),GLe G ak∧Fr a 21 [(3,al)]∧Mem W ak w (am::H)∧Ow (RI .u32) 75 ak am al aj) ?_ ?_
 ·refine Ak ?_
  have m:=m.eraseAt 1
  refine AE (λan a w=>∃ao:LI,∃ap:Int,(ao,ap)=an∧∃(aq:GH) (ar:Value) (au:Itm),GLe G aq∧Fr a 21 [(3,ar),(8,aa),(9,(iv (ab.length:Int))),(10,(iv ap))]∧Mem W aq w (au::H)∧Ow (RI .u32) 75 aq au ar ao) ai ⟨_,_,Z,_,af,ae,gr,f.k Z,m,ag⟩ ?_
  clear ai f m
  rintro an av aw ax a w ⟨ao,ap,rfl,aq,ar,au,ay,f,m,az⟩
  have ac:=rd2 ay ac
  refine Ae ?_
  refine Ah f Z Z AI λa f=>Aa (Af ?_)
  rcases Ad aw with⟨aA,aw⟩|⟨aA,aw⟩
  ·refine Aj f Z aA ?_
   refine Al ?_
   refine Af (Ak (Ae ?_))
   have⟨aB,aC,aw⟩:=bind_some aw
   refine BQ T22 f Z Z Z ac aC λaD aE a aF aG f=>A7 m C6 f Z Z aF λa f=>Ac f Z λa f=>Aa (An ?_)
   refine Ab f Z λa f=>Ab f Z λa f=> ?_
   have⟨aH,aI,aw⟩:=bind_some aw
   refine Bc f Z call72 (Wk.o0 m aG aI) λaJ w aK m a f=> ?_
   have az:=od1 aK az
   refine B2 (R:=(RI .u32)) (xs:=([aH]:LI)) (RI.one _) m T56 f Z Z Z (by decide) (All2.cons Z (All2.nil _)) λaL aM w a m aN f=> ?_
   have⟨aO,aP,aw⟩:=bind_some aw
   refine B7 (RI.one _) 1 m az Z T56 Z (by decide) f Z Z Z (Ow.src (j:=0) aN m Z) aP λaQ aR w a m aS f=>Ac f Z λa f=>Aa (An ?_)
   refine Ah f Z Z As λa f=>Ab f Z λa f=>Aa ?_
   have m:=m.fr 1
   have m:=m.eraseAt 1
   obtain rfl:=sj aw
   exact⟨_,Z,_,_,Z,_,aR,aQ,(gt ay aK),f.k Z,m,aS⟩
  ·refine Ai f Z aA ?_
   refine AC Z ?_
   obtain rfl:=sj aw
   obtain rfl:=ax _ rfl
   exact⟨_,Z,_,ar,au,ay,f.k Z,m,az⟩
 ·rintro a w ⟨aj,rfl,ak,al,am,aT,f,m,aU⟩
  refine Ae ?_
  refine Ab f Z λa f=>Ac f Z λa f=>Aa ?_
  refine Ap ?_
  obtain rfl:=sj hd
  exact⟨[al],f.g Z,f.d,_,[am],aT,m,_,_,Z,Z,aU⟩
theorem Wk.u {x0:Int}(m:Mem W G w (H)){y:Int}(hd:D.u x0=some y):
  Calls prog 94 #[(iv x0)] w (Res W G H (λ_ Ho v=>Ho=[]∧v=(.int .u32 y))):=by
 refine Ar (args:=[(iv x0)]) (N:=6) [.tmp 2] func94 Z Z (lb Z) Z λa f=> ?_
 unfold D.u at hd
 refine Ae ?_
 refine Ac f Z λa f=>Av ?_
 refine Ab f Z λa f=> ?_
 obtain⟨aa,hd⟩:=CN hd
 refine l_o f (r_shl (f.e Z) (f.e Z) aa) λa f=>Ah f Z Z AT λa f=>Ac f Z λa f=>Aa ?_
 refine Ap ?_
 obtain rfl:=sj hd
 exact⟨[(.int .u32 (IntKind.u32.wrap ((ishl .u32 1 x0)-1)))],f.g Z,f.d,_,[],gr,m,Z,Z⟩
theorem Wk.p {v0:Value}{x0:LI}(m:Mem W G w (H))(h0:RSl (RI .u32) G v0 x0){y:Int}(hd:D.p x0=some y):
  Calls prog 68 #[v0] w (Res W G H (λ_ Ho v=>Ho=[]∧v=(.int .u32 y))):=by
 refine Ar (args:=[v0]) (N:=6) [.tmp 2] func68 Z Z (lb Z) Z λa f=> ?_
 unfold D.p at hd
 refine Ae ?_
 refine Ac f Z λa f=>Av ?_
 refine Ab f Z λa f=>Ba underlying56 f Z Z h0 λa f=> ?_
 have⟨aa,ab,hd⟩:=bind_some hd
 refine Bc f Z call94 (Wk.u m ab) λac w ad m a f=>Ac f Z λa f=>Aa ?_
 refine Ap ?_
 obtain rfl:=sj hd
 exact⟨[(.int .u32 aa)],f.g Z,f.d,_,[],ad,m,Z,Z⟩
theorem Wk.a0 {x0:Int}(m:Mem W G w (H)){y:Int}(hd:D.a0 x0=some y):
  Calls prog 101 #[(.int .u32 x0)] w (Res W G H (λ_ Ho v=>Ho=[]∧v=(iv y))):=by
 refine Ar (args:=[(.int .u32 x0)]) (N:=5) [.tmp 2] func101 Z Z (lb Z) Z λa f=> ?_
 unfold D.a0 at hd
 refine Ae ?_
 refine Ac f Z λa f=>Av ?_
 refine Ab f Z λa f=> ?_
 have⟨aa,ab,hd⟩:=bind_some hd
 refine Bc f Z call121 (Wk.g0 m ab) λac w ad m a f=>Ac f Z λa f=>Aa ?_
 refine Ap ?_
 obtain rfl:=sj hd
 exact⟨[(iv aa)],f.g Z,f.d,_,[],ad,m,Z,Z⟩
theorem Wk.r {v0:Value}{x0:LI}{x1:Int}(hW:Bo W)(m:Mem W G w (H))(h0:RSl (RI .u32) G v0 x0){y:Int}(hd:D.r x0 x1=some y):
  Calls prog 86 #[v0,(.int .u32 x1)] w (Res W G H (λ_ Ho v=>Ho=[]∧v=(iv y))):=by
 refine Ar (args:=[v0,(.int .u32 x1)]) (N:=30) [.tmp 4] func86 Z Z (lb Z) Z λa f=> ?_
 unfold D.r at hd
 refine Ae ?_
 refine Ac f Z λa f=>Av ?_
 refine Ac f Z λa f=>Aa (Af (Ae ?_))
 refine Ab f Z λa f=> ?_
 have⟨aa,ab,hd⟩:=bind_some hd
 refine AN f Z call91 (Wk.c hW m ab) λac ad ae w af m ag a f=> ?_
 obtain⟨ah,ai,rfl,rfl,aj⟩:=ag
 have h0:=rd1 af h0
 refine Dd 0 m aj Z underlying71 f Z Z λa f=>Ab f Z λa f=>Aa ?_
 have⟨ak,al,hd⟩:=bind_some hd
 refine AG (λa w=>∃am:Int,am=ak∧∃(an:GH),GLe ad an∧Fr a 30 [(5,(iv am))]∧Mem W an w (H)) ?_ ?_
 ·refine Ak ?_
  refine AE (λao a w=>∃ap:Int,∃aq:Int,(ap,aq)=ao∧∃(ar:GH),GLe ad ar∧Fr a 30 [(0,v0),(1,(.int .u32 x1)),(5,(iv ap)),(9,ah),(10,(iv (aa.length:Int))),(11,(iv aq))]∧Mem W ar w (ai::H)) al ⟨_,_,Z,_,gr,f.k Z,m⟩ ?_
  clear al f m
  rintro ao au av aw a w ⟨ap,aq,rfl,ar,ax,f,m⟩
  have h0:=rd1 ax h0
  have aj:=od1 ax aj
  refine Ae ?_
  refine Ah f Z Z AI λa f=>Aa (Af ?_)
  rcases Ad av with⟨ay,av⟩|⟨ay,av⟩
  ·refine Aj f Z ay ?_
   refine Al ?_
   refine Af (Ak (Ae ?_))
   have⟨az,aA,av⟩:=bind_some av
   refine Br 0 m aj Z T71 f Z Z Z aA λaB a aC f=>Dm 0 m aj Z Pl3 f Z Z aC aA λaD a aE f=> ?_
   subst aE
   refine Ac f Z λa f=>Aa ?_
   refine Bb 13 AF (by kernel_rfl) m ?_
   refine Ag 0 13 Z f Z λa f=>Ag 1 13 Z f Z λa f=>Ag 2 13 Z f Z λa f=>Ag 3 13 Z f Z λa f=> ?_
   have⟨aF,aG,av⟩:=bind_some av
   refine Ct 4 13 T56 h0 aG Z f Z Z λaH aI a aJ aK f=> ?_
   subst aK
   refine Cs 5 13 AS aJ Z f Z λa f=>q_p 6 13 Z f (λ_=>Ay (f.e Z) (f.e Z) Cx) λa f=>Ag 7 13 Z f Z λa f=> ?_
   have⟨aL,aM,av⟩:=bind_some av
   refine Cu (i:=8) 13 Z (by kernel_rfl) Z f Z Z Z call74 (λ_ _ w aN m=>Wk.b m aM) λa f=>q_p 9 13 Z f (λ_=>Ay (f.e Z) (f.e Z) Cx) λa f=> ?_
   have⟨aO,aP,av⟩:=bind_some av
   refine Cu (i:=10) 13 Z (by kernel_rfl) Z f Z Z Z call101 (λ_ _ w aQ m=>Wk.a0 m aP) λa f=>q_p 11 13 Z f (λ_=>Ay (f.e Z) (f.e Z) As) λa f=>q_p 12 13 Z f (λ_=>CY (f.e Z)) λa f=>A2 λaR w aS m=>Aa (An ?_)
   refine Ah f Z Z As λa f=>Ab f Z λa f=>Aa ?_
   obtain rfl:=sj av
   exact⟨_,Z,_,_,Z,_,(gt ax aS),f.k Z,m⟩
  ·refine Ai f Z ay ?_
   refine AC Z ?_
   have m:Mem W ar w H:=Mem.drop (H':=[ai]) m
   obtain rfl:=sj av
   obtain rfl:=aw _ rfl
   exact⟨_,Z,_,ax,f.k Z,m⟩
 ·rintro a w ⟨am,rfl,an,aT,f,m⟩
  refine Ae ?_
  refine Ab f Z λa f=>Ah f Z Z (Dz Z) λa f=>Ac f Z λa f=>Aa ?_
  refine Ap ?_
  obtain rfl:=sj hd
  exact⟨[(iv (i64.wrap (Int.tdiv am 2)))],f.g Z,f.d,_,[],(gt af aT),m,Z,Z⟩
theorem Wk.E {v0:Value}{x0:LI}(hW:Bo W)(m:Mem W G w (H))(h0:RSl (RI .u32) G v0 x0){y:(LI)}(hd:D.E x0=some y):
  Calls prog 79 #[v0] w (Res W G H (λG' Ho v=>∃r0:Value,∃i0:Itm,Ho=[i0]∧r0=v∧Ow R0 3 G' i0 r0 y∧C8 r0=y.isEmpty)):=by
 refine Ar (args:=[v0]) (N:=42) [.tmp 2] func79 Z Z (lb Z) Z λa f=> ?_
 unfold D.E at hd
 refine Ae ?_
 refine Ac f Z λa f=>Av ?_
 refine B2 (R:=R0) (xs:=([]:LI)) (RI.one _) m T71 f Z Z Z (by decide) (All2.nil _) λaa ab w a m ac f=>Ac f Z λa f=>Aa (Af (Ae ?_))
 refine Ab f Z λa f=> ?_
 have⟨ad,ae,hd⟩:=bind_some hd
 refine Bc f Z call68 (Wk.p m h0 ae) λaf w ag m a f=> ?_
 have h0:=rd1 ag h0
 have ac:=od1 ag ac
 refine Ac f Z λa f=>Aa ?_
 have⟨ah,ai,hd⟩:=bind_some hd
 refine AG (λa w=>∃q_275':LI,ah= .inl q_275'∧∃aj:LI,aj=q_275'∧∃(ak:GH) (al:Value) (am:Itm),GLe af ak∧Fr a 42 [(3,al)]∧Mem W ak w (am::H)∧Ow R0 3 ak am al aj) ?_ ?_
 ·refine Ak ?_
  refine AE (λan a w=>∃ao:LI,∃ap:Int,(ao,ap)=an∧∃(aq:GH) (ar:Value) (au:Itm),GLe af aq∧Fr a 42 [(0,v0),(3,ar),(4,(.int .u32 ap))]∧Mem W aq w (au::H)∧Ow R0 3 aq au ar ao) ai ⟨_,_,Z,_,ab,aa,gr,f.k Z,m,ac⟩ ?_
  clear ai f m
  rintro an av aw ax a w ⟨ao,ap,rfl,aq,ar,au,ay,f,m,az⟩
  have h0:=rd1 ay h0
  refine Af (Ae ?_)
  refine Ab f Z λa f=>Ah f Z Z CJ λa f=>Aa ?_
  rcases Ad aw with⟨aA,aw⟩|⟨aA,aw⟩
  ·refine Aj f Z aA ?_
   refine Al ?_
   refine Ak (Ae ?_)
   refine Ac f Z λa f=>Aa (Af (Ae ?_))
   refine Ab f Z λa f=> ?_
   have⟨aB,aC,aw⟩:=bind_some aw
   refine AN f Z call91 (Wk.c hW m aC) λaD aE aF w aG m aH a f=> ?_
   obtain⟨aI,aJ,rfl,rfl,aK⟩:=aH
   have h0:=rd1 aG h0
   have az:=od1 aG az
   refine Dd 0 m aK Z underlying71 f Z Z λa f=>Ab f Z λa f=>Aa ?_
   have⟨aL,aM,aw⟩:=bind_some aw
   refine AG (λa w=>∃aN:Int,aN=aL∧∃(aO:GH),GLe aE aO∧Fr a 42 [(0,v0),(3,ar),(4,(.int .u32 ap)),(5,(iv aN))]∧Mem W aO w (au::H)) ?_ ?_
   ·refine Ak ?_
    have m:=m.fr 1
    refine AE (λaP a w=>∃aQ:Int,aQ=aP∧∃(aR:GH),GLe aE aR∧Fr a 42 [(0,v0),(3,ar),(4,(.int .u32 ap)),(5,(iv (-1))),(14,aI),(15,(iv (aB.length:Int))),(16,(iv aQ))]∧Mem W aR w (au::aJ::H)) aM ⟨_,Z,_,gr,f.k Z,m⟩ ?_
    clear aM f m
    rintro aP aS aT aU a w ⟨aQ,rfl,aR,aV,f,m⟩
    have h0:=rd1 aV h0
    have aK:=od1 aV aK
    refine Ae ?_
    refine Ah f Z Z AI λa f=>Aa (Af ?_)
    rcases Ad aT with⟨aW,aT⟩|⟨aW,aT⟩
    ·refine Aj f Z aW ?_
     refine Al ?_
     refine Af (Ak (Ae ?_))
     have⟨aX,aY,aT⟩:=bind_some aT
     refine Br 1 m aK Z T71 f Z Z Z aY λaZ a a0 f=>Dm 1 m aK Z Pl3 f Z Z a0 aY λa1 a a2 f=> ?_
     subst a2
     refine Ac f Z λa f=>Av ?_
     refine Ab f Z λa f=>Ab f Z λa f=>Ab f Z λa f=> ?_
     have⟨a3,a4,aT⟩:=bind_some aT
     refine BQ T56 f Z Z Z h0 a4 λa5 a6 a a7 a8 f=> ?_
     subst a8
     refine A7 m AS f Z Z a7 λa f=>Ab f Z λa f=>Ah f Z Z CH λa f=> ?_
     have⟨a9,ba,aT⟩:=bind_some aT
     refine Bc f Z call86 (Wk.r hW m h0 ba) λbb w bc m a f=>Ah f Z Z BU λa f=>Aa ?_
     rcases Ad aT with⟨bd,aT⟩|⟨bd,aT⟩
     ·refine Aj f Z bd ?_
      refine Ae ?_
      refine Ab f Z λa f=>Ac f Z λa f=>Aa ?_
      refine AC Z ?_
      have m:=m.eraseAt 1
      obtain rfl:=sj aT
      obtain rfl:=aU _ rfl
      exact⟨_,Z,_,(gt aV bc),f.k Z,m⟩
     ·refine Ai f Z bd ?_
      refine Al ?_
      refine An ?_
      refine Ah f Z Z As λa f=>Ab f Z λa f=>Aa ?_
      obtain rfl:=sj aT
      exact⟨_,Z,_,Z,_,(gt aV bc),f.k Z,m⟩
    ·refine Ai f Z aW ?_
     refine AC Z ?_
     have m:=m.eraseAt 1
     obtain rfl:=sj aT
     obtain rfl:=aU _ rfl
     exact⟨_,Z,_,aV,f.k Z,m⟩
   ·rintro a w ⟨aN,rfl,aO,be,f,m⟩
    have az:=od1 be az
    refine Af (Ae ?_)
    refine Ab f Z λa f=>Ah f Z Z AI λa f=>Aa ?_
    rcases Ad aw with⟨bf,aw⟩|⟨bf,aw⟩
    ·refine Aj f Z bf ?_
     refine Ae ?_
     refine Ac f Z λa f=>Aa ?_
     refine Ap ?_
     obtain⟨bg,m,bh⟩:=Ow.nil R0 3 m
     have m:=m.eraseAt 1
     obtain rfl:=sj aw
     obtain rfl:=ax _ rfl
     obtain rfl:=sj hd
     exact⟨[sn],f.g Z,f.d,_,[bg],(gt ag (gt ay (gt aG be))),m,_,_,Z,Z,bh,Z⟩
    ·refine Ai f Z bf ?_
     refine Al ?_
     refine Ae ?_
     refine Ab f Z λa f=>Ab f Z λa f=> ?_
     have⟨bi,bj,aw⟩:=bind_some aw
     refine Bc f Z call74 (Wk.b m bj) λbk w bl m a f=> ?_
     have az:=od1 bl az
     refine Ah f Z Z Cx λa f=>Ac f Z λa f=>Aa (An ?_)
     refine Ab f Z λa f=>Ab f Z λa f=>B2 (R:=R0) (xs:=([aN]:LI)) (RI.one _) m T71 f Z Z Z (by decide) (All2.cons Z (All2.nil _)) λbm bn w a m bo f=> ?_
     have⟨bp,bq,aw⟩:=bind_some aw
     refine B7 (RI.one _) 1 m az Z T71 Z (by decide) f Z Z Z (Ow.src (j:=0) bo m Z) bq λbr bs w a m bt f=>Ac f Z λa f=>Aa ?_
     have m:=m.fr 1
     have m:=m.eraseAt 1
     obtain rfl:=sj aw
     exact⟨_,Z,_,_,Z,_,bs,br,(gt ay (gt aG (gt be bl))),f.k Z,m,bt⟩
  ·refine Ai f Z aA ?_
   refine AC Z ?_
   obtain rfl:=sj aw
   obtain rfl:=ax _ rfl
   exact⟨_,Z,_,Z,_,ar,au,ay,f.k Z,m,az⟩
 ·rintro a w ⟨_,rfl,aj,rfl,ak,al,am,bu,f,m,bv⟩
  refine Ae ?_
  refine Ab f Z λa f=>Ac f Z λa f=>Aa ?_
  refine Ap ?_
  have⟨_,bw,hd⟩:=bind_some hd
  have hx_555':=Ow.notNil 0 m bv rfl bw
  obtain rfl:=sj hd
  exact⟨[al],f.g Z,f.d,_,[am],(gt ag bu),m,_,_,Z,Z,bv,hx_555'⟩
theorem Wk.C {W:World}(hW:Bo W)(n:Nat):∀{w:World} {G:GH} {H:List Itm} {v0 v4:Value} {it4:Itm} {x0:LI} {x1 x2 x3:Int} {x4:LI} (m:Mem W G w (it4::H)) (h0:RSl (RI .u32) G v0 x0) (o4:Ow (RI .u32) 75 G it4 v4 x4) {y:(LI)} (hd:D.C n x0 x1 x2 x3 x4=some y),
  Calls prog 99 #[v0,(.int .u32 x1),(.int .u32 x2),(.int .u32 x3),v4] w (Res W G H (λG' Ho v=>∃r0:Value,∃i0:Itm,Ho=[i0]∧r0=v∧Ow (RI .u32) 75 G' i0 r0 y)):=by
 induction n with
 |zero=>intros;rename_i hd;simp[D.C] at hd
 |succ fuel ih=>
  intro w G H v0 v4 it4 x0 x1 x2 x3 x4 m h0 o4 y hd
  refine Ar (args:=[v0,(.int .u32 x1),(.int .u32 x2),(.int .u32 x3),v4]) (N:=58) [.tmp 10] func99 Z Z (lb Z) Z λa f=> ?_
  unfold D.C at hd
  refine Ae ?_
  refine Ac f Z λa f=>Aa (Af (Ae ?_))
  refine Ab f Z λa f=>Ah f Z Z BU λa f=>Aa ?_
  rcases Ad hd with⟨aa,hd⟩|⟨aa,hd⟩
  ·refine Aj f Z aa ?_
   refine Af (Ae ?_)
   refine Ab f Z λa f=>Ah f Z Z BU λa f=>Aa ?_
   have⟨ab,ac,hd⟩:=bind_some hd
   refine AG (λa w=>∃ad:LI,ad=ab∧∃(ae:GH) (af:Value) (ag:Itm),GLe G ae∧Fr a 58 [(4,af)]∧Mem W ae w (ag::H)∧Ow (RI .u32) 75 ae ag af ad) ?_ ?_
   ·rcases Ad ac with⟨ah,ac⟩|⟨ah,ac⟩
    ·refine Aj f Z ah ?_
     refine An ?_
     refine Ab f Z λa f=>Ab f Z λa f=>B2 (R:=(RI .u32)) (xs:=([x1]:LI)) (RI.one _) m T54 f Z Z Z (by decide) (All2.cons Z (All2.nil _)) λai aj w a m ak f=> ?_
     have⟨al,am,ac⟩:=bind_some ac
     refine B7 (RI.one _) 1 m o4 Z T54 Z (by decide) f Z Z Z (Ow.src (j:=0) ak m Z) am λan ao w a m ap f=>Ac f Z λa f=>Aa ?_
     have m:=m.fr 1
     have m:=m.eraseAt 1
     obtain rfl:=sj ac
     exact⟨_,Z,_,ao,an,gr,f.k Z,m,ap⟩
    ·refine Ai f Z ah ?_
     refine Al ?_
     obtain rfl:=sj ac
     exact⟨_,Z,_,v4,it4,gr,f.k Z,m,o4⟩
   ·rintro a w ⟨ad,rfl,ae,af,ag,aq,f,m,ar⟩
    refine Ae ?_
    refine Ab f Z λa f=>Ac f Z λa f=>Aa ?_
    refine Ap ?_
    obtain rfl:=sj hd
    exact⟨[af],f.g Z,f.d,_,[ag],aq,m,_,_,Z,Z,ar⟩
  ·refine Ai f Z aa ?_
   refine Al ?_
   refine Af (Ae ?_)
   refine Ab f Z λa f=> ?_
   have⟨au,av,hd⟩:=bind_some hd
   refine AN f Z call91 (Wk.c hW m av) λaw ax ay w az m aA a f=> ?_
   obtain⟨aB,aC,rfl,rfl,aD⟩:=aA
   have h0:=rd1 az h0
   have o4:=od1 az o4
   refine Dd 0 m aD Z underlying71 f Z Z λa f=>Ab f Z λa f=>Aa ?_
   have⟨aE,aF,hd⟩:=bind_some hd
   refine AG (λa w=>∃aG:LI,aG=aE∧∃(aH:GH) (aI:Value) (aJ:Itm),GLe ax aH∧Fr a 58 [(4,aI)]∧Mem W aH w (aJ::H)∧Ow (RI .u32) 75 aH aJ aI aG) ?_ ?_
   ·refine Ak ?_
    have m:=m.fr 1
    refine AE (λaK a w=>∃aL:Int,∃aM:Int,∃aN:LI,∃aO:Int,(aL,aM,aN,aO)=aK∧∃(aP:GH) (aQ:Value) (aR:Itm),GLe ax aP∧Fr a 58 [(0,v0),(1,(.int .u32 x1)),(2,(.int .u32 aL)),(3,(.int .u32 aM)),(4,aQ),(23,aB),(24,(iv (au.length:Int))),(25,(iv aO))]∧Mem W aP w (aR::aC::H)∧Ow (RI .u32) 75 aP aR aQ aN) aF ⟨_,_,_,_,Z,_,v4,it4,gr,f.k Z,m,o4⟩ ?_
    clear aF f m
    rintro aK aS aT aU a w ⟨aL,aM,aN,aO,rfl,aP,aQ,aR,aV,f,m,aW⟩
    have h0:=rd1 aV h0
    have aD:=od1 aV aD
    refine Ae ?_
    refine Ah f Z Z AI λa f=>Aa (Af ?_)
    rcases Ad aT with⟨aX,aT⟩|⟨aX,aT⟩
    ·refine Aj f Z aX ?_
     refine Al ?_
     refine Af (Ak (Ae ?_))
     have⟨aY,aZ,aT⟩:=bind_some aT
     refine Br 1 m aD Z T71 f Z Z Z aZ λa0 a a1 f=>Dm 1 m aD Z Pl3 f Z Z a1 aZ λa2 a a3 f=> ?_
     subst a3
     refine Ac f Z λa f=>Aa (Af ?_)
     refine Bb 18 AF (by kernel_rfl) m ?_
     refine Ag 0 18 Z f Z λa f=>Ag 1 18 Z f Z λa f=>Ag 2 18 Z f Z λa f=> ?_
     have⟨a4,a5,aT⟩:=bind_some aT
     refine Cu (i:=3) 18 Z (by kernel_rfl) Z f Z Z Z call74 (λ_ _ w a6 m=>Wk.b m a5) λa f=>q_p 4 18 Z f (λ_=>Ay (f.e Z) (f.e Z) b_or) λa f=>Ag 5 18 Z f Z λa f=>Ag 6 18 Z f Z λa f=>Ag 7 18 Z f Z λa f=> ?_
     have⟨a7,a8,aT⟩:=bind_some aT
     refine Ct 8 18 T56 h0 a8 Z f Z Z λa9 ba a bb bc f=> ?_
     subst bc
     refine Cs 9 18 AS bb Z f Z λa f=>q_p 10 18 Z f (λ_=>Ay (f.e Z) (f.e Z) CH) λa f=>Ag 11 18 Z f Z λa f=>Ag 12 18 Z f Z λa f=>Ag 13 18 Z f Z λa f=> ?_
     have⟨bd,be,aT⟩:=bind_some aT
     refine Ct 14 18 T56 h0 be Z f Z Z λbf bg a bh bi f=> ?_
     subst bi
     refine Cs 15 18 AS bh Z f Z λa f=>q_p 16 18 Z f (λ_=>Ay (f.e Z) (f.e Z) CH) λa f=>Ag 17 18 Z f Z λa f=>A2 λbj w bk m=> ?_
     have h0:=rd1 bk h0
     have aW:=od1 bk aW
     have⟨bl,bm,aT⟩:=bind_some aT
     refine AN f Z call99 (ih m h0 aW bm) λbn bo bp w bq m br a f=> ?_
     obtain⟨bs,bt,rfl,rfl,bu⟩:=br
     refine Ac f Z λa f=>Av ?_
     refine Ab f Z λa f=>Ab f Z λa f=> ?_
     have⟨bv,bw,aT⟩:=bind_some aT
     refine Bc f Z call74 (Wk.b m bw) λbx w bz m a f=> ?_
     have bu:=od1 bz bu
     refine Ah f Z Z Cx λa f=>Ac f Z λa f=>Aa (An ?_)
     refine Ab f Z λa f=>Ab f Z λa f=> ?_
     have⟨bA,bB,aT⟩:=bind_some aT
     refine Bc f Z call74 (Wk.b m bB) λbC w bD m a f=> ?_
     have bu:=od1 bD bu
     refine Ah f Z Z b_or λa f=>Ac f Z λa f=>Aa (An ?_)
     refine Ah f Z Z As λa f=>Ab f Z λa f=>Aa ?_
     obtain rfl:=sj aT
     exact⟨_,Z,_,_,_,_,Z,_,bs,bt,(gt aV (gt bk (gt bq (gt bz bD)))),f.k Z,m,bu⟩
    ·refine Ai f Z aX ?_
     refine AC Z ?_
     have m:=m.eraseAt 1
     obtain rfl:=sj aT
     obtain rfl:=aU _ rfl
     exact⟨_,Z,_,aQ,aR,aV,f.k Z,m,aW⟩
   ·rintro a w ⟨aG,rfl,aH,aI,aJ,bE,f,m,bF⟩
    refine Ae ?_
    refine Ab f Z λa f=>Ac f Z λa f=>Aa ?_
    refine Ap ?_
    obtain rfl:=sj hd
    exact⟨[aI],f.g Z,f.d,_,[aJ],(gt az bE),m,_,_,Z,Z,bF⟩
theorem Wk.i {v0 v4:Value}{it4:Itm}{x0:LI}{x1 x2 x3:Int}{x4:LI}(hW:Bo W)(m:Mem W G w (it4::H))(h0:RSl (RI .u32) G v0 x0)(o4:Ow (RI .u32) 75 G it4 v4 x4){y:(LI)}(hd:D.i x0 x1 x2 x3 x4=some y):
  Calls prog 99 #[v0,(.int .u32 x1),(.int .u32 x2),(.int .u32 x3),v4] w (Res W G H (λG' Ho v=>∃r0:Value,∃i0:Itm,Ho=[i0]∧r0=v∧Ow (RI .u32) 75 G' i0 r0 y)):=by
 exact Wk.C hW Bv m h0 o4 hd
theorem Wk.a {x0 x1:Int}(hW:Bo W)(m:Mem W G w (H)){y:Int}(hd:D.a x0 x1=some y):
  Calls prog 71 #[(.int .u32 x0),(.int .u32 x1)] w (Res W G H (λ_ Ho v=>Ho=[]∧v=(iv y))):=by
 refine Ar (args:=[(.int .u32 x0),(.int .u32 x1)]) (N:=10) [.tmp 4] func71 Z Z (lb Z) Z λa f=> ?_
 unfold D.a at hd
 refine Ae ?_
 refine Ac f Z λa f=>Av ?_
 refine Ab f Z λa f=> ?_
 have⟨aa,ab,hd⟩:=bind_some hd
 refine AN f Z call91 (Wk.c hW m ab) λac ad ae w af m ag a f=> ?_
 obtain⟨ah,ai,rfl,rfl,aj⟩:=ag
 refine Ab f Z λa f=> ?_
 have⟨ak,al,hd⟩:=bind_some hd
 refine AN f Z call91 (Wk.c hW m al) λam an ao w ap m aq a f=> ?_
 obtain⟨ar,au,rfl,rfl,av⟩:=aq
 have aj:=od1 ap aj
 have⟨aw,ax,hd⟩:=bind_some hd
 refine AN f Z call98 (Ow.lendCall (RI.mono _) 1 aj m Z (λay az m aA=>(Ow.lendCall (RI.mono _) 0 (od1 az av) m Z (λaB aC m aD=>Wk.t0 m (rd1 aC aA) aD ax) (λ_ _ _ _ h=>h))) (λ_ _ _ _ h=>h)) λaE aF aG w aH m aI a f=> ?_
 obtain⟨rfl,rfl⟩:=aI
 refine Ac f Z λa f=>Aa ?_
 refine Ap ?_
 have m:Mem W aF w H:=Mem.drop (H':=[au,ai]) m
 obtain rfl:=sj hd
 exact⟨[(iv aw)],f.g Z,f.d,_,[],(gt af (gt ap aH)),m,Z,Z⟩
theorem Wk.x0 {v0:Value}{it0:Itm}{x0:LI}{x1 x2:Int}(hW:Bo W)(m:Mem W G w (it0::H))(o0:Ow (RI .u32) 75 G it0 v0 x0){y:(LI)}(hd:D.x0 x0 x1 x2=some y):
  Calls prog 110 #[v0,(iv x1),(iv x2),(.func (.func 71) #[] #[])] w (Res W G H (λG' Ho _=>∃i0:Itm,Ho=[i0]∧Ow (RI .u32) 75 G' i0 v0 y)):=by
 refine Ar (args:=[v0,(iv x1),(iv x2),(.func (.func 71) #[] #[])]) (N:=53) [] func110 Z Z (lb Z) Z λa f=> ?_
 unfold D.x0 at hd
 refine Ae ?_
 refine Ab f Z λa f=>Ah f Z Z As λa f=>Ac f Z λa f=>Aa ?_
 have⟨aa,ab,hd⟩:=bind_some hd
 refine AG (λa w=>∃ac:LI,ac=aa∧∃(ad:GH) (ae:Itm),GLe G ad∧Fr a 53 []∧Mem W ad w (ae::H)∧Ow (RI .u32) 75 ad ae v0 ac) ?_ ?_
 ·refine Ak ?_
  refine AE (λaf a w=>∃ag:LI,∃ah:Int,(ag,ah)=af∧∃(ai:GH) (aj:Itm),GLe G ai∧Fr a 53 [(0,v0),(1,(iv x1)),(2,(iv x2)),(3,(.func (.func 71) #[] #[])),(8,(iv ah))]∧Mem W ai w (aj::H)∧Ow (RI .u32) 75 ai aj v0 ag) ab ⟨_,_,Z,_,it0,gr,f.k Z,m,o0⟩ ?_
  clear ab f m
  rintro af ak al am a w ⟨ag,ah,rfl,ai,aj,an,f,m,ao⟩
  refine Af (Ae ?_)
  refine Ab f Z λa f=>Ab f Z λa f=>Ah f Z Z AI λa f=>Aa ?_
  rcases Ad al with⟨ap,al⟩|⟨ap,al⟩
  ·refine Aj f Z ap ?_
   refine Al ?_
   refine Af (Ak (Ae ?_))
   refine Ab f Z λa f=>Ac f Z λa f=>Aa ?_
   have⟨aq,ar,al⟩:=bind_some al
   refine AG (λa w=>∃au:LI,au=aq∧∃(av:GH) (aw:Itm),GLe ai av∧Fr a 53 [(0,v0),(1,(iv x1)),(2,(iv x2)),(3,(.func (.func 71) #[] #[])),(8,(iv ah))]∧Mem W av w (aw::H)∧Ow (RI .u32) 75 av aw v0 au) ?_ ?_
   ·refine Ak ?_
    refine AE (λax a w=>∃ay:LI,∃az:Int,(ay,az)=ax∧∃(aA:GH) (aB:Itm),GLe ai aA∧Fr a 53 [(0,v0),(1,(iv x1)),(2,(iv x2)),(3,(.func (.func 71) #[] #[])),(8,(iv ah)),(9,(iv az))]∧Mem W aA w (aB::H)∧Ow (RI .u32) 75 aA aB v0 ay) ar ⟨_,_,Z,_,aj,gr,f.k Z,m,ao⟩ ?_
    clear ar f m
    rintro ax aC aD aE a w ⟨ay,az,rfl,aA,aB,aF,f,m,aG⟩
    refine Af (Af ?_)
    refine Bb 17 AF (by kernel_rfl) m ?_
    refine Ag 0 17 Z f Z λa f=>Ag 1 17 Z f Z λa f=>q_p 2 17 Z f (λ_=>Ay (f.e Z) (f.e Z) CC) λa f=>Ag 3 17 Z f Z λa f=> ?_
    have⟨aH,aI,aD⟩:=bind_some aD
    refine Cr (fuel':=0) (listed':= #[true,true,true,true,true,true,true,true,true,true,true,true,true,true,true,true,true]) (λa=>Fr a 53 [(0,v0),(1,(iv x1)),(2,(iv x2)),(3,(.func (.func 71) #[] #[])),(8,(iv ah)),(9,(iv az)),(18,(iv az)),(19,(iv x1)),(20,(.bool (decide (x1<az)))),(21,(.bool (decide (x1<az)))),(34,(.bool aH))]) ?_ ?_
    ·intro a f
     refine A2 λaJ w aK m=> ?_
     have aG:=od1 aK aG
     refine Aa ?_
     rcases Ad aD with⟨aL,aD⟩|⟨aL,aD⟩
     ·refine Aj f Z aL ?_
      refine Al ?_
      refine Af (Ak ?_)
      refine BL AF m ?_
      refine p_p 2 Z f (λ_=>A9 (f.e Z)) λa f=>p_p 3 Z f (λ_=>A9 (f.e Z)) λa f=>p_p 4 Z f (λ_=>Ay (f.e Z) (f.e Z) AT) λa f=>BJ 28015 12 (by kernel_rfl) Z ?_
      refine Ag 0 28015 Z f Z λa f=>Ag 1 28015 Z f Z λa f=>Ag 5 28015 Z f Z λa f=>Ag 6 28015 Z f Z λa f=>q_p 7 28015 Z f (λ_=>Ay (f.e Z) (f.e Z) AT) λa f=> ?_
      have⟨aM,aN,aD⟩:=bind_some aD
      refine AL 8 28015 0 m aG T54 aN Z f Z Z λaO a aP f=>A3 9 28015 0 aG AS aP aN Z f Z λaQ a aR f=> ?_
      subst aR
      refine Ag 10 28015 Z f Z λa f=>Ag 11 28015 Z f Z λa f=> ?_
      have⟨aS,aT,aD⟩:=bind_some aD
      refine AL 12 28015 0 m aG T54 aT Z f Z Z λaU a aV f=>A3 13 28015 0 aG AS aV aT Z f Z λaW a aX f=> ?_
      subst aX
      have⟨aY,aZ,aD⟩:=bind_some aD
      refine AL 14 28015 0 m aG T54 aZ Z f Z Z λa0 a a1 f=>A2 λa2 w a3 m=> ?_
      have aG:=od1 a3 aG
      refine AD 0 m aG Z sizeOf75 f Z Z a1 aZ Z Z Z λa4 w m a5=> ?_
      have⟨a6,a7,aD⟩:=bind_some aD
      refine Br 0 m a5 Z T54 f Z Z Z a7 λa8 a a9 f=>AD 0 m a5 Z sizeOf75 f Z Z a9 a7 Z Z Z λba w m bb=>Aa (An ?_)
      refine Ab f Z λa f=>Ah f Z Z AT λa f=>Ac f Z λa f=>Aa ?_
      obtain rfl:=sj aD
      exact⟨_,Z,_,_,Z,_,ba,(gt aF (gt aK a3)),f.k Z,m,bb⟩
     ·refine Ai f Z aL ?_
      refine AC Z ?_
      obtain rfl:=sj aD
      obtain rfl:=aE _ rfl
      exact⟨_,Z,_,aB,(gt aF aK),f.k Z,m,aG⟩
    ·intro bc
     rcases Ad aI with⟨bd,aI⟩|⟨bd,aI⟩
     ·refine Ag (hw:=wo f bd) 4 17 Z f Z λa f=> ?_
      refine Ag (hw:=wo f bd) 5 17 Z f Z λa f=>Ag (hw:=wo f bd) 6 17 Z f Z λa f=> ?_
      have⟨be,bf,aI⟩:=bind_some aI
      refine AL (hw:=wo f bd) 7 17 0 m aG T54 bf Z f Z Z λbg a bh f=>A3 (hw:=wo f bd) 8 17 0 aG AS bh bf Z f Z λbi a bj f=> ?_
      subst bj
      refine Ag (hw:=wo f bd) 9 17 Z f Z λa f=>Ag (hw:=wo f bd) 10 17 Z f Z λa f=>q_p (hw:=wo f bd) 11 17 Z f (λ_=>Ay (f.e Z) (f.e Z) AT) λa f=> ?_
      have⟨bk,bl,aI⟩:=bind_some aI
      refine AL (hw:=wo f bd) 12 17 0 m aG T54 bl Z f Z Z λbm a bn f=>A3 (hw:=wo f bd) 13 17 0 aG AS bn bl Z f Z λbo a bp f=> ?_
      subst bp
      have⟨bq,br,aI⟩:=bind_some aI
      refine BS (i:=14) 17 Z (by kernel_rfl) Z f (Bh f Z Z Z bd) Z Z Z call71 (λ_ _ w bs m=>Wk.a hW m br) λa f=>q_p (hw:=wo f bd) 15 17 Z f (λ_=>Ay (f.e Z) (f.e Z) AI) λa f=>q_p 16 17 Z f (λ_=>AK (f.e Z) bd (f.e Z)) λa f=> ?_
      obtain rfl:=sj aI
      exact bc _ (f.k Z)
     ·refine Aq 4 17 Z f bd λa f=> ?_
      refine Aq 5 17 Z f bd λa f=>Aq 6 17 Z f bd λa f=>Aq 7 17 Z f bd λa f=>Aq 8 17 Z f bd λa f=>Aq 9 17 Z f bd λa f=>Aq 10 17 Z f bd λa f=>Aq 11 17 Z f bd λa f=>Aq 12 17 Z f bd λa f=>Aq 13 17 Z f bd λa f=>Aq 14 17 Z f bd λa f=>Aq 15 17 Z f bd λa f=>q_p 16 17 Z f (λ_=>AJ (f.e Z) bd (f.e Z)) λa f=> ?_
      obtain rfl:=sj aI
      exact bc _ (f.k Z)
   ·rintro a w ⟨au,rfl,av,aw,bt,f,m,bu⟩
    refine An ?_
    refine Ab f Z λa f=>Ah f Z Z As λa f=>Ac f Z λa f=>Aa ?_
    obtain rfl:=sj al
    exact⟨_,Z,_,_,Z,_,aw,(gt an bt),f.k Z,m,bu⟩
  ·refine Ai f Z ap ?_
   refine AC Z ?_
   obtain rfl:=sj al
   obtain rfl:=am _ rfl
   exact⟨_,Z,_,aj,an,f.weak trivial,m,ao⟩
 ·rintro a w ⟨ac,rfl,ad,ae,bv,f,m,bw⟩
  obtain rfl:=sj hd
  exact⟨[],trivial,f.d,_,[ae],bv,m,_,Z,bw⟩
theorem Wk.d0 {v0:Value}{it0:Itm}{x0:LI}{x1 x2 x3:Int}(hW:Bo W)(m:Mem W G w (it0::H))(o0:Ow (RI .u32) 75 G it0 v0 x0){y:(LI)}(hd:D.d0 x0 x1 x2 x3=some y):
  Calls prog 125 #[v0,(iv x1),(iv x2),(iv x3),(.func (.func 71) #[] #[])] w (Res W G H (λG' Ho _=>∃i0:Itm,Ho=[i0]∧Ow (RI .u32) 75 G' i0 v0 y)):=by
 refine Ar (args:=[v0,(iv x1),(iv x2),(iv x3),(.func (.func 71) #[] #[])]) (N:=82) [] func125 Z Z (lb Z) Z λa f=> ?_
 unfold D.d0 at hd
 refine Ae ?_
 refine Ab f Z λa f=>Ac f Z λa f=>Aa ?_
 have⟨aa,ab,hd⟩:=bind_some hd
 refine AG (λa w=>∃q_182':LI,aa= .inl q_182'∧∃ac:LI,ac=q_182'∧∃(ad:GH) (ae:Itm),GLe G ad∧Fr a 82 []∧Mem W ad w (ae::H)∧Ow (RI .u32) 75 ad ae v0 ac) ?_ ?_
 ·refine Ak ?_
  refine AE (λaf a w=>∃ag:LI,∃ah:Int,(ag,ah)=af∧∃(ai:GH) (aj:Itm),GLe G ai∧Fr a 82 [(0,v0),(2,(iv x2)),(3,(iv x3)),(4,(.func (.func 71) #[] #[])),(10,(iv ah))]∧Mem W ai w (aj::H)∧Ow (RI .u32) 75 ai aj v0 ag) ab ⟨_,_,Z,_,it0,gr,f.k Z,m,o0⟩ ?_
  clear ab f m
  rintro af ak al am a w ⟨ag,ah,rfl,ai,aj,an,f,m,ao⟩
  refine Ak (Ae ?_)
  refine Ab f Z λa f=>Ah f Z Z C7 λa f=>Ah f Z Z As λa f=>Ac f Z λa f=>Aa (Af (Ae ?_))
  refine Ab f Z λa f=>Ab f Z λa f=>Ah f Z Z B3 λa f=>Aa ?_
  rcases Ad al with⟨ap,al⟩|⟨ap,al⟩
  ·refine Aj f Z ap ?_
   refine AC Z ?_
   obtain rfl:=sj al
   obtain rfl:=am _ rfl
   exact⟨_,Z,_,Z,_,aj,an,f.weak trivial,m,ao⟩
  ·refine Ai f Z ap ?_
   refine Al ?_
   refine Af (Af ?_)
   refine Bb 22 AF (by kernel_rfl) m ?_
   refine Ag 0 22 Z f Z λa f=>q_p 1 22 Z f (λ_=>Ay (f.e Z) (f.e Z) As) λa f=>Ag 2 22 Z f Z λa f=>q_p 3 22 Z f (λ_=>Ay (f.e Z) (f.e Z) AI) λa f=>Ag 4 22 Z f Z λa f=> ?_
   have⟨aq,ar,al⟩:=bind_some al
   refine Cr (fuel':=0) (listed':= #[true,true,true,true,true,true,true,true,true,true,true,true,true,true,true,true,true,true,true,true,true,true]) (λa=>Fr a 82 [(0,v0),(2,(iv x2)),(3,(iv x3)),(4,(.func (.func 71) #[] #[])),(10,(iv ah)),(11,(iv (i64.wrap ((i64.wrap (2*ah))+1)))),(18,(.bool (decide (x2≤(i64.wrap ((i64.wrap (2*ah))+1)))))),(19,(iv (i64.wrap ((i64.wrap (2*ah))+1)))),(20,(iv (i64.wrap ((i64.wrap ((i64.wrap (2*ah))+1))+1)))),(21,(iv x2)),(22,(.bool (decide ((i64.wrap ((i64.wrap ((i64.wrap (2*ah))+1))+1))<x2)))),(23,(.bool (decide ((i64.wrap ((i64.wrap ((i64.wrap (2*ah))+1))+1))<x2)))),(40,(.bool aq))]) ?_ ?_
   ·intro a f
    refine A2 λau w av m=> ?_
    have ao:=od1 av ao
    refine Aa ?_
    have⟨aw,ax,al⟩:=bind_some al
    refine AG (λa w=>∃ay:Int,ay=aw∧∃(az:GH),GLe au az∧Fr a 82 [(0,v0),(2,(iv x2)),(3,(iv x3)),(4,(.func (.func 71) #[] #[])),(10,(iv ah)),(11,(iv ay))]∧Mem W az w (aj::H)) ?_ ?_
    ·rcases Ad ax with⟨aA,ax⟩|⟨aA,ax⟩
     ·refine Aj f Z aA ?_
      refine An ?_
      refine Ab f Z λa f=>Ah f Z Z As λa f=>Ac f Z λa f=>Aa ?_
      obtain rfl:=sj ax
      exact⟨_,Z,_,gr,f.k Z,m⟩
     ·refine Ai f Z aA ?_
      refine Al ?_
      obtain rfl:=sj ax
      exact⟨_,Z,_,gr,f.k Z,m⟩
    ·rintro a w ⟨ay,rfl,az,aB,f,m⟩
     have ao:=od1 aB ao
     refine Af (Af ?_)
     refine Bb 16 AF (by kernel_rfl) m ?_
     refine Ag 0 16 Z f Z λa f=>Ag 1 16 Z f Z λa f=>Ag 2 16 Z f Z λa f=>Ag 3 16 Z f Z λa f=>q_p 4 16 Z f (λ_=>Ay (f.e Z) (f.e Z) As) λa f=> ?_
     have⟨aC,aD,al⟩:=bind_some al
     refine AL 5 16 0 m ao T54 aD Z f Z Z λaE a aF f=>A3 6 16 0 ao AS aF aD Z f Z λaG a aH f=> ?_
     subst aH
     refine Ag 7 16 Z f Z λa f=>Ag 8 16 Z f Z λa f=>Ag 9 16 Z f Z λa f=>q_p 10 16 Z f (λ_=>Ay (f.e Z) (f.e Z) As) λa f=> ?_
     have⟨aI,aJ,al⟩:=bind_some al
     refine AL 11 16 0 m ao T54 aJ Z f Z Z λaK a aL f=>A3 12 16 0 ao AS aL aJ Z f Z λaM a aN f=> ?_
     subst aN
     have⟨aO,aP,al⟩:=bind_some al
     refine BS (i:=13) 16 Z (by kernel_rfl) Z f Z Z Z Z call71 (λ_ _ w aQ m=>Wk.a hW m aP) λa f=>q_p 14 16 Z f (λ_=>Ay (f.e Z) (f.e Z) AI) λa f=>q_p 15 16 Z f (λ_=>Bt (f.e Z)) λa f=>A2 λaR w aS m=> ?_
     have ao:=od1 aS ao
     refine Aa ?_
     rcases Ad al with⟨aT,al⟩|⟨aT,al⟩
     ·refine Aj f Z aT ?_
      refine Ap ?_
      obtain rfl:=sj al
      obtain rfl:=am _ rfl
      obtain rfl:=sj hd
      exact⟨[],trivial,f.d,_,[aj],(gt an (gt av (gt aB aS))),m,_,Z,ao⟩
     ·refine Ai f Z aT ?_
      refine Al ?_
      refine Af ?_
      refine BL AF m ?_
      refine p_p 4 Z f (λ_=>A9 (f.e Z)) λa f=>p_p 5 Z f (λ_=>A9 (f.e Z)) λa f=>p_p 6 Z f (λ_=>A9 (f.e Z)) λa f=>p_p 7 Z f (λ_=>Ay (f.e Z) (f.e Z) As) λa f=>BJ 240021 17 (by kernel_rfl) Z ?_
      refine Ag 0 240021 Z f Z λa f=>Ag 1 240021 Z f Z λa f=>Ag 2 240021 Z f Z λa f=>q_p 3 240021 Z f (λ_=>Ay (f.e Z) (f.e Z) As) λa f=>Ag 8 240021 Z f Z λa f=>Ag 9 240021 Z f Z λa f=>Ag 10 240021 Z f Z λa f=>q_p 11 240021 Z f (λ_=>Ay (f.e Z) (f.e Z) As) λa f=> ?_
      have⟨aU,aV,al⟩:=bind_some al
      refine AL 12 240021 0 m ao T54 aV Z f Z Z λaW a aX f=>A3 13 240021 0 ao AS aX aV Z f Z λaY a aZ f=> ?_
      subst aZ
      refine Ag 14 240021 Z f Z λa f=>Ag 15 240021 Z f Z λa f=>Ag 16 240021 Z f Z λa f=>q_p 17 240021 Z f (λ_=>Ay (f.e Z) (f.e Z) As) λa f=> ?_
      have⟨a0,a1,al⟩:=bind_some al
      refine AL 18 240021 0 m ao T54 a1 Z f Z Z λa2 a a3 f=>A3 19 240021 0 ao AS a3 a1 Z f Z λa4 a a5 f=> ?_
      subst a5
      have⟨a6,a7,al⟩:=bind_some al
      refine AL 20 240021 0 m ao T54 a7 Z f Z Z λa8 a a9 f=>A2 λba w bb m=> ?_
      have ao:=od1 bb ao
      refine AD 0 m ao Z sizeOf75 f Z Z a9 a7 Z Z Z λbc w m bd=> ?_
      have⟨be,bf,al⟩:=bind_some al
      refine Br 0 m bd Z T54 f Z Z Z bf λbg a bh f=>AD 0 m bd Z sizeOf75 f Z Z bh bf Z Z Z λbi w m bj=>Aa (An ?_)
      refine Ab f Z λa f=>Ac f Z λa f=>Aa ?_
      obtain rfl:=sj al
      exact⟨_,Z,_,_,Z,_,bi,(gt an (gt av (gt aB (gt aS bb)))),f.k Z,m,bj⟩
   ·intro bk
    rcases Ad ar with⟨bl,ar⟩|⟨bl,ar⟩
    ·refine Ag (hw:=wo f bl) 5 22 Z f Z λa f=> ?_
     refine Ag (hw:=wo f bl) 6 22 Z f Z λa f=>Ag (hw:=wo f bl) 7 22 Z f Z λa f=>Ag (hw:=wo f bl) 8 22 Z f Z λa f=>q_p (hw:=wo f bl) 9 22 Z f (λ_=>Ay (f.e Z) (f.e Z) As) λa f=> ?_
     have⟨bm,bn,ar⟩:=bind_some ar
     refine AL (hw:=wo f bl) 10 22 0 m ao T54 bn Z f Z Z λbo a bp f=>A3 (hw:=wo f bl) 11 22 0 ao AS bp bn Z f Z λbq a br f=> ?_
     subst br
     refine Ag (hw:=wo f bl) 12 22 Z f Z λa f=>Ag (hw:=wo f bl) 13 22 Z f Z λa f=>Ag (hw:=wo f bl) 14 22 Z f Z λa f=>q_p (hw:=wo f bl) 15 22 Z f (λ_=>Ay (f.e Z) (f.e Z) As) λa f=>q_p (hw:=wo f bl) 16 22 Z f (λ_=>Ay (f.e Z) (f.e Z) As) λa f=> ?_
     have⟨bs,bt,ar⟩:=bind_some ar
     refine AL (hw:=wo f bl) 17 22 0 m ao T54 bt Z f Z Z λbu a bv f=>A3 (hw:=wo f bl) 18 22 0 ao AS bv bt Z f Z λbw a bx f=> ?_
     subst bx
     have⟨bz,bA,ar⟩:=bind_some ar
     refine BS (i:=19) 22 Z (by kernel_rfl) Z f (Bh f Z Z Z bl) Z Z Z call71 (λ_ _ w bB m=>Wk.a hW m bA) λa f=>q_p (hw:=wo f bl) 20 22 Z f (λ_=>Ay (f.e Z) (f.e Z) AI) λa f=>q_p 21 22 Z f (λ_=>AK (f.e Z) bl (f.e Z)) λa f=> ?_
     obtain rfl:=sj ar
     exact bk _ (f.k Z)
    ·refine Aq 5 22 Z f bl λa f=> ?_
     refine Aq 6 22 Z f bl λa f=>Aq 7 22 Z f bl λa f=>Aq 8 22 Z f bl λa f=>Aq 9 22 Z f bl λa f=>Aq 10 22 Z f bl λa f=>Aq 11 22 Z f bl λa f=>Aq 12 22 Z f bl λa f=>Aq 13 22 Z f bl λa f=>Aq 14 22 Z f bl λa f=>Aq 15 22 Z f bl λa f=>Aq 16 22 Z f bl λa f=>Aq 17 22 Z f bl λa f=>Aq 18 22 Z f bl λa f=>Aq 19 22 Z f bl λa f=>Aq 20 22 Z f bl λa f=>q_p 21 22 Z f (λ_=>AJ (f.e Z) bl (f.e Z)) λa f=> ?_
     obtain rfl:=sj ar
     exact bk _ (f.k Z)
 ·rintro a w ⟨_,rfl,ac,rfl,ad,ae,bC,f,m,bD⟩
  obtain rfl:=sj hd
  exact⟨[],trivial,f.d,_,[ae],bC,m,_,Z,bD⟩
theorem Wk.D0 {v0:Value}{it0:Itm}{x0:LI}{x1 x2:Int}(hW:Bo W)(m:Mem W G w (it0::H))(o0:Ow (RI .u32) 75 G it0 v0 x0){y:(LI)}(hd:D.D0 x0 x1 x2=some y):
  Calls prog 111 #[v0,(iv x1),(iv x2),(.func (.func 71) #[] #[])] w (Res W G H (λG' Ho _=>∃i0:Itm,Ho=[i0]∧Ow (RI .u32) 75 G' i0 v0 y)):=by
 refine Ar (args:=[v0,(iv x1),(iv x2),(.func (.func 71) #[] #[])]) (N:=60) [] func111 Z Z (lb Z) Z λa f=> ?_
 unfold D.D0 at hd
 refine Ae ?_
 refine Ab f Z λa f=>Ac f Z λa f=>Av ?_
 refine Ac f Z λa f=>Av ?_
 refine Ab f Z λa f=>Ab f Z λa f=>Ah f Z Z AT λa f=>Ac f Z λa f=>Aa (Af (Ae ?_))
 refine Ab f Z λa f=>Ah f Z Z AT λa f=>Ah f Z Z (Dz Z) λa f=>Ac f Z λa f=>Aa ?_
 have⟨aa,ab,hd⟩:=bind_some hd
 refine AG (λa w=>∃ac:LI,ac=aa∧∃(ad:GH) (ae:Itm),GLe G ad∧Fr a 60 [(0,v0),(3,(.func (.func 71) #[] #[])),(8,(iv x1)),(9,(iv 0)),(10,(iv (i64.wrap (x2-x1))))]∧Mem W ad w (ae::H)∧Ow (RI .u32) 75 ad ae v0 ac) ?_ ?_
 ·refine Ak ?_
  refine AE (λaf a w=>∃ag:LI,∃ah:Int,(ag,ah)=af∧∃(ai:GH) (aj:Itm),GLe G ai∧Fr a 60 [(0,v0),(3,(.func (.func 71) #[] #[])),(8,(iv x1)),(9,(iv 0)),(10,(iv (i64.wrap (x2-x1)))),(11,(iv ah))]∧Mem W ai w (aj::H)∧Ow (RI .u32) 75 ai aj v0 ag) ab ⟨_,_,Z,_,it0,gr,f.k Z,m,o0⟩ ?_
  clear ab f m
  rintro af ak al am a w ⟨ag,ah,rfl,ai,aj,an,f,m,ao⟩
  refine Af (Ae ?_)
  refine Ab f Z λa f=>Ah f Z Z B3 λa f=>Aa ?_
  rcases Ad al with⟨ap,al⟩|⟨ap,al⟩
  ·refine Aj f Z ap ?_
   refine Al ?_
   refine Af (Ak (An ?_))
   refine Ab f Z λa f=>Ab f Z λa f=>Ab f Z λa f=>Ab f Z λa f=>Ab f Z λa f=> ?_
   have⟨aq,ar,al⟩:=bind_some al
   refine AN f Z call125 (Wk.d0 hW m ao ar) λau av aw w ax m ay a f=> ?_
   obtain⟨az,rfl,aA⟩:=ay
   refine Aa (An ?_)
   refine Ab f Z λa f=>Ah f Z Z AT λa f=>Ac f Z λa f=>Aa ?_
   obtain rfl:=sj al
   exact⟨_,Z,_,_,Z,_,az,(gt an ax),f.k Z,m,aA⟩
  ·refine Ai f Z ap ?_
   refine AC Z ?_
   obtain rfl:=sj al
   obtain rfl:=am _ rfl
   exact⟨_,Z,_,aj,an,f.k Z,m,ao⟩
 ·rintro a w ⟨ac,rfl,ad,ae,aB,f,m,aC⟩
  refine Ae ?_
  refine Ab f Z λa f=>Ah f Z Z AT λa f=>Ac f Z λa f=>Aa ?_
  have⟨aD,aE,hd⟩:=bind_some hd
  refine AG (λa w=>∃aF:LI,aF=aD∧∃(aG:GH) (aH:Itm),GLe ad aG∧Fr a 60 []∧Mem W aG w (aH::H)∧Ow (RI .u32) 75 aG aH v0 aF) ?_ ?_
  ·refine Ak ?_
   refine AE (λaI a w=>∃aJ:LI,∃aK:Int,(aJ,aK)=aI∧∃(aL:GH) (aM:Itm),GLe ad aL∧Fr a 60 [(0,v0),(3,(.func (.func 71) #[] #[])),(8,(iv x1)),(9,(iv 0)),(12,(iv aK))]∧Mem W aL w (aM::H)∧Ow (RI .u32) 75 aL aM v0 aJ) aE ⟨_,_,Z,_,ae,gr,f.k Z,m,aC⟩ ?_
   clear aE f m
   rintro aI aN aO aP a w ⟨aJ,aK,rfl,aL,aM,aQ,f,m,aR⟩
   refine Af (Ae ?_)
   refine Ab f Z λa f=>Ah f Z Z B3 λa f=>Aa ?_
   rcases Ad aO with⟨aS,aO⟩|⟨aS,aO⟩
   ·refine Aj f Z aS ?_
    refine Al ?_
    refine Af (Ak (Af ?_))
    refine BL AF m ?_
    refine p_p 2 Z f (λ_=>A9 (f.e Z)) λa f=>p_p 3 Z f (λ_=>A9 (f.e Z)) λa f=>p_p 4 Z f (λ_=>A9 (f.e Z)) λa f=>p_p 5 Z f (λ_=>Ay (f.e Z) (f.e Z) As) λa f=>BJ 60017 13 (by kernel_rfl) Z ?_
    refine Ag 0 60017 Z f Z λa f=>Ag 1 60017 Z f Z λa f=>Ag 6 60017 Z f Z λa f=>Ag 7 60017 Z f Z λa f=>Ag 8 60017 Z f Z λa f=>q_p 9 60017 Z f (λ_=>Ay (f.e Z) (f.e Z) As) λa f=> ?_
    have⟨aT,aU,aO⟩:=bind_some aO
    refine AL 10 60017 0 m aR T54 aU Z f Z Z λaV a aW f=>A3 11 60017 0 aR AS aW aU Z f Z λaX a aY f=> ?_
    subst aY
    refine Ag 12 60017 Z f Z λa f=>Ag 13 60017 Z f Z λa f=> ?_
    have⟨aZ,a0,aO⟩:=bind_some aO
    refine AL 14 60017 0 m aR T54 a0 Z f Z Z λa1 a a2 f=>A3 15 60017 0 aR AS a2 a0 Z f Z λa3 a a4 f=> ?_
    subst a4
    have⟨a5,a6,aO⟩:=bind_some aO
    refine AL 16 60017 0 m aR T54 a6 Z f Z Z λa7 a a8 f=>A2 λa9 w ba m=> ?_
    have aR:=od1 ba aR
    refine AD 0 m aR Z sizeOf75 f Z Z a8 a6 Z Z Z λbb w m bc=> ?_
    have⟨bd,be,aO⟩:=bind_some aO
    refine Br 0 m bc Z T54 f Z Z Z be λbf a bg f=>AD 0 m bc Z sizeOf75 f Z Z bg be Z Z Z λbh w m bi=>Aa (An ?_)
    refine Ab f Z λa f=>Ab f Z λa f=>Ab f Z λa f=>Ab f Z λa f=>Ab f Z λa f=> ?_
    have⟨bj,bk,aO⟩:=bind_some aO
    refine AN f Z call125 (Wk.d0 hW m bi bk) λbl bm bn w bo m bp a f=> ?_
    obtain⟨bq,rfl,br⟩:=bp
    refine Aa (An ?_)
    refine Ab f Z λa f=>Ah f Z Z AT λa f=>Ac f Z λa f=>Aa ?_
    obtain rfl:=sj aO
    exact⟨_,Z,_,_,Z,_,bq,(gt aQ (gt ba bo)),f.k Z,m,br⟩
   ·refine Ai f Z aS ?_
    refine AC Z ?_
    obtain rfl:=sj aO
    obtain rfl:=aP _ rfl
    exact⟨_,Z,_,aM,aQ,f.weak trivial,m,aR⟩
  ·rintro a w ⟨aF,rfl,aG,aH,bs,f,m,bt⟩
   obtain rfl:=sj hd
   exact⟨[],trivial,f.d,_,[aH],(gt aB bs),m,_,Z,bt⟩
theorem Wk.K0 {v0:Value}{it0:Itm}{x0:LI}{x1 x2:Int}(m:Mem W G w (it0::H))(o0:Ow (RI .u32) 75 G it0 v0 x0){y:(LI)}(hd:D.K0 x0 x1 x2=some y):
  Calls prog 112 #[v0,(iv x1),(iv x2),(.func (.func 71) #[] #[])] w (Res W G H (λG' Ho _=>∃i0:Itm,Ho=[i0]∧Ow (RI .u32) 75 G' i0 v0 y)):=by
 refine Ar (args:=[v0,(iv x1),(iv x2),(.func (.func 71) #[] #[])]) (N:=67) [] func112 Z Z (lb Z) Z λa f=> ?_
 unfold D.K0 at hd
 refine Ae ?_
 refine Ab f Z λa f=>Ab f Z λa f=>Ah f Z Z AT λa f=>Ac f Z λa f=>Av ?_
 refine Ab f Z λa f=>Ah f Z Z B3 λa f=>Aa ?_
 rcases Ad hd with⟨aa,hd⟩|⟨aa,hd⟩
 ·refine Aj f Z aa ?_
  refine Ae ?_
  refine Ab f Z λa f=>l_o f (CF (f.e Z) ⟨_,underlying3⟩ underlying135) λa f=>BN (cs:=[(.int .u64 0)]) zeroValue135 m f Z Z λab w a m f=>AP 0 0 (ds:=[(.int .u64 (IntKind.u64.wrap (i64.wrap (x2-x1))))]) m sizeOf135 f Z Z Z (AR Z A5) Z (lb Z) Z λw m=>Av ?_
  refine Ab f Z λa f=> ?_
  have⟨ac,ad,hd⟩:=bind_some hd
  refine Bc f Z call126 (Wk.P m ad) λae w af m a f=> ?_
  have o0:=od1 af o0
  refine Ac f Z λa f=>Av ?_
  refine Ab f Z λa f=>Ab f Z λa f=>Ah f Z Z (Dz Z) λa f=>Ah f Z Z C7 λa f=>Ah f Z Z As λa f=>Ah f Z Z AT λa f=>Ac f Z λa f=>Aa ?_
  have⟨ag,ah,hd⟩:=bind_some hd
  refine AG (λa w=>∃ai:LI,ai=ag∧∃(aj:GH) (ak:Itm),GLe ae aj∧Fr a 67 []∧Mem W aj w (ak::H)∧Ow (RI .u32) 75 aj ak v0 ai) ?_ ?_
  ·refine Ak ?_
   refine AE (λal a w=>∃am:LI,∃an:Int,∃ao:Int,(am,an,ao)=al∧∃(ap:GH) (aq:Itm),GLe ae ap∧Fr a 67 [(0,v0),(1,(iv x1)),(8,(iv (i64.wrap (x2-x1)))),(9,(pb ab)),(10,(.int .u64 ac)),(11,(iv an))]∧Mem W ap w (ib ab 135 [(.int .u64 ao)]::aq::H)∧Ow (RI .u32) 75 ap aq v0 am) ah ⟨_,_,_,Z,_,it0,gr,f.k Z,m,o0⟩ ?_
   clear ah f m
   rintro al ar au av a w ⟨am,an,ao,rfl,ap,aq,aw,f,m,ax⟩
   refine Af (Ae ?_)
   refine Ab f Z λa f=>Ab f Z λa f=>Ab f Z λa f=>Ah f Z Z (Dz Z) λa f=>Ah f Z Z C7 λa f=>Ah f Z Z As λa f=>Ah f Z Z As λa f=>Ah f Z Z BT λa f=>Aa ?_
   rcases Ad au with⟨ay,au⟩|⟨ay,au⟩
   ·refine Aj f Z ay ?_
    refine Al ?_
    refine Af (Ak (Ae ?_))
    have⟨az,aA,au⟩:=bind_some au
    refine AN f Z call127 (Wk.v0 m aA) λaB aC aD w aE m aF a f=> ?_
    obtain⟨rfl,rfl⟩:=aF
    have ax:=od1 aE ax
    refine Ab f Z λa f=>Ah f Z Z AT λa f=>Ah f Z Z CH λa f=>l_o f (CF (f.e Z) ⟨_,underlying62⟩ underlying3) λa f=>Ac f Z λa f=>Aa (Af (Ae ?_))
    refine Ab f Z λa f=>Ab f Z λa f=>Ah f Z Z B3 λa f=>Aa ?_
    have⟨aG,aH,au⟩:=bind_some au
    refine AG (λa w=>∃aI:Int,aI=aG∧∃(aJ:GH),GLe aC aJ∧Fr a 67 [(0,v0),(1,(iv x1)),(8,(iv (i64.wrap (x2-x1)))),(9,(pb ab)),(10,(.int .u64 ac)),(11,(iv an)),(12,(iv aI))]∧Mem W aJ w (ib ab 135 [(.int .u64 az.2)]::aq::H)) ?_ ?_
    ·rcases Ad aH with⟨aK,aH⟩|⟨aK,aH⟩
     ·refine Aj f Z aK ?_
      refine An ?_
      refine Ab f Z λa f=>Ab f Z λa f=>Ah f Z Z AT λa f=>Ac f Z λa f=>Aa ?_
      obtain rfl:=sj aH
      exact⟨_,Z,_,gr,f.k Z,m⟩
     ·refine Ai f Z aK ?_
      refine Al ?_
      obtain rfl:=sj aH
      exact⟨_,Z,_,gr,f.k Z,m⟩
    ·rintro a w ⟨aI,rfl,aJ,aL,f,m⟩
     have ax:=od1 aL ax
     refine BL AF m ?_
     refine p_p 2 Z f (λ_=>A9 (f.e Z)) λa f=>p_p 3 Z f (λ_=>A9 (f.e Z)) λa f=>p_p 4 Z f (λ_=>A9 (f.e Z)) λa f=>p_p 5 Z f (λ_=>Ay (f.e Z) (f.e Z) As) λa f=>BJ 60017 13 (by kernel_rfl) Z ?_
     refine Ag 0 60017 Z f Z λa f=>Ag 1 60017 Z f Z λa f=>Ag 6 60017 Z f Z λa f=>Ag 7 60017 Z f Z λa f=>Ag 8 60017 Z f Z λa f=>q_p 9 60017 Z f (λ_=>Ay (f.e Z) (f.e Z) As) λa f=> ?_
     have⟨aM,aN,au⟩:=bind_some au
     refine AL 10 60017 1 m ax T54 aN Z f Z Z λaO a aP f=>A3 11 60017 1 ax AS aP aN Z f Z λaQ a aR f=> ?_
     subst aR
     refine Ag 12 60017 Z f Z λa f=>Ag 13 60017 Z f Z λa f=> ?_
     have⟨aS,aT,au⟩:=bind_some au
     refine AL 14 60017 1 m ax T54 aT Z f Z Z λaU a aV f=>A3 15 60017 1 ax AS aV aT Z f Z λaW a aX f=> ?_
     subst aX
     have⟨aY,aZ,au⟩:=bind_some au
     refine AL 16 60017 1 m ax T54 aZ Z f Z Z λa0 a a1 f=>A2 λa2 w a3 m=> ?_
     have ax:=od1 a3 ax
     refine AD 1 m ax Z sizeOf75 f Z Z a1 aZ Z Z Z λa4 w m a5=> ?_
     have⟨a6,a7,au⟩:=bind_some au
     refine Br 1 m a5 Z T54 f Z Z Z a7 λa8 a a9 f=>AD 1 m a5 Z sizeOf75 f Z Z a9 a7 Z Z Z λba w m bb=>Aa (An ?_)
     refine Ab f Z λa f=>Ah f Z Z As λa f=>Ac f Z λa f=>Aa ?_
     obtain rfl:=sj au
     exact⟨_,Z,_,_,_,Z,_,ba,(gt aw (gt aE (gt aL a3))),f.k Z,m,bb⟩
   ·refine Ai f Z ay ?_
    refine AC Z ?_
    have m:=m.fr 1
    have m:=m.eraseAt 1
    obtain rfl:=sj au
    obtain rfl:=av _ rfl
    exact⟨_,Z,_,aq,aw,f.weak trivial,m,ax⟩
  ·rintro a w ⟨ai,rfl,aj,ak,bc,f,m,bd⟩
   obtain rfl:=sj hd
   exact⟨[],trivial,f.d,_,[ak],(gt af bc),m,_,Z,bd⟩
 ·refine Ai f Z aa ?_
  refine Al ?_
  obtain rfl:=sj hd
  exact⟨[],trivial,f.d,_,[it0],gr,m,_,Z,o0⟩
theorem Wk.K {v0:Value}{it0:Itm}{b3:Nat}{x0:LI}{x1 x2 aa:Int}(hW:Bo W)(m:Mem W G w (it0::ib b3 3 [(iv aa)]::H))(o0:Ow (RI .u32) 75 G it0 v0 x0){y:Int×Int×(LI)×Int}(hd:D.K x0 x1 x2 aa=some y):
  Calls prog 134 #[v0,(iv x1),(iv x2),(pb b3),(.func (.func 71) #[] #[])] w (Res W G H (λG' Ho v=>∃i0:Itm,Ho=[i0,ib b3 3 [(iv y.2.2.2)]]∧v= .tuple #[(iv y.1),(iv y.2.1)]∧Ow (RI .u32) 75 G' i0 v0 y.2.2.1)):=by
 refine Ar (args:=[v0,(iv x1),(iv x2),(pb b3),(.func (.func 71) #[] #[])]) (N:=32) [.tmp 10,.tmp 11] func134 Z Z (lb Z) Z λa f=> ?_
 unfold D.K at hd
 refine Ae ?_
 refine Ac f Z λa f=>Ac f Z λa f=>Aa (Af (Af ?_))
 refine Bb 11 AF (by kernel_rfl) m ?_
 refine Ag 0 11 Z f Z λa f=>Ag 1 11 Z f Z λa f=>Ag 2 11 Z f Z λa f=> ?_
 have⟨ab,ac,hd⟩:=bind_some hd
 refine AL 3 11 0 m o0 T54 ac Z f Z Z λad a ae f=>A3 4 11 0 o0 AS ae ac Z f Z λaf a ag f=> ?_
 subst ag
 refine Ag 5 11 Z f Z λa f=>Ag 6 11 Z f Z λa f=> ?_
 have⟨ah,ai,hd⟩:=bind_some hd
 refine AL 7 11 0 m o0 T54 ai Z f Z Z λaj a ak f=>A3 8 11 0 o0 AS ak ai Z f Z λal a am f=> ?_
 subst am
 have⟨an,ao,hd⟩:=bind_some hd
 refine BS (i:=9) 11 Z (by kernel_rfl) Z f Z Z Z Z call71 (λ_ _ w ap m=>Wk.a hW m ao) λa f=>q_p 10 11 Z f (λ_=>Ay (f.e Z) (f.e Z) AI) λa f=>A2 λaq w ar m=> ?_
 have o0:=od1 ar o0
 refine Aa ?_
 rcases Ad hd with⟨au,hd⟩|⟨au,hd⟩
 ·refine Aj f Z au ?_
  refine Ae ?_
  refine Ab f Z λa f=>l_o f (AO (f.e Z)) λa f=>Aw 1 0 m Pl3 f Z Z Z Z λa f=>Ah f Z Z As λa f=>l_o f (AO (f.e Z)) λa f=>AP 1 0 (ds:=[(iv (i64.wrap (aa+1)))]) m sizeOf3 f Z Z Z (AR Z A5) Z (lb Z) Z λw m=>Av ?_
  refine Ab f Z λa f=>Ab f Z λa f=>Ac f Z λa f=>Ac f Z λa f=>Aa ?_
  refine Ap ?_
  obtain rfl:=sj hd
  exact⟨[(iv x2),(iv x1)],⟨f.get _ _ Z,f.get _ _ Z,trivial⟩,f.d,_,[it0,ib b3 3 [(iv (i64.wrap (aa+1)))]],ar,m,_,Z,Z,o0⟩
 ·refine Ai f Z au ?_
  refine Al ?_
  refine Ae ?_
  refine Ab f Z λa f=>Ab f Z λa f=>Ac f Z λa f=>Ac f Z λa f=>Aa ?_
  refine Ap ?_
  obtain rfl:=sj hd
  exact⟨[(iv x1),(iv x2)],⟨f.get _ _ Z,f.get _ _ Z,trivial⟩,f.d,_,[it0,ib b3 3 [(iv aa)]],ar,m,_,Z,Z,o0⟩
theorem Wk.f0 {v0:Value}{it0:Itm}{b4:Nat}{x0:LI}{x1 x2 x3 aa:Int}(hW:Bo W)(m:Mem W G w (it0::ib b4 3 [(iv aa)]::H))(o0:Ow (RI .u32) 75 G it0 v0 x0){y:Int×(LI)×Int}(hd:D.f0 x0 x1 x2 x3 aa=some y):
  Calls prog 129 #[v0,(iv x1),(iv x2),(iv x3),(pb b4),(.func (.func 71) #[] #[])] w (Res W G H (λG' Ho v=>∃i0:Itm,Ho=[i0,ib b4 3 [(iv y.2.2)]]∧v=(iv y.1)∧Ow (RI .u32) 75 G' i0 v0 y.2.1)):=by
 refine Ar (args:=[v0,(iv x1),(iv x2),(iv x3),(pb b4),(.func (.func 71) #[] #[])]) (N:=41) [.tmp 12] func129 Z Z (lb Z) Z λa f=> ?_
 unfold D.f0 at hd
 refine Ae ?_
 refine Ac f Z λa f=>Av ?_
 refine Ab f Z λa f=>Ab f Z λa f=>Ab f Z λa f=>Ab f Z λa f=>Ab f Z λa f=> ?_
 have⟨ab,ac,hd⟩:=bind_some hd
 refine AN f Z call134 (Wk.K hW m o0 ac) λad ae af w ag m ah a f=> ?_
 obtain⟨ai,rfl,rfl,aj⟩:=ah
 refine Ab f Z λa f=>l_o f (A6 (f.e Z) Z) λa f=>l_o f (A6 (f.e Z) Z) λa f=>Ac f Z λa f=>Ac f Z λa f=>Av ?_
 refine Ab f Z λa f=>Ab f Z λa f=>Ab f Z λa f=>Ab f Z λa f=>Ab f Z λa f=> ?_
 have⟨ak,al,hd⟩:=bind_some hd
 refine AN f Z call134 (Wk.K hW m aj al) λam an ao w ap m aq a f=> ?_
 obtain⟨ar,rfl,rfl,au⟩:=aq
 refine Ab f Z λa f=>l_o f (A6 (f.e Z) Z) λa f=>l_o f (A6 (f.e Z) Z) λa f=>Ac f Z λa f=>Ac f Z λa f=>Av ?_
 refine Ab f Z λa f=>Ab f Z λa f=>Ab f Z λa f=>Ab f Z λa f=>Ab f Z λa f=> ?_
 have⟨av,aw,hd⟩:=bind_some hd
 refine AN f Z call134 (Wk.K hW m au aw) λax ay az w aA m aB a f=> ?_
 obtain⟨aC,rfl,rfl,aD⟩:=aB
 refine Ab f Z λa f=>l_o f (A6 (f.e Z) Z) λa f=>l_o f (A6 (f.e Z) Z) λa f=>Ac f Z λa f=>Ac f Z λa f=>Av ?_
 refine Ab f Z λa f=>Ac f Z λa f=>Aa ?_
 refine Ap ?_
 obtain rfl:=sj hd
 exact⟨[(iv av.2.1)],f.g Z,f.d,_,[aC,ib b4 3 [(iv av.2.2.2)]],(gt ag (gt ap aA)),m,_,Z,Z,aD⟩
theorem Wk.B {v0:Value}{it0:Itm}{b2:Nat}{x0:LI}{x1 aa:Int}(hW:Bo W)(m:Mem W G w (it0::ib b2 3 [(iv aa)]::H))(o0:Ow (RI .u32) 75 G it0 v0 x0){y:Int×(LI)×Int}(hd:D.B x0 x1 aa=some y):
  Calls prog 128 #[v0,(iv x1),(pb b2),(.func (.func 71) #[] #[])] w (Res W G H (λG' Ho v=>∃i0:Itm,Ho=[i0,ib b2 3 [(iv y.2.2)]]∧v=(iv y.1)∧Ow (RI .u32) 75 G' i0 v0 y.2.1)):=by
 refine Ar (args:=[v0,(iv x1),(pb b2),(.func (.func 71) #[] #[])]) (N:=18) [.tmp 8] func128 Z Z (lb Z) Z λa f=> ?_
 unfold D.B at hd
 refine Ae ?_
 refine Ac f Z λa f=>Av ?_
 refine Ab f Z λa f=>Ab f Z λa f=>Ah f Z Z AT λa f=>Ab f Z λa f=>Ab f Z λa f=>Ah f Z Z As λa f=>Ab f Z λa f=>Ab f Z λa f=> ?_
 have⟨ab,ac,hd⟩:=bind_some hd
 refine AN f Z call129 (Wk.f0 hW m o0 ac) λad ae af w ag m ah a f=> ?_
 obtain⟨ai,rfl,rfl,aj⟩:=ah
 refine Ac f Z λa f=>Aa ?_
 refine Ap ?_
 obtain rfl:=sj hd
 exact⟨[(iv ab.1)],f.g Z,f.d,_,[ai,ib b2 3 [(iv ab.2.2)]],ag,m,_,Z,Z,aj⟩
theorem Wk.z0 {v0:Value}{it0:Itm}{x0:LI}{x1 x2:Int}(hW:Bo W)(m:Mem W G w (it0::H))(o0:Ow (RI .u32) 75 G it0 v0 x0){y:Int×Int×(LI)}(hd:D.z0 x0 x1 x2=some y):
  Calls prog 113 #[v0,(iv x1),(iv x2),(.func (.func 71) #[] #[])] w (Res W G H (λG' Ho v=>∃i0:Itm,Ho=[i0]∧v= .tuple #[(iv y.1),(iv y.2.1)]∧Ow (RI .u32) 75 G' i0 v0 y.2.2)):=by
 refine Ar (args:=[v0,(iv x1),(iv x2),(.func (.func 71) #[] #[])]) (N:=63) [.tmp 8,.tmp 9] func113 Z Z (lb Z) Z λa f=> ?_
 unfold D.z0 at hd
 refine Ae ?_
 refine Ac f Z λa f=>Ac f Z λa f=>Av ?_
 refine Ab f Z λa f=>Ab f Z λa f=>Ah f Z Z AT λa f=>Ac f Z λa f=>Av ?_
 refine BN (cs:=[(iv 0)]) zeroValue3 m f Z Z λaa w a m f=>Av ?_
 refine Ab f Z λa f=>Ab f Z λa f=>Ah f Z Z (Dz Z) λa f=>Ah f Z Z C7 λa f=>Ah f Z Z As λa f=>Ac f Z λa f=>Av ?_
 refine Ab f Z λa f=>Ab f Z λa f=>Ah f Z Z (Dz Z) λa f=>Ah f Z Z C7 λa f=>Ah f Z Z As λa f=>Ac f Z λa f=>Av ?_
 refine Ab f Z λa f=>Ab f Z λa f=>Ah f Z Z (Dz Z) λa f=>Ah f Z Z C7 λa f=>Ah f Z Z As λa f=>Ac f Z λa f=>Aa (Af (Ae ?_))
 refine Ab f Z λa f=>Ah f Z Z B3 λa f=>Aa ?_
 rcases Ad hd with⟨ab,hd⟩|⟨ab,hd⟩
 ·refine Aj f Z ab ?_
  refine Af (Ae ?_)
  refine Ab f Z λa f=>Ah f Z Z B3 λa f=>Aa ?_
  have⟨ac,ad,hd⟩:=bind_some hd
  refine AG (λa w=>∃ae:LI,∃af:Int,∃ag:Int,∃ah:Int,∃ai:Int,(ae,af,ag,ah,ai)=ac∧∃(aj:GH) (ak:Itm),GLe G aj∧Fr a 63 [(0,v0),(3,(.func (.func 71) #[] #[])),(11,(pb aa)),(12,(iv af)),(13,(iv ag)),(14,(iv ah))]∧Mem W aj w (ib aa 3 [(iv ai)]::ak::H)∧Ow (RI .u32) 75 aj ak v0 ae) ?_ ?_
  ·rcases Ad ad with⟨al,ad⟩|⟨al,ad⟩
   ·refine Aj f Z al ?_
    refine Ae ?_
    refine Ab f Z λa f=>Ab f Z λa f=>Ab f Z λa f=> ?_
    have m:=m.fr 1
    have⟨am,an,ad⟩:=bind_some ad
    refine AN f Z call128 (Wk.B hW m o0 an) λao ap aq w ar m au a f=> ?_
    obtain⟨av,rfl,rfl,aw⟩:=au
    refine Ac f Z λa f=>Av ?_
    refine Ab f Z λa f=>Ab f Z λa f=>Ab f Z λa f=> ?_
    have⟨ax,ay,ad⟩:=bind_some ad
    refine AN f Z call128 (Wk.B hW m aw ay) λaz aA aB w aC m aD a f=> ?_
    obtain⟨aE,rfl,rfl,aF⟩:=aD
    refine Ac f Z λa f=>Aa (An ?_)
    refine Ab f Z λa f=>Ab f Z λa f=>Ab f Z λa f=> ?_
    have⟨aG,aH,ad⟩:=bind_some ad
    refine AN f Z call128 (Wk.B hW m aF aH) λaI aJ aK w aL m aM a f=> ?_
    obtain⟨aN,rfl,rfl,aO⟩:=aM
    refine Ac f Z λa f=>Aa ?_
    have m:=m.fr 1
    obtain rfl:=sj ad
    exact⟨_,_,_,_,_,Z,_,aN,(gt ar (gt aC aL)),f.k Z,m,aO⟩
   ·refine Ai f Z al ?_
    refine Al ?_
    obtain rfl:=sj ad
    exact⟨_,_,_,_,_,Z,_,it0,gr,f.k Z,m,o0⟩
  ·rintro a w ⟨ae,af,ag,ah,ai,rfl,aj,ak,aP,f,m,aQ⟩
   refine An ?_
   refine Ab f Z λa f=>Ab f Z λa f=>Ab f Z λa f=>Ab f Z λa f=>Ab f Z λa f=> ?_
   have m:=m.fr 1
   have⟨aR,aS,hd⟩:=bind_some hd
   refine AN f Z call129 (Wk.f0 hW m aQ aS) λaT aU aV w aW m aX a f=> ?_
   obtain⟨aY,rfl,rfl,aZ⟩:=aX
   refine Ac f Z λa f=>Av ?_
   refine Aw 1 0 m Pl3 f Z Z Z Z λa f=>Aa (Ak (Ae ?_))
   refine Ah f Z Z BU λa f=>Ac f Z λa f=>Aa ?_
   rcases Ad hd with⟨a0,hd⟩|⟨a0,hd⟩
   ·refine Aj f Z a0 ?_
    refine Ae ?_
    refine Ab f Z λa f=>Ac f Z λa f=>Ac f Z λa f=>Aa ?_
    refine Ap ?_
    have m:=m.eraseAt 1
    obtain rfl:=sj hd
    exact⟨[(iv aR.1),(iv 1)],⟨f.get _ _ Z,f.get _ _ Z,trivial⟩,f.d,_,[aY],(gt aP aW),m,_,Z,Z,aZ⟩
   ·refine Ai f Z a0 ?_
    refine Ae ?_
    refine Ah f Z Z BU λa f=>Ac f Z λa f=>Aa ?_
    rcases Ad hd with⟨a1,hd⟩|⟨a1,hd⟩
    ·refine Aj f Z a1 ?_
     refine Ae ?_
     refine Ab f Z λa f=>Ac f Z λa f=>Ac f Z λa f=>Aa ?_
     refine Ap ?_
     have m:=m.eraseAt 1
     obtain rfl:=sj hd
     exact⟨[(iv aR.1),(iv 2)],⟨f.get _ _ Z,f.get _ _ Z,trivial⟩,f.d,_,[aY],(gt aP aW),m,_,Z,Z,aZ⟩
    ·refine Ai f Z a1 ?_
     refine Ae ?_
     refine Ab f Z λa f=>Ac f Z λa f=>Ac f Z λa f=>Aa ?_
     refine Ap ?_
     have m:=m.eraseAt 1
     obtain rfl:=sj hd
     exact⟨[(iv aR.1),(iv 0)],⟨f.get _ _ Z,f.get _ _ Z,trivial⟩,f.d,_,[aY],(gt aP aW),m,_,Z,Z,aZ⟩
 ·refine Ai f Z ab ?_
  refine Al ?_
  refine Ae ?_
  refine Aw 0 0 m Pl3 f Z Z Z Z λa f=>Aa (Ak (Ae ?_))
  refine Ah f Z Z BU λa f=>Ac f Z λa f=>Aa ?_
  rcases Ad hd with⟨a2,hd⟩|⟨a2,hd⟩
  ·refine Aj f Z a2 ?_
   refine Ae ?_
   refine Ab f Z λa f=>Ac f Z λa f=>Ac f Z λa f=>Aa ?_
   refine Ap ?_
   have m:=m.fr 1
   have m:=m.eraseAt 1
   obtain rfl:=sj hd
   exact⟨[(iv (i64.wrap (x1+(i64.wrap ((i64.wrap (Int.tdiv (i64.wrap (x2-x1)) 4))*2))))),(iv 1)],⟨f.get _ _ Z,f.get _ _ Z,trivial⟩,f.d,_,[it0],gr,m,_,Z,Z,o0⟩
  ·refine Ai f Z a2 ?_
   refine Ae ?_
   refine Ah f Z Z BU λa f=>Ac f Z λa f=>Aa ?_
   rcases Ad hd with⟨a3,hd⟩|⟨a3,hd⟩
   ·refine Aj f Z a3 ?_
    refine Ae ?_
    refine Ab f Z λa f=>Ac f Z λa f=>Ac f Z λa f=>Aa ?_
    refine Ap ?_
    have m:=m.fr 1
    have m:=m.eraseAt 1
    obtain rfl:=sj hd
    exact⟨[(iv (i64.wrap (x1+(i64.wrap ((i64.wrap (Int.tdiv (i64.wrap (x2-x1)) 4))*2))))),(iv 2)],⟨f.get _ _ Z,f.get _ _ Z,trivial⟩,f.d,_,[it0],gr,m,_,Z,Z,o0⟩
   ·refine Ai f Z a3 ?_
    refine Ae ?_
    refine Ab f Z λa f=>Ac f Z λa f=>Ac f Z λa f=>Aa ?_
    refine Ap ?_
    have m:=m.fr 1
    have m:=m.eraseAt 1
    obtain rfl:=sj hd
    exact⟨[(iv (i64.wrap (x1+(i64.wrap ((i64.wrap (Int.tdiv (i64.wrap (x2-x1)) 4))*2))))),(iv 0)],⟨f.get _ _ Z,f.get _ _ Z,trivial⟩,f.d,_,[it0],gr,m,_,Z,Z,o0⟩
theorem Wk.E0 {v0:Value}{it0:Itm}{x0:LI}{x1 x2:Int}(m:Mem W G w (it0::H))(o0:Ow (RI .u32) 75 G it0 v0 x0){y:(LI)}(hd:D.E0 x0 x1 x2=some y):
  Calls prog 114 #[v0,(iv x1),(iv x2),(.func (.func 71) #[] #[])] w (Res W G H (λG' Ho _=>∃i0:Itm,Ho=[i0]∧Ow (RI .u32) 75 G' i0 v0 y)):=by
 refine Ar (args:=[v0,(iv x1),(iv x2),(.func (.func 71) #[] #[])]) (N:=34) [] func114 Z Z (lb Z) Z λa f=> ?_
 unfold D.E0 at hd
 refine Ae ?_
 refine Ab f Z λa f=>Ac f Z λa f=>Av ?_
 refine Ab f Z λa f=>Ah f Z Z AT λa f=>Ac f Z λa f=>Aa ?_
 have⟨aa,ab,hd⟩:=bind_some hd
 refine AG (λa w=>∃ac:LI,ac=aa∧∃(ad:GH) (ae:Itm),GLe G ad∧Fr a 34 []∧Mem W ad w (ae::H)∧Ow (RI .u32) 75 ad ae v0 ac) ?_ ?_
 ·refine Ak ?_
  refine AE (λaf a w=>∃ag:LI,∃ah:Int,∃ai:Int,(ag,ah,ai)=af∧∃(aj:GH) (ak:Itm),GLe G aj∧Fr a 34 [(0,v0),(8,(iv ah)),(9,(iv ai))]∧Mem W aj w (ak::H)∧Ow (RI .u32) 75 aj ak v0 ag) ab ⟨_,_,_,Z,_,it0,gr,f.k Z,m,o0⟩ ?_
  clear ab f m
  rintro af al am an a w ⟨ag,ah,ai,rfl,aj,ak,ao,f,m,ap⟩
  refine Af (Ae ?_)
  refine Ab f Z λa f=>Ab f Z λa f=>Ah f Z Z AI λa f=>Aa ?_
  rcases Ad am with⟨aq,am⟩|⟨aq,am⟩
  ·refine Aj f Z aq ?_
   refine Al ?_
   refine Ak (Af ?_)
   refine BL AF m ?_
   refine p_p 2 Z f (λ_=>A9 (f.e Z)) λa f=>p_p 3 Z f (λ_=>A9 (f.e Z)) λa f=>BJ 12013 11 (by kernel_rfl) Z ?_
   refine Ag 0 12013 Z f Z λa f=>Ag 1 12013 Z f Z λa f=>Ag 4 12013 Z f Z λa f=>Ag 5 12013 Z f Z λa f=> ?_
   have⟨ar,au,am⟩:=bind_some am
   refine AL 6 12013 0 m ap T54 au Z f Z Z λav a aw f=>A3 7 12013 0 ap AS aw au Z f Z λax a ay f=> ?_
   subst ay
   refine Ag 8 12013 Z f Z λa f=>Ag 9 12013 Z f Z λa f=> ?_
   have⟨az,aA,am⟩:=bind_some am
   refine AL 10 12013 0 m ap T54 aA Z f Z Z λaB a aC f=>A3 11 12013 0 ap AS aC aA Z f Z λaD a aE f=> ?_
   subst aE
   have⟨aF,aG,am⟩:=bind_some am
   refine AL 12 12013 0 m ap T54 aG Z f Z Z λaH a aI f=>A2 λaJ w aK m=> ?_
   have ap:=od1 aK ap
   refine AD 0 m ap Z sizeOf75 f Z Z aI aG Z Z Z λaL w m aM=> ?_
   have⟨aN,aO,am⟩:=bind_some am
   refine Br 0 m aM Z T54 f Z Z Z aO λaP a aQ f=>AD 0 m aM Z sizeOf75 f Z Z aQ aO Z Z Z λaR w m aS=>Av ?_
   refine Ab f Z λa f=>Ah f Z Z As λa f=>Ac f Z λa f=>Aa (An ?_)
   refine Ab f Z λa f=>Ah f Z Z AT λa f=>Ac f Z λa f=>Aa ?_
   obtain rfl:=sj am
   exact⟨_,Z,_,_,_,Z,_,aR,(gt ao aK),f.k Z,m,aS⟩
  ·refine Ai f Z aq ?_
   refine AC Z ?_
   obtain rfl:=sj am
   obtain rfl:=an _ rfl
   exact⟨_,Z,_,ak,ao,f.weak trivial,m,ap⟩
 ·rintro a w ⟨ac,rfl,ad,ae,aT,f,m,aU⟩
  obtain rfl:=sj hd
  exact⟨[],trivial,f.d,_,[ae],aT,m,_,Z,aU⟩
theorem Wk.L0 {v0:Value}{it0:Itm}{x0:LI}{x1 x2:Int}(hW:Bo W)(m:Mem W G w (it0::H))(o0:Ow (RI .u32) 75 G it0 v0 x0){y:Bool×(LI)}(hd:D.L0 x0 x1 x2=some y):
  Calls prog 115 #[v0,(iv x1),(iv x2),(.func (.func 71) #[] #[])] w (Res W G H (λG' Ho v=>∃i0:Itm,Ho=[i0]∧v=(.bool y.1)∧Ow (RI .u32) 75 G' i0 v0 y.2)):=by
 refine Ar (args:=[v0,(iv x1),(iv x2),(.func (.func 71) #[] #[])]) (N:=141) [.tmp 8] func115 Z Z (lb Z) Z λa f=> ?_
 unfold D.L0 at hd
 refine Ae ?_
 refine Ac f Z λa f=>Av ?_
 refine Ab f Z λa f=>Ah f Z Z As λa f=>Ac f Z λa f=>Aa (Af (Ae ?_))
 refine Ac f Z λa f=>Aa ?_
 have⟨aa,ab,hd⟩:=bind_some hd
 refine AG (λa w=>∃q_1621':LI,aa= .inl q_1621'∧∃ac:LI,ac=q_1621'∧∃(ad:GH) (ae:Itm),GLe G ad∧Fr a 141 []∧Mem W ad w (ae::H)∧Ow (RI .u32) 75 ad ae v0 ac) ?_ ?_
 ·refine Ak ?_
  refine AE (λaf a w=>∃ag:LI,∃ah:Int,∃ai:Int,(ag,ah,ai)=af∧∃(aj:GH) (ak:Itm),GLe G aj∧Fr a 141 [(0,v0),(1,(iv x1)),(2,(iv x2)),(3,(.func (.func 71) #[] #[])),(9,(iv ah)),(10,(iv ai))]∧Mem W aj w (ak::H)∧Ow (RI .u32) 75 aj ak v0 ag) ab ⟨_,_,_,Z,_,it0,gr,f.k Z,m,o0⟩ ?_
  clear ab f m
  rintro af al am an a w ⟨ag,ah,ai,rfl,aj,ak,ao,f,m,ap⟩
  refine Af (Ae ?_)
  refine Ab f Z λa f=>Ah f Z Z AI λa f=>Aa ?_
  rcases Ad am with⟨aq,am⟩|⟨aq,am⟩
  ·refine Aj f Z aq ?_
   refine Al ?_
   refine Af (Ak (Af ?_))
   have⟨ar,au,am⟩:=bind_some am
   refine AG (λa w=>∃av:Int,av=ar∧∃(aw:GH),GLe aj aw∧Fr a 141 [(0,v0),(1,(iv x1)),(2,(iv x2)),(3,(.func (.func 71) #[] #[])),(9,(iv av)),(10,(iv ai))]∧Mem W aw w (ak::H)) ?_ ?_
   ·refine Ak ?_
    refine AE (λax a w=>∃ay:Int,ay=ax∧∃(az:GH),GLe aj az∧Fr a 141 [(0,v0),(1,(iv x1)),(2,(iv x2)),(3,(.func (.func 71) #[] #[])),(9,(iv ay)),(10,(iv ai))]∧Mem W az w (ak::H)) au ⟨_,Z,_,gr,f.k Z,m⟩ ?_
    clear au f m
    rintro ax aA aB aC a w ⟨ay,rfl,az,aD,f,m⟩
    have ap:=od1 aD ap
    refine Af (Af ?_)
    refine Bb 18 AF (by kernel_rfl) m ?_
    refine Ag 0 18 Z f Z λa f=>Ag 1 18 Z f Z λa f=>q_p 2 18 Z f (λ_=>Ay (f.e Z) (f.e Z) AI) λa f=>Ag 3 18 Z f Z λa f=> ?_
    have⟨aE,aF,aB⟩:=bind_some aB
    refine Cr (fuel':=0) (listed':= #[true,true,true,true,true,true,true,true,true,true,true,true,true,true,true,true,true,true]) (λa=>Fr a 141 [(0,v0),(1,(iv x1)),(2,(iv x2)),(3,(.func (.func 71) #[] #[])),(9,(iv ay)),(10,(iv ai)),(19,(iv ay)),(20,(iv x2)),(21,(.bool (decide (ay<x2)))),(22,(.bool (decide (ay<x2)))),(36,(.bool aE))]) ?_ ?_
    ·intro a f
     refine A2 λaG w aH m=>Aa ?_
     rcases Ad aB with⟨aI,aB⟩|⟨aI,aB⟩
     ·refine Aj f Z aI ?_
      refine Al ?_
      refine Ak (An ?_)
      refine Ab f Z λa f=>Ah f Z Z As λa f=>Ac f Z λa f=>Aa ?_
      obtain rfl:=sj aB
      exact⟨_,Z,_,Z,_,(gt aD aH),f.k Z,m⟩
     ·refine Ai f Z aI ?_
      refine AC Z ?_
      obtain rfl:=sj aB
      obtain rfl:=aC _ rfl
      exact⟨_,Z,_,(gt aD aH),f.k Z,m⟩
    ·intro aJ
     rcases Ad aF with⟨aK,aF⟩|⟨aK,aF⟩
     ·refine Ag (hw:=wo f aK) 4 18 Z f Z λa f=> ?_
      refine Ag (hw:=wo f aK) 5 18 Z f Z λa f=>Ag (hw:=wo f aK) 6 18 Z f Z λa f=> ?_
      have⟨aL,aM,aF⟩:=bind_some aF
      refine AL (hw:=wo f aK) 7 18 0 m ap T54 aM Z f Z Z λaN a aO f=>A3 (hw:=wo f aK) 8 18 0 ap AS aO aM Z f Z λaP a aQ f=> ?_
      subst aQ
      refine Ag (hw:=wo f aK) 9 18 Z f Z λa f=>Ag (hw:=wo f aK) 10 18 Z f Z λa f=>q_p (hw:=wo f aK) 11 18 Z f (λ_=>Ay (f.e Z) (f.e Z) AT) λa f=> ?_
      have⟨aR,aS,aF⟩:=bind_some aF
      refine AL (hw:=wo f aK) 12 18 0 m ap T54 aS Z f Z Z λaT a aU f=>A3 (hw:=wo f aK) 13 18 0 ap AS aU aS Z f Z λaV a aW f=> ?_
      subst aW
      have⟨aX,aY,aF⟩:=bind_some aF
      refine BS (i:=14) 18 Z (by kernel_rfl) Z f (Bh f Z Z Z aK) Z Z Z call71 (λ_ _ w aZ m=>Wk.a hW m aY) λa f=>q_p (hw:=wo f aK) 15 18 Z f (λ_=>Ay (f.e Z) (f.e Z) AI) λa f=>q_p (hw:=wo f aK) 16 18 Z f (λ_=>Bt (f.e Z)) λa f=>q_p 17 18 Z f (λ_=>AK (f.e Z) aK (f.e Z)) λa f=> ?_
      obtain rfl:=sj aF
      exact aJ _ (f.k Z)
     ·refine Aq 4 18 Z f aK λa f=> ?_
      refine Aq 5 18 Z f aK λa f=>Aq 6 18 Z f aK λa f=>Aq 7 18 Z f aK λa f=>Aq 8 18 Z f aK λa f=>Aq 9 18 Z f aK λa f=>Aq 10 18 Z f aK λa f=>Aq 11 18 Z f aK λa f=>Aq 12 18 Z f aK λa f=>Aq 13 18 Z f aK λa f=>Aq 14 18 Z f aK λa f=>Aq 15 18 Z f aK λa f=>Aq 16 18 Z f aK λa f=>q_p 17 18 Z f (λ_=>AJ (f.e Z) aK (f.e Z)) λa f=> ?_
      obtain rfl:=sj aF
      exact aJ _ (f.k Z)
   ·rintro a w ⟨av,rfl,aw,a0,f,m⟩
    have ap:=od1 a0 ap
    refine Af (Ae ?_)
    refine Ab f Z λa f=>Ab f Z λa f=>Ah f Z Z BU λa f=>Aa ?_
    rcases Ad am with⟨a1,am⟩|⟨a1,am⟩
    ·refine Aj f Z a1 ?_
     refine Ae ?_
     refine Ac f Z λa f=>Aa ?_
     refine Ap ?_
     obtain rfl:=sj am
     obtain rfl:=an _ rfl
     obtain rfl:=sj hd
     exact⟨[(.bool true)],f.g Z,f.d,_,[ak],(gt ao a0),m,_,Z,Z,ap⟩
    ·refine Ai f Z a1 ?_
     refine Al ?_
     refine Af (Ae ?_)
     refine Ab f Z λa f=>Ab f Z λa f=>Ah f Z Z AT λa f=>Ah f Z Z AI λa f=>Aa ?_
     rcases Ad am with⟨a2,am⟩|⟨a2,am⟩
     ·refine Aj f Z a2 ?_
      refine Ae ?_
      refine Ac f Z λa f=>Aa ?_
      refine Ap ?_
      obtain rfl:=sj am
      obtain rfl:=an _ rfl
      obtain rfl:=sj hd
      exact⟨[(.bool false)],f.g Z,f.d,_,[ak],(gt ao a0),m,_,Z,Z,ap⟩
     ·refine Ai f Z a2 ?_
      refine Al ?_
      refine Af ?_
      refine BL AF m ?_
      refine p_p 2 Z f (λ_=>A9 (f.e Z)) λa f=>p_p 3 Z f (λ_=>A9 (f.e Z)) λa f=>p_p 4 Z f (λ_=>Ay (f.e Z) (f.e Z) AT) λa f=>BJ 28015 12 (by kernel_rfl) Z ?_
      refine Ag 0 28015 Z f Z λa f=>Ag 1 28015 Z f Z λa f=>Ag 5 28015 Z f Z λa f=>Ag 6 28015 Z f Z λa f=>q_p 7 28015 Z f (λ_=>Ay (f.e Z) (f.e Z) AT) λa f=> ?_
      have⟨a3,a4,am⟩:=bind_some am
      refine AL 8 28015 0 m ap T54 a4 Z f Z Z λa5 a a6 f=>A3 9 28015 0 ap AS a6 a4 Z f Z λa7 a a8 f=> ?_
      subst a8
      refine Ag 10 28015 Z f Z λa f=>Ag 11 28015 Z f Z λa f=> ?_
      have⟨a9,ba,am⟩:=bind_some am
      refine AL 12 28015 0 m ap T54 ba Z f Z Z λbb a bc f=>A3 13 28015 0 ap AS bc ba Z f Z λbd a be f=> ?_
      subst be
      have⟨bf,bg,am⟩:=bind_some am
      refine AL 14 28015 0 m ap T54 bg Z f Z Z λbh a bi f=>A2 λbj w bk m=> ?_
      have ap:=od1 bk ap
      refine AD 0 m ap Z sizeOf75 f Z Z bi bg Z Z Z λbl w m bm=> ?_
      have⟨bn,bo,am⟩:=bind_some am
      refine Br 0 m bm Z T54 f Z Z Z bo λbp a bq f=>AD 0 m bm Z sizeOf75 f Z Z bq bo Z Z Z λbr w m bs=>Aa (Af (Ae ?_))
      refine Ab f Z λa f=>Ab f Z λa f=>Ah f Z Z AT λa f=>Ah f Z Z B3 λa f=>Aa ?_
      have⟨bt,bu,am⟩:=bind_some am
      refine AG (λa w=>∃bv:LI,bv=bt∧∃(bw:GH) (bx:Itm),GLe bj bw∧Fr a 141 [(0,v0),(1,(iv x1)),(2,(iv x2)),(3,(.func (.func 71) #[] #[])),(9,(iv av)),(10,(iv ai))]∧Mem W bw w (bx::H)∧Ow (RI .u32) 75 bw bx v0 bv) ?_ ?_
      ·rcases Ad bu with⟨bz,bu⟩|⟨bz,bu⟩
       ·refine Aj f Z bz ?_
        refine Ae ?_
        refine Ab f Z λa f=>Ah f Z Z AT λa f=>Ac f Z λa f=>Aa ?_
        have⟨bA,bB,bu⟩:=bind_some bu
        refine AG (λa w=>∃bC:LI,bC=bA∧∃(bD:GH) (bE:Itm),GLe bj bD∧Fr a 141 [(0,v0),(1,(iv x1)),(2,(iv x2)),(3,(.func (.func 71) #[] #[])),(9,(iv av)),(10,(iv ai))]∧Mem W bD w (bE::H)∧Ow (RI .u32) 75 bD bE v0 bC) ?_ ?_
        ·refine Ak ?_
         refine AE (λbF a w=>∃bG:LI,∃bH:Int,(bG,bH)=bF∧∃(bI:GH) (bJ:Itm),GLe bj bI∧Fr a 141 [(0,v0),(1,(iv x1)),(2,(iv x2)),(3,(.func (.func 71) #[] #[])),(9,(iv av)),(10,(iv ai)),(11,(iv bH))]∧Mem W bI w (bJ::H)∧Ow (RI .u32) 75 bI bJ v0 bG) bB ⟨_,_,Z,_,br,gr,f.k Z,m,bs⟩ ?_
         clear bB f m
         rintro bF bK bL bM a w ⟨bG,bH,rfl,bI,bJ,bN,f,m,bO⟩
         refine Af (Ae ?_)
         refine Ab f Z λa f=>Ah f Z Z B3 λa f=>Aa ?_
         rcases Ad bL with⟨bP,bL⟩|⟨bP,bL⟩
         ·refine Aj f Z bP ?_
          refine Al ?_
          refine Af (Ak (Af (Af ?_)))
          refine Bb 13 AF (by kernel_rfl) m ?_
          refine Ag 0 13 Z f Z λa f=>Ag 1 13 Z f Z λa f=>Ag 2 13 Z f Z λa f=> ?_
          have⟨bQ,bR,bL⟩:=bind_some bL
          refine AL 3 13 0 m bO T54 bR Z f Z Z λbS a bT f=>A3 4 13 0 bO AS bT bR Z f Z λbU a bV f=> ?_
          subst bV
          refine Ag 5 13 Z f Z λa f=>Ag 6 13 Z f Z λa f=>q_p 7 13 Z f (λ_=>Ay (f.e Z) (f.e Z) AT) λa f=> ?_
          have⟨bW,bX,bL⟩:=bind_some bL
          refine AL 8 13 0 m bO T54 bX Z f Z Z λbY a bZ f=>A3 9 13 0 bO AS bZ bX Z f Z λb0 a b1 f=> ?_
          subst b1
          have⟨b2,b3,bL⟩:=bind_some bL
          refine BS (i:=10) 13 Z (by kernel_rfl) Z f Z Z Z Z call71 (λ_ _ w b4 m=>Wk.a hW m b3) λa f=>q_p 11 13 Z f (λ_=>Ay (f.e Z) (f.e Z) AI) λa f=>q_p 12 13 Z f (λ_=>Bt (f.e Z)) λa f=>A2 λb5 w b6 m=> ?_
          have bO:=od1 b6 bO
          refine Aa ?_
          rcases Ad bL with⟨b7,bL⟩|⟨b7,bL⟩
          ·refine Aj f Z b7 ?_
           refine AC Z ?_
           obtain rfl:=sj bL
           obtain rfl:=bM _ rfl
           exact⟨_,Z,_,bJ,(gt bN b6),f.k Z,m,bO⟩
          ·refine Ai f Z b7 ?_
           refine Al ?_
           refine BL AF m ?_
           refine p_p 2 Z f (λ_=>A9 (f.e Z)) λa f=>p_p 3 Z f (λ_=>A9 (f.e Z)) λa f=>p_p 4 Z f (λ_=>Ay (f.e Z) (f.e Z) AT) λa f=>BJ 28015 12 (by kernel_rfl) Z ?_
           refine Ag 0 28015 Z f Z λa f=>Ag 1 28015 Z f Z λa f=>Ag 5 28015 Z f Z λa f=>Ag 6 28015 Z f Z λa f=>q_p 7 28015 Z f (λ_=>Ay (f.e Z) (f.e Z) AT) λa f=> ?_
           have⟨b8,b9,bL⟩:=bind_some bL
           refine AL 8 28015 0 m bO T54 b9 Z f Z Z λca a cb f=>A3 9 28015 0 bO AS cb b9 Z f Z λcc a cd f=> ?_
           subst cd
           refine Ag 10 28015 Z f Z λa f=>Ag 11 28015 Z f Z λa f=> ?_
           have⟨ce,cf,bL⟩:=bind_some bL
           refine AL 12 28015 0 m bO T54 cf Z f Z Z λcg a ch f=>A3 13 28015 0 bO AS ch cf Z f Z λci a cj f=> ?_
           subst cj
           have⟨ck,cl,bL⟩:=bind_some bL
           refine AL 14 28015 0 m bO T54 cl Z f Z Z λcm a cn f=>A2 λco w cp m=> ?_
           have bO:=od1 cp bO
           refine AD 0 m bO Z sizeOf75 f Z Z cn cl Z Z Z λcq w m cr=> ?_
           have⟨cs,ct,bL⟩:=bind_some bL
           refine Br 0 m cr Z T54 f Z Z Z ct λcu a cv f=>AD 0 m cr Z sizeOf75 f Z Z cv ct Z Z Z λcw w m cx=>Aa (An ?_)
           refine Ab f Z λa f=>Ah f Z Z AT λa f=>Ac f Z λa f=>Aa ?_
           obtain rfl:=sj bL
           exact⟨_,Z,_,_,Z,_,cw,(gt bN (gt b6 cp)),f.k Z,m,cx⟩
         ·refine Ai f Z bP ?_
          refine AC Z ?_
          obtain rfl:=sj bL
          obtain rfl:=bM _ rfl
          exact⟨_,Z,_,bJ,bN,f.k Z,m,bO⟩
        ·rintro a w ⟨bC,rfl,bD,bE,cy,f,m,cz⟩
         obtain rfl:=sj bu
         exact⟨_,Z,_,bE,cy,f.k Z,m,cz⟩
       ·refine Ai f Z bz ?_
        refine Al ?_
        obtain rfl:=sj bu
        exact⟨_,Z,_,br,gr,f.k Z,m,bs⟩
      ·rintro a w ⟨bv,rfl,bw,bx,cA,f,m,cB⟩
       refine Ae ?_
       refine Ab f Z λa f=>Ab f Z λa f=>Ah f Z Z AT λa f=>Ah f Z Z B3 λa f=>Aa ?_
       rcases Ad am with⟨cC,am⟩|⟨cC,am⟩
       ·refine Aj f Z cC ?_
        refine Ae ?_
        refine Ab f Z λa f=>Ah f Z Z As λa f=>Ac f Z λa f=>Aa ?_
        have⟨cD,cE,am⟩:=bind_some am
        refine AG (λa w=>∃cF:LI,cF=cD∧∃(cG:GH) (cH:Itm),GLe bw cG∧Fr a 141 [(0,v0),(1,(iv x1)),(2,(iv x2)),(3,(.func (.func 71) #[] #[])),(9,(iv av)),(10,(iv ai))]∧Mem W cG w (cH::H)∧Ow (RI .u32) 75 cG cH v0 cF) ?_ ?_
        ·refine Ak ?_
         refine AE (λcI a w=>∃cJ:LI,∃cK:Int,(cJ,cK)=cI∧∃(cL:GH) (cM:Itm),GLe bw cL∧Fr a 141 [(0,v0),(1,(iv x1)),(2,(iv x2)),(3,(.func (.func 71) #[] #[])),(9,(iv av)),(10,(iv ai)),(12,(iv cK))]∧Mem W cL w (cM::H)∧Ow (RI .u32) 75 cL cM v0 cJ) cE ⟨_,_,Z,_,bx,gr,f.k Z,m,cB⟩ ?_
         clear cE f m
         rintro cI cN cO cP a w ⟨cJ,cK,rfl,cL,cM,cQ,f,m,cR⟩
         refine Af (Ae ?_)
         refine Ab f Z λa f=>Ab f Z λa f=>Ah f Z Z AI λa f=>Aa ?_
         rcases Ad cO with⟨cS,cO⟩|⟨cS,cO⟩
         ·refine Aj f Z cS ?_
          refine Al ?_
          refine Af (Ak (Af (Af ?_)))
          refine Bb 13 AF (by kernel_rfl) m ?_
          refine Ag 0 13 Z f Z λa f=>Ag 1 13 Z f Z λa f=>Ag 2 13 Z f Z λa f=> ?_
          have⟨cT,cU,cO⟩:=bind_some cO
          refine AL 3 13 0 m cR T54 cU Z f Z Z λcV a cW f=>A3 4 13 0 cR AS cW cU Z f Z λcX a cY f=> ?_
          subst cY
          refine Ag 5 13 Z f Z λa f=>Ag 6 13 Z f Z λa f=>q_p 7 13 Z f (λ_=>Ay (f.e Z) (f.e Z) AT) λa f=> ?_
          have⟨cZ,c0,cO⟩:=bind_some cO
          refine AL 8 13 0 m cR T54 c0 Z f Z Z λc1 a c2 f=>A3 9 13 0 cR AS c2 c0 Z f Z λc3 a c4 f=> ?_
          subst c4
          have⟨c5,c6,cO⟩:=bind_some cO
          refine BS (i:=10) 13 Z (by kernel_rfl) Z f Z Z Z Z call71 (λ_ _ w c7 m=>Wk.a hW m c6) λa f=>q_p 11 13 Z f (λ_=>Ay (f.e Z) (f.e Z) AI) λa f=>q_p 12 13 Z f (λ_=>Bt (f.e Z)) λa f=>A2 λc8 w c9 m=> ?_
          have cR:=od1 c9 cR
          refine Aa ?_
          rcases Ad cO with⟨da,cO⟩|⟨da,cO⟩
          ·refine Aj f Z da ?_
           refine AC Z ?_
           obtain rfl:=sj cO
           obtain rfl:=cP _ rfl
           exact⟨_,Z,_,cM,(gt cQ c9),f.k Z,m,cR⟩
          ·refine Ai f Z da ?_
           refine Al ?_
           refine BL AF m ?_
           refine p_p 2 Z f (λ_=>A9 (f.e Z)) λa f=>p_p 3 Z f (λ_=>A9 (f.e Z)) λa f=>p_p 4 Z f (λ_=>Ay (f.e Z) (f.e Z) AT) λa f=>BJ 28015 12 (by kernel_rfl) Z ?_
           refine Ag 0 28015 Z f Z λa f=>Ag 1 28015 Z f Z λa f=>Ag 5 28015 Z f Z λa f=>Ag 6 28015 Z f Z λa f=>q_p 7 28015 Z f (λ_=>Ay (f.e Z) (f.e Z) AT) λa f=> ?_
           have⟨db,dc,cO⟩:=bind_some cO
           refine AL 8 28015 0 m cR T54 dc Z f Z Z λdd a de f=>A3 9 28015 0 cR AS de dc Z f Z λdf a dg f=> ?_
           subst dg
           refine Ag 10 28015 Z f Z λa f=>Ag 11 28015 Z f Z λa f=> ?_
           have⟨dh,di,cO⟩:=bind_some cO
           refine AL 12 28015 0 m cR T54 di Z f Z Z λdj a dk f=>A3 13 28015 0 cR AS dk di Z f Z λdl a dm f=> ?_
           subst dm
           have⟨dn,dp,cO⟩:=bind_some cO
           refine AL 14 28015 0 m cR T54 dp Z f Z Z λdq a dr f=>A2 λds w dt m=> ?_
           have cR:=od1 dt cR
           refine AD 0 m cR Z sizeOf75 f Z Z dr dp Z Z Z λdu w m dv=> ?_
           have⟨dw,dx,cO⟩:=bind_some cO
           refine Br 0 m dv Z T54 f Z Z Z dx λdy a dz f=>AD 0 m dv Z sizeOf75 f Z Z dz dx Z Z Z λdA w m dB=>Aa (An ?_)
           refine Ab f Z λa f=>Ah f Z Z As λa f=>Ac f Z λa f=>Aa ?_
           obtain rfl:=sj cO
           exact⟨_,Z,_,_,Z,_,dA,(gt cQ (gt c9 dt)),f.k Z,m,dB⟩
         ·refine Ai f Z cS ?_
          refine AC Z ?_
          obtain rfl:=sj cO
          obtain rfl:=cP _ rfl
          exact⟨_,Z,_,cM,cQ,f.k Z,m,cR⟩
        ·rintro a w ⟨cF,rfl,cG,cH,dC,f,m,dD⟩
         refine An ?_
         refine Ab f Z λa f=>Ah f Z Z As λa f=>Ac f Z λa f=>Aa ?_
         obtain rfl:=sj am
         exact⟨_,Z,_,_,_,Z,_,cH,(gt ao (gt a0 (gt bk (gt cA dC)))),f.k Z,m,dD⟩
       ·refine Ai f Z cC ?_
        refine Al ?_
        refine An ?_
        refine Ab f Z λa f=>Ah f Z Z As λa f=>Ac f Z λa f=>Aa ?_
        obtain rfl:=sj am
        exact⟨_,Z,_,_,_,Z,_,bx,(gt ao (gt a0 (gt bk cA))),f.k Z,m,cB⟩
  ·refine Ai f Z aq ?_
   refine AC Z ?_
   obtain rfl:=sj am
   obtain rfl:=an _ rfl
   exact⟨_,Z,_,Z,_,ak,ao,f.weak trivial,m,ap⟩
 ·rintro a w ⟨_,rfl,ac,rfl,ad,ae,dE,f,m,dF⟩
  refine Ae ?_
  refine Ac f Z λa f=>Aa ?_
  refine Ap ?_
  obtain rfl:=sj hd
  exact⟨[(.bool false)],f.g Z,f.d,_,[ae],dE,m,_,Z,Z,dF⟩
theorem Wk.w0 {v0:Value}{it0:Itm}{x0:LI}{x1 x2 x3:Int}(hW:Bo W)(m:Mem W G w (it0::H))(o0:Ow (RI .u32) 75 G it0 v0 x0){y:Int×(LI)}(hd:D.w0 x0 x1 x2 x3=some y):
  Calls prog 116 #[v0,(iv x1),(iv x2),(iv x3),(.func (.func 71) #[] #[])] w (Res W G H (λG' Ho v=>∃i0:Itm,Ho=[i0]∧v=(iv y.1)∧Ow (RI .u32) 75 G' i0 v0 y.2)):=by
 refine Ar (args:=[v0,(iv x1),(iv x2),(iv x3),(.func (.func 71) #[] #[])]) (N:=90) [.tmp 10] func116 Z Z (lb Z) Z λa f=> ?_
 unfold D.w0 at hd
 refine Ae ?_
 refine Ac f Z λa f=>Aa (Af ?_)
 refine BL AF m ?_
 refine p_p 2 Z f (λ_=>A9 (f.e Z)) λa f=>p_p 3 Z f (λ_=>A9 (f.e Z)) λa f=>BJ 12013 11 (by kernel_rfl) Z ?_
 refine Ag 0 12013 Z f Z λa f=>Ag 1 12013 Z f Z λa f=>Ag 4 12013 Z f Z λa f=>Ag 5 12013 Z f Z λa f=> ?_
 have⟨aa,ab,hd⟩:=bind_some hd
 refine AL 6 12013 0 m o0 T54 ab Z f Z Z λac a ad f=>A3 7 12013 0 o0 AS ad ab Z f Z λae a af f=> ?_
 subst af
 refine Ag 8 12013 Z f Z λa f=>Ag 9 12013 Z f Z λa f=> ?_
 have⟨ag,ah,hd⟩:=bind_some hd
 refine AL 10 12013 0 m o0 T54 ah Z f Z Z λai a aj f=>A3 11 12013 0 o0 AS aj ah Z f Z λak a al f=> ?_
 subst al
 have⟨am,an,hd⟩:=bind_some hd
 refine AL 12 12013 0 m o0 T54 an Z f Z Z λao a ap f=>A2 λaq w ar m=> ?_
 have o0:=od1 ar o0
 refine AD 0 m o0 Z sizeOf75 f Z Z ap an Z Z Z λau w m av=> ?_
 have⟨aw,ax,hd⟩:=bind_some hd
 refine Br 0 m av Z T54 f Z Z Z ax λay a az f=>AD 0 m av Z sizeOf75 f Z Z az ax Z Z Z λaA w m aB=>Av ?_
 refine Ab f Z λa f=>Ah f Z Z As λa f=>Ab f Z λa f=>Ah f Z Z AT λa f=>Ac f Z λa f=>Ac f Z λa f=>Aa (Af ?_)
 have⟨aC,aD,hd⟩:=bind_some hd
 refine AG (λa w=>∃aE:LI,∃aF:Int,(aE,aF)=aC∧∃(aG:GH) (aH:Itm),GLe aq aG∧Fr a 90 [(11,(iv aF))]∧Mem W aG w (aH::H)∧Ow (RI .u32) 75 aG aH v0 aE) ?_ ?_
 ·refine Ak ?_
  refine AE (λaI a w=>∃aJ:LI,∃aK:Int,∃aL:Int,(aJ,aK,aL)=aI∧∃(aM:GH) (aN:Itm),GLe aq aM∧Fr a 90 [(0,v0),(1,(iv x1)),(4,(.func (.func 71) #[] #[])),(11,(iv aK)),(12,(iv aL))]∧Mem W aM w (aN::H)∧Ow (RI .u32) 75 aM aN v0 aJ) aD ⟨_,_,_,Z,_,aA,gr,f.k Z,m,aB⟩ ?_
  clear aD f m
  rintro aI aO aP aQ a w ⟨aJ,aK,aL,rfl,aM,aN,aR,f,m,aS⟩
  refine Ak (Af ?_)
  have⟨aT,aU,aP⟩:=bind_some aP
  refine AG (λa w=>∃aV:Int,aV=aT∧∃(aW:GH),GLe aM aW∧Fr a 90 [(0,v0),(1,(iv x1)),(4,(.func (.func 71) #[] #[])),(11,(iv aV)),(12,(iv aL))]∧Mem W aW w (aN::H)) ?_ ?_
  ·refine Ak ?_
   refine AE (λaX a w=>∃aY:Int,aY=aX∧∃(aZ:GH),GLe aM aZ∧Fr a 90 [(0,v0),(1,(iv x1)),(4,(.func (.func 71) #[] #[])),(11,(iv aY)),(12,(iv aL))]∧Mem W aZ w (aN::H)) aU ⟨_,Z,_,gr,f.k Z,m⟩ ?_
   clear aU f m
   rintro aX a0 a1 a2 a w ⟨aY,rfl,aZ,a3,f,m⟩
   have aS:=od1 a3 aS
   refine Af (Af ?_)
   refine Bb 17 AF (by kernel_rfl) m ?_
   refine Ag 0 17 Z f Z λa f=>Ag 1 17 Z f Z λa f=>q_p 2 17 Z f (λ_=>Ay (f.e Z) (f.e Z) BT) λa f=>Ag 3 17 Z f Z λa f=> ?_
   have⟨a4,a5,a1⟩:=bind_some a1
   refine Cr (fuel':=0) (listed':= #[true,true,true,true,true,true,true,true,true,true,true,true,true,true,true,true,true]) (λa=>Fr a 90 [(0,v0),(1,(iv x1)),(4,(.func (.func 71) #[] #[])),(11,(iv aY)),(12,(iv aL)),(31,(iv aY)),(32,(iv aL)),(33,(.bool (decide (aY≤aL)))),(34,(.bool (decide (aY≤aL)))),(47,(.bool a4))]) ?_ ?_
   ·intro a f
    refine A2 λa6 w a7 m=>Aa ?_
    rcases Ad a1 with⟨a8,a1⟩|⟨a8,a1⟩
    ·refine Aj f Z a8 ?_
     refine Al ?_
     refine Ak (An ?_)
     refine Ab f Z λa f=>Ah f Z Z As λa f=>Ac f Z λa f=>Aa ?_
     obtain rfl:=sj a1
     exact⟨_,Z,_,Z,_,(gt a3 a7),f.k Z,m⟩
    ·refine Ai f Z a8 ?_
     refine AC Z ?_
     obtain rfl:=sj a1
     obtain rfl:=a2 _ rfl
     exact⟨_,Z,_,(gt a3 a7),f.k Z,m⟩
   ·intro a9
    rcases Ad a5 with⟨ba,a5⟩|⟨ba,a5⟩
    ·refine Ag (hw:=wo f ba) 4 17 Z f Z λa f=> ?_
     refine Ag (hw:=wo f ba) 5 17 Z f Z λa f=>Ag (hw:=wo f ba) 6 17 Z f Z λa f=> ?_
     have⟨bb,bc,a5⟩:=bind_some a5
     refine AL (hw:=wo f ba) 7 17 0 m aS T54 bc Z f Z Z λbd a be f=>A3 (hw:=wo f ba) 8 17 0 aS AS be bc Z f Z λbf a bg f=> ?_
     subst bg
     refine Ag (hw:=wo f ba) 9 17 Z f Z λa f=>Ag (hw:=wo f ba) 10 17 Z f Z λa f=> ?_
     have⟨bh,bi,a5⟩:=bind_some a5
     refine AL (hw:=wo f ba) 11 17 0 m aS T54 bi Z f Z Z λbj a bk f=>A3 (hw:=wo f ba) 12 17 0 aS AS bk bi Z f Z λbl a bm f=> ?_
     subst bm
     have⟨bn,bo,a5⟩:=bind_some a5
     refine BS (i:=13) 17 Z (by kernel_rfl) Z f (Bh f Z Z Z ba) Z Z Z call71 (λ_ _ w bp m=>Wk.a hW m bo) λa f=>q_p (hw:=wo f ba) 14 17 Z f (λ_=>Ay (f.e Z) (f.e Z) AI) λa f=>q_p (hw:=wo f ba) 15 17 Z f (λ_=>Bt (f.e Z)) λa f=>q_p 16 17 Z f (λ_=>AK (f.e Z) ba (f.e Z)) λa f=> ?_
     obtain rfl:=sj a5
     exact a9 _ (f.k Z)
    ·refine Aq 4 17 Z f ba λa f=> ?_
     refine Aq 5 17 Z f ba λa f=>Aq 6 17 Z f ba λa f=>Aq 7 17 Z f ba λa f=>Aq 8 17 Z f ba λa f=>Aq 9 17 Z f ba λa f=>Aq 10 17 Z f ba λa f=>Aq 11 17 Z f ba λa f=>Aq 12 17 Z f ba λa f=>Aq 13 17 Z f ba λa f=>Aq 14 17 Z f ba λa f=>Aq 15 17 Z f ba λa f=>q_p 16 17 Z f (λ_=>AJ (f.e Z) ba (f.e Z)) λa f=> ?_
     obtain rfl:=sj a5
     exact a9 _ (f.k Z)
  ·rintro a w ⟨aV,rfl,aW,bq,f,m⟩
   have aS:=od1 bq aS
   refine Af ?_
   have⟨br,bs,aP⟩:=bind_some aP
   refine AG (λa w=>∃bt:Int,bt=br∧∃(bu:GH),GLe aW bu∧Fr a 90 [(0,v0),(1,(iv x1)),(4,(.func (.func 71) #[] #[])),(11,(iv aV)),(12,(iv bt))]∧Mem W bu w (aN::H)) ?_ ?_
   ·refine Ak ?_
    refine AE (λbv a w=>∃bw:Int,bw=bv∧∃(bx:GH),GLe aW bx∧Fr a 90 [(0,v0),(1,(iv x1)),(4,(.func (.func 71) #[] #[])),(11,(iv aV)),(12,(iv bw))]∧Mem W bx w (aN::H)) bs ⟨_,Z,_,gr,f.k Z,m⟩ ?_
    clear bs f m
    rintro bv bz bA bB a w ⟨bw,rfl,bx,bC,f,m⟩
    have aS:=od1 bC aS
    refine Af (Af ?_)
    refine Bb 16 AF (by kernel_rfl) m ?_
    refine Ag 0 16 Z f Z λa f=>Ag 1 16 Z f Z λa f=>q_p 2 16 Z f (λ_=>Ay (f.e Z) (f.e Z) BT) λa f=>Ag 3 16 Z f Z λa f=> ?_
    have⟨bD,bE,bA⟩:=bind_some bA
    refine Cr (fuel':=0) (listed':= #[true,true,true,true,true,true,true,true,true,true,true,true,true,true,true,true]) (λa=>Fr a 90 [(0,v0),(1,(iv x1)),(4,(.func (.func 71) #[] #[])),(11,(iv aV)),(12,(iv bw)),(50,(iv aV)),(51,(iv bw)),(52,(.bool (decide (aV≤bw)))),(53,(.bool (decide (aV≤bw)))),(65,(.bool bD))]) ?_ ?_
    ·intro a f
     refine A2 λbF w bG m=>Aa ?_
     rcases Ad bA with⟨bH,bA⟩|⟨bH,bA⟩
     ·refine Aj f Z bH ?_
      refine Al ?_
      refine Ak (An ?_)
      refine Ab f Z λa f=>Ah f Z Z AT λa f=>Ac f Z λa f=>Aa ?_
      obtain rfl:=sj bA
      exact⟨_,Z,_,Z,_,(gt bC bG),f.k Z,m⟩
     ·refine Ai f Z bH ?_
      refine AC Z ?_
      obtain rfl:=sj bA
      obtain rfl:=bB _ rfl
      exact⟨_,Z,_,(gt bC bG),f.k Z,m⟩
    ·intro bI
     rcases Ad bE with⟨bJ,bE⟩|⟨bJ,bE⟩
     ·refine Ag (hw:=wo f bJ) 4 16 Z f Z λa f=> ?_
      refine Ag (hw:=wo f bJ) 5 16 Z f Z λa f=>Ag (hw:=wo f bJ) 6 16 Z f Z λa f=> ?_
      have⟨bK,bL,bE⟩:=bind_some bE
      refine AL (hw:=wo f bJ) 7 16 0 m aS T54 bL Z f Z Z λbM a bN f=>A3 (hw:=wo f bJ) 8 16 0 aS AS bN bL Z f Z λbO a bP f=> ?_
      subst bP
      refine Ag (hw:=wo f bJ) 9 16 Z f Z λa f=>Ag (hw:=wo f bJ) 10 16 Z f Z λa f=> ?_
      have⟨bQ,bR,bE⟩:=bind_some bE
      refine AL (hw:=wo f bJ) 11 16 0 m aS T54 bR Z f Z Z λbS a bT f=>A3 (hw:=wo f bJ) 12 16 0 aS AS bT bR Z f Z λbU a bV f=> ?_
      subst bV
      have⟨bW,bX,bE⟩:=bind_some bE
      refine BS (i:=13) 16 Z (by kernel_rfl) Z f (Bh f Z Z Z bJ) Z Z Z call71 (λ_ _ w bY m=>Wk.a hW m bX) λa f=>q_p (hw:=wo f bJ) 14 16 Z f (λ_=>Ay (f.e Z) (f.e Z) AI) λa f=>q_p 15 16 Z f (λ_=>AK (f.e Z) bJ (f.e Z)) λa f=> ?_
      obtain rfl:=sj bE
      exact bI _ (f.k Z)
     ·refine Aq 4 16 Z f bJ λa f=> ?_
      refine Aq 5 16 Z f bJ λa f=>Aq 6 16 Z f bJ λa f=>Aq 7 16 Z f bJ λa f=>Aq 8 16 Z f bJ λa f=>Aq 9 16 Z f bJ λa f=>Aq 10 16 Z f bJ λa f=>Aq 11 16 Z f bJ λa f=>Aq 12 16 Z f bJ λa f=>Aq 13 16 Z f bJ λa f=>Aq 14 16 Z f bJ λa f=>q_p 15 16 Z f (λ_=>AJ (f.e Z) bJ (f.e Z)) λa f=> ?_
      obtain rfl:=sj bE
      exact bI _ (f.k Z)
   ·rintro a w ⟨bt,rfl,bu,bZ,f,m⟩
    have aS:=od1 bZ aS
    refine Af (Ae ?_)
    refine Ab f Z λa f=>Ab f Z λa f=>Ah f Z Z CC λa f=>Aa ?_
    rcases Ad aP with⟨b0,aP⟩|⟨b0,aP⟩
    ·refine Aj f Z b0 ?_
     refine AC Z ?_
     obtain rfl:=sj aP
     obtain rfl:=aQ _ rfl
     exact⟨_,_,Z,_,aN,(gt aR (gt bq bZ)),f.k Z,m,aS⟩
    ·refine Ai f Z b0 ?_
     refine Al ?_
     refine Af ?_
     refine BL AF m ?_
     refine p_p 2 Z f (λ_=>A9 (f.e Z)) λa f=>p_p 3 Z f (λ_=>A9 (f.e Z)) λa f=>BJ 12013 11 (by kernel_rfl) Z ?_
     refine Ag 0 12013 Z f Z λa f=>Ag 1 12013 Z f Z λa f=>Ag 4 12013 Z f Z λa f=>Ag 5 12013 Z f Z λa f=> ?_
     have⟨b1,b2,aP⟩:=bind_some aP
     refine AL 6 12013 0 m aS T54 b2 Z f Z Z λb3 a b4 f=>A3 7 12013 0 aS AS b4 b2 Z f Z λb5 a b6 f=> ?_
     subst b6
     refine Ag 8 12013 Z f Z λa f=>Ag 9 12013 Z f Z λa f=> ?_
     have⟨b7,b8,aP⟩:=bind_some aP
     refine AL 10 12013 0 m aS T54 b8 Z f Z Z λb9 a ca f=>A3 11 12013 0 aS AS ca b8 Z f Z λcb a cc f=> ?_
     subst cc
     have⟨cd,ce,aP⟩:=bind_some aP
     refine AL 12 12013 0 m aS T54 ce Z f Z Z λcf a cg f=>A2 λch w ci m=> ?_
     have aS:=od1 ci aS
     refine AD 0 m aS Z sizeOf75 f Z Z cg ce Z Z Z λcj w m ck=> ?_
     have⟨cl,cm,aP⟩:=bind_some aP
     refine Br 0 m ck Z T54 f Z Z Z cm λcn a co f=>AD 0 m ck Z sizeOf75 f Z Z co cm Z Z Z λcp w m cq=>Av ?_
     refine Ab f Z λa f=>Ah f Z Z As λa f=>Ac f Z λa f=>Aa (An ?_)
     refine Ab f Z λa f=>Ah f Z Z AT λa f=>Ac f Z λa f=>Aa ?_
     obtain rfl:=sj aP
     exact⟨_,Z,_,_,_,Z,_,cp,(gt aR (gt bq (gt bZ ci))),f.k Z,m,cq⟩
 ·rintro a w ⟨aE,aF,rfl,aG,aH,cr,f,m,cs⟩
  refine Ae ?_
  refine Ab f Z λa f=>Ac f Z λa f=>Aa ?_
  refine Ap ?_
  obtain rfl:=sj hd
  exact⟨[(iv aF)],f.g Z,f.d,_,[aH],(gt ar cr),m,_,Z,Z,cs⟩
theorem Wk.H0 {v0:Value}{it0:Itm}{x0:LI}{x1 x2 x3:Int}(hW:Bo W)(m:Mem W G w (it0::H))(o0:Ow (RI .u32) 75 G it0 v0 x0){y:Int×Bool×(LI)}(hd:D.H0 x0 x1 x2 x3=some y):
  Calls prog 117 #[v0,(iv x1),(iv x2),(iv x3),(.func (.func 71) #[] #[])] w (Res W G H (λG' Ho v=>∃i0:Itm,Ho=[i0]∧v= .tuple #[(iv y.1),(.bool y.2.1)]∧Ow (RI .u32) 75 G' i0 v0 y.2.2)):=by
 refine Ar (args:=[v0,(iv x1),(iv x2),(iv x3),(.func (.func 71) #[] #[])]) (N:=178) [.tmp 10,.tmp 11] func117 Z Z (lb Z) Z λa f=> ?_
 unfold D.H0 at hd
 refine Ae ?_
 refine Ac f Z λa f=>Ac f Z λa f=>Aa (Af ?_)
 refine BL AF m ?_
 refine p_p 2 Z f (λ_=>A9 (f.e Z)) λa f=>p_p 3 Z f (λ_=>A9 (f.e Z)) λa f=>BJ 12013 11 (by kernel_rfl) Z ?_
 refine Ag 0 12013 Z f Z λa f=>Ag 1 12013 Z f Z λa f=>Ag 4 12013 Z f Z λa f=>Ag 5 12013 Z f Z λa f=> ?_
 have⟨aa,ab,hd⟩:=bind_some hd
 refine AL 6 12013 0 m o0 T54 ab Z f Z Z λac a ad f=>A3 7 12013 0 o0 AS ad ab Z f Z λae a af f=> ?_
 subst af
 refine Ag 8 12013 Z f Z λa f=>Ag 9 12013 Z f Z λa f=> ?_
 have⟨ag,ah,hd⟩:=bind_some hd
 refine AL 10 12013 0 m o0 T54 ah Z f Z Z λai a aj f=>A3 11 12013 0 o0 AS aj ah Z f Z λak a al f=> ?_
 subst al
 have⟨am,an,hd⟩:=bind_some hd
 refine AL 12 12013 0 m o0 T54 an Z f Z Z λao a ap f=>A2 λaq w ar m=> ?_
 have o0:=od1 ar o0
 refine AD 0 m o0 Z sizeOf75 f Z Z ap an Z Z Z λau w m av=> ?_
 have⟨aw,ax,hd⟩:=bind_some hd
 refine Br 0 m av Z T54 f Z Z Z ax λay a az f=>AD 0 m av Z sizeOf75 f Z Z az ax Z Z Z λaA w m aB=>Av ?_
 refine Ab f Z λa f=>Ah f Z Z As λa f=>Ab f Z λa f=>Ah f Z Z AT λa f=>Ac f Z λa f=>Ac f Z λa f=>Aa (Af ?_)
 have⟨aC,aD,hd⟩:=bind_some hd
 refine AG (λa w=>∃aE:Int,aE=aC∧∃(aF:GH),GLe aq aF∧Fr a 178 [(0,v0),(1,(iv x1)),(4,(.func (.func 71) #[] #[])),(12,(iv aE)),(13,(iv (i64.wrap (x2-1))))]∧Mem W aF w (aA::H)) ?_ ?_
 ·refine Ak ?_
  refine AE (λaG a w=>∃aH:Int,aH=aG∧∃(aI:GH),GLe aq aI∧Fr a 178 [(0,v0),(1,(iv x1)),(4,(.func (.func 71) #[] #[])),(12,(iv aH)),(13,(iv (i64.wrap (x2-1))))]∧Mem W aI w (aA::H)) aD ⟨_,Z,_,gr,f.k Z,m⟩ ?_
  clear aD f m
  rintro aG aJ aK aL a w ⟨aH,rfl,aI,aM,f,m⟩
  have aB:=od1 aM aB
  refine Af (Af ?_)
  refine Bb 16 AF (by kernel_rfl) m ?_
  refine Ag 0 16 Z f Z λa f=>Ag 1 16 Z f Z λa f=>q_p 2 16 Z f (λ_=>Ay (f.e Z) (f.e Z) BT) λa f=>Ag 3 16 Z f Z λa f=> ?_
  have⟨aN,aO,aK⟩:=bind_some aK
  refine Cr (fuel':=0) (listed':= #[true,true,true,true,true,true,true,true,true,true,true,true,true,true,true,true]) (λa=>Fr a 178 [(0,v0),(1,(iv x1)),(4,(.func (.func 71) #[] #[])),(12,(iv aH)),(13,(iv (i64.wrap (x2-1)))),(32,(iv aH)),(33,(iv (i64.wrap (x2-1)))),(34,(.bool (decide (aH≤(i64.wrap (x2-1)))))),(35,(.bool (decide (aH≤(i64.wrap (x2-1)))))),(47,(.bool aN))]) ?_ ?_
  ·intro a f
   refine A2 λaP w aQ m=>Aa ?_
   rcases Ad aK with⟨aR,aK⟩|⟨aR,aK⟩
   ·refine Aj f Z aR ?_
    refine Al ?_
    refine Ak (An ?_)
    refine Ab f Z λa f=>Ah f Z Z As λa f=>Ac f Z λa f=>Aa ?_
    obtain rfl:=sj aK
    exact⟨_,Z,_,Z,_,(gt aM aQ),f.k Z,m⟩
   ·refine Ai f Z aR ?_
    refine AC Z ?_
    obtain rfl:=sj aK
    obtain rfl:=aL _ rfl
    exact⟨_,Z,_,(gt aM aQ),f.k Z,m⟩
  ·intro aS
   rcases Ad aO with⟨aT,aO⟩|⟨aT,aO⟩
   ·refine Ag (hw:=wo f aT) 4 16 Z f Z λa f=> ?_
    refine Ag (hw:=wo f aT) 5 16 Z f Z λa f=>Ag (hw:=wo f aT) 6 16 Z f Z λa f=> ?_
    have⟨aU,aV,aO⟩:=bind_some aO
    refine AL (hw:=wo f aT) 7 16 0 m aB T54 aV Z f Z Z λaW a aX f=>A3 (hw:=wo f aT) 8 16 0 aB AS aX aV Z f Z λaY a aZ f=> ?_
    subst aZ
    refine Ag (hw:=wo f aT) 9 16 Z f Z λa f=>Ag (hw:=wo f aT) 10 16 Z f Z λa f=> ?_
    have⟨a0,a1,aO⟩:=bind_some aO
    refine AL (hw:=wo f aT) 11 16 0 m aB T54 a1 Z f Z Z λa2 a a3 f=>A3 (hw:=wo f aT) 12 16 0 aB AS a3 a1 Z f Z λa4 a a5 f=> ?_
    subst a5
    have⟨a6,a7,aO⟩:=bind_some aO
    refine BS (i:=13) 16 Z (by kernel_rfl) Z f (Bh f Z Z Z aT) Z Z Z call71 (λ_ _ w a8 m=>Wk.a hW m a7) λa f=>q_p (hw:=wo f aT) 14 16 Z f (λ_=>Ay (f.e Z) (f.e Z) AI) λa f=>q_p 15 16 Z f (λ_=>AK (f.e Z) aT (f.e Z)) λa f=> ?_
    obtain rfl:=sj aO
    exact aS _ (f.k Z)
   ·refine Aq 4 16 Z f aT λa f=> ?_
    refine Aq 5 16 Z f aT λa f=>Aq 6 16 Z f aT λa f=>Aq 7 16 Z f aT λa f=>Aq 8 16 Z f aT λa f=>Aq 9 16 Z f aT λa f=>Aq 10 16 Z f aT λa f=>Aq 11 16 Z f aT λa f=>Aq 12 16 Z f aT λa f=>Aq 13 16 Z f aT λa f=>Aq 14 16 Z f aT λa f=>q_p 15 16 Z f (λ_=>AJ (f.e Z) aT (f.e Z)) λa f=> ?_
    obtain rfl:=sj aO
    exact aS _ (f.k Z)
 ·rintro a w ⟨aE,rfl,aF,a9,f,m⟩
  have aB:=od1 a9 aB
  refine Af ?_
  have⟨ba,bb,hd⟩:=bind_some hd
  refine AG (λa w=>∃bc:Int,bc=ba∧∃(bd:GH),GLe aF bd∧Fr a 178 [(0,v0),(1,(iv x1)),(4,(.func (.func 71) #[] #[])),(12,(iv aE)),(13,(iv bc))]∧Mem W bd w (aA::H)) ?_ ?_
  ·refine Ak ?_
   refine AE (λbe a w=>∃bf:Int,bf=be∧∃(bg:GH),GLe aF bg∧Fr a 178 [(0,v0),(1,(iv x1)),(4,(.func (.func 71) #[] #[])),(12,(iv aE)),(13,(iv bf))]∧Mem W bg w (aA::H)) bb ⟨_,Z,_,gr,f.k Z,m⟩ ?_
   clear bb f m
   rintro be bh bi bj a w ⟨bf,rfl,bg,bk,f,m⟩
   have aB:=od1 bk aB
   refine Af (Af ?_)
   refine Bb 17 AF (by kernel_rfl) m ?_
   refine Ag 0 17 Z f Z λa f=>Ag 1 17 Z f Z λa f=>q_p 2 17 Z f (λ_=>Ay (f.e Z) (f.e Z) BT) λa f=>Ag 3 17 Z f Z λa f=> ?_
   have⟨bl,bm,bi⟩:=bind_some bi
   refine Cr (fuel':=0) (listed':= #[true,true,true,true,true,true,true,true,true,true,true,true,true,true,true,true,true]) (λa=>Fr a 178 [(0,v0),(1,(iv x1)),(4,(.func (.func 71) #[] #[])),(12,(iv aE)),(13,(iv bf)),(50,(iv aE)),(51,(iv bf)),(52,(.bool (decide (aE≤bf)))),(53,(.bool (decide (aE≤bf)))),(66,(.bool bl))]) ?_ ?_
   ·intro a f
    refine A2 λbn w bo m=>Aa ?_
    rcases Ad bi with⟨bp,bi⟩|⟨bp,bi⟩
    ·refine Aj f Z bp ?_
     refine Al ?_
     refine Ak (An ?_)
     refine Ab f Z λa f=>Ah f Z Z AT λa f=>Ac f Z λa f=>Aa ?_
     obtain rfl:=sj bi
     exact⟨_,Z,_,Z,_,(gt bk bo),f.k Z,m⟩
    ·refine Ai f Z bp ?_
     refine AC Z ?_
     obtain rfl:=sj bi
     obtain rfl:=bj _ rfl
     exact⟨_,Z,_,(gt bk bo),f.k Z,m⟩
   ·intro bq
    rcases Ad bm with⟨br,bm⟩|⟨br,bm⟩
    ·refine Ag (hw:=wo f br) 4 17 Z f Z λa f=> ?_
     refine Ag (hw:=wo f br) 5 17 Z f Z λa f=>Ag (hw:=wo f br) 6 17 Z f Z λa f=> ?_
     have⟨bs,bt,bm⟩:=bind_some bm
     refine AL (hw:=wo f br) 7 17 0 m aB T54 bt Z f Z Z λbu a bv f=>A3 (hw:=wo f br) 8 17 0 aB AS bv bt Z f Z λbw a bx f=> ?_
     subst bx
     refine Ag (hw:=wo f br) 9 17 Z f Z λa f=>Ag (hw:=wo f br) 10 17 Z f Z λa f=> ?_
     have⟨bz,bA,bm⟩:=bind_some bm
     refine AL (hw:=wo f br) 11 17 0 m aB T54 bA Z f Z Z λbB a bC f=>A3 (hw:=wo f br) 12 17 0 aB AS bC bA Z f Z λbD a bE f=> ?_
     subst bE
     have⟨bF,bG,bm⟩:=bind_some bm
     refine BS (i:=13) 17 Z (by kernel_rfl) Z f (Bh f Z Z Z br) Z Z Z call71 (λ_ _ w bH m=>Wk.a hW m bG) λa f=>q_p (hw:=wo f br) 14 17 Z f (λ_=>Ay (f.e Z) (f.e Z) AI) λa f=>q_p (hw:=wo f br) 15 17 Z f (λ_=>Bt (f.e Z)) λa f=>q_p 16 17 Z f (λ_=>AK (f.e Z) br (f.e Z)) λa f=> ?_
     obtain rfl:=sj bm
     exact bq _ (f.k Z)
    ·refine Aq 4 17 Z f br λa f=> ?_
     refine Aq 5 17 Z f br λa f=>Aq 6 17 Z f br λa f=>Aq 7 17 Z f br λa f=>Aq 8 17 Z f br λa f=>Aq 9 17 Z f br λa f=>Aq 10 17 Z f br λa f=>Aq 11 17 Z f br λa f=>Aq 12 17 Z f br λa f=>Aq 13 17 Z f br λa f=>Aq 14 17 Z f br λa f=>Aq 15 17 Z f br λa f=>q_p 16 17 Z f (λ_=>AJ (f.e Z) br (f.e Z)) λa f=> ?_
     obtain rfl:=sj bm
     exact bq _ (f.k Z)
  ·rintro a w ⟨bc,rfl,bd,bI,f,m⟩
   have aB:=od1 bI aB
   refine Af (Ae ?_)
   refine Ab f Z λa f=>Ab f Z λa f=>Ah f Z Z CC λa f=>Aa ?_
   rcases Ad hd with⟨bJ,hd⟩|⟨bJ,hd⟩
   ·refine Aj f Z bJ ?_
    refine Af ?_
    refine BL AF m ?_
    refine p_p 2 Z f (λ_=>A9 (f.e Z)) λa f=>p_p 3 Z f (λ_=>A9 (f.e Z)) λa f=>BJ 12013 11 (by kernel_rfl) Z ?_
    refine Ag 0 12013 Z f Z λa f=>Ag 1 12013 Z f Z λa f=>Ag 4 12013 Z f Z λa f=>Ag 5 12013 Z f Z λa f=> ?_
    have⟨bK,bL,hd⟩:=bind_some hd
    refine AL 6 12013 0 m aB T54 bL Z f Z Z λbM a bN f=>A3 7 12013 0 aB AS bN bL Z f Z λbO a bP f=> ?_
    subst bP
    refine Ag 8 12013 Z f Z λa f=>Ag 9 12013 Z f Z λa f=> ?_
    have⟨bQ,bR,hd⟩:=bind_some hd
    refine AL 10 12013 0 m aB T54 bR Z f Z Z λbS a bT f=>A3 11 12013 0 aB AS bT bR Z f Z λbU a bV f=> ?_
    subst bV
    have⟨bW,bX,hd⟩:=bind_some hd
    refine AL 12 12013 0 m aB T54 bX Z f Z Z λbY a bZ f=>A2 λb0 w b1 m=> ?_
    have aB:=od1 b1 aB
    refine AD 0 m aB Z sizeOf75 f Z Z bZ bX Z Z Z λb2 w m b3=> ?_
    have⟨b4,b5,hd⟩:=bind_some hd
    refine Br 0 m b3 Z T54 f Z Z Z b5 λb6 a b7 f=>AD 0 m b3 Z sizeOf75 f Z Z b7 b5 Z Z Z λb8 w m b9=>Av ?_
    refine Ab f Z λa f=>Ac f Z λa f=>Ac f Z λa f=>Aa ?_
    refine Ap ?_
    obtain rfl:=sj hd
    exact⟨[(iv bc),(.bool true)],⟨f.get _ _ Z,f.get _ _ Z,trivial⟩,f.d,_,[b8],(gt ar (gt a9 (gt bI b1))),m,_,Z,Z,b9⟩
   ·refine Ai f Z bJ ?_
    refine Al ?_
    refine Af ?_
    refine BL AF m ?_
    refine p_p 2 Z f (λ_=>A9 (f.e Z)) λa f=>p_p 3 Z f (λ_=>A9 (f.e Z)) λa f=>BJ 12013 11 (by kernel_rfl) Z ?_
    refine Ag 0 12013 Z f Z λa f=>Ag 1 12013 Z f Z λa f=>Ag 4 12013 Z f Z λa f=>Ag 5 12013 Z f Z λa f=> ?_
    have⟨ca,cb,hd⟩:=bind_some hd
    refine AL 6 12013 0 m aB T54 cb Z f Z Z λcc a cd f=>A3 7 12013 0 aB AS cd cb Z f Z λce a cf f=> ?_
    subst cf
    refine Ag 8 12013 Z f Z λa f=>Ag 9 12013 Z f Z λa f=> ?_
    have⟨cg,ch,hd⟩:=bind_some hd
    refine AL 10 12013 0 m aB T54 ch Z f Z Z λci a cj f=>A3 11 12013 0 aB AS cj ch Z f Z λck a cl f=> ?_
    subst cl
    have⟨cm,cn,hd⟩:=bind_some hd
    refine AL 12 12013 0 m aB T54 cn Z f Z Z λco a cp f=>A2 λcq w cr m=> ?_
    have aB:=od1 cr aB
    refine AD 0 m aB Z sizeOf75 f Z Z cp cn Z Z Z λcs w m ct=> ?_
    have⟨cu,cv,hd⟩:=bind_some hd
    refine Br 0 m ct Z T54 f Z Z Z cv λcw a cx f=>AD 0 m ct Z sizeOf75 f Z Z cx cv Z Z Z λcy w m cz=>Av ?_
    refine Ab f Z λa f=>Ah f Z Z As λa f=>Ac f Z λa f=>Av ?_
    refine Ab f Z λa f=>Ah f Z Z AT λa f=>Ac f Z λa f=>Aa (Af ?_)
    have⟨cA,cB,hd⟩:=bind_some hd
    refine AG (λa w=>∃cC:LI,∃cD:Int,(cC,cD)=cA∧∃(cE:GH) (cF:Itm),GLe cq cE∧Fr a 178 [(0,v0),(1,(iv x1)),(13,(iv cD))]∧Mem W cE w (cF::H)∧Ow (RI .u32) 75 cE cF v0 cC) ?_ ?_
    ·refine Ak ?_
     refine AE (λcG a w=>∃cH:LI,∃cI:Int,∃cJ:Int,(cH,cI,cJ)=cG∧∃(cK:GH) (cL:Itm),GLe cq cK∧Fr a 178 [(0,v0),(1,(iv x1)),(4,(.func (.func 71) #[] #[])),(12,(iv cI)),(13,(iv cJ))]∧Mem W cK w (cL::H)∧Ow (RI .u32) 75 cK cL v0 cH) cB ⟨_,_,_,Z,_,cy,gr,f.k Z,m,cz⟩ ?_
     clear cB f m
     rintro cG cM cN cO a w ⟨cH,cI,cJ,rfl,cK,cL,cP,f,m,cQ⟩
     refine Ak (Af ?_)
     have⟨cR,cS,cN⟩:=bind_some cN
     refine AG (λa w=>∃cT:Int,cT=cR∧∃(cU:GH),GLe cK cU∧Fr a 178 [(0,v0),(1,(iv x1)),(4,(.func (.func 71) #[] #[])),(12,(iv cT)),(13,(iv cJ))]∧Mem W cU w (cL::H)) ?_ ?_
     ·refine Ak ?_
      refine AE (λcV a w=>∃cW:Int,cW=cV∧∃(cX:GH),GLe cK cX∧Fr a 178 [(0,v0),(1,(iv x1)),(4,(.func (.func 71) #[] #[])),(12,(iv cW)),(13,(iv cJ))]∧Mem W cX w (cL::H)) cS ⟨_,Z,_,gr,f.k Z,m⟩ ?_
      clear cS f m
      rintro cV cY cZ c0 a w ⟨cW,rfl,cX,c1,f,m⟩
      have cQ:=od1 c1 cQ
      refine Af (Af ?_)
      refine Bb 16 AF (by kernel_rfl) m ?_
      refine Ag 0 16 Z f Z λa f=>Ag 1 16 Z f Z λa f=>q_p 2 16 Z f (λ_=>Ay (f.e Z) (f.e Z) BT) λa f=>Ag 3 16 Z f Z λa f=> ?_
      have⟨c2,c3,cZ⟩:=bind_some cZ
      refine Cr (fuel':=0) (listed':= #[true,true,true,true,true,true,true,true,true,true,true,true,true,true,true,true]) (λa=>Fr a 178 [(0,v0),(1,(iv x1)),(4,(.func (.func 71) #[] #[])),(12,(iv cW)),(13,(iv cJ)),(105,(iv cW)),(106,(iv cJ)),(107,(.bool (decide (cW≤cJ)))),(108,(.bool (decide (cW≤cJ)))),(120,(.bool c2))]) ?_ ?_
      ·intro a f
       refine A2 λc4 w c5 m=>Aa ?_
       rcases Ad cZ with⟨c6,cZ⟩|⟨c6,cZ⟩
       ·refine Aj f Z c6 ?_
        refine Al ?_
        refine Ak (An ?_)
        refine Ab f Z λa f=>Ah f Z Z As λa f=>Ac f Z λa f=>Aa ?_
        obtain rfl:=sj cZ
        exact⟨_,Z,_,Z,_,(gt c1 c5),f.k Z,m⟩
       ·refine Ai f Z c6 ?_
        refine AC Z ?_
        obtain rfl:=sj cZ
        obtain rfl:=c0 _ rfl
        exact⟨_,Z,_,(gt c1 c5),f.k Z,m⟩
      ·intro c7
       rcases Ad c3 with⟨c8,c3⟩|⟨c8,c3⟩
       ·refine Ag (hw:=wo f c8) 4 16 Z f Z λa f=> ?_
        refine Ag (hw:=wo f c8) 5 16 Z f Z λa f=>Ag (hw:=wo f c8) 6 16 Z f Z λa f=> ?_
        have⟨c9,da,c3⟩:=bind_some c3
        refine AL (hw:=wo f c8) 7 16 0 m cQ T54 da Z f Z Z λdb a dc f=>A3 (hw:=wo f c8) 8 16 0 cQ AS dc da Z f Z λdd a de f=> ?_
        subst de
        refine Ag (hw:=wo f c8) 9 16 Z f Z λa f=>Ag (hw:=wo f c8) 10 16 Z f Z λa f=> ?_
        have⟨df,dg,c3⟩:=bind_some c3
        refine AL (hw:=wo f c8) 11 16 0 m cQ T54 dg Z f Z Z λdh a di f=>A3 (hw:=wo f c8) 12 16 0 cQ AS di dg Z f Z λdj a dk f=> ?_
        subst dk
        have⟨dl,dm,c3⟩:=bind_some c3
        refine BS (i:=13) 16 Z (by kernel_rfl) Z f (Bh f Z Z Z c8) Z Z Z call71 (λ_ _ w dn m=>Wk.a hW m dm) λa f=>q_p (hw:=wo f c8) 14 16 Z f (λ_=>Ay (f.e Z) (f.e Z) AI) λa f=>q_p 15 16 Z f (λ_=>AK (f.e Z) c8 (f.e Z)) λa f=> ?_
        obtain rfl:=sj c3
        exact c7 _ (f.k Z)
       ·refine Aq 4 16 Z f c8 λa f=> ?_
        refine Aq 5 16 Z f c8 λa f=>Aq 6 16 Z f c8 λa f=>Aq 7 16 Z f c8 λa f=>Aq 8 16 Z f c8 λa f=>Aq 9 16 Z f c8 λa f=>Aq 10 16 Z f c8 λa f=>Aq 11 16 Z f c8 λa f=>Aq 12 16 Z f c8 λa f=>Aq 13 16 Z f c8 λa f=>Aq 14 16 Z f c8 λa f=>q_p 15 16 Z f (λ_=>AJ (f.e Z) c8 (f.e Z)) λa f=> ?_
        obtain rfl:=sj c3
        exact c7 _ (f.k Z)
     ·rintro a w ⟨cT,rfl,cU,dp,f,m⟩
      have cQ:=od1 dp cQ
      refine Af ?_
      have⟨dq,dr,cN⟩:=bind_some cN
      refine AG (λa w=>∃ds:Int,ds=dq∧∃(dt:GH),GLe cU dt∧Fr a 178 [(0,v0),(1,(iv x1)),(4,(.func (.func 71) #[] #[])),(12,(iv cT)),(13,(iv ds))]∧Mem W dt w (cL::H)) ?_ ?_
      ·refine Ak ?_
       refine AE (λdu a w=>∃dv:Int,dv=du∧∃(dw:GH),GLe cU dw∧Fr a 178 [(0,v0),(1,(iv x1)),(4,(.func (.func 71) #[] #[])),(12,(iv cT)),(13,(iv dv))]∧Mem W dw w (cL::H)) dr ⟨_,Z,_,gr,f.k Z,m⟩ ?_
       clear dr f m
       rintro du dx dy dz a w ⟨dv,rfl,dw,dA,f,m⟩
       have cQ:=od1 dA cQ
       refine Af (Af ?_)
       refine Bb 17 AF (by kernel_rfl) m ?_
       refine Ag 0 17 Z f Z λa f=>Ag 1 17 Z f Z λa f=>q_p 2 17 Z f (λ_=>Ay (f.e Z) (f.e Z) BT) λa f=>Ag 3 17 Z f Z λa f=> ?_
       have⟨dB,dC,dy⟩:=bind_some dy
       refine Cr (fuel':=0) (listed':= #[true,true,true,true,true,true,true,true,true,true,true,true,true,true,true,true,true]) (λa=>Fr a 178 [(0,v0),(1,(iv x1)),(4,(.func (.func 71) #[] #[])),(12,(iv cT)),(13,(iv dv)),(123,(iv cT)),(124,(iv dv)),(125,(.bool (decide (cT≤dv)))),(126,(.bool (decide (cT≤dv)))),(139,(.bool dB))]) ?_ ?_
       ·intro a f
        refine A2 λdD w dE m=>Aa ?_
        rcases Ad dy with⟨dF,dy⟩|⟨dF,dy⟩
        ·refine Aj f Z dF ?_
         refine Al ?_
         refine Ak (An ?_)
         refine Ab f Z λa f=>Ah f Z Z AT λa f=>Ac f Z λa f=>Aa ?_
         obtain rfl:=sj dy
         exact⟨_,Z,_,Z,_,(gt dA dE),f.k Z,m⟩
        ·refine Ai f Z dF ?_
         refine AC Z ?_
         obtain rfl:=sj dy
         obtain rfl:=dz _ rfl
         exact⟨_,Z,_,(gt dA dE),f.k Z,m⟩
       ·intro dG
        rcases Ad dC with⟨dH,dC⟩|⟨dH,dC⟩
        ·refine Ag (hw:=wo f dH) 4 17 Z f Z λa f=> ?_
         refine Ag (hw:=wo f dH) 5 17 Z f Z λa f=>Ag (hw:=wo f dH) 6 17 Z f Z λa f=> ?_
         have⟨dI,dJ,dC⟩:=bind_some dC
         refine AL (hw:=wo f dH) 7 17 0 m cQ T54 dJ Z f Z Z λdK a dL f=>A3 (hw:=wo f dH) 8 17 0 cQ AS dL dJ Z f Z λdM a dN f=> ?_
         subst dN
         refine Ag (hw:=wo f dH) 9 17 Z f Z λa f=>Ag (hw:=wo f dH) 10 17 Z f Z λa f=> ?_
         have⟨dO,dP,dC⟩:=bind_some dC
         refine AL (hw:=wo f dH) 11 17 0 m cQ T54 dP Z f Z Z λdQ a dR f=>A3 (hw:=wo f dH) 12 17 0 cQ AS dR dP Z f Z λdS a dT f=> ?_
         subst dT
         have⟨dU,dV,dC⟩:=bind_some dC
         refine BS (i:=13) 17 Z (by kernel_rfl) Z f (Bh f Z Z Z dH) Z Z Z call71 (λ_ _ w dW m=>Wk.a hW m dV) λa f=>q_p (hw:=wo f dH) 14 17 Z f (λ_=>Ay (f.e Z) (f.e Z) AI) λa f=>q_p (hw:=wo f dH) 15 17 Z f (λ_=>Bt (f.e Z)) λa f=>q_p 16 17 Z f (λ_=>AK (f.e Z) dH (f.e Z)) λa f=> ?_
         obtain rfl:=sj dC
         exact dG _ (f.k Z)
        ·refine Aq 4 17 Z f dH λa f=> ?_
         refine Aq 5 17 Z f dH λa f=>Aq 6 17 Z f dH λa f=>Aq 7 17 Z f dH λa f=>Aq 8 17 Z f dH λa f=>Aq 9 17 Z f dH λa f=>Aq 10 17 Z f dH λa f=>Aq 11 17 Z f dH λa f=>Aq 12 17 Z f dH λa f=>Aq 13 17 Z f dH λa f=>Aq 14 17 Z f dH λa f=>Aq 15 17 Z f dH λa f=>q_p 16 17 Z f (λ_=>AJ (f.e Z) dH (f.e Z)) λa f=> ?_
         obtain rfl:=sj dC
         exact dG _ (f.k Z)
      ·rintro a w ⟨ds,rfl,dt,dX,f,m⟩
       have cQ:=od1 dX cQ
       refine Af (Ae ?_)
       refine Ab f Z λa f=>Ab f Z λa f=>Ah f Z Z CC λa f=>Aa ?_
       rcases Ad cN with⟨dY,cN⟩|⟨dY,cN⟩
       ·refine Aj f Z dY ?_
        refine AC Z ?_
        obtain rfl:=sj cN
        obtain rfl:=cO _ rfl
        exact⟨_,_,Z,_,cL,(gt cP (gt dp dX)),f.k Z,m,cQ⟩
       ·refine Ai f Z dY ?_
        refine Al ?_
        refine Af ?_
        refine BL AF m ?_
        refine p_p 2 Z f (λ_=>A9 (f.e Z)) λa f=>p_p 3 Z f (λ_=>A9 (f.e Z)) λa f=>BJ 12013 11 (by kernel_rfl) Z ?_
        refine Ag 0 12013 Z f Z λa f=>Ag 1 12013 Z f Z λa f=>Ag 4 12013 Z f Z λa f=>Ag 5 12013 Z f Z λa f=> ?_
        have⟨dZ,d0,cN⟩:=bind_some cN
        refine AL 6 12013 0 m cQ T54 d0 Z f Z Z λd1 a d2 f=>A3 7 12013 0 cQ AS d2 d0 Z f Z λd3 a d4 f=> ?_
        subst d4
        refine Ag 8 12013 Z f Z λa f=>Ag 9 12013 Z f Z λa f=> ?_
        have⟨d5,d6,cN⟩:=bind_some cN
        refine AL 10 12013 0 m cQ T54 d6 Z f Z Z λd7 a d8 f=>A3 11 12013 0 cQ AS d8 d6 Z f Z λd9 a ea f=> ?_
        subst ea
        have⟨eb,ec,cN⟩:=bind_some cN
        refine AL 12 12013 0 m cQ T54 ec Z f Z Z λed a ee f=>A2 λef w eg m=> ?_
        have cQ:=od1 eg cQ
        refine AD 0 m cQ Z sizeOf75 f Z Z ee ec Z Z Z λeh w m ei=> ?_
        have⟨ej,ek,cN⟩:=bind_some cN
        refine Br 0 m ei Z T54 f Z Z Z ek λel a em f=>AD 0 m ei Z sizeOf75 f Z Z em ek Z Z Z λen w m eo=>Av ?_
        refine Ab f Z λa f=>Ah f Z Z As λa f=>Ac f Z λa f=>Aa (An ?_)
        refine Ab f Z λa f=>Ah f Z Z AT λa f=>Ac f Z λa f=>Aa ?_
        obtain rfl:=sj cN
        exact⟨_,Z,_,_,_,Z,_,en,(gt cP (gt dp (gt dX eg))),f.k Z,m,eo⟩
    ·rintro a w ⟨cC,cD,rfl,cE,cF,ep,f,m,eq⟩
     refine Af ?_
     refine BL AF m ?_
     refine p_p 2 Z f (λ_=>A9 (f.e Z)) λa f=>p_p 3 Z f (λ_=>A9 (f.e Z)) λa f=>BJ 12013 11 (by kernel_rfl) Z ?_
     refine Ag 0 12013 Z f Z λa f=>Ag 1 12013 Z f Z λa f=>Ag 4 12013 Z f Z λa f=>Ag 5 12013 Z f Z λa f=> ?_
     have⟨er,es,hd⟩:=bind_some hd
     refine AL 6 12013 0 m eq T54 es Z f Z Z λet a eu f=>A3 7 12013 0 eq AS eu es Z f Z λev a ew f=> ?_
     subst ew
     refine Ag 8 12013 Z f Z λa f=>Ag 9 12013 Z f Z λa f=> ?_
     have⟨ex,ey,hd⟩:=bind_some hd
     refine AL 10 12013 0 m eq T54 ey Z f Z Z λez a eA f=>A3 11 12013 0 eq AS eA ey Z f Z λeB a eC f=> ?_
     subst eC
     have⟨eD,eE,hd⟩:=bind_some hd
     refine AL 12 12013 0 m eq T54 eE Z f Z Z λeF a eG f=>A2 λeH w eI m=> ?_
     have eq:=od1 eI eq
     refine AD 0 m eq Z sizeOf75 f Z Z eG eE Z Z Z λeJ w m eK=> ?_
     have⟨eL,eM,hd⟩:=bind_some hd
     refine Br 0 m eK Z T54 f Z Z Z eM λeN a eO f=>AD 0 m eK Z sizeOf75 f Z Z eO eM Z Z Z λeP w m eQ=>Av ?_
     refine Ab f Z λa f=>Ac f Z λa f=>Ac f Z λa f=>Aa ?_
     refine Ap ?_
     obtain rfl:=sj hd
     exact⟨[(iv cD),(.bool false)],⟨f.get _ _ Z,f.get _ _ Z,trivial⟩,f.d,_,[eP],(gt ar (gt a9 (gt bI (gt cr (gt ep eI))))),m,_,Z,Z,eQ⟩
theorem Wk.A {W:World}(hW:Bo W)(n:Nat):∀{w:World} {G:GH} {H:List Itm} {v0:Value} {it0:Itm} {x0:LI} {x1 x2 x3:Int} (m:Mem W G w (it0::H)) (o0:Ow (RI .u32) 75 G it0 v0 x0) {y:(LI)} (hd:D.A n x0 x1 x2 x3=some y),
  Calls prog 96 #[v0,(iv x1),(iv x2),(iv x3),(.func (.func 71) #[] #[])] w (Res W G H (λG' Ho _=>∃i0:Itm,Ho=[i0]∧Ow (RI .u32) 75 G' i0 v0 y)):=by
 induction n with
 |zero=>intros;rename_i hd;simp[D.A] at hd
 |succ fuel ih=>
  intro w G H v0 it0 x0 x1 x2 x3 m o0 y hd
  refine Ar (args:=[v0,(iv x1),(iv x2),(iv x3),(.func (.func 71) #[] #[])]) (N:=148) [] func96 Z Z (lb Z) Z λa f=> ?_
  unfold D.A at hd
  refine Ae ?_
  refine Ac f Z λa f=>Av ?_
  refine Ac f Z λa f=>Aa ?_
  have⟨aa,ab,hd⟩:=bind_some hd
  refine Ak ?_
  refine AE (λac a w=>∃ad:LI,∃ae:Int,∃af:Int,∃ag:Int,∃ah:Bool,∃ai:Bool,(ad,ae,af,ag,ah,ai)=ac∧∃(aj:GH) (ak:Itm),GLe G aj∧Fr a 148 [(0,v0),(1,(iv ae)),(2,(iv af)),(3,(iv ag)),(4,(.func (.func 71) #[] #[])),(10,(.bool ah)),(11,(.bool ai))]∧Mem W aj w (ak::H)∧Ow (RI .u32) 75 aj ak v0 ad) ab ⟨_,_,_,_,_,_,Z,_,it0,gr,f.k Z,m,o0⟩ ?_
  clear ab f m
  rintro ac al am an a w ⟨ad,ae,af,ag,ah,ai,rfl,aj,ak,ao,f,m,ap⟩
  refine Ak (Ae ?_)
  refine Ab f Z λa f=>Ab f Z λa f=>Ah f Z Z AT λa f=>Ac f Z λa f=>Aa (Af (Ae ?_))
  refine Ab f Z λa f=>Ah f Z Z BT λa f=>Aa ?_
  rcases Ad am with⟨aq,am⟩|⟨aq,am⟩
  ·refine Aj f Z aq ?_
   refine Ae ?_
   refine Ab f Z λa f=>Ab f Z λa f=>Ab f Z λa f=>Ab f Z λa f=> ?_
   have⟨ar,au,am⟩:=bind_some am
   refine AN f Z call110 (Wk.x0 hW m ap au) λav aw ax w ay m az a f=> ?_
   obtain⟨aA,rfl,aB⟩:=az
   refine Aa ?_
   refine Ap ?_
   obtain rfl:=sj am
   obtain rfl:=an _ rfl
   obtain rfl:=sj hd
   exact⟨[],trivial,f.d,_,[aA],(gt ao ay),m,_,Z,aB⟩
  ·refine Ai f Z aq ?_
   refine Al ?_
   refine Af (Ae ?_)
   refine Ab f Z λa f=>Ah f Z Z BU λa f=>Aa ?_
   rcases Ad am with⟨aC,am⟩|⟨aC,am⟩
   ·refine Aj f Z aC ?_
    refine Ae ?_
    refine Ab f Z λa f=>Ab f Z λa f=>Ab f Z λa f=>Ab f Z λa f=> ?_
    have⟨aD,aE,am⟩:=bind_some am
    refine AN f Z call111 (Wk.D0 hW m ap aE) λaF aG aH w aI m aJ a f=> ?_
    obtain⟨aK,rfl,aL⟩:=aJ
    refine Aa ?_
    refine Ap ?_
    obtain rfl:=sj am
    obtain rfl:=an _ rfl
    obtain rfl:=sj hd
    exact⟨[],trivial,f.d,_,[aK],(gt ao aI),m,_,Z,aL⟩
   ·refine Ai f Z aC ?_
    refine Al ?_
    refine Af (Ae ?_)
    refine Ab f Z λa f=>l_o f (Bt (f.e Z)) λa f=>Aa ?_
    have⟨aM,aN,am⟩:=bind_some am
    refine AG (λa w=>∃aO:LI,∃aP:Int,(aO,aP)=aM∧∃(aQ:GH) (aR:Itm),GLe aj aQ∧Fr a 148 [(0,v0),(1,(iv ae)),(2,(iv af)),(3,(iv aP)),(4,(.func (.func 71) #[] #[])),(10,(.bool ah)),(11,(.bool ai)),(12,(iv (i64.wrap (af-ae))))]∧Mem W aQ w (aR::H)∧Ow (RI .u32) 75 aQ aR v0 aO) ?_ ?_
    ·rcases Ad aN with⟨aS,aN⟩|⟨aS,aN⟩
     ·refine Aj f Z aS ?_
      refine Ae ?_
      refine Ab f Z λa f=>Ab f Z λa f=>Ab f Z λa f=>Ab f Z λa f=> ?_
      have⟨aT,aU,aN⟩:=bind_some aN
      refine AN f Z call112 (Wk.K0 m ap aU) λaV aW aX w aY m aZ a f=> ?_
      obtain⟨a0,rfl,a1⟩:=aZ
      refine Aa (An ?_)
      refine Ab f Z λa f=>Ah f Z Z AT λa f=>Ac f Z λa f=>Aa ?_
      obtain rfl:=sj aN
      exact⟨_,_,Z,_,a0,aY,f.k Z,m,a1⟩
     ·refine Ai f Z aS ?_
      refine Al ?_
      obtain rfl:=sj aN
      exact⟨_,_,Z,_,ak,gr,f.k Z,m,ap⟩
    ·rintro a w ⟨aO,aP,rfl,aQ,aR,a2,f,m,a3⟩
     refine Ae ?_
     refine Ab f Z λa f=>Ab f Z λa f=>Ab f Z λa f=>Ab f Z λa f=> ?_
     have⟨a4,a5,am⟩:=bind_some am
     refine AN f Z call113 (Wk.z0 hW m a3 a5) λa6 a7 a8 w a9 m ba a f=> ?_
     obtain⟨bb,rfl,rfl,bc⟩:=ba
     refine Ab f Z λa f=>l_o f (A6 (f.e Z) Z) λa f=>l_o f (A6 (f.e Z) Z) λa f=>Ac f Z λa f=>Ac f Z λa f=>Aa (Af (Ae ?_))
     refine Ab f Z λa f=>Ah f Z Z BU λa f=>Aa ?_
     have⟨bd,be,am⟩:=bind_some am
     refine AG (λa w=>∃bf:LI,∃bg:Int,∃bh:Int,(bf,bg,bh)=bd∧∃(bi:GH) (bj:Itm),GLe a7 bi∧Fr a 148 [(0,v0),(1,(iv ae)),(2,(iv af)),(3,(iv aP)),(4,(.func (.func 71) #[] #[])),(10,(.bool ah)),(11,(.bool ai)),(12,(iv (i64.wrap (af-ae)))),(13,(iv bg)),(14,(iv bh))]∧Mem W bi w (bj::H)∧Ow (RI .u32) 75 bi bj v0 bf) ?_ ?_
     ·rcases Ad be with⟨bk,be⟩|⟨bk,be⟩
      ·refine Aj f Z bk ?_
       refine Ae ?_
       refine Ab f Z λa f=>Ab f Z λa f=>Ab f Z λa f=>Ab f Z λa f=> ?_
       have⟨bl,bm,be⟩:=bind_some be
       refine AN f Z call114 (Wk.E0 m bc bm) λbn bo bp w bq m br a f=> ?_
       obtain⟨bs,rfl,bt⟩:=br
       refine Av ?_
       refine Ab f Z λa f=>Ah f Z Z AT λa f=>Ab f Z λa f=>Ab f Z λa f=>Ah f Z Z AT λa f=>Ah f Z Z AT λa f=>Ac f Z λa f=>Aa (An ?_)
       refine Ac f Z λa f=>Aa ?_
       obtain rfl:=sj be
       exact⟨_,_,_,Z,_,bs,bq,f.k Z,m,bt⟩
      ·refine Ai f Z bk ?_
       refine Al ?_
       obtain rfl:=sj be
       exact⟨_,_,_,Z,_,bb,gr,f.k Z,m,bc⟩
     ·rintro a w ⟨bf,bg,bh,rfl,bi,bj,bu,f,m,bv⟩
      refine Af (Ae ?_)
      refine Ab f Z λa f=>Ab f Z λa f=> ?_
      refine Bx 2 (λa w=>∃bw,GLe bi bw∧Mem W bw w (bj::H)∧Fr a 148 [(0,v0),(1,(iv ae)),(2,(iv af)),(3,(iv aP)),(4,(.func (.func 71) #[] #[])),(10,(.bool ah)),(11,(.bool ai)),(12,(iv (i64.wrap (af-ae)))),(13,(iv bg)),(14,(iv bh)),(68,(.bool ah)),(69,(.bool ah)),(71,(.bool (ah&&ai)))]) ?_ ?_
      ·rcases Bool.eq_false_or_eq_true ah with bx|bx
       ·refine Ax f bx ?_
        refine Ab f Z λa f=>l_o f (AK (f.e Z) bx (f.e Z)) λa f=> ?_
        exact⟨_,gr,m,f.weak ⟨Z,Z,Z,Z,Z,Z,Z,Z,Z,Z,Z,Z,by rw[bx];rfl,trivial⟩⟩
       ·refine Az f bx λa f=> ?_
        refine l_o f (AJ (f.e Z) bx (f.e Z)) λa f=> ?_
        exact⟨_,gr,m,f.weak ⟨Z,Z,Z,Z,Z,Z,Z,Z,Z,Z,Z,Z,by rw[bx];rfl,trivial⟩⟩
      ·rintro a w ⟨bw,bz,m,f⟩
       have bv:=od1 bz bv
       refine Ab f Z λa f=> ?_
       refine Bx 3 (λa w=>∃bA,GLe bw bA∧Mem W bA w (bj::H)∧Fr a 148 [(0,v0),(1,(iv ae)),(2,(iv af)),(3,(iv aP)),(4,(.func (.func 71) #[] #[])),(10,(.bool ah)),(11,(.bool ai)),(12,(iv (i64.wrap (af-ae)))),(13,(iv bg)),(14,(iv bh)),(68,(.bool ah)),(69,(.bool ah)),(71,(.bool (ah&&ai))),(72,(.bool (ah&&ai))),(75,(.bool ((ah&&ai)&&(bh==1))))]) ?_ ?_
       ·rcases Bool.eq_false_or_eq_true (ah&&ai) with bB|bB
        ·refine Ax f bB ?_
         refine Ab f Z λa f=>Ax f bB ?_
         refine Ah f Z Z BU λa f=>l_o f (AK (f.e Z) bB (f.e Z)) λa f=> ?_
         exact⟨_,gr,m,f.weak ⟨Z,Z,Z,Z,Z,Z,Z,Z,Z,Z,Z,Z,Z,Z,by rw[bB];rfl,trivial⟩⟩
        ·refine Az f bB λa f=> ?_
         refine Az f bB λa f=>l_o f (AJ (f.e Z) bB (f.e Z)) λa f=> ?_
         exact⟨_,gr,m,f.weak ⟨Z,Z,Z,Z,Z,Z,Z,Z,Z,Z,Z,Z,Z,Z,by rw[bB];rfl,trivial⟩⟩
       ·rintro a w ⟨bA,bC,m,f⟩
        have bv:=od1 bC bv
        refine Aa ?_
        have⟨bD,bE,am⟩:=bind_some am
        refine AG (λa w=>∃j_513':LI,bD= .inl j_513'∧∃bF:LI,bF=j_513'∧∃(bG:GH) (bH:Itm),GLe bA bG∧Fr a 148 [(0,v0),(1,(iv ae)),(2,(iv af)),(3,(iv aP)),(4,(.func (.func 71) #[] #[])),(10,(.bool ah)),(11,(.bool ai)),(12,(iv (i64.wrap (af-ae)))),(13,(iv bg))]∧Mem W bG w (bH::H)∧Ow (RI .u32) 75 bG bH v0 bF) ?_ ?_
        ·rcases Ad bE with⟨bI,bE⟩|⟨bI,bE⟩
         ·refine Aj f Z bI ?_
          refine Ae ?_
          refine Ab f Z λa f=>Ab f Z λa f=>Ab f Z λa f=>Ab f Z λa f=> ?_
          have⟨bJ,bK,bE⟩:=bind_some bE
          refine AN f Z call115 (Wk.L0 hW m bv bK) λbL bM bN w bO m bP a f=> ?_
          obtain⟨bQ,rfl,rfl,bR⟩:=bP
          refine Aa ?_
          rcases Ad bE with⟨bS,bE⟩|⟨bS,bE⟩
          ·refine Aj f Z bS ?_
           refine Ap ?_
           obtain rfl:=sj bE
           obtain rfl:=sj am
           obtain rfl:=an _ rfl
           obtain rfl:=sj hd
           exact⟨[],trivial,f.d,_,[bQ],(gt ao (gt a2 (gt a9 (gt bu (gt bz (gt bC bO)))))),m,_,Z,bR⟩
          ·refine Ai f Z bS ?_
           refine Al ?_
           obtain rfl:=sj bE
           exact⟨_,Z,_,Z,_,bQ,bO,f.k Z,m,bR⟩
         ·refine Ai f Z bI ?_
          refine Al ?_
          obtain rfl:=sj bE
          exact⟨_,Z,_,Z,_,bj,gr,f.k Z,m,bv⟩
        ·rintro a w ⟨_,rfl,bF,rfl,bG,bH,bT,f,m,bU⟩
         refine Af (Af ?_)
         refine Bb 17 AF (by kernel_rfl) m ?_
         refine Ag 0 17 Z f Z λa f=>q_p 1 17 Z f (λ_=>Ay (f.e Z) (f.e Z) CC) λa f=>Ag 2 17 Z f Z λa f=> ?_
         have⟨bV,bW,am⟩:=bind_some am
         refine Cr (fuel':=0) (listed':= #[true,true,true,true,true,true,true,true,true,true,true,true,true,true,true,true,true]) (λa=>Fr a 148 [(0,v0),(1,(iv ae)),(2,(iv af)),(3,(iv aP)),(4,(.func (.func 71) #[] #[])),(10,(.bool ah)),(11,(.bool ai)),(12,(iv (i64.wrap (af-ae)))),(13,(iv bg)),(81,(iv ae)),(82,(.bool (decide ((0:Int)<ae)))),(83,(.bool (decide ((0:Int)<ae)))),(97,(.bool bV))]) ?_ ?_
         ·intro a f
          refine A2 λbX w bY m=> ?_
          have bU:=od1 bY bU
          refine Aa ?_
          rcases Ad am with⟨bZ,am⟩|⟨bZ,am⟩
          ·refine Aj f Z bZ ?_
           refine Ae ?_
           refine Ab f Z λa f=>Ab f Z λa f=>Ab f Z λa f=>Ab f Z λa f=>Ab f Z λa f=> ?_
           have⟨b0,b1,am⟩:=bind_some am
           refine AN f Z call116 (Wk.w0 hW m bU b1) λb2 b3 b4 w b5 m b6 a f=> ?_
           obtain⟨b7,rfl,rfl,b8⟩:=b6
           refine Ac f Z λa f=>Av ?_
           refine Ab f Z λa f=>Ac f Z λa f=>Aa ?_
           refine AC Z ?_
           obtain rfl:=sj am
           exact⟨_,Z,_,_,_,_,_,_,Z,_,b7,(gt ao (gt a2 (gt a9 (gt bu (gt bz (gt bC (gt bT (gt bY b5)))))))),f.k Z,m,b8⟩
          ·refine Ai f Z bZ ?_
           refine Al ?_
           refine Ae ?_
           refine Ab f Z λa f=>Ab f Z λa f=>Ab f Z λa f=>Ab f Z λa f=>Ab f Z λa f=> ?_
           have⟨b9,ca,am⟩:=bind_some am
           refine AN f Z call117 (Wk.H0 hW m bU ca) λcb cc cd w ce m cf a f=> ?_
           obtain⟨cg,rfl,rfl,ch⟩:=cf
           refine Ab f Z λa f=>l_o f (A6 (f.e Z) Z) λa f=>l_o f (A6 (f.e Z) Z) λa f=>Ac f Z λa f=>Ac f Z λa f=>Av ?_
           refine Ab f Z λa f=>Ac f Z λa f=>Av ?_
           refine Ab f Z λa f=>Ab f Z λa f=>Ah f Z Z AT λa f=>Ab f Z λa f=>Ab f Z λa f=>Ah f Z Z AT λa f=>Ac f Z λa f=>Ac f Z λa f=>Av ?_
           refine Ab f Z λa f=>Ah f Z Z (Dz Z) λa f=>Ac f Z λa f=>Av ?_
           refine Ab f Z λa f=>Ab f Z λa f=>Ah f Z Z AI λa f=>Aa ?_
           rcases Ad am with⟨ci,am⟩|⟨ci,am⟩
           ·refine Aj f Z ci ?_
            refine Ae ?_
            refine Ab f Z λa f=>Ab f Z λa f=>Ah f Z Z B3 λa f=>Ac f Z λa f=>Av ?_
            refine Ab f Z λa f=>Ab f Z λa f=>Ab f Z λa f=>Ab f Z λa f=>Ab f Z λa f=> ?_
            have⟨cj,ck,am⟩:=bind_some am
            refine AN f Z call96 (ih m ch ck) λcl cm cn w co m cp a f=> ?_
            obtain⟨cq,rfl,cr⟩:=cp
            refine Aa (An ?_)
            refine Ab f Z λa f=>Ah f Z Z As λa f=>Ac f Z λa f=>Aa ?_
            obtain rfl:=sj am
            exact⟨_,Z,_,_,_,_,_,_,Z,_,cq,(gt ao (gt a2 (gt a9 (gt bu (gt bz (gt bC (gt bT (gt bY (gt ce co))))))))),f.k Z,m,cr⟩
           ·refine Ai f Z ci ?_
            refine Ae ?_
            refine Ab f Z λa f=>Ab f Z λa f=>Ah f Z Z B3 λa f=>Ac f Z λa f=>Av ?_
            refine Ab f Z λa f=>Ab f Z λa f=>Ah f Z Z As λa f=>Ab f Z λa f=>Ab f Z λa f=>Ab f Z λa f=> ?_
            have⟨cs,ct,am⟩:=bind_some am
            refine AN f Z call96 (ih m ch ct) λcu cv cw w cx m cy a f=> ?_
            obtain⟨cz,rfl,cA⟩:=cy
            refine Aa (An ?_)
            refine Ab f Z λa f=>Ac f Z λa f=>Aa ?_
            obtain rfl:=sj am
            exact⟨_,Z,_,_,_,_,_,_,Z,_,cz,(gt ao (gt a2 (gt a9 (gt bu (gt bz (gt bC (gt bT (gt bY (gt ce cx))))))))),f.k Z,m,cA⟩
         ·intro cB
          rcases Ad bW with⟨cC,bW⟩|⟨cC,bW⟩
          ·refine Ag (hw:=wo f cC) 3 17 Z f Z λa f=> ?_
           refine Ag (hw:=wo f cC) 4 17 Z f Z λa f=>Ag (hw:=wo f cC) 5 17 Z f Z λa f=>q_p (hw:=wo f cC) 6 17 Z f (λ_=>Ay (f.e Z) (f.e Z) AT) λa f=> ?_
           have⟨cD,cE,bW⟩:=bind_some bW
           refine AL (hw:=wo f cC) 7 17 0 m bU T54 cE Z f Z Z λcF a cG f=>A3 (hw:=wo f cC) 8 17 0 bU AS cG cE Z f Z λcH a cI f=> ?_
           subst cI
           refine Ag (hw:=wo f cC) 9 17 Z f Z λa f=>Ag (hw:=wo f cC) 10 17 Z f Z λa f=> ?_
           have⟨cJ,cK,bW⟩:=bind_some bW
           refine AL (hw:=wo f cC) 11 17 0 m bU T54 cK Z f Z Z λcL a cM f=>A3 (hw:=wo f cC) 12 17 0 bU AS cM cK Z f Z λcN a cO f=> ?_
           subst cO
           have⟨cP,cQ,bW⟩:=bind_some bW
           refine BS (i:=13) 17 Z (by kernel_rfl) Z f (Bh f Z Z Z cC) Z Z Z call71 (λ_ _ w cR m=>Wk.a hW m cQ) λa f=>q_p (hw:=wo f cC) 14 17 Z f (λ_=>Ay (f.e Z) (f.e Z) AI) λa f=>q_p (hw:=wo f cC) 15 17 Z f (λ_=>Bt (f.e Z)) λa f=>q_p 16 17 Z f (λ_=>AK (f.e Z) cC (f.e Z)) λa f=> ?_
           obtain rfl:=sj bW
           exact cB _ (f.k Z)
          ·refine Aq 3 17 Z f cC λa f=> ?_
           refine Aq 4 17 Z f cC λa f=>Aq 5 17 Z f cC λa f=>Aq 6 17 Z f cC λa f=>Aq 7 17 Z f cC λa f=>Aq 8 17 Z f cC λa f=>Aq 9 17 Z f cC λa f=>Aq 10 17 Z f cC λa f=>Aq 11 17 Z f cC λa f=>Aq 12 17 Z f cC λa f=>Aq 13 17 Z f cC λa f=>Aq 14 17 Z f cC λa f=>Aq 15 17 Z f cC λa f=>q_p 16 17 Z f (λ_=>AJ (f.e Z) cC (f.e Z)) λa f=> ?_
           obtain rfl:=sj bW
           exact cB _ (f.k Z)
theorem Wk.g {v0:Value}{it0:Itm}{x0:LI}{x1 x2 x3:Int}(hW:Bo W)(m:Mem W G w (it0::H))(o0:Ow (RI .u32) 75 G it0 v0 x0){y:(LI)}(hd:D.g x0 x1 x2 x3=some y):
  Calls prog 96 #[v0,(iv x1),(iv x2),(iv x3),(.func (.func 71) #[] #[])] w (Res W G H (λG' Ho _=>∃i0:Itm,Ho=[i0]∧Ow (RI .u32) 75 G' i0 v0 y)):=by
 exact Wk.A hW Bv m o0 hd
theorem Wk.b0 {v0:Value}{it0:Itm}{x0:LI}(hW:Bo W)(m:Mem W G w (it0::H))(o0:Ow (RI .u32) 75 G it0 v0 x0){y:(LI)}(hd:D.b0 x0=some y):
  Calls prog 70 #[v0,(.func (.func 71) #[] #[])] w (Res W G H (λG' Ho _=>∃i0:Itm,Ho=[i0]∧Ow (RI .u32) 75 G' i0 v0 y)):=by
 refine Ar (args:=[v0,(.func (.func 71) #[] #[])]) (N:=14) [] func70 Z Z (lb Z) Z λa f=> ?_
 unfold D.b0 at hd
 refine Ae ?_
 refine Ab f Z λa f=>Dd 0 m o0 Z underlying54 f Z Z λa f=>Ac f Z λa f=>Aa (An ?_)
 refine Ab f Z λa f=>Ab f Z λa f=>Ab f Z λa f=>l_o f (CF (f.e Z) ⟨_,underlying3⟩ underlying62) λa f=> ?_
 have⟨aa,ab,hd⟩:=bind_some hd
 refine AN f Z call97 (Wk.y m ab) λac ad ae w af m ag a f=> ?_
 obtain⟨rfl,rfl⟩:=ag
 have o0:=od1 af o0
 refine Ab f Z λa f=> ?_
 have⟨ah,ai,hd⟩:=bind_some hd
 refine AN f Z call96 (Wk.g hW m o0 ai) λaj ak al w am m an a f=> ?_
 obtain⟨ao,rfl,ap⟩:=an
 refine Aa ?_
 obtain rfl:=sj hd
 exact⟨[],trivial,f.d,_,[ao],(gt af am),m,_,Z,ap⟩
theorem Wk.t {v0:Value}{x0:LI}(hW:Bo W)(m:Mem W G w (H))(h0:RSl (RI .u32) G v0 x0){y:(LI)}(hd:D.t x0=some y):
  Calls prog 80 #[v0] w (Res W G H (λG' Ho v=>∃r0:Value,∃i0:Itm,Ho=[i0]∧r0=v∧Ow (RI .u32) 75 G' i0 r0 y)):=by
 refine Ar (args:=[v0]) (N:=11) [.tmp 2] func80 Z Z (lb Z) Z λa f=> ?_
 unfold D.t at hd
 refine Ae ?_
 refine Ac f Z λa f=>Av ?_
 refine Ab f Z λa f=>Ab f Z λa f=> ?_
 have⟨aa,ab,hd⟩:=bind_some hd
 refine Bc f Z call68 (Wk.p m h0 ab) λac w ad m a f=> ?_
 have h0:=rd1 ad h0
 obtain⟨ae,m,af⟩:=Ow.nil (RI .u32) 75 m
 have⟨ag,ah,hd⟩:=bind_some hd
 refine AN f Z call99 (Wk.i hW m h0 af ah) λai aj ak w al m am a f=> ?_
 obtain⟨an,ao,rfl,rfl,ap⟩:=am
 refine Ac f Z λa f=>Av ?_
 refine Ab f Z λa f=> ?_
 have⟨aq,ar,hd⟩:=bind_some hd
 refine AN f Z call70 (Wk.b0 hW m ap ar) λau av aw w ax m ay a f=> ?_
 obtain⟨az,rfl,aA⟩:=ay
 refine Av ?_
 refine Ab f Z λa f=>Ac f Z λa f=>Aa ?_
 refine Ap ?_
 obtain rfl:=sj hd
 exact⟨[an],f.g Z,f.d,_,[az],(gt ad (gt al ax)),m,_,_,Z,Z,aA⟩
end Go.Proofs.YtjhajfcggfhbmaaDoor

namespace Go.Sx
def OwMp {β:Type}(q:IntKind)(enc:β→Value)(it:Itm)(v:Value)(M:List (Int×β)):Prop:=
 ∃(b:Nat) (es:Array MapEntry) (clock:Nat),it= .obj b (.map es clock)∧v= .map (some b)∧es.toList.map (λe=>(e.key,e.val))=M.map (λkv=>(Value.int q kv.1,enc kv.2))
theorem find_now {β:Type}{q:IntKind}{enc:β→Value}(x:Int):∀(es:List MapEntry) (M:List (Int×β)) (i:Nat),es.map (λe=>(e.key,e.val))=M.map (λkv=>(Value.int q kv.1,enc kv.2))→
  (Instr.findNow (.int q) (.int q x) es i=some none∧∀kv∈M,kv.1≠x)∨∃j kv,Instr.findNow (.int q) (.int q x) es i=some (some (i+j,enc kv.2))∧M[j]? =some kv∧kv.1=x
 |[],M,i,h=>by
  have:M=[]:=by simpa using h.symm
  subst this
  exact .inl ⟨rfl,by simp⟩
 |e::es,[],i,h=>by simp at h
 |e::es,kv::M,i,h=>by
  simp only[List.map_cons,List.cons.injEq,Prod.mk.injEq] at h
  obtain⟨⟨h1,h2⟩,h3⟩:=h
  unfold Instr.findNow
  rw[h1]
  simp only[Instr.sameNow,if_true]
  by_cases hx:x=kv.1
  ·rw[show (x==kv.1)=true by simp[hx]]
   exact .inr ⟨0,kv,by simp[h2],rfl,hx.symm⟩
  ·rw[show (x==kv.1)=false by simp[hx]]
   rcases find_now x es M (i+1) h3 with⟨h4,h5⟩|⟨j,kv',h4,h5,h6⟩
   ·refine .inl ⟨h4,λz hz=> ?_⟩
    rcases List.mem_cons.1 hz with rfl|hz
    ·exact λe=>hx e.symm
    ·exact h5 z hz
   ·exact .inr ⟨j+1,kv',by simp only[h4];congr 3;omega,by simpa using h5,h6⟩
section
variable {P : Program} {ρ : Operand → Value} {w : World} {d : Option Tmp} {t : TypeId} {pos : String} {af : Array Edge} {gd : Option (Nat × Bool)}
theorem DV {q:IntKind}{kt:TypeId}(hk:P.underlying kt=some (.int q)){k:Value}{es:List MapEntry}{o:Option (Nat×Value)}(h:Instr.findNow (.int q) k es 0=some o):(Instr.findKey kt k es).run P w= .ok o w:=by
 simp[Instr.findKey,run_underlying hk,h]
theorem DB {q:IntKind}{kt:TypeId}(hk:P.underlying kt=some (.int q))(e:Bool)(x:Int):(Instr.checkKey e 10000 kt (.int q x)).run P w= .ok () w:=by
 unfold Instr.checkKey
 simp[run_underlying hk]
theorem run_map {b:Nat}{es:Array MapEntry}{clock:Nat}(h:w.heap[b]? =some (.map es clock)):(getObj b).run P w= .ok (.map es clock) w:=by
 simp[getObj,Sem.run,h]
theorem run_setMap {b:Nat}{es:Array MapEntry}{clock:Nat}{o':Obj}(h:w.heap[b]? =some (.map es clock)):(setObj b o').run P w= .ok () {w with heap:=w.heap.setIfInBounds b o'}:=by
 simp[setObj,Sem.run,h]
theorem run_stays (q:IntKind)(x:Int):(Instr.keyThatStays (.int q x) (.int q x)).run P w= .ok (.int q x) w:=by
 have e:Instr.sameBits 10000 (.int q x) (.int q x)=true:=by simp[Instr.sameBits]
 unfold Instr.keyThatStays
 rw[e];rfl
theorem r_lookup {xo ko:Operand}{mt kt et:TypeId}{q:IntKind}{b:Nat}{es:Array MapEntry}{clock:Nat}{x:Int}{z:Value}{o:Option (Nat×Value)}{ok:Bool}(hx:ρ xo= .map (some b))(hk:ρ ko= .int q x)
  (ht:P.underlying mt=some (.map kt et)) (hq:P.underlying kt=some (.int q)) (hz:∀w,(zeroValue et).run P w= .ok z w) (hg:w.heap[b]? =some (.map es clock)) (ho:Instr.findNow (.int q) (.int q x) es.toList 0=some o):
  (execOp ρ ⟨d,.lookup mt xo ko ok,t,pos,af,gd⟩).run P w= .ok (.value (if ok then .tuple #[(o.map (·.2)).getD z,.bool o.isSome] else(o.map (·.2)).getD z)) w:=by
 cases o with
 |none=>simp[execOp,hx,hk,Instr.lookup,run_underlying ht,run_map hg,DB hq,DV hq ho,hz w]
 |some p=>obtain⟨i,v⟩:=p;simp[execOp,hx,hk,Instr.lookup,run_underlying ht,run_map hg,DB hq,DV hq ho]
theorem r_makeMap {mt:TypeId}:(execOp ρ ⟨d,.makeMap mt none,t,pos,af,gd⟩).run P w= .ok (.value (.map (some w.heap.size))) (w.alloc (.map #[] 0)):=by
 simp[execOp,Instr.makeMap]
theorem EF {mo ko vo:Operand}{mt kt et:TypeId}{q:IntKind}{b:Nat}{es:Array MapEntry}{clock:Nat}{x:Int}{y:Value}{o:Option (Nat×Value)}(hm:ρ mo= .map (some b))(hk:ρ ko= .int q x)(hv:ρ vo=y)
  (ht:P.underlying mt=some (.map kt et)) (hq:P.underlying kt=some (.int q)) (hg:w.heap[b]? =some (.map es clock)) (ho:Instr.findNow (.int q) (.int q x) es.toList 0=some o) (hkey:∀j v,o=some (j,v)→(es[j]?).map (·.key)=some (.int q x)):
  (execOp ρ ⟨d,.mapUpdate mt mo ko vo,t,pos,af,gd⟩).run P w= .ok .skip {w with heap:=w.heap.setIfInBounds b (match o with|some (j,_)=> .map (es.modify j λe=>{e with key:= .int q x,val:=y}) clock|none=> .map (es.push {key:= .int q x,val:=y,born:=clock}) (clock+1))}:=by
 cases o with
 |none=>simp[execOp,hm,hk,hv,Instr.mapUpdate,run_underlying ht,run_map hg,DB hq,DV hq ho,run_setMap hg]
 |some p=>
  obtain⟨j,v⟩:=p
  have h1:=hkey j v rfl
  have h2:((es[j]?).map (·.key)).getD (.int q x)= .int q x:=by rw[h1];rfl
  simp only[execOp,hm,hk,hv,Instr.mapUpdate]
  simp[run_underlying ht,run_map hg,DB hq,DV hq ho,h2,run_stays,run_setMap hg]
end
section
variable {P : Program} {ops : Array Oper} {rest : List Oper} {n r : AQ} {x : List (Nat × AQ)} {a : Act} {w : World} {N : Nat} {L : AZ}
variable {W : World} {G : GH} {H : List Itm}
variable {d : Nat} {t : TypeId} {pos : String} {af : Array Edge}
theorem l_makeMap {β:Type}(q:IntKind)(enc:β→Value){mt:TypeId}(m:Mem W G w H)(f:Fr a N L)(hN:Nat.blt d N=true)
  (k:∀it v w' a',Mem W G w' (it::H)→OwMp q enc it v []→Fr a' N ((d,v)::L)→wpList P ops (Qk n x r) rest a' w'):
  wpList P ops (Qk n x r) (⟨some d,.makeMap mt none,t,pos,af,none⟩::rest) a w:=
 BA f rfl rfl hN r_makeMap (λa' f'=>k (.obj w.heap.size (.map #[] 0)) _ _ a' (m.add rfl rfl rfl (λy hy=>by first|exact heap_alloc_old w _ y hy|exact heap_alloc_old w _ hy) (heap_alloc_new w _) (λy hy=>by simp[Itm.foot] at hy;omega)) ⟨_,_,_,rfl,rfl,rfl⟩ f')
theorem l_lookup {β:Type}{q:IntKind}{enc:β→Value}{it:Itm}{v z:Value}{M:List (Int×β)}{mt kt et:TypeId}{xo ko:Operand}{i:Int}(j:Nat)(m:Mem W G w H)(h:OwMp q enc it v M)(hj:H[j]? =some it)
  (ht:P.underlying mt=some (.map kt et)) (hq:P.underlying kt=some (.int q)) (hz:∀w,(zeroValue et).run P w= .ok z w) (f:Fr a N L) (hN:Nat.blt d N=true) (hx:AA L xo=some v) (hk:AA L ko=some (.int q i))
  (k:∀(o:Option β),(∀y,o=some y→(i,y)∈M)→∀a',Fr a' N ((d,(o.map enc).getD z)::L)→wpList P ops (Qk n x r) rest a' w):
  wpList P ops (Qk n x r) (⟨some d,.lookup mt xo ko false,t,pos,af,none⟩::rest) a w:=by
 obtain⟨b,es,clock,rfl,rfl,he⟩:=h
 have hg:w.heap[b]? =some (.map es clock):=m.items j _ hj
 rcases find_now i es.toList M 0 he with⟨h1,_⟩|⟨j',kv,h1,h2,h3⟩
 ·exact BA f rfl rfl hN (r_lookup (f.eval hx) (f.eval hk) ht hq hz hg h1) (λa' f'=>k none (λy hy=>by cases hy) a' f')
 ·exact BA f rfl rfl hN (r_lookup (f.eval hx) (f.eval hk) ht hq hz hg h1) (λa' f'=>k (some kv.2) (λy hy=>by
   simp only[Option.some.injEq] at hy
   subst hy;rw[←h3];exact List.mem_of_getElem? h2) a' f')
theorem l_mapUpdate {β:Type}{q:IntKind}{enc:β→Value}{it:Itm}{v:Value}{M:List (Int×β)}{mt kt et:TypeId}{xo ko vo:Operand}{i:Int}{y:β}(j:Nat)(m:Mem W G w H)(h:OwMp q enc it v M)(hj:H[j]? =some it)
  (ht:P.underlying mt=some (.map kt et)) (hq:P.underlying kt=some (.int q)) (f:Fr a N L) (hx:AA L xo=some v) (hk:AA L ko=some (.int q i)) (hv:AA L vo=some (enc y))
  (k:∀it' M' w',(∀kv∈M',kv=(i,y)∨kv∈M)→Mem W G w' (H.set j it')→OwMp q enc it' v M'→wpList P ops (Qk n x r) rest a w'):
  wpList P ops (Qk n x r) (⟨none,.mapUpdate mt xo ko vo,t,pos,af,none⟩::rest) a w:=by
 obtain⟨b,es,clock,rfl,rfl,he⟩:=h
 have hg:w.heap[b]? =some (.map es clock):=m.items j _ hj
 have hb:b<w.heap.size:=(Array.getElem?_eq_some_iff.1 hg).1
 have hlen:es.toList.length=M.length:=by have:=congrArg List.length he;simpa using this
 have hmem:∀(o:Obj),Mem W G {w with heap:=w.heap.setIfInBounds b o} (H.set j (.obj b o)):=λo=>
  m.changeAt j hj rfl rfl rfl (λy _ hy=>by
   have:y≠b:=λe=>hy (by rw[e];simp[Itm.foot])
   simp[Ne.symm this]) (by simp[Itm.ok,hb]) (λy hy=> .inl hy)
 rcases find_now i es.toList M 0 he with⟨h1,_⟩|⟨j',kv,h1,h2,h3⟩
 ·refine l_void rfl rfl (EF (f.eval hx) (f.eval hk) (f.eval hv) ht hq hg h1 (λj v hc=>by cases hc)) ?_
  refine k _ (M++[(i,y)]) _ (λkv hkv=> ?_) (hmem _) ⟨b,_,_,rfl,rfl,?_⟩
  ·rcases List.mem_append.1 hkv with h|h
   ·exact .inr h
   ·exact .inl (by simpa using h)
  ·simp[he]
 ·have hjl:j'<es.toList.length:=by rw[hlen];exact(List.getElem?_eq_some_iff.1 h2).1
  have hkey:(es[j']?).map (·.key)=some (.int q i):=by
   have hA:=congrArg (λl=>l[j']?) he
   simp only[List.getElem?_map,h2,Option.map_some,Array.getElem?_toList] at hA
   cases hE:es[j']? with
   |none=>rw[hE] at hA;simp at hA
   |some e=>
    rw[hE] at hA
    simp only[Option.map_some,Option.some.injEq,Prod.mk.injEq] at hA
    rw[Option.map_some,hA.1,h3]
  refine l_void rfl rfl (EF (f.eval hx) (f.eval hk) (f.eval hv) ht hq hg h1 (λj v hc=>by
   simp only[Option.some.injEq,Prod.mk.injEq,Nat.zero_add] at hc
   rw[←hc.1];exact hkey)) ?_
  refine k _ (M.set j' (i,y)) _ (λkv' hkv=> ?_) (hmem _) ⟨b,_,_,rfl,rfl,?_⟩
  ·rcases List.mem_or_eq_of_mem_set hkv with h|h
   ·exact .inr h
   ·exact .inl h
  ·refine List.ext_getElem? λp=> ?_
   have hA:=congrArg (λl=>l[p]?) he
   simp only[List.getElem?_map,Array.getElem?_toList] at hA
   simp only[List.getElem?_map,Array.getElem?_toList,Array.getElem?_modify,List.getElem?_set,Nat.zero_add]
   by_cases hp:j'=p
   ·subst hp
    rw[if_pos rfl,if_pos rfl,if_pos (by rw[←hlen];exact hjl)]
    have:j'<es.size:=by simpa using hjl
    simp[this]
   ·rw[if_neg hp,if_neg hp]
    exact hA
end
end Go.Sx

set_option maxRecDepth 100000
namespace Go.Proofs.YtjhajfcggfhbmaaDoor
open Go Go.Sx
open Go.Proofs.Tryd Go.Proofs.YtjhajfcggfhbmaaDoor.Tryd IntKind
variable {W w : World} {G : GH} {H : List Itm}
theorem hPl99 :BI prog 99:=isAgg99
theorem hPl54 :BI prog 54:=isAgg54
theorem l_slit0 {P:Program}{ops:Array Oper}{rest:List Oper}{n r:AQ}{x:List (Nat×AQ)}{a:Act}{w W:World}{N:Nat}{L:AZ}{d:Nat}{t:TypeId}{pos:String}{af:Array Edge}{G:GH}{H:List Itm}{α:Type}{R:Rep α}
  {tt u bytes:Nat} {z:Value} (m:Mem W G w H) (hu:SlT P u tt 1 bytes z) (f:Fr a N L) (hN:Nat.blt d N=true)
  (k:∀it v w' a',Mem W G w' (it::H)→Ow R tt G it v []→C8 v=false→Fr a' N ((d,v)::L)→wpList P ops (Qk n x r) rest a' w'):
  wpList P ops (Qk n x r) (⟨some d,.buildSlice u 0 #[],t,pos,af,none⟩::rest) a w:=by
 obtain⟨ti,hi1,hi2,hi3,hi4⟩:=hu.info
 have hr:(execOp a.eval ⟨some d,.buildSlice u 0 #[],t,pos,af,none⟩).run P w= .ok (.value (.slice (some ⟨w.heap.size,0,none⟩) 0 0)) (w.alloc (.cells #[] tt)):=by
  simp[execOp,Instr.buildSlice,run_underlying hu.und,sizeOf,typeInfo,hi1,newRow,Instr.fill,Array.range_zero']
 refine BA f Z Z hN hr (λa' f'=>k (.row (.slice (some ⟨w.heap.size,0,none⟩) 0 0) tt 1 ([]:List α).length []) _ _ a' ?_ ⟨[],Z,All2.nil _⟩ Z f')
 refine m.add Z Z Z (λq hq=>by first|exact heap_alloc_old w _ q hq|exact heap_alloc_old w _ hq) ⟨by simp,.inr ⟨w.heap.size,0,_,by simp,Nat.zero_le _,heap_alloc_new w _,by simp,by simp[maxLen],by simp,by simp⟩⟩ (λq hq=>by simp[Itm.foot,Value.ownBlock] at hq;omega)
abbrev C5 (b:Nat)(va vm:Value):Itm:=ib b 101 [va,vm]
abbrev cPtr (b:Nat):Value:= .pointer (some ⟨b,0,none⟩)
theorem OwMp.cells {β:Type}{q:IntKind}{enc:β→Value}{it:Itm}{v:Value}{M:List (Int×β)}(h:OwMp q enc it v M):v.cells= #[v]:=by
 obtain⟨b,es,clock,rfl,rfl,_⟩:=h;rfl
set_option maxHeartbeats 1000000 in
theorem Wk.f1 {bx:Nat}{va vm:Value}{cs:LI}{p u:Int}(hW:Bo W)(m:Mem W G w (C5 bx va vm::H))(h0:RSl (RI .u32) G va cs)(hd:D.M0 cs p=some u):
  Calls prog 100 #[cPtr bx,(.int .u32 p)] w (Res W G H (λ_ Ho v=>Ho=[C5 bx va vm]∧v= .int .u32 u)):=by
 refine Ar (args:=[cPtr bx,(.int .u32 p)]) (N:=26) [.tmp 4] func100 Z Z (lb Z) Z λa f=> ?_
 unfold D.M0 at hd
 have⟨us,hus,hd⟩:=bind_some hd
 refine Ae ?_
 refine Ac f Z λa f=>Av ?_
 refine Ac f Z λa f=>Aa (Af (Ae ?_))
 refine Ab f Z λa f=>AN f Z call91 (Wk.c hW m hus) λv1 G1 Ho1 w hl1 m hQ1 a f=> ?_
 obtain⟨vu,itu,rfl,rfl,ou⟩:=hQ1
 obtain⟨G2,hl2,m,hu⟩:=ou.stamp (RI.mono _) m
 have hle2:=gt hl1 hl2
 have h0:=rd1 hle2 h0
 refine Ba underlying71 f Z Z hu λa f=>Ab f Z λa f=>Aa ?_
 refine AG (λa w=>Fr a 26 [(5,(.int .u32 u))]∧Mem W G2 w (C5 bx va vm::H)) ?_ ?_
 ·refine Ak ?_
  refine AE (fun(s:Int×Int) a w=>Fr a 26 [(0,cPtr bx),(5,(.int .u32 s.1)),(9,vu),(10,(iv (us.length:Int))),(11,(iv s.2))]∧Mem W G2 w (C5 bx va vm::H)) hd ⟨f.k Z,m⟩ ?_
  clear hd f m
  rintro⟨out,i⟩ o hs hqq a w ⟨f,m⟩
  dsimp only at f
  unfold D.V0 at hs
  dsimp only at hs
  refine Ae ?_
  refine Ah f Z Z AI λa f=>Aa (Af ?_)
  rcases Ad hs with⟨hc2,hs⟩|⟨hc2,hs⟩
  ·refine Aj f Z hc2 ?_
   refine Al ?_
   have⟨v,hv,hs⟩:=bind_some hs
   have⟨c,hc,hs⟩:=bind_some hs
   obtain rfl:=sj hs
   refine Af (Ak (Ae ?_))
   refine BQ T71 f Z Z Z hu hv λp3 c3 a g3 h3 f=> ?_
   subst h3
   refine A7 m Pl3 f Z Z g3 λa f=>Ac f Z λa f=>Aa (An ?_)
   refine Ab f Z λa f=>Ab f Z λa f=>l_o f (AO (f.e Z)) λa f=>Bd underlying101 Z sizeOf54 f Z λa f=>Aw 0 0 m hPl54 f Z Z Z Z λa f=>Ab f Z λa f=>BQ T54 f Z Z Z h0 hc λp4 c4 a g4 h4 f=> ?_
   subst h4
   refine A7 m AS f Z Z g4 λa f=>Ah f Z Z b_or λa f=>Ac f Z λa f=>Aa (An ?_)
   refine Ah f Z Z As λa f=>Ab f Z λa f=>Aa ?_
   exact⟨_,Z,f.k Z,m⟩
  ·refine Ai f Z hc2 ?_
   refine AC Z ?_
   obtain rfl:=sj hs
   obtain rfl:=hqq _ rfl
   exact⟨f.k Z,m⟩
 ·clear hd f m
  rintro a w ⟨f,m⟩
  refine Ae ?_
  refine Ab f Z λa f=>Ac f Z λa f=>Aa ?_
  refine Ap ?_
  exact⟨[.int .u32 u],f.g Z,f.d,G2,[C5 bx va vm],hle2,m,Z,Z⟩
def GrowOk (W:World)(cs:LI)(n:Nat):Prop:=∀(w:World) (G:GH) (H:List Itm) (bx:Nat) (va vm:Value) (itM:Itm) (M:List (Int×Bool)) (p:Int) (y:Option LI) (m:Mem W G w (C5 bx va vm::itM::H)) (h0:RSl (RI .u32) G va cs) (oM:OwMp .u32 Value.bool itM vm M) (hc:ConsC cs M) (hd:D.e n cs p=some y),
 Calls prog 81 #[cPtr bx,(.int .u32 p)] w (Res W G H (λG' Ho v=>∃(it':Itm) (M':List (Int×Bool)) (itO:Itm),Ho=[itO,C5 bx va vm,it']∧OwMp .u32 Value.bool it' vm M'∧ConsC cs M'∧Ow R0 3 G' itO v (y.getD [])∧C8 v=y.isNone))
set_option maxHeartbeats 2000000 in
theorem Wk.k1 {W:World}(hW:Bo W){cs:LI}(n:Nat):GrowOk W cs n:=by
 induction n with
 |zero=>intro w G H bx va vm itM M p y m h0 oM hc hd;simp[D.e] at hd
 |succ n ih=>
  intro w G H bx va vm itM M p y m h0 oM hc hd
  have hd0:=hd
  refine Ar (args:=[cPtr bx,(.int .u32 p)]) (N:=72) [.tmp 4] func81 Z Z (lb Z) Z λa f=> ?_
  unfold D.e at hd
  have⟨all,ha,hd⟩:=bind_some hd
  refine Ae ?_
  refine Ac f Z λa f=>Av ?_
  refine Ab f Z λa f=>l_o f (AO (f.e Z)) λa f=>Bd underlying101 Z sizeOf54 f Z λa f=>Aw 0 0 m hPl54 f Z Z Z Z λa f=>Ba underlying54 f Z Z h0 λa f=>Bc f Z call94 (Wk.u m ha) λG1 w hl1 m a f=> ?_
  have h0:=rd1 hl1 h0
  refine Ac f Z λa f=>Aa (Af (Ae ?_))
  refine Ab f Z λa f=>Ab f Z λa f=>Ah f Z Z BU λa f=>Aa ?_
  rcases Ad hd with⟨hc1,hd⟩|⟨hc1,hd⟩
  ·obtain rfl:=sj hd
   refine Aj f Z hc1 ?_
   refine Ae ?_
   refine l_slit0 (R:=R0) m T71 f Z λit2 v2 w a m o2 hn2 f=>Ac f Z λa f=>Aa ?_
   refine Ap ?_
   exact⟨[v2],f.g Z,f.d,G1,[it2,C5 bx va vm,itM],hl1,m,_,_,_,Z,oM,hc,o2,hn2⟩
  ·refine Ai f Z hc1 ?_
   refine Al ?_
   refine Af (Ae ?_)
   refine Ab f Z λa f=>l_o f (AO (f.e Z)) λa f=>Bd underlying101 Z sizeOf99 f Z λa f=>Aw 0 1 m hPl99 f Z Z Z Z λa f=>Ab f Z λa f=>l_lookup 1 m oM Z underlying99 underlying75 zeroValue4 f Z Z Z λo ho a f=>Aa ?_
   have hval:∃b:Bool,(o.map Value.bool).getD (.bool false)= .bool b∧(b=true→o=some true):=by
    cases o with
    |none=>exact⟨false,rfl,λh=>by cases h⟩
    |some z=>exact⟨z,rfl,λh=>by rw[h]⟩
   obtain⟨b,hb,hbt⟩:=hval
   rw[hb] at f
   cases b with
   |true=>
    obtain⟨n',hn'⟩:=hc _ (ho true (hbt rfl)) rfl
    have hzy:none=y:=clGrowR_det hn' hd0
    subst hzy
    refine Aj f Z Z ?_
    refine Ae ?_
    refine Ac f Z λa f=>Aa ?_
    refine Ap ?_
    obtain⟨itN,m,oN⟩:=Ow.nil R0 3 m
    exact⟨[.slice none 0 0],f.g Z,f.d,G1,[itN,C5 bx va vm,itM],hl1,m,_,_,_,Z,oM,hc,oN,Z⟩
   |false=>
    refine Ai f Z Z ?_
    refine Al ?_
    have⟨ua,hua,hd⟩:=bind_some hd
    have⟨ub,hub,hd⟩:=bind_some hd
    have⟨us,hus,hd⟩:=bind_some hd
    refine Ae ?_
    refine Ab f Z λa f=>Ab f Z λa f=>AN f Z call100 (Wk.f1 hW m h0 hua) λv2 G2 Ho2 w hl2 m hQ2 a f=> ?_
    obtain⟨rfl,rfl⟩:=hQ2
    have h0:=rd1 hl2 h0
    refine Ab f Z λa f=>Ab f Z λa f=>Ab f Z λa f=>Ah f Z Z Cx λa f=>AN f Z call100 (Wk.f1 hW m h0 hub) λv3 G3 Ho3 w hl3 m hQ3 a f=> ?_
    obtain⟨rfl,rfl⟩:=hQ3
    have h0:=rd1 hl3 h0
    refine Ah f Z Z CH λa f=>Ac f Z λa f=>Aa (Af (Ae ?_))
    refine Ab f Z λa f=>Ab f Z λa f=>Ah f Z Z Cx λa f=>AN f Z call91 (Wk.c hW m hus) λv4 G4 Ho4 w hl4 m hQ4 a f=> ?_
    obtain⟨vu,itu,rfl,rfl,ou⟩:=hQ4
    obtain⟨G5,hl5,m,hu⟩:=ou.stamp (RI.mono _) m
    have h0:=rd1 (gt hl4 hl5) h0
    refine Ba underlying71 f Z Z hu λa f=>Ab f Z λa f=>Aa ?_
    have hle5:GLe G G5:=gt hl1 (gt hl2 (gt hl3 (gt hl4 hl5)))
    refine AG (λa w=>y=none∧∃(G':GH) (it':Itm) (M':List (Int×Bool)),GLe G5 G'∧Fr a 72 [(0,cPtr bx),(1,(.int .u32 p))]∧Mem W G' w (C5 bx va vm::it'::H)∧OwMp .u32 Value.bool it' vm M'∧ConsC cs M') ?_ ?_
    ·refine Ak ?_
     refine AE (fun(i:Int) a w=>∃(G':GH) (it':Itm) (M':List (Int×Bool)),GLe G5 G'∧Fr a 72 [(0,cPtr bx),(1,(.int .u32 p)),(6,(.int .u32 (iand .u32 ua ub))),(38,vu),(39,(iv (us.length:Int))),(40,(iv i))]∧Mem W G' w (C5 bx va vm::it'::H)∧OwMp .u32 Value.bool it' vm M'∧ConsC cs M') hd ⟨_,_,_,gr,f.k Z,m,oM,hc⟩ ?_
     clear hd f m oM hc ho
     rintro i o hs hqq a w ⟨G6,itM,M,hl6,f,m,oM,hc⟩
     have h0:=rd1 hl6 h0
     have hu:=rd1 hl6 hu
     unfold D.z at hs
     refine Ae ?_
     refine Ah f Z Z AI λa f=>Aa (Af ?_)
     rcases Ad hs with⟨hc2,hs⟩|⟨hc2,hs⟩
     ·refine Aj f Z hc2 ?_
      refine Al ?_
      have⟨v,hv,hs⟩:=bind_some hs
      have⟨c,hcc,hs⟩:=bind_some hs
      refine Af (Ak (Ae ?_))
      refine BQ T71 f Z Z Z hu hv λp7 c7 a g7 h7 f=> ?_
      subst h7
      refine A7 m Pl3 f Z Z g7 λa f=>Ac f Z λa f=>Aa (Af (Ae ?_))
      refine Ab f Z λa f=>Ab f Z λa f=>l_o f (AO (f.e Z)) λa f=>Bd underlying101 Z sizeOf54 f Z λa f=>Aw 0 0 m hPl54 f Z Z Z Z λa f=>Ab f Z λa f=>BQ T54 f Z Z Z h0 hcc λp8 c8 a g8 h8 f=> ?_
      subst h8
      refine A7 m AS f Z Z g8 λa f=>Ah f Z Z Cx λa f=>Ah f Z Z CJ λa f=>Aa ?_
      rcases Ad hs with⟨hc3,hs⟩|⟨hc3,hs⟩
      ·obtain rfl:=sj hs
       refine Aj f Z hc3 ?_
       refine AC Z ?_
       refine An ?_
       refine Ah f Z Z As λa f=>Ab f Z λa f=>Aa ?_
       exact⟨_,Z,G6,_,_,hl6,f.k Z,m,oM,hc⟩
      ·refine Ai f Z hc3 ?_
       refine Al ?_
       have⟨oo,hoo,hs⟩:=bind_some hs
       have⟨r,hr,hs⟩:=bind_some hs
       refine Ae ?_
       refine Ab f Z λa f=>Ab f Z λa f=>Ab f Z λa f=>Bc f Z call74 (Wk.b m hoo) λG9 w hl9 m a f=> ?_
       have h0:=rd1 hl9 h0
       refine Ah f Z Z b_or λa f=>AN f Z call81 (ih _ _ _ _ _ _ _ _ _ _ m h0 oM hc hr) λvr G10 Ho10 w hl10 m hQ10 a f=> ?_
       obtain⟨itM,M,itO,rfl,oM,hc,oO,hnO⟩:=hQ10
       have hle10:GLe G5 G10:=gt hl6 (gt hl9 hl10)
       refine Ac f Z λa f=>Av ?_
       refine Ab f Z λa f=>l_o f (r_nil_neq (f.e Z) (f.e Z) (Ow.hdr 0 m oO Z) underlying71 hnO) λa f=>Aa ?_
       cases r with
       |none=>
        obtain rfl:=sj hs
        refine Ai f Z Z ?_
        refine Al ?_
        refine An ?_
        refine Ah f Z Z As λa f=>Ab f Z λa f=>Aa ?_
        exact⟨_,Z,G10,_,_,hle10,f.k Z,m.tail,oM,hc⟩
       |some rest=>
        have⟨l,hl,hs⟩:=bind_some hs
        obtain rfl:=sj hs
        obtain rfl:=hqq _ rfl
        refine Aj f Z Z ?_
        refine Ae ?_
        refine Ab f Z λa f=>B2 (R:=R0) (xs:=([v]:LI)) (RI.one _) m T71 f Z Z Z (by decide) (All2.cons Z (All2.nil _)) λit11 v11 w a m o11 f=>Ab f Z λa f=>B7 (RI.one _) 0 m o11 Z T71 Z (by decide) f Z Z Z (Ow.src (j:=1) oO m Z) hl λit12 v12 w a m o12 f=>Ac f Z λa f=>Aa ?_
        refine Ap ?_
        have m:=m.eraseAt 1
        have hne:nonE l=some ():=by
         unfold AH at hl
         split at hl
         ·obtain rfl:=sj hl;rfl
         ·cases hl
        have hemp:l.isEmpty=false:=by
         cases l with
         |nil=>simp[nonE] at hne
         |cons x t=>rfl
        exact⟨[v12],f.g Z,f.d,G10,[it12,C5 bx va vm,itM],gt hle5 hle10,m,_,_,_,Z,oM,hc,o12,(Ow.notNil 0 m o12 Z hne).trans hemp⟩
     ·refine Ai f Z hc2 ?_
      refine AC Z ?_
      obtain rfl:=sj hs
      obtain rfl:=hqq _ rfl
      exact⟨Z,G6,_,_,hl6,f.k Z,m,oM,hc⟩
    ·clear hd f m oM hc ho
     rintro a w ⟨rfl,G6,itM,M,hl6,f,m,oM,hc⟩
     refine Ae ?_
     refine Ab f Z λa f=>l_o f (AO (f.e Z)) λa f=>Bd underlying101 Z sizeOf99 f Z λa f=>Aw 0 1 m hPl99 f Z Z Z Z λa f=>Ab f Z λa f=>l_mapUpdate (enc:=Value.bool) (y:=true) 1 m oM Z underlying99 underlying75 f Z Z Z λit' M' w hM' m oM=>Av ?_
     refine Ac f Z λa f=>Aa ?_
     refine Ap ?_
     obtain⟨itN,m,oN⟩:=Ow.nil R0 3 m
     exact⟨[.slice none 0 0],f.g Z,f.d,G6,[itN,C5 bx va vm,it'],gt hle5 hl6,m,_,_,_,Z,oM,λkv hkv hkt=>by
      rcases hM' kv hkv with rfl|h
      ·exact⟨n+1,hd0⟩
      ·exact hc kv h hkt,oN,Z⟩
set_option maxHeartbeats 1000000 in
theorem Wk.F {v0:Value}{x0:LI}(hW:Bo W)(m:Mem W G w (H))(h0:RSl (RI .u32) G v0 x0){y:LI×LI}(hd:D.F x0=some y):
  Calls prog 46 #[v0] w (Res W G H (λG' Ho v=>∃r0:Value,∃i0:Itm,∃r1:Value,Ho=[i0]∧v= .tuple #[r0,r1]∧Ow R0 3 G' i0 r0 y.1∧C8 r0=y.1.isEmpty∧RSl (RI .u32) G' r1 y.2)):=by
 refine Ar (args:=[v0]) (N:=18) [.tmp 2,.tmp 3] func46 Z Z (lb Z) Z λa f=> ?_
 unfold D.F at hd
 have⟨po,hp,hd⟩:=bind_some hd
 refine Ae ?_
 refine Ac f Z λa f=>Ac f Z λa f=>Aa (Af (Ae ?_))
 refine Ab f Z λa f=>AN f Z call79 (Wk.E hW m h0 hp) λv1 G1 Ho1 w hl1 m hQ1 a f=> ?_
 obtain⟨vp,itp,rfl,rfl,op,hnp⟩:=hQ1
 have h0:=rd1 hl1 h0
 refine l_o f (Ef (f.e Z) (f.e Z) (Ow.hdr 0 m op Z) underlying71 hnp) λa f=>Aa ?_
 have m:Mem W G1 w H:=m.tail
 rcases Ad hd with⟨hc1,hd⟩|⟨hc1,hd⟩
 ·obtain rfl:=sj hd
  refine Aj f Z hc1 ?_
  refine Ae ?_
  refine Ac f Z λa f=>Ac f Z λa f=>Aa ?_
  refine Ap ?_
  obtain⟨itC,m,oC⟩:=Ow.nil (RI .u32) 75 m
  obtain⟨G2,hl2,m,hC⟩:=oC.stamp (RI.mono _) m
  obtain⟨itN,m,oN⟩:=Ow.nil R0 3 m
  exact⟨[.slice none 0 0,.slice none 0 0],⟨f.get _ _ Z,f.get _ _ Z,trivial⟩,f.d,G2,[itN],gt hl1 hl2,m,_,_,_,Z,Z,oN,Z,hC⟩
 ·refine Ai f Z hc1 ?_
  refine Al ?_
  have⟨cs,hcs,hd⟩:=bind_some hd
  have⟨r,hr,hd⟩:=bind_some hd
  refine Ae ?_
  refine Ab f Z λa f=>AN f Z call80 (Wk.t hW m h0 hcs) λv2 G2 Ho2 w hl2 m hQ2 a f=> ?_
  obtain⟨vc,itc,rfl,rfl,oc⟩:=hQ2
  obtain⟨G3,hl3,m,hC⟩:=oc.stamp (RI.mono _) m
  refine Ac f Z λa f=>Av ?_
  refine Ab f Z λa f=>l_makeMap .u32 Value.bool m f Z λitM vm w a m oM f=> ?_
  have hb:∀w,(Instr.build 101 #[(0,vc),(1,vm)]).run prog w= .ok (.agg #[vc,vm]) w:=by intro w;simp[Instr.build,Instr.fill,hC.cells,OwMp.cells oM,Ci]
  refine CO f Z Z hb λa f=>BG (cs:=[vc,vm]) m f Z Z Z λbx w a m f=>Ac f Z λa f=>Av ?_
  refine Ab f Z λa f=>AN f Z call81 (Wk.k1 hW Bv _ _ _ _ _ _ _ _ _ _ m hC oM (λkv hkv=>by simp at hkv) hr) λvr G4 Ho4 w hl4 m hQ4 a f=> ?_
  obtain⟨itM',M',itO,rfl,oM',_,oO,hnO⟩:=hQ4
  have m:Mem W G4 w (itO::H):=(m.eraseAt 1).eraseAt 1
  have hC:=rd1 hl4 hC
  refine Ab f Z λa f=>Ac f Z λa f=>Ac f Z λa f=>Aa ?_
  refine Ap ?_
  have hle:GLe G G4:=gt hl1 (gt hl2 (gt hl3 hl4))
  cases r with
  |none=>
   obtain rfl:=sj hd
   exact⟨[vr,vc],⟨f.get _ _ Z,f.get _ _ Z,trivial⟩,f.d,G4,[itO],hle,m,_,_,_,Z,Z,oO,hnO,hC⟩
  |some l=>
   have⟨un,hun,hd⟩:=bind_some hd
   obtain rfl:=sj hd
   exact⟨[vr,vc],⟨f.get _ _ Z,f.get _ _ Z,trivial⟩,f.d,G4,[itO],hle,m,_,_,_,Z,Z,oO,Ow.notNil 0 m oO Z hun,hC⟩
end Go.Proofs.YtjhajfcggfhbmaaDoor

set_option maxRecDepth 100000
namespace Go.Proofs.YtjhajfcggfhbmaaDoor
open Go Go.Sx
open Go.Proofs.Tryd Go.Proofs.YtjhajfcggfhbmaaDoor.Tryd IntKind
variable {W w : World} {G : GH} {H : List Itm}
theorem Wk.c0 {aa:Value}{ab:LL}(hW:Bo W)(m:Mem W G w (H))(ac:R2 G aa ab){y:(LI)×Bool}(hd:D.c0 ab=some y):
  Calls prog 45 #[(.agg #[aa])] w (Res W G H (λG' Ho v=>∃r0:Value,∃i0:Itm,Ho=[i0]∧v= .tuple #[r0,(.bool y.2)]∧Ow R0 2 G' i0 r0 y.1)):=by
 refine Ar (args:=[(.agg #[aa])]) (N:=19) [.tmp 2,.tmp 3] func45 Z Z (lb Z) Z λa f=> ?_
 unfold D.c0 at hd
 refine Ae ?_
 refine BG (cs:=[aa]) m f Z Z Z λad w a m f=>Ac f Z λa f=>Ac f Z λa f=>Aa (Af (Ae ?_))
 refine A4 0 0 (ds:=[aa]) m BB f Z Z Z Z Z λa f=> ?_
 have⟨ae,af,hd⟩:=bind_some hd
 refine Bc f Z call30 (Wk.f m ac af) λag w ah m a f=> ?_
 have ac:=rd2 ah ac
 refine l_o f (Bt (f.e Z)) λa f=>Aa ?_
 rcases Ad hd with⟨ai,hd⟩|⟨ai,hd⟩
 ·refine Aj f Z ai ?_
  refine Ae ?_
  refine Ac f Z λa f=>Ac f Z λa f=>Aa ?_
  refine Ap ?_
  obtain⟨aj,m,ak⟩:=Ow.nil R0 2 m
  have m:=m.eraseAt 1
  obtain rfl:=sj hd
  exact⟨[sn,(.bool false)],⟨f.get _ _ Z,f.get _ _ Z,trivial⟩,f.d,_,[aj],ah,m,_,_,Z,Z,ak⟩
 ·refine Ai f Z ai ?_
  refine Al ?_
  refine Ae ?_
  refine A4 0 0 (ds:=[aa]) m BB f Z Z Z Z Z λa f=> ?_
  have⟨al,am,hd⟩:=bind_some hd
  refine AN f Z call33 (Wk.n m ac am) λan ao ap w aq m ar a f=> ?_
  obtain⟨au,av,rfl,rfl,aw⟩:=ar
  obtain⟨ax,ay,m,az⟩:=Ow.stamp (RI.mono _) aw m
  have⟨aA,aB,hd⟩:=bind_some hd
  refine AN f Z call46 (Wk.F hW m az aB) λaC aD aE w aF m aG a f=> ?_
  obtain⟨aH,aI,aJ,rfl,rfl,aK,aL,aM⟩:=aG
  refine Ab f Z λa f=>l_o f (A6 (f.e Z) Z) λa f=>l_o f (A6 (f.e Z) Z) λa f=>Ac f Z λa f=>Ac f Z λa f=>Aa (Af (Ae ?_))
  refine Ab f Z λa f=>l_o f (Ef (f.e Z) (f.e Z) (Ow.hdr 0 m aK Z) underlying71 aL) λa f=>Aa ?_
  rcases Ad hd with⟨aN,hd⟩|⟨aN,hd⟩
  ·refine Aj f Z aN ?_
   refine Ae ?_
   refine Ac f Z λa f=>Ac f Z λa f=>Aa ?_
   refine Ap ?_
   obtain⟨aO,m,aP⟩:=Ow.nil R0 2 m
   have m:=m.eraseAt 2
   have m:=m.eraseAt 1
   obtain rfl:=sj hd
   exact⟨[sn,(.bool false)],⟨f.get _ _ Z,f.get _ _ Z,trivial⟩,f.d,_,[aO],(gt ah (gt aq (gt ay aF))),m,_,_,Z,Z,aP⟩
  ·refine Ai f Z aN ?_
   refine Al ?_
   refine Ae ?_
   refine Ab f Z λa f=> ?_
   have⟨aQ,aR,hd⟩:=bind_some hd
   refine AN f Z call78 (Ow.lendCall (RI.mono _) 0 aK m Z (λaS aT m aU=>Wk.J m aU aR) (λ_ G' _ _ ⟨a0,a1,e1,e2,o0⟩=>⟨a0,a1,e1,e2,Ow.free (RI.free _) G' o0⟩)) λaV aW aX w aY m aZ a f=> ?_
   obtain⟨a2,a3,rfl,rfl,a4⟩:=aZ
   refine Ac f Z λa f=>Ac f Z λa f=>Aa ?_
   refine Ap ?_
   have m:=m.eraseAt 2
   have m:=m.eraseAt 1
   obtain rfl:=sj hd
   exact⟨[a2,(.bool true)],⟨f.get _ _ Z,f.get _ _ Z,trivial⟩,f.d,_,[a3],(gt ah (gt aq (gt ay (gt aF aY)))),m,_,_,Z,Z,a4⟩
theorem Wk.M {aa:Value}{ab:LL}(hW:Bo W)(m:Mem W G w (H))(ac:R2 G aa ab){y:Bool}(hd:D.M ab=some y):
  Calls prog 20 #[(.agg #[aa])] w (Res W G H (λ_ Ho v=>Ho=[]∧v=(.bool y))):=by
 refine Ar (args:=[(.agg #[aa])]) (N:=11) [.tmp 2] func20 Z Z (lb Z) Z λa f=> ?_
 unfold D.M at hd
 refine Ae ?_
 refine BG (cs:=[aa]) m f Z Z Z λad w a m f=>Ac f Z λa f=>Av ?_
 refine A4 0 0 (ds:=[aa]) m BB f Z Z Z Z Z λa f=> ?_
 have⟨ae,af,hd⟩:=bind_some hd
 refine AN f Z call45 (Wk.c0 hW m ac af) λag ah ai w aj m ak a f=> ?_
 obtain⟨al,am,rfl,rfl,an⟩:=ak
 refine Ab f Z λa f=>l_o f (A6 (f.e Z) Z) λa f=>l_o f (A6 (f.e Z) Z) λa f=>Ac f Z λa f=>Ac f Z λa f=>Av ?_
 refine Ab f Z λa f=>Ac f Z λa f=>Aa ?_
 refine Ap ?_
 have m:Mem W ah w H:=Mem.drop (H':=[am,ib ad 27 [aa]]) m
 obtain rfl:=sj hd
 exact⟨[(.bool ae.2)],f.g Z,f.d,_,[],aj,m,Z,Z⟩
theorem Wk.v {x0 x1:Int}(m:Mem W G w (H)){y:Bool}(hd:D.v x0 x1=some y):
  Calls prog 47 #[(.int .u32 x0),(iv x1)] w (Res W G H (λ_ Ho v=>Ho=[]∧v=(.bool y))):=by
 refine Ar (args:=[(.int .u32 x0),(iv x1)]) (N:=10) [.tmp 4] func47 Z Z (lb Z) Z λa f=> ?_
 unfold D.v at hd
 refine Ae ?_
 refine Ac f Z λa f=>Av ?_
 refine Ab f Z λa f=>Ab f Z λa f=> ?_
 obtain⟨aa,hd⟩:=CN hd
 refine l_o f (r_shr (f.e Z) (f.e Z) aa) λa f=>Ah f Z Z CH λa f=>Ah f Z Z BU λa f=>Ac f Z λa f=>Aa ?_
 refine Ap ?_
 obtain rfl:=sj hd
 exact⟨[(.bool ((iand .u32 (Bq .u32 x0 x1) 1)==1))],f.g Z,f.d,_,[],gr,m,Z,Z⟩
theorem Wk.Y {aa:Value}{ab:LL}(hW:Bo W)(m:Mem W G w (H))(ac:R2 G aa ab){y:((List (Int×Int)))×Bool}(hd:D.Y ab=some y):
  Calls prog 21 #[(.agg #[aa])] w (Res W G H (λG' Ho v=>∃r0:Value,∃i0:Itm,Ho=[i0]∧v= .tuple #[r0,(.bool y.2)]∧OwR P2 42 G' i0 r0 y.1)):=by
 refine Ar (args:=[(.agg #[aa])]) (N:=58) [.tmp 2,.tmp 3] func21 Z Z (lb Z) Z λa f=> ?_
 unfold D.Y at hd
 refine Ae ?_
 refine BG (cs:=[aa]) m f Z Z Z λad w a m f=>Ac f Z λa f=>Ac f Z λa f=>Aa (Af (Ae ?_))
 refine A4 0 0 (ds:=[aa]) m BB f Z Z Z Z Z λa f=> ?_
 have⟨ae,af,hd⟩:=bind_some hd
 refine Bc f Z call30 (Wk.f m ac af) λag w ah m a f=> ?_
 have ac:=rd2 ah ac
 refine l_o f (Bt (f.e Z)) λa f=>Aa ?_
 rcases Ad hd with⟨ai,hd⟩|⟨ai,hd⟩
 ·refine Aj f Z ai ?_
  refine Ae ?_
  refine Ac f Z λa f=>Ac f Z λa f=>Aa ?_
  refine Ap ?_
  obtain⟨aj,m,ak⟩:=OwR.nil P2 42 m
  have m:=m.eraseAt 1
  obtain rfl:=sj hd
  exact⟨[sn,(.bool false)],⟨f.get _ _ Z,f.get _ _ Z,trivial⟩,f.d,_,[aj],ah,m,_,_,Z,Z,ak⟩
 ·refine Ai f Z ai ?_
  refine Al ?_
  refine Ae ?_
  refine A4 0 0 (ds:=[aa]) m BB f Z Z Z Z Z λa f=> ?_
  have⟨al,am,hd⟩:=bind_some hd
  refine AN f Z call33 (Wk.n m ac am) λan ao ap w aq m ar a f=> ?_
  obtain⟨au,av,rfl,rfl,aw⟩:=ar
  have ac:=rd2 aq ac
  obtain⟨ax,ay,m,az⟩:=Ow.stamp (RI.mono _) aw m
  have ac:=rd2 ay ac
  have⟨aA,aB,hd⟩:=bind_some hd
  refine AN f Z call46 (Wk.F hW m az aB) λaC aD aE w aF m aG a f=> ?_
  obtain⟨aH,aI,aJ,rfl,rfl,aK,aL,aM⟩:=aG
  have ac:=rd2 aF ac
  refine Ab f Z λa f=>l_o f (A6 (f.e Z) Z) λa f=>l_o f (A6 (f.e Z) Z) λa f=>Ac f Z λa f=>Ac f Z λa f=>Aa (Af (Ae ?_))
  refine Ab f Z λa f=>l_o f (Ef (f.e Z) (f.e Z) (Ow.hdr 0 m aK Z) underlying71 aL) λa f=>Aa ?_
  rcases Ad hd with⟨aN,hd⟩|⟨aN,hd⟩
  ·refine Aj f Z aN ?_
   refine Ae ?_
   refine Ac f Z λa f=>Ac f Z λa f=>Aa ?_
   refine Ap ?_
   obtain⟨aO,m,aP⟩:=OwR.nil P2 42 m
   have m:=m.eraseAt 2
   have m:=m.eraseAt 1
   obtain rfl:=sj hd
   exact⟨[sn,(.bool false)],⟨f.get _ _ Z,f.get _ _ Z,trivial⟩,f.d,_,[aO],(gt ah (gt aq (gt ay aF))),m,_,_,Z,Z,aP⟩
  ·refine Ai f Z aN ?_
   refine Al ?_
   refine Ae ?_
   refine l_slitR0 (E:=P2) m T39 f Z λaQ aR w a m aS f=>Ac f Z λa f=>Aa (Af (Ae ?_))
   refine Bd underlying27 Z sizeOf22 f Z λa f=>Aw 2 0 m B8 f Z Z Z Z λa f=>Ba underlying22 f Z Z ac λa f=>Ab f Z λa f=>Aa ?_
   have⟨aT,aU,hd⟩:=bind_some hd
   refine AG (λa w=>∃aV:List (Int×Int),aV=aT∧∃(aW:GH) (aX:Value) (aY:Itm),GLe aD aW∧Fr a 58 [(6,aX)]∧Mem W aW w (aY::H)∧OwR P2 42 aW aY aX aV) ?_ ?_
   ·refine Ak ?_
    have m:=m.fr 1
    have m:=m.eraseAt 2
    refine AE (λaZ a w=>∃a0:List (Int×Int),∃a1:Int,(a0,a1)=aZ∧∃(a2:GH) (a3:Value) (a4:Itm),GLe aD a2∧Fr a 58 [(4,aH),(5,aJ),(6,a3),(25,(iv (ab.length:Int))),(26,(iv a1))]∧Mem W a2 w (aI::a4::H)∧OwR P2 42 a2 a4 a3 a0) aU ⟨_,_,Z,_,aR,aQ,gr,f.k Z,m,aS⟩ ?_
    clear aU f m
    rintro aZ a5 a6 a7 a w ⟨a0,a1,rfl,a2,a3,a4,a8,f,m,a9⟩
    have aM:=rd1 a8 aM
    have aK:=od1 a8 aK
    refine Ae ?_
    refine Ah f Z Z AI λa f=>Aa (Af ?_)
    rcases Ad a6 with⟨ba,a6⟩|⟨ba,a6⟩
    ·refine Aj f Z ba ?_
     refine Al ?_
     refine Af (Ak (Ae ?_))
     refine Ab f Z λa f=>Ac f Z λa f=>Av ?_
     have bb:∀w,(Instr.build 42 #[(0,(iv (-1)))]).run prog w= .ok (.agg #[(iv (-1)),(iv 0)]) w:=by intro w;simp[Instr.build,Instr.fill,Cw,Ck,BZ,B6,BV,Ci]
     refine CO f Z Z bb λa f=>BN (cs:=[(iv 0),(iv 0)]) zeroValue42 m f Z Z λbc w a m f=>AP 0 0 (ds:=[(iv (-1)),(iv 0)]) m sizeOf42 f Z Z Z (AR Z (AR Z A5)) Z (lb Z) Z λw m=>Aa (Af (Ae ?_))
     refine Ab f Z λa f=>Dd 1 m aK Z underlying71 f Z Z λa f=>Ab f Z λa f=>Aa ?_
     have⟨bd,be,a6⟩:=bind_some a6
     refine AG (λa w=>∃bf:Int,∃bg:Int,(bf,bg)=bd∧∃(bh:GH),GLe a2 bh∧Fr a 58 [(4,aH),(5,aJ),(6,a3),(8,(pb bc)),(25,(iv (ab.length:Int))),(26,(iv a1))]∧Mem W bh w (ib bc 42 [(iv bf),(iv bg)]::aI::a4::H)) ?_ ?_
     ·refine Ak ?_
      refine AE (λbi a w=>∃bj:Int,∃bk:Int,∃bl:Int,(bj,bk,bl)=bi∧∃(bm:GH),GLe a2 bm∧Fr a 58 [(4,aH),(5,aJ),(6,a3),(7,(iv a1)),(8,(pb bc)),(25,(iv (ab.length:Int))),(26,(iv a1)),(30,aH),(31,(iv (aA.1.length:Int))),(32,(iv bj))]∧Mem W bm w (ib bc 42 [(iv bk),(iv bl)]::aI::a4::H)) be ⟨_,_,_,Z,_,gr,f.k Z,m⟩ ?_
      clear be f m
      rintro bi bn bo bp a w ⟨bj,bk,bl,rfl,bm,bq,f,m⟩
      have aM:=rd1 bq aM
      have aK:=od1 bq aK
      refine Ae ?_
      refine Ah f Z Z AI λa f=>Aa (Af ?_)
      rcases Ad bo with⟨br,bo⟩|⟨br,bo⟩
      ·refine Aj f Z br ?_
       refine Al ?_
       refine Af (Ak (Ae ?_))
       refine Ab f Z λa f=> ?_
       have⟨bs,bt,bo⟩:=bind_some bo
       refine Br 1 m aK Z T71 f Z Z Z bt λbu a bv f=>Dm 1 m aK Z Pl3 f Z Z bv bt λbw a bx f=> ?_
       subst bx
       refine Ac f Z λa f=>Ac f Z λa f=>Aa (Af (Ae ?_))
       refine Ab f Z λa f=>Ab f Z λa f=> ?_
       have⟨bz,bA,bo⟩:=bind_some bo
       refine BQ T54 f Z Z Z aM bA λbB bC a bD bE f=> ?_
       subst bE
       refine A7 m AS f Z Z bD λa f=>Ab f Z λa f=> ?_
       have⟨bF,bG,bo⟩:=bind_some bo
       refine Bc f Z call47 (Wk.v m bG) λbH w bI m a f=>l_o f (Bt (f.e Z)) λa f=>Aa ?_
       rcases Ad bo with⟨bJ,bo⟩|⟨bJ,bo⟩
       ·refine Aj f Z bJ ?_
        refine AC Z ?_
        refine An ?_
        refine Ah f Z Z As λa f=>Ab f Z λa f=>Aa ?_
        obtain rfl:=sj bo
        exact⟨_,Z,_,_,_,Z,_,(gt bq bI),f.k Z,m⟩
       ·refine Ai f Z bJ ?_
        refine Al ?_
        refine Af (Ae ?_)
        refine Bd underlying42 Z sizeOf2 f Z λa f=>Aw 0 0 m Pl2 f Z Z Z Z λa f=>Ah f Z Z AI λa f=>Aa ?_
        rcases Ad bo with⟨bK,bo⟩|⟨bK,bo⟩
        ·refine Aj f Z bK ?_
         refine An ?_
         refine Ab f Z λa f=>Bd underlying42 Z sizeOf2 f Z λa f=>AP 0 0 (ds:=[(iv bj)]) m sizeOf2 f Z Z Z (AR Z A5) Z (lb Z) Z λw m=>Aa (An ?_)
         refine Ab f Z λa f=>Bd underlying42 Z sizeOf2 f Z λa f=>AP 0 1 (ds:=[(iv bj)]) m sizeOf2 f Z Z Z (AR Z A5) Z (lb Z) Z λw m=>Aa (An ?_)
         refine Ah f Z Z As λa f=>Ab f Z λa f=>Aa ?_
         obtain rfl:=sj bo
         exact⟨_,Z,_,_,_,Z,_,(gt bq bI),f.k Z,m⟩
        ·refine Ai f Z bK ?_
         refine Al ?_
         refine An ?_
         refine Ab f Z λa f=>Bd underlying42 Z sizeOf2 f Z λa f=>AP 0 1 (ds:=[(iv bj)]) m sizeOf2 f Z Z Z (AR Z A5) Z (lb Z) Z λw m=>Aa (An ?_)
         refine Ah f Z Z As λa f=>Ab f Z λa f=>Aa ?_
         obtain rfl:=sj bo
         exact⟨_,Z,_,_,_,Z,_,(gt bq bI),f.k Z,m⟩
      ·refine Ai f Z br ?_
       refine AC Z ?_
       obtain rfl:=sj bo
       obtain rfl:=bp _ rfl
       exact⟨_,_,Z,_,bq,f.k Z,m⟩
     ·rintro a w ⟨bf,bg,rfl,bh,bL,f,m⟩
      have a9:=OwR.mono trivial bL a9
      refine An ?_
      refine Ab f Z λa f=>A4 0 0 (ds:=[(iv bf),(iv bg)]) m Ag42 f Z Z Z Z Z λa f=>l_slitR (E:=P2) (y:=(bf,bg)) (cs:=[(iv bf),(iv bg)]) m T39 f Z Z Z (lb Z) λbM bN w a m bO f=> ?_
      have⟨bP,bQ,a6⟩:=bind_some a6
      refine Em (E:=P2) (z:= .agg #[(iv 0),(iv 0)]) 3 0 m a9 Z bO Z (by simp) T39 Z (by decide) f Z Z Z bQ λbR bS w a m bT f=>Ac f Z λa f=>Aa (An ?_)
      refine Ah f Z Z As λa f=>Ab f Z λa f=>Aa ?_
      have m:=m.fr 3
      have m:=m.fr 3
      have m:Mem W bh w (aI::bR::bM::H):=m.eraseAt 3
      have m:=m.eraseAt 2
      obtain rfl:=sj a6
      exact⟨_,Z,_,_,Z,_,bS,bR,(gt a8 bL),f.k Z,m,bT⟩
    ·refine Ai f Z ba ?_
     refine AC Z ?_
     have m:=m.fr 1
     have m:=m.eraseAt 1
     obtain rfl:=sj a6
     obtain rfl:=a7 _ rfl
     exact⟨_,Z,_,a3,a4,a8,f.k Z,m,a9⟩
   ·rintro a w ⟨aV,rfl,aW,aX,aY,bU,f,m,bV⟩
    refine Ae ?_
    refine Ab f Z λa f=>Ac f Z λa f=>Ac f Z λa f=>Aa ?_
    refine Ap ?_
    obtain rfl:=sj hd
    exact⟨[aX,(.bool true)],⟨f.get _ _ Z,f.get _ _ Z,trivial⟩,f.d,_,[aY],(gt ah (gt aq (gt ay (gt aF bU)))),m,_,_,Z,Z,bV⟩
theorem Wk.l0 {v0 v1:Value}{x0 x1:LL}(m:Mem W G w (H))(h0:R2 G v0 x0)(h1:R2 G v1 x1){y:Bool}(hd:D.l0 x0 x1=some y):
  Calls prog 82 #[v0,v1,(.func (.func 83) #[] #[])] w (Res W G H (λ_ Ho v=>Ho=[]∧v=(.bool y))):=by
 refine Ar (args:=[v0,v1,(.func (.func 83) #[] #[])]) (N:=32) [.tmp 6] func82 Z Z (lb Z) Z λa f=> ?_
 unfold D.l0 at hd
 refine Ae ?_
 refine Ac f Z λa f=>Aa (Af (Ae ?_))
 refine Ab f Z λa f=>Ba underlying22 f Z Z h0 λa f=>Ab f Z λa f=>Ba underlying22 f Z Z h1 λa f=>Ah f Z Z CJ λa f=>Aa ?_
 rcases Ad hd with⟨aa,hd⟩|⟨aa,hd⟩
 ·refine Aj f Z aa ?_
  refine Ae ?_
  refine Ac f Z λa f=>Aa ?_
  refine Ap ?_
  obtain rfl:=sj hd
  exact⟨[(.bool false)],f.g Z,f.d,_,[],gr,m,Z,Z⟩
 ·refine Ai f Z aa ?_
  refine Al ?_
  refine Af (Ae ?_)
  refine Ab f Z λa f=>Ba underlying22 f Z Z h0 λa f=>Ab f Z λa f=>Aa ?_
  have⟨ab,ac,hd⟩:=bind_some hd
  refine AG (λa w=>∃q_46':Unit,ab= .inl q_46'∧∃(ad:GH),GLe G ad∧Fr a 32 []∧Mem W ad w (H)) ?_ ?_
  ·refine Ak ?_
   refine AE (λae a w=>∃af:Int,af=ae∧∃(ag:GH),GLe G ag∧Fr a 32 [(1,v1),(2,(.func (.func 83) #[] #[])),(15,v0),(16,(iv (x0.length:Int))),(17,(iv af))]∧Mem W ag w (H)) ac ⟨_,Z,_,gr,f.k Z,m⟩ ?_
   clear ac f m
   rintro ae ah ai aj a w ⟨af,rfl,ag,ak,f,m⟩
   have h1:=rd2 ak h1
   have h0:=rd2 ak h0
   refine Ae ?_
   refine Ah f Z Z AI λa f=>Aa (Af ?_)
   rcases Ad ai with⟨al,ai⟩|⟨al,ai⟩
   ·refine Aj f Z al ?_
    refine Al ?_
    refine Af (Ak (Ae ?_))
    refine Ab f Z λa f=> ?_
    have⟨am,an,ai⟩:=bind_some ai
    refine BQ T22 f Z Z Z h0 an λao ap a aq ar f=>A7 m C6 f Z Z aq λa f=>Ac f Z λa f=>Ac f Z λa f=>Av ?_
    refine Ab f Z λa f=>Ab f Z λa f=> ?_
    have⟨au,av,ai⟩:=bind_some ai
    refine BQ T22 f Z Z Z h1 av λaw ax a ay az f=>A7 m C6 f Z Z ay λa f=>Ac f Z λa f=>Av ?_
    refine Ab f Z λa f=>Ab f Z λa f=>Ab f Z λa f=> ?_
    have⟨aA,aB,ai⟩:=bind_some ai
    refine l_resv0 f Z Z Z call83 (Wk.q0 m ar az aB) λaC aD aE w aF m aG a f=> ?_
    obtain⟨rfl,rfl⟩:=aG
    refine l_o f (Bt (f.e Z)) λa f=>Aa ?_
    rcases Ad ai with⟨aH,ai⟩|⟨aH,ai⟩
    ·refine Aj f Z aH ?_
     refine Ae ?_
     refine Ac f Z λa f=>Aa ?_
     refine Ap ?_
     obtain rfl:=sj ai
     obtain rfl:=aj _ rfl
     obtain rfl:=sj hd
     exact⟨[(.bool false)],f.g Z,f.d,_,[],(gt ak aF),m,Z,Z⟩
    ·refine Ai f Z aH ?_
     refine Al ?_
     refine An ?_
     refine Ah f Z Z As λa f=>Ab f Z λa f=>Aa ?_
     obtain rfl:=sj ai
     exact⟨_,Z,_,Z,_,(gt ak aF),f.k Z,m⟩
   ·refine Ai f Z al ?_
    refine AC Z ?_
    obtain rfl:=sj ai
    obtain rfl:=aj _ rfl
    exact⟨_,Z,_,ak,f.weak trivial,m⟩
  ·rintro a w ⟨_,rfl,ad,aI,f,m⟩
   refine Ae ?_
   refine Ac f Z λa f=>Aa ?_
   refine Ap ?_
   obtain rfl:=sj hd
   exact⟨[(.bool true)],f.g Z,f.d,_,[],aI,m,Z,Z⟩
theorem Wk.p0 {aa ab:Value}{ac ad:LL}(m:Mem W G w (H))(ae:R2 G aa ac)(af:R2 G ab ad){y:Bool}(hd:D.p0 ac ad=some y):
  Calls prog 48 #[(.agg #[aa]),(.agg #[ab])] w (Res W G H (λ_ Ho v=>Ho=[]∧v=(.bool y))):=by
 refine Ar (args:=[(.agg #[aa]),(.agg #[ab])]) (N:=18) [.tmp 4] func48 Z Z (lb Z) Z λa f=> ?_
 unfold D.p0 at hd
 refine Ae ?_
 refine BG (cs:=[aa]) m f Z Z Z λag w a m f=>BG (cs:=[ab]) m f Z Z Z λah w a m f=>Ac f Z λa f=>Av ?_
 refine A4 1 0 (ds:=[aa]) m BB f Z Z Z Z Z λa f=> ?_
 have⟨ai,aj,hd⟩:=bind_some hd
 refine Bc f Z call30 (Wk.f m ae aj) λak w al m a f=> ?_
 have ae:=rd2 al ae
 have af:=rd2 al af
 refine Ab f Z λa f=> ?_
 have⟨am,an,hd⟩:=bind_some hd
 refine Bx 3 (λa w=>∃ao,GLe ak ao∧Mem W ao w (ib ah 27 [ab]::ib ag 27 [aa]::H)∧Fr a 18 [(0,(.agg #[aa])),(1,(.agg #[ab])),(2,(pb ag)),(3,(pb ah)),(5,(.agg #[aa])),(6,(.bool ai)),(7,(.bool ai)),(10,(.bool am))]) ?_ ?_
 ·rcases Ad an with⟨ap,an⟩|⟨ap,an⟩
  ·refine Ax f ap ?_
   refine A4 0 0 (ds:=[ab]) m BB f Z Z Z Z Z λa f=>Ax f ap ?_
   have⟨aq,ar,an⟩:=bind_some an
   refine Bc f Z call30 (Wk.f m af ar) λau w av m a f=>l_o f (AK (f.e Z) ap (f.e Z)) λa f=> ?_
   obtain rfl:=sj an
   exact⟨_,av,m,f.k Z⟩
  ·refine Az f ap λa f=> ?_
   refine Az f ap λa f=>l_o f (AJ (f.e Z) ap (f.e Z)) λa f=> ?_
   obtain rfl:=sj an
   exact⟨_,gr,m,f.k Z⟩
 ·rintro a w ⟨ao,aw,m,f⟩
  have ae:=rd2 aw ae
  have af:=rd2 aw af
  refine Ab f Z λa f=> ?_
  have⟨ax,ay,hd⟩:=bind_some hd
  refine Bx 6 (λa w=>∃az,GLe ao az∧Mem W az w (ib ah 27 [ab]::ib ag 27 [aa]::H)∧Fr a 18 [(0,(.agg #[aa])),(1,(.agg #[ab])),(2,(pb ag)),(3,(pb ah)),(5,(.agg #[aa])),(6,(.bool ai)),(7,(.bool ai)),(10,(.bool am)),(11,(.bool am)),(17,(.bool ax))]) ?_ ?_
  ·rcases Ad ay with⟨aA,ay⟩|⟨aA,ay⟩
   ·refine Ax f aA ?_
    refine Bd underlying27 Z sizeOf22 f Z λa f=>Ax f aA ?_
    refine Aw 1 0 m B8 f Z Z Z Z λa f=>Ax f aA ?_
    refine Bd underlying27 Z sizeOf22 f Z λa f=>Ax f aA ?_
    refine Aw 0 0 m B8 f Z Z Z Z λa f=>Ax f aA ?_
    have⟨aB,aC,ay⟩:=bind_some ay
    refine Bc f Z call82 (Wk.l0 m ae af aC) λaD w aE m a f=>l_o f (AK (f.e Z) aA (f.e Z)) λa f=> ?_
    obtain rfl:=sj ay
    exact⟨_,aE,m,f.k Z⟩
   ·refine Az f aA λa f=> ?_
    refine Az f aA λa f=>Az f aA λa f=>Az f aA λa f=>Az f aA λa f=>l_o f (AJ (f.e Z) aA (f.e Z)) λa f=> ?_
    obtain rfl:=sj ay
    exact⟨_,gr,m,f.k Z⟩
  ·rintro a w ⟨az,aF,m,f⟩
   refine Ac f Z λa f=>Aa ?_
   refine Ap ?_
   have m:Mem W az w H:=Mem.drop (H':=[ib ah 27 [ab],ib ag 27 [aa]]) m
   obtain rfl:=sj hd
   exact⟨[(.bool ax)],f.g Z,f.d,_,[],(gt al (gt aw aF)),m,Z,Z⟩
theorem Wk.r0 {aa v1:Value}{ab:LL}{x1:(List (Int×Int))}(hW:Bo W)(m:Mem W G w (H))(ac:R2 G aa ab)(h1:RSr P2 G v1 x1){y:Bool}(hd:D.r0 ab x1=some y):
  Calls prog 22 #[(.agg #[aa]),v1] w (Res W G H (λ_ Ho v=>Ho=[]∧v=(.bool y))):=by
 refine Ar (args:=[(.agg #[aa]),v1]) (N:=18) [.tmp 4] func22 Z Z (lb Z) Z λa f=> ?_
 unfold D.r0 at hd
 refine Ae ?_
 refine BG (cs:=[aa]) m f Z Z Z λad w a m f=>Ac f Z λa f=>Av ?_
 refine Ab f Z λa f=> ?_
 have⟨ae,af,hd⟩:=bind_some hd
 refine AN f Z call18 (Wk.h hW m h1 af) λag ah ai w aj m ak a f=> ?_
 obtain⟨al,am,rfl,rfl,an⟩:=ak
 have ac:=rd2 aj ac
 refine Ab f Z λa f=>l_o f (A6 (f.e Z) Z) λa f=>l_o f (A6 (f.e Z) Z) λa f=>BN (cs:=[sn]) zeroValue27 m f Z Z λao w a m f=>AP 0 0 (ds:=[al]) m sizeOf27 f Z Z Z (AR (Ow.one1 1 m an Z) A5) Z (lb Z) Z λw m=>Ac f Z λa f=>Av ?_
 refine Ab f Z λa f=>Ab f Z λa f=> ?_
 have⟨ap,aq,hd⟩:=bind_some hd
 refine Bx 4 (λa w=>∃ar,GLe ah ar∧Mem W ar w (ib ao 27 [al]::am::ib ad 27 [aa]::H)∧Fr a 18 [(0,(.agg #[aa])),(1,v1),(2,(pb ad)),(5,(pb ao)),(6,(.bool ae.2)),(12,(.bool ae.2)),(13,(.bool ae.2)),(17,(.bool ap))]) ?_ ?_
 ·rcases Ad aq with⟨au,aq⟩|⟨au,aq⟩
  ·refine Ax f au ?_
   refine A4 2 0 (ds:=[aa]) m BB f Z Z Z Z Z λa f=>Ax f au ?_
   refine A4 0 0 (ds:=[al]) m BB f Z Z Z Z Z λa f=>Ax f au ?_
   have⟨av,aw,aq⟩:=bind_some aq
   refine AN f Z call48 (Ow.lendCall (RSl.mono (RI.mono _)) 1 an m Z (λax ay m az=>Wk.p0 m (rd2 ay ac) az aw) (λ_ _ _ _ h=>h)) λaA aB aC w aD m aE a f=> ?_
   obtain⟨rfl,rfl⟩:=aE
   refine l_o f (AK (f.e Z) au (f.e Z)) λa f=> ?_
   obtain rfl:=sj aq
   exact⟨_,aD,m,f.k Z⟩
  ·refine Az f au λa f=> ?_
   refine Az f au λa f=>Az f au λa f=>l_o f (AJ (f.e Z) au (f.e Z)) λa f=> ?_
   obtain rfl:=sj aq
   exact⟨_,gr,m,f.k Z⟩
 ·rintro a w ⟨ar,aF,m,f⟩
  refine Ac f Z λa f=>Aa ?_
  refine Ap ?_
  have m:Mem W ar w H:=Mem.drop (H':=[ib ao 27 [al],am,ib ad 27 [aa]]) m
  obtain rfl:=sj hd
  exact⟨[(.bool ap)],f.g Z,f.d,_,[],(gt aj aF),m,Z,Z⟩
end Go.Proofs.YtjhajfcggfhbmaaDoor

set_option maxRecDepth 100000
namespace Go.Proofs.YtjhajfcggfhbmaaDoor
open Go Go.Sx
open Go.Proofs.Tryd Go.Proofs.YtjhajfcggfhbmaaDoor.Tryd IntKind
variable {W w : World} {G : GH} {H : List Itm}
theorem hT56 :SlT prog 56 75 1 4 (.int .u32 0):=⟨underlying56,Tryd.t75,by kernel_rfl,by kernel_rfl,by kernel_rfl,by kernel_rfl⟩
theorem hPl56 :BI prog 56:=isAgg56
set_option maxHeartbeats 1000000 in
theorem Wk.m1 {W:World}{σ:Type}{f0:Int→σ→Option (Bool×σ)}{its:σ→List Itm}{g:FuncId}{cs:List Value}{G0:GH}
  (hg:∀(ars:Array Value) (w:World),(callFunc g ars).run prog w= .ok (.enter g ars) w)
  (hcl:∀(w:World) (G:GH) (H:List Itm) (c:Int) (s:σ) (y:Bool×σ),GLe G0 G→Mem W G w (its s++H)→f0 c s=some y→Calls prog g ((.int .u32 c)::cs).toArray w (Res W G H (λ_ Ho v=>Ho=its y.2∧v= .bool y.1))) (n:Nat):
  ∀(w:World) (G:GH) (H:List Itm) (nn frm many chosen:Int) (s:σ) (y:Bool×σ),GLe G0 G→Mem W G w (its s++H)→D.s f0 n nn frm many chosen s=some y→
   Calls prog 84 #[(iv nn),(iv frm),(iv many),(.int .u32 chosen),(.func (.func g) #[] cs.toArray)] w (Res W G H (λ_ Ho v=>Ho=its y.2∧v= .bool y.1)):=by
 induction n with
 |zero=>intro w G H nn frm many chosen s y h0 m hd;simp[D.s] at hd
 |succ n ih=>
  intro w G H nn frm many chosen s y h0 m hd
  refine Ar (args:=[(iv nn),(iv frm),(iv many),(.int .u32 chosen),(.func (.func g) #[] cs.toArray)]) (N:=36) [.tmp 10] func84 Z Z (lb Z) Z λa f=> ?_
  unfold D.s at hd
  refine Ae ?_
  refine Ac f Z λa f=>Aa (Af (Ae ?_))
  refine Ab f Z λa f=>Ah f Z Z BU λa f=>Aa ?_
  rcases Ad hd with⟨hc1,hd⟩|⟨hc1,hd⟩
  ·refine Aj f Z hc1 ?_
   refine Ae ?_
   refine Ab f Z λa f=>Ab f Z λa f=>l_resv0 f Z Z Z hg (hcl _ _ _ _ _ _ h0 m hd) λv1 G1 Ho1 w hl1 m hQ1 a f=> ?_
   obtain⟨rfl,rfl⟩:=hQ1
   refine Ac f Z λa f=>Aa ?_
   refine Ap ?_
   exact⟨[.bool y.1],f.g Z,f.d,G1,its y.2,hl1,m,Z,Z⟩
  ·refine Ai f Z hc1 ?_
   refine Al ?_
   refine Af (Ae ?_)
   refine Ab f Z λa f=>Ac f Z λa f=>Aa ?_
   refine AG (λa w=>∃(G':GH),GLe G G'∧y.1=false∧Fr a 36 []∧Mem W G' w (its y.2++H)) ?_ ?_
   ·refine Ak ?_
    refine AE (fun(q:σ×Int) a w=>∃(G':GH),GLe G G'∧Fr a 36 [(0,(iv nn)),(2,(iv many)),(3,(.int .u32 chosen)),(4,(.func (.func g) #[] cs.toArray)),(11,(iv q.2))]∧Mem W G' w (its q.1++H)) hd ⟨_,gr,f.k Z,m⟩ ?_
    clear hd f m
    rintro⟨s,v⟩ o hs hqq a w ⟨G1,hl1,f,m⟩
    dsimp only at f m
    unfold D.k0 at hs
    dsimp only at hs
    refine Af (Ae ?_)
    refine Ab f Z λa f=>Ab f Z λa f=>Ah f Z Z As λa f=>Ab f Z λa f=>Ah f Z Z BT λa f=>Aa ?_
    rcases Ad hs with⟨hc2,hs⟩|⟨hc2,hs⟩
    ·refine Aj f Z hc2 ?_
     refine Al ?_
     have⟨oo,ho,hs⟩:=bind_some hs
     have⟨r,hr,hs⟩:=bind_some hs
     refine Af (Ak (Ae ?_))
     refine Ab f Z λa f=>Ab f Z λa f=>Ah f Z Z As λa f=>Ab f Z λa f=>Ah f Z Z AT λa f=>Ab f Z λa f=>Ab f Z λa f=>Bc f Z call74 (Wk.b m ho) λG2 w hl2 m a f=>Ah f Z Z b_or λa f=>Ab f Z λa f=>AN f Z call84 (ih _ _ _ _ _ _ _ _ _ (gt h0 (gt hl1 hl2)) m hr) λv3 G3 Ho3 w hl3 m hQ3 a f=> ?_
     obtain⟨rfl,rfl⟩:=hQ3
     refine Aa ?_
     have hle:GLe G G3:=gt hl1 (gt hl2 hl3)
     rcases Ad hs with⟨hc3,hs⟩|⟨hc3,hs⟩
     ·refine Aj f Z hc3 ?_
      obtain rfl:=sj hs
      obtain rfl:=hqq _ rfl
      refine Ae ?_
      refine Ac f Z λa f=>Aa ?_
      refine Ap ?_
      exact⟨[.bool true],f.g Z,f.d,G3,its r.2,hle,m,Z,Z⟩
     ·refine Ai f Z hc3 ?_
      obtain rfl:=sj hs
      refine Al ?_
      refine An ?_
      refine Ab f Z λa f=>Ah f Z Z As λa f=>Ac f Z λa f=>Aa ?_
      exact⟨_,Z,G3,hle,f.k Z,m⟩
    ·refine Ai f Z hc2 ?_
     refine AC Z ?_
     obtain rfl:=sj hs
     obtain rfl:=hqq _ rfl
     exact⟨G1,hl1,Z,f.weak trivial,m⟩
   ·clear hd f m
    rintro a w ⟨G1,hl1,hy,f,m⟩
    refine Ae ?_
    refine Ac f Z λa f=>Aa ?_
    refine Ap ?_
    exact⟨[.bool false],f.g Z,f.d,G1,its y.2,hl1,m,Z,congrArg Value.bool hy.symm⟩
abbrev clIts (bf bn ba:Nat)(near:Int)(v0:Value)(s:Int):List Itm:=[ib bf 75 [(.int .u32 s)],ib bn 75 [(.int .u32 near)],ib ba 56 [v0]]
theorem Wk.n1 {W:World}(hW:Bo W){F:LI}{v0:Value}{bf bn ba:Nat}{near:Int}{G0:GH}(h0:RSl (RI .u32) G0 v0 F)(w:World)(G:GH)(H:List Itm)(c s:Int)(y:Bool×Int)(hG:GLe G0 G)
  (m:Mem W G w (clIts bf bn ba near v0 s++H)) (hd:D.A0 F near c s=some y):
  Calls prog 85 ((.int .u32 c)::[(pb bf),(pb bn),(pb ba)]).toArray w (Res W G H (λ_ Ho v=>Ho=clIts bf bn ba near v0 y.2∧v= .bool y.1)):=by
 refine Ar (args:=[(.int .u32 c),(pb bf),(pb bn),(pb ba)]) (N:=17) [.tmp 5] func85 Z Z (lb Z) Z λa f=> ?_
 unfold D.A0 at hd
 have h0:=rd1 hG h0
 refine Ae ?_
 refine Ac f Z λa f=>Av ?_
 refine Ab f Z λa f=>AP 0 0 (ds:=[(.int .u32 c)]) m sizeOf75 f Z Z Z (AR Z A5) Z (lb Z) Z λw m=>Av ?_
 refine Ab f Z λa f=>Aw 1 0 m AS f Z Z Z Z λa f=>Ah f Z Z Cx λa f=>Ah f Z Z BU λa f=>Ab f Z λa f=> ?_
 have⟨b,hb,hd⟩:=bind_some hd
 obtain rfl:=sj hd
 rcases Ad hb with⟨hc1,hb⟩|⟨hc1,hb⟩
 ·have⟨k,hk,hb⟩:=bind_some hb
  obtain rfl:=sj hb
  refine Ax f hc1 ?_
  refine Aw 2 0 m hPl56 f Z Z Z Z λa f=>Ax f hc1 ?_
  refine Ab f Z λa f=>Ax f hc1 ?_
  refine Bc f Z call86 (Wk.r hW m h0 hk) λG1 w hl1 m a f=>Ax f hc1 ?_
  refine Ah f Z Z BU λa f=>l_o f (AK (f.e Z) hc1 (f.e Z)) λa f=>Ac f Z λa f=>Aa ?_
  refine Ap ?_
  exact⟨[.bool (k==3)],f.g Z,f.d,G1,clIts bf bn ba near v0 c,hl1,m,Z,Z⟩
 ·obtain rfl:=sj hb
  refine Az f hc1 λa f=>Az f hc1 λa f=>Az f hc1 λa f=>Az f hc1 λa f=>l_o f (AJ (f.e Z) hc1 (f.e Z)) λa f=>Ac f Z λa f=>Aa ?_
  refine Ap ?_
  exact⟨[.bool false],f.g Z,f.d,G,clIts bf bn ba near v0 c,gr,m,Z,Z⟩
set_option maxHeartbeats 1000000 in
theorem Wk.L {aa:Value}{ab:LL}(hW:Bo W)(m:Mem W G w (H))(ac:R2 G aa ab){y:LI×Bool}(hd:D.L ab=some y):
  Calls prog 49 #[(.agg #[aa])] w (Res W G H (λG' Ho v=>∃r0:Value,∃i0:Itm,Ho=[i0]∧v= .tuple #[r0,(.bool y.2)]∧Ow R0 2 G' i0 r0 y.1)):=by
 refine Ar (args:=[(.agg #[aa])]) (N:=30) [.tmp 2,.tmp 3] func49 Z Z (lb Z) Z λa f=> ?_
 unfold D.L at hd
 refine Ae ?_
 refine BG (cs:=[aa]) m f Z Z Z λbg w a m f=>Ac f Z λa f=>Ac f Z λa f=>Aa (Af (Ae ?_))
 refine A4 0 0 (ds:=[aa]) m BB f Z Z Z Z Z λa f=> ?_
 have⟨b,hb,hd⟩:=bind_some hd
 refine Bc f Z call30 (Wk.f m ac hb) λG1 w hl1 m a f=> ?_
 have ac:=rd2 hl1 ac
 refine l_o f (Bt (f.e Z)) λa f=>Aa ?_
 rcases Ad hd with⟨hc1,hd⟩|⟨hc1,hd⟩
 ·obtain rfl:=sj hd
  refine Aj f Z hc1 ?_
  refine Ae ?_
  refine Ac f Z λa f=>Ac f Z λa f=>Aa ?_
  refine Ap ?_
  have m:Mem W G1 w H:=Mem.drop (H':=[ib bg 27 [aa]]) m
  obtain⟨itN,m,oN⟩:=Ow.nil R0 2 m
  exact⟨[.slice none 0 0,.bool false],⟨f.get _ _ Z,f.get _ _ Z,trivial⟩,f.d,G1,[itN],hl1,m,_,_,Z,Z,oN⟩
 ·refine Ai f Z hc1 ?_
  refine Al ?_
  have⟨F,hF,hd⟩:=bind_some hd
  refine Ae ?_
  refine A4 0 0 (ds:=[aa]) m BB f Z Z Z Z Z λa f=>AN f Z call33 (Wk.n m ac hF) λv2 G2 Ho2 w hl2 m hQ2 a f=> ?_
  obtain⟨vF,itF,rfl,rfl,oF⟩:=hQ2
  obtain⟨G3,hl3,m,hA⟩:=oF.stamp (RI.mono _) m
  refine BN (cs:=[sn]) zeroValue56 m f Z Z λba w a m f=>AP 0 0 (ds:=[vF]) m sizeOf56 f Z Z hA.cells (AR hA.one1 A5) Z (lb Z) Z λw m=>Aa (Af (Ae ?_))
  refine Aw 0 0 m hPl56 f Z Z Z Z λa f=>Ba underlying56 f Z Z hA λa f=>Ab f Z λa f=>Aa ?_
  have hle3:GLe G G3:=gt hl1 (gt hl2 hl3)
  refine AG (λa w=>y=([],false)∧∃(G':GH),GLe G3 G'∧Fr a 30 []∧Mem W G' w (ib ba 56 [vF]::ib bg 27 [aa]::H)) ?_ ?_
  ·refine Ak ?_
   refine AE (fun(i:Int) a w=>∃(G':GH),GLe G3 G'∧Fr a 30 [(4,(pb ba)),(13,vF),(14,(iv (F.length:Int))),(15,(iv i))]∧Mem W G' w (ib ba 56 [vF]::ib bg 27 [aa]::H)) hd ⟨_,gr,f.k Z,m⟩ ?_
   clear hd f m
   rintro i o hs hqq a w ⟨G4,hl4,f,m⟩
   have hA:=rd1 hl4 hA
   unfold D.P0 at hs
   refine Ae ?_
   refine Ah f Z Z AI λa f=>Aa (Af ?_)
   rcases Ad hs with⟨hc2,hs⟩|⟨hc2,hs⟩
   ·refine Aj f Z hc2 ?_
    refine Al ?_
    have⟨near,hn,hs⟩:=bind_some hs
    have⟨r,hr,hs⟩:=bind_some hs
    refine Af (Ak (Ae ?_))
    refine Ab f Z λa f=>BQ hT56 f Z Z Z hA hn λp5 c5 a g5 h5 f=> ?_
    subst h5
    refine A7 m AS f Z Z g5 λa f=>BN (cs:=[(.int .u32 0)]) zeroValue75 m f Z Z λbn w a m f=>Ac f Z λa f=>AP 0 0 (ds:=[(.int .u32 near)]) m sizeOf75 f Z Z Z (AR Z A5) Z (lb Z) Z λw m=>Av ?_
    refine BN (cs:=[(.int .u32 0)]) zeroValue75 m f Z Z λbf w a m f=>AP 0 0 (ds:=[(.int .u32 0)]) m sizeOf75 f Z Z Z (AR Z A5) Z (lb Z) Z λw m=>Av ?_
    refine Aw 2 0 m hPl56 f Z Z Z Z λa f=>Ba underlying56 f Z Z hA λa f=>l_makeFunc (vs:=[]) (us:=[(pb bf),(pb bn),(pb ba)]) f Z Z Z λa f=>AN f Z call84 (Wk.m1 (its:=clIts bf bn ba near vF) call85 (Wk.n1 hW hA) Bv _ _ _ _ _ _ _ _ _ gr m hr) λv6 G6 Ho6 w hl6 m hQ6 a f=> ?_
    obtain⟨rfl,rfl⟩:=hQ6
    refine Aa ?_
    rcases Ad hs with⟨hc3,hs⟩|⟨hc3,hs⟩
    ·refine Aj f Z hc3 ?_
     have⟨l,hl,hs⟩:=bind_some hs
     have⟨o2,ho2,hs⟩:=bind_some hs
     obtain rfl:=sj hs
     obtain rfl:=hqq _ rfl
     refine Ae ?_
     refine Ab f Z λa f=>B2 (R:=R0) (xs:=([i]:LI)) (RI.one _) m T49 f Z Z Z (by decide) (All2.cons Z (All2.nil _)) λit7 v7 w a m o7 f=>Aw 1 0 m AS f Z Z Z Z λa f=>AN f Z call66 (Wk.x hW m hl) λv8 G8 Ho8 w hl8 m hQ8 a f=> ?_
     obtain⟨vl,itl,rfl,rfl,ol⟩:=hQ8
     have o7:=od1 hl8 o7
     refine B7 (RI.one _) 1 m o7 Z T49 Z (by decide) f Z Z Z (Ow.src (j:=0) ol m Z) ho2 λit9 v9 w a m o9 f=>Ac f Z λa f=>Ac f Z λa f=>Aa ?_
     refine Ap ?_
     have m:Mem W G8 w (it9::H):=((((m.tail.eraseAt 1).eraseAt 1).eraseAt 1).eraseAt 1)
     exact⟨[v9,.bool true],⟨f.get _ _ Z,f.get _ _ Z,trivial⟩,f.d,G8,[it9],gt hle3 (gt hl4 (gt hl6 hl8)),m,_,_,Z,Z,o9⟩
    ·refine Ai f Z hc3 ?_
     obtain rfl:=sj hs
     refine Al ?_
     refine An ?_
     refine Ah f Z Z As λa f=>Ab f Z λa f=>Aa ?_
     exact⟨_,Z,G6,gt hl4 hl6,f.k Z,m.tail.tail⟩
   ·refine Ai f Z hc2 ?_
    refine AC Z ?_
    obtain rfl:=sj hs
    obtain rfl:=hqq _ rfl
    exact⟨Z,G4,hl4,f.weak trivial,m⟩
  ·clear hd f m
   rintro a w ⟨rfl,G4,hl4,f,m⟩
   refine Ae ?_
   refine Ac f Z λa f=>Ac f Z λa f=>Aa ?_
   refine Ap ?_
   have m:Mem W G4 w H:=m.tail.tail
   obtain⟨itN,m,oN⟩:=Ow.nil R0 2 m
   exact⟨[.slice none 0 0,.bool false],⟨f.get _ _ Z,f.get _ _ Z,trivial⟩,f.d,G4,[itN],gt hle3 hl4,m,_,_,Z,Z,oN⟩
end Go.Proofs.YtjhajfcggfhbmaaDoor

set_option maxRecDepth 100000
namespace Go.Proofs.YtjhajfcggfhbmaaDoor
open Go Go.Sx
open Go.Proofs.Tryd Go.Proofs.YtjhajfcggfhbmaaDoor.Tryd IntKind
variable {W w : World} {G : GH} {H : List Itm}
theorem Wk.n0 {aa:Value}{ab:LL}(hW:Bo W)(m:Mem W G w (H))(ac:R2 G aa ab){y:Bool}(hd:D.n0 ab=some y):
  Calls prog 23 #[(.agg #[aa])] w (Res W G H (λ_ Ho v=>Ho=[]∧v=(.bool y))):=by
 refine Ar (args:=[(.agg #[aa])]) (N:=16) [.tmp 2] func23 Z Z (lb Z) Z λa f=> ?_
 unfold D.n0 at hd
 refine Ae ?_
 refine BG (cs:=[aa]) m f Z Z Z λad w a m f=>Ac f Z λa f=>Av ?_
 refine A4 0 0 (ds:=[aa]) m BB f Z Z Z Z Z λa f=> ?_
 have⟨ae,af,hd⟩:=bind_some hd
 refine AN f Z call49 (Wk.L hW m ac af) λag ah ai w aj m ak a f=> ?_
 obtain⟨al,am,rfl,rfl,an⟩:=ak
 have ac:=rd2 aj ac
 refine Ab f Z λa f=>l_o f (A6 (f.e Z) Z) λa f=>l_o f (A6 (f.e Z) Z) λa f=>Ac f Z λa f=>Ac f Z λa f=>Av ?_
 refine A4 1 0 (ds:=[aa]) m BB f Z Z Z Z Z λa f=> ?_
 have⟨ao,ap,hd⟩:=bind_some hd
 refine Bc f Z call20 (Wk.M hW m ac ap) λaq w ar m a f=>Ab f Z λa f=> ?_
 refine Bx 3 (λa w=>∃au,GLe aq au∧Mem W au w (am::ib ad 27 [aa]::H)∧Fr a 16 [(0,(.agg #[aa])),(1,(pb ad)),(3,al),(4,(.bool ae.2)),(10,(.agg #[aa])),(11,(.bool ao)),(12,(.bool ao)),(15,(.bool (ao&&(!ae.2))))]) ?_ ?_
 ·rcases Bool.eq_false_or_eq_true ao with av|av
  ·refine Ax f av ?_
   refine Ab f Z λa f=>Ax f av ?_
   refine l_o f (Bt (f.e Z)) λa f=>l_o f (AK (f.e Z) av (f.e Z)) λa f=> ?_
   exact⟨_,gr,m,f.weak ⟨Z,Z,Z,Z,Z,Z,Z,by rw[av];rfl,trivial⟩⟩
  ·refine Az f av λa f=> ?_
   refine Az f av λa f=>l_o f (AJ (f.e Z) av (f.e Z)) λa f=> ?_
   exact⟨_,gr,m,f.weak ⟨Z,Z,Z,Z,Z,Z,Z,by rw[av];rfl,trivial⟩⟩
 ·rintro a w ⟨au,aw,m,f⟩
  refine Ac f Z λa f=>Aa ?_
  refine Ap ?_
  have m:Mem W au w H:=Mem.drop (H':=[am,ib ad 27 [aa]]) m
  obtain rfl:=sj hd
  exact⟨[(.bool (ao&&(!ae.2)))],f.g Z,f.d,_,[],(gt aj (gt ar aw)),m,Z,Z⟩
set_option maxHeartbeats 1000000 in
theorem Wk.T0 {v0:Value}{x0:LI}(hW:Bo W)(m:Mem W G w (H))(h0:RSl (RI .u8) G v0 x0){y:Bool}(hd:D.T0 x0=some y):
  Calls prog 4 #[v0] w (Res W G H (λ_ Ho v=>Ho=[]∧v=(.bool y))):=by
 refine Ar (args:=[v0]) (N:=85) [.tmp 2] func4 Z Z (lb Z) Z λa f=> ?_
 unfold D.T0 at hd
 refine Ae ?_
 refine Ac f Z λa f=>Aa (Af (Ae ?_))
 refine Ab f Z λa f=> ?_
 have⟨aa,ab,hd⟩:=bind_some hd
 refine Bc f Z call15 (Wk.B0 m h0 ab) λac w ad m a f=> ?_
 have h0:=rd1 ad h0
 refine Aa ?_
 rcases Ad hd with⟨ae,hd⟩|⟨ae,hd⟩
 ·refine Aj f Z ae ?_
  refine Ae ?_
  refine Ac f Z λa f=>Aa ?_
  refine Ap ?_
  obtain rfl:=sj hd
  exact⟨[(.bool true)],f.g Z,f.d,_,[],ad,m,Z,Z⟩
 ·refine Ai f Z ae ?_
  refine Al ?_
  refine Ae ?_
  refine Ab f Z λa f=> ?_
  have⟨af,ag,hd⟩:=bind_some hd
  refine AN f Z call16 (Wk.i0 m h0 ag) λah ai aj w ak m al a f=> ?_
  obtain⟨am,an,rfl,rfl,ao⟩:=al
  refine Ac f Z λa f=>Av ?_
  refine l_slitR0 (E:=P2) m T39 f Z λap aq w a m ar f=>Ac f Z λa f=>Av ?_
  refine Ab f Z λa f=> ?_
  have m:=m.fr 1
  have⟨au,av,hd⟩:=bind_some hd
  refine AN f Z call17 (Wk.k m ao av) λaw ax ay w az m aA a f=> ?_
  obtain⟨aB,rfl,rfl,aC⟩:=aA
  have ar:=OwR.mono trivial az ar
  refine Ah f Z Z BU λa f=>Ac f Z λa f=>Aa (Af (Ae ?_))
  refine Ab f Z λa f=> ?_
  have⟨aD,aE,hd⟩:=bind_some hd
  refine AN f Z call17 (Wk.k m aC aE) λaF aG aH w aI m aJ a f=> ?_
  obtain⟨aK,rfl,rfl,aL⟩:=aJ
  have ar:=OwR.mono trivial aI ar
  refine Ah f Z Z As λa f=>Ac f Z λa f=>Aa ?_
  have⟨aM,aN,hd⟩:=bind_some hd
  refine AG (λa w=>∃aO:List (Int×Int),aO=aM∧∃(aP:GH) (aQ:Value) (aR:Itm),GLe aG aP∧Fr a 85 [(4,aQ),(5,(.bool (au.1==0)))]∧Mem W aP w (aR::H)∧OwR P2 42 aP aR aQ aO) ?_ ?_
  ·refine Ak ?_
   refine AE (λaS a w=>∃aT:List (Int×Int),∃aU:Int,∃aV:LI,∃aW:Int,∃aX:Int,(aT,aU,aV,aW,aX)=aS∧∃(aY:GH) (aZ:Value) (a2:Itm) (a3:Value),GLe aG aY∧Fr a 85 [(3,(pb an)),(4,aZ),(5,(.bool (au.1==0))),(6,(iv aU))]∧Mem W aY w (ib an 61 [a3,(iv aW),(.int .u64 aX)]::a2::H)∧OwR P2 42 aY a2 aZ aT∧RSl (RI .u8) aY a3 aV) aN ⟨_,_,_,_,_,Z,_,aq,ap,aK,gr,f.k Z,m,ar,aL⟩ ?_
   clear aN f m
   rintro aS a4 a5 a6 a w ⟨aT,aU,aV,aW,aX,rfl,aY,aZ,a2,a3,a7,f,m,a8,a9⟩
   refine Af (Ae ?_)
   refine Ab f Z λa f=>Ah f Z Z CC λa f=>Aa ?_
   rcases Ad a5 with⟨ba,a5⟩|⟨ba,a5⟩
   ·refine Aj f Z ba ?_
    refine Al ?_
    refine Af (Ak (Ae ?_))
    refine Ab f Z λa f=> ?_
    have⟨bb,bc,a5⟩:=bind_some a5
    refine AN f Z call17 (Wk.k m a9 bc) λbd be bf w bg m bh a f=> ?_
    obtain⟨bi,rfl,rfl,bj⟩:=bh
    have a8:=OwR.mono trivial bg a8
    refine Ac f Z λa f=>Av ?_
    refine Ab f Z λa f=>Ab f Z λa f=> ?_
    have⟨bk,bl,a5⟩:=bind_some a5
    refine AN f Z call17 (Wk.k m bj bl) λbm bn bo w bp m bq a f=> ?_
    obtain⟨br,rfl,rfl,bs⟩:=bq
    have a8:=OwR.mono trivial bp a8
    refine Ah f Z Z As λa f=>Ac f Z λa f=>Aa (Af (Ae ?_))
    refine Ab f Z λa f=>Aa ?_
    rcases Ad a5 with⟨bt,a5⟩|⟨bt,a5⟩
    ·refine Aj f Z bt ?_
     refine An ?_
     refine Ab f Z λa f=>Ah f Z Z As λa f=>Ac f Z λa f=>Aa (An ?_)
     refine Ab f Z λa f=>Ab f Z λa f=>Ab f Z λa f=> ?_
     have bu:∀w,(Instr.build 42 #[(0,(iv bb.1)),(1,(iv (i64.wrap (bb.1+2))))]).run prog w= .ok (.agg #[(iv bb.1),(iv (i64.wrap (bb.1+2)))]) w:=by intro w;simp[Instr.build,Instr.fill,Cw,Ck,BZ,B6,BV,Ci]
     refine CO f Z Z bu λa f=>l_slitR (E:=P2) (y:=(bb.1,(i64.wrap (bb.1+2)))) (cs:=[(iv bb.1),(iv (i64.wrap (bb.1+2)))]) m T39 f Z Z Z (lb Z) λbv bw w a m bx f=> ?_
     have⟨bz,bA,a5⟩:=bind_some a5
     refine Em (E:=P2) (z:= .agg #[(iv 0),(iv 0)]) 2 0 m a8 Z bx Z (by simp) T39 Z (by decide) f Z Z Z bA λbB bC w a m bD f=>Ac f Z λa f=>Aa (An ?_)
     refine Ab f Z λa f=>Ah f Z Z AT λa f=>Ac f Z λa f=>Aa ?_
     have m:=m.fr 2
     have m:=m.fr 2
     have m:Mem W bn w (ib an 61 [br,(iv bk.2.2.1),(.int .u64 bk.2.2.2)]::bB::H):=m.eraseAt 2
     obtain rfl:=sj a5
     exact⟨_,Z,_,_,_,_,_,Z,_,bC,bB,br,(gt a7 (gt bg bp)),f.k Z,m,bD,bs⟩
    ·refine Ai f Z bt ?_
     refine Al ?_
     refine An ?_
     refine Ab f Z λa f=>Ab f Z λa f=>Ab f Z λa f=> ?_
     have bE:∀w,(Instr.build 42 #[(0,(iv bb.1)),(1,(iv (i64.wrap (bb.1+bk.1))))]).run prog w= .ok (.agg #[(iv bb.1),(iv (i64.wrap (bb.1+bk.1)))]) w:=by intro w;simp[Instr.build,Instr.fill,Cw,Ck,BZ,B6,BV,Ci]
     refine CO f Z Z bE λa f=>l_slitR (E:=P2) (y:=(bb.1,(i64.wrap (bb.1+bk.1)))) (cs:=[(iv bb.1),(iv (i64.wrap (bb.1+bk.1)))]) m T39 f Z Z Z (lb Z) λbF bG w a m bH f=> ?_
     have⟨bI,bJ,a5⟩:=bind_some a5
     refine Em (E:=P2) (z:= .agg #[(iv 0),(iv 0)]) 2 0 m a8 Z bH Z (by simp) T39 Z (by decide) f Z Z Z bJ λbK bL w a m bM f=>Ac f Z λa f=>Aa (An ?_)
     refine Ab f Z λa f=>Ah f Z Z AT λa f=>Ac f Z λa f=>Aa ?_
     have m:=m.fr 2
     have m:=m.fr 2
     have m:Mem W bn w (ib an 61 [br,(iv bk.2.2.1),(.int .u64 bk.2.2.2)]::bK::H):=m.eraseAt 2
     obtain rfl:=sj a5
     exact⟨_,Z,_,_,_,_,_,Z,_,bL,bK,br,(gt a7 (gt bg bp)),f.k Z,m,bM,bs⟩
   ·refine Ai f Z ba ?_
    refine AC Z ?_
    have m:=m.fr 1
    have m:=m.eraseAt 1
    obtain rfl:=sj a5
    obtain rfl:=a6 _ rfl
    exact⟨_,Z,_,aZ,a2,a7,f.k Z,m,a8⟩
  ·rintro a w ⟨aO,rfl,aP,aQ,aR,bN,f,m,bO⟩
   refine Ae ?_
   refine Ab f Z λa f=> ?_
   obtain⟨bP,bQ,m,bR⟩:=OwR.stamp trivial bO m
   have⟨bS,bT,hd⟩:=bind_some hd
   refine AN f Z call18 (Wk.h hW m bR bT) λbU bV bW w bX m bY a f=> ?_
   obtain⟨bZ,b0,rfl,rfl,b1⟩:=bY
   have bR:=RSr.mono trivial _ _ _ _ bX bR
   refine Ab f Z λa f=>l_o f (A6 (f.e Z) Z) λa f=>l_o f (A6 (f.e Z) Z) λa f=>BN (cs:=[sn]) zeroValue27 m f Z Z λb2 w a m f=>AP 0 0 (ds:=[bZ]) m sizeOf27 f Z Z Z (AR (Ow.one1 1 m b1 Z) A5) Z (lb Z) Z λw m=>Ac f Z λa f=>Aa (Af (Ae ?_))
   refine Ab f Z λa f=>l_o f (Bt (f.e Z)) λa f=>Ab f Z λa f=> ?_
   have⟨b3,b4,hd⟩:=bind_some hd
   refine Bx 5 (λa w=>∃b5,GLe bV b5∧Mem W b5 w (ib b2 27 [bZ]::b0::H)∧Fr a 85 [(4,aQ),(5,(.bool (au.1==0))),(9,(pb b2)),(10,(.bool bS.2)),(48,(.bool bS.2)),(49,(.bool (!bS.2))),(50,(.bool (!bS.2))),(55,(.bool b3))]) ?_ ?_
   ·rcases Ad b4 with⟨b6,b4⟩|⟨b6,b4⟩
    ·refine Az f b6 λa f=> ?_
     refine Az f b6 λa f=>Az f b6 λa f=>Az f b6 λa f=>l_o f (AK (f.e Z) b6 (f.e Z)) λa f=> ?_
     obtain rfl:=sj b4
     exact⟨_,gr,m,f.k Z⟩
    ·refine Ax f b6 ?_
     refine A4 0 0 (ds:=[bZ]) m BB f Z Z Z Z Z λa f=>Ax f b6 ?_
     refine Ab f Z λa f=>Ax f b6 ?_
     have⟨b7,b8,b4⟩:=bind_some b4
     refine AN f Z call19 (Ow.lendCall (RSl.mono (RI.mono _)) 1 b1 m Z (λb9 ca m cb=>Wk.O m cb (RSr.mono trivial _ _ _ _ ca bR) b8) (λ_ _ _ _ h=>h)) λcc cd ce w cf m cg a f=> ?_
     obtain⟨rfl,rfl⟩:=cg
     refine Ax f b6 ?_
     refine l_o f (Bt (f.e Z)) λa f=>l_o f (AJ (f.e Z) b6 (f.e Z)) λa f=> ?_
     obtain rfl:=sj b4
     exact⟨_,cf,m,f.k Z⟩
   ·rintro a w ⟨b5,ch,m,f⟩
    have b1:=Ow.mono (RSl.mono (RI.mono _)) ch b1
    refine Ab f Z λa f=> ?_
    have⟨ci,cj,hd⟩:=bind_some hd
    refine Bx 4 (λa w=>∃ck,GLe b5 ck∧Mem W ck w (ib b2 27 [bZ]::b0::H)∧Fr a 85 [(4,aQ),(5,(.bool (au.1==0))),(9,(pb b2)),(10,(.bool bS.2)),(48,(.bool bS.2)),(49,(.bool (!bS.2))),(50,(.bool (!bS.2))),(55,(.bool b3)),(56,(.bool b3)),(60,(.bool ci))]) ?_ ?_
    ·rcases Ad cj with⟨cl,cj⟩|⟨cl,cj⟩
     ·refine Az f cl λa f=> ?_
      refine Az f cl λa f=>Az f cl λa f=>l_o f (AK (f.e Z) cl (f.e Z)) λa f=> ?_
      obtain rfl:=sj cj
      exact⟨_,gr,m,f.k Z⟩
     ·refine Ax f cl ?_
      refine A4 0 0 (ds:=[bZ]) m BB f Z Z Z Z Z λa f=>Ax f cl ?_
      have⟨cm,cn,cj⟩:=bind_some cj
      refine AN f Z call20 (Ow.lendCall (RSl.mono (RI.mono _)) 1 b1 m Z (λco cp m cq=>Wk.M hW m cq cn) (λ_ _ _ _ h=>h)) λcr ct cu w cv m cw a f=> ?_
      obtain⟨rfl,rfl⟩:=cw
      refine Ax f cl ?_
      refine l_o f (Bt (f.e Z)) λa f=>l_o f (AJ (f.e Z) cl (f.e Z)) λa f=> ?_
      obtain rfl:=sj cj
      exact⟨_,cv,m,f.k Z⟩
    ·rintro a w ⟨ck,cx,m,f⟩
     have b1:=Ow.mono (RSl.mono (RI.mono _)) cx b1
     refine Aa ?_
     rcases Ad hd with⟨cy,hd⟩|⟨cy,hd⟩
     ·refine Aj f Z cy ?_
      refine Ae ?_
      refine Ac f Z λa f=>Aa ?_
      refine Ap ?_
      have m:Mem W ck w H:=Mem.drop (H':=[ib b2 27 [bZ],b0]) m
      obtain rfl:=sj hd
      exact⟨[(.bool false)],f.g Z,f.d,_,[],(gt ad (gt ak (gt az (gt aI (gt bN (gt bQ (gt bX (gt ch cx)))))))),m,Z,Z⟩
     ·refine Ai f Z cy ?_
      refine Al ?_
      refine Ae ?_
      refine A4 0 0 (ds:=[bZ]) m BB f Z Z Z Z Z λa f=> ?_
      have⟨cz,cA,hd⟩:=bind_some hd
      refine AN f Z call21 (Ow.lendCall (RSl.mono (RI.mono _)) 1 b1 m Z (λcB cC m cD=>Wk.Y hW m cD cA) (λ_ G' _ _ ⟨a0,a1,e1,e2,o0⟩=>⟨a0,a1,e1,e2,OwR.free trivial G' o0⟩)) λcE cF cG w cH m cI a f=> ?_
      obtain⟨cJ,cK,rfl,rfl,cL⟩:=cI
      have b1:=Ow.mono (RSl.mono (RI.mono _)) cH b1
      refine Ab f Z λa f=>l_o f (A6 (f.e Z) Z) λa f=>l_o f (A6 (f.e Z) Z) λa f=>Ac f Z λa f=>Ac f Z λa f=>Av ?_
      refine Ab f Z λa f=>Ab f Z λa f=> ?_
      have⟨cM,cN,hd⟩:=bind_some hd
      refine Bx 4 (λa w=>∃cO,GLe cF cO∧Mem W cO w (cK::ib b2 27 [bZ]::b0::H)∧Fr a 85 [(4,aQ),(5,(.bool (au.1==0))),(9,(pb b2)),(10,(.bool bS.2)),(11,cJ),(12,(.bool cz.2)),(66,(.bool cz.2)),(67,(.bool cz.2)),(71,(.bool cM))]) ?_ ?_
      ·rcases Ad cN with⟨cP,cN⟩|⟨cP,cN⟩
       ·refine Ax f cP ?_
        refine A4 1 0 (ds:=[bZ]) m BB f Z Z Z Z Z λa f=>Ax f cP ?_
        refine Ab f Z λa f=>Ax f cP ?_
        have⟨cQ,cR,cN⟩:=bind_some cN
        refine AN f Z call19 (Ow.lendCall (RSl.mono (RI.mono _)) 2 b1 m Z (λcS cT m cU=>(OwR.lendCall trivial 0 (OwR.mono trivial cT cL) m Z (λcV cW m cX=>Wk.O m (rd2 cW cU) cX cR) (λ_ _ _ _ h=>h))) (λ_ _ _ _ h=>h)) λcY cZ c0 w c1 m c2 a f=> ?_
        obtain⟨rfl,rfl⟩:=c2
        refine l_o f (AK (f.e Z) cP (f.e Z)) λa f=> ?_
        obtain rfl:=sj cN
        exact⟨_,c1,m,f.k Z⟩
       ·refine Az f cP λa f=> ?_
        refine Az f cP λa f=>Az f cP λa f=>l_o f (AJ (f.e Z) cP (f.e Z)) λa f=> ?_
        obtain rfl:=sj cN
        exact⟨_,gr,m,f.k Z⟩
      ·rintro a w ⟨cO,c3,m,f⟩
       have cL:=OwR.mono trivial c3 cL
       have b1:=Ow.mono (RSl.mono (RI.mono _)) c3 b1
       refine Ab f Z λa f=> ?_
       have⟨c4,c5,hd⟩:=bind_some hd
       refine Bx 4 (λa w=>∃c6,GLe cO c6∧Mem W c6 w (cK::ib b2 27 [bZ]::b0::H)∧Fr a 85 [(4,aQ),(5,(.bool (au.1==0))),(9,(pb b2)),(10,(.bool bS.2)),(11,cJ),(12,(.bool cz.2)),(66,(.bool cz.2)),(67,(.bool cz.2)),(71,(.bool cM)),(72,(.bool cM)),(76,(.bool c4))]) ?_ ?_
       ·rcases Ad c5 with⟨c7,c5⟩|⟨c7,c5⟩
        ·refine Ax f c7 ?_
         refine A4 1 0 (ds:=[bZ]) m BB f Z Z Z Z Z λa f=>Ax f c7 ?_
         refine Ab f Z λa f=>Ax f c7 ?_
         have⟨c8,c9,c5⟩:=bind_some c5
         refine AN f Z call22 (Ow.lendCall (RSl.mono (RI.mono _)) 2 b1 m Z (λda db m dc=>(OwR.lendCall trivial 0 (OwR.mono trivial db cL) m Z (λdd de m df=>Wk.r0 hW m (rd2 de dc) df c9) (λ_ _ _ _ h=>h))) (λ_ _ _ _ h=>h)) λdg dh di w dj m dk a f=> ?_
         obtain⟨rfl,rfl⟩:=dk
         refine l_o f (AK (f.e Z) c7 (f.e Z)) λa f=> ?_
         obtain rfl:=sj c5
         exact⟨_,dj,m,f.k Z⟩
        ·refine Az f c7 λa f=> ?_
         refine Az f c7 λa f=>Az f c7 λa f=>l_o f (AJ (f.e Z) c7 (f.e Z)) λa f=> ?_
         obtain rfl:=sj c5
         exact⟨_,gr,m,f.k Z⟩
       ·rintro a w ⟨c6,dl,m,f⟩
        have b1:=Ow.mono (RSl.mono (RI.mono _)) dl b1
        refine Ab f Z λa f=> ?_
        have⟨dm,dn,hd⟩:=bind_some hd
        refine Bx 7 (λa w=>∃dp,GLe c6 dp∧Mem W dp w (cK::ib b2 27 [bZ]::b0::H)∧Fr a 85 [(4,aQ),(5,(.bool (au.1==0))),(9,(pb b2)),(10,(.bool bS.2)),(11,cJ),(12,(.bool cz.2)),(66,(.bool cz.2)),(67,(.bool cz.2)),(71,(.bool cM)),(72,(.bool cM)),(76,(.bool c4)),(77,(.bool c4)),(84,(.bool dm))]) ?_ ?_
        ·rcases Ad dn with⟨dq,dn⟩|⟨dq,dn⟩
         ·refine Ax f dq ?_
          refine Ab f Z λa f=>Ax f dq ?_
          refine l_o f (Bt (f.e Z)) λa f=>Ax f dq ?_
          refine Ab f Z λa f=> ?_
          have⟨dr,dt,dn⟩:=bind_some dn
          refine Bx 3 (λa w=>∃du,GLe c6 du∧Mem W du w (cK::ib b2 27 [bZ]::b0::H)∧Fr a 85 [(4,aQ),(5,(.bool (au.1==0))),(9,(pb b2)),(10,(.bool bS.2)),(11,cJ),(12,(.bool cz.2)),(66,(.bool cz.2)),(67,(.bool cz.2)),(71,(.bool cM)),(72,(.bool cM)),(76,(.bool c4)),(77,(.bool c4)),(78,(.bool (au.1==0))),(79,(.bool (!(au.1==0)))),(80,(.bool (!(au.1==0)))),(83,(.bool dr))]) ?_ ?_
          ·rcases Ad dt with⟨dv,dt⟩|⟨dv,dt⟩
           ·refine Az f dv λa f=> ?_
            refine Az f dv λa f=>Ax f dq ?_
            refine l_o f (AK (f.e Z) dv (f.e Z)) λa f=> ?_
            obtain rfl:=sj dt
            exact⟨_,gr,m,f.k Z⟩
           ·refine Ax f dv ?_
            refine A4 1 0 (ds:=[bZ]) m BB f Z Z Z Z Z λa f=>Ax f dv ?_
            have⟨dw,dx,dt⟩:=bind_some dt
            refine AN f Z call23 (Ow.lendCall (RSl.mono (RI.mono _)) 2 b1 m Z (λdy dz m dA=>Wk.n0 hW m dA dx) (λ_ _ _ _ h=>h)) λdB dC dD w dE m dF a f=> ?_
            obtain⟨rfl,rfl⟩:=dF
            refine Ax f dq ?_
            refine l_o f (AJ (f.e Z) dv (f.e Z)) λa f=> ?_
            obtain rfl:=sj dt
            exact⟨_,dE,m,f.k Z⟩
          ·rintro a w ⟨du,dG,m,f⟩
           refine l_o f (AK (f.e Z) dq (f.e Z)) λa f=> ?_
           obtain rfl:=sj dn
           exact⟨_,dG,m,f.k Z⟩
         ·refine Az f dq λa f=> ?_
          refine Az f dq λa f=>Az f dq λa f=>CV f Z Z Z λa f=>CV f Z Z Z λa f=>Az f dq λa f=>l_o f (AJ (f.e Z) dq (f.e Z)) λa f=> ?_
          obtain rfl:=sj dn
          exact⟨_,gr,m,f.k Z⟩
        ·rintro a w ⟨dp,dH,m,f⟩
         refine Ac f Z λa f=>Aa ?_
         refine Ap ?_
         have m:Mem W dp w H:=Mem.drop (H':=[cK,ib b2 27 [bZ],b0]) m
         obtain rfl:=sj hd
         exact⟨[(.bool dm)],f.g Z,f.d,_,[],(gt ad (gt ak (gt az (gt aI (gt bN (gt bQ (gt bX (gt ch (gt cx (gt cH (gt c3 (gt dl dH)))))))))))),m,Z,Z⟩
end Go.Proofs.YtjhajfcggfhbmaaDoor

namespace Go.Sx
theorem Dn (n:Int):IntKind.u32.wrap n=n%4294967296:=by simp[IntKind.wrap,IntKind.signed,IntKind.bits]
def VS (s:Int):Prop:=0≤s∧s<4294967296
def has (s:Int)(v:Nat):Bool:=s.toNat.testBit v
theorem VS.nat {s:Int}(h:VS s):∃n:Nat,s=n∧n<4294967296:=⟨s.toNat,by have:=h.1;omega,by have:=h.1;have:=h.2;omega⟩
theorem VS.zero :VS 0:=⟨by omega,by omega⟩
theorem VS.wrap (n:Int):VS (IntKind.u32.wrap n):=by rw[Dn];exact⟨by omega,by omega⟩
theorem VS.ofNat {n:Nat}(h:n<4294967296):VS (n:Int):=⟨by omega,by omega⟩
theorem BH (n v:Nat):has (n:Int) v=n.testBit v:=by simp[has]
theorem AY (v:Nat):has 0 v=false:=by simp[has]
theorem CP (n:Nat)(h:n<4294967296):(BitVec.ofInt 32 (n:Int)).toNat=n:=by
 rw[BitVec.toNat_ofInt]
 omega
theorem ior_nat {a b:Nat}(ha:a<4294967296)(hb:b<4294967296):ior .u32 (a:Int) (b:Int)=((a|||b:Nat):Int):=by
 have hw:a|||b<4294967296:=Nat.or_lt_two_pow (n:=32) ha hb
 show IntKind.u32.wrap (((BitVec.ofInt 32 (a:Int)|||BitVec.ofInt 32 (b:Int)).toNat:Nat):Int)=_
 rw[BitVec.toNat_or,CP a ha,CP b hb,Dn];omega
theorem Dq {a b:Nat}(ha:a<4294967296)(hb:b<4294967296):iand .u32 (a:Int) (b:Int)=((a&&&b:Nat):Int):=by
 have hw:a&&&b<4294967296:=Nat.and_lt_two_pow (n:=32) _ hb
 show IntKind.u32.wrap (((BitVec.ofInt 32 (a:Int)&&&BitVec.ofInt 32 (b:Int)).toNat:Nat):Int)=_
 rw[BitVec.toNat_and,CP a ha,CP b hb,Dn];omega
theorem VS.ior (a b:Int):VS (ior .u32 a b):=VS.wrap _
theorem VS.iand (a b:Int):VS (iand .u32 a b):=VS.wrap _
theorem VS.iandNot (a b:Int):VS (iandNot .u32 a b):=VS.wrap _
theorem VS.ishl (a b:Int):VS (ishl .u32 a b):=VS.wrap _
theorem Bj {a b:Int}(ha:VS a)(hb:VS b)(v:Nat):has (ior .u32 a b) v=(has a v||has b v):=by
 obtain⟨m,rfl,hm⟩:=ha.nat;obtain⟨n,rfl,hn⟩:=hb.nat
 rw[ior_nat hm hn];simp only[BH,Nat.testBit_or]
theorem Cv {a b:Int}(ha:VS a)(hb:VS b)(v:Nat):has (iand .u32 a b) v=(has a v&&has b v):=by
 obtain⟨m,rfl,hm⟩:=ha.nat;obtain⟨n,rfl,hn⟩:=hb.nat
 rw[Dq hm hn];simp only[BH,Nat.testBit_and]
theorem AX {a b:Int}(ha:VS a)(hb:VS b)(v:Nat):has (iandNot .u32 a b) v=(has a v&& !has b v):=by
 obtain⟨m,rfl,hm⟩:=ha.nat;obtain⟨n,rfl,hn⟩:=hb.nat
 have e:iandNot .u32 (m:Int) (n:Int)=(((BitVec.ofInt 32 (m:Int)&&& ~~~(BitVec.ofInt 32 (n:Int))).toNat:Nat):Int):=by
  have hw:=(BitVec.ofInt 32 (m:Int)&&& ~~~(BitVec.ofInt 32 (n:Int))).isLt
  show IntKind.u32.wrap (((BitVec.ofInt 32 (m:Int)&&& ~~~(BitVec.ofInt 32 (n:Int))).toNat:Nat):Int)=_
  rw[Dn];omega
 rw[e,BH,BH,BH]
 have h1:∀i,(BitVec.ofInt 32 (m:Int)).getLsbD i=m.testBit i:=λi=>by rw[BitVec.getLsbD,CP m hm]
 have h2:∀i,(BitVec.ofInt 32 (n:Int)).getLsbD i=n.testBit i:=λi=>by rw[BitVec.getLsbD,CP n hn]
 rw[←BitVec.getLsbD,BitVec.getLsbD_and,BitVec.getLsbD_not,h1,h2]
 by_cases hv:v<32
 ·simp[hv]
 ·have:m.testBit v=false:=Nat.testBit_lt_two_pow (Nat.lt_of_lt_of_le hm (Nat.pow_le_pow_right (n:=2) (by omega) (show 32≤v by omega)))
  simp[this]
theorem CZ {a:Int}(ha:VS a){v:Nat}(hv:32≤v):has a v=false:=by
 obtain⟨m,rfl,hm⟩:=ha.nat
 rw[BH]
 exact Nat.testBit_lt_two_pow (Nat.lt_of_lt_of_le hm (Nat.pow_le_pow_right (n:=2) (by omega) hv))
theorem VS.ext {a b:Int}(ha:VS a)(hb:VS b)(h:∀v,v<32→has a v=has b v):a=b:=by
 have:∀v,has a v=has b v:=λv=>by
  by_cases hv:v<32
  ·exact h v hv
  ·rw[CZ ha (by omega),CZ hb (by omega)]
 obtain⟨m,rfl,hm⟩:=ha.nat;obtain⟨n,rfl,hn⟩:=hb.nat
 congr 1
 apply Nat.eq_of_testBit_eq
 intro v
 have:=this v
 rwa [BH,BH] at this
theorem VS.eq_zero {a:Int}(ha:VS a):a=0↔∀v,v<32→has a v=false:=
 ⟨λh v _=>by rw[h,AY],λh=>ha.ext VS.zero (λv hv=>by rw[h v hv,AY])⟩
theorem one_eq {v:Nat}(hv:v<32):ishl .u32 1 (v:Int)=((2^v:Nat):Int):=by
 have h:(2:Nat)^v<2^32:=Nat.pow_lt_pow_right (by omega) hv
 have h':(2:Nat)^32=4294967296:=by decide
 rw[h'] at h
 show IntKind.u32.wrap (1*2^(min ((v:Int)).toNat 32))=_
 rw[Dn,show min ((v:Int)).toNat 32=v by simp;omega,Int.one_mul]
 have e:((2^v:Nat):Int)=(2:Int)^v:=by simp
 rw[←e]
 generalize 2^v=p at h ⊢
 omega
theorem A8 {v:Nat}(hv:v<32)(u:Nat):has (ishl .u32 1 (v:Int)) u=decide (u=v):=by
 rw[one_eq hv,BH,Nat.testBit_two_pow]
 simp[eq_comm]
theorem shr_eq (s:Int)(v:Nat)(h:VS s)(hv:v<32):Bq .u32 s (v:Int)=((s.toNat>>>v:Nat):Int):=by
 obtain⟨m,rfl,hm⟩:=h.nat
 show Int.fdiv (m:Int) (2^(min ((v:Int)).toNat 32))=_
 rw[show min ((v:Int)).toNat 32=v by simp;omega]
 have e:((2^v:Nat):Int)=(2:Int)^v:=by simp
 rw[←e,Int.fdiv_eq_ediv_of_nonneg _ (Int.natCast_nonneg _),Nat.shiftRight_eq_div_pow]
 simp
theorem bitAt_eq {s:Int}{v:Nat}(h:VS s)(hv:v<32):(iand .u32 (Bq .u32 s (v:Int)) 1==1)=has s v:=by
 rw[shr_eq s v h hv]
 have hs:s.toNat>>>v<4294967296:=by
  obtain⟨m,rfl,hm⟩:=h.nat
  rw[Nat.shiftRight_eq_div_pow]
  exact Nat.lt_of_le_of_lt (Nat.div_le_self _ _) hm
 have:=Dq hs (show (1:Nat)<4294967296 by omega)
 rw[show (1:Int)=((1:Nat):Int) from rfl,this,has,Nat.testBit]
 rw[Nat.and_comm]
 have h1:1&&&(s.toNat>>>v)=0∨1&&&(s.toNat>>>v)=1:=by
  rw[Nat.and_comm,Nat.and_one_is_mod];omega
 rcases h1 with e|e<;>rw[e]<;>rfl
def Am (s:Int):LI:=((List.range 32).filter (has s)).map Int.ofNat
theorem mem_elems {s:Int}{x:Int}:x∈Am s↔∃v:Nat,v<32∧has s v=true∧x=v:=by
 unfold Am
 rw[List.mem_map]
 constructor
 ·rintro⟨v,hv,rfl⟩
  rw[List.mem_filter,List.mem_range] at hv
  exact⟨v,hv.1,hv.2,rfl⟩
 ·rintro⟨v,h1,h2,rfl⟩
  exact⟨v,List.mem_filter.2 ⟨List.mem_range.2 h1,h2⟩,rfl⟩
theorem AM {s:Int}(h:VS s){v:Nat}:(v:Int)∈Am s↔has s v=true:=by
 rw[mem_elems]
 constructor
 ·rintro⟨u,_,h2,h3⟩;obtain rfl:v=u:=by omega
  exact h2
 ·intro h2
  refine⟨v,?_,h2,rfl⟩
  by_cases hv:v<32
  ·exact hv
  ·rw[CZ h (by omega)] at h2;cases h2
theorem Bl (s:Int):(Am s).length≤32:=by
 unfold Am
 rw[List.length_map]
 exact Nat.le_trans (List.length_filter_le _ _) (by simp)
def Inc (l:LI):Prop:=l.Pairwise (·<·)
theorem Bu (s:Int):Inc (Am s):=by
 unfold Am Inc
 rw[List.pairwise_map]
 refine List.Pairwise.filter _ ?_
 refine List.Pairwise.imp ?_ (List.pairwise_lt_range (n:=32))
 intro a b h
 show (a:Int)<(b:Int)
 omega
theorem Inc.ext :∀{l l':LI},Inc l→Inc l'→(∀x,x∈l↔x∈l')→l=l'
 |[],[],_,_,_=>rfl
 |[],y::l',_,_,h=>by have:=(h y).2 (by simp);simp at this
 |x::l,[],_,_,h=>by have:=(h x).1 (by simp);simp at this
 |x::l,y::l',h1,h2,h=>by
  have h1':=List.pairwise_cons.1 h1;have h2':=List.pairwise_cons.1 h2
  have e:x=y:=by
   rcases List.mem_cons.1 ((h x).1 (by simp)) with e|e
   ·exact e
   ·rcases List.mem_cons.1 ((h y).2 (by simp)) with e'|e'
    ·exact e'.symm
    ·have:=h2'.1 x e;have:=h1'.1 y e';omega
  subst e
  have:l=l':=by
   refine Inc.ext h1'.2 h2'.2 (λz=> ?_)
   constructor
   ·intro hz
    rcases List.mem_cons.1 ((h z).1 (List.mem_cons_of_mem _ hz)) with e|e
    ·have:=h1'.1 z hz;omega
    ·exact e
   ·intro hz
    rcases List.mem_cons.1 ((h z).2 (List.mem_cons_of_mem _ hz)) with e|e
    ·have:=h2'.1 z hz;omega
    ·exact e
  rw[this]
theorem least_spec {s:Int}(h:VS s)(h0:s≠0):∃k:Nat,k<32∧has s k=true∧(∀v,v<k→has s v=false)∧
  iand .u32 s (IntKind.u32.wrap (0-s))=((2^k:Nat):Int)∧(∀v,has (iand .u32 s (IntKind.u32.wrap (s-1))) v=(has s v&& !decide (v=k))):=by
 obtain⟨m,rfl,hm⟩:=h.nat
 have hm0:m≠0:=by omega
 obtain⟨q,hq,hk⟩:=Lib.ctzFrom_spec 32 m (by omega) hm
 have hc:Lib.ctz 32 m=Lib.ctzFrom 32 m:=by unfold Lib.ctz;rw[if_neg hm0]
 obtain⟨hl,_⟩:=Lib.lowest_bit 32 m hm0 hm
 rw[hc] at hl
 generalize Lib.ctzFrom 32 m=k at*
 have hpos:0<2^k:=Nat.pow_pos (by omega)
 have hb:∀v,m.testBit v=(decide (v≥k)&&(2*q+1).testBit (v-k)):=λv=>by rw[hq,Nat.mul_comm,Nat.testBit_mul_two_pow,Bool.and_comm]
 refine⟨k,hk,?_,λv hv=> ?_,?_,λv=> ?_⟩
 ·rw[BH,hb];simp
 ·rw[BH,hb];simp;intro hc;omega
 ·have e:IntKind.u32.wrap (0-(m:Int))=((4294967296-m:Nat):Int):=by rw[Dn];omega
  rw[e,Dq hm (by omega)]
  rw[←hl]
 ·have e:IntKind.u32.wrap ((m:Int)-1)=((m-1:Nat):Int):=by rw[Dn];omega
  rw[e,Dq hm (by omega),BH,BH,Nat.testBit_and]
  have hm1:m-1=2^k*(2*q)+(2^k-1):=by rw[hq,Nat.mul_add];omega
  have hb1:(m-1).testBit v=if v<k then true else(2*q).testBit (v-k):=by
   rw[hm1,Nat.testBit_two_pow_mul_add _ (by omega)]
   split
   ·rename_i hv;rw[Nat.testBit_two_pow_sub_one];simp[hv]
   ·rfl
  rw[hb1,hb]
  by_cases hv:v<k
  ·simp[hv];intro hc;omega
  ·rw[if_neg hv]
   by_cases hvk:v=k
   ·subst hvk;simp
   ·obtain⟨t,ht⟩:∃t,v-k=t+1:=⟨v-k-1,by omega⟩
    rw[ht,Nat.testBit_succ,Nat.testBit_succ]
    have e1:(2*q+1)/2=q:=by omega
    have e2:2*q/2=q:=by omega
    rw[e1,e2]
    simp[hvk]
theorem elems_least {s t:Int}{k:Nat}(hk:k<32)(h1:has s k=true)(h2:∀v,v<k→has s v=false)(h3:∀v,has t v=(has s v&& !decide (v=k))):
  Am s=(k:Int)::Am t:=by
 refine Inc.ext (Bu s) ?_ (λx=> ?_)
 ·refine List.pairwise_cons.2 ⟨λx hx=> ?_,Bu t⟩
  obtain⟨v,hv,h4,rfl⟩:=mem_elems.1 hx
  rw[h3] at h4
  simp at h4
  by_cases hc:v<k
  ·rw[h2 v hc] at h4;simp at h4
  ·omega
 ·rw[List.mem_cons,mem_elems,mem_elems]
  constructor
  ·rintro⟨v,hv,h4,rfl⟩
   by_cases e:v=k
   ·left;omega
   ·right;exact⟨v,hv,by rw[h3,h4];simp[e],rfl⟩
  ·rintro(rfl|⟨v,hv,h4,rfl⟩)
   ·exact⟨k,hk,h1,rfl⟩
   ·rw[h3] at h4;simp at h4
    exact⟨v,hv,h4.1,rfl⟩
theorem D4 :Am 0=[]:=by
 unfold Am
 rw[List.filter_eq_nil_iff.2 (λv _=>by simp[AY])];rfl
theorem tz_table :∀k:Nat,k<32→idx tab32 (Bq .u32 (IntKind.u32.wrap (((2^k:Nat):Int)*125613361)) 27)=some (k:Int):=by decide+kernel
def Out (l:LI)(a0 b0 a b:Int):Prop:=∀i j,a0≤i→i<j→j<b0→¬(a≤i∧j<b)→at' l i≤at' l j
theorem Out.keep {a0 a b b0:Int}{l l':LI}(h:Rg a b l l')(h0:0≤a0)(ha:a0≤a)(hb:b≤b0)(c:Out l a0 b0 a b):Out l' a0 b0 a b:=by
 intro i j h1 h2 h3 h4
 by_cases hi:a≤i∧i<b
 ·rw[h.out j (by omega) (by omega)]
  exact h.all (λx=>x≤at' l j) (λk k1 k2=>c k j (by omega) (by omega) h3 (by omega)) i hi.1 hi.2
 ·rw[h.out i (by omega) (by omega)]
  by_cases hj:a≤j∧j<b
  ·exact h.all (λx=>at' l i≤x) (λk k1 k2=>c i k (by omega) (by omega) (by omega) (by omega)) j hj.1 hj.2
  ·rw[h.out j (by omega) (by omega)];exact c i j h1 h2 h3 h4
end Go.Sx



namespace Go.Sx
def Sh {α:Type}(xs:List α):Prop:=xs.length≤4294967296
theorem Eu (a b c:Int):D.j a b c=some (decide (b≤a)&&decide (a≤c)):=rfl
theorem inRange_eq (a b c:Int):D.O0 a b c=some (decide (b≤a)&&decide (a≤c)):=rfl
theorem any_beq (xs:LI)(n:Int):xs.any (λx=>x==n)=decide (n∈xs):=by
 rw[Bool.eq_iff_iff,List.any_eq_true];simp
theorem D5 (xs:LI)(n:Int)(h:Sh xs):D.q xs n=some (decide (n∈xs)):=by
 unfold Sh at h
 unfold D.q
 refine(loop_anyb xs.length (λi=>xs.getD i 0==n) true (λi hi=> ?_) ?_ rfl rfl).trans ?_
 ·simp only[dlt hi,cond_true,AB hi,bs,wi' hi (by omega),Au hi]
  cases xs[i]==n<;>rfl
 ·simp only[Bg,cond_false]
 ·rw[range_any_list xs (λx=>x==n) _ (λi hi=>by rw[Au hi]),any_beq]
theorem EB (xs:LI)(n:Int)(h:Sh xs):D.N xs n=some (decide (n∈xs)):=by
 unfold Sh at h
 unfold D.N D.I0
 have e:Ao (σ:=Int) (ρ:=(Unit) ⊕ (Int)) (fun(x_26:Int)=>cond (decide (x_26<(xs.length:Int))) ((idx xs x_26).bind λe_39=>cond (n==e_39) (some (.inr (.inr x_26))) (some (.inl (IntKind.i64.wrap (x_26+1))))) (some (.inr (.inl ())))) 0=
   some (((List.range xs.length).findSome? (λi=>if xs.getD i 0==n then some (Sum.inr (i:Int)) else none)).getD (.inl ())):=by
  refine DH xs.length _ _ (λi hi=> ?_) ?_
  ·simp only[dlt hi,cond_true,AB hi,bs,wi' hi (by omega),Au hi]
   rw[show (n==xs[i])=(xs[i]==n) from Bool.beq_comm ..]
   cases xs[i]==n<;>rfl
  ·simp only[Bg,cond_false]
 rw[e,bs]
 cases hf:(List.range xs.length).findSome? (λi=>if xs.getD i 0==n then some (Sum.inr (i:Int):Unit ⊕ Int) else none) with
 |none=>
  have:n∉xs:=λhm=>by
   obtain⟨i,hi,e⟩:=List.getElem_of_mem hm
   have:=(List.findSome?_eq_none_iff.1 hf) i (List.mem_range.2 hi)
   rw[Au hi,e] at this
   simp at this
  simp[this]
 |some r=>
  obtain⟨i,hi,hr⟩:=List.exists_of_findSome?_eq_some hf
  have hi':=List.mem_range.1 hi
  rw[Au hi'] at hr
  split at hr
  ·rename_i hc
   cases hr
   have:n∈xs:=by rw[←(beq_iff_eq.1 hc)];exact List.getElem_mem _
   simp[this]
  ·cases hr
def SetOf (xs:LI)(n:Int):Prop:=Inc xs∧∀x∈xs,0≤x∧x<n
theorem SetOf.len :∀{xs:LI} {n a:Int},Inc xs→(∀x∈xs,a≤x∧x<n)→xs=[]∨(xs.length:Int)≤n-a
 |[],_,_,_,_=> .inl rfl
 |x::xs,n,a,h,hr=>by
  right
  have h':=List.pairwise_cons.1 h
  have hx:=hr x (by simp)
  rcases SetOf.len (a:=x+1) (n:=n) h'.2 (λy hy=>⟨by have:=h'.1 y hy;omega,(hr y (by simp[hy])).2⟩) with e|e
  ·subst e;simp;omega
  ·simp;omega
theorem SetOf.length_le {xs:LI}{n:Int}(h:SetOf xs n)(hn:0≤n):(xs.length:Int)≤n:=by
 rcases SetOf.len h.1 h.2 with e|e
 ·subst e;simpa using hn
 ·omega
theorem inc_iff (xs:LI):Inc xs↔∀i (hi:i+1<xs.length),xs[i]<xs[i+1]:=by
 unfold Inc
 constructor
 ·intro h i hi
  exact List.pairwise_iff_getElem.1 h i (i+1) (by omega) hi (by omega)
 ·intro h
  rw[List.pairwise_iff_getElem]
  intro i j hi hj hij
  have key:∀k,∀hk:i+k+1<xs.length,xs[i]<xs[i+k+1]:=by
   intro k
   induction k with
   |zero=>intro hk;exact h i hk
   |succ k ih=>intro hk;have:=ih (by omega);have:=h (i+k+1) hk;exact Int.lt_trans (ih (by omega)) this
  obtain⟨k,rfl⟩:∃k,j=i+k+1:=⟨j-i-1,by omega⟩
  exact key k hj
def setB (xs:LI)(n:Int):Bool:=(List.range xs.length).all λi=>(decide (0≤xs.getD i 0)&&decide (xs.getD i 0≤n-1))&& !(decide (0<i)&&decide (xs.getD i 0≤xs.getD (i-1) 0))
theorem D2 (xs:LI)(n:Int):setB xs n=true↔SetOf xs n:=by
 unfold setB SetOf
 rw[Df,inc_iff]
 constructor
 ·intro h
  refine⟨λi hi=> ?_,λx hx=> ?_⟩
  ·have:=h (i+1) hi
   simp[hi,show i<xs.length by omega] at this
   omega
  ·obtain⟨i,hi,rfl⟩:=List.getElem_of_mem hx
   have:=h i hi
   simp[hi] at this
   omega
 ·rintro⟨h1,h2⟩ i hi
  have h3:=h2 _ (List.getElem_mem hi)
  simp[hi]
  refine⟨by omega,?_⟩
  rcases Nat.eq_zero_or_pos i with h0|h0
  ·exact .inl h0
  ·right
   have:=h1 (i-1) (by omega)
   have e:i-1+1=i:=by omega
   simp only[e] at this
   have e2:xs[i-1]?.getD 0=xs[i-1]:=by rw[List.getElem?_eq_getElem (by omega)];rfl
   rw[e2];exact this
theorem increasing_eq (xs:LI)(n:Int)(h:Sh xs)(h0:0≤n)(hn:n≤4294967296):D.U xs n=some (setB xs n):=by
 unfold Sh at h
 unfold D.U
 refine Cg xs.length _ false (λi hi=> ?_) ?_ rfl rfl
 ·simp only[dlt hi,cond_true,AB hi,bs,wi' hi (by omega),Au hi,inRange_eq]
  rw[w64 (x:=n-1) (by omega) (by omega)]
  cases (decide (0≤xs[i])&&decide (xs[i]≤n-1))
  ·simp
  ·by_cases h0:0<i
   ·have e1:IntKind.i64.wrap ((i:Int)-1)=((i-1:Nat):Int):=by rw[w64 (by omega) (by omega)];omega
    have hd:decide ((0:Int)<(i:Int))=true:=by simp;omega
    simp only[Bool.not_true,cond_false,hd,cond_true,e1,AB (show i-1<xs.length by omega),bs,Au (show i-1<xs.length by omega),h0,decide_true,Bool.true_and]
    cases decide (xs[i]≤xs[i-1])<;>rfl
   ·have hd:decide ((0:Int)<(i:Int))=false:=by simp;omega
    simp only[Bool.not_true,cond_false,hd,bs,h0,decide_false,Bool.false_and,Bool.not_false,Bool.and_true,if_true]
 ·simp only[Bg,cond_false]
theorem l1Set_eq (xs:LI)(n:Int)(h:Sh xs)(h0:0≤n)(hn:n≤4294967296):D.X xs n=some (setB xs n):=by
 have hh:=h
 unfold Sh at h
 unfold D.X
 by_cases hl:n<xs.length
 ·have:setB xs n=false:=by
   cases hb:setB xs n
   ·rfl
   ·have:=((D2 xs n).1 hb).length_le h0;omega
  simp[hl,this]
 ·simp only[hl,decide_false,cond_false]
  refine Cg xs.length _ false (λi hi=> ?_) ?_ rfl rfl
  ·simp only[dlt hi,cond_true,AB hi,bs,wi' hi (by omega),Au hi,Eu]
   rw[w64 (x:=n-1) (by omega) (by omega)]
   cases (decide (0≤xs[i])&&decide (xs[i]≤n-1))
   ·simp
   ·by_cases h0:0<i
    ·have e1:IntKind.i64.wrap ((i:Int)-1)=((i-1:Nat):Int):=by rw[w64 (by omega) (by omega)];omega
     have hd:decide ((0:Int)<(i:Int))=true:=by simp;omega
     simp only[Bool.not_true,cond_false,hd,cond_true,e1,AB (show i-1<xs.length by omega),bs,Au (show i-1<xs.length by omega),h0,decide_true,Bool.true_and]
     cases decide (xs[i]≤xs[i-1])<;>rfl
    ·have hd:decide ((0:Int)<(i:Int))=false:=by simp;omega
     simp only[Bool.not_true,cond_false,hd,bs,h0,decide_false,Bool.false_and,Bool.not_false,Bool.and_true,if_true]
  ·simp only[Bg,cond_false]
def row (g:LL)(v:Nat):LI:=g.getD v []
theorem row_eq {g:LL}{v:Nat}(h:v<g.length):row g v=g[v]:=Au h _
def adj (g:LL)(u v:Nat):Prop:=(v:Int)∈row g u
structure GOk (g:LL):Prop where
 n1:1≤g.length
 n16:g.length≤16
 rows:∀v,v<g.length→SetOf (row g v) g.length
 irr:∀v,v<g.length→¬adj g v v
 sym:∀u v,u<g.length→adj g u v→adj g v u
theorem GOk.mem {g:LL}(h:GOk g){u:Nat}(hu:u<g.length){x:Int}(hx:x∈row g u):∃v:Nat,x=v∧v<g.length∧adj g u v:=by
 have:=(h.rows u hu).2 x hx
 refine⟨x.toNat,by omega,by omega,?_⟩
 unfold adj
 rw[show ((x.toNat:Nat):Int)=x by omega];exact hx
theorem GOk.row_len {g:LL}(h:GOk g){u:Nat}(hu:u<g.length):(row g u).length≤16:=by
 have:=(h.rows u hu).length_le (by omega)
 have:=h.n16
 omega
theorem GOk.lt {g:LL}(h:GOk g){u v:Nat}(hu:u<g.length)(ha:adj g u v):v<g.length:=by
 obtain⟨w,h1,h2,_⟩:=h.mem hu ha
 omega
def Sh2 (g:LL):Prop:=Sh g∧∀r∈g,Sh r
theorem Sh2.row {g:LL}(h:Sh2 g){v:Nat}(hv:v<g.length):Sh (row g v):=by
 rw[row_eq hv];exact h.2 _ (List.getElem_mem hv)
theorem Cd {g:LL}{v:Nat}(h:v<g.length):idx g (v:Int)=some (row g v):=by rw[row_eq h,AB h]
def gB1 (g:LL):Bool:=(List.range g.length).all λv=>setB (row g v) g.length&& !decide ((v:Int)∈row g v)
def gB2 (g:LL):Bool:=(List.range g.length).all λv=>(row g v).all λx=>decide ((v:Int)∈row g x.toNat)
def gB (g:LL):Bool:=decide (1≤g.length)&&decide (g.length≤16)&&gB1 g&&gB2 g
theorem gB_iff (g:LL):gB g=true↔GOk g:=by
 unfold gB gB1 gB2
 simp only[Bool.and_eq_true,decide_eq_true_eq,D2,Bool.not_eq_true',decide_eq_false_iff_not,List.all_eq_true,List.mem_range]
 constructor
 ·rintro⟨⟨⟨h1,h2⟩,h3⟩,h4⟩
  refine⟨h1,h2,λv hv=>(h3 v hv).1,λv hv=>(h3 v hv).2,λu v hu ha=> ?_⟩
  have:=h4 u hu v ha
  unfold adj
  simpa using this
 ·intro h
  refine⟨⟨⟨h.n1,h.n16⟩,λv hv=>⟨h.rows v hv,h.irr v hv⟩⟩,λv hv x hx=> ?_⟩
  obtain⟨u,rfl,hu,ha⟩:=h.mem hv hx
  have:=h.sym v u hv ha
  simpa [adj] using this
theorem B1 (g:LL)(h:Sh2 g):D.o g=some (gB g):=by
 have hl:g.length≤4294967296:=h.1
 unfold D.o D.d
 simp only[bs,Eu]
 by_cases hn:1≤g.length∧g.length≤16
 ·have e:(decide ((1:Int)≤(g.length:Int))&&decide ((g.length:Int)≤16))=true:=by simp;omega
  simp only[e,Bool.not_true,cond_false]
  refine(Es g.length (λv=>setB (row g v) g.length&& !decide ((v:Int)∈row g v)) (.inl ()) (.inr false) (λv hv=> ?_) ?_).trans ?_
  rotate_left
  ·simp only[Bg,cond_false]
  ·show cond (gB1 g) _ _=_
   have e4:gB g=(gB1 g&&gB2 g):=by unfold gB;simp[hn.1,hn.2]
   rw[e4]
   cases hc:gB1 g with
   |false=>rfl
   |true=>
    rw[cond_true,Bool.true_and]
    refine Cg g.length _ false (λv hv=> ?_) ?_ rfl rfl
    ·have hset:SetOf (row g v) g.length:=by
      have:=(Df _ _).1 hc v hv
      simp only[Bool.and_eq_true] at this
      exact(D2 _ _).1 this.1
     simp only[dlt hv,cond_true]
     refine(Es (row g v).length (λi=>decide ((v:Int)∈row g ((row g v).getD i 0).toNat)) (.inl ()) (.inr false) (λi hi=> ?_) ?_).trans ?_
     ·have hx:=hset.2 _ (List.getElem_mem hi)
      have e5:idx g (row g v)[i]=some (row g ((row g v)[i]).toNat):=by
       have:=Cd (g:=g) (v:=((row g v)[i]).toNat) (by omega)
       rwa [show ((((row g v)[i]).toNat:Nat):Int)=(row g v)[i] by omega] at this
      have hs:=h.row (v:=((row g v)[i]).toNat) (by omega)
      simp only[Cd hv,bs,dlt hi,cond_true,AB hi,e5,D5 _ _ hs,wi (show i<4611686018427387904 by have:=h.row hv;unfold Sh at this;omega),Au hi]
      cases decide ((v:Int)∈row g ((row g v)[i]).toNat)<;>rfl
     ·simp only[Cd hv,bs,Bg,cond_false]
     ·rw[DO (row g v) (λx=>decide ((v:Int)∈row g x.toNat)) _ (λi hi=>by rw[Au hi]),wi' hv (by omega)]
      cases (row g v).all λx=>decide ((v:Int)∈row g x.toNat)<;>rfl
    ·simp only[Bg,cond_false]
  ·simp only[dlt hv,cond_true,Cd hv,bs,l1Set_eq _ _ (h.row hv) (show (0:Int)≤(g.length:Int) by omega) (by omega),D5 _ _ (h.row hv),wi' hv (by omega)]
   cases setB (row g v) g.length
   ·rfl
   ·cases decide ((v:Int)∈row g v)<;>rfl
 ·have e:(decide ((1:Int)≤(g.length:Int))&&decide ((g.length:Int)≤16))=false:=by
   rw[Bool.eq_false_iff];simp;omega
  simp only[e,Bool.not_false,cond_true]
  unfold gB
  congr 1
  symm
  rw[Bool.eq_false_iff]
  simp
  omega
theorem Bz (g:LL)(h:Sh2 g):D.f g=some (gB g):=by
 have hl:g.length≤4294967296:=h.1
 unfold D.f
 by_cases hn:1≤g.length∧g.length≤16
 ·have e:(decide ((g.length:Int)<(1:Int))||decide ((16:Int)<(g.length:Int)))=false:=by simp;omega
  simp only[e,cond_false]
  refine(Es g.length (λv=>setB (row g v) g.length&& !decide ((v:Int)∈row g v)) (.inl ()) (.inr false) (λv hv=> ?_) ?_).trans ?_
  rotate_left
  ·simp only[Bg,cond_false]
  ·show cond (gB1 g) _ _=_
   have e4:gB g=(gB1 g&&gB2 g):=by unfold gB;simp[hn.1,hn.2]
   rw[e4]
   cases hc:gB1 g with
   |false=>rfl
   |true=>
    rw[cond_true,Bool.true_and]
    refine Cg g.length _ false (λv hv=> ?_) ?_ rfl rfl
    ·have hset:SetOf (row g v) g.length:=by
      have:=(Df _ _).1 hc v hv
      simp only[Bool.and_eq_true] at this
      exact(D2 _ _).1 this.1
     simp only[dlt hv,cond_true,Cd hv,bs]
     refine(Es (row g v).length (λi=>decide ((v:Int)∈row g ((row g v).getD i 0).toNat)) (.inl ()) (.inr false) (λi hi=> ?_) ?_).trans ?_
     ·have hx:=hset.2 _ (List.getElem_mem hi)
      have e5:idx g (row g v)[i]=some (row g ((row g v)[i]).toNat):=by
       have:=Cd (g:=g) (v:=((row g v)[i]).toNat) (by omega)
       rwa [show ((((row g v)[i]).toNat:Nat):Int)=(row g v)[i] by omega] at this
      have hs:=h.row (v:=((row g v)[i]).toNat) (by omega)
      simp only[bs,dlt hi,cond_true,AB hi,e5,EB _ _ hs,wi (show i<4611686018427387904 by have:=h.row hv;unfold Sh at this;omega),Au hi]
      cases decide ((v:Int)∈row g ((row g v)[i]).toNat)<;>rfl
     ·simp only[Bg,cond_false]
     ·rw[DO (row g v) (λx=>decide ((v:Int)∈row g x.toNat)) _ (λi hi=>by rw[Au hi]),wi' hv (by omega)]
      cases (row g v).all λx=>decide ((v:Int)∈row g x.toNat)<;>rfl
    ·simp only[Bg,cond_false]
  ·simp only[dlt hv,cond_true,Cd hv,bs,increasing_eq _ _ (h.row hv) (show (0:Int)≤(g.length:Int) by omega) (by omega),EB _ _ (h.row hv),wi' hv (by omega)]
   cases setB (row g v) g.length
   ·rfl
   ·cases decide ((v:Int)∈row g v)<;>rfl
 ·have e:(decide ((g.length:Int)<(1:Int))||decide ((16:Int)<(g.length:Int)))=true:=by
   simp;omega
  simp only[e,cond_true]
  unfold gB
  congr 1
  symm
  rw[Bool.eq_false_iff]
  simp
  omega
end Go.Sx
