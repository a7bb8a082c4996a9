/- Parts. -/
import Derived.Test.YtmkcbhidbdggiaaDoorNi3
import Derived.Test.YtmkcbhidbdggiaaDoorProg
import Derived.KernelRfl
import Derived.Lib.TrailingZeros
set_option linter.unusedVariables false
set_option linter.unusedSimpArgs false
set_option linter.unusedSectionVars false
set_option maxRecDepth 100000
namespace Go.Proofs.YtmkcbhidbdggiaaDoor
open Go Go.Sx
open Go.Proofs.Tryd Go.Proofs.YtmkcbhidbdggiaaDoor.Tryd IntKind
variable {W w : World} {G : GH} {H : List Itm}
theorem Wk.n0 {aa:Value}{ab:LL}(hW:Bw W)(m:Mem W G w (H))(ac:R2 G aa ab){y:Bool}(hd:D.n0 ab=some y):
  Calls prog 16 #[(.agg #[aa])] w (Res W G H (λ_ Ho v=>Ho=[]∧v=(.bool y))):=by
 refine As (args:=[(.agg #[aa])]) (N:=16) [.tmp 2] func16 Z Z (lb Z) Z λa f=> ?_
 unfold D.n0 at hd
 refine Af ?_
 refine B3 (cs:=[aa]) m f Z Z Z λad w a m f=>Ac f Z λa f=>Ay ?_
 refine A7 0 0 (ds:=[aa]) m Bj f Z Z Z Z Z λa f=> ?_
 have⟨ae,af,hd⟩:=bind_some hd
 refine AK f Z call15 (Wk.C hW m ac af) λag ah ai w aj m ak a f=> ?_
 obtain⟨al,am,rfl,rfl,an⟩:=ak
 have ac:=rd2 aj ac
 refine Aa f Z λa f=>l_o f (Bg (f.e Z) Z) λa f=>l_o f (Bg (f.e Z) Z) λa f=>Ac f Z λa f=>Ac f Z λa f=>Ay ?_
 refine A7 1 0 (ds:=[aa]) m Bj f Z Z Z Z Z λa f=> ?_
 have⟨ao,ap,hd⟩:=bind_some hd
 refine Ba f Z call12 (Wk.U hW m ac ap) λaq w ar m a f=>Aa f Z λa f=> ?_
 refine Bu 3 (λa w=>∃au,GLe aq au∧Mem W au w (am::ib ad 29 [aa]::H)∧Fr a 16 [(0,(.agg #[aa])),(1,(pb ad)),(3,al),(4,(.bool ae.2)),(10,(.agg #[aa])),(11,(.bool ao)),(12,(.bool ao)),(15,(.bool (ao&&(!ae.2))))]) ?_ ?_
 ·rcases Bool.eq_false_or_eq_true ao with av|av
  ·refine Au f av ?_
   refine Aa f Z λa f=>Au f av ?_
   refine l_o f (Bv (f.e Z)) λa f=>l_o f (AD (f.e Z) av (f.e Z)) λa f=> ?_
   exact⟨_,gr,m,f.weak ⟨Z,Z,Z,Z,Z,Z,Z,by rw[av];rfl,trivial⟩⟩
  ·refine Aw f av λa f=> ?_
   refine Aw f av λa f=>l_o f (AC (f.e Z) av (f.e Z)) λa f=> ?_
   exact⟨_,gr,m,f.weak ⟨Z,Z,Z,Z,Z,Z,Z,by rw[av];rfl,trivial⟩⟩
 ·rintro a w ⟨au,aw,m,f⟩
  refine Ac f Z λa f=>Ab ?_
  refine Ar ?_
  have m:Mem W au w H:=Mem.drop (H':=[am,ib ad 29 [aa]]) m
  obtain rfl:=sj hd
  exact⟨[(.bool (ao&&(!ae.2)))],f.g Z,f.d,_,[],(gt aj (gt ar aw)),m,Z,Z⟩
set_option maxHeartbeats 1000000 in
theorem Wk.O0 {v0:Value}{x0:LI}(hW:Bw W)(m:Mem W G w (H))(h0:RSl (RI .u8) G v0 x0){y:Bool}(hd:D.O0 x0=some y):
  Calls prog 3 #[v0] w (Res W G H (λ_ Ho v=>Ho=[]∧v=(.bool y))):=by
 refine As (args:=[v0]) (N:=204) [.tmp 2] func3 Z Z (lb Z) Z λa f=> ?_
 unfold D.O0 at hd
 refine Af ?_
 refine Ac f Z λa f=>Ab (Ah (Af ?_))
 refine Aa f Z λa f=> ?_
 have⟨aa,ab,hd⟩:=bind_some hd
 refine Ba f Z call7 (Wk.X0 m h0 ab) λac w ad m a f=> ?_
 have h0:=rd1 ad h0
 refine Ab ?_
 rcases Ae hd with⟨ae,hd⟩|⟨ae,hd⟩
 ·refine Am f Z ae ?_
  refine Af ?_
  refine Ac f Z λa f=>Ab ?_
  refine Ar ?_
  obtain rfl:=sj hd
  exact⟨[(.bool true)],f.g Z,f.d,_,[],ad,m,Z,Z⟩
 ·refine Aj f Z ae ?_
  refine Ao ?_
  refine Af ?_
  refine Aa f Z λa f=> ?_
  have⟨af,ag,hd⟩:=bind_some hd
  refine AK f Z call8 (Wk.w0 m h0 ag) λah ai aj w ak m al a f=> ?_
  obtain⟨am,an,rfl,rfl,ao⟩:=al
  refine Ac f Z λa f=>Ay ?_
  refine Aa f Z λa f=> ?_
  have⟨ap,aq,hd⟩:=bind_some hd
  refine AK f Z call9 (Wk.m0 m ao aq) λar au av w aw m ax a f=> ?_
  obtain⟨ay,az,aA,rfl,rfl,aB,aC⟩:=ax
  refine BX (cs:=[sn]) zeroValue29 m f Z Z λaD w a m f=>A6 0 0 (ds:=[ay]) m sizeOf29 f Z Z Z (Bb (Ow.one1 1 m aB Z) Bh) Z (lb Z) Z λw m=>Ay ?_
  refine A7 0 0 (ds:=[ay]) m Bj f Z Z Z Z Z λa f=> ?_
  have m:Mem W au w (az::ib aD 29 [ay]::ib an 55 [aA,(iv ap.2.2.1),(.int .u64 ap.2.2.2)]::H):=m.fr 1
  obtain⟨aE,aF,m,aG⟩:=Ow.stamp (RSl.mono (RI.mono _)) aB m
  have⟨aH,aI,hd⟩:=bind_some hd
  refine AK f Z call10 (Wk.k0 m aG aI) λaJ aK aL w aM m aN a f=> ?_
  obtain⟨aO,rfl,rfl,aP⟩:=aN
  have aG:=rd2 aM aG
  refine Aa f Z λa f=>l_o f (Bg (f.e Z) Z) λa f=>l_o f (Bg (f.e Z) Z) λa f=>Ac f Z λa f=>Ac f Z λa f=>Ay ?_
  refine A7 0 0 (ds:=[ay]) m Bj f Z Z Z Z Z λa f=> ?_
  have⟨aQ,aR,hd⟩:=bind_some hd
  refine AK f Z call11 (Wk.P hW m aG aR) λaS aT aU w aV m aW a f=> ?_
  obtain⟨aX,aY,rfl,rfl,aZ⟩:=aW
  have aG:=rd2 aV aG
  refine Aa f Z λa f=>l_o f (Bg (f.e Z) Z) λa f=>l_o f (Bg (f.e Z) Z) λa f=>Ac f Z λa f=>Ac f Z λa f=>Ab (Ah (Af ?_))
  refine A7 1 0 (ds:=[ay]) m Bj f Z Z Z Z Z λa f=> ?_
  have⟨a0,a1,hd⟩:=bind_some hd
  refine Ba f Z call12 (Wk.U hW m aG a1) λa2 w a3 m a f=> ?_
  have aG:=rd2 a3 aG
  have aZ:=od1 a3 aZ
  refine Aa f Z λa f=>Aa f Z λa f=> ?_
  refine Bu 2 (λa w=>∃a4,GLe a2 a4∧Mem W a4 w (aY::ib aD 29 [ay]::ib an 55 [aA,(iv ap.2.2.1),(.int .u64 ap.2.2.2)]::H)∧Fr a 204 [(0,v0),(3,(pb an)),(4,(pb aD)),(5,aO),(6,(.bool aH.2)),(7,aX),(8,(.bool aQ.2)),(31,(.agg #[ay])),(32,(.bool a0)),(33,(.bool aH.2)),(34,(.bool aH.2)),(36,(.bool (aH.2||aQ.2)))]) ?_ ?_
  ·rcases Bool.eq_false_or_eq_true aH.2 with a5|a5
   ·refine Aw f a5 λa f=> ?_
    refine l_o f (AD (f.e Z) a5 (f.e Z)) λa f=> ?_
    exact⟨_,gr,m,f.weak ⟨Z,Z,Z,Z,Z,Z,Z,Z,Z,Z,Z,by rw[a5];rfl,trivial⟩⟩
   ·refine Au f a5 ?_
    refine Aa f Z λa f=>l_o f (AC (f.e Z) a5 (f.e Z)) λa f=> ?_
    exact⟨_,gr,m,f.weak ⟨Z,Z,Z,Z,Z,Z,Z,Z,Z,Z,Z,by rw[a5];rfl,trivial⟩⟩
  ·rintro a w ⟨a4,a6,m,f⟩
   have aG:=rd2 a6 aG
   have aZ:=od1 a6 aZ
   refine l_o f (r_bool_eql (f.e Z) (f.e Z) underlying4) λa f=>Ab ?_
   rcases Ae hd with⟨a7,hd⟩|⟨a7,hd⟩
   ·refine Am f Z a7 ?_
    refine Af ?_
    refine Ac f Z λa f=>Ab ?_
    refine Ar ?_
    have m:Mem W a4 w H:=Mem.drop (H':=[aY,ib aD 29 [ay],ib an 55 [aA,(iv ap.2.2.1),(.int .u64 ap.2.2.2)]]) m
    obtain rfl:=sj hd
    exact⟨[(.bool false)],f.g Z,f.d,_,[],(gt ad (gt ak (gt aw (gt aF (gt aM (gt aV (gt a3 a6))))))),m,Z,Z⟩
   ·refine Aj f Z a7 ?_
    refine Ao ?_
    refine Ah (Af ?_)
    refine Aa f Z λa f=>Ab ?_
    have⟨a8,a9,hd⟩:=bind_some hd
    refine AL (λa w=>∃j_1980':Unit,a8= .inl j_1980'∧∃(ba:GH),GLe a4 ba∧Fr a 204 [(4,(pb aD)),(6,(.bool aH.2)),(8,(.bool aQ.2))]∧Mem W ba w (ib aD 29 [ay]::H)) ?_ ?_
    ·rcases Ae a9 with⟨bb,a9⟩|⟨bb,a9⟩
     ·refine Am f Z bb ?_
      refine Ah (Ah ?_)
      refine Bf 13 AI (by kernel_rfl) m ?_
      refine Ag 0 13 Z f Z λa f=>q_own_len (i:=1) 13 0 m aZ Z underlying31 Z (by kernel_rfl) Z f Z Z Z λa f=>q_p 2 13 Z f (λ_=>Az (f.e Z) (f.e Z) C4) λa f=>Ag 3 13 Z f Z λa f=> ?_
      have⟨bc,bd,a9⟩:=bind_some a9
      refine BN (fuel':=0) (listed':= #[true,true,true,true,true,true,true,true,true,true,true,true,true]) (λa=>Fr a 204 [(0,v0),(3,(pb an)),(4,(pb aD)),(5,aO),(6,(.bool aH.2)),(7,aX),(8,(.bool aQ.2)),(38,(.bool aQ.2)),(39,aX),(40,(iv (aQ.1.length:Int))),(41,(.bool ((aQ.1.length:Int) !=3))),(42,(.bool ((aQ.1.length:Int) !=3))),(51,(.bool bc))]) ?_ ?_
      ·intro a f
       refine A4 λbe w bf m=> ?_
       have aZ:=od1 bf aZ
       have aG:=rd2 bf aG
       refine Ab ?_
       rcases Ae a9 with⟨bg,a9⟩|⟨bg,a9⟩
       ·refine Am f Z bg ?_
        refine Af ?_
        refine Ac f Z λa f=>Ab ?_
        refine Ar ?_
        have m:Mem W be w H:=Mem.drop (H':=[aY,ib aD 29 [ay],ib an 55 [aA,(iv ap.2.2.1),(.int .u64 ap.2.2.2)]]) m
        obtain rfl:=sj a9
        obtain rfl:=sj hd
        exact⟨[(.bool false)],f.g Z,f.d,_,[],(gt ad (gt ak (gt aw (gt aF (gt aM (gt aV (gt a3 (gt a6 bf)))))))),m,Z,Z⟩
       ·refine Aj f Z bg ?_
        refine Ao ?_
        refine Af ?_
        refine Ac f Z λa f=>Ab ?_
        have⟨bh,bi,a9⟩:=bind_some a9
        refine AL (λa w=>∃q_2954':Unit,bh= .inl q_2954'∧∃(bj:GH),GLe be bj∧Fr a 204 [(4,(pb aD)),(6,(.bool aH.2)),(8,(.bool aQ.2))]∧Mem W bj w (ib aD 29 [ay]::H)) ?_ ?_
        ·refine An ?_
         have m:=m.fr 1
         have m:=m.eraseAt 2
         refine AJ (λbk a w=>∃bl:Int,bl=bk∧∃(bm:GH),GLe be bm∧Fr a 204 [(4,(pb aD)),(6,(.bool aH.2)),(7,aX),(8,(.bool aQ.2)),(9,(iv bl))]∧Mem W bm w (ib aD 29 [ay]::aY::H)) bi ⟨_,Z,_,gr,f.k Z,m⟩ ?_
         clear bi f m
         rintro bk bn bo bp a w ⟨bl,rfl,bm,bq,f,m⟩
         have aG:=rd2 bq aG
         have aZ:=od1 bq aZ
         refine Ah (Af ?_)
         refine Aa f Z λa f=>Ai f Z Z AM λa f=>Ab ?_
         rcases Ae bo with⟨br,bo⟩|⟨br,bo⟩
         ·refine Am f Z br ?_
          refine Ao ?_
          refine Ah (An (Af ?_))
          refine Aa f Z λa f=>Aa f Z λa f=> ?_
          have⟨bs,bt,bo⟩:=bind_some bo
          refine Bk 1 m aZ Z T31 f Z Z Z bt λbu a bv f=>Cr 1 m aZ Z Pl2 f Z Z bv bt λbw a bx f=> ?_
          subst bx
          refine Ac f Z λa f=>Ab (Ah ?_)
          refine Bf 16 AI (by kernel_rfl) m ?_
          refine BR (i:=0) (ds:=[ay]) 16 0 Bj Z Z Z Z (by kernel_rfl) Z f Z Z Z λa f=>Ag 1 16 Z f Z λa f=>Ag 2 16 Z f Z λa f=>q_p 3 16 Z f (λ_=>Az (f.e Z) (f.e Z) Ax) λa f=>q_p 4 16 Z f (λ_=>Az (f.e Z) (f.e Z) (b_rem Z)) λa f=> ?_
          have⟨bz,bA,bo⟩:=bind_some bo
          refine AG 5 16 1 m aZ T31 bA Z f Z Z λbB a bC f=>AO 6 16 1 aZ Pl2 bC bA Z f Z λbD a bE f=> ?_
          subst bE
          refine Ag 7 16 Z f Z λa f=>Ag 8 16 Z f Z λa f=>q_p 9 16 Z f (λ_=>Az (f.e Z) (f.e Z) Ax) λa f=>q_p 10 16 Z f (λ_=>Az (f.e Z) (f.e Z) (b_rem Z)) λa f=> ?_
          have⟨bF,bG,bo⟩:=bind_some bo
          refine AG 11 16 1 m aZ T31 bG Z f Z Z λbH a bI f=>AO 12 16 1 aZ Pl2 bI bG Z f Z λbJ a bK f=> ?_
          subst bK
          refine Ag 13 16 Z f Z λa f=>q_on 14 Z λbL w bM m bN bN=> ?_
          have aG:=rd2 bM aG
          have⟨bO,bP,bo⟩:=bind_some bo
          refine AK f Z call14 (Wk.t0 hW m aG bP) λbQ bR bS w bT m bU a f=> ?_
          obtain⟨bV,bW,rfl,rfl,bX⟩:=bU
          have aG:=rd2 bT aG
          refine Ab ?_
          refine bN bR [bW] _ _ bT m ?_
          refine q_p 15 16 Z f (λ_=>CD (f.e Z)) λa f=>A4 λbY w bZ m=> ?_
          have aG:=rd2 bZ aG
          have bX:=od1 bZ bX
          refine Ab (Ah (Af ?_))
          refine Aa f Z λa f=>Cf 0 m bX Z underlying31 f Z Z λa f=>Ai f Z Z AM λa f=>Ab ?_
          rcases Ae bo with⟨b0,bo⟩|⟨b0,bo⟩
          ·refine Am f Z b0 ?_
           refine Af ?_
           refine Ac f Z λa f=>Ab ?_
           refine Ar ?_
           have m:Mem W bY w H:=Mem.drop (H':=[bW,ib aD 29 [ay],aY]) m
           obtain rfl:=sj bo
           obtain rfl:=bp _ rfl
           obtain rfl:=sj a9
           obtain rfl:=sj hd
           exact⟨[(.bool false)],f.g Z,f.d,_,[],(gt ad (gt ak (gt aw (gt aF (gt aM (gt aV (gt a3 (gt a6 (gt bf (gt bq (gt bM (gt bT bZ)))))))))))),m,Z,Z⟩
          ·refine Aj f Z b0 ?_
           refine Ao ?_
           refine Af ?_
           refine Ac f Z λa f=>Ab ?_
           have⟨b1,b2,bo⟩:=bind_some bo
           refine AL (λa w=>∃q_3676':Unit,b1= .inl q_3676'∧∃(b3:GH),GLe bY b3∧Fr a 204 [(4,(pb aD)),(6,(.bool aH.2)),(7,aX),(8,(.bool aQ.2)),(9,(iv bl))]∧Mem W b3 w (ib aD 29 [ay]::aY::H)) ?_ ?_
           ·refine An ?_
            have m:=m.fr 2
            have m:=m.fr 2
            refine AJ (λb4 a w=>∃b5:Int,b5=b4∧∃(b6:GH),GLe bY b6∧Fr a 204 [(4,(pb aD)),(6,(.bool aH.2)),(7,aX),(8,(.bool aQ.2)),(9,(iv bl)),(10,(iv bs)),(11,bV),(12,(iv b5))]∧Mem W b6 w (ib aD 29 [ay]::aY::bW::H)) b2 ⟨_,Z,_,gr,f.k Z,m⟩ ?_
            clear b2 f m
            rintro b4 b7 b8 b9 a w ⟨b5,rfl,b6,ca,f,m⟩
            have aG:=rd2 ca aG
            have bX:=od1 ca bX
            refine Ah (Af ?_)
            refine Aa f Z λa f=>Aa f Z λa f=>Cf 2 m bX Z underlying31 f Z Z λa f=>Ai f Z Z AM λa f=>Ab ?_
            rcases Ae b8 with⟨cb,b8⟩|⟨cb,b8⟩
            ·refine Am f Z cb ?_
             refine Ao ?_
             refine Ah (An (Ah ?_))
             refine Bf 33 AI (by kernel_rfl) m ?_
             refine Ag 0 33 Z f Z λa f=>Ag 1 33 Z f Z λa f=> ?_
             have⟨cc,cd,b8⟩:=bind_some b8
             refine AG 2 33 2 m bX T31 cd Z f Z Z λce a cf f=>AO 3 33 2 bX Pl2 cf cd Z f Z λcg a ch f=> ?_
             subst ch
             refine Ag 4 33 Z f Z λa f=>q_p 5 33 Z f (λ_=>Az (f.e Z) (f.e Z) BE) λa f=>Ag 6 33 Z f Z λa f=> ?_
             have⟨ci,cj,b8⟩:=bind_some b8
             refine BN (fuel':=18) (listed':= #[true,true,true,true,true,true,true,true,true,true,true,true,true,true,true,false,false,false,false,false,false,false,false,false,false,false,false,false,false,false,false,false,false]) (λa=>Fr a 204 [(4,(pb aD)),(6,(.bool aH.2)),(7,aX),(8,(.bool aQ.2)),(9,(iv bl)),(10,(iv bs)),(11,bV),(12,(iv b5)),(81,(.bool (decide (b5<(bO.length:Int))))),(84,bV),(85,(iv b5)),(86,ce),(87,(iv cc)),(88,(iv bs)),(89,(.bool (cc==bs))),(90,(.bool (cc==bs))),(98,(.bool ci))]) ?_ ?_
             ·intro a f
              refine Ag 15 33 Z f Z λa f=> ?_
              have⟨ck,cl,b8⟩:=bind_some b8
              refine BN (fuel':=0) (listed':= #[true,true,true,true,true,true,true,true,true,true,true,true,true,true,true,true,true,true,true,true,true,true,true,true,true,true,true,true,true,true,true,true,true]) (λa=>Fr a 204 [(4,(pb aD)),(6,(.bool aH.2)),(7,aX),(8,(.bool aQ.2)),(9,(iv bl)),(10,(iv bs)),(11,bV),(12,(iv b5)),(81,(.bool (decide (b5<(bO.length:Int))))),(84,bV),(85,(iv b5)),(86,ce),(87,(iv cc)),(88,(iv bs)),(89,(.bool (cc==bs))),(90,(.bool (cc==bs))),(98,(.bool ci)),(99,(.bool ci)),(116,(.bool ck))]) ?_ ?_
              ·intro a f
               refine A4 λcm w cn m=>Ab ?_
               rcases Ae b8 with⟨co,b8⟩|⟨co,b8⟩
               ·refine Am f Z co ?_
                refine Af ?_
                refine Ac f Z λa f=>Ab ?_
                refine Ar ?_
                have m:Mem W cm w H:=Mem.drop (H':=[ib aD 29 [ay],aY,bW]) m
                obtain rfl:=sj b8
                obtain rfl:=b9 _ rfl
                obtain rfl:=sj bo
                obtain rfl:=bp _ rfl
                obtain rfl:=sj a9
                obtain rfl:=sj hd
                exact⟨[(.bool false)],f.g Z,f.d,_,[],(gt ad (gt ak (gt aw (gt aF (gt aM (gt aV (gt a3 (gt a6 (gt bf (gt bq (gt bM (gt bT (gt bZ (gt ca cn)))))))))))))),m,Z,Z⟩
               ·refine Aj f Z co ?_
                refine Ao ?_
                refine Ap ?_
                refine Aa f Z λa f=>Ai f Z Z Ax λa f=>Ac f Z λa f=>Ab ?_
                obtain rfl:=sj b8
                exact⟨_,Z,_,Z,_,(gt ca cn),f.k Z,m⟩
              ·intro cp
               rcases Ae cl with⟨cq,cl⟩|⟨cq,cl⟩
               ·refine Ak 16 33 Z f cq λa f=> ?_
                refine Ak 17 33 Z f cq λa f=>Ak 18 33 Z f cq λa f=>AW 19 33 Z f λa f=>AW 20 33 Z f λa f=>AW 21 33 Z f λa f=>AW 22 33 Z f λa f=>AW 23 33 Z f λa f=>AW 24 33 Z f λa f=>AW 25 33 Z f λa f=>AW 26 33 Z f λa f=>AW 27 33 Z f λa f=>AW 28 33 Z f λa f=>AW 29 33 Z f λa f=>AW 30 33 Z f λa f=>Ak 31 33 Z f cq λa f=>q_p 32 33 Z f (λ_=>AD (f.e Z) cq (f.e Z)) λa f=> ?_
                obtain rfl:=sj cl
                exact cp _ (f.k Z)
               ·refine Ag (hw:=wo f cq) 16 33 Z f Z λa f=> ?_
                refine q_p (hw:=wo f cq) 17 33 Z f (λ_=>Az (f.e Z) (f.e Z) CF) λa f=>Ag (hw:=wo f cq) 18 33 Z f Z λa f=> ?_
                have⟨cr,ct,cl⟩:=bind_some cl
                refine BN (fuel':=1) (listed':= #[true,true,true,true,true,true,true,true,true,true,true,true,true,true,true,true,true,true,true,true,true,true,true,true,true,true,true,true,true,true,true,true,false]) (λa=>Fr a 204 [(4,(pb aD)),(6,(.bool aH.2)),(7,aX),(8,(.bool aQ.2)),(9,(iv bl)),(10,(iv bs)),(11,bV),(12,(iv b5)),(81,(.bool (decide (b5<(bO.length:Int))))),(84,bV),(85,(iv b5)),(86,ce),(87,(iv cc)),(88,(iv bs)),(89,(.bool (cc==bs))),(90,(.bool (cc==bs))),(98,(.bool ci)),(99,(.bool ci)),(100,(iv b5)),(101,(.bool (decide ((0:Int)<b5)))),(102,(.bool (decide ((0:Int)<b5)))),(115,(.bool cr))]) ?_ ?_
                ·intro a f
                 refine q_p 32 33 Z f (λ_=>AC (f.e Z) cq (f.e Z)) λa f=> ?_
                 obtain rfl:=sj cl
                 exact cp _ (f.k Z)
                ·intro cu
                 rcases Ae ct with⟨cv,ct⟩|⟨cv,ct⟩
                 ·refine BR (i:=19) (ds:=[ay]) 33 0 Bj Z Z Z Z (by kernel_rfl) Z f (AS f Z Z Z cv) Z Z λa f=> ?_
                  refine Ag (hw:=wo f cv) 20 33 Z f Z λa f=>Ag (hw:=wo f cv) 21 33 Z f Z λa f=>q_p (hw:=wo f cv) 22 33 Z f (λ_=>Az (f.e Z) (f.e Z) AT) λa f=> ?_
                  have⟨cw,cx,ct⟩:=bind_some ct
                  refine AG (hw:=wo f cv) 23 33 2 m bX T31 cx Z f Z Z λcy a cz f=>AO (hw:=wo f cv) 24 33 2 bX Pl2 cz cx Z f Z λcA a cB f=> ?_
                  subst cB
                  refine Ag (hw:=wo f cv) 25 33 Z f Z λa f=>Ag (hw:=wo f cv) 26 33 Z f Z λa f=> ?_
                  have⟨cC,cD,ct⟩:=bind_some ct
                  refine AG (hw:=wo f cv) 27 33 2 m bX T31 cD Z f Z Z λcE a cF f=>AO (hw:=wo f cv) 28 33 2 bX Pl2 cF cD Z f Z λcG a cH f=> ?_
                  subst cH
                  have⟨cI,cJ,ct⟩:=bind_some ct
                  refine BP (i:=29) 33 Z (by kernel_rfl) Z f (AS f Z Z Z cv) Z Z call13 (λ_ _ w cK m=>Wk.e m (rd2 cK aG) cJ) λa f=>q_p (hw:=wo f cv) 30 33 Z f (λ_=>Bv (f.e Z)) λa f=>q_p (hw:=wo f cq) 31 33 Z f (λ_=>AD (f.e Z) cv (f.e Z)) λa f=> ?_
                  obtain rfl:=sj ct
                  exact cu _ (f.k Z)
                 ·refine Ak 19 33 Z f cv λa f=> ?_
                  refine Ak 20 33 Z f cv λa f=>Ak 21 33 Z f cv λa f=>Ak 22 33 Z f cv λa f=>Ak 23 33 Z f cv λa f=>Ak 24 33 Z f cv λa f=>Ak 25 33 Z f cv λa f=>Ak 26 33 Z f cv λa f=>Ak 27 33 Z f cv λa f=>Ak 28 33 Z f cv λa f=>Ak 29 33 Z f cv λa f=>Ak 30 33 Z f cv λa f=>q_p (hw:=wo f cq) 31 33 Z f (λ_=>AC (f.e Z) cv (f.e Z)) λa f=> ?_
                  obtain rfl:=sj ct
                  exact cu _ (f.k Z)
             ·intro cL
              rcases Ae cj with⟨cM,cj⟩|⟨cM,cj⟩
              ·refine Ak 7 33 Z f cM λa f=> ?_
               refine Ak 8 33 Z f cM λa f=>Ak 9 33 Z f cM λa f=>Ak 10 33 Z f cM λa f=>Ak 11 33 Z f cM λa f=>Ak 12 33 Z f cM λa f=>Ak 13 33 Z f cM λa f=>q_p 14 33 Z f (λ_=>AD (f.e Z) cM (f.e Z)) λa f=> ?_
               obtain rfl:=sj cj
               exact cL _ (f.k Z)
              ·refine BR (i:=7) (ds:=[ay]) 33 0 Bj Z Z Z Z (by kernel_rfl) Z f (AS f Z Z Z cM) Z Z λa f=> ?_
               refine Ag (hw:=wo f cM) 8 33 Z f Z λa f=>Ag (hw:=wo f cM) 9 33 Z f Z λa f=> ?_
               have⟨cN,cO,cj⟩:=bind_some cj
               refine AG (hw:=wo f cM) 10 33 2 m bX T31 cO Z f Z Z λcP a cQ f=>AO (hw:=wo f cM) 11 33 2 bX Pl2 cQ cO Z f Z λcR a cS f=> ?_
               subst cS
               refine Ag (hw:=wo f cM) 12 33 Z f Z λa f=> ?_
               have⟨cT,cU,cj⟩:=bind_some cj
               refine BP (i:=13) 33 Z (by kernel_rfl) Z f (AS f Z Z Z cM) Z Z call13 (λ_ _ w cV m=>Wk.e m (rd2 cV aG) cU) λa f=>q_p 14 33 Z f (λ_=>AC (f.e Z) cM (f.e Z)) λa f=> ?_
               obtain rfl:=sj cj
               exact cL _ (f.k Z)
            ·refine Aj f Z cb ?_
             refine AF Z ?_
             have m:=m.eraseAt 2
             obtain rfl:=sj b8
             obtain rfl:=b9 _ rfl
             exact⟨_,Z,_,ca,f.k Z,m⟩
           ·rintro a w ⟨_,rfl,b3,cW,f,m⟩
            refine Ap ?_
            refine Aa f Z λa f=>Ai f Z Z Ax λa f=>Ac f Z λa f=>Ab ?_
            obtain rfl:=sj bo
            exact⟨_,Z,_,Z,_,(gt bq (gt bM (gt bT (gt bZ cW)))),f.k Z,m⟩
         ·refine Aj f Z br ?_
          refine AF Z ?_
          have m:=m.eraseAt 1
          obtain rfl:=sj bo
          obtain rfl:=bp _ rfl
          exact⟨_,Z,_,bq,f.k Z,m⟩
        ·rintro a w ⟨_,rfl,bj,cX,f,m⟩
         obtain rfl:=sj a9
         exact⟨_,Z,_,(gt bf cX),f.k Z,m⟩
      ·intro cY
       rcases Ae bd with⟨cZ,bd⟩|⟨cZ,bd⟩
       ·refine Ak 4 13 Z f cZ λa f=> ?_
        refine Ak 5 13 Z f cZ λa f=>Ak 6 13 Z f cZ λa f=>Ak 7 13 Z f cZ λa f=>Ak 8 13 Z f cZ λa f=>Ak 9 13 Z f cZ λa f=>Ak 10 13 Z f cZ λa f=>Ak 11 13 Z f cZ λa f=>q_p 12 13 Z f (λ_=>AD (f.e Z) cZ (f.e Z)) λa f=> ?_
        obtain rfl:=sj bd
        exact cY _ (f.k Z)
       ·refine BR (i:=4) (ds:=[ay]) 13 1 Bj Z Z Z Z (by kernel_rfl) Z f (AS f Z Z Z cZ) Z Z λa f=> ?_
        refine Ag (hw:=wo f cZ) 5 13 Z f Z λa f=> ?_
        have⟨c0,c1,bd⟩:=bind_some bd
        refine AG (hw:=wo f cZ) 6 13 0 m aZ T31 c1 Z f Z Z λc2 a c3 f=>AO (hw:=wo f cZ) 7 13 0 aZ Pl2 c3 c1 Z f Z λc4 a c5 f=> ?_
        subst c5
        refine Ag (hw:=wo f cZ) 8 13 Z f Z λa f=> ?_
        have⟨c6,c7,bd⟩:=bind_some bd
        refine AG (hw:=wo f cZ) 9 13 0 m aZ T31 c7 Z f Z Z λc8 a c9 f=>AO (hw:=wo f cZ) 10 13 0 aZ Pl2 c9 c7 Z f Z λda a db f=> ?_
        subst db
        have⟨dc,dd,bd⟩:=bind_some bd
        refine BP (i:=11) 13 Z (by kernel_rfl) Z f (AS f Z Z Z cZ) Z Z call13 (λ_ _ w de m=>Wk.e m (rd2 de aG) dd) λa f=>q_p 12 13 Z f (λ_=>AC (f.e Z) cZ (f.e Z)) λa f=> ?_
        obtain rfl:=sj bd
        exact cY _ (f.k Z)
     ·refine Aj f Z bb ?_
      refine Ao ?_
      have m:=m.fr 1
      have m:=m.eraseAt 2
      have m:=m.eraseAt 1
      obtain rfl:=sj a9
      exact⟨_,Z,_,gr,f.k Z,m⟩
    ·rintro a w ⟨_,rfl,ba,df,f,m⟩
     have aG:=rd2 df aG
     refine Af ?_
     refine A7 0 0 (ds:=[ay]) m Bj f Z Z Z Z Z λa f=> ?_
     have⟨dg,dh,hd⟩:=bind_some hd
     refine AK f Z call15 (Wk.C hW m aG dh) λdi dj dk w dl m dm a f=> ?_
     obtain⟨dn,dp,rfl,rfl,dq⟩:=dm
     have aG:=rd2 dl aG
     refine Aa f Z λa f=>l_o f (Bg (f.e Z) Z) λa f=>l_o f (Bg (f.e Z) Z) λa f=>Ac f Z λa f=>Ac f Z λa f=>Ab (Ah (Ah ?_))
     refine Bf 69 AI (by kernel_rfl) m ?_
     refine Ag 0 69 Z f Z λa f=>Ag 1 69 Z f Z λa f=> ?_
     have⟨dr,dt,hd⟩:=bind_some hd
     refine BN (fuel':=0) (listed':= #[true,true,true,true,true,true,true,true,true,true,true,true,true,true,true,true,true,true,true,true,true,true,true,true,true,true,true,true,true,true,true,true,true,true,true,true,true,true,true,true,true,true,true,true,true,true,true,true,true,true,true,true,true,true,true,true,true,true,true,true,true,true,true,true,true,true,true,true,true]) (λa=>Fr a 204 [(4,(pb aD)),(6,(.bool aH.2)),(8,(.bool aQ.2)),(13,dn),(14,(.bool dg.2)),(122,(.bool dg.2)),(123,(.bool dg.2)),(190,(.bool dr))]) ?_ ?_
     ·intro a f
      refine A4 λdu w dv m=> ?_
      have aG:=rd2 dv aG
      refine Ab ?_
      rcases Ae hd with⟨dw,hd⟩|⟨dw,hd⟩
      ·refine Am f Z dw ?_
       refine Af ?_
       refine Ac f Z λa f=>Ab ?_
       refine Ar ?_
       have m:Mem W du w H:=Mem.drop (H':=[dp,ib aD 29 [ay]]) m
       obtain rfl:=sj hd
       exact⟨[(.bool false)],f.g Z,f.d,_,[],(gt ad (gt ak (gt aw (gt aF (gt aM (gt aV (gt a3 (gt a6 (gt df (gt dl dv)))))))))),m,Z,Z⟩
      ·refine Aj f Z dw ?_
       refine Ao ?_
       refine Af ?_
       refine A7 1 0 (ds:=[ay]) m Bj f Z Z Z Z Z λa f=> ?_
       have⟨dx,dy,hd⟩:=bind_some hd
       refine Ba f Z call16 (Wk.n0 hW m aG dy) λdz w dA m a f=>Aa f Z λa f=>l_o f (Bv (f.e Z)) λa f=>Aa f Z λa f=> ?_
       refine Bu 3 (λa w=>∃dB,GLe dz dB∧Mem W dB w (dp::ib aD 29 [ay]::H)∧Fr a 204 [(4,(pb aD)),(6,(.bool aH.2)),(8,(.bool aQ.2)),(13,dn),(14,(.bool dg.2)),(190,(.bool dr)),(191,(.agg #[ay])),(192,(.bool dx)),(193,(.bool dg.2)),(194,(.bool (!dg.2))),(195,(.bool (!dg.2))),(198,(.bool ((!dg.2)&&(!aH.2))))]) ?_ ?_
       ·rcases Bool.eq_false_or_eq_true (!dg.2) with dC|dC
        ·refine Au f dC ?_
         refine Aa f Z λa f=>Au f dC ?_
         refine l_o f (Bv (f.e Z)) λa f=>l_o f (AD (f.e Z) dC (f.e Z)) λa f=> ?_
         exact⟨_,gr,m,f.weak ⟨Z,Z,Z,Z,Z,Z,Z,Z,Z,Z,Z,by rw[dC];rfl,trivial⟩⟩
        ·refine Aw f dC λa f=> ?_
         refine Aw f dC λa f=>l_o f (AC (f.e Z) dC (f.e Z)) λa f=> ?_
         exact⟨_,gr,m,f.weak ⟨Z,Z,Z,Z,Z,Z,Z,Z,Z,Z,Z,by rw[dC];rfl,trivial⟩⟩
       ·rintro a w ⟨dB,dD,m,f⟩
        refine Aa f Z λa f=> ?_
        refine Bu 3 (λa w=>∃dE,GLe dB dE∧Mem W dE w (dp::ib aD 29 [ay]::H)∧Fr a 204 [(4,(pb aD)),(6,(.bool aH.2)),(8,(.bool aQ.2)),(13,dn),(14,(.bool dg.2)),(190,(.bool dr)),(191,(.agg #[ay])),(192,(.bool dx)),(193,(.bool dg.2)),(194,(.bool (!dg.2))),(195,(.bool (!dg.2))),(198,(.bool ((!dg.2)&&(!aH.2)))),(199,(.bool ((!dg.2)&&(!aH.2)))),(202,(.bool (((!dg.2)&&(!aH.2))&&(!aQ.2))))]) ?_ ?_
        ·rcases Bool.eq_false_or_eq_true ((!dg.2)&&(!aH.2)) with dF|dF
         ·refine Au f dF ?_
          refine Aa f Z λa f=>Au f dF ?_
          refine l_o f (Bv (f.e Z)) λa f=>l_o f (AD (f.e Z) dF (f.e Z)) λa f=> ?_
          exact⟨_,gr,m,f.weak ⟨Z,Z,Z,Z,Z,Z,Z,Z,Z,Z,Z,Z,Z,by rw[dF];rfl,trivial⟩⟩
         ·refine Aw f dF λa f=> ?_
          refine Aw f dF λa f=>l_o f (AC (f.e Z) dF (f.e Z)) λa f=> ?_
          exact⟨_,gr,m,f.weak ⟨Z,Z,Z,Z,Z,Z,Z,Z,Z,Z,Z,Z,Z,by rw[dF];rfl,trivial⟩⟩
        ·rintro a w ⟨dE,dG,m,f⟩
         refine l_o f (r_bool_eql (f.e Z) (f.e Z) underlying4) λa f=>Ac f Z λa f=>Ab ?_
         refine Ar ?_
         have m:Mem W dE w H:=Mem.drop (H':=[dp,ib aD 29 [ay]]) m
         obtain rfl:=sj hd
         exact⟨[(.bool (dx==(((!dg.2)&&(!aH.2))&&(!aQ.2))))],f.g Z,f.d,_,[],(gt ad (gt ak (gt aw (gt aF (gt aM (gt aV (gt a3 (gt a6 (gt df (gt dl (gt dv (gt dA (gt dD dG))))))))))))),m,Z,Z⟩
     ·intro dH
      rcases Ae dt with⟨dI,dt⟩|⟨dI,dt⟩
      ·refine Ag (hw:=wo f dI) 2 69 Z f Z λa f=> ?_
       refine q_own_len (i:=3) 69 0 m dq Z underlying31 Z (by kernel_rfl) Z f (AS f Z Z Z dI) Z Z λa f=>q_p (hw:=wo f dI) 4 69 Z f (λ_=>Az (f.e Z) (f.e Z) C4) λa f=>Ag (hw:=wo f dI) 5 69 Z f Z λa f=> ?_
       have⟨dJ,dK,dt⟩:=bind_some dt
       refine BN (fuel':=53) (listed':= #[true,true,true,true,true,true,true,true,true,true,true,true,true,true,true,true,false,false,false,false,false,false,false,false,false,false,false,false,false,false,false,false,false,false,false,false,false,false,false,false,false,false,false,false,false,false,false,false,false,false,false,false,false,false,false,false,false,false,false,false,false,false,false,false,false,false,false,false,false]) (λa=>Fr a 204 [(4,(pb aD)),(6,(.bool aH.2)),(8,(.bool aQ.2)),(13,dn),(14,(.bool dg.2)),(122,(.bool dg.2)),(123,(.bool dg.2)),(124,dn),(125,(iv (dg.1.length:Int))),(126,(.bool ((dg.1.length:Int) !=4))),(127,(.bool ((dg.1.length:Int) !=4))),(137,(.bool dJ))]) ?_ ?_
       ·intro a f
        refine Ag (hw:=wo f dI) 16 69 Z f Z λa f=> ?_
        have⟨dL,dM,dt⟩:=bind_some dt
        refine BN (fuel':=42) (listed':= #[true,true,true,true,true,true,true,true,true,true,true,true,true,true,true,true,true,true,true,true,true,true,true,true,true,true,true,false,false,false,false,false,false,false,false,false,false,false,false,false,false,false,false,false,false,false,false,false,false,false,false,false,false,false,false,false,false,false,false,false,false,false,false,false,false,false,false,false,false]) (λa=>Fr a 204 [(4,(pb aD)),(6,(.bool aH.2)),(8,(.bool aQ.2)),(13,dn),(14,(.bool dg.2)),(122,(.bool dg.2)),(123,(.bool dg.2)),(124,dn),(125,(iv (dg.1.length:Int))),(126,(.bool ((dg.1.length:Int) !=4))),(127,(.bool ((dg.1.length:Int) !=4))),(137,(.bool dJ)),(138,(.bool dJ)),(148,(.bool dL))]) ?_ ?_
        ·intro a f
         refine Ag (hw:=wo f dI) 27 69 Z f Z λa f=> ?_
         have⟨dN,dO,dt⟩:=bind_some dt
         refine BN (fuel':=31) (listed':= #[true,true,true,true,true,true,true,true,true,true,true,true,true,true,true,true,true,true,true,true,true,true,true,true,true,true,true,true,true,true,true,true,true,true,true,true,true,true,false,false,false,false,false,false,false,false,false,false,false,false,false,false,false,false,false,false,false,false,false,false,false,false,false,false,false,false,false,false,false]) (λa=>Fr a 204 [(4,(pb aD)),(6,(.bool aH.2)),(8,(.bool aQ.2)),(13,dn),(14,(.bool dg.2)),(122,(.bool dg.2)),(123,(.bool dg.2)),(124,dn),(125,(iv (dg.1.length:Int))),(126,(.bool ((dg.1.length:Int) !=4))),(127,(.bool ((dg.1.length:Int) !=4))),(137,(.bool dJ)),(138,(.bool dJ)),(148,(.bool dL)),(149,(.bool dL)),(159,(.bool dN))]) ?_ ?_
         ·intro a f
          refine Ag (hw:=wo f dI) 38 69 Z f Z λa f=> ?_
          have⟨dP,dQ,dt⟩:=bind_some dt
          refine BN (fuel':=21) (listed':= #[true,true,true,true,true,true,true,true,true,true,true,true,true,true,true,true,true,true,true,true,true,true,true,true,true,true,true,true,true,true,true,true,true,true,true,true,true,true,true,true,true,true,true,true,true,true,true,true,false,false,false,false,false,false,false,false,false,false,false,false,false,false,false,false,false,false,false,false,false]) (λa=>Fr a 204 [(4,(pb aD)),(6,(.bool aH.2)),(8,(.bool aQ.2)),(13,dn),(14,(.bool dg.2)),(122,(.bool dg.2)),(123,(.bool dg.2)),(124,dn),(125,(iv (dg.1.length:Int))),(126,(.bool ((dg.1.length:Int) !=4))),(127,(.bool ((dg.1.length:Int) !=4))),(137,(.bool dJ)),(138,(.bool dJ)),(148,(.bool dL)),(149,(.bool dL)),(159,(.bool dN)),(160,(.bool dN)),(169,(.bool dP))]) ?_ ?_
          ·intro a f
           refine Ag (hw:=wo f dI) 48 69 Z f Z λa f=> ?_
           have⟨dR,dS,dt⟩:=bind_some dt
           refine BN (fuel':=11) (listed':= #[true,true,true,true,true,true,true,true,true,true,true,true,true,true,true,true,true,true,true,true,true,true,true,true,true,true,true,true,true,true,true,true,true,true,true,true,true,true,true,true,true,true,true,true,true,true,true,true,true,true,true,true,true,true,true,true,true,true,false,false,false,false,false,false,false,false,false,false,false]) (λa=>Fr a 204 [(4,(pb aD)),(6,(.bool aH.2)),(8,(.bool aQ.2)),(13,dn),(14,(.bool dg.2)),(122,(.bool dg.2)),(123,(.bool dg.2)),(124,dn),(125,(iv (dg.1.length:Int))),(126,(.bool ((dg.1.length:Int) !=4))),(127,(.bool ((dg.1.length:Int) !=4))),(137,(.bool dJ)),(138,(.bool dJ)),(148,(.bool dL)),(149,(.bool dL)),(159,(.bool dN)),(160,(.bool dN)),(169,(.bool dP)),(170,(.bool dP)),(179,(.bool dR))]) ?_ ?_
           ·intro a f
            refine Ag (hw:=wo f dI) 58 69 Z f Z λa f=> ?_
            have⟨dT,dU,dt⟩:=bind_some dt
            refine BN (fuel':=1) (listed':= #[true,true,true,true,true,true,true,true,true,true,true,true,true,true,true,true,true,true,true,true,true,true,true,true,true,true,true,true,true,true,true,true,true,true,true,true,true,true,true,true,true,true,true,true,true,true,true,true,true,true,true,true,true,true,true,true,true,true,true,true,true,true,true,true,true,true,true,true,false]) (λa=>Fr a 204 [(4,(pb aD)),(6,(.bool aH.2)),(8,(.bool aQ.2)),(13,dn),(14,(.bool dg.2)),(122,(.bool dg.2)),(123,(.bool dg.2)),(124,dn),(125,(iv (dg.1.length:Int))),(126,(.bool ((dg.1.length:Int) !=4))),(127,(.bool ((dg.1.length:Int) !=4))),(137,(.bool dJ)),(138,(.bool dJ)),(148,(.bool dL)),(149,(.bool dL)),(159,(.bool dN)),(160,(.bool dN)),(169,(.bool dP)),(170,(.bool dP)),(179,(.bool dR)),(180,(.bool dR)),(189,(.bool dT))]) ?_ ?_
            ·intro a f
             refine q_p 68 69 Z f (λ_=>AD (f.e Z) dI (f.e Z)) λa f=> ?_
             obtain rfl:=sj dt
             exact dH _ (f.k Z)
            ·intro dV
             rcases Ae dU with⟨dW,dU⟩|⟨dW,dU⟩
             ·refine Ak 59 69 Z f dW λa f=> ?_
              refine Ak 60 69 Z f dW λa f=>Ak 61 69 Z f dW λa f=>Ak 62 69 Z f dW λa f=>Ak 63 69 Z f dW λa f=>Ak 64 69 Z f dW λa f=>Ak 65 69 Z f dW λa f=>Ak 66 69 Z f dW λa f=>q_p (hw:=wo f dI) 67 69 Z f (λ_=>AD (f.e Z) dW (f.e Z)) λa f=> ?_
              obtain rfl:=sj dU
              exact dV _ (f.k Z)
             ·refine BR (i:=59) (ds:=[ay]) 69 1 Bj Z Z Z Z (by kernel_rfl) Z f (AS f Z Z Z dW) Z Z λa f=> ?_
              refine Ag (hw:=wo f dW) 60 69 Z f Z λa f=> ?_
              have⟨dX,dY,dU⟩:=bind_some dU
              refine AG (hw:=wo f dW) 61 69 0 m dq T31 dY Z f Z Z λdZ a d0 f=>AO (hw:=wo f dW) 62 69 0 dq Pl2 d0 dY Z f Z λd1 a d2 f=> ?_
              subst d2
              refine Ag (hw:=wo f dW) 63 69 Z f Z λa f=> ?_
              have⟨d3,d4,dU⟩:=bind_some dU
              refine AG (hw:=wo f dW) 64 69 0 m dq T31 d4 Z f Z Z λd5 a d6 f=>AO (hw:=wo f dW) 65 69 0 dq Pl2 d6 d4 Z f Z λd7 a d8 f=> ?_
              subst d8
              have⟨d9,ea,dU⟩:=bind_some dU
              refine BP (i:=66) 69 Z (by kernel_rfl) Z f (AS f Z Z Z dW) Z Z call13 (λ_ _ w eb m=>Wk.e m (rd2 eb aG) ea) λa f=>q_p (hw:=wo f dI) 67 69 Z f (λ_=>AC (f.e Z) dW (f.e Z)) λa f=> ?_
              obtain rfl:=sj dU
              exact dV _ (f.k Z)
           ·intro ec
            rcases Ae dS with⟨ed,dS⟩|⟨ed,dS⟩
            ·refine Ak 49 69 Z f ed λa f=> ?_
             refine Ak 50 69 Z f ed λa f=>Ak 51 69 Z f ed λa f=>Ak 52 69 Z f ed λa f=>Ak 53 69 Z f ed λa f=>Ak 54 69 Z f ed λa f=>Ak 55 69 Z f ed λa f=>Ak 56 69 Z f ed λa f=>q_p (hw:=wo f dI) 57 69 Z f (λ_=>AD (f.e Z) ed (f.e Z)) λa f=> ?_
             obtain rfl:=sj dS
             exact ec _ (f.k Z)
            ·refine BR (i:=49) (ds:=[ay]) 69 1 Bj Z Z Z Z (by kernel_rfl) Z f (AS f Z Z Z ed) Z Z λa f=> ?_
             refine Ag (hw:=wo f ed) 50 69 Z f Z λa f=> ?_
             have⟨ee,ef,dS⟩:=bind_some dS
             refine AG (hw:=wo f ed) 51 69 0 m dq T31 ef Z f Z Z λeg a eh f=>AO (hw:=wo f ed) 52 69 0 dq Pl2 eh ef Z f Z λei a ej f=> ?_
             subst ej
             refine Ag (hw:=wo f ed) 53 69 Z f Z λa f=> ?_
             have⟨ek,el,dS⟩:=bind_some dS
             refine AG (hw:=wo f ed) 54 69 0 m dq T31 el Z f Z Z λem a en f=>AO (hw:=wo f ed) 55 69 0 dq Pl2 en el Z f Z λeo a ep f=> ?_
             subst ep
             have⟨eq,er,dS⟩:=bind_some dS
             refine BP (i:=56) 69 Z (by kernel_rfl) Z f (AS f Z Z Z ed) Z Z call13 (λ_ _ w es m=>Wk.e m (rd2 es aG) er) λa f=>q_p (hw:=wo f dI) 57 69 Z f (λ_=>AC (f.e Z) ed (f.e Z)) λa f=> ?_
             obtain rfl:=sj dS
             exact ec _ (f.k Z)
          ·intro et
           rcases Ae dQ with⟨eu,dQ⟩|⟨eu,dQ⟩
           ·refine Ak 39 69 Z f eu λa f=> ?_
            refine Ak 40 69 Z f eu λa f=>Ak 41 69 Z f eu λa f=>Ak 42 69 Z f eu λa f=>Ak 43 69 Z f eu λa f=>Ak 44 69 Z f eu λa f=>Ak 45 69 Z f eu λa f=>Ak 46 69 Z f eu λa f=>q_p (hw:=wo f dI) 47 69 Z f (λ_=>AD (f.e Z) eu (f.e Z)) λa f=> ?_
            obtain rfl:=sj dQ
            exact et _ (f.k Z)
           ·refine BR (i:=39) (ds:=[ay]) 69 1 Bj Z Z Z Z (by kernel_rfl) Z f (AS f Z Z Z eu) Z Z λa f=> ?_
            refine Ag (hw:=wo f eu) 40 69 Z f Z λa f=> ?_
            have⟨ev,ew,dQ⟩:=bind_some dQ
            refine AG (hw:=wo f eu) 41 69 0 m dq T31 ew Z f Z Z λex a ey f=>AO (hw:=wo f eu) 42 69 0 dq Pl2 ey ew Z f Z λez a eA f=> ?_
            subst eA
            refine Ag (hw:=wo f eu) 43 69 Z f Z λa f=> ?_
            have⟨eB,eC,dQ⟩:=bind_some dQ
            refine AG (hw:=wo f eu) 44 69 0 m dq T31 eC Z f Z Z λeD a eE f=>AO (hw:=wo f eu) 45 69 0 dq Pl2 eE eC Z f Z λeF a eG f=> ?_
            subst eG
            have⟨eH,eI,dQ⟩:=bind_some dQ
            refine BP (i:=46) 69 Z (by kernel_rfl) Z f (AS f Z Z Z eu) Z Z call13 (λ_ _ w eJ m=>Wk.e m (rd2 eJ aG) eI) λa f=>q_p (hw:=wo f dI) 47 69 Z f (λ_=>AC (f.e Z) eu (f.e Z)) λa f=> ?_
            obtain rfl:=sj dQ
            exact et _ (f.k Z)
         ·intro eK
          rcases Ae dO with⟨eL,dO⟩|⟨eL,dO⟩
          ·refine Ak 28 69 Z f eL λa f=> ?_
           refine Ak 29 69 Z f eL λa f=>Ak 30 69 Z f eL λa f=>Ak 31 69 Z f eL λa f=>Ak 32 69 Z f eL λa f=>Ak 33 69 Z f eL λa f=>Ak 34 69 Z f eL λa f=>Ak 35 69 Z f eL λa f=>Ak 36 69 Z f eL λa f=>q_p (hw:=wo f dI) 37 69 Z f (λ_=>AD (f.e Z) eL (f.e Z)) λa f=> ?_
           obtain rfl:=sj dO
           exact eK _ (f.k Z)
          ·refine BR (i:=28) (ds:=[ay]) 69 1 Bj Z Z Z Z (by kernel_rfl) Z f (AS f Z Z Z eL) Z Z λa f=> ?_
           refine Ag (hw:=wo f eL) 29 69 Z f Z λa f=> ?_
           have⟨eM,eN,dO⟩:=bind_some dO
           refine AG (hw:=wo f eL) 30 69 0 m dq T31 eN Z f Z Z λeO a eP f=>AO (hw:=wo f eL) 31 69 0 dq Pl2 eP eN Z f Z λeQ a eR f=> ?_
           subst eR
           refine Ag (hw:=wo f eL) 32 69 Z f Z λa f=> ?_
           have⟨eS,eT,dO⟩:=bind_some dO
           refine AG (hw:=wo f eL) 33 69 0 m dq T31 eT Z f Z Z λeU a eV f=>AO (hw:=wo f eL) 34 69 0 dq Pl2 eV eT Z f Z λeW a eX f=> ?_
           subst eX
           have⟨eY,eZ,dO⟩:=bind_some dO
           refine BP (i:=35) 69 Z (by kernel_rfl) Z f (AS f Z Z Z eL) Z Z call13 (λ_ _ w e0 m=>Wk.e m (rd2 e0 aG) eZ) λa f=>q_p (hw:=wo f eL) 36 69 Z f (λ_=>Bv (f.e Z)) λa f=>q_p (hw:=wo f dI) 37 69 Z f (λ_=>AC (f.e Z) eL (f.e Z)) λa f=> ?_
           obtain rfl:=sj dO
           exact eK _ (f.k Z)
        ·intro e1
         rcases Ae dM with⟨e2,dM⟩|⟨e2,dM⟩
         ·refine Ak 17 69 Z f e2 λa f=> ?_
          refine Ak 18 69 Z f e2 λa f=>Ak 19 69 Z f e2 λa f=>Ak 20 69 Z f e2 λa f=>Ak 21 69 Z f e2 λa f=>Ak 22 69 Z f e2 λa f=>Ak 23 69 Z f e2 λa f=>Ak 24 69 Z f e2 λa f=>Ak 25 69 Z f e2 λa f=>q_p (hw:=wo f dI) 26 69 Z f (λ_=>AD (f.e Z) e2 (f.e Z)) λa f=> ?_
          obtain rfl:=sj dM
          exact e1 _ (f.k Z)
         ·refine BR (i:=17) (ds:=[ay]) 69 1 Bj Z Z Z Z (by kernel_rfl) Z f (AS f Z Z Z e2) Z Z λa f=> ?_
          refine Ag (hw:=wo f e2) 18 69 Z f Z λa f=> ?_
          have⟨e3,e4,dM⟩:=bind_some dM
          refine AG (hw:=wo f e2) 19 69 0 m dq T31 e4 Z f Z Z λe5 a e6 f=>AO (hw:=wo f e2) 20 69 0 dq Pl2 e6 e4 Z f Z λe7 a e8 f=> ?_
          subst e8
          refine Ag (hw:=wo f e2) 21 69 Z f Z λa f=> ?_
          have⟨e9,fa,dM⟩:=bind_some dM
          refine AG (hw:=wo f e2) 22 69 0 m dq T31 fa Z f Z Z λfb a fc f=>AO (hw:=wo f e2) 23 69 0 dq Pl2 fc fa Z f Z λfd a fe f=> ?_
          subst fe
          have⟨ff,fg,dM⟩:=bind_some dM
          refine BP (i:=24) 69 Z (by kernel_rfl) Z f (AS f Z Z Z e2) Z Z call13 (λ_ _ w fh m=>Wk.e m (rd2 fh aG) fg) λa f=>q_p (hw:=wo f e2) 25 69 Z f (λ_=>Bv (f.e Z)) λa f=>q_p (hw:=wo f dI) 26 69 Z f (λ_=>AC (f.e Z) e2 (f.e Z)) λa f=> ?_
          obtain rfl:=sj dM
          exact e1 _ (f.k Z)
       ·intro fi
        rcases Ae dK with⟨fj,dK⟩|⟨fj,dK⟩
        ·refine Ak 6 69 Z f fj λa f=> ?_
         refine Ak 7 69 Z f fj λa f=>Ak 8 69 Z f fj λa f=>Ak 9 69 Z f fj λa f=>Ak 10 69 Z f fj λa f=>Ak 11 69 Z f fj λa f=>Ak 12 69 Z f fj λa f=>Ak 13 69 Z f fj λa f=>Ak 14 69 Z f fj λa f=>q_p (hw:=wo f dI) 15 69 Z f (λ_=>AD (f.e Z) fj (f.e Z)) λa f=> ?_
         obtain rfl:=sj dK
         exact fi _ (f.k Z)
        ·refine BR (i:=6) (ds:=[ay]) 69 1 Bj Z Z Z Z (by kernel_rfl) Z f (AS f Z Z Z fj) Z Z λa f=> ?_
         refine Ag (hw:=wo f fj) 7 69 Z f Z λa f=> ?_
         have⟨fk,fl,dK⟩:=bind_some dK
         refine AG (hw:=wo f fj) 8 69 0 m dq T31 fl Z f Z Z λfm a fo f=>AO (hw:=wo f fj) 9 69 0 dq Pl2 fo fl Z f Z λfp a fq f=> ?_
         subst fq
         refine Ag (hw:=wo f fj) 10 69 Z f Z λa f=> ?_
         have⟨fs,ft,dK⟩:=bind_some dK
         refine AG (hw:=wo f fj) 11 69 0 m dq T31 ft Z f Z Z λfu a fv f=>AO (hw:=wo f fj) 12 69 0 dq Pl2 fv ft Z f Z λfw a fx f=> ?_
         subst fx
         have⟨fy,fz,dK⟩:=bind_some dK
         refine BP (i:=13) 69 Z (by kernel_rfl) Z f (AS f Z Z Z fj) Z Z call13 (λ_ _ w fA m=>Wk.e m (rd2 fA aG) fz) λa f=>q_p (hw:=wo f fj) 14 69 Z f (λ_=>Bv (f.e Z)) λa f=>q_p (hw:=wo f dI) 15 69 Z f (λ_=>AC (f.e Z) fj (f.e Z)) λa f=> ?_
         obtain rfl:=sj dK
         exact fi _ (f.k Z)
      ·refine Ak 2 69 Z f dI λa f=> ?_
       refine Ak 3 69 Z f dI λa f=>Ak 4 69 Z f dI λa f=>Ak 5 69 Z f dI λa f=>AW 6 69 Z f λa f=>AW 7 69 Z f λa f=>AW 8 69 Z f λa f=>AW 9 69 Z f λa f=>AW 10 69 Z f λa f=>AW 11 69 Z f λa f=>AW 12 69 Z f λa f=>AW 13 69 Z f λa f=>AW 14 69 Z f λa f=>Ak 15 69 Z f dI λa f=>Ak 16 69 Z f dI λa f=>AW 17 69 Z f λa f=>AW 18 69 Z f λa f=>AW 19 69 Z f λa f=>AW 20 69 Z f λa f=>AW 21 69 Z f λa f=>AW 22 69 Z f λa f=>AW 23 69 Z f λa f=>AW 24 69 Z f λa f=>AW 25 69 Z f λa f=>Ak 26 69 Z f dI λa f=>Ak 27 69 Z f dI λa f=>AW 28 69 Z f λa f=>AW 29 69 Z f λa f=>AW 30 69 Z f λa f=>AW 31 69 Z f λa f=>AW 32 69 Z f λa f=>AW 33 69 Z f λa f=>AW 34 69 Z f λa f=>AW 35 69 Z f λa f=>AW 36 69 Z f λa f=> ?_
       refine Ak 37 69 Z f dI λa f=>Ak 38 69 Z f dI λa f=>AW 39 69 Z f λa f=>AW 40 69 Z f λa f=>AW 41 69 Z f λa f=>AW 42 69 Z f λa f=>AW 43 69 Z f λa f=>AW 44 69 Z f λa f=>AW 45 69 Z f λa f=>AW 46 69 Z f λa f=>Ak 47 69 Z f dI λa f=>Ak 48 69 Z f dI λa f=>AW 49 69 Z f λa f=>AW 50 69 Z f λa f=>AW 51 69 Z f λa f=>AW 52 69 Z f λa f=>AW 53 69 Z f λa f=>AW 54 69 Z f λa f=>AW 55 69 Z f λa f=>AW 56 69 Z f λa f=>Ak 57 69 Z f dI λa f=>Ak 58 69 Z f dI λa f=>AW 59 69 Z f λa f=>AW 60 69 Z f λa f=>AW 61 69 Z f λa f=>AW 62 69 Z f λa f=>AW 63 69 Z f λa f=>AW 64 69 Z f λa f=>AW 65 69 Z f λa f=>AW 66 69 Z f λa f=>Ak 67 69 Z f dI λa f=>q_p 68 69 Z f (λ_=>AC (f.e Z) dI (f.e Z)) λa f=> ?_
       obtain rfl:=sj dt
       exact dH _ (f.k Z)
end Go.Proofs.YtmkcbhidbdggiaaDoor

namespace Go.Sx
theorem DQ (n:Int):IntKind.u32.wrap n=n%4294967296:=by simp[IntKind.wrap,IntKind.signed,IntKind.bits]
def VS (s:Int):Prop:=0≤s∧s<4294967296
def has (s:Int)(v:Nat):Bool:=s.toNat.testBit v
theorem VS.nat {s:Int}(h:VS s):∃n:Nat,s=n∧n<4294967296:=⟨s.toNat,by have:=h.1;omega,by have:=h.1;have:=h.2;omega⟩
theorem VS.zero :VS 0:=⟨by omega,by omega⟩
theorem VS.wrap (n:Int):VS (IntKind.u32.wrap n):=by rw[DQ];exact⟨by omega,by omega⟩
theorem VS.ofNat {n:Nat}(h:n<4294967296):VS (n:Int):=⟨by omega,by omega⟩
theorem BS (n v:Nat):has (n:Int) v=n.testBit v:=by simp[has]
theorem A8 (v:Nat):has 0 v=false:=by simp[has]
theorem Da (n:Nat)(h:n<4294967296):(BitVec.ofInt 32 (n:Int)).toNat=n:=by
 rw[BitVec.toNat_ofInt]
 omega
theorem ior_nat {a b:Nat}(ha:a<4294967296)(hb:b<4294967296):ior .u32 (a:Int) (b:Int)=((a|||b:Nat):Int):=by
 have hw:a|||b<4294967296:=Nat.or_lt_two_pow (n:=32) ha hb
 show IntKind.u32.wrap (((BitVec.ofInt 32 (a:Int)|||BitVec.ofInt 32 (b:Int)).toNat:Nat):Int)=_
 rw[BitVec.toNat_or,Da a ha,Da b hb,DQ];omega
theorem DR {a b:Nat}(ha:a<4294967296)(hb:b<4294967296):iand .u32 (a:Int) (b:Int)=((a&&&b:Nat):Int):=by
 have hw:a&&&b<4294967296:=Nat.and_lt_two_pow (n:=32) _ hb
 show IntKind.u32.wrap (((BitVec.ofInt 32 (a:Int)&&&BitVec.ofInt 32 (b:Int)).toNat:Nat):Int)=_
 rw[BitVec.toNat_and,Da a ha,Da b hb,DQ];omega
theorem VS.ior (a b:Int):VS (ior .u32 a b):=VS.wrap _
theorem VS.iand (a b:Int):VS (iand .u32 a b):=VS.wrap _
theorem VS.iandNot (a b:Int):VS (iandNot .u32 a b):=VS.wrap _
theorem VS.ishl (a b:Int):VS (ishl .u32 a b):=VS.wrap _
theorem Bo {a b:Int}(ha:VS a)(hb:VS b)(v:Nat):has (ior .u32 a b) v=(has a v||has b v):=by
 obtain⟨m,rfl,hm⟩:=ha.nat;obtain⟨n,rfl,hn⟩:=hb.nat
 rw[ior_nat hm hn];simp only[BS,Nat.testBit_or]
theorem Ck {a b:Int}(ha:VS a)(hb:VS b)(v:Nat):has (iand .u32 a b) v=(has a v&&has b v):=by
 obtain⟨m,rfl,hm⟩:=ha.nat;obtain⟨n,rfl,hn⟩:=hb.nat
 rw[DR hm hn];simp only[BS,Nat.testBit_and]
theorem AU {a b:Int}(ha:VS a)(hb:VS b)(v:Nat):has (iandNot .u32 a b) v=(has a v&& !has b v):=by
 obtain⟨m,rfl,hm⟩:=ha.nat;obtain⟨n,rfl,hn⟩:=hb.nat
 have e:iandNot .u32 (m:Int) (n:Int)=(((BitVec.ofInt 32 (m:Int)&&& ~~~(BitVec.ofInt 32 (n:Int))).toNat:Nat):Int):=by
  have hw:=(BitVec.ofInt 32 (m:Int)&&& ~~~(BitVec.ofInt 32 (n:Int))).isLt
  show IntKind.u32.wrap (((BitVec.ofInt 32 (m:Int)&&& ~~~(BitVec.ofInt 32 (n:Int))).toNat:Nat):Int)=_
  rw[DQ];omega
 rw[e,BS,BS,BS]
 have h1:∀i,(BitVec.ofInt 32 (m:Int)).getLsbD i=m.testBit i:=λi=>by rw[BitVec.getLsbD,Da m hm]
 have h2:∀i,(BitVec.ofInt 32 (n:Int)).getLsbD i=n.testBit i:=λi=>by rw[BitVec.getLsbD,Da n hn]
 rw[←BitVec.getLsbD,BitVec.getLsbD_and,BitVec.getLsbD_not,h1,h2]
 by_cases hv:v<32
 ·simp[hv]
 ·have:m.testBit v=false:=Nat.testBit_lt_two_pow (Nat.lt_of_lt_of_le hm (Nat.pow_le_pow_right (n:=2) (by omega) (show 32≤v by omega)))
  simp[this]
theorem Dn {a:Int}(ha:VS a){v:Nat}(hv:32≤v):has a v=false:=by
 obtain⟨m,rfl,hm⟩:=ha.nat
 rw[BS]
 exact Nat.testBit_lt_two_pow (Nat.lt_of_lt_of_le hm (Nat.pow_le_pow_right (n:=2) (by omega) hv))
theorem VS.ext {a b:Int}(ha:VS a)(hb:VS b)(h:∀v,v<32→has a v=has b v):a=b:=by
 have:∀v,has a v=has b v:=λv=>by
  by_cases hv:v<32
  ·exact h v hv
  ·rw[Dn ha (by omega),Dn hb (by omega)]
 obtain⟨m,rfl,hm⟩:=ha.nat;obtain⟨n,rfl,hn⟩:=hb.nat
 congr 1
 apply Nat.eq_of_testBit_eq
 intro v
 have:=this v
 rwa [BS,BS] at this
theorem VS.eq_zero {a:Int}(ha:VS a):a=0↔∀v,v<32→has a v=false:=
 ⟨λh v _=>by rw[h,A8],λh=>ha.ext VS.zero (λv hv=>by rw[h v hv,A8])⟩
theorem one_eq {v:Nat}(hv:v<32):ishl .u32 1 (v:Int)=((2^v:Nat):Int):=by
 have h:(2:Nat)^v<2^32:=Nat.pow_lt_pow_right (by omega) hv
 have h':(2:Nat)^32=4294967296:=by decide
 rw[h'] at h
 show IntKind.u32.wrap (1*2^(min ((v:Int)).toNat 32))=_
 rw[DQ,show min ((v:Int)).toNat 32=v by simp;omega,Int.one_mul]
 have e:((2^v:Nat):Int)=(2:Int)^v:=by simp
 rw[←e]
 generalize 2^v=p at h ⊢
 omega
theorem Bc {v:Nat}(hv:v<32)(u:Nat):has (ishl .u32 1 (v:Int)) u=decide (u=v):=by
 rw[one_eq hv,BS,Nat.testBit_two_pow]
 simp[eq_comm]
theorem shr_eq (s:Int)(v:Nat)(h:VS s)(hv:v<32):Bz .u32 s (v:Int)=((s.toNat>>>v:Nat):Int):=by
 obtain⟨m,rfl,hm⟩:=h.nat
 show Int.fdiv (m:Int) (2^(min ((v:Int)).toNat 32))=_
 rw[show min ((v:Int)).toNat 32=v by simp;omega]
 have e:((2^v:Nat):Int)=(2:Int)^v:=by simp
 rw[←e,Int.fdiv_eq_ediv_of_nonneg _ (Int.natCast_nonneg _),Nat.shiftRight_eq_div_pow]
 simp
theorem bitAt_eq {s:Int}{v:Nat}(h:VS s)(hv:v<32):(iand .u32 (Bz .u32 s (v:Int)) 1==1)=has s v:=by
 rw[shr_eq s v h hv]
 have hs:s.toNat>>>v<4294967296:=by
  obtain⟨m,rfl,hm⟩:=h.nat
  rw[Nat.shiftRight_eq_div_pow]
  exact Nat.lt_of_le_of_lt (Nat.div_le_self _ _) hm
 have:=DR hs (show (1:Nat)<4294967296 by omega)
 rw[show (1:Int)=((1:Nat):Int) from rfl,this,has,Nat.testBit]
 rw[Nat.and_comm]
 have h1:1&&&(s.toNat>>>v)=0∨1&&&(s.toNat>>>v)=1:=by
  rw[Nat.and_comm,Nat.and_one_is_mod];omega
 rcases h1 with e|e<;>rw[e]<;>rfl
def Al (s:Int):LI:=((List.range 32).filter (has s)).map Int.ofNat
theorem mem_elems {s:Int}{x:Int}:x∈Al s↔∃v:Nat,v<32∧has s v=true∧x=v:=by
 unfold Al
 rw[List.mem_map]
 constructor
 ·rintro⟨v,hv,rfl⟩
  rw[List.mem_filter,List.mem_range] at hv
  exact⟨v,hv.1,hv.2,rfl⟩
 ·rintro⟨v,h1,h2,rfl⟩
  exact⟨v,List.mem_filter.2 ⟨List.mem_range.2 h1,h2⟩,rfl⟩
theorem AE {s:Int}(h:VS s){v:Nat}:(v:Int)∈Al s↔has s v=true:=by
 rw[mem_elems]
 constructor
 ·rintro⟨u,_,h2,h3⟩;obtain rfl:v=u:=by omega
  exact h2
 ·intro h2
  refine⟨v,?_,h2,rfl⟩
  by_cases hv:v<32
  ·exact hv
  ·rw[Dn h (by omega)] at h2;cases h2
theorem Bn (s:Int):(Al s).length≤32:=by
 unfold Al
 rw[List.length_map]
 exact Nat.le_trans (List.length_filter_le _ _) (by simp)
def Inc (l:LI):Prop:=l.Pairwise (·<·)
theorem Bt (s:Int):Inc (Al s):=by
 unfold Al Inc
 rw[List.pairwise_map]
 refine List.Pairwise.filter _ ?_
 refine List.Pairwise.imp ?_ (List.pairwise_lt_range (n:=32))
 intro a b h
 show (a:Int)<(b:Int)
 omega
theorem Inc.ext :∀{l l':LI},Inc l→Inc l'→(∀x,x∈l↔x∈l')→l=l'
 |[],[],_,_,_=>rfl
 |[],y::l',_,_,h=>by have:=(h y).2 (by simp);simp at this
 |x::l,[],_,_,h=>by have:=(h x).1 (by simp);simp at this
 |x::l,y::l',h1,h2,h=>by
  have h1':=List.pairwise_cons.1 h1;have h2':=List.pairwise_cons.1 h2
  have e:x=y:=by
   rcases List.mem_cons.1 ((h x).1 (by simp)) with e|e
   ·exact e
   ·rcases List.mem_cons.1 ((h y).2 (by simp)) with e'|e'
    ·exact e'.symm
    ·have:=h2'.1 x e;have:=h1'.1 y e';omega
  subst e
  have:l=l':=by
   refine Inc.ext h1'.2 h2'.2 (λz=> ?_)
   constructor
   ·intro hz
    rcases List.mem_cons.1 ((h z).1 (List.mem_cons_of_mem _ hz)) with e|e
    ·have:=h1'.1 z hz;omega
    ·exact e
   ·intro hz
    rcases List.mem_cons.1 ((h z).2 (List.mem_cons_of_mem _ hz)) with e|e
    ·have:=h2'.1 z hz;omega
    ·exact e
  rw[this]
theorem least_spec {s:Int}(h:VS s)(h0:s≠0):∃k:Nat,k<32∧has s k=true∧(∀v,v<k→has s v=false)∧
  iand .u32 s (IntKind.u32.wrap (0-s))=((2^k:Nat):Int)∧(∀v,has (iand .u32 s (IntKind.u32.wrap (s-1))) v=(has s v&& !decide (v=k))):=by
 obtain⟨m,rfl,hm⟩:=h.nat
 have hm0:m≠0:=by omega
 obtain⟨q,hq,hk⟩:=Lib.ctzFrom_spec 32 m (by omega) hm
 have hc:Lib.ctz 32 m=Lib.ctzFrom 32 m:=by unfold Lib.ctz;rw[if_neg hm0]
 obtain⟨hl,_⟩:=Lib.lowest_bit 32 m hm0 hm
 rw[hc] at hl
 generalize Lib.ctzFrom 32 m=k at*
 have hpos:0<2^k:=Nat.pow_pos (by omega)
 have hb:∀v,m.testBit v=(decide (v≥k)&&(2*q+1).testBit (v-k)):=λv=>by rw[hq,Nat.mul_comm,Nat.testBit_mul_two_pow,Bool.and_comm]
 refine⟨k,hk,?_,λv hv=> ?_,?_,λv=> ?_⟩
 ·rw[BS,hb];simp
 ·rw[BS,hb];simp;intro hc;omega
 ·have e:IntKind.u32.wrap (0-(m:Int))=((4294967296-m:Nat):Int):=by rw[DQ];omega
  rw[e,DR hm (by omega)]
  rw[←hl]
 ·have e:IntKind.u32.wrap ((m:Int)-1)=((m-1:Nat):Int):=by rw[DQ];omega
  rw[e,DR hm (by omega),BS,BS,Nat.testBit_and]
  have hm1:m-1=2^k*(2*q)+(2^k-1):=by rw[hq,Nat.mul_add];omega
  have hb1:(m-1).testBit v=if v<k then true else(2*q).testBit (v-k):=by
   rw[hm1,Nat.testBit_two_pow_mul_add _ (by omega)]
   split
   ·rename_i hv;rw[Nat.testBit_two_pow_sub_one];simp[hv]
   ·rfl
  rw[hb1,hb]
  by_cases hv:v<k
  ·simp[hv];intro hc;omega
  ·rw[if_neg hv]
   by_cases hvk:v=k
   ·subst hvk;simp
   ·obtain⟨t,ht⟩:∃t,v-k=t+1:=⟨v-k-1,by omega⟩
    rw[ht,Nat.testBit_succ,Nat.testBit_succ]
    have e1:(2*q+1)/2=q:=by omega
    have e2:2*q/2=q:=by omega
    rw[e1,e2]
    simp[hvk]
theorem elems_least {s t:Int}{k:Nat}(hk:k<32)(h1:has s k=true)(h2:∀v,v<k→has s v=false)(h3:∀v,has t v=(has s v&& !decide (v=k))):
  Al s=(k:Int)::Al t:=by
 refine Inc.ext (Bt s) ?_ (λx=> ?_)
 ·refine List.pairwise_cons.2 ⟨λx hx=> ?_,Bt t⟩
  obtain⟨v,hv,h4,rfl⟩:=mem_elems.1 hx
  rw[h3] at h4
  simp at h4
  by_cases hc:v<k
  ·rw[h2 v hc] at h4;simp at h4
  ·omega
 ·rw[List.mem_cons,mem_elems,mem_elems]
  constructor
  ·rintro⟨v,hv,h4,rfl⟩
   by_cases e:v=k
   ·left;omega
   ·right;exact⟨v,hv,by rw[h3,h4];simp[e],rfl⟩
  ·rintro(rfl|⟨v,hv,h4,rfl⟩)
   ·exact⟨k,hk,h1,rfl⟩
   ·rw[h3] at h4;simp at h4
    exact⟨v,hv,h4.1,rfl⟩
theorem EG :Al 0=[]:=by
 unfold Al
 rw[List.filter_eq_nil_iff.2 (λv _=>by simp[A8])];rfl
theorem tz_table :∀k:Nat,k<32→idx tab32 (Bz .u32 (IntKind.u32.wrap (((2^k:Nat):Int)*125613361)) 27)=some (k:Int):=by decide+kernel
def Out (l:LI)(a0 b0 a b:Int):Prop:=∀i j,a0≤i→i<j→j<b0→¬(a≤i∧j<b)→at' l i≤at' l j
theorem Out.keep {a0 a b b0:Int}{l l':LI}(h:Rg a b l l')(h0:0≤a0)(ha:a0≤a)(hb:b≤b0)(c:Out l a0 b0 a b):Out l' a0 b0 a b:=by
 intro i j h1 h2 h3 h4
 by_cases hi:a≤i∧i<b
 ·rw[h.out j (by omega) (by omega)]
  exact h.all (λx=>x≤at' l j) (λk k1 k2=>c k j (by omega) (by omega) h3 (by omega)) i hi.1 hi.2
 ·rw[h.out i (by omega) (by omega)]
  by_cases hj:a≤j∧j<b
  ·exact h.all (λx=>at' l i≤x) (λk k1 k2=>c i k (by omega) (by omega) (by omega) (by omega)) j hj.1 hj.2
  ·rw[h.out j (by omega) (by omega)];exact c i j h1 h2 h3 h4
end Go.Sx



namespace Go.Sx
def Sh {α:Type}(xs:List α):Prop:=xs.length≤4294967296
theorem E3 (a b c:Int):D.f a b c=some (decide (b≤a)&&decide (a≤c)):=rfl
theorem inRange_eq (a b c:Int):D.d0 a b c=some (decide (b≤a)&&decide (a≤c)):=rfl
theorem any_beq (xs:LI)(n:Int):xs.any (λx=>x==n)=decide (n∈xs):=by
 rw[Bool.eq_iff_iff,List.any_eq_true];simp
theorem DS (xs:LI)(n:Int)(h:Sh xs):D.k xs n=some (decide (n∈xs)):=by
 unfold Sh at h
 unfold D.k
 refine(loop_anyb xs.length (λi=>xs.getD i 0==n) true (λi hi=> ?_) ?_ rfl rfl).trans ?_
 ·simp only[dlt hi,cond_true,AB hi,bs,wi' hi (by omega),AA hi]
  cases xs[i]==n<;>rfl
 ·simp only[Br,cond_false]
 ·rw[range_any_list xs (λx=>x==n) _ (λi hi=>by rw[AA hi]),any_beq]
theorem Fb (xs:LI)(n:Int)(h:Sh xs):D.S xs n=some (decide (n∈xs)):=by
 unfold Sh at h
 unfold D.S D.U0
 have e:Aq (σ:=Int) (ρ:=(Unit) ⊕ (Int)) (fun(x_26:Int)=>cond (decide (x_26<(xs.length:Int))) ((idx xs x_26).bind λe_39=>cond (n==e_39) (some (.inr (.inr x_26))) (some (.inl (IntKind.i64.wrap (x_26+1))))) (some (.inr (.inl ())))) 0=
   some (((List.range xs.length).findSome? (λi=>if xs.getD i 0==n then some (Sum.inr (i:Int)) else none)).getD (.inl ())):=by
  refine Dy xs.length _ _ (λi hi=> ?_) ?_
  ·simp only[dlt hi,cond_true,AB hi,bs,wi' hi (by omega),AA hi]
   rw[show (n==xs[i])=(xs[i]==n) from Bool.beq_comm ..]
   cases xs[i]==n<;>rfl
  ·simp only[Br,cond_false]
 rw[e,bs]
 cases hf:(List.range xs.length).findSome? (λi=>if xs.getD i 0==n then some (Sum.inr (i:Int):Unit ⊕ Int) else none) with
 |none=>
  have:n∉xs:=λhm=>by
   obtain⟨i,hi,e⟩:=List.getElem_of_mem hm
   have:=(List.findSome?_eq_none_iff.1 hf) i (List.mem_range.2 hi)
   rw[AA hi,e] at this
   simp at this
  simp[this]
 |some r=>
  obtain⟨i,hi,hr⟩:=List.exists_of_findSome?_eq_some hf
  have hi':=List.mem_range.1 hi
  rw[AA hi'] at hr
  split at hr
  ·rename_i hc
   cases hr
   have:n∈xs:=by rw[←(beq_iff_eq.1 hc)];exact List.getElem_mem _
   simp[this]
  ·cases hr
def SetOf (xs:LI)(n:Int):Prop:=Inc xs∧∀x∈xs,0≤x∧x<n
theorem SetOf.len :∀{xs:LI} {n a:Int},Inc xs→(∀x∈xs,a≤x∧x<n)→xs=[]∨(xs.length:Int)≤n-a
 |[],_,_,_,_=> .inl rfl
 |x::xs,n,a,h,hr=>by
  right
  have h':=List.pairwise_cons.1 h
  have hx:=hr x (by simp)
  rcases SetOf.len (a:=x+1) (n:=n) h'.2 (λy hy=>⟨by have:=h'.1 y hy;omega,(hr y (by simp[hy])).2⟩) with e|e
  ·subst e;simp;omega
  ·simp;omega
theorem SetOf.length_le {xs:LI}{n:Int}(h:SetOf xs n)(hn:0≤n):(xs.length:Int)≤n:=by
 rcases SetOf.len h.1 h.2 with e|e
 ·subst e;simpa using hn
 ·omega
theorem inc_iff (xs:LI):Inc xs↔∀i (hi:i+1<xs.length),xs[i]<xs[i+1]:=by
 unfold Inc
 constructor
 ·intro h i hi
  exact List.pairwise_iff_getElem.1 h i (i+1) (by omega) hi (by omega)
 ·intro h
  rw[List.pairwise_iff_getElem]
  intro i j hi hj hij
  have key:∀k,∀hk:i+k+1<xs.length,xs[i]<xs[i+k+1]:=by
   intro k
   induction k with
   |zero=>intro hk;exact h i hk
   |succ k ih=>intro hk;have:=ih (by omega);have:=h (i+k+1) hk;exact Int.lt_trans (ih (by omega)) this
  obtain⟨k,rfl⟩:∃k,j=i+k+1:=⟨j-i-1,by omega⟩
  exact key k hj
def DE (xs:LI)(n:Int):Bool:=(List.range xs.length).all λi=>(decide (0≤xs.getD i 0)&&decide (xs.getD i 0≤n-1))&& !(decide (0<i)&&decide (xs.getD i 0≤xs.getD (i-1) 0))
theorem DV (xs:LI)(n:Int):DE xs n=true↔SetOf xs n:=by
 unfold DE SetOf
 rw[EC,inc_iff]
 constructor
 ·intro h
  refine⟨λi hi=> ?_,λx hx=> ?_⟩
  ·have:=h (i+1) hi
   simp[hi,show i<xs.length by omega] at this
   omega
  ·obtain⟨i,hi,rfl⟩:=List.getElem_of_mem hx
   have:=h i hi
   simp[hi] at this
   omega
 ·rintro⟨h1,h2⟩ i hi
  have h3:=h2 _ (List.getElem_mem hi)
  simp[hi]
  refine⟨by omega,?_⟩
  rcases Nat.eq_zero_or_pos i with h0|h0
  ·exact .inl h0
  ·right
   have:=h1 (i-1) (by omega)
   have e:i-1+1=i:=by omega
   simp only[e] at this
   have e2:xs[i-1]?.getD 0=xs[i-1]:=by rw[List.getElem?_eq_getElem (by omega)];rfl
   rw[e2];exact this
theorem increasing_eq (xs:LI)(n:Int)(h:Sh xs)(h0:0≤n)(hn:n≤4294967296):D.h0 xs n=some (DE xs n):=by
 unfold Sh at h
 unfold D.h0
 refine D6 xs.length _ false (λi hi=> ?_) ?_ rfl rfl
 ·simp only[dlt hi,cond_true,AB hi,bs,wi' hi (by omega),AA hi,inRange_eq]
  rw[w64 (x:=n-1) (by omega) (by omega)]
  cases (decide (0≤xs[i])&&decide (xs[i]≤n-1))
  ·simp
  ·by_cases h0:0<i
   ·have e1:IntKind.i64.wrap ((i:Int)-1)=((i-1:Nat):Int):=by rw[w64 (by omega) (by omega)];omega
    have hd:decide ((0:Int)<(i:Int))=true:=by simp;omega
    simp only[Bool.not_true,cond_false,hd,cond_true,e1,AB (show i-1<xs.length by omega),bs,AA (show i-1<xs.length by omega),h0,decide_true,Bool.true_and]
    cases decide (xs[i]≤xs[i-1])<;>rfl
   ·have hd:decide ((0:Int)<(i:Int))=false:=by simp;omega
    simp only[Bool.not_true,cond_false,hd,bs,h0,decide_false,Bool.false_and,Bool.not_false,Bool.and_true,if_true]
 ·simp only[Br,cond_false]
theorem l1Set_eq (xs:LI)(n:Int)(h:Sh xs)(h0:0≤n)(hn:n≤4294967296):D.M xs n=some (DE xs n):=by
 have hh:=h
 unfold Sh at h
 unfold D.M
 by_cases hl:n<xs.length
 ·have:DE xs n=false:=by
   cases hb:DE xs n
   ·rfl
   ·have:=((DV xs n).1 hb).length_le h0;omega
  simp[hl,this]
 ·simp only[hl,decide_false,cond_false]
  refine D6 xs.length _ false (λi hi=> ?_) ?_ rfl rfl
  ·simp only[dlt hi,cond_true,AB hi,bs,wi' hi (by omega),AA hi,E3]
   rw[w64 (x:=n-1) (by omega) (by omega)]
   cases (decide (0≤xs[i])&&decide (xs[i]≤n-1))
   ·simp
   ·by_cases h0:0<i
    ·have e1:IntKind.i64.wrap ((i:Int)-1)=((i-1:Nat):Int):=by rw[w64 (by omega) (by omega)];omega
     have hd:decide ((0:Int)<(i:Int))=true:=by simp;omega
     simp only[Bool.not_true,cond_false,hd,cond_true,e1,AB (show i-1<xs.length by omega),bs,AA (show i-1<xs.length by omega),h0,decide_true,Bool.true_and]
     cases decide (xs[i]≤xs[i-1])<;>rfl
    ·have hd:decide ((0:Int)<(i:Int))=false:=by simp;omega
     simp only[Bool.not_true,cond_false,hd,bs,h0,decide_false,Bool.false_and,Bool.not_false,Bool.and_true,if_true]
  ·simp only[Br,cond_false]
def row (g:LL)(v:Nat):LI:=g.getD v []
theorem row_eq {g:LL}{v:Nat}(h:v<g.length):row g v=g[v]:=AA h _
def adj (g:LL)(u v:Nat):Prop:=(v:Int)∈row g u
structure GOk (g:LL):Prop where
 n1:1≤g.length
 n16:g.length≤16
 rows:∀v,v<g.length→SetOf (row g v) g.length
 irr:∀v,v<g.length→¬adj g v v
 sym:∀u v,u<g.length→adj g u v→adj g v u
theorem GOk.mem {g:LL}(h:GOk g){u:Nat}(hu:u<g.length){x:Int}(hx:x∈row g u):∃v:Nat,x=v∧v<g.length∧adj g u v:=by
 have:=(h.rows u hu).2 x hx
 refine⟨x.toNat,by omega,by omega,?_⟩
 unfold adj
 rw[show ((x.toNat:Nat):Int)=x by omega];exact hx
theorem GOk.row_len {g:LL}(h:GOk g){u:Nat}(hu:u<g.length):(row g u).length≤16:=by
 have:=(h.rows u hu).length_le (by omega)
 have:=h.n16
 omega
theorem GOk.lt {g:LL}(h:GOk g){u v:Nat}(hu:u<g.length)(ha:adj g u v):v<g.length:=by
 obtain⟨w,h1,h2,_⟩:=h.mem hu ha
 omega
def Sh2 (g:LL):Prop:=Sh g∧∀r∈g,Sh r
theorem Sh2.row {g:LL}(h:Sh2 g){v:Nat}(hv:v<g.length):Sh (row g v):=by
 rw[row_eq hv];exact h.2 _ (List.getElem_mem hv)
theorem B6 {g:LL}{v:Nat}(h:v<g.length):idx g (v:Int)=some (row g v):=by rw[row_eq h,AB h]
def gB1 (g:LL):Bool:=(List.range g.length).all λv=>DE (row g v) g.length&& !decide ((v:Int)∈row g v)
def gB2 (g:LL):Bool:=(List.range g.length).all λv=>(row g v).all λx=>decide ((v:Int)∈row g x.toNat)
def gB (g:LL):Bool:=decide (1≤g.length)&&decide (g.length≤16)&&gB1 g&&gB2 g
theorem gB_iff (g:LL):gB g=true↔GOk g:=by
 unfold gB gB1 gB2
 simp only[Bool.and_eq_true,decide_eq_true_eq,DV,Bool.not_eq_true',decide_eq_false_iff_not,List.all_eq_true,List.mem_range]
 constructor
 ·rintro⟨⟨⟨h1,h2⟩,h3⟩,h4⟩
  refine⟨h1,h2,λv hv=>(h3 v hv).1,λv hv=>(h3 v hv).2,λu v hu ha=> ?_⟩
  have:=h4 u hu v ha
  unfold adj
  simpa using this
 ·intro h
  refine⟨⟨⟨h.n1,h.n16⟩,λv hv=>⟨h.rows v hv,h.irr v hv⟩⟩,λv hv x hx=> ?_⟩
  obtain⟨u,rfl,hu,ha⟩:=h.mem hv hx
  have:=h.sym v u hv ha
  simpa [adj] using this
theorem Cp (g:LL)(h:Sh2 g):D.z g=some (gB g):=by
 have hl:g.length≤4294967296:=h.1
 unfold D.z D.d
 simp only[bs,E3]
 by_cases hn:1≤g.length∧g.length≤16
 ·have e:(decide ((1:Int)≤(g.length:Int))&&decide ((g.length:Int)≤16))=true:=by simp;omega
  simp only[e,Bool.not_true,cond_false]
  refine(E4 g.length (λv=>DE (row g v) g.length&& !decide ((v:Int)∈row g v)) (.inl ()) (.inr false) (λv hv=> ?_) ?_).trans ?_
  rotate_left
  ·simp only[Br,cond_false]
  ·show cond (gB1 g) _ _=_
   have e4:gB g=(gB1 g&&gB2 g):=by unfold gB;simp[hn.1,hn.2]
   rw[e4]
   cases hc:gB1 g with
   |false=>rfl
   |true=>
    rw[cond_true,Bool.true_and]
    refine D6 g.length _ false (λv hv=> ?_) ?_ rfl rfl
    ·have hset:SetOf (row g v) g.length:=by
      have:=(EC _ _).1 hc v hv
      simp only[Bool.and_eq_true] at this
      exact(DV _ _).1 this.1
     simp only[dlt hv,cond_true]
     refine(E4 (row g v).length (λi=>decide ((v:Int)∈row g ((row g v).getD i 0).toNat)) (.inl ()) (.inr false) (λi hi=> ?_) ?_).trans ?_
     ·have hx:=hset.2 _ (List.getElem_mem hi)
      have e5:idx g (row g v)[i]=some (row g ((row g v)[i]).toNat):=by
       have:=B6 (g:=g) (v:=((row g v)[i]).toNat) (by omega)
       rwa [show ((((row g v)[i]).toNat:Nat):Int)=(row g v)[i] by omega] at this
      have hs:=h.row (v:=((row g v)[i]).toNat) (by omega)
      simp only[B6 hv,bs,dlt hi,cond_true,AB hi,e5,DS _ _ hs,wi (show i<4611686018427387904 by have:=h.row hv;unfold Sh at this;omega),AA hi]
      cases decide ((v:Int)∈row g ((row g v)[i]).toNat)<;>rfl
     ·simp only[B6 hv,bs,Br,cond_false]
     ·rw[Ev (row g v) (λx=>decide ((v:Int)∈row g x.toNat)) _ (λi hi=>by rw[AA hi]),wi' hv (by omega)]
      cases (row g v).all λx=>decide ((v:Int)∈row g x.toNat)<;>rfl
    ·simp only[Br,cond_false]
  ·simp only[dlt hv,cond_true,B6 hv,bs,l1Set_eq _ _ (h.row hv) (show (0:Int)≤(g.length:Int) by omega) (by omega),DS _ _ (h.row hv),wi' hv (by omega)]
   cases DE (row g v) g.length
   ·rfl
   ·cases decide ((v:Int)∈row g v)<;>rfl
 ·have e:(decide ((1:Int)≤(g.length:Int))&&decide ((g.length:Int)≤16))=false:=by
   rw[Bool.eq_false_iff];simp;omega
  simp only[e,Bool.not_false,cond_true]
  unfold gB
  congr 1
  symm
  rw[Bool.eq_false_iff]
  simp
  omega
theorem BL (g:LL)(h:Sh2 g):D.l g=some (gB g):=by
 have hl:g.length≤4294967296:=h.1
 unfold D.l
 by_cases hn:1≤g.length∧g.length≤16
 ·have e:(decide ((g.length:Int)<(1:Int))||decide ((16:Int)<(g.length:Int)))=false:=by simp;omega
  simp only[e,cond_false]
  refine(E4 g.length (λv=>DE (row g v) g.length&& !decide ((v:Int)∈row g v)) (.inl ()) (.inr false) (λv hv=> ?_) ?_).trans ?_
  rotate_left
  ·simp only[Br,cond_false]
  ·show cond (gB1 g) _ _=_
   have e4:gB g=(gB1 g&&gB2 g):=by unfold gB;simp[hn.1,hn.2]
   rw[e4]
   cases hc:gB1 g with
   |false=>rfl
   |true=>
    rw[cond_true,Bool.true_and]
    refine D6 g.length _ false (λv hv=> ?_) ?_ rfl rfl
    ·have hset:SetOf (row g v) g.length:=by
      have:=(EC _ _).1 hc v hv
      simp only[Bool.and_eq_true] at this
      exact(DV _ _).1 this.1
     simp only[dlt hv,cond_true,B6 hv,bs]
     refine(E4 (row g v).length (λi=>decide ((v:Int)∈row g ((row g v).getD i 0).toNat)) (.inl ()) (.inr false) (λi hi=> ?_) ?_).trans ?_
     ·have hx:=hset.2 _ (List.getElem_mem hi)
      have e5:idx g (row g v)[i]=some (row g ((row g v)[i]).toNat):=by
       have:=B6 (g:=g) (v:=((row g v)[i]).toNat) (by omega)
       rwa [show ((((row g v)[i]).toNat:Nat):Int)=(row g v)[i] by omega] at this
      have hs:=h.row (v:=((row g v)[i]).toNat) (by omega)
      simp only[bs,dlt hi,cond_true,AB hi,e5,Fb _ _ hs,wi (show i<4611686018427387904 by have:=h.row hv;unfold Sh at this;omega),AA hi]
      cases decide ((v:Int)∈row g ((row g v)[i]).toNat)<;>rfl
     ·simp only[Br,cond_false]
     ·rw[Ev (row g v) (λx=>decide ((v:Int)∈row g x.toNat)) _ (λi hi=>by rw[AA hi]),wi' hv (by omega)]
      cases (row g v).all λx=>decide ((v:Int)∈row g x.toNat)<;>rfl
    ·simp only[Br,cond_false]
  ·simp only[dlt hv,cond_true,B6 hv,bs,increasing_eq _ _ (h.row hv) (show (0:Int)≤(g.length:Int) by omega) (by omega),Fb _ _ (h.row hv),wi' hv (by omega)]
   cases DE (row g v) g.length
   ·rfl
   ·cases decide ((v:Int)∈row g v)<;>rfl
 ·have e:(decide ((g.length:Int)<(1:Int))||decide ((16:Int)<(g.length:Int)))=true:=by
   simp;omega
  simp only[e,cond_true]
  unfold gB
  congr 1
  symm
  rw[Bool.eq_false_iff]
  simp
  omega
structure OOk (g:LL)(o:LI):Prop where
 len:o.length=g.length
 rng:∀x∈o,0≤x∧x<g.length
 nd:o.Nodup
theorem mem_take_iff {α:Type}{l:List α}{i:Nat}{x:α}:x∈l.take i↔∃j,∃h:j<l.length,j<i∧l[j]=x:=by
 rw[List.mem_take_iff_getElem]
 constructor
 ·rintro⟨j,h,e⟩;exact⟨j,by omega,by omega,e⟩
 ·rintro⟨j,h,h2,e⟩;exact⟨j,by omega,e⟩
theorem nodup_iff {l:LI}:l.Nodup↔∀i (hi:i<l.length),l[i]∉l.take i:=by
 constructor
 ·intro h i hi hm
  obtain⟨j,hj,hji,e⟩:=mem_take_iff.1 hm
  have:=(List.pairwise_iff_getElem.1 h) j i hj hi hji
  exact this e
 ·intro h
  refine List.pairwise_iff_getElem.2 (λi j hi hj hij e=>h j hj (mem_take_iff.2 ⟨i,hi,hij,e⟩))
theorem BM (v:Nat):D.b (v:Int)=some (ishl .u32 1 (v:Int)):=by
 unfold D.b
 have:decide ((v:Int)<0)=false:=by simp
 rw[this];rfl
theorem impl_one_eq' {x:Int}(h:0≤x):D.b x=some (ishl .u32 1 x):=by
 have:=BM x.toNat
 rwa [show ((x.toNat:Nat):Int)=x by omega] at this
def mk (xs:LI):Int:=xs.foldl (λs v=>ior .u32 s (ishl .u32 1 v)) 0
theorem maskOf_eq (xs:LI)(h:Sh xs)(h0:∀x∈xs,0≤x):D.i0 xs=some (mk xs):=by
 unfold Sh at h
 unfold D.i0
 refine(loop_listb xs (λs i=>(s,i)) (λs v=>ior .u32 s (ishl .u32 1 v)) (λs=>s) (λ_=>True) 0 trivial (λs i hi _=>⟨?_,trivial⟩) (λs _=> ?_)).trans rfl
 ·simp only[dlt hi,cond_true,AB hi,bs,wi' hi (by omega),impl_one_eq' (h0 _ (List.getElem_mem hi))]
 ·simp only[Br,cond_false]
theorem ET :∀(xs:LI) (s:Int),VS s→VS (xs.foldl (λs v=>ior .u32 s (ishl .u32 1 v)) s)
 |[],s,h=>h
 |x::xs,s,_=>ET xs _ (VS.ior _ _)
theorem VS.mk (xs:LI):VS (mk xs):=ET xs 0 VS.zero
theorem EO (u:Nat):∀(xs:LI) (s:Int),VS s→(∀x∈xs,0≤x∧x<32)→has (xs.foldl (λs v=>ior .u32 s (ishl .u32 1 v)) s) u=(has s u||decide ((u:Int)∈xs))
 |[],s,_,_=>by simp
 |x::xs,s,hs,h=>by
  have hx:=h x (by simp)
  rw[List.foldl_cons,EO u xs _ (VS.ior _ _) (λy hy=>h y (by simp[hy])),Bo hs (VS.ishl _ _)]
  obtain⟨k,rfl⟩:∃k:Nat,x=k:=⟨x.toNat,by omega⟩
  rw[Bc (by omega)]
  by_cases hu:u=k
  ·subst hu;simp
  ·have:¬(u:Int)=(k:Int):=by omega
   simp[hu,this]
theorem De {xs:LI}(h:∀x∈xs,0≤x∧x<32)(u:Nat):has (mk xs) u=decide ((u:Int)∈xs):=by
 unfold mk;rw[EO u xs 0 VS.zero h,A8,Bool.false_or]
theorem GOk.mem0 {g:LL}(hg:GOk g){r:LI}(hr:r∈g):r.length≤16∧∀x∈r,0≤x∧x<g.length:=by
 obtain⟨v,hv,rfl⟩:=List.getElem_of_mem hr
 rw[←row_eq hv]
 exact⟨hg.row_len hv,(hg.rows v hv).2⟩
theorem CB (g:LL)(hg:GOk g):D.n g=some (g.map mk):=by
 have h16:=hg.n16
 unfold D.n
 refine(loop_map g (λs i=>(s,i)) mk (by omega) (λs i hi _=> ?_) (λs=> ?_)).trans rfl
 ·obtain⟨h1,h2⟩:=hg.mem0 (List.getElem_mem hi)
  simp only[dlt hi,cond_true,AB hi,bs,wi' hi (by omega),maskOf_eq g[i] (by unfold Sh;omega) (λx hx=>(h2 x hx).1)]
 ·simp only[Br,cond_false]
theorem wide_eq (xs:LI)(h:Sh xs):D.r xs=some xs:=by
 unfold Sh at h
 unfold D.r
 rw[makeD_zero (by omega) (by omega),bs]
 refine(loop_map xs (λs i=>(s,i)) (λx=>x) h (λs i hi _=> ?_) (λs=> ?_)).trans (by simp)
 ·simp only[dlt hi,cond_true,AB hi,bs,wi' hi (by omega)]
 ·simp only[Br,cond_false]
theorem least_eq {s:Int}(h:VS s)(h0:s≠0):∃k:Nat,k<32∧D.X s=some (k:Int)∧has s k=true∧(∀v,v<k→has s v=false)∧
  (∀v,has (iand .u32 s (IntKind.u32.wrap (s-1))) v=(has s v&& !decide (v=k))):=by
 obtain⟨k,h1,h2,h3,h4,h5⟩:=least_spec h h0
 refine⟨k,h1,?_,h2,h3,h5⟩
 unfold D.X D.V0
 have e:(s==0)=false:=by simpa using h0
 simp only[e,cond_false,h4,tz_table k h1,bs]
 rw[w64 (by omega) (by omega)]
theorem Cg (s:Int)(h:VS s):D.c s=some (Al s):=by
 unfold D.c
 have key:∀(n:Nat) (x:Int) (l:LI),VS x→(Al x).length=n→l.length+n≤32→
   Aq (σ:=Int×LI) (ρ:=(LI)) (fun(s_52:Int×LI)=>match s_52 with|(x_55,l_56)=>cond (x_55 !=0) ((D.X x_55).bind λy_88=>(AP l_56 ([y_88]:LI)).bind λl_99=>some (.inl ((iand .u32 x_55 (IntKind.u32.wrap (x_55-1))),l_99))) (some (.inr l_56))) (x,l)=some (l++Al x):=by
  intro n
  induction n with
  |zero=>
   intro x l hx hn _
   have e:Al x=[]:=List.eq_nil_of_length_eq_zero hn
   have e0:x=0:=hx.eq_zero.2 λv hv=>by
    cases hc:has x v
    ·rfl
    ·have:=mem_elems.2 ⟨v,hv,hc,rfl⟩;rw[e] at this;simp at this
   rw[e]
   refine AQ ?_
   have:(x !=0)=false:=by simp[e0]
   simp only[this,cond_false,List.append_nil]
  |succ n ih=>
   intro x l hx hn hl
   have h0:x≠0:=by rintro rfl;rw[EG] at hn;simp at hn
   obtain⟨k,h1,h2,h3,h4,h5⟩:=least_eq hx h0
   have e:=elems_least h1 h3 h4 h5
   have en:(Al (iand .u32 x (IntKind.u32.wrap (x-1)))).length=n:=by rw[e] at hn;simpa using hn
   have hstep:=ih (iand .u32 x (IntKind.u32.wrap (x-1))) (l++[(k:Int)]) (VS.iand _ _) en (by simp;omega)
   have e1:(x !=0)=true:=by simpa using h0
   rw[Bi (s':=(iand .u32 x (IntKind.u32.wrap (x-1)),l++[(k:Int)]))]
   ·rw[hstep,e];simp
   ·simp only[e1,cond_true,h2,bs,Bm (xs:=l) (ys:=[(k:Int)]) (by simp;omega)]
 have:=key (Al s).length s [] h rfl (by simpa using Bn s)
 rw[this];simp
theorem elems_sh (s:Int):Sh (Al s):=by have:=Bn s;unfold Sh;omega
theorem Ez (s:Int)(h:VS s):D.y s=some (Al s):=by
 unfold D.y
 rw[Cg s h,bs,wide_eq _ (elems_sh s)];rfl
theorem results_eq (xs:LI)(h:Sh xs)(hv:∀s∈xs,VS s):D.h1 xs=some (xs.map Al):=by
 unfold Sh at h
 unfold D.h1
 refine(loop_map xs (λs i=>(s,i)) Al h (λs i hi _=> ?_) (λs=> ?_)).trans rfl
 ·simp only[dlt hi,cond_true,AB hi,bs,wi' hi (by omega),Ez _ (hv _ (List.getElem_mem hi))]
 ·simp only[Br,cond_false]
theorem D8 (xs:LI)(h:Sh xs):D.h xs=some xs:=by
 unfold Sh at h
 unfold D.h
 rw[Bm (by simpa using h)];rfl
def into (xs:LI)(n:Int):LI:=if n∈xs then xs else xs.takeWhile (λx=>decide (x<n))++n::xs.dropWhile (λx=>decide (x<n))
theorem mem_into {xs:LI}{n x:Int}:x∈into xs n↔x=n∨x∈xs:=by
 unfold into
 split
 ·constructor
  ·intro h;exact .inr h
  ·rintro(rfl|h)
   ·assumption
   ·exact h
 ·have e:x∈xs↔x∈xs.takeWhile (λx=>decide (x<n))++xs.dropWhile (λx=>decide (x<n)):=by rw[List.takeWhile_append_dropWhile]
  rw[e];simp only[List.mem_append,List.mem_cons]
  constructor
  ·rintro(h|h|h)<;>simp[h]
  ·rintro(h|h|h)<;>simp[h]
theorem EH {xs:LI}{n:Int}(h:Inc xs):∀y∈xs.dropWhile (λx=>decide (x<n)),n≤y:=by
 induction xs with
 |nil=>simp
 |cons x xs ih=>
  have h':=List.pairwise_cons.1 h
  intro y hy
  rw[List.dropWhile_cons] at hy
  split at hy
  ·exact ih h'.2 y hy
  ·rename_i hc
   simp at hc
   rcases List.mem_cons.1 hy with rfl|hy
   ·exact hc
   ·have:=h'.1 y hy;omega
theorem inc_takeWhile {xs:LI}{n:Int}:∀y∈xs.takeWhile (λx=>decide (x<n)),y<n:=by
 intro y hy
 induction xs with
 |nil=>simp at hy
 |cons x xs ih=>
  rw[List.takeWhile_cons] at hy
  split at hy
  ·rename_i hc
   rcases List.mem_cons.1 hy with rfl|hy
   ·simpa using hc
   ·exact ih hy
  ·simp at hy
theorem Inc.into {xs:LI}(h:Inc xs)(n:Int):Inc (into xs n):=by
 unfold Sx.into
 split
 ·exact h
 ·rename_i hn
  unfold Inc
  rw[List.pairwise_append]
  refine⟨List.Pairwise.sublist (List.takeWhile_sublist _) h,List.pairwise_cons.2 ⟨λy hy=> ?_,List.Pairwise.sublist (List.dropWhile_sublist _) h⟩,λa ha b hb=> ?_⟩
  ·have h1:=EH h y hy
   have h2:y≠n:=λe=>hn (e▸(List.dropWhile_sublist _).mem hy)
   omega
  ·have h1:=inc_takeWhile a ha
   rcases List.mem_cons.1 hb with rfl|hb
   ·exact h1
   ·have:=EH h b hb;omega
theorem CV {α:Type}(p:α→Bool):∀(xs:List α),xs.takeWhile p=xs.take (xs.takeWhile p).length∧xs.dropWhile p=xs.drop (xs.takeWhile p).length
 |[]=>by simp
 |x::xs=>by
  rw[List.takeWhile_cons,List.dropWhile_cons]
  cases p x
  ·simp
  ·have:=CV p xs
   simp only[if_true,List.length_cons,List.take_succ_cons,List.drop_succ_cons,←this.1,←this.2,and_self]
theorem CY {α:Type}(p:α→Bool):∀(xs:List α) (i:Nat) (h:i<(xs.takeWhile p).length) (h':i<xs.length),p xs[i]=true
 |x::xs,i,h,h'=>by
  rw[List.takeWhile_cons] at h
  cases hp:p x
  ·rw[hp] at h;simp at h
  ·rw[hp] at h
   cases i with
   |zero=>simpa using hp
   |succ i=>simp only[if_true,List.length_cons] at h;simpa using CY p xs i (by omega) (by simpa using h')
theorem Dm {α:Type}(p:α→Bool):∀(xs:List α) (h:(xs.takeWhile p).length<xs.length),p (xs[(xs.takeWhile p).length])=false
 |x::xs,h=>by
  cases hp:p x
  ·simp[List.takeWhile_cons,hp]
  ·have h2:(xs.takeWhile p).length<xs.length:=by simpa [List.takeWhile_cons,hp] using h
   simpa [List.takeWhile_cons,hp] using Dm p xs h2
theorem Fk {α:Type}(p:α→Bool)(xs:List α):(xs.takeWhile p).length≤xs.length:=(List.takeWhile_sublist _).length_le
theorem l1Into_eq (xs:LI)(n:Int)(h:Inc xs)(hl:xs.length≤4294967295):D.R xs n=some (into xs n):=by
 unfold D.R
 generalize hk:(xs.takeWhile (λx=>decide (x<n))).length=k
 have hkl:k≤xs.length:=by rw[←hk];exact Fk _ _
 have htk:xs.takeWhile (λx=>decide (x<n))=xs.take k:=by rw[←hk];exact(CV _ xs).1
 have hdk:xs.dropWhile (λx=>decide (x<n))=xs.drop k:=by rw[←hk];exact(CV _ xs).2
 refine(CT (λi=>((i:Nat):Int)) k (k:Int) rfl (λi hi=> ?_) ?_).trans ?_
 ·have hi':i<xs.length:=by omega
  have hp:decide (xs[i]<n)=true:=CY (λx=>decide (x<n)) xs i (by omega) hi'
  simp only[dlt hi',cond_true,AB hi',bs,hp,wq i]
 ·by_cases hlt:k<xs.length
  ·have hp:decide (xs[k]<n)=false:=by
    have:=Dm (λx=>decide (x<n)) xs (by omega)
    simp only[hk] at this;exact this
   simp only[dlt hlt,cond_true,AB hlt,bs,hp,cond_false]
  ·obtain rfl:k=xs.length:=by omega
   simp only[Br,cond_false,bs]
 ·have hS1:Sh (xs.take k):=by unfold Sh;rw[List.length_take];omega
  have hrest:((Ci xs 0 (k:Int)).bind λl_135=>(D.h l_135).bind λy_139=>(AP y_139 ([n]:LI)).bind λl_154=>(Ci xs (k:Int) (xs.length:Int)).bind λl_160=>(AP l_154 l_160).bind λl_164=>some l_164)=some (xs.take k++n::xs.drop k):=by
   simp only[sliceD_pre hkl,Ff hkl,bs,D8 _ hS1]
   rw[Bm (by simp;omega),bs,Bm (by simp;omega),bs]
   simp
  by_cases hlt:k<xs.length
  ·simp only[dlt hlt,cond_true,AB hlt,bs]
   by_cases he:xs[k]=n
   ·have hm:n∈xs:=by rw[←he];exact List.getElem_mem _
    have:(xs[k]==n)=true:=by simp[he]
    simp only[this,cond_true]
    unfold into;rw[if_pos hm]
   ·have:(xs[k]==n)=false:=by simpa using he
    simp only[this,cond_false,hrest]
    unfold into
    rw[htk,hdk,if_neg]
    intro hm
    obtain⟨j,hj,e⟩:=List.getElem_of_mem hm
    have hst:decide (xs[k]<n)=false:=by
     have:=Dm (λx=>decide (x<n)) xs (by omega)
     simp only[hk] at this;exact this
    simp at hst
    rcases Nat.lt_trichotomy j k with h1|h1|h1
    ·have:=CY (λx=>decide (x<n)) xs j (by omega) hj
     simp at this;omega
    ·subst h1;exact he e
    ·have:=(List.pairwise_iff_getElem.1 h) k j hlt hj h1
     omega
  ·obtain rfl:k=xs.length:=by omega
   simp only[Br,cond_false,bs,hrest]
   unfold into
   rw[htk,hdk,if_neg]
   intro hm
   obtain⟨j,hj,e⟩:=List.getElem_of_mem hm
   have:=CY (λx=>decide (x<n)) xs j (by omega) hj
   simp at this;omega
def opn (g:LL)(l:LI)(v:Int):Prop:=∃y∈row g v.toNat,y∉l
theorem Inc.short {s:LI}{n:Nat}(h:Inc s)(hr:∀x∈s,0≤x∧x<n):s.length≤n:=by
 rcases SetOf.len h hr with e|e
 ·subst e;simp
 ·omega
end Go.Sx



namespace Go.Sx
structure DK (b:LI)(i:Int):Prop where
 byte:∀x∈b,0≤x∧x≤255
 len:b.length≤4096
 i0:0≤i
 i1:i≤b.length
theorem iand_u64_le (a:Int)(n:Nat)(hn:n<18446744073709551616):0≤iand .u64 a (n:Int)∧iand .u64 a (n:Int)≤n:=by
 have e:(BitVec.ofInt 64 (n:Int)).toNat=n:=by rw[BitVec.toNat_ofInt];omega
 have h:(BitVec.ofInt 64 a&&&BitVec.ofInt 64 (n:Int)).toNat≤n:=by
  rw[BitVec.toNat_and,e];exact Nat.and_le_right
 have w:∀m:Nat,m<18446744073709551616→IntKind.u64.wrap (m:Int)=m:=λm hm=>by
  simp[IntKind.wrap,IntKind.signed,IntKind.bits];omega
 have e2:iand .u64 a (n:Int)=(((BitVec.ofInt 64 a&&&BitVec.ofInt 64 (n:Int)).toNat:Nat):Int):=by
  show IntKind.u64.wrap (((BitVec.ofInt 64 a&&&BitVec.ofInt 64 (n:Int)).toNat:Nat):Int)=_
  exact w _ (by omega)
 rw[e2];omega
theorem tmod_rng {x n:Int}(hx:0≤x)(hn:0<n):0≤Int.tmod x n∧Int.tmod x n<n:=
 ⟨Int.tmod_nonneg _ hx,Int.tmod_lt_of_pos _ hn⟩
theorem below_ok {b:LI}{i:Int}(h:DK b i)(z n:Int)(hn:0<n):∃r i' z',D.x b i z n=some (r,b,i',z')∧0≤r∧r<n∧DK b i':=by
 obtain⟨h1,h2,h3,h4⟩:=h
 unfold D.x
 have hn0:(n==0)=false:=by simp;omega
 have hc:∀y:Int,0≤iand .u64 y 16777215∧iand .u64 y 16777215≤16777215:=λy=>iand_u64_le y 16777215 (by omega)
 by_cases hi:i<b.length
 ·have hb:=h1 _ (List.getElem_mem (show i.toNat<b.length by omega))
  simp only[hi,decide_true,cond_true,idx_int h3 hi,bs,hn0,cond_false]
  have hy:=hc (Bz .u64 (IntKind.u64.wrap ((IntKind.u64.wrap (z*6364136223846793005))+1442695040888963407)) 33)
  generalize iand .u64 (Bz .u64 (IntKind.u64.wrap ((IntKind.u64.wrap (z*6364136223846793005))+1442695040888963407)) 33) 16777215=y at hy ⊢
  rw[w64 (x:=y) (by omega) (by omega),w64 (x:=b[i.toNat]) (by omega) (by omega),w64 (x:=y+b[i.toNat]) (by omega) (by omega),w64 (x:=i+1) (by omega) (by omega)]
  have hr:=tmod_rng (x:=y+b[i.toNat]) (n:=n) (by omega) hn
  exact⟨_,_,_,rfl,hr.1,hr.2,h1,h2,by omega,by omega⟩
 ·simp only[hi,decide_false,cond_false,hn0]
  have hy:=hc (Bz .u64 (IntKind.u64.wrap ((IntKind.u64.wrap (z*6364136223846793005))+1442695040888963407)) 33)
  generalize iand .u64 (Bz .u64 (IntKind.u64.wrap ((IntKind.u64.wrap (z*6364136223846793005))+1442695040888963407)) 33) 16777215=y at hy ⊢
  rw[w64 (x:=y) (by omega) (by omega)]
  have hr:=tmod_rng (x:=y) (n:=n) (by omega) hn
  exact⟨_,_,_,rfl,hr.1,hr.2,h1,h2,h3,h4⟩
theorem Ey {b:LI}{i:Int}(h:DK b i)(z n:Int)(hn:0<n):∃y,D.x b i z n=some y∧(0≤y.1∧y.1<n∧y.2.1=b∧DK b y.2.2.1):=by
 obtain⟨r,i',z',e,h1,h2,h3⟩:=below_ok h z n hn
 exact⟨_,e,h1,h2,rfl,h3⟩
theorem roll_ok (code:LI)(seed:Int)(h:∀x∈code,0≤x∧x≤255)(hl:code.length≤4096):∃z,D.w0 code seed=some (code,0,z)∧DK code 0:=by
 unfold D.w0
 refine⟨_,(loop_listb code (λs i=>(i,s)) (λs e=>IntKind.u64.wrap ((IntKind.u64.wrap ((IntKind.u64.wrap (s*1099511628211))+(IntKind.u64.wrap e)))+3)) (λs=>s) (λ_=>True) _ trivial (λs i hi _=>⟨?_,trivial⟩) (λs _=> ?_)).trans rfl,h,hl,by omega,by omega⟩
 ·simp only[dlt hi,cond_true,AB hi,bs,wq i]
 ·simp only[Br,cond_false]
theorem l1Empty_eq (n:Nat)(hn:n≤16):D.C0 (n:Int)=some (List.replicate n []):=by
 unfold D.C0
 refine(CT (λi=>((i:Int),List.replicate i [])) n (List.replicate n []) (by simp) (λi hi=> ?_) ?_).trans rfl
 ·simp only[dlt hi,cond_true,wq i]
  rw[Bm (by simp;omega),bs,←List.replicate_succ']
 ·simp only[Br,cond_false]
theorem row_set {g:LL}{u v:Nat}{r:LI}(hu:u<g.length):row (g.set u r) v=if v=u then r else row g v:=by
 unfold row
 by_cases h:v=u
 ·subst h;simp[hu]
 ·rw[if_neg h,List.getD_eq_getElem?_getD,List.getElem?_set_ne (λe=>h e.symm),←List.getD_eq_getElem?_getD]
theorem l1Link_ok {g:LL}(hg:GOk g){u v:Nat}(hu:u<g.length)(hv:v<g.length)(huv:u≠v):
  ∃g',D.a0 g (u:Int) (v:Int)=some g'∧GOk g'∧g'.length=g.length∧∀a b,adj g' a b↔adj g a b∨(a=u∧b=v)∨(a=v∧b=u):=by
 have h16:=hg.n16
 have hru:=hg.rows u hu;have hrv:=hg.rows v hv
 have hlu:=hg.row_len hu;have hlv:=hg.row_len hv
 refine⟨(g.set u (into (row g u) v)).set v (into (row g v) u),?_,?_⟩
 ·unfold D.a0
  have e1:row (g.set u (into (row g u) v)) v=row g v:=by rw[row_set hu,if_neg (Ne.symm huv)]
  simp only[B6 hu,bs,l1Into_eq _ _ hru.1 (show (row g u).length≤4294967295 by omega),Int.toNat_natCast]
  rw[B6 (show v<(g.set u (into (row g u) v)).length by simpa using hv),e1]
  simp only[bs,l1Into_eq _ _ hrv.1 (show (row g v).length≤4294967295 by omega)]
 ·have hrow:∀w,row ((g.set u (into (row g u) v)).set v (into (row g v) u)) w=if w=v then into (row g v) u else if w=u then into (row g u) v else row g w:=by
   intro w
   rw[row_set (by simpa using hv),row_set hu]
  have hadj:∀a b,adj ((g.set u (into (row g u) v)).set v (into (row g v) u)) a b↔adj g a b∨(a=u∧b=v)∨(a=v∧b=u):=by
   intro a b
   unfold adj
   rw[hrow]
   by_cases ha:a=v
   ·subst ha
    rw[if_pos rfl,mem_into]
    constructor
    ·rintro(h|h)
     ·exact .inr (.inr ⟨rfl,by omega⟩)
     ·exact .inl h
    ·rintro(h|⟨h,_⟩|⟨_,h⟩)
     ·exact .inr h
     ·exact absurd h.symm huv
     ·exact .inl (by omega)
   ·rw[if_neg ha]
    by_cases ha':a=u
    ·subst ha'
     rw[if_pos rfl,mem_into]
     constructor
     ·rintro(h|h)
      ·exact .inr (.inl ⟨rfl,by omega⟩)
      ·exact .inl h
     ·rintro(h|⟨_,h⟩|⟨h,_⟩)
      ·exact .inr h
      ·exact .inl (by omega)
      ·exact absurd h ha
    ·rw[if_neg ha']
     constructor
     ·exact .inl
     ·rintro(h|⟨h,_⟩|⟨h,_⟩)
      ·exact h
      ·exact absurd h ha'
      ·exact absurd h ha
  refine⟨⟨by simpa using hg.n1,by simpa using h16,λw hw=> ?_,λw hw=> ?_,λa b ha hab=> ?_⟩,by simp,hadj⟩
  ·simp only[List.length_set] at hw ⊢
   rw[hrow]
   split
   ·refine⟨hrv.1.into _,λx hx=> ?_⟩
    rcases mem_into.1 hx with rfl|hx
    ·omega
    ·exact hrv.2 x hx
   ·split
    ·refine⟨hru.1.into _,λx hx=> ?_⟩
     rcases mem_into.1 hx with rfl|hx
     ·omega
     ·exact hru.2 x hx
    ·exact hg.rows w hw
  ·simp only[List.length_set] at hw
   rw[hadj]
   rintro(h|⟨h1,h2⟩|⟨h1,h2⟩)
   ·exact hg.irr w hw h
   ·omega
   ·omega
  ·simp only[List.length_set] at ha
   rw[hadj] at hab ⊢
   rcases hab with h|h|h
   ·exact .inl (hg.sym a b ha h)
   ·exact .inr (.inr ⟨h.2,h.1⟩)
   ·exact .inr (.inl ⟨h.2,h.1⟩)
theorem GOk.empty {n:Nat}(h1:1≤n)(h16:n≤16):GOk (List.replicate n []):=by
 have hr:∀v,row (List.replicate n []) v=[]:=λv=>by
  unfold row
  rw[List.getD_eq_getElem?_getD,List.getElem?_replicate];split<;>rfl
 refine⟨by simpa using h1,by simpa using h16,λv _=> ?_,λv _=> ?_,λu v _ h=> ?_⟩
 ·rw[hr];exact⟨by simp[Inc],by simp⟩
 ·unfold adj;rw[hr];simp
 ·unfold adj at h;rw[hr] at h;simp at h
def EdgeIn (n:Nat)(e:LI):Prop:=∃a b:Nat,e=[(a:Int),(b:Int)]∧a<b∧b<n
theorem setB_edge {n:Nat}{a b:Nat}(h:a<b)(hb:b<n):DE [(a:Int),(b:Int)] n=true:=by
 rw[DV]
 refine⟨by simp[Inc];omega,λx hx=> ?_⟩
 simp at hx
 rcases hx with rfl|rfl<;>omega
theorem GraphOf_ok (n:Nat)(edges:LL)(h1:1≤n)(h16:n≤16)(he:edges.length≤120)(hE:∀e∈edges,EdgeIn n e):
  ∃g,D.q0 (n:Int) edges=some (g,true)∧GOk g∧g.length=n∧∀a b:Nat,adj g a b↔([(a:Int),(b:Int)]∈edges∧a<b)∨([(b:Int),(a:Int)]∈edges∧b<a):=by
 unfold D.q0
 rw[E3]
 have e1:(decide ((1:Int)≤(n:Int))&&decide ((n:Int)≤16))=true:=by simp;omega
 have e2:decide ((120:Int)<(edges.length:Int))=false:=by simp;omega
 simp only[bs,e1,e2,Bool.not_true,Bool.or_false,cond_false,l1Empty_eq n h16]
 have key:∀(k i:Nat) (g:LL),i+k=edges.length→GOk g→g.length=n→(∀a b:Nat,adj g a b↔([(a:Int),(b:Int)]∈edges.take i∧a<b)∨([(b:Int),(a:Int)]∈edges.take i∧b<a))→
   ∃g',Aq (σ:=Int×LL) (ρ:=(LL) ⊕ ((LL)×Bool)) (fun(s_217:Int×LL)=>match s_217 with|(x_220,l_221)=>cond (decide (x_220<(edges.length:Int))) ((idx edges x_220).bind λe_319=>(cond ((e_319.length:Int) !=2) (some true) ((idx edges x_220).bind λe_356=>(D.M e_356 (n:Int)).bind λy_362=>some (!y_362))).bind λb_354=>cond b_354 (some (.inr (.inr (([]:LL),false)))) ((idx edges x_220).bind λe_375=>(idx e_375 0).bind λe_381=>(idx edges x_220).bind λe_387=>(idx e_387 1).bind λe_393=>(D.a0 l_221 e_381 e_393).bind λy_401=>some (.inl ((IntKind.i64.wrap (x_220+1)),y_401)))) (some (.inr (.inl l_221)))) ((i:Int),g)=some (.inl g')∧GOk g'∧g'.length=n∧(∀a b:Nat,adj g' a b↔([(a:Int),(b:Int)]∈edges∧a<b)∨([(b:Int),(a:Int)]∈edges∧b<a)):=by
  intro k
  induction k with
  |zero=>
   intro i g hi hg hl ha
   obtain rfl:i=edges.length:=by omega
   rw[List.take_length] at ha
   exact⟨g,AQ (by simp only[Br,cond_false]),hg,hl,ha⟩
  |succ k ih=>
   intro i g hi hg hl ha
   have hil:i<edges.length:=by omega
   obtain⟨a,b,eab,hab,hbn⟩:=hE _ (List.getElem_mem hil)
   obtain⟨g',k1,k2,k3,k4⟩:=l1Link_ok hg (u:=a) (v:=b) (by omega) (by omega) (by omega)
   obtain⟨g'',m1,m2⟩:=ih (i+1) g' (by omega) k2 (by omega) (λc d=>by
    rw[k4,ha,List.take_succ_eq_append_getElem hil]
    simp only[List.mem_append,List.mem_singleton,eab,List.cons.injEq,and_true]
    constructor
    ·rintro((⟨h,h'⟩|⟨h,h'⟩)|⟨rfl,rfl⟩|⟨rfl,rfl⟩)
     ·exact .inl ⟨.inl h,h'⟩
     ·exact .inr ⟨.inl h,h'⟩
     ·exact .inl ⟨.inr ⟨rfl,rfl⟩,hab⟩
     ·exact .inr ⟨.inr ⟨rfl,rfl⟩,hab⟩
    ·rintro(⟨h|⟨h,h2⟩,h'⟩|⟨h|⟨h,h2⟩,h'⟩)
     ·exact .inl (.inl ⟨h,h'⟩)
     ·exact .inr (.inl ⟨by omega,by omega⟩)
     ·exact .inl (.inr ⟨h,h'⟩)
     ·exact .inr (.inr ⟨by omega,by omega⟩))
   refine⟨g'',?_,m2⟩
   rw[Bi (s':=(((i+1:Nat):Int),g'))]
   ·exact m1
   ·have h0:idx [(a:Int),(b:Int)] 0=some (a:Int):=rfl
    have h1':idx [(a:Int),(b:Int)] 1=some (b:Int):=rfl
    have hlen:((([(a:Int),(b:Int)]).length:Int) !=2)=false:=rfl
    simp only[dlt hil,cond_true,AB hil,eab,bs,hlen,cond_false,l1Set_eq [(a:Int),(b:Int)] n (by simp[Sh]) (by omega) (by omega),setB_edge hab hbn,Bool.not_true,h0,h1',k1,wq i]
 obtain⟨g',m1,m2,m3,m4⟩:=key edges.length 0 (List.replicate n []) (by omega) (GOk.empty h1 h16) (by simp) (λa b=>by
  unfold adj row
  rw[List.getD_eq_getElem?_getD,List.getElem?_replicate]
  split<;>simp)
 refine⟨g',?_,m2,m3,m4⟩
 rw[show ((0:Nat):Int)=0 from rfl] at m1
 rw[m1];rfl
theorem w9Graph_ok {b:LI}{i:Int}(h:DK b i)(z:Int)(most:Nat)(h1:1≤most)(h8:most≤8):
  ∃y,D.m0 b i z (most:Int)=some y∧(GOk y.1∧y.1.length≤most∧y.2.1=b∧DK b y.2.2.1):=by
 unfold D.m0
 refine Ce _ (Ey h z most (by omega)) ?_
 rintro⟨r,b1,i1,z1⟩ ⟨r0,r1,rfl,k1⟩
 dsimp only at r0 r1 k1 ⊢
 refine Ce _ (Ey k1 z1 3 (by omega)) ?_
 rintro⟨q,b2,i2,z2⟩ ⟨q0,q1,rfl,k2⟩
 dsimp only at q0 q1 k2 ⊢
 obtain⟨n,en,en'⟩:∃n:Nat,IntKind.i64.wrap (1+r)=(n:Int)∧(n:Int)=1+r:=⟨(1+r).toNat,by rw[w64 (by omega) (by omega)];omega,by omega⟩
 rw[en]
 refine A3 (λs=>∃v:Nat,s.2.1=(v:Int)∧1≤v∧v≤n∧s.2.2.1=b2∧DK b2 s.2.2.2.1∧s.1.length≤8*v+v∧∀e∈s.1,EdgeIn n e) (λs=>n-s.2.1.toNat)
  (λr=>r.2.1=b2∧DK b2 r.2.2.1∧r.1.length≤120∧∀e∈r.1,EdgeIn n e) ?_ ?_ ?_
 ·rintro⟨l,_,b2,i,z⟩ ⟨v,rfl,g1,g2,rfl,hk,hl,hE⟩
  dsimp only at hk hl hE ⊢
  by_cases hv:v<n
  ·simp only[dlt hv,cond_true]
   refine A3 (λs=>∃u:Nat,s.2.1=(u:Int)∧u≤v∧s.2.2.1=b2∧DK b2 s.2.2.2.1∧s.1.length≤8*v+v+u∧∀e∈s.1,EdgeIn n e) (λs=>v-s.2.1.toNat)
    (λr=>r.2.1=b2∧DK b2 r.2.2.1∧r.1.length≤8*v+v+v∧∀e∈r.1,EdgeIn n e) ?_ ⟨0,rfl,by omega,rfl,hk,by dsimp only;omega,hE⟩ ?_
   ·rintro⟨l,_,b2,i,z⟩ ⟨u,rfl,g3,rfl,hk,hl,hE⟩
    dsimp only at hk hl hE ⊢
    by_cases hu:u<v
    ·simp only[dlt hu,cond_true]
     refine Ce _ (Ey hk z 4 (by omega)) ?_
     rintro⟨t,b2,i3,z3⟩ ⟨t0,t1,rfl,hk'⟩
     dsimp only at t0 t1 hk' ⊢
     by_cases hc:t<IntKind.i64.wrap (1+q)
     ·simp only[hc,decide_true,cond_true,wq u]
      rw[Bm (by simp;omega),bs]
      refine⟨_,rfl,⟨u+1,rfl,by omega,rfl,hk',by simp;omega,λe he=> ?_⟩,by dsimp only;omega⟩
      rcases List.mem_append.1 he with he|he
      ·exact hE e he
      ·simp at he;subst he;exact⟨u,v,rfl,hu,hv⟩
     ·simp only[hc,decide_false,cond_false,wq u]
      exact⟨_,rfl,⟨u+1,rfl,by omega,rfl,hk',by dsimp only;omega,hE⟩,by dsimp only;omega⟩
    ·obtain rfl:u=v:=by omega
     simp only[Br,cond_false]
     exact⟨_,rfl,rfl,hk,by dsimp only;omega,hE⟩
   ·rintro⟨l,b2,i3,z3⟩ ⟨rfl,hk',hl',hE'⟩
    dsimp only at hk' hl' hE' ⊢
    simp only[wq v]
    exact⟨_,rfl,⟨v+1,rfl,by omega,by omega,rfl,hk',by dsimp only;omega,hE'⟩,by dsimp only;omega⟩
  ·obtain rfl:v=n:=by omega
   simp only[Br,cond_false]
   exact⟨_,rfl,rfl,hk,by dsimp only;omega,hE⟩
 ·exact⟨1,rfl,by omega,by omega,rfl,k2,by simp,by simp⟩
 ·rintro⟨l,b2,i3,z3⟩ ⟨rfl,hk,hl,hE⟩
  dsimp only at hk hl hE ⊢
  obtain⟨g,m1,m2,m3,_⟩:=GraphOf_ok n l (by omega) (by omega) hl hE
  rw[m1,bs]
  exact⟨_,rfl,m2,by dsimp only;omega,rfl,hk⟩
end Go.Sx



namespace Go.Sx
theorem ext_getD {a b:LI}(hl:a.length=b.length)(h:∀j,j<a.length→a.getD j 0=b.getD j 0):a=b:=by
 apply List.ext_getElem hl
 intro j h1 h2
 have:=h j h1
 rwa [AA h1,AA h2] at this
theorem getD_set (l:LI)(i j:Nat)(x:Int)(hi:i<l.length):(l.set i x).getD j 0=if j=i then x else l.getD j 0:=by
 simp only[List.getD_eq_getElem?_getD,List.getElem?_set]
 by_cases h:j=i
 ·subst h;simp[hi]
 ·rw[if_neg (λe=>h e.symm),if_neg h]
def nb (F:LI)(u w:Nat):Bool:=has (F.getD u 0) w
structure FOk (F:LI)(n:Nat):Prop where
 len:F.length=n
 vs:∀u,u<n→VS (F.getD u 0)
 lt:∀u w,u<n→nb F u w=true→w<n
 irr:∀u,u<n→nb F u u=false
 sym:∀u w,u<n→nb F u w=true→nb F w u=true
theorem FOk.ext {F F':LI}{n:Nat}(h:F.length=n)(h':F'.length=n)(v:∀u,u<n→VS (F.getD u 0))(v':∀u,u<n→VS (F'.getD u 0))(e:∀u w,u<n→nb F u w=nb F' u w):F=F':=by
 refine ext_getD (by omega) (λj hj=> ?_)
 exact(v j (by omega)).ext (v' j (by omega)) (λw _=>e j w (by omega))
theorem Dv (g:LL)(u:Nat):(g.map mk).getD u 0=mk (row g u):=by
 unfold row
 simp only[List.getD_eq_getElem?_getD,List.getElem?_map]
 cases g[u]? with
 |none=>simp[mk]
 |some r=>rfl
theorem BD {g:LL}(hg:GOk g){u w:Nat}(hu:u<g.length):nb (g.map mk) u w=true↔adj g u w:=by
 have h16:=hg.n16
 unfold nb
 rw[Dv,De (λx hx=>by have:=(hg.rows u hu).2 x hx;omega)]
 simp[adj]
theorem FOk.of {g:LL}(hg:GOk g):FOk (g.map Sx.mk) g.length:=by
 refine⟨by simp,λu _=>by rw[Dv];exact VS.mk _,λu w hu h=>hg.lt hu ((BD hg hu).1 h),λu hu=> ?_,λu w hu h=> ?_⟩
 ·cases h:nb (g.map Sx.mk) u u
  ·rfl
  ·exact absurd ((BD hg hu).1 h) (hg.irr u hu)
 ·have ha:=(BD hg hu).1 h
  exact(BD hg (hg.lt hu ha)).2 (hg.sym u w hu ha)
def grow (F:LI):LL:=F.map Al
theorem row_grow (F:LI)(u:Nat):row (grow F) u=Al (F.getD u 0):=by
 unfold row grow
 simp only[List.getD_eq_getElem?_getD,List.getElem?_map]
 cases F[u]? with
 |none=>simp[EG]
 |some r=>rfl
theorem DY {F:LI}{n u w:Nat}(h:FOk F n)(hu:u<n):adj (grow F) u w↔nb F u w=true:=by
 unfold adj nb
 rw[row_grow,AE (h.vs u hu)]
theorem GOk.grow {F:LI}{n:Nat}(h:FOk F n)(h1:1≤n)(h16:n≤16):GOk (grow F):=by
 have hl:(Sx.grow F).length=n:=by unfold Sx.grow;rw[List.length_map,h.len]
 refine⟨by omega,by omega,λv hv=> ?_,λv hv ha=> ?_,λu v hu ha=> ?_⟩
 ·rw[row_grow,hl]
  refine⟨Bt _,λx hx=> ?_⟩
  obtain⟨w,_,h2,rfl⟩:=mem_elems.1 hx
  have:=h.lt v w (by omega) h2
  omega
 ·rw[DY h (by omega)] at ha
  rw[h.irr v (by omega)] at ha;cases ha
 ·rw[DY h (by omega)] at ha
  have:=h.lt u v (by omega) ha
  rw[DY h (by omega)]
  exact h.sym u v (by omega) ha
theorem mk_elems {s:Int}(h:VS s):mk (Al s)=s:=by
 refine(VS.mk _).ext h (λv hv=> ?_)
 rw[De (λx hx=>by obtain⟨w,h1,_,rfl⟩:=mem_elems.1 hx;omega),Bool.eq_iff_iff,decide_eq_true_eq,AE h]
theorem all_mask :∀n:Fin 17,∀v:Fin 32,has (IntKind.u32.wrap (ishl .u32 1 (n.val:Int)-1)) v.val=decide (v.val<n.val):=by decide+kernel
theorem Ee (F:LI)(h:F.length≤16):∃s,D.p F=some s∧VS s∧∀v,has s v=decide (v<F.length):=by
 refine⟨IntKind.u32.wrap (ishl .u32 1 (F.length:Int)-1),?_,VS.wrap _,λv=> ?_⟩
 ·unfold D.p D.A
  have:decide ((F.length:Int)<0)=false:=by simp
  rw[this];rfl
 ·by_cases hv:v<32
  ·exact all_mask ⟨F.length,by omega⟩ ⟨v,hv⟩
  ·rw[Dn (VS.wrap _) (by omega)];symm;simp;omega
def PEO (F:LI)(o:LI):Prop:=∀(j:Nat) (v u w:Nat),o[j]? =some (v:Int)→nb F v u=true→nb F v w=true→(u:Int)∉o.take (j+1)→(w:Int)∉o.take (j+1)→u≠w→nb F u w=true
def Lat (F L:LI)(o:LI)(i:Nat):Prop:=∀(j:Nat) (v:Nat),j<i→o[j]? =some (v:Int)→∀w,nb L v w=(nb F v w&&decide ((w:Int)∉o.take (j+1)))
inductive Via (F:LI)(gone:Nat→Prop)(u:Nat):Nat→Prop
 |me:Via F gone u u
 |step {x y:Nat}:Via F gone u x→nb F x y=true→gone y→Via F gone u y
theorem Via.mono {F:LI}{g g':Nat→Prop}{u x:Nat}(h:Via F g u x)(hg:∀y,g y→g' y):Via F g' u x:=by
 induction h with
 |me=>exact .me
 |step _ h1 h2 ih=>exact .step ih h1 (hg _ h2)
theorem Via.end_ {F:LI}{g:Nat→Prop}{u x:Nat}(h:Via F g u x):x=u∨g x:=by
 cases h with
 |me=>exact .inl rfl
 |step _ _ h2=>exact .inr h2
theorem Via.lt {F:LI}{n:Nat}(hF:FOk F n){g:Nat→Prop}{u x:Nat}(hu:u<n)(h:Via F g u x):x<n:=by
 induction h with
 |me=>exact hu
 |step _ h1 _ ih=>exact hF.lt _ _ ih h1
theorem Via.back {F:LI}{n:Nat}(hF:FOk F n){g g':Nat→Prop}(hg:∀y,g y→g' y){v x:Nat}(hv:v<n)(hgv:g' v)(h:Via F g v x):∀z,Via F g' z x→Via F g' z v:=by
 induction h with
 |me=>exact λz h=>h
 |step hx h1 h2 ih=>
  intro z hz
  have hxn:=Via.lt hF hv hx
  refine ih z (.step hz (hF.sym _ _ hxn h1) ?_)
  rcases hx.end_ with e|e
  ·rw[e];exact hgv
  ·exact hg _ e
def Bhd (F:LI)(gone:Nat→Prop)(v w:Nat):Prop:=∃x,Via F gone v x∧nb F x w=true
structure EInv (n:Nat)(F0 o:LI)(i:Nat)(F L:LI)(left:Int):Prop where
 f:FOk F n
 lenL:L.length=n
 vsL:∀u,u<n→VS (L.getD u 0)
 vsl:VS left
 left:∀v,has left v=decide (v<n∧(v:Int)∉o.take i)
 mono:∀u w,u<n→nb F0 u w=true→nb F u w=true
 lat:Lat F L o i
 peo:∀(j:Nat) (v u w:Nat),j<i→o[j]? =some (v:Int)→nb F v u=true→nb F v w=true→(u:Int)∉o.take (j+1)→(w:Int)∉o.take (j+1)→u≠w→nb F u w=true
 same:PEO F0 o→F=F0
 via:∀u w:Nat,u<n→(u:Int)∉o.take i→(w:Int)∉o.take i→u≠w→(nb F u w=true↔Bhd F0 (λx=>(x:Int)∈o.take i) u w)
 latb:∀(j:Nat) (v:Nat),j<i→o[j]? =some (v:Int)→∀w:Nat,nb L v w=true↔(w:Int)∉o.take (j+1)∧Bhd F0 (λx=>(x:Int)∈o.take j) v w
theorem C5 {o:LI}{j i:Nat}(h:j≤i){x:Int}(hx:x∈o.take j):x∈o.take i:=by
 rw[mem_take_iff] at hx ⊢
 obtain⟨k,h1,h2,h3⟩:=hx
 exact⟨k,h1,by omega,h3⟩
theorem EInv.step {n:Nat}{F0 o F L:LI}{i v:Nat}{left:Int}(h16:n≤16)(h0:FOk F0 n)(hn:∀x∈o,0≤x∧x<n)(hnd:o.Nodup)(hi:i<o.length)(hv:o[i]=(v:Int))(h:EInv n F0 o i F L left){F':LI}
  (hl':F'.length=n) (hv':∀u,u<n→VS (F'.getD u 0)) (h':∀u w,u<n→nb F' u w=(nb F u w||(has (iand .u32 (F.getD v 0) (iandNot .u32 left (ishl .u32 1 (v:Int)))) u&&has (iand .u32 (F.getD v 0) (iandNot .u32 left (ishl .u32 1 (v:Int)))) w&&decide (w≠u)))):
  EInv n F0 o (i+1) F' (L.set v (iand .u32 (F.getD v 0) (iandNot .u32 left (ishl .u32 1 (v:Int))))) (iandNot .u32 left (ishl .u32 1 (v:Int))):=by
 have hvn:v<n:=by have:=hn _ (List.getElem_mem hi);omega
 have hvt:(v:Int)∉o.take i:=by rw[←hv];exact nodup_iff.1 hnd i hi
 have htk:∀x:Nat,((x:Int)∈o.take (i+1))↔((x:Int)∈o.take i∨x=v):=λx=>by
  rw[List.take_succ_eq_append_getElem hi,List.mem_append,hv];simp[Int.natCast_inj]
 have hleft:∀w,has (iandNot .u32 left (ishl .u32 1 (v:Int))) w=decide (w<n∧(w:Int)∉o.take (i+1)):=λw=>by
  rw[AU h.vsl (VS.ishl _ _),Bc (by omega),h.left,Bool.eq_iff_iff]
  simp only[Bool.and_eq_true,decide_eq_true_eq,Bool.not_eq_true',decide_eq_false_iff_not,htk]
  constructor
  ·rintro⟨⟨a,b⟩,c⟩;exact⟨a,λhh=>hh.elim b c⟩
  ·rintro⟨a,b⟩;exact⟨⟨a,λhh=>b (.inl hh)⟩,λhh=>b (.inr hh)⟩
 have hS:∀w,has (iand .u32 (F.getD v 0) (iandNot .u32 left (ishl .u32 1 (v:Int)))) w=(nb F v w&&decide ((w:Int)∉o.take (i+1))):=λw=>by
  rw[Ck (h.f.vs v hvn) (VS.iandNot _ _),hleft,Bool.eq_iff_iff]
  show (nb F v w&&_)=true↔_
  simp only[Bool.and_eq_true,decide_eq_true_eq]
  exact⟨fun⟨a,b,c⟩=>⟨a,c⟩,fun⟨a,c⟩=>⟨a,h.f.lt v w hvn a,c⟩⟩
 have hlV:VS (iandNot .u32 left (ishl .u32 1 (v:Int))):=VS.iandNot _ _
 generalize iandNot .u32 left (ishl .u32 1 (v:Int))=left' at*
 generalize hSS:iand .u32 (F.getD v 0) left'=S at*
 have hSV:VS S:=by rw[←hSS];exact VS.iand _ _
 have hSlt:∀w,has S w=true→w<n∧(w:Int)∉o.take (i+1):=λw hw=>by
  rw[hS] at hw
  simp only[Bool.and_eq_true,decide_eq_true_eq] at hw
  exact⟨h.f.lt v w hvn hw.1,hw.2⟩
 have hmono:∀u w,u<n→nb F u w=true→nb F' u w=true:=λu w hu hh=>by rw[h' u w hu,hh];rfl
 have hold:∀x:Nat,x<n→(x:Int)∈o.take (i+1)→∀w,nb F' x w=nb F x w:=λx hx hm w=>by
  rw[h' x w hx]
  have:has S x=false:=by
   cases hc:has S x
   ·rfl
   ·exact absurd hm (hSlt x hc).2
  simp[this]
 have hf':FOk F' n:=by
  refine⟨hl',hv',λu w hu hh=> ?_,λu hu=> ?_,λu w hu hh=> ?_⟩
  ·rw[h' u w hu] at hh
   simp only[Bool.or_eq_true,Bool.and_eq_true] at hh
   rcases hh with hh|⟨⟨_,hh⟩,_⟩
   ·exact h.f.lt u w hu hh
   ·exact(hSlt w hh).1
  ·rw[h' u u hu,h.f.irr u hu];simp
  ·rw[h' u w hu] at hh
   simp only[Bool.or_eq_true,Bool.and_eq_true,decide_eq_true_eq] at hh
   rcases hh with hh|⟨⟨h1,h2⟩,h3⟩
   ·exact hmono w u (h.f.lt u w hu hh) (h.f.sym u w hu hh)
   ·rw[h' w u (hSlt w h2).1,h1,h2]
    have:decide (u≠w)=true:=by simpa using λe=>h3 e.symm
    simp[this]
 have hjv:∀j (x:Nat),o[j]? =some (x:Int)→j<o.length∧x<n∧(x:Int)∈o.take (j+1):=λj x hx=>by
  obtain⟨h1,h2⟩:=List.getElem?_eq_some_iff.1 hx
  have:=hn _ (List.getElem_mem h1)
  refine⟨h1,by omega,?_⟩
  rw[mem_take_iff];exact⟨j,h1,by omega,h2⟩
 refine⟨hf',by simp[h.lenL],λu hu=> ?_,hlV,hleft,λu w hu hh=>hmono u w hu (h.mono u w hu hh),λj x hj hx w=> ?_,λj x u w hj hx h1 h2 h3 h4 h5=> ?_,λhp=> ?_,λu w hu k1 k2 huw=> ?_,λj x hj hx w=> ?_⟩
 ·rw[getD_set _ _ _ _ (by rw[h.lenL];exact hvn)]
  split
  ·exact hSV
  ·exact h.vsL u hu
 ·obtain⟨k1,k2,k3⟩:=hjv j x hx
  have k4:=C5 (show j+1≤i+1 by omega) k3
  rw[hold x k2 k4 w]
  unfold nb
  rw[getD_set _ _ _ _ (by rw[h.lenL];exact hvn)]
  by_cases hji:j=i
  ·subst hji
   rw[List.getElem?_eq_getElem hi,hv] at hx
   have:x=v:=by
    have:(v:Int)=(x:Int):=by simpa using hx
    omega
   subst this
   rw[if_pos rfl,hS];rfl
  ·have hne:x≠v:=λe=>by
    subst e
    exact hvt (C5 (show j+1≤i by omega) k3)
   rw[if_neg hne]
   exact h.lat j x (by omega) hx w
 ·obtain⟨k1,k2,k3⟩:=hjv j x hx
  have k4:=C5 (show j+1≤i+1 by omega) k3
  rw[hold x k2 k4] at h1 h2
  by_cases hji:j=i
  ·subst hji
   rw[List.getElem?_eq_getElem hi,hv] at hx
   have:x=v:=by
    have:(v:Int)=(x:Int):=by simpa using hx
    omega
   subst this
   have hu:has S u=true:=by rw[hS,h1];simpa using h3
   have hw:has S w=true:=by rw[hS,h2];simpa using h4
   rw[h' u w (hSlt u hu).1,hu,hw]
   have:decide (w≠u)=true:=by simpa using λe=>h5 e.symm
   simp[this]
  ·exact hmono u w (h.f.lt x u k2 h1) (h.peo j x u w (by omega) hx h1 h2 h3 h4 h5)
 ·have hFF:=h.same hp
  subst hFF
  refine FOk.ext hl' h.f.len hv' h.f.vs (λu w hu=> ?_)
  rw[h' u w hu,Bool.eq_iff_iff]
  simp only[Bool.or_eq_true,Bool.and_eq_true,decide_eq_true_eq]
  constructor
  ·rintro(hh|⟨⟨h1,h2⟩,h3⟩)
   ·exact hh
   ·have k1:=(hSlt u h1).2;have k2:=(hSlt w h2).2
    rw[hS] at h1 h2
    simp only[Bool.and_eq_true] at h1 h2
    exact hp i v u w (by rw[List.getElem?_eq_getElem hi,hv]) h1.1 h2.1 k1 k2 (λe=>h3 e.symm)
  ·exact .inl
 ·have q1:(u:Int)∉o.take i:=λe=>k1 ((htk u).2 (.inl e))
  have q2:(w:Int)∉o.take i:=λe=>k2 ((htk w).2 (.inl e))
  have huv:u≠v:=λe=>k1 ((htk u).2 (.inr e))
  have hwv:w≠v:=λe=>k2 ((htk w).2 (.inr e))
  have hgg:∀y:Nat,(y:Int)∈o.take i→(y:Int)∈o.take (i+1):=λy hy=>(htk y).2 (.inl hy)
  rw[h' u w hu]
  simp only[Bool.or_eq_true,Bool.and_eq_true,decide_eq_true_eq]
  constructor
  ·rintro(hh|⟨⟨a1,a2⟩,_⟩)
   ·obtain⟨x,hx,e⟩:=(h.via u w hu q1 q2 huw).1 hh
    exact⟨x,hx.mono hgg,e⟩
   ·rw[hS] at a1 a2
    simp only[Bool.and_eq_true,decide_eq_true_eq] at a1 a2
    obtain⟨x,hx,ex⟩:=(h.via v u hvn hvt q1 (λe=>huv e.symm)).1 a1.1
    obtain⟨y,hy,ey⟩:=(h.via v w hvn hvt q2 (λe=>hwv e.symm)).1 a2.1
    have hvg:(v:Int)∈o.take (i+1):=(htk v).2 (.inr rfl)
    have hxn:=Via.lt h0 hvn hx
    have hxg:(x:Int)∈o.take (i+1):=by
     rcases hx.end_ with e|e
     ·rw[e];exact hvg
     ·exact hgg x e
    have hux:Via F0 (λx=>(x:Int)∈o.take (i+1)) u x:= .step .me (h0.sym x u hxn ex) hxg
    have huv':=Via.back h0 (g':=λx=>(x:Int)∈o.take (i+1)) hgg hvn hvg hx u hux
    have hgo:∀y,Via F0 (λx=>(x:Int)∈o.take i) v y→Via F0 (λx=>(x:Int)∈o.take (i+1)) u y:=λy hy=>by
     induction hy with
     |me=>exact huv'
     |step _ b1 b2 ih=>exact .step ih b1 (hgg _ b2)
    exact⟨y,hgo y hy,ey⟩
  ·rintro⟨x,hx,ex⟩
   have hcl:∀x,Via F0 (λx=>(x:Int)∈o.take (i+1)) u x→Via F0 (λx=>(x:Int)∈o.take i) u x∨(Bhd F0 (λx=>(x:Int)∈o.take i) u v∧Via F0 (λx=>(x:Int)∈o.take i) v x):=λx hx=>by
    induction hx with
    |me=>exact .inl .me
    | @step a b _ b1 b2 ih=>
     rcases(htk b).1 b2 with b2|b2
     ·rcases ih with ih|⟨ih1,ih2⟩
      ·exact .inl (.step ih b1 b2)
      ·exact .inr ⟨ih1,.step ih2 b1 b2⟩
     ·rcases ih with ih|⟨ih1,ih2⟩
      ·subst b2;exact .inr ⟨⟨a,ih,b1⟩,.me⟩
      ·subst b2;exact .inr ⟨ih1,.me⟩
   rcases hcl x hx with hx|⟨hx1,hx2⟩
   ·exact .inl ((h.via u w hu q1 q2 huw).2 ⟨x,hx,ex⟩)
   ·right
    have a1:=(h.via u v hu q1 hvt huv).2 hx1
    have a2:=(h.via v w hvn hvt q2 (λe=>hwv e.symm)).2 ⟨x,hx2,ex⟩
    refine⟨⟨?_,?_⟩,λe=>huw e.symm⟩
    ·rw[hS,h.f.sym u v hu a1];simpa using k1
    ·rw[hS,a2];simpa using k2
 ·obtain⟨k1,k2,k3⟩:=hjv j x hx
  unfold nb
  rw[getD_set _ _ _ _ (by rw[h.lenL];exact hvn)]
  by_cases hji:j=i
  ·subst hji
   rw[List.getElem?_eq_getElem hi,hv] at hx
   have:x=v:=by
    have:(v:Int)=(x:Int):=by simpa using hx
    omega
   subst this
   rw[if_pos rfl,hS,Bool.and_eq_true,decide_eq_true_eq]
   constructor
   ·rintro⟨b1,b2⟩
    have b3:(w:Int)∉o.take j:=λe=>b2 ((htk w).2 (.inl e))
    have b4:x≠w:=λe=>b2 ((htk w).2 (.inr e.symm))
    exact⟨b2,(h.via x w hvn hvt b3 b4).1 b1⟩
   ·rintro⟨b2,b1⟩
    have b3:(w:Int)∉o.take j:=λe=>b2 ((htk w).2 (.inl e))
    have b4:x≠w:=λe=>b2 ((htk w).2 (.inr e.symm))
    exact⟨(h.via x w hvn hvt b3 b4).2 b1,b2⟩
  ·have hne:x≠v:=λe=>by
    subst e
    exact hvt (C5 (show j+1≤i by omega) k3)
   rw[if_neg hne]
   exact h.latb j x (by omega) hx w
def cnt (n k:Nat):Nat:=((List.range k).filter (λi=>n.testBit i)).length
theorem cnt_add (n a b:Nat):cnt n (a+b)=cnt n a+cnt (n>>>a) b:=by
 unfold cnt
 rw[List.range_add,List.filter_append,List.length_append,List.filter_map,List.length_map]
 congr 2
 apply List.filter_congr
 intro i _
 simp[Nat.testBit_shiftRight]
theorem cnt_mod (n k:Nat):cnt (n%2^k) k=cnt n k:=by
 unfold cnt
 congr 1
 apply List.filter_congr
 intro i hi
 have:=List.mem_range.1 hi
 rw[Nat.testBit_mod_two_pow];simp[this]
theorem elems_length (n:Nat):(Al (n:Int)).length=cnt n 32:=by
 unfold Al cnt
 rw[List.length_map]
 rfl
theorem pop_all :∀b:Fin 256,D2 Ep (b.val:Int)=some ((cnt b.val 8:Nat):Int):=by decide+kernel
theorem pop_at {b:Nat}(h:b<256):D2 Ep (b:Int)=some ((cnt b 8:Nat):Int):=pop_all ⟨b,h⟩
theorem cnt_le (n k:Nat):cnt n k≤k:=by
 unfold cnt
 exact Nat.le_trans (List.length_filter_le _ _) (by simp)
theorem wrap8 {x:Int}(h0:0≤x)(h:x<256):IntKind.u8.wrap x=x:=by
 simp[IntKind.wrap,IntKind.signed,IntKind.bits];omega
theorem OnesCount32_eq {s:Int}(h:VS s):D.B0 s=some ((Al s).length:Int):=by
 obtain⟨n,rfl,hn⟩:=h.nat
 have s24:Bz .u32 (n:Int) 24=((n>>>24:Nat):Int):=shr_eq (n:Int) 24 h (by omega)
 have s16:Bz .u32 (n:Int) 16=((n>>>16:Nat):Int):=shr_eq (n:Int) 16 h (by omega)
 have s8:Bz .u32 (n:Int) 8=((n>>>8:Nat):Int):=shr_eq (n:Int) 8 h (by omega)
 have lt:∀k,n>>>k<4294967296:=λk=>by
  rw[Nat.shiftRight_eq_div_pow];exact Nat.lt_of_le_of_lt (Nat.div_le_self _ _) hn
 have a255:∀m:Nat,m<4294967296→iand .u32 (m:Int) 255=((m%256:Nat):Int):=λm hm=>by
  have:=DR hm (show (255:Nat)<4294967296 by omega)
  rw[show ((255:Nat):Int)=255 from rfl] at this
  rw[this]
  congr 1
  exact Nat.and_two_pow_sub_one_eq_mod (n:=8) m
 have h24:n>>>24<256:=by rw[Nat.shiftRight_eq_div_pow];exact Nat.div_lt_of_lt_mul (by simpa using hn)
 have ec:cnt n 32=cnt (n%256) 8+cnt (n>>>8%256) 8+cnt (n>>>16%256) 8+cnt (n>>>24) 8:=by
  rw[show (32:Nat)=8+(8+(8+8)) from rfl,cnt_add n 8,cnt_add _ 8,cnt_add _ 8]
  have e1:=cnt_mod n 8;have e2:=cnt_mod (n>>>8) 8;have e3:=cnt_mod (n>>>16) 8
  simp only[show (2:Nat)^8=256 from rfl] at e1 e2 e3
  rw[e1,e2,e3]
  simp only[←Nat.shiftRight_add,Nat.reduceAdd]
  omega
 unfold D.B0
 rw[s24,s16,s8,a255 _ (lt 16),a255 _ (lt 8),a255 n hn,pop_at h24,pop_at (Nat.mod_lt _ (by omega)),pop_at (Nat.mod_lt _ (by omega)),pop_at (Nat.mod_lt _ (by omega))]
 simp only[bs]
 have c1:=cnt_le (n>>>24) 8;have c2:=cnt_le (n>>>16%256) 8;have c3:=cnt_le (n>>>8%256) 8;have c4:=cnt_le (n%256) 8
 generalize cnt (n>>>24) 8=a at*;generalize cnt (n>>>16%256) 8=b at*;generalize cnt (n>>>8%256) 8=c at*;generalize cnt (n%256) 8=d at*
 rw[wrap8 (x:=(a:Int)+b) (by omega) (by omega),wrap8 (x:=(a:Int)+b+c) (by omega) (by omega),wrap8 (x:=(a:Int)+b+c+d) (by omega) (by omega),w64 (by omega) (by omega),elems_length,ec]
 congr 1
 omega
theorem size_eq {s:Int}(h:VS s):D.E0 s=some ((Al s).length:Int):=by
 unfold D.E0;rw[OnesCount32_eq h];rfl
theorem Bx :∀{l m:LI},l.Nodup→(∀x∈l,x∈m)→l.length≤m.length
 |[],_,_,_=>by simp
 |x::l,m,h,hs=>by
  have h':=List.nodup_cons.1 h
  have hx:=hs x (by simp)
  have:=Bx (l:=l) (m:=m.erase x) h'.2 (λy hy=>by
   have hne:y≠x:=λe=>h'.1 (e▸hy)
   exact(List.mem_erase_of_ne hne).2 (hs y (by simp[hy])))
  rw[List.length_erase_of_mem hx] at this
  have hp:0<m.length:=List.length_pos_of_mem hx
  simp;omega
theorem nodup_all {l m:LI}(hl:l.Nodup)(hm:m.Nodup)(h:∀x∈l,x∈m)(h':∀x∈m,x∈l):l.length=m.length:=
 Nat.le_antisymm (Bx hl h) (Bx hm h')
theorem Inc.nodup {l:LI}(h:Inc l):l.Nodup:=List.Pairwise.imp (λh e=>by omega) h
theorem l1All_eq (n:Nat)(hn:n≤4294967295):D.g1 (n:Int)=some ((List.range n).map Int.ofNat):=by
 unfold D.g1
 refine(CT (λi=>((List.range i).map Int.ofNat,(i:Int))) n ((List.range n).map Int.ofNat) (by simp) (λi hi=> ?_) ?_).trans rfl
 ·simp only[dlt hi,cond_true,wq i]
  rw[Bm (by simp;omega),bs,List.range_succ,List.map_append];rfl
 ·simp only[Br,cond_false]
theorem l8Meet_eq (a b:LI)(ha:Sh a)(hb:Sh b):D.d1 a b=some (a.filter λx=>decide (x∈b)):=by
 unfold Sh at ha
 unfold D.d1
 have key:∀(k i:Nat),i+k=a.length→∃y,(Aq (σ:=LI×Int) (ρ:=(LI)) (fun(s_78:LI×Int)=>match s_78 with|(l_81,x_86)=>cond (decide (x_86<(a.length:Int))) ((idx a x_86).bind λe_127=>(D.k b e_127).bind λy_133=>cond y_133 ((idx a x_86).bind λe_141=>(AP l_81 ([e_141]:LI)).bind λl_151=>some (.inl (l_151,(IntKind.i64.wrap (x_86+1))))) (some (.inl (l_81,(IntKind.i64.wrap (x_86+1)))))) (some (.inr l_81))) ((a.take i).filter (λx=>decide (x∈b)),(i:Int)))=some y∧y=a.filter λx=>decide (x∈b):=by
  intro k
  induction k with
  |zero=>
   intro i hi
   obtain rfl:i=a.length:=by omega
   rw[List.take_length]
   exact⟨_,AQ (by simp only[Br,cond_false]),rfl⟩
  |succ k ih=>
   intro i hi
   have hil:i<a.length:=by omega
   obtain⟨y,h1,h2⟩:=ih (i+1) (by omega)
   refine⟨y,?_,h2⟩
   rw[Bi]
   ·exact h1
   ·have hlen:((a.take i).filter (λx=>decide (x∈b))).length≤i:=Nat.le_trans (List.length_filter_le _ _) (by simp;omega)
    rw[List.take_succ_eq_append_getElem hil,List.filter_append]
    simp only[dlt hil,cond_true,AB hil,bs,DS b _ hb,wq i]
    by_cases hc:a[i]∈b
    ·simp only[hc,decide_true,cond_true,List.filter_cons,if_true,List.filter_nil]
     rw[Bm (by simp;omega)];rfl
    ·simp[hc]
 obtain⟨y,h1,rfl⟩:=key a.length 0 (by omega)
 simp only[List.take_zero,List.filter_nil] at h1
 rw[show ((0:Nat):Int)=0 from rfl] at h1
 rw[h1];rfl
def withV (bags:LL)(v:Int):LI:=((List.range bags.length).filter λb=>decide (v∈bags.getD b [])).map Int.ofNat
def Lk (links:LL)(x y:Int):Prop:=[x,y]∈links∨[y,x]∈links
structure Closed (links:LL)(sel m:LI):Prop where
 sub:∀x∈m,x∈sel
 first:∀x,sel.head? =some x→x∈m
 step:∀x∈m,∀y∈sel,Lk links x y→y∈m
def Conn (links:LL)(sel:LI):Prop:=∀m,Closed links sel m→∀x∈sel,x∈m
def LinkIn (n:Nat)(l:LI):Prop:=∃a b:Nat,l=[(a:Int),(b:Int)]∧a<b∧b<n
structure TB (g bags links:LL):Prop where
 n1:1≤bags.length
 n16:bags.length≤16
 many:links.length+1=bags.length
 lks:∀l∈links,LinkIn bags.length l
 sets:∀b∈bags,SetOf b g.length
 tree:Conn links ((List.range bags.length).map Int.ofNat)
 edges:∀u v:Nat,u<g.length→adj g u v→∃b∈bags,(u:Int)∈b∧(v:Int)∈b
 some:∀v,v<g.length→withV bags v≠[]
 conn:∀v,v<g.length→Conn links (withV bags v)
theorem GOk.sh2 {g:LL}(hg:GOk g):Sh2 g:=by
 have h16:=hg.n16
 exact⟨by unfold Sh;omega,λr hr=>by have:=(hg.mem0 hr).1;unfold Sh;omega⟩
theorem Co {g:LL}(hg:GOk g):gB g=true:=(gB_iff g).2 hg
theorem OOk.sh {g:LL}{o:LI}(hg:GOk g)(ho:OOk g o):Sh o:=by
 have:=hg.n16;have:=ho.len;unfold Sh;omega
structure Fill (g:LL)(o F L:LI):Prop where
 elim:D.o1 (g.map mk) o=some (F,L)
 f:FOk F g.length
 lenL:L.length=g.length
 vsL:∀u,u<g.length→VS (L.getD u 0)
 mono:∀u w,u<g.length→adj g u w→nb F u w=true
 lat:Lat F L o g.length
 peo:PEO F o
 same:PEO (g.map mk) o→F=g.map mk
 latb:∀(j:Nat) (v:Nat),o[j]? =some (v:Int)→∀w:Nat,nb L v w=true↔(w:Int)∉o.take (j+1)∧Bhd (g.map mk) (λx=>(x:Int)∈o.take j) v w
theorem grow_len (F:LI):(grow F).length=F.length:=by simp[grow]
theorem place' {g:LL}{o:LI}(ho:OOk g o){v:Nat}(hv:v<g.length):∃i:Nat,i<g.length∧o[i]? =some (v:Int):=by
 have hsub:∀x∈o,x∈(List.range g.length).map Int.ofNat:=λx hx=>by
  have:=ho.rng x hx
  exact List.mem_map.2 ⟨x.toNat,List.mem_range.2 (by omega),by show ((x.toNat:Nat):Int)=x;omega⟩
 by_cases hm:(v:Int)∈o
 ·obtain⟨i,hi,e⟩:=List.getElem_of_mem hm
  exact⟨i,by have:=ho.len;omega,by rw[List.getElem?_eq_getElem hi,e]⟩
 ·exfalso
  have h1:((v:Int)::o).length≤((List.range g.length).map Int.ofNat).length:=Bx (List.nodup_cons.2 ⟨hm,ho.nd⟩) (λx hx=>by
   rcases List.mem_cons.1 hx with rfl|hx
   ·exact List.mem_map.2 ⟨v,List.mem_range.2 hv,rfl⟩
   ·exact hsub x hx)
  have:=ho.len
  simp at h1
  omega
theorem least_of {P:Nat→Prop}(h:∃j,P j):∃j,P j∧∀i,i<j→¬P i:=by
 obtain⟨j,hj⟩:=h
 induction j using Nat.strongRecOn with
 |ind j ih=>
  by_cases hc:∃i,i<j∧P i
  ·obtain⟨i,h1,h2⟩:=hc;exact ih i h1 h2
  ·exact⟨j,hj,λi hi hp=>hc ⟨i,hi,hp⟩⟩
theorem Fh {α:Type}(p:α→Bool){l:List α}{i:Nat}(hi:i<l.length):(l.take (i+1)).filter p=(l.take i).filter p++(if p l[i] then [l[i]] else []):=by
 rw[List.take_succ_eq_append_getElem hi,List.filter_append]
 congr 1
 rw[List.filter_cons,List.filter_nil]
def lft (g:LL)(v:Nat)(gone:List Bool):LI:=(row g v).filter λx=> !gone.getD x.toNat false
theorem l7Left_eq (g:LL)(hg:GOk g){v:Nat}(hv:v<g.length)(gone:List Bool)(hl:gone.length=g.length):D.Y0 g (v:Int) gone=some (lft g v gone):=by
 have hr:=hg.row_len hv
 unfold D.Y0 lft
 refine(CT (λi=>(((row g v).take i).filter (λx=> !gone.getD x.toNat false),(i:Int))) (row g v).length ((row g v).filter λx=> !gone.getD x.toNat false) (by simp) (λi hi=> ?_) ?_).trans rfl
 ·obtain⟨w,e1,h1,_⟩:=hg.mem hv (List.getElem_mem hi)
  have hlen:(((row g v).take i).filter (λx=> !gone.getD x.toNat false)).length≤16:=Nat.le_trans (List.length_filter_le _ _) (by simp;omega)
  simp only[B6 hv,bs,dlt hi,cond_true,AB hi,e1,AB (show w<gone.length by omega),wq i]
  have e3:=Fh (λx:Int=> !gone.getD x.toNat false) hi
  rw[e1] at e3
  simp only[Int.toNat_natCast,AA (show w<gone.length by omega)] at e3
  rw[e3]
  cases hc:gone[w]
  ·rw[Bool.not_false,cond_true,Bm (by rw[List.length_singleton];omega),bs];rfl
  ·rw[Bool.not_true,cond_false];simp
 ·simp only[B6 hv,bs,Br,cond_false,List.take_length]
theorem Dx (g:LL)(hg:GOk g){u:Nat}(hu:u<g.length)(w:Int):D.q g (u:Int) w=some (decide (w∈row g u)):=by
 unfold D.q
 rw[B6 hu,bs,DS _ _ (hg.sh2.row hu)];rfl
def Clq (g:LL)(l:LI)(n:Nat):Prop:=∀i k,i<n→k<i→adj g (l.getD k 0).toNat (l.getD i 0).toNat
theorem l7Missing_ok (g:LL)(hg:GOk g)(l:LI)(hl:l.length≤16)(hr:∀x∈l,0≤x∧x<g.length):
  ∃y,D.Z0 g l=some y∧(0≤y∧y≤256∧(y=0↔Clq g l l.length)):=by
 unfold D.Z0
 refine A3 (λs=>∃i:Nat,s.2=(i:Int)∧i≤l.length∧0≤s.1∧s.1≤16*i∧(s.1=0↔Clq g l i)) (λs=>l.length-s.2.toNat) (λr=>0≤r∧r≤256∧(r=0↔Clq g l l.length)) ?_ ⟨0,rfl,by omega,by simp,by simp,by simp[Clq]⟩ (λr h=>⟨r,rfl,h⟩)
 rintro⟨m,_⟩ ⟨i,rfl,hi,h0,h1,h2⟩
 dsimp only at h0 h1 h2 ⊢
 by_cases hlt:i<l.length
 ·simp only[dlt hlt,cond_true]
  refine A3 (λs=>∃k:Nat,s.2=(k:Int)∧k≤i∧0≤s.1∧s.1≤16*i+k∧(s.1=0↔(Clq g l i∧∀k',k'<k→adj g (l.getD k' 0).toNat (l.getD i 0).toNat))) (λs=>i-s.2.toNat)
   (λr=>0≤r∧r≤16*i+i∧(r=0↔Clq g l (i+1))) ?_ ⟨0,rfl,by omega,h0,by omega,by simpa using h2⟩ ?_
  ·rintro⟨m,_⟩ ⟨k,rfl,hk,h0,h1,h2⟩
   dsimp only at h0 h1 h2 ⊢
   by_cases hkl:k<i
   ·have hkk:k<l.length:=by omega
    have r1:=hr _ (List.getElem_mem hkk)
    obtain⟨a,ea⟩:∃a:Nat,l[k]=(a:Int):=⟨l[k].toNat,by omega⟩
    have r2:=hr _ (List.getElem_mem hlt)
    obtain⟨b,eb⟩:∃b:Nat,l[i]=(b:Int):=⟨l[i].toNat,by omega⟩
    have hA:adj g (l.getD k 0).toNat (l.getD i 0).toNat↔(b:Int)∈row g a:=by
     rw[AA hkk,AA hlt,ea,eb];rfl
    simp only[dlt hkl,cond_true,AB hkk,AB hlt,bs,ea,eb,Dx g hg (show a<g.length by omega),wq k]
    have hsplit:(∀k',k'<k+1→adj g (l.getD k' 0).toNat (l.getD i 0).toNat)↔((∀k',k'<k→adj g (l.getD k' 0).toNat (l.getD i 0).toNat)∧(b:Int)∈row g a):=by
     rw[←hA]
     constructor
     ·intro h;exact⟨λk' hk'=>h k' (by omega),h k (by omega)⟩
     ·rintro⟨h3,h4⟩ k' hk'
      rcases Nat.lt_or_ge k' k with hc|hc
      ·exact h3 k' hc
      ·obtain rfl:k'=k:=by omega
       exact h4
    by_cases hm:(b:Int)∈row g a
    ·simp only[decide_eq_true hm,Bool.not_true,cond_false]
     refine⟨_,rfl,⟨k+1,rfl,by omega,h0,by dsimp only;omega,?_⟩,by dsimp only;omega⟩
     dsimp only
     rw[hsplit,h2]
     exact⟨fun⟨p,q⟩=>⟨p,q,hm⟩,fun⟨p,q,_⟩=>⟨p,q⟩⟩
    ·simp only[decide_eq_false hm,Bool.not_false,cond_true]
     rw[w64 (show (-9223372036854775808:Int)≤m+1 by omega) (by omega)]
     refine⟨_,rfl,⟨k+1,rfl,by omega,by dsimp only;omega,by dsimp only;omega,?_⟩,by dsimp only;omega⟩
     dsimp only
     rw[hsplit]
     constructor
     ·intro h;omega
     ·rintro⟨_,_,h⟩;exact absurd h hm
   ·obtain rfl:k=i:=by omega
    simp only[Br,cond_false]
    refine⟨_,rfl,h0,by omega,?_⟩
    rw[h2]
    constructor
    ·rintro⟨h3,h4⟩ i' k' hi' hk'
     rcases Nat.lt_or_ge i' k with hc|hc
     ·exact h3 i' k' hc hk'
     ·obtain rfl:i'=k:=by omega
      exact h4 k' hk'
    ·intro h
     exact⟨λi' k' hi' hk'=>h i' k' (by omega) hk',λk' hk'=>h k k' (by omega) hk'⟩
  ·rintro m ⟨h3,h4,h5⟩
   rw[wq i]
   exact⟨_,rfl,⟨i+1,rfl,by omega,h3,by dsimp only;omega,h5⟩,by dsimp only;omega⟩
 ·obtain rfl:i=l.length:=by omega
  simp only[Br,cond_false]
  exact⟨_,rfl,h0,by omega,h2⟩
theorem l8Clique_ok (g:LL)(hg:GOk g)(l:LI)(hl:l.length≤16)(hr:∀x∈l,0≤x∧x<g.length):∃b,D.o g l=some b∧(b=true↔Clq g l l.length):=by
 obtain⟨y,e,_,_,h⟩:=l7Missing_ok g hg l hl hr
 unfold D.o
 rw[e,bs]
 exact⟨_,rfl,by rw[beq_iff_eq];exact h⟩
theorem lft_len {g:LL}(hg:GOk g){v:Nat}(hv:v<g.length)(gone:List Bool):(lft g v gone).length≤16:=Nat.le_trans (List.length_filter_le _ _) (hg.row_len hv)
theorem lft_rng {g:LL}(hg:GOk g){v:Nat}(hv:v<g.length)(gone:List Bool):∀x∈lft g v gone,0≤x∧x<g.length:=λx hx=>(hg.rows v hv).2 x (List.mem_filter.1 hx).1
theorem lft_inc {g:LL}(hg:GOk g){v:Nat}(hv:v<g.length)(gone:List Bool):Inc (lft g v gone):=List.Pairwise.filter _ (hg.rows v hv).1
def PEOg (g:LL)(o:LI):Prop:=∀(j:Nat) (v u w:Nat),o[j]? =some (v:Int)→adj g v u→adj g v w→(u:Int)∉o.take (j+1)→(w:Int)∉o.take (j+1)→u≠w→adj g u w
def BB (f:Nat→Nat):Nat→Nat
 |0=>0
 |n+1=>BB f n+f n
theorem Cc {f g:Nat→Nat}:∀{n:Nat},(∀i,i<n→f i=g i)→BB f n=BB g n
 |0,_=>rfl
 |n+1,h=>by simp only[BB];rw[Cc (n:=n) (λi hi=>h i (by omega)),h n (by omega)]
theorem Ex (f g:Nat→Nat):∀n,BB (λi=>f i+g i) n=BB f n+BB g n
 |0=>rfl
 |n+1=>by simp only[BB];rw[Ex f g n];omega
theorem ER :∀n,BB (λ_=>0) n=0
 |0=>rfl
 |n+1=>by simp only[BB];rw[ER n]
theorem sumN_swap (f:Nat→Nat→Nat)(m:Nat):∀n,BB (λi=>BB (f i) m) n=BB (λj=>BB (λi=>f i j) n) m
 |0=>by simp only[BB];rw[ER]
 |n+1=>by simp only[BB];rw[sumN_swap f m n,←Ex]
def bit (b:Bool):Nat:=if b then 1 else 0
theorem Ew (p:Nat→Bool):∀n,((List.range n).filter p).length=BB (λi=>bit (p i)) n
 |0=>rfl
 |n+1=>by
  rw[List.range_succ,List.filter_append,List.length_append,Ew p n]
  simp only[BB,bit]
  cases h:p n<;>simp[h]
theorem sumN_tail {f : Nat → Nat} {n m : Nat} (h : n ≤ m) (hz : ∀ i, n ≤ i → f i = 0) : BB f m = BB f n := by
  induction m with
  | zero => obtain rfl : n = 0 := by omega
            rfl
  | succ m ih =>
    by_cases hm : n = m + 1
    · rw [hm]
    · simp only [BB]; rw [ih (by omega), hz m (by omega)]; rfl
theorem elems_sum {s:Int}{n:Nat}(hn:n≤32)(h:∀v,has s v=true→v<n):(Al s).length=BB (λv=>bit (has s v)) n:=by
 unfold Al
 rw[List.length_map,Ew]
 refine sumN_tail hn (λi hi=> ?_)
 unfold bit
 cases hc:has s i
 ·rfl
 ·have:=h i hc;omega
def S2 (n:Nat)(p:Nat→Nat→Bool):Nat:=BB (λu=>BB (λw=>bit (p u w)) n) n
theorem S2_congr {n:Nat}{p q:Nat→Nat→Bool}(h:∀u w,u<n→w<n→p u w=q u w):S2 n p=S2 n q:=
 Cc λu hu=>Cc λw hw=>by rw[h u w hu hw]
theorem S2_swap (n:Nat)(p:Nat→Nat→Bool):S2 n p=S2 n (λu w=>p w u):=by
 unfold S2
 rw[sumN_swap]
theorem S2_or (n:Nat)(p q:Nat→Nat→Bool)(h:∀u w,u<n→w<n→p u w=true→q u w=true→False):S2 n (λu w=>p u w||q u w)=S2 n p+S2 n q:=by
 unfold S2
 rw[←Ex]
 refine Cc λu hu=> ?_
 rw[←Ex]
 refine Cc λw hw=> ?_
 have:=h u w hu hw
 unfold bit
 cases h1:p u w<;>cases h2:q u w<;>simp_all
theorem S2_half {n:Nat}{A:Nat→Nat→Bool}{lt:Nat→Nat→Bool}(hs:∀u w,u<n→w<n→A u w=A w u)(h1:∀u w,u<n→w<n→A u w=true→(lt u w=true∨lt w u=true))(h2:∀u w,u<n→w<n→lt u w=true→lt w u=true→False):
  S2 n A=2*S2 n (λu w=>A u w&&lt u w):=by
 have e1:S2 n A=S2 n (λu w=>(A u w&&lt u w)||(A u w&&lt w u)):=S2_congr λu w hu hw=>by
  have:=h1 u w hu hw
  cases ha:A u w
  ·simp
  ·rcases this ha with h|h<;>simp[h]
 have e2:S2 n (λu w=>A u w&&lt w u)=S2 n (λu w=>A u w&&lt u w):=by
  rw[S2_swap]
  exact S2_congr λu w hu hw=>by rw[hs u w hu hw]
 rw[e1,S2_or,e2]
 ·omega
 ·intro u w hu hw h3 h4
  simp only[Bool.and_eq_true] at h3 h4
  exact h2 u w hu hw h3.2 h4.2
theorem Fi {s:Int}{n:Nat}(hn:n≤32)(h:∀v,has s v=true→v<n)(p:Int→Bool):((Al s).filter p).length=BB (λv=>bit (has s v&&p (v:Int))) n:=by
 unfold Al
 rw[List.filter_map,List.length_map,List.filter_filter,Ew]
 have e:BB (λi=>bit ((p∘Int.ofNat) i&&has s i)) 32=BB (λv=>bit (has s v&&p (v:Int))) 32:=Cc λi _=>by
  rw[Bool.and_comm];rfl
 rw[e]
 refine sumN_tail hn (λi hi=> ?_)
 cases hc:has s i
 ·rfl
 ·have:=h i hc;omega
def ast (f:Int→Int)(s:Int×Int)(v:Int):Int×Int:=if s.1<0∨f v<s.2 then(v,f v) else s
def amin (f:Int→Int)(l:LI):Int×Int:=l.foldl (ast f) (-1,0)
theorem ast_run (f:Int→Int):∀(l:LI) (b:Int),0≤b→(∀x∈l,0≤x)→∃c,l.foldl (ast f) (b,f b)=(c,f c)∧(c=b∨c∈l)∧0≤c∧f c≤f b∧∀x∈l,f c≤f x
 |[],b,hb,_=>⟨b,rfl,.inl rfl,hb,Int.le_refl _,by simp⟩
 |x::l,b,hb,hl=>by
  have hx:=hl x (by simp)
  have hl':=λy hy=>hl y (List.mem_cons_of_mem x hy)
  rw[List.foldl_cons]
  by_cases hc:f x<f b
  ·have e:ast f (b,f b) x=(x,f x):=by unfold ast;rw[if_pos (.inr hc)]
   rw[e]
   obtain⟨c,h1,h2,h3,h4,h5⟩:=ast_run f l x hx hl'
   refine⟨c,h1,.inr ?_,h3,by omega,λy hy=> ?_⟩
   ·rcases h2 with rfl|h2
    ·simp
    ·exact List.mem_cons_of_mem _ h2
   ·rcases List.mem_cons.1 hy with rfl|hy
    ·exact h4
    ·exact h5 y hy
  ·have e:ast f (b,f b) x=(b,f b):=by unfold ast;rw[if_neg (λh=>h.elim (λh=>by dsimp only at h;omega) hc)]
   rw[e]
   obtain⟨c,h1,h2,h3,h4,h5⟩:=ast_run f l b hb hl'
   refine⟨c,h1,?_,h3,h4,λy hy=> ?_⟩
   ·rcases h2 with h2|h2
    ·exact .inl h2
    ·exact .inr (List.mem_cons_of_mem _ h2)
   ·rcases List.mem_cons.1 hy with rfl|hy
    ·omega
    ·exact h5 y hy
theorem ast_first (f:Int→Int)(x:Int):ast f (-1,0) x=(x,f x):=by unfold ast;rw[if_pos (.inl (by decide))]
theorem amin_ok (f:Int→Int){l:LI}(hne:l≠[])(hl:∀x∈l,0≤x):∃c,amin f l=(c,f c)∧c∈l∧∀x∈l,f c≤f x:=by
 cases l with
 |nil=>exact absurd rfl hne
 |cons x l=>
  unfold amin
  rw[List.foldl_cons,ast_first]
  obtain⟨c,h1,h2,h3,h4,h5⟩:=ast_run f l x (hl x (by simp)) (λy hy=>hl y (List.mem_cons_of_mem _ hy))
  refine⟨c,h1,?_,λy hy=> ?_⟩
  ·rcases h2 with rfl|h2
   ·simp
   ·exact List.mem_cons_of_mem _ h2
  ·rcases List.mem_cons.1 hy with rfl|hy
   ·exact h4
   ·exact h5 y hy
def els (s:Int)(i:Nat):LI:=((List.range i).filter (has s)).map Int.ofNat
theorem els_succ (s:Int)(i:Nat):els s (i+1)=if has s i then els s i++[(i:Int)] else els s i:=by
 unfold els
 rw[List.range_succ,List.filter_append,List.map_append]
 cases h:has s i<;>simp[h]
theorem els_all {s:Int}{n:Nat}(hn:n≤32)(h:∀v,has s v=true→v<n):els s n=Al s:=by
 unfold els Al
 obtain⟨k,hk⟩:∃k,32=n+k:=⟨32-n,by omega⟩
 rw[hk,List.range_add,List.filter_append]
 have:((List.range k).map (λx=>n+x)).filter (has s)=[]:=by
  rw[List.filter_eq_nil_iff]
  intro x hx hc
  obtain⟨y,_,rfl⟩:=List.mem_map.1 hx
  have:=h _ hc;omega
 rw[this,List.append_nil]
theorem elems_nonneg (s:Int):∀x∈Al s,0≤x:=λx hx=>by
 obtain⟨v,_,_,rfl⟩:=mem_elems.1 hx;omega
theorem elems_rm {s:Int}{b:Nat}(h:VS s)(hb:has s b=true):(Al s).length=(Al (iandNot .u32 s (ishl .u32 1 (b:Int)))).length+1:=by
 have hb32:b<32:=by
  by_cases hv:b<32
  ·exact hv
  ·rw[Dn h (by omega)] at hb;cases hb
 have hm:∀x,x∈Al s↔x∈(b:Int)::Al (iandNot .u32 s (ishl .u32 1 (b:Int))):=λx=>by
  rw[List.mem_cons,mem_elems,mem_elems]
  constructor
  ·rintro⟨v,h1,h2,rfl⟩
   by_cases e:v=b
   ·left;omega
   ·right;exact⟨v,h1,by rw[AU h (VS.ishl _ _),Bc hb32,h2];simp[e],rfl⟩
  ·rintro(rfl|⟨v,h1,h2,rfl⟩)
   ·exact⟨b,hb32,hb,rfl⟩
   ·rw[AU h (VS.ishl _ _),Bool.and_eq_true] at h2
    exact⟨v,h1,h2.1,rfl⟩
 have hn:((b:Int)::Al (iandNot .u32 s (ishl .u32 1 (b:Int)))).Nodup:=by
  refine List.nodup_cons.2 ⟨λhc=> ?_,(Bt _).nodup⟩
  rw[AE (VS.iandNot _ _),AU h (VS.ishl _ _),Bc hb32] at hc
  simp at hc
 have:=nodup_all (Bt s).nodup hn (λx hx=>(hm x).1 hx) (λx hx=>(hm x).2 hx)
 simpa using this
def full (n:Nat):Int:=IntKind.u32.wrap (ishl .u32 1 (n:Int)-1)
theorem CS (n:Nat):VS (full n):=VS.wrap _
theorem BA {n:Nat}(h:n≤16)(v:Nat):has (full n) v=decide (v<n):=by
 by_cases hv:v<32
 ·exact all_mask ⟨n,by omega⟩ ⟨v,hv⟩
 ·rw[Dn (CS n) (by omega)];symm;simp;omega
theorem nets_all_full (F:LI):D.p F=some (full F.length):=by
 unfold D.p D.A
 have:decide ((F.length:Int)<0)=false:=by simp
 rw[this];rfl
def BQ (n:Nat)(s:Int):List Bool:=(List.range n).map λv=> !has s v
theorem EF (n:Nat)(s:Int):(BQ n s).length=n:=by simp[BQ]
theorem EZ {n:Nat}{s:Int}{v:Nat}(h:v<n){h':v<(BQ n s).length}:(BQ n s)[v]= !has s v:=by
 simp[BQ]
theorem ED {n:Nat}{s:Int}{v:Nat}(h:v<n):(BQ n s).getD v false= !has s v:=by
 unfold BQ
 rw[AA (by simpa using h)];simp
theorem goneOf_idx {n:Nat}{s:Int}{v:Nat}(h:v<n):idx (BQ n s) (v:Int)=some (!has s v):=by
 rw[AB (by rw[EF];exact h),←ED h,AA (by rw[EF];exact h)]
theorem goneOf_set {n b:Nat}{s:Int}(hs:VS s)(hb:b<n)(hn:n≤32):(BQ n s).set b true=BQ n (iandNot .u32 s (ishl .u32 1 (b:Int))):=by
 apply List.ext_getElem
 ·simp[BQ]
 ·intro i h1 h2
  have hi:i<n:=by simpa [BQ] using h2
  rw[List.getElem_set,EZ hi,EZ hi,AU hs (VS.ishl _ _),Bc (by omega)]
  by_cases e:b=i
  ·subst e;simp
  ·rw[if_neg e]
   have:decide (i=b)=false:=by simp;omega
   simp[this]
theorem goneOf_full {n:Nat}(h:n≤16):List.replicate n false=BQ n (full n):=by
 apply List.ext_getElem
 ·simp[BQ]
 ·intro i h1 h2
  have hi:i<n:=by simpa [BQ] using h2
  rw[List.getElem_replicate,EZ hi,BA h]
  simp[hi]
theorem lft_gone {g:LL}(hg:GOk g){s:Int}(hs:VS s){v:Nat}(hv:v<g.length):lft g v (BQ g.length s)=Al (iand .u32 (mk (row g v)) s):=by
 have h16:=hg.n16
 refine Inc.ext (lft_inc hg hv _) (Bt _) (λx=> ?_)
 unfold lft
 rw[List.mem_filter,mem_elems]
 constructor
 ·rintro⟨h1,h2⟩
  obtain⟨w,rfl,hw,ha⟩:=hg.mem hv h1
  rw[Int.toNat_natCast,ED hw,Bool.not_not] at h2
  refine⟨w,by omega,?_,rfl⟩
  rw[Ck (VS.mk _) hs,h2,De (λx hx=>by have:=(hg.rows v hv).2 x hx;omega)]
  simpa using h1
 ·rintro⟨w,_,h2,rfl⟩
  rw[Ck (VS.mk _) hs,De (λx hx=>by have:=(hg.rows v hv).2 x hx;omega)] at h2
  simp only[Bool.and_eq_true,decide_eq_true_eq] at h2
  have hw:w<g.length:=by have:=(hg.rows v hv).2 _ h2.1;omega
  exact⟨h2.1,by rw[Int.toNat_natCast,ED hw,h2.2];rfl⟩
theorem l1There_eq {g:LL}(hg:GOk g){u:Nat}(hu:u<g.length):D.Q g (u:Int)=some true:=by
 have:=hg.n16
 unfold D.Q D.d
 simp only[bs,E3]
 rw[w64 (by omega) (by omega)]
 simp;omega
section
variable {g : LL} {o : LI} (hg : GOk g) (ho : OOk g o)
include hg ho
end
end Go.Sx

namespace Go.Sx
section
variable {g : LL} {o : LI} (hg : GOk g) (ho : OOk g o)
include hg ho
theorem place {v:Nat}(hv:v<g.length):∃i,∃h:i<o.length,o[i]=(v:Int):=by
 have hsub:∀x∈o,x∈(List.range g.length).map Int.ofNat:=λx hx=>by
  have:=ho.rng x hx
  exact List.mem_map.2 ⟨x.toNat,List.mem_range.2 (by omega),by show ((x.toNat:Nat):Int)=x;omega⟩
 have hm:(v:Int)∈o:=by
  apply Classical.byContradiction
  intro hn
  have h1:((v:Int)::o).Nodup:=List.nodup_cons.2 ⟨hn,ho.nd⟩
  have:=Bx h1 (m:=(List.range g.length).map Int.ofNat) (λx hx=>by
   rcases List.mem_cons.1 hx with rfl|hx
   ·exact List.mem_map.2 ⟨v,List.mem_range.2 hv,rfl⟩
   ·exact hsub x hx)
  have:=ho.len
  simp at*
  omega
 obtain⟨i,hi,e⟩:=List.getElem_of_mem hm
 exact⟨i,hi,e⟩
def mx (f:Nat→Int):Nat→Int
 |0=>0
 |n+1=>max (mx f n) (f n)
end
end Go.Sx

namespace Go.Sx
def dg (g:LL)(s:Int)(v:Int):Int:=((Al (iand .u32 (mk (row g v.toNat)) s)).length:Int)
structure SQ (n:Nat)(s:Int)(k:Nat):Prop where
 vs:VS s
 lt:∀v,has s v=true→v<n
 card:(Al s).length=k
theorem SQ.full {n:Nat}(h:n≤16):SQ n (full n) n:=by
 refine⟨CS n,λv hv=>by rw[BA h] at hv;exact of_decide_eq_true hv,?_⟩
 rw[←els_all (n:=n) (by omega) (λv hv=>by rw[BA h] at hv;exact of_decide_eq_true hv)]
 unfold els
 rw[List.length_map,List.filter_eq_self.2 (λv hv=>by rw[BA h];exact decide_eq_true (List.mem_range.1 hv)),List.length_range]
theorem SQ.rm {n k b:Nat}{s:Int}(h:SQ n s (k+1))(hb:has s b=true):SQ n (iandNot .u32 s (ishl .u32 1 (b:Int))) k:=by
 refine⟨VS.iandNot _ _,λv hv=> ?_,?_⟩
 ·rw[AU h.vs (VS.ishl _ _),Bool.and_eq_true] at hv
  exact h.lt v hv.1
 ·have:=elems_rm h.vs hb
  have:=h.card
  omega
theorem SQ.ne {n k:Nat}{s:Int}(h:SQ n s (k+1)):Al s≠[]:=λe=>by have:=h.card;rw[e] at this;simp at this
theorem SQ.nz {n k:Nat}{s:Int}(h:SQ n s (k+1)):s≠0:=λe=>by have:=h.ne;rw[e,EG] at this;exact this rfl
theorem SQ.z {n:Nat}{s:Int}(h:SQ n s 0):s=0:=by
 rw[h.vs.eq_zero]
 intro v hv
 cases hc:has s v
 ·rfl
 ·have:(v:Int)∈Al s:=(AE h.vs).2 hc
  have h0:=h.card
  rw[List.length_eq_zero_iff] at h0
  rw[h0] at this;simp at this
theorem SQ.min {n k:Nat}{s:Int}(h:SQ n s (k+1))(f:Int→Int):∃c:Nat,c<n∧has s c=true∧amin f (Al s)=((c:Int),f c)∧∀v:Nat,has s v=true→f c≤f v:=by
 obtain⟨c,h1,h2,h3⟩:=amin_ok f h.ne (elems_nonneg s)
 obtain⟨v,_,h5,rfl⟩:=mem_elems.1 h2
 exact⟨v,h.lt v h5,h5,h1,λw hw=>h3 w ((AE h.vs).2 hw)⟩
theorem graph_ext {g g':LL}(hg:GOk g)(hg':GOk g')(hl:g.length=g'.length)(h:∀a b:Nat,a<g.length→(adj g a b↔adj g' a b)):g=g':=by
 apply List.ext_getElem hl
 intro i h1 h2
 rw[←row_eq h1,←row_eq h2]
 refine Inc.ext (hg.rows i h1).1 (hg'.rows i h2).1 (λx=> ?_)
 constructor
 ·intro hx
  obtain⟨w,rfl,_,ha⟩:=hg.mem h1 hx
  exact(h i w h1).1 ha
 ·intro hx
  obtain⟨w,rfl,_,ha⟩:=hg'.mem h2 hx
  exact(h i w h1).2 ha
theorem grow_of {g:LL}(hg:GOk g):grow (g.map mk)=g:=by
 have hf:=FOk.of hg
 refine graph_ext (GOk.grow hf hg.n1 hg.n16) hg (by rw[grow_len,hf.len]) (λa b ha=> ?_)
 rw[grow_len,hf.len] at ha
 rw[DY hf ha,BD hg ha]
noncomputable def elimF (F:LI)(s b:Int):LI:=(D.r1 F s b).getD []
structure GQ (n i:Nat)(F o:LI)(s:Int):Prop where
 f:FOk F n
 left:SQ n s (n-i)
 len:o.length=i
 rng:∀x∈o,∃v:Nat,x=v∧v<n∧has s v=false
 nd:o.Nodup
theorem idx_F {F:LI}{n v:Nat}(h:FOk F n)(hv:v<n):idx F (v:Int)=some (F.getD v 0):=by
 have:=h.len
 rw[AB (by omega),AA (by omega)]
noncomputable def ef (g:LL)(o:LI):Nat→LI×LI×Int
 |0=>(g.map mk,List.replicate g.length 0,full g.length)
 |i+1=>(elimF (ef g o i).1 (ef g o i).2.2 (o.getD i 0),(ef g o i).2.1.set (o.getD i 0).toNat (iand .u32 ((ef g o i).1.getD (o.getD i 0).toNat 0) (iandNot .u32 (ef g o i).2.2 (ishl .u32 1 (o.getD i 0)))),
   iandNot .u32 (ef g o i).2.2 (ishl .u32 1 (o.getD i 0)))
section
variable {g : LL} {o : LI} (hg : GOk g) (ho : OOk g o)
include hg ho
end
end Go.Sx

namespace Go.Sx
structure Net (A:LI)(n:Nat):Prop where
 len:A.length=n
 vs:∀u,u<n→VS (A.getD u 0)
 lt:∀u w,u<n→nb A u w=true→w<n
theorem FOk.net {A:LI}{n:Nat}(h:FOk A n):Net A n:=⟨h.len,h.vs,h.lt⟩
structure Rch (A:LI)(W:Int)(v:Nat)(S:Int):Prop where
 vs:VS S
 me:has S v=true
 step:∀x y,has S x=true→nb A x y=true→has W y=true→has S y=true
 least:∀T:Nat→Prop,T v→(∀x y,T x→nb A x y=true→has W y=true→T y)→∀x,has S x=true→T x
def cz :LI→LI→Int
 |[],[]=>0
 |[],_::_=> -1
 |_::_,[]=>1
 |a::x,b::y=>if a<b then-1 else if b<a then 1 else cz x y
theorem cz_range :∀x y,cz x y= -1∨cz x y=0∨cz x y=1
 |[],[]=> .inr (.inl rfl)
 |[],_::_=> .inl rfl
 |_::_,[]=> .inr (.inr rfl)
 |a::x,b::y=>by
  unfold cz
  split
  ·exact .inl rfl
  ·split
   ·exact .inr (.inr rfl)
   ·exact cz_range x y
theorem cmp_int (a b:Int):D.c0 a b=some (if a<b then-1 else if b<a then 1 else 0):=by
 unfold D.c0 D.Y
 simp only[bne_self_eq_false,bs,cond_false]
 by_cases h:a<b
 ·simp[h]
 ·by_cases h2:b<a<;>simp[h,h2]
theorem compare_eq (x y:LI)(hx:Sh x)(hy:Sh y):D.z0 x y=some (cz x y):=by
 unfold Sh at hx hy
 unfold D.z0
 have key:∀(K:Unit ⊕ Int→Option Int),K (.inl ())=cond (decide ((x.length:Int)<(y.length:Int))) (some (-1)) (some 0)→(∀z,K (.inr z)=some z)→∀(k i:Nat),i+k=x.length→(i≤y.length)→(Aq (σ:=Int) (ρ:=(Unit) ⊕ (Int)) (fun(x_54:Int)=>cond (decide (x_54<(x.length:Int))) ((idx x x_54).bind λe_81=>cond (decide ((y.length:Int)≤x_54)) (some (.inr (.inr 1))) ((idx y x_54).bind λe_88=>(D.c0 e_81 e_88).bind λy_94=>cond (y_94 !=0) (some (.inr (.inr y_94))) (some (.inl (IntKind.i64.wrap (x_54+1)))))) (some (.inr (.inl ())))) (i:Int)).bind K=some (cz (x.drop i) (y.drop i)):=by
  intro K hK1 hK2 k
  induction k with
  |zero=>
   intro i hi hiy
   obtain rfl:i=x.length:=by omega
   rw[AQ (r:=Sum.inl ()) (by simp only[Br,cond_false])]
   simp only[bs,List.drop_length,hK1]
   by_cases h:x.length<y.length
   ·have e:decide ((x.length:Int)<(y.length:Int))=true:=by simp;omega
    rw[e,cond_true,List.drop_eq_getElem_cons h];rfl
   ·have e:decide ((x.length:Int)<(y.length:Int))=false:=by simp;omega
    rw[e,cond_false,List.drop_eq_nil_of_le (by omega)];rfl
  |succ k ih=>
   intro i hi hiy
   have hix:i<x.length:=by omega
   by_cases h:i<y.length
   ·have e:decide ((y.length:Int)≤(i:Int))=false:=by simp;omega
    rw[List.drop_eq_getElem_cons hix,List.drop_eq_getElem_cons h]
    by_cases h1:x[i]<y[i]
    ·rw[AQ (r:=Sum.inr (-1)) (by simp only[dlt hix,cond_true,AB hix,AB h,bs,e,cond_false,cmp_int,h1,if_true];rfl),bs,hK2]
     simp[cz,h1]
    ·by_cases h2:y[i]<x[i]
     ·rw[AQ (r:=Sum.inr 1) (by simp only[dlt hix,cond_true,AB hix,AB h,bs,e,cond_false,cmp_int,h1,h2,if_true,if_false];rfl),bs,hK2]
      simp[cz,h1,h2]
     ·rw[Bi (s':=((i+1:Nat):Int)) (by simp only[dlt hix,cond_true,AB hix,AB h,bs,e,cond_false,cmp_int,h1,h2,if_false,wq i];rfl),ih (i+1) (by omega) (by omega)]
      simp[cz,h1,h2]
   ·obtain rfl:i=y.length:=by omega
    have e:decide ((y.length:Int)≤(y.length:Int))=true:=by simp
    rw[AQ (r:=Sum.inr 1) (by simp only[dlt hix,cond_true,AB hix,bs,e]),bs,hK2]
    simp only[List.drop_length]
    rw[List.drop_eq_getElem_cons hix];rfl
 exact key _ rfl (λ_=>rfl) x.length 0 (by omega) (by omega)
def lk :Nat→LI→Int
 |0,_=>0
 |_+1,[]=>0
 |d+1,a::l=>(a+1)*33^d+lk d l
theorem pow33 (d:Nat):(1:Int)≤33^d:=by
 have:(0:Int)<33^d:=Int.pow_pos (by omega)
 omega
theorem DU :∀(d:Nat) (l:LI),(∀x∈l,0≤x∧x<32)→0≤lk d l∧lk d l<33^d
 |0,l,_=>by simp[lk]
 |d+1,[],_=>by have:=pow33 (d+1);simp only[lk];omega
 |d+1,a::l,h=>by
  have h1:=DU d l (λx hx=>h x (List.mem_cons_of_mem _ hx))
  have ha:=h a (by simp)
  have hp:=pow33 d
  simp only[lk]
  generalize hq:(33:Int)^d=p at*
  have e:(33:Int)^(d+1)=p*33:=by rw[←hq,Int.pow_succ]
  rw[e]
  have h2:(a+1)*p≤32*p:=Int.mul_le_mul_of_nonneg_right (by omega) (by omega)
  have h3:0≤(a+1)*p:=Int.mul_nonneg (by omega) (by omega)
  omega
theorem lk_cmp :∀(d:Nat) (x y:LI),x.length≤d→y.length≤d→(∀z∈x,0≤z∧z<32)→(∀z∈y,0≤z∧z<32)→(cz x y<0↔lk d x<lk d y)
 |d,[],[],_,_,_,_=>by cases d<;>simp[cz,lk]
 |0,_::_,_,h,_,_,_=>by simp at h
 |0,_,_::_,_,h,_,_=>by simp at h
 |d+1,[],b::y,_,h,_,hy=>by
  have h1:=DU d y (λx hx=>hy x (List.mem_cons_of_mem _ hx))
  have hb:=hy b (by simp)
  have hp:=pow33 d
  simp only[cz,lk]
  have h3:1*(33:Int)^d≤(b+1)*33^d:=Int.mul_le_mul_of_nonneg_right (by omega) (by omega)
  constructor
  ·intro _;omega
  ·intro _;omega
 |d+1,a::x,[],h,_,hx,_=>by
  have h1:=DU d x (λz hz=>hx z (List.mem_cons_of_mem _ hz))
  have ha:=hx a (by simp)
  have hp:=pow33 d
  simp only[cz,lk]
  have h3:1*(33:Int)^d≤(a+1)*33^d:=Int.mul_le_mul_of_nonneg_right (by omega) (by omega)
  constructor
  ·intro hc;omega
  ·intro hc;omega
 |d+1,a::x,b::y,hlx,hly,hx,hy=>by
  have ih:=lk_cmp d x y (by simpa using hlx) (by simpa using hly) (λz hz=>hx z (List.mem_cons_of_mem _ hz)) (λz hz=>hy z (List.mem_cons_of_mem _ hz))
  have h1:=DU d x (λz hz=>hx z (List.mem_cons_of_mem _ hz))
  have h2:=DU d y (λz hz=>hy z (List.mem_cons_of_mem _ hz))
  have hp:=pow33 d
  simp only[cz,lk]
  by_cases hab:a<b
  ·rw[if_pos hab]
   have h3:(a+1+1)*(33:Int)^d≤(b+1)*33^d:=Int.mul_le_mul_of_nonneg_right (by omega) (by omega)
   have h4:(a+1+1)*(33:Int)^d=(a+1)*33^d+33^d:=by rw[Int.add_mul (a+1) 1,Int.one_mul]
   constructor
   ·intro _;omega
   ·intro _;omega
  ·by_cases hba:b<a
   ·rw[if_neg hab,if_pos hba]
    have h3:(b+1+1)*(33:Int)^d≤(a+1)*33^d:=Int.mul_le_mul_of_nonneg_right (by omega) (by omega)
    have h4:(b+1+1)*(33:Int)^d=(b+1)*33^d+33^d:=by rw[Int.add_mul (b+1) 1,Int.one_mul]
    constructor
    ·intro hc;omega
    ·intro hc;omega
   ·rw[if_neg hab,if_neg hba]
    obtain rfl:a=b:=by omega
    rw[ih];omega
theorem cz_zero :∀x y,cz x y=0↔x=y
 |[],[]=>by simp[cz]
 |[],_::_=>by simp[cz]
 |_::_,[]=>by simp[cz]
 |a::x,b::y=>by
  unfold cz
  by_cases h:a<b
  ·simp[h];omega
  ·by_cases h2:b<a
   ·simp[h,h2];omega
   ·obtain rfl:a=b:=by omega
    simp[cz_zero x y]
theorem cz_anti :∀x y,cz y x= -cz x y
 |[],[]=>rfl
 |[],_::_=>rfl
 |_::_,[]=>rfl
 |a::x,b::y=>by
  unfold cz
  by_cases h:a<b
  ·have h2:¬b<a:=by omega
   simp[h,h2]
  ·by_cases h2:b<a
   ·simp[h,h2]
   ·simp[h,h2,cz_anti x y]
theorem lk_inj {d:Nat}{x y:LI}(hx:x.length≤d)(hy:y.length≤d)(h1:∀z∈x,0≤z∧z<32)(h2:∀z∈y,0≤z∧z<32)(h:lk d x=lk d y):x=y:=by
 have a:=lk_cmp d x y hx hy h1 h2
 have b:=lk_cmp d y x hy hx h2 h1
 rw[cz_anti x y] at b
 rw[←cz_zero]
 rcases cz_range x y with e|e|e<;>omega
theorem Ec (s:Int):∀z∈Al s,0≤z∧z<32:=λz hz=>by
 obtain⟨v,h1,_,rfl⟩:=mem_elems.1 hz;omega
def lkey (s:Int):Int:=lk 32 (Al s)
def skey (s:Int):Int:=((Al s).length:Int)*33^32+lkey s
theorem elems_inj {s t:Int}(hs:VS s)(ht:VS t)(h:Al s=Al t):s=t:=by rw[←mk_elems hs,←mk_elems ht,h]
theorem lkey_inj {s t:Int}(hs:VS s)(ht:VS t)(h:lkey s=lkey t):s=t:=
 elems_inj hs ht (lk_inj (Bn s) (Bn t) (Ec s) (Ec t) h)
theorem compareSets_eq {s t:Int}(hs:VS s)(ht:VS t):D.a s t=some (cz (Al s) (Al t)):=by
 unfold D.a
 rw[Cg s hs,bs,Cg t ht,bs,compare_eq _ _ (elems_sh s) (elems_sh t)]
 rfl
noncomputable abbrev byLex :Gs.Srtd Int where
 dflt:=0
 key:=lkey
 good:=VS
 cmp:=D.a
 law:=λs t hs ht=>⟨_,compareSets_eq hs ht,by rw[decide_eq_decide];exact lk_cmp 32 _ _ (Bn s) (Bn t) (Ec s) (Ec t)⟩
theorem Fd {k:Int→Int}:∀{l l':LI},l.Pairwise (λa b=>k a<k b)→l'.Pairwise (λa b=>k a<k b)→(∀x,x∈l↔x∈l')→l=l'
 |[],[],_,_,_=>rfl
 |[],y::l',_,_,h=>by have:=(h y).2 (by simp);simp at this
 |x::l,[],_,_,h=>by have:=(h x).1 (by simp);simp at this
 |x::l,y::l',h1,h2,h=>by
  have h1':=List.pairwise_cons.1 h1;have h2':=List.pairwise_cons.1 h2
  have e:x=y:=by
   rcases List.mem_cons.1 ((h x).1 (by simp)) with e|e
   ·exact e
   ·rcases List.mem_cons.1 ((h y).2 (by simp)) with e'|e'
    ·exact e'.symm
    ·have:=h2'.1 x e;have:=h1'.1 y e';omega
  subst e
  have:l=l':=by
   refine Fd h1'.2 h2'.2 (λz=> ?_)
   constructor
   ·intro hz
    rcases List.mem_cons.1 ((h z).1 (List.mem_cons_of_mem _ hz)) with e|e
    ·subst e;have:=h1'.1 z hz;omega
    ·exact e
   ·intro hz
    rcases List.mem_cons.1 ((h z).2 (List.mem_cons_of_mem _ hz)) with e|e
    ·subst e;have:=h2'.1 z hz;omega
    ·exact e
  rw[this]
theorem sorted_rise (I:Gs.Srtd Int)(hinj:∀x y,I.good x→I.good y→I.key x=I.key y→x=y)(l:LI)(hG:∀x∈l,I.good x)(hn:l.Nodup)(hlen:l.length≤1000000):
  ∃l',DG.Sort I.cmp l=some l'∧List.Perm l' l∧l'.Pairwise (λa b=>I.key a<I.key b):=by
 obtain⟨l',e,hp,hs⟩:= @Gs.sort_spec Int I l hG hlen
 refine⟨l',e,hp,?_⟩
 rw[List.pairwise_iff_getElem]
 intro i j hi hj hij
 have h:=hs i j (by omega) (by omega) (by omega)
 unfold Gs.at' Gs.el at h
 rw[Int.toNat_natCast,Int.toNat_natCast,AA hi,AA hj] at h
 have hne:l'[i]≠l'[j]:=λe=>by
  have hn':=hp.nodup_iff.2 hn
  have:=(List.nodup_iff_pairwise_ne.1 hn')
  exact(List.pairwise_iff_getElem.1 this) i j hi hj hij e
 have g1:=hG _ (hp.mem_iff.1 (List.getElem_mem hi))
 have g2:=hG _ (hp.mem_iff.1 (List.getElem_mem hj))
 have hk:I.key l'[i]≠I.key l'[j]:=λe=>hne (hinj _ _ g1 g2 e)
 omega
theorem Cu :D.K0=DG.insertionSort D.a:=by kernel_rfl
theorem CK :D.T0=DG.heapSort D.a:=by kernel_rfl
theorem Cv :D.W0=DG.breakPatterns D.a:=by kernel_rfl
theorem Cy :D.S0=DG.choosePivot D.a:=by kernel_rfl
theorem Cw :D.Q0=DG.reverseRange D.a:=by kernel_rfl
theorem Cd :D.L0=DG.partialInsertionSort D.a:=by kernel_rfl
theorem Ct :D.M0=DG.partitionEqual D.a:=by kernel_rfl
theorem CG :D.P0=DG.partition D.a:=by kernel_rfl
theorem BY :∀(n:Nat) x a b c,D.L n x a b c=DG.pdqsortR D.a n x a b c
 |0,_,_,_,_=>rfl
 |n+1,x,a,b,c=>by
  unfold D.L DG.pdqsortR
  rw[Cu,CK,Cv,Cy,Cw,Cd,Ct,CG,funext (λx=>funext λa=>funext λb=>funext λc=>BY n x a b c)]
  kernel_rfl
theorem Dl (x):D.u0 x=DG.Sort D.a x:=by
 unfold D.u0 DG.Sort D.j DG.pdqsort
 simp only[BY]
def CQ (F:LI)(K:Int):Prop:=∀u w,has K u=true→has K w=true→u≠w→nb F u w=true
def MX (F:LI)(n:Nat)(K:Int):Prop:=CQ F K∧∀w,w<n→has K w=false→∃u,has K u=true∧nb F u w=false
def In (n:Nat)(K:Int):Prop:=VS K∧∀w,has K w=true→w<n
structure Tgt (F:LI)(n:Nat)(C O K:Int):Prop where
 ok:In n K
 mx:MX F n K
 sup:∀w,has C w=true→has K w=true
 sub:∀w,has K w=true→has C w=true∨has O w=true
theorem In.lt {n:Nat}{K:Int}(h:In n K)(hn:n≤16):0≤K∧K<65536:=by
 obtain⟨m,rfl,hm⟩:=h.1.nat
 refine⟨by omega,?_⟩
 have:m<2^16:=by
  apply Nat.lt_pow_two_of_testBit
  intro i hi
  cases hc:m.testBit i
  ·rfl
  ·have:=h.2 i (by rw[BS];exact hc)
   omega
 omega
theorem Dz {n:Nat}{l:LI}(hn:n≤16)(h:∀K∈l,In n K)(hd:l.Nodup):l.length≤65536:=by
 have:=Bx (m:=(List.range 65536).map Int.ofNat) hd (λK hK=>by
  have:=(h K hK).lt hn
  exact List.mem_map.2 ⟨K.toNat,List.mem_range.2 (by omega),by show ((K.toNat:Nat):Int)=K;omega⟩)
 simpa using this
structure BK (F:LI)(n:Nat)(C O S:Int):Prop where
 c:In n C
 o:In n O
 s:In n S
 cq:CQ F C
 cn:∀w,w<n→((has O w=true∨has S w=true)↔∀u,has C u=true→nb F u w=true)
 dis:∀w,has O w=true→has S w=false
theorem BK.notin {F:LI}{n:Nat}{C O S:Int}(hF:FOk F n)(h:BK F n C O S){w:Nat}(hw:has O w=true):has C w=false:=by
 cases hc:has C w
 ·rfl
 ·have:=(h.cn w (h.o.2 w hw)).1 (.inl hw) w hc
  rw[hF.irr w (h.o.2 w hw)] at this;cases this
theorem grow_ok {F:LI}{n:Nat}(hn:n≤16)(hF:FOk F n):∀(fuel:Nat) (C O S:Int) (x4:LI),(Al O).length<fuel→BK F n C O S→x4.Nodup→(∀K∈x4,In n K)→(∀K∈x4,¬Tgt F n C O K)→
  ∃y,D.T fuel F C O S x4=some y∧∃R,y=x4++R∧(x4++R).Nodup∧∀K,K∈R↔Tgt F n C O K
 |0,_,_,_,_,h,_,_,_,_=>by omega
 |fuel+1,C,O,S,x4,hf,hB,hd,hi,ht=>by
  have hlen:=hF.len
  have hx4:=Dz hn hi hd
  unfold D.T
  by_cases hO:O=0
  ·subst hO
   have e0:((0:Int)==0)=true:=rfl
   rw[e0,cond_true]
   by_cases hS:S=0
   ·subst hS
    rw[e0,cond_true,Bm (by simp;omega)]
    have hT:Tgt F n C 0 C:=⟨hB.c,⟨hB.cq,λw hw hc=>by
     apply Classical.byContradiction
     intro hne
     have:=(hB.cn w hw).2 (λu hu=>by
      cases h:nb F u w
      ·exact absurd ⟨u,hu,h⟩ hne
      ·rfl)
     simp[A8] at this⟩,λw h=>h,λw h=> .inl h⟩
    refine⟨_,rfl,[C],rfl,?_,λK=> ?_⟩
    ·rw[List.nodup_append]
     refine⟨hd,by simp,λa ha b hb e=> ?_⟩
     rw[List.mem_singleton] at hb
     subst hb;subst e
     exact ht a ha hT
    ·rw[List.mem_singleton]
     constructor
     ·rintro rfl;exact hT
     ·intro h
      refine h.ok.1.ext hB.c.1 (λv _=> ?_)
      rw[Bool.eq_iff_iff]
      refine⟨λhv=> ?_,h.sup v⟩
      rcases h.sub v hv with h|h
      ·exact h
      ·rw[A8] at h;cases h
   ·have e1:(S==0)=false:=by simpa using hS
    rw[e1,cond_false]
    refine⟨_,rfl,[],by simp,by simpa using hd,λK=> ?_⟩
    simp only[List.not_mem_nil,false_iff]
    intro h
    have hK:K=C:=by
     refine h.ok.1.ext hB.c.1 (λv _=> ?_)
     rw[Bool.eq_iff_iff]
     refine⟨λhv=> ?_,h.sup v⟩
     rcases h.sub v hv with h|h
     ·exact h
     ·rw[A8] at h;cases h
    subst hK
    apply hS
    rw[hB.s.1.eq_zero]
    intro w hw
    cases hc:has S w
    ·rfl
    ·have hwn:=hB.s.2 w hc
     have hcn:=(hB.cn w hwn).1 (.inr hc)
     have hKw:has K w=false:=by
      cases hk:has K w
      ·rfl
      ·have:=hcn w hk
       rw[hF.irr w hwn] at this;cases this
     obtain⟨u,h1,h2⟩:=h.mx.2 w hwn hKw
     rw[hcn u h1] at h2;cases h2
  ·have e1:(O==0)=false:=by simpa using hO
   rw[e1,cond_false,Cg O hB.o.1,bs]
   have hel:=Bn O
   refine A3 (λst=>∃i:Nat,st.2.2.2=(i:Int)∧i≤(Al O).length∧VS st.1∧VS st.2.1∧(∀w:Nat,has st.1 w=(has O w&&decide ((w:Int)∉(Al O).take i)))∧(∀w:Nat,has st.2.1 w=(has S w||decide ((w:Int)∈(Al O).take i)))∧
     ∃R,st.2.2.1=x4++R∧(x4++R).Nodup∧∀K,K∈R↔Tgt F n C O K∧∃w:Nat,(w:Int)∈(Al O).take i∧has K w=true) (λst=>(Al O).length-st.2.2.2.toNat)
    (λr=>∃R,r=x4++R∧(x4++R).Nodup∧∀K,K∈R↔Tgt F n C O K) ?_ ⟨0,rfl,by omega,hB.o.1,hB.s.1,λw=>by simp,λw=>by simp,[],by simp,by simpa using hd,λK=>by simp⟩ (λr hr=>⟨r,rfl,hr⟩)
   rintro⟨o,s,acc,_⟩ ⟨i,rfl,hil,ho,hs,hho,hhs,R,rfl,hRn,hR⟩
   dsimp only at ho hs hho hhs hRn hR ⊢
   by_cases hlt:i<(Al O).length
   ·obtain⟨v,hv32,hv1,hv2⟩:=mem_elems.1 (List.getElem_mem hlt)
    have hvn:=hB.o.2 v hv1
    have hvC:=hB.notin hF hv1
    have htk:∀w:Nat,((w:Int)∈(Al O).take (i+1))↔((w:Int)∈(Al O).take i∨w=v):=λw=>by
     rw[List.take_succ_eq_append_getElem hlt,List.mem_append,hv2];simp[Int.natCast_inj]
    have hvt:(v:Int)∉(Al O).take i:=by rw[←hv2];exact nodup_iff.1 (Bt O).nodup i hlt
    have hle:∀w:Nat,(w:Int)∈(Al O).take i→has O w=true:=λw hw=>(AE hB.o.1).1 (List.mem_of_mem_take hw)
    simp only[dlt hlt,cond_true,AB hlt,hv2,bs,BM,idx_F hF hvn]
    have hC':∀w,has (ior .u32 C (ishl .u32 1 (v:Int))) w=(has C w||decide (w=v)):=λw=>by rw[Bo hB.c.1 (VS.ishl _ _),Bc hv32]
    have hO':∀w,has (iand .u32 o (F.getD v 0)) w=(has o w&&nb F v w):=λw=>Ck ho (hF.vs v hvn) w
    have hS':∀w,has (iand .u32 s (F.getD v 0)) w=(has s w&&nb F v w):=λw=>Ck hs (hF.vs v hvn) w
    have hB':BK F n (ior .u32 C (ishl .u32 1 (v:Int))) (iand .u32 o (F.getD v 0)) (iand .u32 s (F.getD v 0)):=by
     have hcnv:=(hB.cn v hvn).1 (.inl hv1)
     refine⟨⟨VS.ior _ _,λw hw=> ?_⟩,⟨VS.iand _ _,λw hw=> ?_⟩,⟨VS.iand _ _,λw hw=> ?_⟩,λu w hu hw huw=> ?_,λw hw=> ?_,λw hw=> ?_⟩
     ·rw[hC',Bool.or_eq_true,decide_eq_true_eq] at hw
      rcases hw with h|rfl
      ·exact hB.c.2 w h
      ·exact hvn
     ·rw[hO',Bool.and_eq_true] at hw;exact hF.lt v w hvn hw.2
     ·rw[hS',Bool.and_eq_true] at hw;exact hF.lt v w hvn hw.2
     ·rw[hC',Bool.or_eq_true,decide_eq_true_eq] at hu hw
      rcases hu with hu|rfl
      ·rcases hw with hw|rfl
       ·exact hB.cq u w hu hw huw
       ·exact hcnv u hu
      ·rcases hw with hw|rfl
       ·exact hF.sym w u (hB.c.2 w hw) (hcnv w hw)
       ·exact absurd rfl huw
     ·rw[hO',hS',hho,hhs]
      simp only[Bool.and_eq_true,Bool.or_eq_true,decide_eq_true_eq]
      constructor
      ·intro h u hu
       rw[hC',Bool.or_eq_true,decide_eq_true_eq] at hu
       have hos:has O w=true∨has S w=true:=by
        rcases h with⟨⟨h,_⟩,_⟩|⟨h|h,_⟩
        ·exact .inl h
        ·exact .inr h
        ·exact .inl (hle w h)
       have hvw:nb F v w=true:=by rcases h with⟨_,h⟩|⟨_,h⟩<;>exact h
       rcases hu with hu|rfl
       ·exact(hB.cn w hw).1 hos u hu
       ·exact hvw
      ·intro h
       have hvw:nb F v w=true:=h v (by rw[hC'];simp)
       have hos:=(hB.cn w hw).2 (λu hu=>h u (by rw[hC',hu];rfl))
       by_cases hm:(w:Int)∈(Al O).take i
       ·exact .inr ⟨.inr hm,hvw⟩
       ·rcases hos with hos|hos
        ·exact .inl ⟨⟨hos,hm⟩,hvw⟩
        ·exact .inr ⟨.inl hos,hvw⟩
     ·rw[hO',hho] at hw
      simp only[Bool.and_eq_true,decide_eq_true_eq] at hw
      rw[hS',hhs,hB.dis w hw.1.1,decide_eq_false hw.1.2];rfl
    have hfu:(Al (iand .u32 o (F.getD v 0))).length<fuel:=by
     have h1:((v:Int)::Al (iand .u32 o (F.getD v 0))).length≤(Al O).length:=by
      refine Bx (List.nodup_cons.2 ⟨λhc=> ?_,(Bt _).nodup⟩) (λx hx=> ?_)
      ·rw[AE (VS.iand _ _),hO',hF.irr v hvn] at hc;simp at hc
      ·rcases List.mem_cons.1 hx with rfl|hx
       ·exact(AE hB.o.1).2 hv1
       ·obtain⟨w,_,h2,rfl⟩:=mem_elems.1 hx
        rw[hO',hho] at h2
        simp only[Bool.and_eq_true] at h2
        exact(AE hB.o.1).2 h2.1.1
     rw[List.length_cons] at h1;omega
    have hsubT:∀K,Tgt F n (ior .u32 C (ishl .u32 1 (v:Int))) (iand .u32 o (F.getD v 0)) K→Tgt F n C O K∧has K v=true∧∀w:Nat,(w:Int)∈(Al O).take i→has K w=false:=λK hK=>by
     refine⟨⟨hK.ok,hK.mx,λw hw=>hK.sup w (by rw[hC',hw];rfl),λw hw=> ?_⟩,hK.sup v (by rw[hC'];simp),λw hw=> ?_⟩
     ·rcases hK.sub w hw with h|h
      ·rw[hC',Bool.or_eq_true,decide_eq_true_eq] at h
       rcases h with h|rfl
       ·exact .inl h
       ·exact .inr hv1
      ·rw[hO',hho] at h
       simp only[Bool.and_eq_true] at h
       exact .inr h.1.1
     ·cases hk:has K w
      ·rfl
      ·exfalso
       rcases hK.sub w hk with h|h
       ·rw[hC',Bool.or_eq_true,decide_eq_true_eq] at h
        rcases h with h|rfl
        ·rw[hB.notin hF (hle w hw)] at h;cases h
        ·exact hvt hw
       ·rw[hO',hho] at h
        simp only[Bool.and_eq_true,decide_eq_true_eq] at h
        exact h.1.2 hw
    have hRi:∀K∈x4++R,In n K:=λK hK=>by
     rcases List.mem_append.1 hK with h|h
     ·exact hi K h
     ·exact((hR K).1 h).1.ok
    obtain⟨y,e2,R2,rfl,hn2,hm2⟩:=grow_ok hn hF fuel _ _ _ (x4++R) hfu hB' hRn hRi (λK hK hT=>by
     obtain⟨k1,k2,k3⟩:=hsubT K hT
     rcases List.mem_append.1 hK with h|h
     ·exact ht K h k1
     ·obtain⟨_,w,hw1,hw2⟩:=(hR K).1 h
      rw[k3 w hw1] at hw2;cases hw2)
    rw[e2,bs,wq i]
    refine⟨_,rfl,⟨i+1,rfl,by omega,VS.iandNot _ _,VS.ior _ _,λw=> ?_,λw=> ?_,R++R2,by rw[List.append_assoc],by rw[←List.append_assoc];exact hn2,λK=> ?_⟩,by dsimp only;omega⟩
    ·dsimp only
     rw[AU ho (VS.ishl _ _),Bc hv32,hho]
     have:decide ((w:Int)∉(Al O).take (i+1))=(decide ((w:Int)∉(Al O).take i)&& !decide (w=v)):=by
      rw[Bool.eq_iff_iff];simp only[decide_eq_true_eq,Bool.and_eq_true,Bool.not_eq_true',decide_eq_false_iff_not,htk,not_or]
     rw[this,Bool.and_assoc]
    ·dsimp only
     rw[Bo hs (VS.ishl _ _),Bc hv32,hhs]
     have:decide ((w:Int)∈(Al O).take (i+1))=(decide ((w:Int)∈(Al O).take i)||decide (w=v)):=by
      rw[Bool.eq_iff_iff];simp only[decide_eq_true_eq,Bool.or_eq_true,htk]
     rw[this,Bool.or_assoc]
    ·rw[List.mem_append,hR,hm2]
     constructor
     ·rintro(⟨h1,w,hw1,hw2⟩|h)
      ·exact⟨h1,w,(htk w).2 (.inl hw1),hw2⟩
      ·obtain⟨k1,k2,_⟩:=hsubT K h
       exact⟨k1,v,(htk v).2 (.inr rfl),k2⟩
     ·rintro⟨h1,w,hw1,hw2⟩
      by_cases hex:∃w:Nat,(w:Int)∈(Al O).take i∧has K w=true
      ·exact .inl ⟨h1,hex⟩
      ·right
       have hno:∀w:Nat,(w:Int)∈(Al O).take i→has K w=false:=λw hw=>by
        cases hk:has K w
        ·rfl
        ·exact absurd ⟨w,hw,hk⟩ hex
       have hKv:has K v=true:=by
        rcases(htk w).1 hw1 with h|rfl
        ·rw[hno w h] at hw2;cases hw2
        ·exact hw2
       refine⟨h1.ok,h1.mx,λu hu=> ?_,λu hu=> ?_⟩
       ·rw[hC',Bool.or_eq_true,decide_eq_true_eq] at hu
        rcases hu with hu|rfl
        ·exact h1.sup u hu
        ·exact hKv
       ·rw[hC',hO',hho]
        simp only[Bool.or_eq_true,Bool.and_eq_true,decide_eq_true_eq]
        by_cases huv:u=v
        ·exact .inl (.inr huv)
        ·rcases h1.sub u hu with h|h
         ·exact .inl (.inl h)
         ·refine .inr ⟨⟨h,λhm=> ?_⟩,h1.mx.1 v u hKv hu (λe=>huv e.symm)⟩
          rw[hno u hm] at hu;cases hu
   ·obtain rfl:i=(Al O).length:=by omega
    simp only[Br,cond_false]
    refine⟨_,rfl,R,rfl,hRn,λK=> ?_⟩
    rw[hR,List.take_length]
    constructor
    ·exact λh=>h.1
    ·intro h
     refine⟨h,?_⟩
     obtain⟨b,hb32,hb1,hb2,_⟩:=least_spec hB.o.1 hO
     have hbn:=hB.o.2 b hb1
     apply Classical.byContradiction
     intro hne
     have hKC:∀w,has K w=true→has C w=true:=λw hw=>by
      rcases h.sub w hw with h|h
      ·exact h
      ·exact absurd ⟨w,(AE hB.o.1).2 h,hw⟩ hne
     have hKb:has K b=false:=by
      cases hk:has K b
      ·rfl
      ·have:=hB.notin hF hb1
       rw[hKC b hk] at this;cases this
     obtain⟨u,h1,h2⟩:=h.mx.2 b hbn hKb
     have:=(hB.cn b hbn).1 (.inl hb1) u (hKC u h1)
     rw[this] at h2;cases h2
theorem Dk :33≤Bq:=by have:=Ef;omega
theorem cliquesOf_ok {F:LI}{n:Nat}(h1:1≤n)(hn:n≤16)(hF:FOk F n):∃l,D.E F=some l∧l.Pairwise (λa b=>lkey a<lkey b)∧∀K,K∈l↔In n K∧MX F n K:=by
 have hlen:=hF.len
 unfold D.E D.m
 rw[nets_all_full,bs,hlen]
 have hel:=Bn (full n)
 have h33:=Dk
 obtain⟨y,e,R,hy,hd,hR⟩:=grow_ok hn hF Bq 0 (full n) 0 [] (by omega) ⟨⟨VS.zero,λw hw=>by rw[A8] at hw;cases hw⟩,⟨CS n,λw hw=>by rw[BA hn] at hw;exact of_decide_eq_true hw⟩,⟨VS.zero,λw hw=>by rw[A8] at hw;cases hw⟩,
  λu w hu=>(by rw[A8] at hu;cases hu),λw hw=>⟨λ_ u hu=>(by rw[A8] at hu;cases hu),λ_=> .inl (by rw[BA hn];exact decide_eq_true hw)⟩,λw _=>A8 w⟩ (by simp) (by simp) (by simp)
 rw[List.nil_append] at hd hy
 subst hy
 have hT:∀K,Tgt F n 0 (full n) K↔In n K∧MX F n K:=λK=>⟨λh=>⟨h.ok,h.mx⟩,fun⟨h1,h2⟩=>⟨h1,h2,λw hw=>(by rw[A8] at hw;cases hw),λw hw=> .inr (by rw[BA hn];exact decide_eq_true (h1.2 w hw))⟩⟩
 rw[e,bs,Dl]
 obtain⟨l',e2,hp,hs⟩:=sorted_rise byLex (λx y=>lkey_inj) y (λK hK=>((hT K).1 ((hR K).1 hK)).1.1) hd (by
  have:=Dz hn (λK hK=>((hT K).1 ((hR K).1 hK)).1) hd
  omega)
 refine⟨l',by rw[show DG.Sort D.a y=some l' from e2];rfl,hs,λK=> ?_⟩
 rw[hp.mem_iff,hR,hT]
theorem DI {k:Int→Int}{l:LI}(h:l.Pairwise (λa b=>k a<k b)):l.Nodup:=List.Pairwise.imp (λh e=>by subst e;omega) h
def Dw {α:Type}(b:LI)(P:α→Prop)(e:Option (α×LI×Int×Int)):Prop:=∃y,e=some y∧(P y.1∧y.2.1=b∧DK b y.2.2.1)
theorem Dw.then {α β:Type}{b:LI}{P:α→Prop}{e:Option (α×LI×Int×Int)}{k:α×LI×Int×Int→Option β}{Q:β→Prop}(h:Dw b P e)
  (hk:∀a i z,P a→DK b i→∃y,k (a,b,i,z)=some y∧Q y):∃y,e.bind k=some y∧Q y:=by
 obtain⟨⟨a,b',i,z⟩,rfl,h1,h2,h3⟩:=h
 dsimp only at h1 h2 h3
 subst h2
 exact hk a i z h1 h3
def Few (g:LL):Prop:=g.length≤17∧∀r∈g,r.length≤17
theorem Few.sh2 {g:LL}(h:Few g):Sh2 g:=⟨by have:=h.1;unfold Sh;omega,λr hr=>by have:=h.2 r hr;unfold Sh;omega⟩
theorem Few.set {g:LL}(h:Few g)(k:Nat){r:LI}(hr:r.length≤17):Few (g.set k r):=by
 refine⟨by have:=h.1;simpa using this,λx hx=> ?_⟩
 rcases List.mem_or_eq_of_mem_set hx with hx|rfl
 ·exact h.2 x hx
 ·exact hr
theorem elems_mk {n:Nat}{x:LI}(hn:n≤16)(hi:Inc x)(hr:∀z∈x,0≤z∧z<n):Al (mk x)=x:=by
 have h32:∀z∈x,0≤z∧z<32:=λz hz=>by have:=hr z hz;omega
 refine Inc.ext (Bt _) hi (λz=> ?_)
 rw[mem_elems]
 constructor
 ·rintro⟨v,_,h,rfl⟩
  rw[De h32] at h
  exact of_decide_eq_true h
 ·intro hz
  have:=h32 z hz
  refine⟨z.toNat,by omega,?_,by omega⟩
  rw[De h32,show ((z.toNat:Nat):Int)=z by omega]
  exact decide_eq_true hz
theorem cz_app :∀s a b:LI,cz (s++a) (s++b)=cz a b
 |[],_,_=>rfl
 |c::s,a,b=>by
  rw[List.cons_append,List.cons_append,cz,if_neg (by omega),if_neg (by omega),cz_app s a b]
theorem cz_head {a b:Int}(x y:LI)(h:a<b):cz (a::x) (b::y)<0:=by
 rw[cz,if_pos h];decide
theorem cz_nodup {L:LL}(h:L.Pairwise λa b=>cz a b<0):L.Nodup:=List.Pairwise.imp (λh e=>by
 subst e
 rw[(cz_zero _ _).2 rfl] at h;omega) h
def Cq (g:LL)(x:LI):Prop:=∀u w:Nat,(u:Int)∈x→(w:Int)∈x→u≠w→adj g u w
structure Fin' (g:LL)(x:LI):Prop where
 inc:Inc x
 rng:∀z∈x,0≤z∧z<g.length
 cq:Cq g x
 mx:∀w,w<g.length→∃u:Nat,(u:Int)∈x∧¬adj g u w
def Sol (g:LL)(set left x:LI):Prop:=∃y,x=set++y∧(∀z∈y,z∈left)∧Fin' g x
structure SK (g:LL)(set left out:LI):Prop where
 inc:Inc (set++left)
 r1:∀z∈set++left,0≤z∧z<g.length
 r2:∀z∈out,0≤z∧z<g.length
 cq:Cq g set
 cn:∀w:Nat,w<g.length→(((w:Int)∈left∨(w:Int)∈out)↔∀u:Nat,(u:Int)∈set→adj g u w)
 len:out.length+left.length≤16
theorem inc_len {n:Nat}{x:LI}(hi:Inc x)(hr:∀z∈x,0≤z∧z<n):x.length≤n:=by
 have:=Bx (m:=(List.range n).map Int.ofNat) hi.nodup (λz hz=>by
  have:=hr z hz
  exact List.mem_map.2 ⟨z.toNat,List.mem_range.2 (by omega),by show ((z.toNat:Nat):Int)=z;omega⟩)
 simpa using this
theorem sols_len {g:LL}(hn:g.length≤16){L:LL}(h:∀x∈L,Fin' g x)(hp:L.Pairwise λa b=>cz a b<0):L.length≤65536:=by
 have h1:(L.map mk).Nodup:=by
  unfold List.Nodup
  rw[List.pairwise_map]
  refine List.Pairwise.imp_of_mem (fun{a b} ha hb hab e=>hab ?_) (cz_nodup hp)
  rw[←elems_mk hn (h a ha).inc (h a ha).rng,←elems_mk hn (h b hb).inc (h b hb).rng,e]
 have h2:=Dz (n:=g.length) (l:=L.map mk) hn (λK hK=>by
  obtain⟨x,hx,rfl⟩:=List.mem_map.1 hK
  refine⟨VS.mk _,λw hw=> ?_⟩
  rw[De (λz hz=>by have:=(h x hx).rng z hz;omega)] at hw
  have:=(h x hx).rng _ (of_decide_eq_true hw)
  omega) h1
 simpa using h2
theorem SK.next {g:LL}(hg:GOk g){set left out:LI}(h:SK g set left out){i v:Nat}(hi:i<left.length)(hv:left[i]=(v:Int)):
  SK g (set++[(v:Int)]) ((left.drop (i+1)).filter λx=>decide (x∈row g v)) ((out++left.take i).filter λx=>decide (x∈row g v))∧
  (∀x,Sol g (set++[(v:Int)]) ((left.drop (i+1)).filter λx=>decide (x∈row g v)) x↔∃y,x=set++(v:Int)::y∧(∀z∈y,z∈left)∧Fin' g x):=by
 have hvm:(v:Int)∈left:=by rw[←hv];exact List.getElem_mem hi
 have hvr:=h.r1 _ (List.mem_append.2 (.inr hvm))
 have hvn:v<g.length:=by omega
 have hinc:=List.pairwise_append.1 h.inc
 have hsplit:left=left.take i++(v:Int)::left.drop (i+1):=by
  rw[←hv,List.getElem_cons_drop,List.take_append_drop]
 have hdrop:∀z,z∈left.drop (i+1)↔z∈left∧(v:Int)<z:=λz=>by
  have h2:=hinc.2.1
  rw[hsplit] at h2
  have h3:=List.pairwise_append.1 h2
  have h4:=List.pairwise_cons.1 h3.2.1
  constructor
  ·intro hz
   exact⟨List.mem_of_mem_drop hz,h4.1 z hz⟩
  ·rintro⟨h5,h6⟩
   rw[hsplit] at h5
   rcases List.mem_append.1 h5 with h5|h5
   ·have:=h3.2.2 z h5 (v:Int) (by simp);omega
   ·rcases List.mem_cons.1 h5 with rfl|h5
    ·omega
    ·exact h5
 refine⟨⟨?_,?_,?_,?_,?_,?_⟩,λx=> ?_⟩
 ·rw[List.append_assoc]
  refine List.pairwise_append.2 ⟨hinc.1,?_,λa ha b hb=> ?_⟩
  ·rw[List.singleton_append]
   refine List.pairwise_cons.2 ⟨λz hz=>((hdrop z).1 (List.mem_filter.1 hz).1).2,?_⟩
   exact List.Pairwise.filter _ (List.Pairwise.sublist (List.drop_sublist _ _) hinc.2.1)
  ·refine hinc.2.2 a ha b ?_
   rw[List.singleton_append] at hb
   rcases List.mem_cons.1 hb with rfl|hb
   ·exact hvm
   ·exact((hdrop b).1 (List.mem_filter.1 hb).1).1
 ·intro z hz
  rcases List.mem_append.1 hz with hz|hz
  ·rcases List.mem_append.1 hz with hz|hz
   ·exact h.r1 z (List.mem_append.2 (.inl hz))
   ·simp at hz;subst hz;exact hvr
  ·exact h.r1 z (List.mem_append.2 (.inr ((hdrop z).1 (List.mem_filter.1 hz).1).1))
 ·intro z hz
  rcases List.mem_append.1 (List.mem_filter.1 hz).1 with hz|hz
  ·exact h.r2 z hz
  ·exact h.r1 z (List.mem_append.2 (.inr (List.mem_of_mem_take hz)))
 ·intro u w hu hw hne
  have key:∀a:Nat,(a:Int)∈set→adj g a v:=λa ha=>(h.cn v hvn).1 (.inl hvm) a ha
  rcases List.mem_append.1 hu with hu1|hu1<;>rcases List.mem_append.1 hw with hw1|hw1
  ·exact h.cq u w hu1 hw1 hne
  ·have e:w=v:=by simp at hw1;omega
   rw[e];exact key u hu1
  ·have e:u=v:=by simp at hu1;omega
   rw[e]
   have:=h.r1 _ (List.mem_append.2 (.inl hw1))
   exact hg.sym w v (by omega) (key w hw1)
  ·simp at hu1 hw1;omega
 ·intro w hw
  have h1:=h.cn w hw
  have hself:(w:Int)∈row g v→w≠v:=λha e=>by subst e;exact hg.irr w hw ha
  constructor
  ·intro hm u hu
   have hm':((w:Int)∈left∨(w:Int)∈out)∧(w:Int)∈row g v:=by
    rcases hm with hm|hm
    ·obtain⟨a1,a2⟩:=List.mem_filter.1 hm
     exact⟨.inl ((hdrop _).1 a1).1,of_decide_eq_true a2⟩
    ·obtain⟨a1,a2⟩:=List.mem_filter.1 hm
     refine⟨?_,of_decide_eq_true a2⟩
     rcases List.mem_append.1 a1 with a1|a1
     ·exact .inr a1
     ·exact .inl (List.mem_of_mem_take a1)
   rcases List.mem_append.1 hu with hu|hu
   ·exact h1.1 hm'.1 u hu
   ·have:u=v:=by simp at hu;omega
    subst this;exact hm'.2
  ·intro hA
   have hav:(w:Int)∈row g v:=hA v (by simp)
   have hne:=hself hav
   rcases h1.2 (λu hu=>hA u (List.mem_append.2 (.inl hu))) with hm|hm
   ·rw[hsplit] at hm
    rcases List.mem_append.1 hm with hm|hm
    ·exact .inr (List.mem_filter.2 ⟨List.mem_append.2 (.inr hm),decide_eq_true hav⟩)
    ·rcases List.mem_cons.1 hm with hm|hm
     ·omega
     ·exact .inl (List.mem_filter.2 ⟨hm,decide_eq_true hav⟩)
   ·exact .inr (List.mem_filter.2 ⟨List.mem_append.2 (.inl hm),decide_eq_true hav⟩)
 ·have a1:((left.drop (i+1)).filter λx=>decide (x∈row g v)).length≤(left.drop (i+1)).length:=List.length_filter_le _ _
  have a2:((out++left.take i).filter λx=>decide (x∈row g v)).length≤(out++left.take i).length:=List.length_filter_le _ _
  have:=h.len
  simp only[List.length_drop,List.length_append,List.length_take] at a1 a2
  omega
 ·constructor
  ·rintro⟨y,rfl,hy,hf⟩
   exact⟨y,by simp,λz hz=>((hdrop z).1 (List.mem_filter.1 (hy z hz)).1).1,hf⟩
  ·rintro⟨y,rfl,hy,hf⟩
   refine⟨y,by simp,λz hz=> ?_,hf⟩
   have hz2:=hf.rng z (by simp[hz])
   have h6:=(List.pairwise_cons.1 (List.pairwise_append.1 hf.inc).2.1).1 z hz
   refine List.mem_filter.2 ⟨(hdrop z).2 ⟨hy z hz,h6⟩,decide_eq_true ?_⟩
   have:=hf.cq v z.toNat (by simp) (by rw[show ((z.toNat:Nat):Int)=z by omega];simp[hz]) (by omega)
   unfold adj at this
   rwa [show ((z.toNat:Nat):Int)=z by omega] at this
theorem l8R_ok {g:LL}(hg:GOk g):∀(fuel:Nat) (set left out:LI),left.length<fuel→SK g set left out→
  ∃L,D.c1 fuel g set left out=some L∧(∀x,x∈L↔Sol g set left x)∧L.Pairwise λa b=>cz a b<0
 |0,_,left,_,h,_=>by omega
 |fuel+1,set,left,out,hfu,h=>by
  have h16:=hg.n16
  unfold D.c1
  have hsl:=inc_len (n:=g.length) h.inc h.r1
  rw[List.length_append] at hsl
  have hol:=h.len
  by_cases hb:left=[]∧out=[]
  ·obtain⟨rfl,rfl⟩:=hb
   refine⟨[set],rfl,λx=> ?_,by simp⟩
   rw[List.mem_singleton]
   have hf:Fin' g set:=by
    refine⟨by have:=h.inc;rwa [List.append_nil] at this,λz hz=>h.r1 z (by simp[hz]),h.cq,λw hw=> ?_⟩
    apply Classical.byContradiction
    intro hc
    have:=(h.cn w hw).2 (λu hu=>Classical.byContradiction λhn=>hc ⟨u,hu,hn⟩)
    simp at this
   constructor
   ·rintro rfl;exact⟨[],by simp,by simp,hf⟩
   ·rintro⟨y,rfl,hy,_⟩
    cases y with
    |nil=>simp
    |cons z y=>have:=hy z (by simp);simp at this
  ·have e0:(((left.length:Int)==0)&&((out.length:Int)==0))=false:=by
    rw[Bool.eq_false_iff]
    intro hc
    simp only[Bool.and_eq_true,beq_iff_eq] at hc
    exact hb ⟨List.length_eq_zero_iff.1 (by omega),List.length_eq_zero_iff.1 (by omega)⟩
   rw[e0,cond_false]
   have hnot:∀x,Sol g set left x↔∃j,∃hj:j<left.length,∃y,x=set++left[j]::y∧(∀z∈y,z∈left)∧Fin' g x:=λx=>by
    constructor
    ·rintro⟨y,rfl,hy,hf⟩
     cases y with
     |nil=>
      exfalso
      have hex:∃w:Nat,w<g.length∧((w:Int)∈left∨(w:Int)∈out):=by
       cases hl:left with
       |cons a l=>
        have:=h.r1 a (by simp[hl])
        exact⟨a.toNat,by omega,.inl (by rw[show ((a.toNat:Nat):Int)=a by omega];simp)⟩
       |nil=>
        cases ho:out with
        |nil=>exact absurd ⟨hl,ho⟩ hb
        |cons a l=>
         have:=h.r2 a (by simp[ho])
         exact⟨a.toNat,by omega,.inr (by rw[show ((a.toNat:Nat):Int)=a by omega];simp)⟩
      obtain⟨w,hw,hm⟩:=hex
      obtain⟨u,hu,hn⟩:=hf.mx w hw
      rw[List.append_nil] at hu
      exact hn ((h.cn w hw).1 hm u hu)
     |cons z y=>
      obtain⟨j,hj,e⟩:=List.getElem_of_mem (hy z (by simp))
      exact⟨j,hj,y,by rw[e],λt ht=>hy t (by simp[ht]),hf⟩
    ·rintro⟨j,hj,y,rfl,hy,hf⟩
     refine⟨_,rfl,λz hz=> ?_,hf⟩
     rcases List.mem_cons.1 hz with rfl|hz
     ·exact List.getElem_mem hj
     ·exact hy z hz
   refine A3 (λs=>∃i:Nat,s.2=(i:Int)∧i≤left.length∧(∀x,x∈s.1↔∃j,∃hj:j<left.length,j<i∧∃y,x=set++left[j]::y∧(∀z∈y,z∈left)∧Fin' g x)∧s.1.Pairwise λa b=>cz a b<0)
    (λs=>left.length-s.2.toNat) (λL=>(∀x,x∈L↔Sol g set left x)∧L.Pairwise λa b=>cz a b<0) ?_ ⟨0,rfl,by omega,λx=>⟨λhx=>by simp at hx,fun⟨j,_,hj,_⟩=>by omega⟩,by simp⟩ (λL hL=>⟨L,rfl,hL⟩)
   rintro⟨fd,_⟩ ⟨i,rfl,hi,hfd,hpw⟩
   dsimp only at hfd hpw ⊢
   by_cases hil:i<left.length
   ·have hr:=h.r1 _ (List.mem_append.2 (.inr (List.getElem_mem hil)))
    obtain⟨v,hv⟩:∃v:Nat,left[i]=(v:Int):=⟨left[i].toNat,by omega⟩
    have hvn:v<g.length:=by omega
    obtain⟨hsk,hsol⟩:=h.next hg hil hv
    have hdl:((left.drop (i+1)).filter λx=>decide (x∈row g v)).length≤(left.drop (i+1)).length:=List.length_filter_le _ _
    rw[List.length_drop] at hdl
    obtain⟨L,e1,hL,hLp⟩:=l8R_ok hg fuel _ _ _ (by omega) hsk
    have hrow:=hg.row_len hvn
    have hS:∀l:LI,l.length≤64→Sh l:=λl hl=>by unfold Sh;omega
    have c1:D.h set=some set:=D8 _ (hS _ (by omega))
    have c2:D.h out=some out:=D8 _ (hS _ (by omega))
    have c3:AP set [(v:Int)]=some (set++[(v:Int)]):=Bm (by simp;omega)
    have c4:AP out (left.take i)=some (out++left.take i):=Bm (by simp;omega)
    have c5:=l8Meet_eq (left.drop (i+1)) (row g v) (hS _ (by simp;omega)) (hS _ (by omega))
    have c6:=l8Meet_eq (out++left.take i) (row g v) (hS _ (by simp;omega)) (hS _ (by omega))
    have hfdF:∀x∈fd,Fin' g x:=λx hx=>by
     obtain⟨_,_,_,_,_,_,hf⟩:=(hfd x).1 hx
     exact hf
    have hLF:∀x∈L,Fin' g x:=λx hx=>by
     obtain⟨_,_,_,hf⟩:=(hL x).1 hx
     exact hf
    have n1:=sols_len h16 hfdF hpw
    have n2:=sols_len h16 hLF hLp
    have c7:AP fd L=some (fd++L):=Bm (by omega)
    simp only[dlt hil,cond_true,AB hil,hv,bs,wq i,Ff (show i+1≤left.length by omega),sliceD_pre (show i≤left.length by omega),B6 hvn,c1,c2,c3,c4,c5,c6,e1,c7]
    refine⟨_,rfl,⟨i+1,rfl,by omega,λx=> ?_,?_⟩,by dsimp only;omega⟩
    ·dsimp only
     rw[List.mem_append,hfd,hL,hsol]
     constructor
     ·rintro(⟨j,hj,hji,hx⟩|hx)
      ·exact⟨j,hj,by omega,hx⟩
      ·exact⟨i,hil,by omega,by rw[hv];exact hx⟩
     ·rintro⟨j,hj,hji,hx⟩
      by_cases he:j=i
      ·subst he
       rw[hv] at hx
       exact .inr hx
      ·exact .inl ⟨j,hj,by omega,hx⟩
    ·dsimp only
     refine List.pairwise_append.2 ⟨hpw,hLp,λa ha b hb'=> ?_⟩
     obtain⟨j,hj,hji,y,rfl,_⟩:=(hfd a).1 ha
     obtain⟨y',rfl,_⟩:=(hsol b).1 ((hL b).1 hb')
     rw[cz_app]
     refine cz_head _ _ ?_
     rw[←hv]
     exact List.pairwise_iff_getElem.1 (List.pairwise_append.1 h.inc).2.1 j i hj hil hji
   ·obtain rfl:i=left.length:=by omega
    simp only[Br,cond_false]
    refine⟨_,rfl,λx=> ?_,hpw⟩
    rw[hfd,hnot]
    exact⟨fun⟨j,hj,_,hx⟩=>⟨j,hj,hx⟩,fun⟨j,hj,hx⟩=>⟨j,hj,hj,hx⟩⟩
theorem fin_mx {g:LL}(hg:GOk g){x:LI}(h:Fin' g x):In g.length (mk x)∧MX (g.map mk) g.length (mk x):=by
 have h16:=hg.n16
 have hm:∀w:Nat,has (mk x) w=true↔(w:Int)∈x:=λw=>by
  rw[De (λz hz=>by have:=h.rng z hz;omega)];simp
 have hl:∀w:Nat,(w:Int)∈x→w<g.length:=λw hw=>by have:=h.rng _ hw;omega
 refine⟨⟨VS.mk _,λw hw=>hl w ((hm w).1 hw)⟩,λu w hu hw hne=> ?_,λw hw _=> ?_⟩
 ·exact(BD hg (hl u ((hm u).1 hu))).2 (h.cq u w ((hm u).1 hu) ((hm w).1 hw) hne)
 ·obtain⟨u,hu,hn⟩:=h.mx w hw
  refine⟨u,(hm u).2 hu,?_⟩
  rw[Bool.eq_false_iff]
  intro hc
  exact hn ((BD hg (hl u hu)).1 hc)
theorem mx_fin {g:LL}(hg:GOk g){K:Int}(hI:In g.length K)(h:MX (g.map mk) g.length K):Fin' g (Al K):=by
 have hm:∀w:Nat,(w:Int)∈Al K↔has K w=true:=λw=>AE hI.1
 refine⟨Bt _,λz hz=> ?_,λu w hu hw hne=> ?_,λw hw=> ?_⟩
 ·obtain⟨v,_,h2,rfl⟩:=mem_elems.1 hz
  have:=hI.2 v h2
  omega
 ·have hu':=(hm u).1 hu
  exact(BD hg (hI.2 u hu')).1 (h.1 u w hu' ((hm w).1 hw) hne)
 ·cases hc:has K w
  ·obtain⟨u,hu,hn⟩:=h.2 w hw hc
   refine⟨u,(hm u).2 hu,λha=> ?_⟩
   rw[(BD hg (hI.2 u hu)).2 ha] at hn;cases hn
  ·exact⟨w,(hm w).2 hc,hg.irr w hw⟩
structure GC (g:LL)(l:LI):Prop where
 up:l.Pairwise λa b=>lkey a<lkey b
 mem:∀K,K∈l↔In g.length K∧MX (g.map mk) g.length K
theorem CliquesOf_all {g:LL}(hg:GOk g):∃l,D.E (g.map mk)=some l∧l.length≤65536∧D.l1 g=some (l.map Al)∧D.k1 g=some (l.map Al)∧GC g l:=by
 have h16:=hg.n16
 obtain⟨l,e1,hup,hmem⟩:=cliquesOf_ok hg.n1 h16 (FOk.of hg)
 have hGC:GC g l:=⟨hup,hmem⟩
 have hvs:∀s∈l,VS s:=λs hs=>((hmem s).1 hs).1.1
 have hll:=Dz h16 (λK hK=>((hmem K).1 hK).1) (DI hup)
 refine⟨l,e1,by omega,?_,?_,hGC⟩
 ·unfold D.l1
  rw[BL g hg.sh2,Co hg,bs,Bool.not_true,cond_false,CB g hg,bs,e1,bs,results_eq l (by unfold Sh;omega) hvs];rfl
 ·unfold D.k1 D.d D.y0
  rw[Cp g hg.sh2,Co hg,bs,Bool.not_true,cond_false,bs,l1All_eq g.length (by omega),bs]
  have hrg:∀z,z∈(List.range g.length).map Int.ofNat↔0≤z∧z<g.length:=λz=>by
   rw[List.mem_map]
   constructor
   ·rintro⟨v,hv,rfl⟩
    have:=List.mem_range.1 hv
    exact⟨Int.natCast_nonneg v,by show (v:Int)<_;omega⟩
   ·intro h
    exact⟨z.toNat,List.mem_range.2 (by omega),by show ((z.toNat:Nat):Int)=z;omega⟩
  have hinc:Inc ((List.range g.length).map Int.ofNat):=by
   unfold Inc
   rw[List.pairwise_map]
   exact List.Pairwise.imp (fun{a b} h=>by show (a:Int)<(b:Int);omega) List.pairwise_lt_range
  have h33:=Dk
  obtain⟨L,e2,hL,hLp⟩:=l8R_ok hg Bq [] ((List.range g.length).map Int.ofNat) [] (by simp;omega) ⟨hinc,λz hz=>(hrg z).1 hz,by simp,λu w hu=>by simp at hu,λw hw=>⟨λ_ u hu=>by simp at hu,λ_=> .inl ((hrg _).2 (by omega))⟩,by simp;omega⟩
  have hLF:∀x,x∈L↔Fin' g x:=λx=>by
   rw[hL]
   constructor
   ·rintro⟨y,rfl,_,hf⟩;exact hf
   ·intro hf
    exact⟨x,rfl,λz hz=>(hrg z).2 (hf.rng z hz),hf⟩
  have hem:∀x∈L,Al (mk x)=x:=λx hx=>elems_mk h16 ((hLF x).1 hx).inc ((hLF x).1 hx).rng
  have hLm:L.map mk=l:=by
   refine Fd (k:=lkey) ?_ hup (λK=> ?_)
   ·rw[List.pairwise_map]
    refine List.Pairwise.imp_of_mem (fun{a b} ha hb hab=> ?_) hLp
    have fa:=(hLF a).1 ha;have fb:=(hLF b).1 hb
    have la:=inc_len fa.inc fa.rng;have lb:=inc_len fb.inc fb.rng
    unfold lkey
    rw[hem a ha,hem b hb]
    exact(lk_cmp 32 a b (by omega) (by omega) (λz hz=>by have:=fa.rng z hz;omega) (λz hz=>by have:=fb.rng z hz;omega)).1 hab
   ·rw[List.mem_map,hmem]
    constructor
    ·rintro⟨x,hx,rfl⟩
     exact fin_mx hg ((hLF x).1 hx)
    ·rintro⟨hI,hM⟩
     exact⟨Al K,(hLF _).2 (mx_fin hg hI hM),mk_elems hI.1⟩
  have hLe:L=l.map Al:=by
   rw[←hLm,List.map_map]
   have:L.map (Al∘mk)=L.map id:=List.map_congr_left (λx hx=>hem x hx)
   rw[this,List.map_id]
  rw[e2,bs,bs,hLe]
def BV (f:Int→Nat):LI→Nat
 |[]=>0
 |x::l=>f x+BV f l
theorem isum_app (f:Int→Nat):∀l l',BV f (l++l')=BV f l+BV f l'
 |[],l'=>by simp[BV]
 |x::l,l'=>by simp only[List.cons_append,BV];rw[isum_app f l l'];omega
theorem EV (f:Int→Nat)(l:LI)(x:Int):BV f (l++[x])=BV f l+f x:=by rw[isum_app];simp[BV]
theorem isum_els (f:Int→Nat)(s:Int):∀n,BV f (els s n)=BB (λv=>if has s v then f (v:Int) else 0) n
 |0=>rfl
 |n+1=>by
  rw[els_succ]
  simp only[BB]
  rw[←isum_els f s n]
  cases has s n
  ·simp
  ·simp only[if_true];rw[EV]
theorem DM (f:Int→Nat){s:Int}{n:Nat}(hn:n≤32)(h:∀v,has s v=true→v<n):BV f (Al s)=BB (λv=>if has s v then f (v:Int) else 0) n:=by
 rw[←els_all hn h,isum_els]
theorem isum_le (f:Int→Nat)(b:Nat):∀(l:LI),(∀x∈l,f x≤b)→BV f l≤l.length*b
 |[],_=>by simp[BV]
 |x::l,h=>by
  have h1:=isum_le f b l (λy hy=>h y (List.mem_cons_of_mem _ hy))
  have h2:=h x (by simp)
  simp only[BV,List.length_cons,Nat.succ_mul]
  omega
theorem sum_bit (c:Bool)(p:Nat→Bool)(n:Nat):BB (λw=>bit (c&&p w)) n=if c then BB (λw=>bit (p w)) n else 0:=by
 cases c
 ·simp only[Bool.false_and];exact ER n
 ·simp
def mis (F:LI)(n:Nat)(S:Int):Nat:=S2 n (λu w=>has S u&&(has S w&&(decide (w<u)&& !nb F w u)))
theorem Dd {F:LI}{n:Nat}{S:Int}(h16:n≤16)(h:FOk F n)(hS:VS S)(hlt:∀v,has S v=true→v<n):D.t F S=some (mis F n S:Int):=by
 have hel:=Bn S
 have hf:∀(S':Int),(Al S').length≤32:=Bn
 have hb:∀i,BV (λu=>(Al (iandNot .u32 (iandNot .u32 S (F.getD u.toNat 0)) (ishl .u32 1 u))).length) ((Al S).take i)≤1024:=λi=>by
  have:=isum_le (λu=>(Al (iandNot .u32 (iandNot .u32 S (F.getD u.toNat 0)) (ishl .u32 1 u))).length) 32 ((Al S).take i) (λx _=>hf _)
  have h2:((Al S).take i).length≤32:=by rw[List.length_take];omega
  have:=Nat.mul_le_mul_right 32 h2
  omega
 have hsum:BV (λu=>(Al (iandNot .u32 (iandNot .u32 S (F.getD u.toNat 0)) (ishl .u32 1 u))).length) (Al S)=2*mis F n S:=by
  rw[DM _ (n:=n) (by omega) hlt]
  have e1:S2 n (λu w=>has S u&&(has S w&&(!nb F u w&&decide (w≠u))))=BB (λv=>if has S v then(Al (iandNot .u32 (iandNot .u32 S (F.getD v 0)) (ishl .u32 1 (v:Int)))).length else 0) n:=by
   unfold S2
   refine Cc λu hu=> ?_
   rw[sum_bit]
   have hh:∀w,has (iandNot .u32 (iandNot .u32 S (F.getD u 0)) (ishl .u32 1 (u:Int))) w=(has S w&&(!nb F u w&&decide (w≠u))):=λw=>by
    rw[AU (VS.iandNot _ _) (VS.ishl _ _),AU hS (h.vs u hu),Bc (by omega)]
    unfold nb
    by_cases e:w=u<;>simp[e]
   rw[elems_sum (n:=n) (by omega) (λv hv=>by rw[hh,Bool.and_eq_true] at hv;exact hlt v hv.1)]
   simp only[hh]
  have e2:(λv:Nat=>if has S v then(λu:Int=>(Al (iandNot .u32 (iandNot .u32 S (F.getD u.toNat 0)) (ishl .u32 1 u))).length) (v:Int) else 0)=(λv:Nat=>if has S v then(Al (iandNot .u32 (iandNot .u32 S (F.getD v 0)) (ishl .u32 1 (v:Int)))).length else 0):=by
   funext v;simp only[Int.toNat_natCast]
  rw[e2,←e1]
  rw[S2_half (n:=n) (A:=λu w=>has S u&&(has S w&&(!nb F u w&&decide (w≠u)))) (lt:=λu w=>decide (w<u)) ?_ ?_ ?_]
  ·congr 1
   unfold mis
   refine S2_congr λu w hu hw=> ?_
   have hsym:nb F u w=nb F w u:=by
    rw[Bool.eq_iff_iff]
    exact⟨h.sym u w hu,h.sym w u hw⟩
   rw[hsym]
   by_cases e:w<u
   ·have:decide (w≠u)=true:=by simp;omega
    simp[e,this]
   ·simp[e]
  ·intro u w hu hw
   have hsym:nb F u w=nb F w u:=by
    rw[Bool.eq_iff_iff]
    exact⟨h.sym u w hu,h.sym w u hw⟩
   rw[hsym]
   by_cases e:w=u
   ·subst e;rfl
   ·have e':¬u=w:=λx=>e x.symm
    cases has S u<;>cases has S w<;>simp[e,e']
  ·intro u w hu hw ha
   simp only[Bool.and_eq_true,decide_eq_true_eq] at ha ⊢
   omega
  ·intro u w hu hw h1 h2
   simp only[decide_eq_true_eq] at h1 h2
   omega
 unfold D.t
 rw[Cg S hS,bs]
 refine(CT (λi=>(((BV (λu=>(Al (iandNot .u32 (iandNot .u32 S (F.getD u.toNat 0)) (ishl .u32 1 u))).length) ((Al S).take i):Nat):Int),(i:Int))) (Al S).length ((BV (λu=>(Al (iandNot .u32 (iandNot .u32 S (F.getD u.toNat 0)) (ishl .u32 1 u))).length) (Al S):Nat):Int) (by simp[BV]) (λi hi=> ?_) ?_).trans ?_
 ·obtain⟨v,_,q1,q2⟩:=mem_elems.1 (List.getElem_mem hi)
  have hb1:=hb i
  have hb2:=hf (iandNot .u32 (iandNot .u32 S (F.getD v 0)) (ishl .u32 1 (v:Int)))
  rw[List.take_succ_eq_append_getElem hi,EV,q2]
  simp only[dlt hi,cond_true,AB hi,q2,bs,idx_F h (hlt v q1),BM,size_eq (VS.iandNot _ _),wq i,Int.toNat_natCast]
  rw[w64 (by omega) (by omega)]
  rfl
 ·simp only[Br,cond_false,List.take_length]
 ·have:=hb (Al S).length
  rw[List.take_length,hsum] at this
  rw[hsum]
  congr 1
  rw[Int.tdiv_eq_ediv_of_nonneg (by omega)]
  have e:((2*mis F n S:Nat):Int)/2=(mis F n S:Int):=by omega
  rw[e,w64 (by omega) (by omega)]
theorem take_less {l:LI}(h:Inc l){i:Nat}(hi:i<l.length)(q:Int→Bool):(l.take i).filter q=l.filter (λy=>decide (y<l[i])&&q y):=by
 have e:=List.take_append_drop i l
 have h1:∀y∈l.take i,y<l[i]:=λy hy=>by
  obtain⟨k,hk,hki,rfl⟩:=mem_take_iff.1 hy
  exact(List.pairwise_iff_getElem.1 h) k i hk hi hki
 have h2:∀y∈l.drop i,¬y<l[i]:=λy hy=>by
  obtain⟨k,hk,rfl⟩:=List.getElem_of_mem hy
  rw[List.getElem_drop]
  rw[List.length_drop] at hk
  by_cases hk0:k=0
  ·subst hk0;simp
  ·have:=(List.pairwise_iff_getElem.1 h) i (i+k) hi (by omega) (by omega)
   omega
 have h3:l.filter (λy=>decide (y<l[i])&&q y)=(l.take i).filter (λy=>decide (y<l[i])&&q y)++(l.drop i).filter (λy=>decide (y<l[i])&&q y):=by
  rw[←List.filter_append,e]
 have h4:(l.drop i).filter (λy=>decide (y<l[i])&&q y)=[]:=List.filter_eq_nil_iff.2 (λy hy=>by simp[h2 y hy])
 rw[h3,h4,List.append_nil]
 exact List.filter_congr λy hy=>by simp[h1 y hy]
theorem Fo {F:LI}{n:Nat}{S:Int}(h1:1≤n)(h16:n≤16)(h:FOk F n)(hS:VS S)(hlt:∀v,has S v=true→v<n):D.Z0 (grow F) (Al S)=some (mis F n S:Int):=by
 have hel:=Bn S
 have hG:=GOk.grow h h1 h16
 have hGl:(grow F).length=n:=by rw[grow_len,h.len]
 have hsum:BV (λx=>((Al S).filter λy=>decide (y<x)&& !decide (x∈row (grow F) y.toNat)).length) (Al S)=mis F n S:=by
  rw[DM _ (n:=n) (by omega) hlt]
  unfold mis S2
  refine Cc λu hu=> ?_
  rw[sum_bit]
  by_cases hu':has S u=true
  ·rw[if_pos hu',if_pos hu',Fi (n:=n) (by omega) hlt]
   refine Cc λw hw=> ?_
   congr 2
   have e1:decide ((w:Int)<(u:Int))=decide (w<u):=by simp
   have e2:decide ((u:Int)∈row (grow F) ((w:Int).toNat))=nb F w u:=by
    rw[Bool.eq_iff_iff,decide_eq_true_eq,Int.toNat_natCast]
    exact DY h hw
   rw[e1,e2]
  ·rw[if_neg hu',if_neg hu']
 have hb:∀i,BV (λx=>((Al S).filter λy=>decide (y<x)&& !decide (x∈row (grow F) y.toNat)).length) ((Al S).take i)≤1024:=λi=>by
  have:=isum_le (λx=>((Al S).filter λy=>decide (y<x)&& !decide (x∈row (grow F) y.toNat)).length) 32 ((Al S).take i) (λx _=>Nat.le_trans (List.length_filter_le _ _) hel)
  have h2:((Al S).take i).length≤32:=by rw[List.length_take];omega
  have:=Nat.mul_le_mul_right 32 h2
  omega
 unfold D.Z0
 refine(CT (λi=>(((BV (λx=>((Al S).filter λy=>decide (y<x)&& !decide (x∈row (grow F) y.toNat)).length) ((Al S).take i):Nat):Int),(i:Int))) (Al S).length (mis F n S:Int) (by simp[BV]) (λi hi=> ?_) ?_).trans rfl
 ·obtain⟨u,_,q1,q2⟩:=mem_elems.1 (List.getElem_mem hi)
  have hb1:=hb i
  simp only[dlt hi,cond_true]
  refine(CT (λk=>(((BV (λx=>((Al S).filter λy=>decide (y<x)&& !decide (x∈row (grow F) y.toNat)).length) ((Al S).take i)+(((Al S).take k).filter (λy=> !decide ((Al S)[i]∈row (grow F) y.toNat))).length:Nat):Int),(k:Int))) i ((BV (λx=>((Al S).filter λy=>decide (y<x)&& !decide (x∈row (grow F) y.toNat)).length) ((Al S).take (i+1)):Nat):Int) (by simp) (λk hk=> ?_) ?_).trans ?_
  ·have hkl:k<(Al S).length:=by omega
   obtain⟨w,_,p1,p2⟩:=mem_elems.1 (List.getElem_mem hkl)
   have hlen:(((Al S).take k).filter (λy=> !decide ((Al S)[i]∈row (grow F) y.toNat))).length≤32:=Nat.le_trans (List.length_filter_le _ _) (by rw[List.length_take];omega)
   rw[List.take_succ_eq_append_getElem hkl,List.filter_append,List.length_append]
   simp only[dlt hk,cond_true,AB hkl,AB hi,p2,q2,bs,Dx (grow F) hG (show w<(grow F).length by rw[hGl];exact hlt w p1),wq k,List.filter_cons,List.filter_nil,Int.toNat_natCast]
   rw[q2] at hlen
   by_cases hm:(u:Int)∈row (grow F) w
   ·simp only[hm,decide_true,Bool.not_true,cond_false,Bool.false_eq_true,if_false,List.length_nil,Nat.add_zero]
   ·simp only[hm,decide_false,Bool.not_false,cond_true,if_true,List.length_singleton]
    rw[w64 (by omega) (by omega)]
    rfl
  ·simp only[Br,cond_false]
   rw[take_less (Bt S) hi,List.take_succ_eq_append_getElem hi,EV]
  ·rw[wq i]
 ·simp only[Br,cond_false,List.take_length,hsum]
def cd (F:LI)(s v:Int):Int:=((Al (iand .u32 (F.getD v.toNat 0) s)).length:Int)
def cf (n:Nat)(F:LI)(s v:Int):Int:=(mis F n (iand .u32 (F.getD v.toNat 0) s):Int)
section
variable {g : LL} (hg : GOk g)
include hg
theorem Ei {F:LI}{s:Int}{v:Nat}(h:FOk F g.length)(hs:VS s)(hv:v<g.length):∀w,has (iand .u32 (F.getD v 0) s) w=true→w<g.length:=λw hw=>by
 rw[Ck (h.vs v hv) hs,Bool.and_eq_true] at hw
 exact h.lt v w hv hw.1
theorem OOk.shl {o:LI}(ho:OOk g o):Sh o:=ho.sh hg
end
end Go.Sx

namespace Go.Sx
def S16 (s:Int):Prop:=0≤s∧s<65536
theorem S16.vs {s:Int}(h:S16 s):VS s:=⟨h.1,by have:=h.2;omega⟩
theorem S16.nat {s:Int}(h:S16 s):∃n:Nat,s=n∧n<65536:=⟨s.toNat,by have:=h.1;omega,by have:=h.1;have:=h.2;omega⟩
theorem S16.lt {s:Int}(h:S16 s){v:Nat}(hv:has s v=true):v<16:=by
 obtain⟨n,rfl,hn⟩:=h.nat
 rw[BS] at hv
 have:=Nat.ge_two_pow_of_testBit hv
 apply Classical.byContradiction
 intro hc
 have h2:2^16≤2^v:=Nat.pow_le_pow_right (by omega) (by omega)
 omega
theorem In.of {n i:Nat}(h:i<2^n)(hn:n≤16):In n (i:Int):=by
 have:2^n≤2^16:=Nat.pow_le_pow_right (by omega) hn
 refine⟨⟨by omega,by omega⟩,λw hw=> ?_⟩
 rw[BS] at hw
 have:=Nat.ge_two_pow_of_testBit hw
 apply Classical.byContradiction
 intro hc
 have h2:2^n≤2^w:=Nat.pow_le_pow_right (by omega) (by omega)
 omega
theorem clq_pairs {g:LL}(hg:GOk g){l:LI}(hr:∀x∈l,0≤x∧x<g.length)(h:Clq g l l.length):∀u w:Nat,(u:Int)∈l→(w:Int)∈l→u≠w→adj g u w:=by
 intro u w hu hw hne
 obtain⟨i,hi,ei⟩:=List.getElem_of_mem hu
 obtain⟨k,hk,ek⟩:=List.getElem_of_mem hw
 have ru:=hr _ hu;have rw':=hr _ hw
 rcases Nat.lt_trichotomy i k with c|c|c
 ·have:=h k i hk c
  rw[AA hi,AA hk,ei,ek,Int.toNat_natCast,Int.toNat_natCast] at this
  exact this
 ·subst c;rw[ei] at ek;omega
 ·have:=h i k hi c
  rw[AA hi,AA hk,ei,ek,Int.toNat_natCast,Int.toNat_natCast] at this
  exact hg.sym w u (by omega) this
theorem E8 {g:LL}(hg:GOk g):∃y,D.e1 g=some y∧(y.2=true→OOk g y.1∧PEOg g y.1):=by
 have h16:=hg.n16
 unfold D.e1 D.d
 rw[Cp g hg.sh2,Co hg]
 simp only[bs,Bool.not_true,cond_false]
 rw[makeD_ok (by omega) (by omega),bs]
 refine A3
  (λs=>s.1.length=g.length∧s.2.length≤g.length∧s.2.Nodup∧(∀x∈s.2,0≤x∧x<g.length)∧(∀v,v<g.length→(s.1.getD v false=true↔(v:Int)∈s.2))∧PEOg g s.2) (λs=>g.length-s.2.length)
  (λr=>(∃l,r= .inl l∧OOk g l∧PEOg g l)∨∃l,r= .inr (l,false)) ?_ ?_ ?_
 ·rintro⟨gone,out⟩ ⟨hgl,hol,hnd,hrg,hm,hpe⟩
  dsimp only at hgl hol hnd hrg hm hpe ⊢
  by_cases hlt:out.length<g.length
  ·simp only[dlt hlt,cond_true]
   refine A3 (λx=>∃v:Nat,x=(v:Int)∧v≤g.length) (λx=>g.length-x.toNat) (λr=>∃v:Nat,r=(v:Int)∧v≤g.length∧(v<g.length→gone.getD v false=false∧Clq g (lft g v gone) (lft g v gone).length)) ?_ ⟨0,rfl,by omega⟩ ?_
   ·rintro _ ⟨v,rfl,hv⟩
    by_cases hvn:v<g.length
    ·have hgv:gone[v]'(by omega)=gone.getD v false:=(AA (by omega) _).symm
     simp only[dlt hvn,cond_true,AB (show v<gone.length by omega),bs,wq v]
     cases hc:gone[v]'(by omega)
     ·rw[cond_false,l7Left_eq g hg hvn gone hgl,bs]
      obtain⟨b,e1,h1⟩:=l8Clique_ok g hg (lft g v gone) (lft_len hg hvn _) (lft_rng hg hvn _)
      rw[e1,bs]
      cases b
      ·rw[Bool.not_false,cond_true]
       exact⟨_,rfl,⟨v+1,rfl,by omega⟩,by simp;omega⟩
      ·rw[Bool.not_true,cond_false]
       exact⟨_,rfl,v,rfl,by omega,λ_=>⟨by rw[←hgv,hc],h1.1 rfl⟩⟩
     ·rw[cond_true]
      exact⟨_,rfl,⟨v+1,rfl,by omega⟩,by simp;omega⟩
    ·obtain rfl:v=g.length:=by omega
     simp only[Br,cond_false]
     exact⟨_,rfl,_,rfl,by omega,λh=>by omega⟩
   ·rintro _ ⟨v,rfl,hvl,hv⟩
    by_cases hvn:v<g.length
    ·obtain⟨hgf,hq⟩:=hv hvn
     have hvo:(v:Int)∉out:=λhc=>by
      have:=(hm v hvn).2 hc
      rw[hgf] at this;cases this
     have e1:(((v:Nat):Int)==(g.length:Int))=false:=by simp;omega
     rw[e1,cond_false,AB (show v<gone.length by omega),bs,Bm (by simp;omega),bs]
     refine⟨_,rfl,⟨by simp[hgl],by simp;omega,?_,?_,λx hx=> ?_,?_⟩,by simp;omega⟩
     ·rw[List.nodup_append]
      exact⟨hnd,by simp,λa ha b hb=>by simp at hb;subst hb;exact λe=>hvo (e▸ha)⟩
     ·intro x hx
      rcases List.mem_append.1 hx with hx|hx
      ·exact hrg x hx
      ·simp at hx;omega
     ·rw[Int.toNat_natCast,List.mem_append,List.mem_singleton]
      by_cases hxv:x=v
      ·subst hxv;simp[List.getD_eq_getElem?_getD,hgl,hx]
      ·have:(gone.set v true).getD x false=gone.getD x false:=by
        simp only[List.getD_eq_getElem?_getD,List.getElem?_set]
        rw[if_neg (λe=>hxv e.symm)]
       rw[this,hm x hx]
       exact⟨.inl,λh=>h.elim id (λe=>absurd (by omega) hxv)⟩
     ·intro j a u w hj hau haw hu hw hne
      dsimp only at hj hu hw
      by_cases hjl:j<out.length
      ·rw[List.getElem?_append_left hjl] at hj
       rw[List.take_append_of_le_length (by omega)] at hu hw
       exact hpe j a u w hj hau haw hu hw hne
      ·have hje:j=out.length:=by
        have:=(List.getElem?_eq_some_iff.1 hj).1
        simp at this;omega
       subst hje
       have hav:a=v:=by
        rw[List.getElem?_append_right (by omega)] at hj
        simp at hj;omega
       subst hav
       rw[List.take_of_length_le (by simp)] at hu hw
       have hin:∀x:Nat,adj g a x→(x:Int)∉out++[(a:Int)]→(x:Int)∈lft g a gone:=λx hx hxo=>by
        have hxn:=hg.lt hvn hx
        refine List.mem_filter.2 ⟨hx,?_⟩
        rw[Int.toNat_natCast]
        cases hc:gone.getD x false
        ·rfl
        ·exact absurd (List.mem_append.2 (.inl ((hm x hxn).1 hc))) hxo
       exact clq_pairs hg (lft_rng hg hvn gone) hq u w (hin u hau hu) (hin w haw hw) hne
    ·obtain rfl:v=g.length:=by omega
     simp only[beq_self_eq_true,cond_true]
     exact⟨_,rfl,.inr ⟨_,rfl⟩⟩
  ·have e1:decide ((out.length:Int)<(g.length:Int))=false:=decide_eq_false (by omega)
   rw[e1,cond_false]
   exact⟨_,rfl,.inl ⟨_,rfl,⟨by omega,hrg,hnd⟩,hpe⟩⟩
 ·refine⟨by simp,by simp,by simp,by simp,λv hv=> ?_,λj a u w hj=>by simp at hj⟩
  simp[List.getD_eq_getElem?_getD,List.getElem?_replicate,hv]
 ·rintro _ (⟨l,rfl,h1,h2⟩|⟨l,rfl⟩)
  ·exact⟨_,rfl,λ_=>⟨h1,h2⟩⟩
  ·exact⟨_,rfl,λh=>by cases h⟩
theorem chordal_few {g:LL}{o l:LI}(hg:GOk g)(ho:OOk g o)(hp:PEOg g o)(hl:GC g l):l.length≤g.length:=by
 classical
 have h16:=hg.n16
 let Bp:Nat→Nat→Prop:=λj w=>o[j]? =some (w:Int)∨∃v:Nat,o[j]? =some (v:Int)∧adj g v w∧(w:Int)∉o.take (j+1)
 let B:Nat→Int:=λj=>mk (((List.range g.length).filter λw=>decide (Bp j w)).map Int.ofNat)
 have hB:∀j w,has (B j) w=decide (w<g.length∧Bp j w):=λj w=>by
  show has (mk _) w=_
  rw[De]
  ·rw[Bool.eq_iff_iff,decide_eq_true_eq,decide_eq_true_eq,List.mem_map]
   constructor
   ·rintro⟨x,hx,e⟩
    have e':(x:Int)=(w:Int):=e
    obtain rfl:x=w:=by omega
    have:=List.mem_filter.1 hx
    exact⟨List.mem_range.1 this.1,of_decide_eq_true this.2⟩
   ·rintro⟨h1,h2⟩
    exact⟨w,List.mem_filter.2 ⟨List.mem_range.2 h1,decide_eq_true h2⟩,rfl⟩
  ·intro z hz
   obtain⟨x,hx,rfl⟩:=List.mem_map.1 hz
   have:=List.mem_range.1 (List.mem_filter.1 hx).1
   exact⟨Int.natCast_nonneg x,by show (x:Int)<32;omega⟩
 have key:=Bx (m:=(List.range g.length).map B) (DI hl.up) (λK hK=>by
  obtain⟨hI,hM⟩:=(hl.mem K).1 hK
  have hne:∃v,has K v=true:=by
   cases hc:has K 0
   ·obtain⟨u,hu,_⟩:=hM.2 0 (by have:=hg.n1;omega) hc
    exact⟨u,hu⟩
   ·exact⟨0,hc⟩
  obtain⟨j,⟨v,hj,hv⟩,hmin⟩:=least_of (P:=λj=>∃v:Nat,o[j]? =some (v:Int)∧has K v=true) (by
   obtain⟨v,hv⟩:=hne
   obtain⟨i,_,e⟩:=place' ho (hI.2 v hv)
   exact⟨i,v,e,hv⟩)
  have hjl:j<g.length:=by
   have:=(List.getElem?_eq_some_iff.1 hj).1
   have:=ho.len
   omega
  have hvn:=hI.2 v hv
  have hlate:∀w,has K w=true→w≠v→(w:Int)∉o.take (j+1):=λw hw hwv hm=>by
   obtain⟨i,hi,hij,e⟩:=mem_take_iff.1 hm
   rcases Nat.lt_or_ge i j with c|c
   ·exact hmin i c ⟨w,by rw[List.getElem?_eq_getElem hi,e],hw⟩
   ·obtain rfl:i=j:=by omega
    rw[List.getElem?_eq_getElem hi,e] at hj
    have:(w:Int)=v:=Option.some.inj hj
    omega
  refine List.mem_map.2 ⟨j,List.mem_range.2 hjl,(VS.ext (VS.mk _) hI.1 (λw _=> ?_))⟩
  show has (B j) w=_
  rw[hB,Bool.eq_iff_iff,decide_eq_true_eq]
  constructor
  ·rintro⟨hwn,hb⟩
   rcases hb with hb|⟨v',hj',ha,hn⟩
   ·rw[hb] at hj
    have:(w:Int)=v:=Option.some.inj hj
    obtain rfl:w=v:=by omega
    exact hv
   ·rw[hj'] at hj
    have:(v':Int)=v:=Option.some.inj hj
    obtain rfl:v'=v:=by omega
    cases hc:has K w
    ·exfalso
     obtain⟨u,hu,hnu⟩:=hM.2 w hwn hc
     have hun:=hI.2 u hu
     have hadj:adj g u w:=by
      by_cases huv:u=v'
      ·rw[huv];exact ha
      ·have h1:=(BD hg hvn).1 (hM.1 v' u hv hu (λe=>huv e.symm))
       exact hp j v' u w hj' h1 ha (hlate u hu huv) hn (λe=>by subst e;rw[hc] at hu;cases hu)
     rw[(BD hg hun).2 hadj] at hnu;cases hnu
    ·rfl
  ·intro hw
   refine⟨hI.2 w hw,?_⟩
   by_cases hwv:w=v
   ·subst hwv;exact .inl hj
   ·exact .inr ⟨v,hj,(BD hg hvn).1 (hM.1 v w hv hw (λe=>hwv e.symm)),hlate w hw hwv⟩)
 simpa using key
theorem sumN_zero_iff {f:Nat→Nat}:∀{n:Nat},BB f n=0↔∀i,i<n→f i=0
 |0=>⟨λ_ i hi=>by omega,λ_=>rfl⟩
 |n+1=>by
  simp only[BB]
  constructor
  ·intro h i hi
   by_cases e:i=n
   ·subst e;omega
   ·exact sumN_zero_iff.1 (show BB f n=0 by omega) i (by omega)
  ·intro h
   have h1:=h n (by omega)
   have h2:=(sumN_zero_iff (f:=f) (n:=n)).2 (λi hi=>h i (by omega))
   omega
theorem S2_zero_iff {n:Nat}{p:Nat→Nat→Bool}:S2 n p=0↔∀u w,u<n→w<n→p u w=false:=by
 unfold S2
 rw[sumN_zero_iff]
 constructor
 ·intro h u w hu hw
  have:=sumN_zero_iff.1 (h u hu) w hw
  unfold bit at this
  cases hc:p u w
  ·rfl
  ·rw[hc] at this;simp at this
 ·intro h u hu
  exact sumN_zero_iff.2 λw hw=>by rw[h u w hu hw];rfl
theorem mis_zero {F:LI}{n:Nat}{S:Int}(hF:FOk F n)(hS:In n S):mis F n S=0↔CQ F S:=by
 unfold mis
 rw[S2_zero_iff]
 constructor
 ·intro h u w hu hw hne
  have hun:=hS.2 u hu;have hwn:=hS.2 w hw
  rcases Nat.lt_or_gt_of_ne hne with c|c
  ·have:=h w u hwn hun
   simpa [hu,hw,c] using this
  ·have:=h u w hun hwn
   have h2:nb F w u=true:=by simpa [hu,hw,c] using this
   exact hF.sym w u hwn h2
 ·intro h u w hu hw
  cases h1:has S u
  ·simp
  ·cases h2:has S w
   ·simp
   ·by_cases hlt:w<u
    ·simp[h w u h2 h1 (by omega)]
    ·simp[hlt]
abbrev Pr :=Int×Int×Int
theorem loop_set {α S ρ β:Type}{step:S→Option (S ⊕ ρ)}{k:ρ→Option β}{s0:S}(xs ys:List α)(hl:xs.length=ys.length)(enc:List α→Int→S)(r:ρ)(h0:enc ys 0=s0)
  (hstep:∀l (i:Nat) (h:i<xs.length),l.length=xs.length→step (enc l i)=some (.inl (enc (l.set i xs[i]) ((i+1:Nat):Int))))
  (hend:step (enc xs xs.length)=some (.inr r)):(Aq step s0).bind k=k r:=by
 refine CT (λi=>enc (xs.take i++ys.drop i) (i:Int)) xs.length r (by simpa using h0) (λi hi=> ?_) ?_
 ·have e:(xs.take i++ys.drop i).set i xs[i]=xs.take (i+1)++ys.drop (i+1):=by
   rw[List.take_succ_eq_append_getElem hi,List.drop_eq_getElem_cons (show i<ys.length by omega),List.set_append_right _ _ (by simp;omega)]
   have e0:i-(xs.take i).length=0:=by rw[List.length_take];omega
   rw[e0,List.set_cons_zero,List.append_assoc];rfl
  rw[hstep _ i hi (by simp;omega),e]
 ·rw[←hend,List.take_length,hl,List.drop_length,List.append_nil]
def tot :LL→Int
 |[]=>0
 |x::xs=>x.length+tot xs
def DH (n:Nat)(F:LI)(v:Nat)(S:Int):LI:=(List.range n).map λu=>ior .u32 (ior .u32 (F.getD u 0) (if u=v then S else 0)) (if has S u then ishl .u32 1 (v:Int) else 0)
theorem joinF_get {n:Nat}{F:LI}{v u:Nat}{S:Int}(hu:u<n):(DH n F v S).getD u 0=ior .u32 (ior .u32 (F.getD u 0) (if u=v then S else 0)) (if has S u then ishl .u32 1 (v:Int) else 0):=by
 unfold DH
 rw[AA (by simpa using hu)];simp
theorem vs_ite {c:Prop}[Decidable c]{a b:Int}(ha:VS a)(hb:VS b):VS (if c then a else b):=by split<;>assumption
theorem Dq {n:Nat}{F:LI}{v u:Nat}{S:Int}(hn:n≤16)(hF:FOk F n)(hS:In n S)(hv:v<n)(hu:u<n)(w:Nat):nb (DH n F v S) u w=(nb F u w||(decide (u=v)&&has S w)||(has S u&&decide (w=v))):=by
 unfold nb
 rw[joinF_get hu,Bo (VS.ior _ _) (vs_ite (VS.ishl _ _) VS.zero),Bo (hF.vs u hu) (vs_ite hS.1 VS.zero)]
 congr 1
 ·congr 1
  by_cases h:u=v
  ·rw[if_pos h,decide_eq_true h];simp
  ·rw[if_neg h,decide_eq_false h,A8];simp
 ·cases hc:has S u
  ·rw[if_neg (by simp),A8];simp
  ·rw[if_pos rfl,Bc (by omega)];simp
theorem joinF_ok {n:Nat}{F:LI}{v:Nat}{S:Int}(hn:n≤16)(hF:FOk F n)(hS:In n S)(hv:v<n)(hSv:has S v=false):FOk (DH n F v S) n:=by
 refine⟨by simp[DH],λu hu=>by rw[joinF_get hu];exact VS.ior _ _,λu w hu h=> ?_,λu hu=> ?_,λu w hu h=> ?_⟩
 ·rw[Dq hn hF hS hv hu] at h
  simp only[Bool.or_eq_true,Bool.and_eq_true,decide_eq_true_eq] at h
  rcases h with(h|h)|h
  ·exact hF.lt u w hu h
  ·exact hS.2 w h.2
  ·omega
 ·rw[Dq hn hF hS hv hu,hF.irr u hu]
  by_cases h:u=v
  ·subst h;simp[hSv]
  ·simp[h]
 ·have hw:w<n:=by
   rw[Dq hn hF hS hv hu] at h
   simp only[Bool.or_eq_true,Bool.and_eq_true,decide_eq_true_eq] at h
   rcases h with(h|h)|h
   ·exact hF.lt u w hu h
   ·exact hS.2 w h.2
   ·omega
  rw[Dq hn hF hS hv hu] at h
  rw[Dq hn hF hS hv hw]
  simp only[Bool.or_eq_true,Bool.and_eq_true,decide_eq_true_eq] at h ⊢
  rcases h with(h|h)|h
  ·exact .inl (.inl (hF.sym u w hu h))
  ·exact .inr ⟨h.2,h.1⟩
  ·exact .inl (.inr ⟨h.2,h.1⟩)
structure PK (n:Nat)(o:LI):Prop where
 len:o.length=n
 rng:∀x∈o,0≤x∧x<n
 nd:o.Nodup
def pl (o:LI)(v:Nat):Nat:=o.idxOf (v:Int)
theorem PK.mem {n:Nat}{o:LI}(h:PK n o){v:Nat}(hv:v<n):(v:Int)∈o:=by
 by_cases hc:(v:Int)∈o
 ·exact hc
 ·have:=Bx (l:=(v:Int)::o) (m:=(List.range n).map Int.ofNat) (List.nodup_cons.2 ⟨hc,h.nd⟩) (λx hx=>by
   have hx':0≤x∧x<n:=by
    rcases List.mem_cons.1 hx with rfl|hx
    ·omega
    ·exact h.rng x hx
   exact List.mem_map.2 ⟨x.toNat,List.mem_range.2 (by omega),by show ((x.toNat:Nat):Int)=x;omega⟩)
  have hl:=h.len
  simp at this;omega
theorem PK.pl_lt {n:Nat}{o:LI}(h:PK n o){v:Nat}(hv:v<n):pl o v<n:=by
 have:=List.idxOf_lt_length_iff.2 (h.mem hv)
 have hl:=h.len
 unfold pl;omega
theorem PK.pl_get {n:Nat}{o:LI}(h:PK n o){v:Nat}(hv:v<n)(hl:pl o v<o.length):o[pl o v]=(v:Int):=by
 unfold pl;exact List.getElem_idxOf _
theorem PK.pl_of {n:Nat}{o:LI}(h:PK n o){i v:Nat}(hi:i<o.length)(e:o[i]=(v:Int)):pl o v=i:=by
 have hv:v<n:=by have:=h.rng _ (List.getElem_mem hi);omega
 have hl:=h.pl_lt hv
 have h2:=h.pl_get hv (by rw[h.len];exact hl)
 have hl':pl o v<o.length:=by rw[h.len];exact hl
 have hnd:=List.pairwise_iff_getElem.1 h.nd
 rcases Nat.lt_trichotomy (pl o v) i with c|c|c
 ·exact absurd (h2.trans e.symm) (hnd _ _ hl' hi c)
 ·exact c
 ·exact absurd (h2.trans e.symm).symm (hnd _ _ hi hl' c)
theorem PK.at {n:Nat}{o:LI}(h:PK n o){i:Nat}(hi:i<o.length):∃v:Nat,o[i]=(v:Int)∧v<n∧pl o v=i:=by
 have:=h.rng _ (List.getElem_mem hi)
 have e:o[i]=((o[i].toNat:Nat):Int):=by omega
 exact⟨o[i].toNat,e,by omega,h.pl_of hi e⟩
structure Ris (n:Nat)(R:Int→Int→Prop)(rk:Int→Nat):Prop where
 up:∀x y,R x y→rk x<rk y
 lt:∀v:Nat,v<n→rk v<n
 tr:∀x y z,R x y→R y z→R x z
structure Ch (n:Nat)(R:Int→Int→Prop)(v:Int)(l:LI):Prop where
 hd:∃t,l=v::t
 pw:l.Pairwise R
 rng:∀x∈l,0≤x∧x<n
 mx:∀t:LI,(v::t).Pairwise R→(∀x∈t,0≤x∧x<n)→t.length+1≤l.length
theorem Ris.nodup {n:Nat}{R:Int→Int→Prop}{rk:Int→Nat}(h:Ris n R rk){l:LI}(hp:l.Pairwise R):l.Nodup:=
 List.Pairwise.imp (fun{x y} hxy e=>by subst e;have:=h.up x x hxy;omega) hp
theorem rng_len {n:Nat}{l:LI}(hd:l.Nodup)(hr:∀x∈l,0≤x∧x<n):l.length≤n:=by
 have:=Bx (m:=(List.range n).map Int.ofNat) hd (λx hx=>by
  have:=hr x hx
  exact List.mem_map.2 ⟨x.toNat,List.mem_range.2 (by omega),by show ((x.toNat:Nat):Int)=x;omega⟩)
 simpa using this
theorem Ch.len {n:Nat}{R:Int→Int→Prop}{rk:Int→Nat}(h:Ris n R rk){v:Int}{l:LI}(hc:Ch n R v l):l.length≤n:=rng_len (h.nodup hc.pw) hc.rng
def Mon (ks ks':List (Option LI)):Prop:=∀(v:Nat) (l:LI),ks[v]? =some (some l)→ks'[v]? =some (some l)
theorem Mon.refl (ks:List (Option LI)):Mon ks ks:=λ_ _ h=>h
theorem CQ_ext {F:LI}{n:Nat}(hn:n≤16)(hF:FOk F n):∀(k:Nat) (K:Int),32-(Al K).length≤k→In n K→CQ F K→∃K',In n K'∧MX F n K'∧∀w,has K w=true→has K' w=true:=by
 intro k
 induction k with
 |zero=>
  intro K hk hI hC
  have:(Al K).length≤n:=rng_len (List.Pairwise.imp (λh e=>by omega) (Bt K)) (λx hx=>by
   obtain⟨w,_,h2,rfl⟩:=mem_elems.1 hx
   have:=hI.2 w h2;omega)
  omega
 |succ k ih=>
  intro K hk hI hC
  by_cases hM:MX F n K
  ·exact⟨K,hI,hM,λw h=>h⟩
  ·have:∃w,w<n∧has K w=false∧∀u,has K u=true→nb F u w=true:=by
    refine Classical.byContradiction λhc=>hM ⟨hC,λw hw hk=> ?_⟩
    refine Classical.byContradiction λhc2=>hc ⟨w,hw,hk,λu hu=> ?_⟩
    cases h:nb F u w
    ·exact absurd ⟨u,hu,h⟩ hc2
    ·rfl
   obtain⟨w,hw,hKw,hall⟩:=this
   have hh:∀u,has (ior .u32 K (ishl .u32 1 (w:Int))) u=(has K u||decide (u=w)):=λu=>by rw[Bo hI.1 (VS.ishl _ _),Bc (by omega)]
   obtain⟨K',h1,h2,h3⟩:=ih (ior .u32 K (ishl .u32 1 (w:Int))) (by
    have hnd:((w:Int)::Al K).Nodup:=List.nodup_cons.2 ⟨(λh=>by rw[AE hI.1,hKw] at h;cases h),List.Pairwise.imp (λh e=>by omega) (Bt K)⟩
    have:=Bx (m:=Al (ior .u32 K (ishl .u32 1 (w:Int)))) hnd (λx hx=>by
     rcases List.mem_cons.1 hx with rfl|hx
     ·rw[AE (VS.ior _ _),hh];simp
     ·obtain⟨u,_,h2,rfl⟩:=mem_elems.1 hx
      rw[AE (VS.ior _ _),hh,h2];rfl)
    simp only[List.length_cons] at this
    omega) ⟨VS.ior _ _,λu hu=>by
     rw[hh,Bool.or_eq_true,decide_eq_true_eq] at hu
     rcases hu with hu|rfl
     ·exact hI.2 u hu
     ·exact hw⟩ (λu v hu hv huv=>by
     rw[hh,Bool.or_eq_true,decide_eq_true_eq] at hu hv
     rcases hu with hu|rfl
     ·rcases hv with hv|rfl
      ·exact hC u v hu hv huv
      ·exact hall u hu
     ·rcases hv with hv|rfl
      ·exact hF.sym v u (hI.2 v hv) (hall v hv)
      ·exact absurd rfl huv)
   exact⟨K',h1,h2,λu hu=>h3 u (by rw[hh,hu];rfl)⟩
structure CL (g:LL)(x:LI):Prop where
 nd:x.Nodup
 rng:∀z∈x,0≤z∧z<g.length
 cq:∀u w:Nat,(u:Int)∈x→(w:Int)∈x→u≠w→adj g u w
def Cn (ad:Nat→Nat→Prop)(S:Nat→Prop)(x y:Nat):Prop:=∀T:Nat→Prop,T x→(∀a b,T a→ad a b→S b→T b)→T y
section
variable {ad : Nat → Nat → Prop} {S S' : Nat → Prop} {x y z : Nat}
theorem Cn.refl :Cn ad S x x:=λ_ h _=>h
theorem Cn.step (h:Cn ad S x y)(ha:ad y z)(hz:S z):Cn ad S x z:=λT h1 h2=>h2 _ _ (h T h1 h2) ha hz
theorem Cn.trans (h:Cn ad S x y)(h':Cn ad S y z):Cn ad S x z:=λT h1 h2=>h' T (h T h1 h2) h2
theorem Cn.mono (hs:∀w,S w→S' w)(h:Cn ad S x y):Cn ad S' x y:=λT h1 h2=>h T h1 (λa b p q r=>h2 a b p q (hs _ r))
theorem Cn.mem (h:Cn ad S x y)(hx:S x):S y:=h S hx (λ_ _ _ _ h=>h)
theorem Cn.sym (hs:∀a b,ad a b→ad b a)(hx:S x)(h:Cn ad S x y):Cn ad S y x:=(h (λw=>S w∧Cn ad S w x) ⟨hx,Cn.refl⟩ (λa b ⟨p1,p2⟩ q r=>⟨r,(Cn.refl.step (hs _ _ q) p1).trans p2⟩)).2
end
abbrev Ad (F:LI)(a b:Nat):Prop:=nb F a b=true
abbrev El (s:Int)(x:Nat):Prop:=has s x=true
structure Parts (F:LI)(W:Nat→Prop)(l:LI):Prop where
 vs:∀s∈l,VS s
 ne:∀s∈l,∃v,El s v
 sub:∀s∈l,∀x,El s x→W x
 cn:∀s∈l,∀x y,El s x→(El s y↔Cn (Ad F) W x y)
 all:∀x,W x→∃s∈l,El s x
 dis:l.Pairwise λs t=>∀x,¬(El s x∧El t x)
section
variable {F : LI} {n : Nat} (hn : n ≤ 16) (hF : FOk F n)
include hn hF
end
end Go.Sx

namespace Go.Sx
def Way (ad:Nat→Nat→Prop):List Nat→Prop
 |[]=>True
 |[_]=>True
 |a::b::l=>ad a b∧Way ad (b::l)
theorem Way.tail {ad:Nat→Nat→Prop}{a:Nat}{l:List Nat}(h:Way ad (a::l)):Way ad l:=by
 cases l with
 |nil=>trivial
 |cons b l=>exact h.2
theorem way_get {ad:Nat→Nat→Prop}:∀{l:List Nat},Way ad l↔∀i (h:i+1<l.length),ad l[i] l[i+1]
 |[]=>by simp[Way]
 |[_]=>by simp[Way]
 |a::b::l=>by
  constructor
  ·rintro⟨h1,h2⟩ i hi
   cases i with
   |zero=>exact h1
   |succ i=>exact(way_get.1 h2) i (by simpa using hi)
  ·intro h
   exact⟨h 0 (by simp),way_get.2 (λi hi=>h (i+1) (by simpa using hi))⟩
structure Wy (ad:Nat→Nat→Prop)(H:Nat→Prop)(x y:Nat)(l:List Nat):Prop where
 len:2≤l.length
 fst:l[0]? =some x
 lst:l[l.length-1]? =some y
 way:Way ad l
 mid:∀i (h:i<l.length),0<i→i+1<l.length→H l[i]
theorem wy_ex {ad:Nat→Nat→Prop}{H:Nat→Prop}{x a y:Nat}(hx:ad x a)(ha:H a){b:Nat}(hab:Cn ad H a b)(hb:ad b y):∃l,Wy ad H x y l:=by
 have key:∃l:List Nat,2≤l.length∧l[0]? =some x∧l[l.length-1]? =some b∧Way ad l∧(∀i (h:i<l.length),0<i→H l[i]):=by
  refine hab (λz=>∃l:List Nat,2≤l.length∧l[0]? =some x∧l[l.length-1]? =some z∧Way ad l∧(∀i (h:i<l.length),0<i→H l[i])) ⟨[x,a],by simp,rfl,rfl,⟨hx,trivial⟩,λi hi h0=> ?_⟩ ?_
  ·simp at hi
   obtain rfl:i=1:=by omega
   exact ha
  ·rintro p q ⟨l,h1,h2,h3,h4,h5⟩ hpq hq
   refine⟨l++[q],by simp;omega,?_,by simp,?_,λi hi h0=> ?_⟩
   ·rw[List.getElem?_append_left (by omega)];exact h2
   ·rw[way_get]
    intro i hi
    simp at hi
    by_cases hil:i+1<l.length
    ·rw[List.getElem_append_left (by omega),List.getElem_append_left hil]
     exact way_get.1 h4 i hil
    ·have hi1:i=l.length-1:=by omega
     rw[List.getElem_append_left (by omega),List.getElem_append_right (by omega)]
     simp only[List.getElem_singleton]
     rw[List.getElem?_eq_getElem (by omega)] at h3
     have:l[i]=p:=by
      have:=Option.some.inj h3
      subst hi1;exact this
     rw[this];exact hpq
   ·by_cases hil:i<l.length
    ·rw[List.getElem_append_left hil];exact h5 i hil h0
    ·rw[List.getElem_append_right (by omega)];simpa using hq
 obtain⟨l,h1,h2,h3,h4,h5⟩:=key
 refine⟨l++[y],by simp;omega,?_,by simp,?_,λi hi h0 h'=> ?_⟩
 ·rw[List.getElem?_append_left (by omega)];exact h2
 ·rw[way_get]
  intro i hi
  simp at hi
  by_cases hil:i+1<l.length
  ·rw[List.getElem_append_left (by omega),List.getElem_append_left hil]
   exact way_get.1 h4 i hil
  ·have hi1:i=l.length-1:=by omega
   rw[List.getElem_append_left (by omega),List.getElem_append_right (by omega)]
   simp only[List.getElem_singleton]
   rw[List.getElem?_eq_getElem (by omega)] at h3
   have:l[i]=b:=by
    have:=Option.some.inj h3
    subst hi1;exact this
   rw[this];exact hb
 ·simp at h'
  rw[List.getElem_append_left (by omega)]
  exact h5 i (by omega) h0
theorem wy_min {ad:Nat→Nat→Prop}{H:Nat→Prop}{x y:Nat}(h:∃l,Wy ad H x y l):∃l,Wy ad H x y l∧∀l',Wy ad H x y l'→l.length≤l'.length:=by
 obtain⟨l,hl⟩:=h
 have:∀n (l:List Nat),l.length≤n→Wy ad H x y l→∃l,Wy ad H x y l∧∀l',Wy ad H x y l'→l.length≤l'.length:=by
  intro n
  induction n with
  |zero=>intro l h1 h2;have:=h2.len;omega
  |succ n ih=>
   intro l h1 h2
   by_cases hm:∀l',Wy ad H x y l'→l.length≤l'.length
   ·exact⟨l,h2,hm⟩
   ·obtain⟨l',hl'⟩:=Classical.not_forall.1 hm
    rw[Classical.not_imp] at hl'
    exact ih l' (by omega) hl'.1
 exact this l.length l (Nat.le_refl _) hl
theorem wy_cut {ad:Nat→Nat→Prop}{H:Nat→Prop}{x y:Nat}{l:List Nat}(h:Wy ad H x y l)(hmin:∀l',Wy ad H x y l'→l.length≤l'.length){i j:Nat}(hij:i+1<j)(hj:j<l.length):¬ad (l[i]'(by omega)) l[j]:=by
 intro hadj
 have hlen:(l.take (i+1)++l.drop j).length=i+1+(l.length-j):=by simp;omega
 have hget1:∀k (hk:k<i+1) (hk':k<(l.take (i+1)++l.drop j).length),(l.take (i+1)++l.drop j)[k]=l[k]'(by omega):=λk hk hk'=>by
  rw[List.getElem_append_left (by simp;omega),List.getElem_take]
 have hget2:∀k (hk:i+1≤k) (hk':k<(l.take (i+1)++l.drop j).length),(l.take (i+1)++l.drop j)[k]=l[j+(k-(i+1))]'(by rw[hlen] at hk';omega):=λk hk hk'=>by
  have ht:(l.take (i+1)).length=i+1:=by simp;omega
  rw[List.getElem_append_right (by omega),List.getElem_drop]
  congr 1;omega
 have:=hmin (l.take (i+1)++l.drop j) ⟨by rw[hlen];omega,?_,?_,?_,λk hk h0 h1=> ?_⟩
 ·rw[hlen] at this;omega
 ·rw[List.getElem?_eq_getElem (by rw[hlen];omega),hget1 0 (by omega),←List.getElem?_eq_getElem (by omega)]
  exact h.fst
 ·rw[List.getElem?_eq_getElem (by rw[hlen];omega),hget2 _ (by rw[hlen];omega),←List.getElem?_eq_getElem]
  have e:j+((l.take (i+1)++l.drop j).length-1-(i+1))=l.length-1:=by rw[hlen];omega
  rw[e];exact h.lst
 ·rw[way_get]
  intro k hk
  have hk2:=hk
  rw[hlen] at hk2
  by_cases h1:k+1<i+1
  ·rw[hget1 k (by omega),hget1 (k+1) h1]
   exact way_get.1 h.way k (by omega)
  ·by_cases h2:k<i+1
   ·obtain rfl:k=i:=by omega
    rw[hget1 k h2,hget2 (k+1) (by omega)]
    simpa using hadj
   ·rw[hget2 k (by omega),hget2 (k+1) (by omega)]
    have:=way_get.1 h.way (j+(k-(i+1))) (by omega)
    have e:j+(k-(i+1))+1=j+(k+1-(i+1)):=by omega
    simpa only[e] using this
 ·rw[hlen] at h1
  by_cases h2:k<i+1
  ·rw[hget1 k h2]
   exact h.mid k (by omega) h0 (by omega)
  ·rw[hget2 k (by omega)]
   exact h.mid _ (by omega) (by omega) (by omega)
structure Hole (ad:Nat→Nat→Prop)(c:List Nat):Prop where
 len:4≤c.length
 nd:c.Nodup
 step:∀i (h:i+1<c.length),ad c[i] c[i+1]
 close:ad (c[c.length-1]'(by omega)) (c[0]'(by omega))
 no:∀i j (_:i+1<j) (hj:j<c.length),¬(i=0∧j=c.length-1)→¬ad (c[i]'(by omega)) c[j]
def NoHole (ad:Nat→Nat→Prop)(X:Nat→Prop):Prop:=∀c,Hole ad c→¬∀x∈c,X x
section
variable {ad : Nat → Nat → Prop} (hs : ∀ a b, ad a b → ad b a) (hi : ∀ a, ¬ ad a a)
include hs hi
theorem DN {H:Nat→Prop}{v x y:Nat}(hvx:ad v x)(hvy:ad v y)(hxy:x≠y)(hno:¬ad x y)(hH:∀z,H z→z≠v∧¬ad v z){a b:Nat}(hxa:ad x a)(ha:H a)(hab:Cn ad H a b)(hby:ad b y):
  ∃c,Hole ad c∧∀z∈c,z=v∨z=x∨z=y∨H z:=by
 obtain⟨l,hl,hmin⟩:=wy_min (wy_ex hxa ha hab hby)
 have hlen:=hl.len
 have e0:l[0]'(by omega)=x:=by
  have:=hl.fst;rw[List.getElem?_eq_getElem (by omega)] at this;exact Option.some.inj this
 have e1:l[l.length-1]'(by omega)=y:=by
  have:=hl.lst;rw[List.getElem?_eq_getElem (by omega)] at this;exact Option.some.inj this
 have h3:3≤l.length:=by
  apply Classical.byContradiction
  intro h
  have h2:l.length=2:=by omega
  have:=way_get.1 hl.way 0 (by omega)
  rw[e0] at this
  have e:l[0+1]'(by omega)=y:=by rw[←e1];congr 1;omega
  rw[e] at this
  exact hno this
 have hmem:∀i (h:i<l.length),l[i]=x∨l[i]=y∨H l[i]:=λi h=>by
  by_cases h0:i=0
  ·subst h0;exact .inl e0
  ·by_cases h1:i+1=l.length
   ·right;left
    rw[←e1];congr 1;omega
   ·exact .inr (.inr (hl.mid i h (by omega) (by omega)))
 have hxH:¬H x:=λh=>(hH x h).2 hvx
 have hyH:¬H y:=λh=>(hH y h).2 hvy
 have hxv:x≠v:=λe=>hi v (by rw[e] at hvx;exact hvx)
 have hyv:y≠v:=λe=>hi v (by rw[e] at hvy;exact hvy)
 refine⟨v::l,⟨by simp;omega,?_,λi h=> ?_,?_,λi j hij hj hx=> ?_⟩,λz hz=> ?_⟩
 ·rw[List.nodup_cons]
  refine⟨λhv=> ?_,?_⟩
  ·obtain⟨i,h,e⟩:=List.getElem_of_mem hv
   rcases hmem i h with q|q|q
   ·exact hxv (q.symm.trans e)
   ·exact hyv (q.symm.trans e)
   ·rw[e] at q;exact(hH v q).1 rfl
  ·unfold List.Nodup
   rw[List.pairwise_iff_getElem]
   intro i j h1 h2 hij he
   by_cases hj1:j=i+1
   ·subst hj1
    have:=way_get.1 hl.way i h2
    rw[←he] at this
    exact hi _ this
   ·by_cases h0:i=0
    ·subst h0
     rw[e0] at he
     by_cases hjl:j+1=l.length
     ·have:l[j]=y:=by rw[←e1];congr 1;omega
      exact hxy (he.trans this)
     ·have:=hl.mid j h2 (by omega) (by omega)
      rw[←he] at this;exact hxH this
    ·have h:=way_get.1 hl.way (i-1) (by omega)
     have e:l[i-1+1]'(by omega)=l[j]:=by rw[←he];congr 1;omega
     rw[e] at h
     exact wy_cut hl hmin (i:=i-1) (j:=j) (by omega) h2 h
 ·cases i with
  |zero=>
   show ad v (l[0]'(by simp at h;omega))
   rw[e0];exact hvx
  |succ i=>
   show ad (l[i]'(by simp at h;omega)) (l[i+1]'(by simp at h;omega))
   exact way_get.1 hl.way i (by simpa using h)
 ·have e:(v::l)[(v::l).length-1]'(by simp)=y:=by
   rw[List.getElem_cons,dif_neg (by rw[List.length_cons];omega),←e1]
   congr 1
  rw[e]
  exact hs _ _ hvy
 ·have hj':j<l.length+1:=by simpa using hj
  obtain⟨j,rfl⟩:∃k,j=k+1:=⟨j-1,by omega⟩
  cases i with
  |zero=>
   show¬ad v (l[j]'(by omega))
   have:H (l[j]'(by omega)):=hl.mid j (by omega) (by omega) (by
    apply Classical.byContradiction
    intro h
    apply hx
    refine⟨rfl,?_⟩
    simp;omega)
   exact(hH _ this).2
  |succ i=>
   show¬ad (l[i]'(by omega)) (l[j]'(by omega))
   exact wy_cut hl hmin (by omega) (by omega)
 ·rcases List.mem_cons.1 hz with h|h
  ·exact .inl h
  ·obtain⟨i,hil,rfl⟩:=List.getElem_of_mem h
   exact .inr (hmem i hil)
end
end Go.Sx

namespace Go.Sx
def ch (cs:LI)(i v:Nat):Bool:=has (cs.getD i 0) v
def Opn (cs:LI)(p:Int)(v:Nat):Prop:=(∃i,i<cs.length∧has p i=true∧ch cs i v=true)∧∃i,i<cs.length∧has p i=false∧ch cs i v=true
def Ft (cs:LI)(p:Int)(k:Nat):Prop:=k<cs.length∧has p k=false∧∀v,Opn cs p v→ch cs k v=true
inductive Ends (cs:LI):Int→Prop
 |all {p:Int}:(∀i,i<cs.length→has p i=true)→Ends cs p
 |go {p:Int} {k:Nat}:Ft cs p k→Ends cs (ior .u32 p (ishl .u32 1 (k:Int)))→Ends cs p
def Goes (cs:LI):Int→LI→Prop
 |p,[]=>∀i,i<cs.length→has p i=true
 |p,x::l=>∃k:Nat,x=(k:Int)∧Ft cs p k∧Goes cs (ior .u32 p (ishl .u32 1 (k:Int))) l
theorem Goes.ends {cs:LI}:∀{l:LI} {p:Int},Goes cs p l→Ends cs p
 |[],_,h=> .all h
 |_::_,_,⟨_,_,h1,h2⟩=> .go h1 h2.ends
theorem firstOf_eq (n:Nat):D.A (n:Int)=some (full n):=by
 unfold D.A full
 have:decide ((n:Int)<0)=false:=by simp
 rw[this,cond_false]
theorem CW {f:Int→Int}(v:Nat):∀(xs:LI) (a:Int),VS a→(∀x∈xs,VS (f x))→VS (xs.foldl (λa x=>ior .u32 a (f x)) a)∧(has (xs.foldl (λa x=>ior .u32 a (f x)) a) v=true↔has a v=true∨∃x∈xs,has (f x) v=true)
 |[],a,ha,_=>⟨ha,by simp⟩
 |x::xs,a,ha,hf=>by
  have hx:=hf x (by simp)
  obtain⟨h1,h2⟩:=CW v xs (ior .u32 a (f x)) (VS.ior _ _) (λy hy=>hf y (by simp[hy]))
  refine⟨h1,?_⟩
  rw[List.foldl_cons,h2,Bo ha hx,Bool.or_eq_true]
  simp only[List.mem_cons,exists_eq_or_imp,or_assoc]
section
variable {cs : LI} (hvs : ∀ s ∈ cs, VS s) (hm : cs.length ≤ 16)
include hvs hm
theorem clUnion_ok {p:Int}(hp:In cs.length p):∃u,D.J0 cs p=some u∧VS u∧∀v,has u v=true↔∃i,i<cs.length∧has p i=true∧ch cs i v=true:=by
 have hel:∀x∈Al p,∃i:Nat,x=(i:Int)∧i<cs.length∧has p i=true:=λx hx=>by
  obtain⟨i,_,h2,rfl⟩:=mem_elems.1 hx
  exact⟨i,rfl,hp.2 i h2,h2⟩
 have hvx:∀x∈Al p,VS (cs.getD x.toNat 0):=λx hx=>by
  obtain⟨i,rfl,hi,_⟩:=hel x hx
  rw[Int.toNat_natCast,AA hi]
  exact hvs _ (List.getElem_mem hi)
 have hlen:=Bn p
 have hl:=D9 (step:=D.b1 cs (Al p)) (Al p) (λa i=>(a,i)) (λa x=>ior .u32 a (cs.getD x.toNat 0)) (λa=>a) (λ_=>True) 0 trivial
  (λs i hi _=>by
   refine⟨?_,trivial⟩
   obtain⟨k,e,hk,_⟩:=hel _ (List.getElem_mem hi)
   unfold D.b1
   simp only[dlt hi,cond_true,AB hi,bs,e,AB hk,Int.toNat_natCast,wq i,AA hk])
  (λs _=>by unfold D.b1;simp only[Br,cond_false])
 refine⟨_,?_,(CW 0 (Al p) 0 VS.zero hvx).1,λv=> ?_⟩
 ·unfold D.J0
  rw[Cg p hp.1,bs]
  exact hl.1
 ·rw[(CW v (Al p) 0 VS.zero hvx).2,A8]
  constructor
  ·rintro(h|⟨x,hx,h⟩)
   ·cases h
   ·obtain⟨i,rfl,hi,hpi⟩:=hel x hx
    exact⟨i,hi,hpi,by simpa [ch] using h⟩
  ·rintro⟨i,hi,hpi,h⟩
   exact .inr ⟨(i:Int),(AE hp.1).2 hpi,by simpa [ch] using h⟩
theorem EB {p:Int}(hp:In cs.length p):p=full cs.length↔∀i,i<cs.length→has p i=true:=by
 constructor
 ·rintro rfl i hi
  rw[BA (by omega)];exact decide_eq_true hi
 ·intro h
  refine VS.ext hp.1 (CS _) (λv _=> ?_)
  rw[BA (by omega)]
  by_cases hv:v<cs.length
  ·rw[h v hv];simp[hv]
  ·have:has p v=false:=by
    cases hh:has p v
    ·rfl
    ·exact absurd (hp.2 v hh) hv
   rw[this];simp[hv]
theorem Ft.in {p:Int}{k:Nat}(hp:In cs.length p)(h:Ft cs p k):In cs.length (ior .u32 p (ishl .u32 1 (k:Int)))∧∀v,has (ior .u32 p (ishl .u32 1 (k:Int))) v=(has p v||decide (v=k)):=by
 have hk:=h.1
 have he:∀v,has (ior .u32 p (ishl .u32 1 (k:Int))) v=(has p v||decide (v=k)):=λv=>by
  rw[Bo hp.1 (VS.ishl _ _),Bc (by omega)]
 refine⟨⟨VS.ior _ _,λv hv=> ?_⟩,he⟩
 rw[he,Bool.or_eq_true,decide_eq_true_eq] at hv
 rcases hv with hv|rfl
 ·exact hp.2 v hv
 ·exact hk
theorem clGrow_ok :∀(d fuel:Nat) (p:Int),d≤1000→In cs.length p→(Al (iandNot .u32 (full cs.length) p)).length≤d→d<fuel→∃r,D.g fuel cs p=some r∧(r=none→¬Ends cs p)∧∀l,r=some l→Goes cs p l∧l.length≤d:=by
 intro d
 induction d with
 |zero=>
  intro fuel p hd32 hp hd hf
  obtain⟨f,rfl⟩:∃f,fuel=f+1:=⟨fuel-1,by omega⟩
  have:p=full cs.length:=by
   rw[EB hvs hm hp]
   intro i hi
   cases hh:has p i
   ·have:(i:Int)∈Al (iandNot .u32 (full cs.length) p):=(AE (VS.iandNot _ _)).2 (by rw[AU (CS _) hp.1,BA (by omega),hh];simp[hi])
    have:=List.length_pos_of_mem this
    omega
   ·rfl
  refine⟨some [],?_,by simp,λl hl=> ?_⟩
  ·unfold D.g
   rw[firstOf_eq,bs,this]
   simp
  ·obtain rfl:=Option.some.inj hl
   exact⟨(EB hvs hm hp).1 this,by simp⟩
 |succ d ih=>
  intro fuel p hd32 hp hd hf
  obtain⟨f,rfl⟩:∃f,fuel=f+1:=⟨fuel-1,by omega⟩
  unfold D.g
  rw[firstOf_eq,bs]
  by_cases hall:p=full cs.length
  ·have:(p==full cs.length)=true:=by simpa using hall
   rw[this,cond_true]
   refine⟨_,rfl,by simp,λl hl=> ?_⟩
   obtain rfl:=Option.some.inj hl
   exact⟨(EB hvs hm hp).1 hall,by simp⟩
  ·have:(p==full cs.length)=false:=by simpa using hall
   rw[this,cond_false]
   have hfv:=CS cs.length
   have hq:In cs.length (iandNot .u32 (full cs.length) p):=⟨VS.iandNot _ _,λv hv=>by
    rw[AU hfv hp.1,BA (by omega),Bool.and_eq_true,decide_eq_true_eq] at hv
    exact hv.1⟩
   have hqh:∀i,i<cs.length→(has (iandNot .u32 (full cs.length) p) i=true↔has p i=false):=λi hi=>by
    rw[AU hfv hp.1,BA (by omega)];simp[hi]
   obtain⟨a,e1,va,ha⟩:=clUnion_ok hvs hm hp
   obtain⟨b,e2,vb,hb⟩:=clUnion_ok hvs hm hq
   rw[e1,bs,e2,bs,Cg _ hq.1,bs]
   have hopn:∀v,has (iand .u32 a b) v=true↔Opn cs p v:=λv=>by
    rw[Ck va vb,Bool.and_eq_true,ha,hb]
    unfold Opn
    refine and_congr Iff.rfl ⟨?_,?_⟩
    ·rintro⟨i,h1,h2,h3⟩;exact⟨i,h1,(hqh i h1).1 h2,h3⟩
    ·rintro⟨i,h1,h2,h3⟩;exact⟨i,h1,(hqh i h1).2 h2,h3⟩
   generalize hus:Al (iandNot .u32 (full cs.length) p)=us at hd ⊢
   have hmem:∀x,x∈us↔∃i:Nat,x=(i:Int)∧i<cs.length∧has p i=false:=λx=>by
    rw[←hus,mem_elems]
    constructor
    ·rintro⟨i,_,h2,rfl⟩;exact⟨i,rfl,hq.2 i h2,(hqh i (hq.2 i h2)).1 h2⟩
    ·rintro⟨i,rfl,h1,h2⟩;exact⟨i,by omega,(hqh i h1).2 h2,rfl⟩
   have hul:us.length≤32:=by rw[←hus];exact Bn _
   have key:∀(m i:Nat),i+m=us.length→(∀j (hj:j<us.length),j<i→∀k:Nat,us[j]=(k:Int)→Ft cs p k→¬Ends cs (ior .u32 p (ishl .u32 1 (k:Int))))→
     ∃r,Aq (D.I (D.g f cs) cs (iand .u32 a b) p us) (i:Int)=some r∧(r=none→¬Ends cs p)∧∀l,r=some l→Goes cs p l∧l.length≤d+1:=by
    intro m
    induction m with
    |zero=>
     intro i hi hno
     obtain rfl:i=us.length:=by omega
     refine⟨none,AQ (by unfold D.I;simp only[Br,cond_false]),λ_ he=> ?_,by simp⟩
     cases he with
     |all h=>exact hall ((EB hvs hm hp).2 h)
     | @go _ k h1 h2=>
      obtain⟨j,hj,e⟩:=List.getElem_of_mem ((hmem _).2 ⟨k,rfl,h1.1,h1.2.1⟩)
      exact hno j hj hj k e h1 h2
    |succ m ihm=>
     intro i hi hno
     have hil:i<us.length:=by omega
     obtain⟨k,ek,hk,hpk⟩:=(hmem _).1 (List.getElem_mem hil)
     have vk:VS (cs.getD k 0):=by rw[AA hk];exact hvs _ (List.getElem_mem hk)
     have hnext:(¬Ft cs p k∨¬Ends cs (ior .u32 p (ishl .u32 1 (k:Int))))→∃r,Aq (D.I (D.g f cs) cs (iand .u32 a b) p us) ((i+1:Nat):Int)=some r∧(r=none→¬Ends cs p)∧∀l,r=some l→Goes cs p l∧l.length≤d+1:=λhh=>
      ihm (i+1) (by omega) (λj hj hji k' e' hF hE=>by
       by_cases hji':j<i
       ·exact hno j hj hji' k' e' hF hE
       ·obtain rfl:j=i:=by omega
        have:k'=k:=by rw[e'] at ek;omega
        subst this
        exact hh.elim (λh=>h hF) (λh=>h hE))
     have hstep0:D.I (D.g f cs) cs (iand .u32 a b) p us (i:Int)=cond (iandNot .u32 (iand .u32 a b) (cs.getD k 0) !=0) (some (.inl ((i+1:Nat):Int))) ((D.g f cs (ior .u32 p (ishl .u32 1 (k:Int)))).bind λr=>D.f1 (k:Int) (i:Int) r):=by
      unfold D.I
      simp only[dlt hil,cond_true,AB hil,bs,ek,AB hk,BM,wq i,AA hk]
     by_cases hfit:∀v,Opn cs p v→ch cs k v=true
     ·have hF:Ft cs p k:=⟨hk,hpk,hfit⟩
      have hz:(iandNot .u32 (iand .u32 a b) (cs.getD k 0) !=0)=false:=by
       have:iandNot .u32 (iand .u32 a b) (cs.getD k 0)=0:=by
        rw[VS.eq_zero (VS.iandNot _ _)]
        intro v _
        rw[AU (VS.iand _ _) vk]
        by_cases ho:Opn cs p v
        ·have:=hfit v ho
         unfold ch at this
         rw[this];simp
        ·have:has (iand .u32 a b) v=false:=by
          cases hh:has (iand .u32 a b) v
          ·rfl
          ·exact absurd ((hopn v).1 hh) ho
         rw[this];rfl
       simpa using this
      obtain⟨hin,hhas⟩:=Ft.in hvs hm hp hF
      have hdd:(Al (iandNot .u32 (full cs.length) (ior .u32 p (ishl .u32 1 (k:Int))))).length≤d:=by
       have h1:∀x,x∈(k:Int)::Al (iandNot .u32 (full cs.length) (ior .u32 p (ishl .u32 1 (k:Int))))→x∈us:=λx hx=>by
        rcases List.mem_cons.1 hx with rfl|hx
        ·exact(hmem _).2 ⟨k,rfl,hk,hpk⟩
        ·obtain⟨w,_,h2,rfl⟩:=mem_elems.1 hx
         rw[AU hfv (VS.ior _ _),BA (by omega),hhas] at h2
         simp at h2
         exact(hmem _).2 ⟨w,rfl,h2.1,h2.2.1⟩
       have h2:((k:Int)::Al (iandNot .u32 (full cs.length) (ior .u32 p (ishl .u32 1 (k:Int))))).Nodup:=by
        refine List.nodup_cons.2 ⟨λhx=> ?_,List.Pairwise.imp (λh e=>by omega) (Bt _)⟩
        rw[AE (VS.iandNot _ _),AU hfv (VS.ior _ _),hhas] at hx
        simp at hx
       have:=Bx h2 h1
       simp at this
       omega
      obtain⟨r,e,hr1,hr2⟩:=ih f _ (by omega) hin hdd (by omega)
      rw[hz,cond_false,e,bs] at hstep0
      cases r with
      |none=>
       rw[Bi (s':=((i+1:Nat):Int)) (by rw[hstep0];unfold D.f1;rw[wq i])]
       exact hnext (.inr (hr1 rfl))
      |some l=>
       obtain⟨hg,hgl⟩:=hr2 l rfl
       refine⟨some ((k:Int)::l),AQ (by rw[hstep0];show ((AP [(k:Int)] l).bind λl=>some (Sum.inr (α:=Int) (some l)))=_;rw[Bm (by simp;omega)];rfl),by simp,λl' hl'=> ?_⟩
       obtain rfl:=Option.some.inj hl'
       exact⟨⟨k,rfl,hF,hg⟩,by simp;omega⟩
     ·have hz:(iandNot .u32 (iand .u32 a b) (cs.getD k 0) !=0)=true:=by
       rw[bne_iff_ne]
       intro h0
       apply hfit
       intro v hv
       have h1:=(VS.eq_zero (VS.iandNot _ _)).1 h0
       unfold ch
       have hv32:v<32:=by
        by_cases h:v<32
        ·exact h
        ·have:=Dn (VS.iand a b) (show 32≤v by omega)
         rw[(hopn v).2 hv] at this;cases this
       have h2:=h1 v hv32
       rw[AU (VS.iand _ _) vk,(hopn v).2 hv] at h2
       simpa using h2
      rw[hz,cond_true] at hstep0
      rw[Bi hstep0]
      exact hnext (.inl (λh=>hfit h.2.2))
   exact key us.length 0 (by omega) (λj _ h=>by omega)
end
end Go.Sx

namespace Go.Sx
theorem Goes.mid {cs:LI}{v:Nat}:∀{l1:LI} {p:Int} {x:Nat} {l2:LI},cs.length≤16→In cs.length p→Goes cs p (l1++(x:Int)::l2)→((∃i,i<cs.length∧has p i=true∧ch cs i v=true)∨∃y:Nat,(y:Int)∈l1∧ch cs y v=true)→(∃z:Nat,(z:Int)∈l2∧ch cs z v=true)→ch cs x v=true
 |[],p,x,l2,hm,hp,⟨k,e,hF,hG⟩,h1,⟨z,hz,hzv⟩=>by
  obtain rfl:k=x:=by omega
  refine hF.2.2 v ⟨h1.elim id (fun⟨y,hy,_⟩=>by simp at hy),?_⟩
  have:∀(l:LI) (q:Int),In cs.length q→Goes cs q l→(z:Int)∈l→z<cs.length∧has q z=false:=by
   intro l
   induction l with
   |nil=>intro q _ _ h;simp at h
   |cons y l ih=>
    rintro q hq ⟨k',e',hF',hG'⟩ hzl
    rcases List.mem_cons.1 hzl with h|h
    ·obtain rfl:k'=z:=by omega
     exact⟨hF'.1,hF'.2.1⟩
    ·have hk':=hF'.1
     have he:∀w,has (ior .u32 q (ishl .u32 1 (k':Int))) w=(has q w||decide (w=k')):=λw=>by rw[Bo hq.1 (VS.ishl _ _),Bc (by omega)]
     have hin:In cs.length (ior .u32 q (ishl .u32 1 (k':Int))):=⟨VS.ior _ _,λw hw=>by
      rw[he,Bool.or_eq_true,decide_eq_true_eq] at hw
      rcases hw with hw|rfl
      ·exact hq.2 w hw
      ·exact hk'⟩
     obtain⟨a,b⟩:=ih _ hin hG' h
     rw[he,Bool.or_eq_false_iff] at b
     exact⟨a,b.1⟩
  obtain⟨h3,h4⟩:=this ((k:Int)::l2) p hp ⟨k,rfl,hF,hG⟩ (List.mem_cons_of_mem _ hz)
  exact⟨z,h3,h4,hzv⟩
 |y::l1,p,x,l2,hm,hp,⟨k,e,hF,hG⟩,h1,h2=>by
  subst e
  have hk:=hF.1
  have he:∀w,has (ior .u32 p (ishl .u32 1 (k:Int))) w=(has p w||decide (w=k)):=λw=>by rw[Bo hp.1 (VS.ishl _ _),Bc (by omega)]
  refine Goes.mid (l1:=l1) hm ⟨VS.ior _ _,λw hw=> ?_⟩ hG ?_ h2
  ·rw[he,Bool.or_eq_true,decide_eq_true_eq] at hw
   rcases hw with hw|rfl
   ·exact hp.2 w hw
   ·exact hk
  ·rcases h1 with⟨i,h3,h4,h5⟩|⟨i,h3,h5⟩
   ·exact .inl ⟨i,h3,by rw[he,h4];rfl,h5⟩
   ·rcases List.mem_cons.1 h3 with h|h
    ·obtain rfl:i=k:=by omega
     exact .inl ⟨i,hk,by rw[he];simp,h5⟩
    ·exact .inr ⟨i,h,h5⟩
theorem ends_of_line {cs:LI}(hm:cs.length≤16)(pt:Nat→Int)(hd:∀i j,i<cs.length→j<cs.length→pt i=pt j→i=j)
  (hc:∀v i j k,i<cs.length→j<cs.length→k<cs.length→pt i<pt j→pt j<pt k→ch cs i v=true→ch cs k v=true→ch cs j v=true):
  ∀(d:Nat) (p:Int),In cs.length p→(Al (iandNot .u32 (full cs.length) p)).length≤d→(∀i j,i<cs.length→j<cs.length→has p i=true→has p j=false→pt i<pt j)→Ends cs p:=by
 have hfv:=CS cs.length
 intro d
 induction d with
 |zero=>
  intro p hp hl _
  refine .all (λi hi=> ?_)
  cases hh:has p i
  ·have:(i:Int)∈Al (iandNot .u32 (full cs.length) p):=(AE (VS.iandNot _ _)).2 (by rw[AU hfv hp.1,BA (by omega),hh];simp[hi])
   have:=List.length_pos_of_mem this
   omega
  ·rfl
 |succ d ih=>
  intro p hp hl hdown
  by_cases hall:∀i,i<cs.length→has p i=true
  ·exact .all hall
  have hex:∃k,k<cs.length∧has p k=false:=by
   apply Classical.byContradiction
   intro hno
   apply hall
   intro i hi
   cases hh:has p i
   ·exact absurd ⟨i,hi,hh⟩ hno
   ·rfl
  have hmin:∃k,k<cs.length∧has p k=false∧∀j,j<cs.length→has p j=false→pt k≤pt j:=by
   have:∀m,(∃k,k<m∧k<cs.length∧has p k=false)→∃k,k<cs.length∧has p k=false∧∀j,j<m→j<cs.length→has p j=false→pt k≤pt j:=by
    intro m
    induction m with
    |zero=>rintro⟨k,hk,_⟩;omega
    |succ m ihm=>
     rintro⟨k,hk,hk1,hk2⟩
     by_cases hprev:∃k,k<m∧k<cs.length∧has p k=false
     ·obtain⟨q,h1,h2,h3⟩:=ihm hprev
      by_cases hmm:m<cs.length∧has p m=false∧pt m<pt q
      ·refine⟨m,hmm.1,hmm.2.1,λj hj hj1 hj2=> ?_⟩
       by_cases hjm:j<m
       ·have:=h3 j hjm hj1 hj2;omega
       ·obtain rfl:j=m:=by omega
        omega
      ·refine⟨q,h1,h2,λj hj hj1 hj2=> ?_⟩
       by_cases hjm:j<m
       ·exact h3 j hjm hj1 hj2
       ·obtain rfl:j=m:=by omega
        by_cases hlt:pt j<pt q
        ·exact absurd ⟨hj1,hj2,hlt⟩ hmm
        ·omega
     ·have:k=m:=by
       by_cases h:k<m
       ·exact absurd ⟨k,h,hk1,hk2⟩ hprev
       ·omega
      subst this
      refine⟨k,hk1,hk2,λj hj hj1 hj2=> ?_⟩
      by_cases hjm:j<k
      ·exact absurd ⟨j,hjm,hj1,hj2⟩ hprev
      ·obtain rfl:j=k:=by omega
       omega
   obtain⟨k,h1,h2⟩:=hex
   obtain⟨q,h3,h4,h5⟩:=this cs.length ⟨k,h1,h1,h2⟩
   exact⟨q,h3,h4,λj hj=>h5 j hj hj⟩
  obtain⟨k,hk,hpk,hkm⟩:=hmin
  have hF:Ft cs p k:=⟨hk,hpk,λv ⟨⟨i,hi,hpi,hiv⟩,⟨j,hj,hpj,hjv⟩⟩=>by
   by_cases hjk:pt j=pt k
   ·rw[←hd j k hj hk hjk];exact hjv
   ·have h1:=hdown i k hi hk hpi hpk
    have h2:=hkm j hj hpj
    exact hc v i k j hi hk hj h1 (by omega) hiv hjv⟩
  have he:∀w,has (ior .u32 p (ishl .u32 1 (k:Int))) w=(has p w||decide (w=k)):=λw=>by rw[Bo hp.1 (VS.ishl _ _),Bc (by omega)]
  have hin:In cs.length (ior .u32 p (ishl .u32 1 (k:Int))):=⟨VS.ior _ _,λw hw=>by
   rw[he,Bool.or_eq_true,decide_eq_true_eq] at hw
   rcases hw with hw|rfl
   ·exact hp.2 w hw
   ·exact hk⟩
  refine .go hF (ih _ hin ?_ ?_)
  ·have h1:∀x,x∈(k:Int)::Al (iandNot .u32 (full cs.length) (ior .u32 p (ishl .u32 1 (k:Int))))→x∈Al (iandNot .u32 (full cs.length) p):=λx hx=>by
    rcases List.mem_cons.1 hx with rfl|hx
    ·exact(AE (VS.iandNot _ _)).2 (by rw[AU hfv hp.1,BA (by omega),hpk];simp[hk])
    ·obtain⟨w,hw,h2,rfl⟩:=mem_elems.1 hx
     rw[AU hfv (VS.ior _ _),BA (by omega),he] at h2
     simp at h2
     exact(AE (VS.iandNot _ _)).2 (by rw[AU hfv hp.1,BA (by omega),h2.2.1];simp[h2.1])
   have h2:((k:Int)::Al (iandNot .u32 (full cs.length) (ior .u32 p (ishl .u32 1 (k:Int))))).Nodup:=by
    refine List.nodup_cons.2 ⟨λhx=> ?_,List.Pairwise.imp (λh e=>by omega) (Bt _)⟩
    rw[AE (VS.iandNot _ _),AU hfv (VS.ior _ _),he] at hx
    simp at hx
   have:=Bx h2 h1
   simp at this
   omega
  ·intro i j hi hj h1 h2
   rw[he,Bool.or_eq_false_iff,decide_eq_false_iff_not] at h2
   rw[he,Bool.or_eq_true,decide_eq_true_eq] at h1
   rcases h1 with h1|rfl
   ·exact hdown i j hi hj h1 h2.1
   ·have h3:=hkm j hj h2.1
    by_cases h4:pt i=pt j
    ·exact absurd (hd i j hi hj h4).symm h2.2
    ·omega
theorem loop_first {ρ:Type}{step:Int→Option (Int ⊕ ρ)}(xs:LI)(p:Int→Bool)(mkr:Int→ρ)(fin:ρ)
  (hstep:∀i (h:i<xs.length),step (i:Int)=if p xs[i] then some (.inr (mkr xs[i])) else some (.inl ((i+1:Nat):Int))) (hend:step (xs.length:Int)=some (.inr fin)):
  Aq step 0=some (match xs.find? p with|some x=>mkr x|none=>fin):=by
 have key:∀(k i:Nat),i+k=xs.length→Aq step (i:Int)=some (match(xs.drop i).find? p with|some x=>mkr x|none=>fin):=by
  intro k
  induction k with
  |zero=>
   intro i hi
   obtain rfl:i=xs.length:=by omega
   rw[AQ hend,List.drop_length];rfl
  |succ k ih=>
   intro i hi
   have hil:i<xs.length:=by omega
   rw[List.drop_eq_getElem_cons hil,List.find?_cons]
   by_cases hp:p xs[i]=true
   ·rw[AQ (r:=mkr xs[i]) (by rw[hstep i hil,if_pos hp]),hp]
   ·rw[Bi (s':=((i+1:Nat):Int)) (by rw[hstep i hil,if_neg hp]),ih (i+1) (by omega)]
    have:p xs[i]=false:=by simpa using hp
    rw[this]
 exact key xs.length 0 (by omega)
def okv (F:LI)(n:Nat)(s v:Int):Bool:=decide (mis F n (iand .u32 (F.getD v.toNat 0) s)=0)
def pk (F:LI)(n:Nat):Nat→Int→Option LI
 |0,_=>some []
 |k+1,s=>match(Al s).find? (okv F n s) with
  |none=>none
  |some v=>(pk F n k (iandNot .u32 s (ishl .u32 1 v))).map (v::·)
theorem pk_len {F:LI}{n:Nat}:∀{k:Nat} {s:Int} {l:LI},pk F n k s=some l→l.length=k
 |0,s,l,h=>by simp[pk] at h;subst h;rfl
 |k+1,s,l,h=>by
  unfold pk at h
  split at h
  ·cases h
  ·rename_i v hv
   rw[Option.map_eq_some_iff] at h
   obtain⟨t,ht,rfl⟩:=h
   simp[pk_len ht]
section
variable {g : LL} (hg : GOk g)
include hg
theorem impl_pk :∀(k:Nat) (s:Int) (out:LI),SQ g.length s k→out.length+k≤1000000→
  Aq (σ:=LI×Int) (ρ:=(LI) ⊕ ((LI))) (fun(s_279:LI×Int)=>match s_279 with|(l_282,x_287)=>cond (x_287 !=0) ((D.c x_287).bind λy_425=>(Aq (σ:=Int) (ρ:=(Int)) (fun(x_487:Int)=>cond (decide (x_487<(y_425.length:Int))) ((idx y_425 x_487).bind λe_514=>(idx (g.map mk) e_514).bind λe_520=>(D.t (g.map mk) (iand .u32 e_520 x_287)).bind λy_526=>cond (y_526==0) (some (.inr e_514)) (some (.inl (IntKind.i64.wrap (x_487+1))))) (some (.inr (-1)))) 0).bind λx_511=>cond (decide (x_511<0)) (some (.inr (.inr ([]:LI)))) ((D.b x_511).bind λy_538=>(AP l_282 ([x_511]:LI)).bind λl_549=>some (.inl (l_549,(iandNot .u32 x_287 y_538))))) (some (.inr (.inl l_282)))) (out,s)=
  some (match pk (g.map mk) g.length k s with|none=> .inr []|some l=> .inl (out++l))
 |0,s,out,hs,_=>by
  rw[hs.z,AQ (r:= .inl out) (by simp)];simp[pk]
 |k+1,s,out,hs,hk=>by
  have h16:=hg.n16
  have hnz:(s !=0)=true:=by simpa using hs.nz
  have hF:=FOk.of hg
  have hin:=loop_first (step:=fun(x_487:Int)=>cond (decide (x_487<((Al s).length:Int))) ((idx (Al s) x_487).bind λe_514=>(idx (g.map mk) e_514).bind λe_520=>(D.t (g.map mk) (iand .u32 e_520 s)).bind λy_526=>cond (y_526==0) (some (.inr e_514)) (some (.inl (IntKind.i64.wrap (x_487+1))))) (some (.inr (-1)))) (Al s) (okv (g.map mk) g.length s) (λx=>x) (-1) (λi hi=>by
   have hel:=Bn s
   obtain⟨v,_,h2,h3⟩:=mem_elems.1 (List.getElem_mem hi)
   have hvn:=hs.lt v h2
   have hidx:idx (g.map mk) (v:Int)=some ((g.map mk).getD v 0):=by rw[AB (by simpa using hvn),AA (by simpa using hvn)]
   simp only[dlt hi,cond_true,AB hi,bs,h3,hidx,Dd h16 hF (VS.iand _ _) (λw hw=>Ei hg hF hs.vs hvn w hw),wq i,okv,Int.toNat_natCast]
   by_cases hz:mis (g.map mk) g.length (iand .u32 ((g.map mk).getD v 0) s)=0
   ·have:((mis (g.map mk) g.length (iand .u32 ((g.map mk).getD v 0) s):Int)==0)=true:=by simpa using hz
    rw[this,cond_true,if_pos (decide_eq_true hz)]
   ·have:((mis (g.map mk) g.length (iand .u32 ((g.map mk).getD v 0) s):Int)==0)=false:=by simpa using hz
    rw[this,cond_false,if_neg (by simpa using hz)]) (by simp only[Br,cond_false])
  unfold pk
  cases hf:(Al s).find? (okv (g.map mk) g.length s) with
  |none=>
   rw[hf] at hin
   rw[AQ (r:= .inr [])]
   simp only[hnz,cond_true,Cg s hs.vs,bs,hin]
   rfl
  |some x=>
   rw[hf] at hin
   obtain⟨v,_,h2,rfl⟩:=mem_elems.1 (List.mem_of_find?_eq_some hf)
   have hn0:decide ((v:Int)<0)=false:=by simp
   rw[Bi (s':=(out++[(v:Int)],iandNot .u32 s (ishl .u32 1 (v:Int))))]
   ·rw[impl_pk k _ (out++[(v:Int)]) (hs.rm h2) (by simp;omega)]
    cases hq:pk (g.map mk) g.length k (iandNot .u32 s (ishl .u32 1 (v:Int))) with
    |none=>simp[hq]
    |some l=>simp[hq]
   ·simp only[hnz,cond_true,Cg s hs.vs,bs,hin,hn0,cond_false,BM]
    rw[Bm (by simp;omega),bs]
theorem find_all {s:Int}{k:Nat}(hs:SQ g.length s k)(p:Int→Bool):((List.range g.length).map Int.ofNat).find? (λx=>has s x.toNat&&p x)=(Al s).find? p:=by
 have h16:=hg.n16
 have e:=els_all (s:=s) (n:=g.length) (by omega) hs.lt
 rw[←e]
 unfold els
 rw[List.find?_map,List.find?_map,List.find?_filter]
 congr 2
 funext a
 simp only[Function.comp]
 have:(Int.ofNat a).toNat=a:=by simp
 rw[this]
 cases has s a<;>simp
theorem spec_pk :∀(k:Nat) (s:Int) (out:LI),SQ g.length s k→out.length+k=g.length→
  Aq (σ:=(List Bool)×LI) (ρ:=(LI) ⊕ ((LI)×Bool)) (fun(s_529:(List Bool)×LI)=>match s_529 with|(l_532,l_535)=>(D.d g).bind λy_790=>cond (decide ((l_535.length:Int)<y_790)) ((Aq (σ:=Int) (ρ:=(Int)) (fun(x_903:Int)=>(D.d g).bind λy_956=>cond (decide (x_903<y_956)) ((idx l_532 x_903).bind λe_960=>cond e_960 (some (.inl (IntKind.i64.wrap (x_903+1)))) ((D.Y0 g x_903 l_532).bind λy_970=>(D.o g y_970).bind λy_987=>cond (!y_987) (some (.inl (IntKind.i64.wrap (x_903+1)))) (some (.inr x_903)))) (some (.inr x_903))) 0).bind λx_954=>(D.d g).bind λy_1004=>cond (x_954==y_1004) (some (.inr (.inr (([]:LI),false)))) ((idx l_532 x_954).bind λe_1016=>(AP l_535 ([x_954]:LI)).bind λl_1026=>some (.inl ((l_532.set (Int.toNat x_954) true),l_1026)))) (some (.inr (.inl l_535)))) (BQ g.length s,out)=
  some (match pk (g.map mk) g.length k s with|none=> .inr ([],false)|some l=> .inl (out++l))
 |0,s,out,hs,hk=>by
  have e:decide ((out.length:Int)<(g.length:Int))=false:=by simp;omega
  rw[AQ (r:= .inl out) (by unfold D.d;simp only[bs,e,cond_false])];simp[pk]
 |k+1,s,out,hs,hk=>by
  have h16:=hg.n16;have hn1:=hg.n1
  have hF:=FOk.of hg
  have hlt:decide ((out.length:Int)<(g.length:Int))=true:=by simp;omega
  have hin:=loop_first (step:=fun(x_903:Int)=>(D.d g).bind λy_956=>cond (decide (x_903<y_956)) ((idx (BQ g.length s) x_903).bind λe_960=>cond e_960 (some (.inl (IntKind.i64.wrap (x_903+1)))) ((D.Y0 g x_903 (BQ g.length s)).bind λy_970=>(D.o g y_970).bind λy_987=>cond (!y_987) (some (.inl (IntKind.i64.wrap (x_903+1)))) (some (.inr x_903)))) (some (.inr x_903))) ((List.range g.length).map Int.ofNat) (λx=>has s x.toNat&&okv (g.map mk) g.length s x) (λx=>x) (g.length:Int) (λi hi=>by
   have hin:i<g.length:=by simpa using hi
   have hgi:((List.range g.length).map Int.ofNat)[i]=(i:Int):=by simp
   rw[hgi]
   unfold D.d
   simp only[bs,dlt hin,cond_true,goneOf_idx hin,Int.toNat_natCast,wq i]
   by_cases hh:has s i=true
   case neg=>
    have hh:has s i=false:=by simpa using hh
    simp[hh]
   case pos=>
    simp only[hh,Bool.not_true,cond_false,Bool.true_and]
    rw[l7Left_eq g hg hin _ (by rw[EF]),bs,lft_gone hg hs.vs hin]
    have hmis:=Fo hn1 h16 hF (VS.iand (mk (row g i)) s) (λw hw=>by
     have:=Ei hg (v:=i) hF hs.vs hin w
     rw[Dv] at this
     exact this hw)
    rw[grow_of hg] at hmis
    unfold D.o
    rw[hmis]
    simp only[bs]
    have eo:okv (g.map mk) g.length s (i:Int)=decide (mis (g.map mk) g.length (iand .u32 (mk (row g i)) s)=0):=by
     unfold okv;rw[Int.toNat_natCast,Dv]
    rw[eo]
    by_cases hz:mis (g.map mk) g.length (iand .u32 (mk (row g i)) s)=0
    ·simp[hz]
    ·have:((mis (g.map mk) g.length (iand .u32 (mk (row g i)) s):Int)==0)=false:=by simpa using hz
     simp only[this,Bool.not_false,cond_true];simp[hz]) (by unfold D.d;simp)
  rw[find_all hg hs] at hin
  unfold pk
  cases hf:(Al s).find? (okv (g.map mk) g.length s) with
  |none=>
   rw[hf] at hin
   rw[AQ (r:= .inr ([],false))]
   unfold D.d at hin ⊢
   simp only[bs] at hin
   simp only[bs,hlt,cond_true,hin,beq_self_eq_true]
  |some x=>
   rw[hf] at hin
   obtain⟨v,_,h2,rfl⟩:=mem_elems.1 (List.mem_of_find?_eq_some hf)
   have hvn:=hs.lt v h2
   have hne:(((v:Nat):Int)==(g.length:Int))=false:=by simp;omega
   rw[Bi (s':=(BQ g.length (iandNot .u32 s (ishl .u32 1 (v:Int))),out++[(v:Int)]))]
   ·rw[spec_pk k _ (out++[(v:Int)]) (hs.rm h2) (by simp;omega)]
    cases hq:pk (g.map mk) g.length k (iandNot .u32 s (ishl .u32 1 (v:Int))) with
    |none=>simp[hq]
    |some l=>simp[hq]
   ·unfold D.d at hin ⊢
    simp only[bs] at hin
    simp only[bs,hlt,cond_true,hin,hne,cond_false,goneOf_idx hvn,Int.toNat_natCast,goneOf_set hs.vs hvn (show g.length≤32 by omega)]
    rw[Bm (by simp;omega),bs]
theorem EQ :∃b,D.a1 g=some b∧D.I0 g=some b:=by
 have h16:=hg.n16;have hn1:=hg.n1
 refine⟨(pk (g.map mk) g.length g.length (full g.length)).isSome,?_,?_⟩
 ·unfold D.a1 D.V
  have hlm:(g.map mk).length=g.length:=by simp
  obtain⟨s,e1,hs1,hs2⟩:=Ee (g.map mk) (by omega)
  have hsf:s=full g.length:=hs1.ext (CS _) (λw _=>by rw[hs2,BA h16,hlm])
  rw[BL g hg.sh2,Co hg,bs,cond_true,CB g hg,bs,e1,bs,hsf,impl_pk hg g.length (full g.length) [] (SQ.full h16) (by simp;omega),bs]
  cases hp:pk (g.map mk) g.length g.length (full g.length) with
  |none=>rfl
  |some l=>
   have:=pk_len hp
   cases l with
   |nil=>simp at this;omega
   |cons x t=>rfl
 ·unfold D.I0 D.e1
  rw[Cp g hg.sh2,Co hg,bs,Bool.not_true,cond_false]
  have:=spec_pk hg g.length (full g.length) [] (SQ.full h16) (by simp)
  unfold D.d at this ⊢
  simp only[bs] at this ⊢
  rw[makeD_ok (by omega) (by omega),bs,goneOf_full h16,this,bs]
  cases hp:pk (g.map mk) g.length g.length (full g.length) with
  |none=>rfl
  |some l=>rfl
end
end Go.Sx

namespace Go.Sx
theorem D7 {g:LL}(hg:GOk g):D.V (g.map mk)=some ((pk (g.map mk) g.length g.length (full g.length)).getD []):=by
 have h16:=hg.n16;have hn1:=hg.n1
 unfold D.V
 have hlm:(g.map mk).length=g.length:=by simp
 obtain⟨s,e1,hs1,hs2⟩:=Ee (g.map mk) (by omega)
 have hsf:s=full g.length:=hs1.ext (CS _) (λw _=>by rw[hs2,BA h16,hlm])
 rw[e1,bs,hsf,impl_pk hg g.length (full g.length) [] (SQ.full h16) (by simp;omega),bs]
 cases hp:pk (g.map mk) g.length g.length (full g.length) with
 |none=>rfl
 |some l=>
  have:=pk_len hp
  cases l with
  |nil=>simp at this;omega
  |cons x t=>rfl
structure Iv (g:LL)(L R:Nat→Int):Prop where
 le:∀v,v<g.length→L v≤R v
 ad:∀u v,u<g.length→v<g.length→(adj g u v↔u≠v∧L u≤R v∧L v≤R u)
theorem leastI (f:Nat→Int)(P:Nat→Prop):∀n,(∃v,v<n∧P v)→∃v,v<n∧P v∧∀w,w<n→P w→f v≤f w:=by
 intro n
 induction n with
 |zero=>rintro⟨v,h,_⟩;omega
 |succ n ih=>
  rintro⟨v,hv,hP⟩
  by_cases hprev:∃v,v<n∧P v
  ·obtain⟨q,h1,h2,h3⟩:=ih hprev
   by_cases hn:P n∧f n<f q
   ·refine⟨n,by omega,hn.1,λw hw hPw=> ?_⟩
    by_cases hwn:w<n
    ·have:=h3 w hwn hPw;omega
    ·obtain rfl:w=n:=by omega
     exact Int.le_refl _
   ·refine⟨q,by omega,h2,λw hw hPw=> ?_⟩
    by_cases hwn:w<n
    ·exact h3 w hwn hPw
    ·obtain rfl:w=n:=by omega
     by_cases hlt:f w<f q
     ·exact absurd ⟨hPw,hlt⟩ hn
     ·omega
  ·have hvn:v=n:=by
    by_cases h:v<n
    ·exact absurd ⟨v,h,hP⟩ hprev
    ·omega
   subst hvn
   refine⟨v,hv,hP,λw hw hPw=> ?_⟩
   by_cases hwn:w<v
   ·exact absurd ⟨w,hwn,hPw⟩ hprev
   ·obtain rfl:w=v:=by omega
    exact Int.le_refl _
section
variable {g : LL} (hg : GOk g)
include hg
theorem pk_some (hs:∀s,VS s→(∀v,has s v=true→v<g.length)→s≠0→∃v,v<g.length∧has s v=true∧CQ (g.map mk) (iand .u32 ((g.map mk).getD v 0) s)):
  ∀(k:Nat) (s:Int),SQ g.length s k→∃l,pk (g.map mk) g.length k s=some l
 |0,_,_=>⟨[],rfl⟩
 |k+1,s,h=>by
  unfold pk
  obtain⟨v,hv,hsv,hc⟩:=hs s h.vs (λv hv=>h.lt v hv) h.nz
  have hF:=FOk.of hg
  have hin:In g.length (iand .u32 ((g.map mk).getD v 0) s):=⟨VS.iand _ _,Ei hg hF h.vs hv⟩
  have hok:okv (g.map mk) g.length s (v:Int)=true:=by
   unfold okv
   rw[Int.toNat_natCast,decide_eq_true_eq,mis_zero hF hin]
   exact hc
  cases hf:(Al s).find? (okv (g.map mk) g.length s) with
  |none=>
   rw[List.find?_eq_none] at hf
   exact absurd hok (hf _ ((AE h.vs).2 hsv))
  |some x=>
   obtain⟨w,_,hw,rfl⟩:=mem_elems.1 (List.mem_of_find?_eq_some hf)
   obtain⟨l,hl⟩:=pk_some hs k _ (h.rm hw)
   exact⟨(w:Int)::l,by dsimp only;rw[hl];rfl⟩
variable {L R : Nat → Int} (hI : Iv g L R)
include hI
theorem ivPk :∃l,pk (g.map mk) g.length g.length (full g.length)=some l:=by
 refine pk_some hg (λs hs hlt h0=> ?_) g.length _ (SQ.full hg.n16)
 have hex:∃v,v<g.length∧has s v=true:=by
  apply Classical.byContradiction
  intro hno
  apply h0
  rw[VS.eq_zero hs]
  intro v _
  cases hh:has s v
  ·rfl
  ·exact absurd ⟨v,hlt v hh,hh⟩ hno
 obtain⟨v,hv,hsv,hmin⟩:=leastI R (λv=>has s v=true) g.length hex
 refine⟨v,hv,hsv,λu w hu hw huw=> ?_⟩
 have hF:=FOk.of hg
 have vF:VS ((g.map mk).getD v 0):=hF.vs v hv
 have hu':=hu;have hw':=hw
 rw[Ck vF hs,Bool.and_eq_true] at hu hw
 have hun:=Ei hg hF hs hv u hu';have hwn:=Ei hg hF hs hv w hw'
 have au:=(BD hg hv).1 hu.1;have aw:=(BD hg hv).1 hw.1
 obtain⟨_,u1,u2⟩:=(hI.ad v u hv hun).1 au
 obtain⟨_,w1,w2⟩:=(hI.ad v w hv hwn).1 aw
 have m1:=hmin u hun hu.2;have m2:=hmin w hwn hw.2
 exact(BD hg hun).2 ((hI.ad u w hun hwn).2 ⟨huw,by omega,by omega⟩)
def AtL (g:LL)(L R:Nat→Int)(K x:Int):Prop:=∀w,has K w=true↔w<g.length∧L w≤x∧x≤R w
theorem ivAt {K:Int}(hK:In g.length K)(hM:MX (g.map mk) g.length K):∃x,AtL g L R K x:=by
 have hex:∃v,v<g.length∧has K v=true:=by
  apply Classical.byContradiction
  intro hno
  have h0:has K 0=false:=by
   cases hh:has K 0
   ·rfl
   ·exact absurd ⟨0,hK.2 0 hh,hh⟩ hno
  obtain⟨u,hu,_⟩:=hM.2 0 hg.n1 h0
  exact hno ⟨u,hK.2 u hu,hu⟩
 obtain⟨t,ht,hKt,hmax⟩:=leastI (λv=> -L v) (λv=>has K v=true) g.length hex
 have hle:∀u,has K u=true→L u≤L t∧L t≤R u:=λu hu=>by
  have hun:=hK.2 u hu
  have:=hmax u hun hu
  refine⟨by omega,?_⟩
  by_cases hut:u=t
  ·rw[hut];exact hI.le t ht
  ·have:=(hI.ad u t hun ht).1 ((BD hg hun).1 (hM.1 u t hu hKt hut))
   exact this.2.2
 refine⟨L t,λw=>⟨λh=>⟨hK.2 w h,hle w h⟩,fun⟨hwn,h1,h2⟩=> ?_⟩⟩
 cases hw:has K w
 ·obtain⟨u,hu,hn⟩:=hM.2 w hwn hw
  have hun:=hK.2 u hu
  have huw:u≠w:=λe=>by rw[e,hw] at hu;cases hu
  have:=hle u hu
  rw[(BD hg hun).2 ((hI.ad u w hun hwn).2 ⟨huw,by omega,by omega⟩)] at hn
  cases hn
 ·rfl
theorem ivEnds {l:LI}(hl:GC g l)(h16:l.length≤16):Ends l 0:=by
 have hat:∀i:Nat,∃x,i<l.length→AtL g L R (l.getD i 0) x:=λi=>by
  by_cases hi:i<l.length
  ·have hm:=(hl.mem (l.getD i 0)).1 (by rw[AA hi];exact List.getElem_mem hi)
   obtain⟨x,hx⟩:=ivAt hg hI hm.1 hm.2
   exact⟨x,λ_=>hx⟩
  ·exact⟨0,λh=>absurd h hi⟩
 obtain⟨pt,hpt⟩:=Classical.axiomOfChoice hat
 have hnd:l.Nodup:=DI hl.up
 refine ends_of_line h16 pt (λi j hi hj e=> ?_) (λv i j k hi hj hk h1 h2 h3 h4=> ?_) 32 0 ⟨VS.zero,λv hv=>by rw[A8] at hv;cases hv⟩ (Bn _) (λi j _ _ h=>by rw[A8] at h;cases h)
 ·have:l.getD i 0=l.getD j 0:=by
   have a:=hpt i hi;have b:=hpt j hj
   refine VS.ext ((hl.mem _).1 (by rw[AA hi];exact List.getElem_mem hi)).1.1 ((hl.mem _).1 (by rw[AA hj];exact List.getElem_mem hj)).1.1 (λw _=> ?_)
   exact Bool.eq_iff_iff.2 (by rw[a w,b w,e])
  rw[AA hi,AA hj] at this
  exact(List.getElem_inj hnd).1 this
 ·unfold ch at*
  have a:=(hpt i hi v).1 h3;have b:=(hpt k hk v).1 h4
  exact(hpt j hj v).2 ⟨a.1,by omega,by omega⟩
end
end Go.Sx

namespace Go.Sx
def iz (P:List Nat):LI:=P.map Int.ofNat
theorem Cb (P:List Nat):(iz P).length=P.length:=by simp[iz]
theorem iz_app (P:List Nat)(v:Nat):iz (P++[v])=iz P++[(v:Int)]:=by simp[iz]
theorem iz_idx {P:List Nat}{i:Nat}(h:i<P.length):idx (iz P) (i:Int)=some ((P[i]:Nat):Int):=by
 rw[AB (by rw[Cb];exact h)];simp[iz]
structure Gd (g:LL)(long:Nat)(P:List Nat):Prop where
 nd:P.Nodup
 lt:∀x∈P,x<g.length
 step:∀i (h:i+1<P.length),adj g P[i] P[i+1]
 far:∀i j (_:i+1<j) (hj:j<P.length),adj g (P[i]'(by omega)) P[j]↔(i=0∧j+1=long)
theorem Gd.hole {g:LL}(hg:GOk g){long:Nat}{P:List Nat}(h:Gd g long P)(hl:P.length=long)(h4:4≤long):Hole (adj g) P:=by
 have hs:adj g (P[0]'(by omega)) (P[P.length-1]'(by omega)):=(h.far 0 (P.length-1) (by omega) (by omega)).2 ⟨rfl,by omega⟩
 exact⟨by omega,h.nd,h.step,hg.sym _ _ (h.lt _ (List.getElem_mem _)) hs,λi j hij hj hx ha=>hx (by have:=(h.far i j hij hj).1 ha;omega)⟩
theorem Hole.gd {g:LL}(hg:GOk g){c:List Nat}(h:Hole (adj g) c)(hlt:∀x∈c,x<g.length):Gd g c.length c:=by
 have h4:=h.len
 refine⟨h.nd,hlt,h.step,λi j hij hj=>⟨λha=> ?_,fun⟨h1,h2⟩=> ?_⟩⟩
 ·apply Classical.byContradiction
  intro hx
  exact h.no i j hij hj (fun⟨a,b⟩=>hx ⟨a,by omega⟩) ha
 ·subst h1
  have hc:=hg.sym _ _ (hlt _ (List.getElem_mem _)) h.close
  have e:j=c.length-1:=by omega
  subst e;exact hc
theorem Gd.take {g:LL}{long:Nat}{P:List Nat}(h:Gd g long P)(k:Nat):Gd g long (P.take k):=by
 refine⟨List.Pairwise.sublist (List.take_sublist k P) h.nd,λx hx=>h.lt x (List.mem_of_mem_take hx),λi hi=> ?_,λi j hij hj=> ?_⟩
 ·simp at hi
  rw[List.getElem_take,List.getElem_take]
  exact h.step i (by omega)
 ·simp at hj
  rw[List.getElem_take,List.getElem_take]
  exact h.far i j hij (by omega)
section
variable {g : LL} (hg : GOk g)
include hg
end
end Go.Sx

namespace Go.Sx
section
variable {g : LL} (hg : GOk g)
include hg
end
end Go.Sx
