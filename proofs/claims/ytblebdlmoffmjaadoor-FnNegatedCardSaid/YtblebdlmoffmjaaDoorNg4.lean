/- Parts. -/
import Derived.Test.YtblebdlmoffmjaaDoorNg3
import Derived.Test.YtblebdlmoffmjaaDoorProg
import Derived.KernelRfl
set_option linter.unusedVariables false
set_option linter.unusedSimpArgs false
set_option linter.unusedSectionVars false
set_option maxRecDepth 100000
namespace Go.Proofs.YtblebdlmoffmjaaDoor
open Go Go.Sx
open Go.Proofs.Tryd Go.Proofs.YtblebdlmoffmjaaDoor.Tryd IntKind
variable {W w : World} {G : GH} {H : List Itm}
theorem Pl43 :BH prog 43:=isAgg43
theorem Wk.h {W:World}(n:Nat):∀{w:World} {G:GH} {H:List Itm} {v0 aa v3 v4:Value} {x0:LI} {ab:(List (Int×Int×Int))} {x2:Int} {x3 x4:LI} (m:Mem W G w (H)) (h0:R1 G v0 x0) (ac:RSr P3 G aa ab) (h3:R1 G v3 x3) (h4:R1 G v4 x4) {y:Bool} (hd:D.h n x0 ab x2 x3 x4=some y),
  Calls prog 64 #[v0,(.agg #[aa]),(iv x2),v3,v4] w (Res W G H (λ_ Ho v=>Ho=[]∧v=(.bool y))):=by
 induction n with
 |zero=>intros;rename_i hd;simp[D.h] at hd
 |succ fuel ih=>
  intro w G H v0 aa v3 v4 x0 ab x2 x3 x4 m h0 ac h3 h4 y hd
  refine Ax (args:=[v0,(.agg #[aa]),(iv x2),v3,v4]) (N:=161) [.tmp 10] func64 Z Z (lb Z) Z λa f=> ?_
  unfold D.h at hd
  refine Af ?_
  refine A4 (cs:=[aa]) m f Z Z Z λad w a m f=>Ac f Z λa f=>AD ?_
  refine Az underlying29 Z sizeOf27 f Z λa f=>An 0 0 m BG f Z Z Z Z λa f=>Ab f Z λa f=> ?_
  have⟨ae,af,hd⟩:=bind_some hd
  refine l_atR (E:=P3) T27 f Z Z Z ac af λag a ah f=>C2 (E:=P3) [(iv ae.1),(iv ae.2.1),(iv ae.2.2)] m Cj f Z Z ah Z λa f=>AR (cs:=[(iv 0),(iv 0),(iv 0)]) zeroValue72 m f Z Z λai w a m f=>Am 0 0 (ds:=[(iv ae.1),(iv ae.2.1),(iv ae.2.2)]) m sizeOf72 f Z Z Z (Ah Z (Ah Z (Ah Z Ap))) Z (lb Z) Z λw m=>Aa (Ak (Af ?_))
  refine Az underlying72 Z sizeOf2 f Z λa f=>An 0 0 m Pl2 f Z Z Z Z λa f=>Aa (As (Af ?_))
  refine Aj f Z Z AH λa f=>Ac f Z λa f=>Aa ?_
  rcases Ae hd with⟨aj,hd⟩|⟨aj,hd⟩
  ·refine Al f Z aj ?_
   refine Ak ?_
   refine Bl 18 AQ (by kernel_rfl) m ?_
   refine AE 0 18 Z f Z λa f=>AE 1 18 Z f Z λa f=>A5 2 18 underlying72 Z sizeOf2 Z f Z λa f=>Be 3 18 0 Pl2 Z Z Z f Z λa f=> ?_
   have⟨ak,al,hd⟩:=bind_some hd
   refine BU 4 18 T30 h3 al Z f Z Z λam an a ao ap f=> ?_
   subst ap
   refine BV 5 18 Pl2 ao Z f Z λa f=> ?_
   have⟨aq,ar,hd⟩:=bind_some hd
   refine BU 6 18 T30 h0 ar Z f Z Z λau av a aw ax f=> ?_
   subst ax
   refine BV 7 18 Pl2 aw Z f Z λa f=>AE 8 18 Z f Z λa f=>A5 9 18 underlying72 Z sizeOf2 Z f Z λa f=>Be 10 18 0 Pl2 Z Z Z f Z λa f=> ?_
   have⟨ay,az,hd⟩:=bind_some hd
   refine BU 11 18 T30 h3 az Z f Z Z λaA aB a aC aD f=> ?_
   subst aD
   refine BV 12 18 Pl2 aC Z f Z λa f=>q_p 13 18 Z f (λ_=>BI (f.e Z) ⟨_,underlying2⟩ underlying100) λa f=> ?_
   obtain⟨aE,hd⟩:=Bs hd
   refine q_p 14 18 Z f (λ_=>Dd (f.e Z) (f.e Z) aE) λa f=>q_p 15 18 Z f (λ_=>Bo (f.e Z) (f.e Z) C6) λa f=>q_p 16 18 Z f (λ_=>Bo (f.e Z) (f.e Z) AH) λa f=>q_p 17 18 Z f (λ_=>Bi (f.e Z)) λa f=>A2 λaF w aG m=>Aa ?_
   refine Ao ?_
   have m:Mem W aF w H:=Mem.drop (H':=[ib ai 72 [(iv ae.1),(iv ae.2.1),(iv ae.2.2)],ib ad 29 [aa]]) m
   obtain rfl:=sj hd
   exact⟨[(.bool ((iand .i64 (BC .i64 aq (IntKind.u64.wrap ay)) 1)==1))],f.g Z,f.d,_,[],aG,m,Z,Z⟩
  ·refine Ag f Z aj ?_
   refine Af ?_
   refine Aj f Z Z AH λa f=>Ac f Z λa f=>Aa ?_
   rcases Ae hd with⟨aH,hd⟩|⟨aH,hd⟩
   ·refine Al f Z aH ?_
    refine Ak ?_
    refine Bl 12 AQ (by kernel_rfl) m ?_
    refine AE 0 12 Z f Z λa f=>A5 1 12 underlying72 Z sizeOf2 Z f Z λa f=>Be 2 12 0 Pl2 Z Z Z f Z λa f=> ?_
    have⟨aI,aJ,hd⟩:=bind_some hd
    refine BU 3 12 T30 h3 aJ Z f Z Z λaK aL a aM aN f=> ?_
    subst aN
    refine BV 4 12 Pl2 aM Z f Z λa f=>AE 5 12 Z f Z λa f=>A5 6 12 underlying72 Z sizeOf2 Z f Z λa f=>Be 7 12 0 Pl2 Z Z Z f Z λa f=> ?_
    have⟨aO,aP,hd⟩:=bind_some hd
    refine BU 8 12 T30 h3 aP Z f Z Z λaQ aR a aS aT f=> ?_
    subst aT
    refine BV 9 12 Pl2 aS Z f Z λa f=>q_p 10 12 Z f (λ_=>Bo (f.e Z) (f.e Z) AH) λa f=>q_p 11 12 Z f (λ_=>Bi (f.e Z)) λa f=>A2 λaU w aV m=>Aa ?_
    refine Ao ?_
    have m:Mem W aU w H:=Mem.drop (H':=[ib ai 72 [(iv ae.1),(iv ae.2.1),(iv ae.2.2)],ib ad 29 [aa]]) m
    obtain rfl:=sj hd
    exact⟨[(.bool (aI==aO))],f.g Z,f.d,_,[],aV,m,Z,Z⟩
   ·refine Ag f Z aH ?_
    refine Af ?_
    refine Aj f Z Z AH λa f=>Ac f Z λa f=>Aa ?_
    rcases Ae hd with⟨aW,hd⟩|⟨aW,hd⟩
    ·refine Al f Z aW ?_
     refine Ak ?_
     refine Bl 15 AQ (by kernel_rfl) m ?_
     refine AE 0 15 Z f Z λa f=>A5 1 15 underlying72 Z sizeOf2 Z f Z λa f=>Be 2 15 0 Pl2 Z Z Z f Z λa f=> ?_
     have⟨aX,aY,hd⟩:=bind_some hd
     refine BU 3 15 T30 h4 aY Z f Z Z λaZ a0 a a1 a2 f=> ?_
     subst a2
     refine BV 4 15 Pl2 a1 Z f Z λa f=>AE 5 15 Z f Z λa f=>A5 6 15 underlying72 Z sizeOf2 Z f Z λa f=>Be 7 15 0 Pl2 Z Z Z f Z λa f=> ?_
     have⟨a3,a4,hd⟩:=bind_some hd
     refine BU 8 15 T30 h3 a4 Z f Z Z λa5 a6 a a7 a8 f=> ?_
     subst a8
     refine BV 9 15 Pl2 a7 Z f Z λa f=>q_p 10 15 Z f (λ_=>BI (f.e Z) ⟨_,underlying2⟩ underlying100) λa f=> ?_
     obtain⟨a9,hd⟩:=Bs hd
     refine q_p 11 15 Z f (λ_=>Dd (f.e Z) (f.e Z) a9) λa f=>q_p 12 15 Z f (λ_=>Bo (f.e Z) (f.e Z) C6) λa f=>q_p 13 15 Z f (λ_=>Bo (f.e Z) (f.e Z) AH) λa f=>q_p 14 15 Z f (λ_=>Bi (f.e Z)) λa f=>A2 λba w bb m=>Aa ?_
     refine Ao ?_
     have m:Mem W ba w H:=Mem.drop (H':=[ib ai 72 [(iv ae.1),(iv ae.2.1),(iv ae.2.2)],ib ad 29 [aa]]) m
     obtain rfl:=sj hd
     exact⟨[(.bool ((iand .i64 (BC .i64 aX (IntKind.u64.wrap a3)) 1)==1))],f.g Z,f.d,_,[],bb,m,Z,Z⟩
    ·refine Ag f Z aW ?_
     refine Af ?_
     refine Aj f Z Z AH λa f=>Ac f Z λa f=>Aa ?_
     rcases Ae hd with⟨bc,hd⟩|⟨bc,hd⟩
     ·refine Al f Z bc ?_
      refine Af ?_
      refine Ab f Z λa f=>Ar 1 0 (ds:=[aa]) m Bd f Z Z Z Z Z λa f=>Az underlying72 Z sizeOf2 f Z λa f=>An 0 1 m Pl2 f Z Z Z Z λa f=>Ab f Z λa f=>Ab f Z λa f=> ?_
      have⟨bd,be,hd⟩:=bind_some hd
      refine Ay f Z call64 (ih m h0 ac h3 h4 be) λbf bg bh w bi m bj a f=> ?_
      obtain⟨rfl,rfl⟩:=bj
      refine l_o f (Br (f.e Z)) λa f=>Ac f Z λa f=>Aa ?_
      refine Ao ?_
      have m:Mem W bg w H:=Mem.drop (H':=[ib ai 72 [(iv ae.1),(iv ae.2.1),(iv ae.2.2)],ib ad 29 [aa]]) m
      obtain rfl:=sj hd
      exact⟨[(.bool (!bd))],f.g Z,f.d,_,[],bi,m,Z,Z⟩
     ·refine Ag f Z bc ?_
      refine Af ?_
      refine Aj f Z Z AH λa f=>Ac f Z λa f=>Aa ?_
      rcases Ae hd with⟨bk,hd⟩|⟨bk,hd⟩
      ·refine Al f Z bk ?_
       refine Af ?_
       refine Ab f Z λa f=>Ar 1 0 (ds:=[aa]) m Bd f Z Z Z Z Z λa f=>Az underlying72 Z sizeOf2 f Z λa f=>An 0 1 m Pl2 f Z Z Z Z λa f=>Ab f Z λa f=>Ab f Z λa f=> ?_
       have⟨bl,bm,hd⟩:=bind_some hd
       refine Ay f Z call64 (ih m h0 ac h3 h4 bm) λbn bo bp w bq m br a f=> ?_
       obtain⟨rfl,rfl⟩:=br
       have h0:=rd1 bq h0
       have ac:=RSr.mono trivial _ _ _ _ bq ac
       have h3:=rd1 bq h3
       have h4:=rd1 bq h4
       refine Ab f Z λa f=> ?_
       have⟨bs,bt,hd⟩:=bind_some hd
       refine Bg 8 (λa w=>∃bu,GLe bo bu∧Mem W bu w (ib ai 72 [(iv ae.1),(iv ae.2.1),(iv ae.2.2)]::ib ad 29 [aa]::H)∧Fr a 161 [(0,v0),(1,(.agg #[aa])),(2,(iv x2)),(3,v3),(4,v4),(6,(pb ad)),(11,(pb ai)),(22,(iv ae.1)),(81,(.bool (ae.1==5))),(83,v0),(84,(.agg #[aa])),(85,(.pointer (some ⟨ai,1,none⟩))),(86,(iv ae.2.1)),(87,v3),(88,v4),(89,(.bool bl)),(90,(.bool bl)),(98,(.bool bs))]) ?_ ?_
       ·rcases Ae bt with⟨bv,bt⟩|⟨bv,bt⟩
        ·refine Aw f bv ?_
         refine Ab f Z λa f=>Aw f bv ?_
         refine Ar 1 0 (ds:=[aa]) m Bd f Z Z Z Z Z λa f=>Aw f bv ?_
         refine Az underlying72 Z sizeOf2 f Z λa f=>Aw f bv ?_
         refine An 0 2 m Pl2 f Z Z Z Z λa f=>Aw f bv ?_
         refine Ab f Z λa f=>Aw f bv ?_
         refine Ab f Z λa f=>Aw f bv ?_
         have⟨bw,bx,bt⟩:=bind_some bt
         refine Ay f Z call64 (ih m h0 ac h3 h4 bx) λbz bA bB w bC m bD a f=> ?_
         obtain⟨rfl,rfl⟩:=bD
         refine l_o f (AK (f.e Z) bv (f.e Z)) λa f=> ?_
         obtain rfl:=sj bt
         exact⟨_,bC,m,f.k Z⟩
        ·refine Au f bv λa f=> ?_
         refine Au f bv λa f=>Au f bv λa f=>Au f bv λa f=>Au f bv λa f=>Au f bv λa f=>Au f bv λa f=>l_o f (AM (f.e Z) bv (f.e Z)) λa f=> ?_
         obtain rfl:=sj bt
         exact⟨_,gr,m,f.k Z⟩
       ·rintro a w ⟨bu,bE,m,f⟩
        refine Ac f Z λa f=>Aa ?_
        refine Ao ?_
        have m:Mem W bu w H:=Mem.drop (H':=[ib ai 72 [(iv ae.1),(iv ae.2.1),(iv ae.2.2)],ib ad 29 [aa]]) m
        obtain rfl:=sj hd
        exact⟨[(.bool bs)],f.g Z,f.d,_,[],(gt bq bE),m,Z,Z⟩
      ·refine Ag f Z bk ?_
       refine Af ?_
       refine Aj f Z Z AH λa f=>Ac f Z λa f=>Aa ?_
       rcases Ae hd with⟨bF,hd⟩|⟨bF,hd⟩
       ·refine Al f Z bF ?_
        refine Af ?_
        refine Ab f Z λa f=>Ar 1 0 (ds:=[aa]) m Bd f Z Z Z Z Z λa f=>Az underlying72 Z sizeOf2 f Z λa f=>An 0 1 m Pl2 f Z Z Z Z λa f=>Ab f Z λa f=>Ab f Z λa f=> ?_
        have⟨bG,bH,hd⟩:=bind_some hd
        refine Ay f Z call64 (ih m h0 ac h3 h4 bH) λbI bJ bK w bL m bM a f=> ?_
        obtain⟨rfl,rfl⟩:=bM
        have h0:=rd1 bL h0
        have ac:=RSr.mono trivial _ _ _ _ bL ac
        have h3:=rd1 bL h3
        have h4:=rd1 bL h4
        refine Ab f Z λa f=> ?_
        have⟨bN,bO,hd⟩:=bind_some hd
        refine Bg 8 (λa w=>∃bP,GLe bJ bP∧Mem W bP w (ib ai 72 [(iv ae.1),(iv ae.2.1),(iv ae.2.2)]::ib ad 29 [aa]::H)∧Fr a 161 [(0,v0),(1,(.agg #[aa])),(2,(iv x2)),(3,v3),(4,v4),(6,(pb ad)),(11,(pb ai)),(22,(iv ae.1)),(99,(.bool (ae.1==6))),(101,v0),(102,(.agg #[aa])),(103,(.pointer (some ⟨ai,1,none⟩))),(104,(iv ae.2.1)),(105,v3),(106,v4),(107,(.bool bG)),(108,(.bool bG)),(116,(.bool bN))]) ?_ ?_
        ·rcases Ae bO with⟨bQ,bO⟩|⟨bQ,bO⟩
         ·refine Au f bQ λa f=> ?_
          refine Au f bQ λa f=>Au f bQ λa f=>Au f bQ λa f=>Au f bQ λa f=>Au f bQ λa f=>Au f bQ λa f=>l_o f (AK (f.e Z) bQ (f.e Z)) λa f=> ?_
          obtain rfl:=sj bO
          exact⟨_,gr,m,f.k Z⟩
         ·refine Aw f bQ ?_
          refine Ab f Z λa f=>Aw f bQ ?_
          refine Ar 1 0 (ds:=[aa]) m Bd f Z Z Z Z Z λa f=>Aw f bQ ?_
          refine Az underlying72 Z sizeOf2 f Z λa f=>Aw f bQ ?_
          refine An 0 2 m Pl2 f Z Z Z Z λa f=>Aw f bQ ?_
          refine Ab f Z λa f=>Aw f bQ ?_
          refine Ab f Z λa f=>Aw f bQ ?_
          have⟨bR,bS,bO⟩:=bind_some bO
          refine Ay f Z call64 (ih m h0 ac h3 h4 bS) λbT bU bV w bW m bX a f=> ?_
          obtain⟨rfl,rfl⟩:=bX
          refine l_o f (AM (f.e Z) bQ (f.e Z)) λa f=> ?_
          obtain rfl:=sj bO
          exact⟨_,bW,m,f.k Z⟩
        ·rintro a w ⟨bP,bY,m,f⟩
         refine Ac f Z λa f=>Aa ?_
         refine Ao ?_
         have m:Mem W bP w H:=Mem.drop (H':=[ib ai 72 [(iv ae.1),(iv ae.2.1),(iv ae.2.2)],ib ad 29 [aa]]) m
         obtain rfl:=sj hd
         exact⟨[(.bool bN)],f.g Z,f.d,_,[],(gt bL bY),m,Z,Z⟩
       ·refine Ag f Z bF ?_
        refine Af ?_
        refine Aj f Z Z AH λa f=>Ac f Z λa f=>Aa ?_
        rcases Ae hd with⟨bZ,hd⟩|⟨bZ,hd⟩
        ·refine Al f Z bZ ?_
         refine Af ?_
         refine Ab f Z λa f=> ?_
         have⟨b0,b1,hd⟩:=bind_some hd
         refine Ay f Z call82 (Wk.k m h3 b1) λb2 b3 b4 w b5 m b6 a f=> ?_
         obtain⟨b7,b8,rfl,rfl,b9⟩:=b6
         have h0:=rd1 b5 h0
         have ac:=RSr.mono trivial _ _ _ _ b5 ac
         have h4:=rd1 b5 h4
         refine Ac f Z λa f=>Aa (Ak (Af ?_))
         refine Ac f Z λa f=>Aa ?_
         have⟨ca,cb,hd⟩:=bind_some hd
         refine AT (λa w=>∃q_191':Unit,ca= .inl q_191'∧∃(cc:GH),GLe b3 cc∧Fr a 161 []∧Mem W cc w (H)) ?_ ?_
         ·refine As ?_
          have m:=m.fr 1
          have m:Mem W b3 w (ib ad 29 [aa]::ib ai 72 [(iv ae.1),(iv ae.2.1),(iv ae.2.2)]::b8::H):=m.fr 2
          refine A1 (λcd a w=>∃ce:LI,∃cf:Int,(ce,cf)=cd∧∃(cg:GH) (ch:Itm),GLe b3 cg∧Fr a 161 [(0,v0),(4,v4),(6,(pb ad)),(11,(pb ai)),(12,b7),(13,(iv cf))]∧Mem W cg w (ib ad 29 [aa]::ib ai 72 [(iv ae.1),(iv ae.2.1),(iv ae.2.2)]::ch::H)∧Ow R0 2 cg ch b7 ce) cb ⟨_,_,Z,_,b8,gr,f.k Z,m,b9⟩ ?_
          clear cb f m
          rintro cd ci cj ck a w ⟨ce,cf,rfl,cg,ch,cl,f,m,cm⟩
          have h0:=rd1 cl h0
          have h4:=rd1 cl h4
          have ac:=RSr.mono trivial _ _ _ _ cl ac
          refine Ak (Af ?_)
          refine Ab f Z λa f=>Ab f Z λa f=>Bc underlying30 f Z Z h0 λa f=>Aj f Z Z A3 λa f=>Aa ?_
          rcases Ae cj with⟨cn,cj⟩|⟨cn,cj⟩
          ·refine Al f Z cn ?_
           refine Aq ?_
           refine Ak (As (Af ?_))
           refine Ab f Z λa f=>Az underlying72 Z sizeOf2 f Z λa f=>An 1 1 m Pl2 f Z Z Z Z λa f=>Ab f Z λa f=> ?_
           have⟨co,cp,cj⟩:=bind_some cj
           refine BQ 2 m cm Z T30 f Z Z Z cp λcq a cr f=>Cm 2 m cm Z sizeOf2 f Z Z cr cp Z Z Z λct w m cu=>AD ?_
           refine Ab f Z λa f=>Ar 0 0 (ds:=[aa]) m Bd f Z Z Z Z Z λa f=>Az underlying72 Z sizeOf2 f Z λa f=>An 1 2 m Pl2 f Z Z Z Z λa f=>Ab f Z λa f=>Ab f Z λa f=> ?_
           have⟨cv,cw,cj⟩:=bind_some cj
           refine Ay f Z call64 (Ow.lendCall (RI.mono _) 2 cu m Z (λcx cy m cz=>ih m (rd1 cy h0) (RSr.mono trivial _ _ _ _ cy ac) cz (rd1 cy h4) cw) (λ_ _ _ _ h=>h)) λcA cB cC w cD m cE a f=> ?_
           obtain⟨rfl,rfl⟩:=cE
           have cu:=od1 cD cu
           refine Aa ?_
           rcases Ae cj with⟨cF,cj⟩|⟨cF,cj⟩
           ·refine Al f Z cF ?_
            refine Af ?_
            refine Ac f Z λa f=>Aa ?_
            refine Ao ?_
            have m:Mem W cB w H:=Mem.drop (H':=[ib ad 29 [aa],ib ai 72 [(iv ae.1),(iv ae.2.1),(iv ae.2.2)],ct]) m
            obtain rfl:=sj cj
            obtain rfl:=ck _ rfl
            obtain rfl:=sj hd
            exact⟨[(.bool true)],f.g Z,f.d,_,[],(gt b5 (gt cl cD)),m,Z,Z⟩
           ·refine Ag f Z cF ?_
            refine Aq ?_
            refine Ai ?_
            refine Ab f Z λa f=>Aj f Z Z AA λa f=>Ac f Z λa f=>Aa ?_
            obtain rfl:=sj cj
            exact⟨_,Z,_,_,Z,_,ct,(gt cl cD),f.k Z,m,cu⟩
          ·refine Ag f Z cn ?_
           refine AZ Z ?_
           have m:Mem W cg w H:=Mem.drop (H':=[ib ad 29 [aa],ib ai 72 [(iv ae.1),(iv ae.2.1),(iv ae.2.2)],ch]) m
           obtain rfl:=sj cj
           obtain rfl:=ck _ rfl
           exact⟨_,Z,_,cl,f.weak trivial,m⟩
         ·rintro a w ⟨_,rfl,cc,cG,f,m⟩
          refine Af ?_
          refine Ac f Z λa f=>Aa ?_
          refine Ao ?_
          obtain rfl:=sj hd
          exact⟨[(.bool false)],f.g Z,f.d,_,[],(gt b5 cG),m,Z,Z⟩
        ·refine Ag f Z bZ ?_
         refine Aq ?_
         refine Af ?_
         refine Ab f Z λa f=> ?_
         have⟨cH,cI,hd⟩:=bind_some hd
         refine Ay f Z call82 (Wk.k m h4 cI) λcJ cK cL w cM m cN a f=> ?_
         obtain⟨cO,cP,rfl,rfl,cQ⟩:=cN
         have h0:=rd1 cM h0
         have ac:=RSr.mono trivial _ _ _ _ cM ac
         have h3:=rd1 cM h3
         refine Ac f Z λa f=>Aa (Ak (Af ?_))
         refine Ac f Z λa f=>Aa ?_
         have⟨cR,cS,hd⟩:=bind_some hd
         refine AT (λa w=>∃q_295':Unit,cR= .inl q_295'∧∃(cT:GH),GLe cK cT∧Fr a 161 []∧Mem W cT w (H)) ?_ ?_
         ·refine As ?_
          have m:=m.fr 1
          have m:Mem W cK w (ib ad 29 [aa]::ib ai 72 [(iv ae.1),(iv ae.2.1),(iv ae.2.2)]::cP::H):=m.fr 2
          refine A1 (λcU a w=>∃cV:LI,∃cW:Int,(cV,cW)=cU∧∃(cX:GH) (cY:Itm),GLe cK cX∧Fr a 161 [(0,v0),(3,v3),(6,(pb ad)),(11,(pb ai)),(14,cO),(15,(iv cW))]∧Mem W cX w (ib ad 29 [aa]::ib ai 72 [(iv ae.1),(iv ae.2.1),(iv ae.2.2)]::cY::H)∧Ow R0 2 cX cY cO cV) cS ⟨_,_,Z,_,cP,gr,f.k Z,m,cQ⟩ ?_
          clear cS f m
          rintro cU cZ c0 c1 a w ⟨cV,cW,rfl,cX,cY,c2,f,m,c3⟩
          have h0:=rd1 c2 h0
          have h3:=rd1 c2 h3
          have ac:=RSr.mono trivial _ _ _ _ c2 ac
          refine Ak (Af ?_)
          refine Ab f Z λa f=>Ab f Z λa f=>Bc underlying30 f Z Z h0 λa f=>l_o f (BI (f.e Z) ⟨_,underlying3⟩ underlying100) λa f=> ?_
          obtain⟨c4,c0⟩:=Bs c0
          refine l_o f (CU (f.e Z) (f.e Z) c4) λa f=>Aj f Z Z A3 λa f=>Aa ?_
          rcases Ae c0 with⟨c5,c0⟩|⟨c5,c0⟩
          ·refine Al f Z c5 ?_
           refine Aq ?_
           refine Ak (As (Af ?_))
           refine Ab f Z λa f=>Az underlying72 Z sizeOf2 f Z λa f=>An 1 1 m Pl2 f Z Z Z Z λa f=>Ab f Z λa f=> ?_
           have⟨c6,c7,c0⟩:=bind_some c0
           refine BQ 2 m c3 Z T30 f Z Z Z c7 λc8 a c9 f=>Cm 2 m c3 Z sizeOf2 f Z Z c9 c7 Z Z Z λda w m db=>AD ?_
           refine Ab f Z λa f=>Ar 0 0 (ds:=[aa]) m Bd f Z Z Z Z Z λa f=>Az underlying72 Z sizeOf2 f Z λa f=>An 1 2 m Pl2 f Z Z Z Z λa f=>Ab f Z λa f=>Ab f Z λa f=> ?_
           have⟨dc,dd,c0⟩:=bind_some c0
           refine Ay f Z call64 (Ow.lendCall (RI.mono _) 2 db m Z (λde df m dg=>ih m (rd1 df h0) (RSr.mono trivial _ _ _ _ df ac) (rd1 df h3) dg dd) (λ_ _ _ _ h=>h)) λdh di dj w dk m dl a f=> ?_
           obtain⟨rfl,rfl⟩:=dl
           have db:=od1 dk db
           refine Aa ?_
           rcases Ae c0 with⟨dm,c0⟩|⟨dm,c0⟩
           ·refine Al f Z dm ?_
            refine Af ?_
            refine Ac f Z λa f=>Aa ?_
            refine Ao ?_
            have m:Mem W di w H:=Mem.drop (H':=[ib ad 29 [aa],ib ai 72 [(iv ae.1),(iv ae.2.1),(iv ae.2.2)],da]) m
            obtain rfl:=sj c0
            obtain rfl:=c1 _ rfl
            obtain rfl:=sj hd
            exact⟨[(.bool true)],f.g Z,f.d,_,[],(gt cM (gt c2 dk)),m,Z,Z⟩
           ·refine Ag f Z dm ?_
            refine Aq ?_
            refine Ai ?_
            refine Ab f Z λa f=>Aj f Z Z AA λa f=>Ac f Z λa f=>Aa ?_
            obtain rfl:=sj c0
            exact⟨_,Z,_,_,Z,_,da,(gt c2 dk),f.k Z,m,db⟩
          ·refine Ag f Z c5 ?_
           refine AZ Z ?_
           have m:Mem W cX w H:=Mem.drop (H':=[ib ad 29 [aa],ib ai 72 [(iv ae.1),(iv ae.2.1),(iv ae.2.2)],cY]) m
           obtain rfl:=sj c0
           obtain rfl:=c1 _ rfl
           exact⟨_,Z,_,c2,f.weak trivial,m⟩
         ·rintro a w ⟨_,rfl,cT,dn,f,m⟩
          refine Af ?_
          refine Ac f Z λa f=>Aa ?_
          refine Ao ?_
          obtain rfl:=sj hd
          exact⟨[(.bool false)],f.g Z,f.d,_,[],(gt cM dn),m,Z,Z⟩
theorem Wk.f {v0 aa v3 v4:Value}{x0:LI}{ab:(List (Int×Int×Int))}{x2:Int}{x3 x4:LI}(m:Mem W G w (H))(h0:R1 G v0 x0)(ac:RSr P3 G aa ab)(h3:R1 G v3 x3)(h4:R1 G v4 x4){y:Bool}(hd:D.f x0 ab x2 x3 x4=some y):
  Calls prog 64 #[v0,(.agg #[aa]),(iv x2),v3,v4] w (Res W G H (λ_ Ho v=>Ho=[]∧v=(.bool y))):=by
 exact Wk.h CL m h0 ac h3 h4 hd
theorem Wk.p0 {aa ab v2 v3:Value}{ac:LL}{ad:(List (Int×Int×Int))}{x2 x3:LI}(m:Mem W G w (H))(ae:R2 G aa ac)(af:RSr P3 G ab ad)(h2:R1 G v2 x2)(h3:R1 G v3 x3){y:Bool}(hd:D.p0 ac ad x2 x3=some y):
  Calls prog 35 #[(.agg #[aa]),(.agg #[ab]),v2,v3] w (Res W G H (λ_ Ho v=>Ho=[]∧v=(.bool y))):=by
 refine Ax (args:=[(.agg #[aa]),(.agg #[ab]),v2,v3]) (N:=19) [.tmp 8] func35 Z Z (lb Z) Z λa f=> ?_
 unfold D.p0 at hd
 refine Af ?_
 refine A4 (cs:=[aa]) m f Z Z Z λag w a m f=>A4 (cs:=[ab]) m f Z Z Z λah w a m f=>Ac f Z λa f=>Aa (Ak ?_)
 refine Bl 11 AQ (by kernel_rfl) m ?_
 refine AY (i:=0) (ds:=[aa]) 11 1 AO Z Z Z Z (by kernel_rfl) Z f Z Z Z λa f=>AY (i:=2) (ds:=[ab]) 11 0 Bd Z Z Z Z (by kernel_rfl) Z f Z Z Z λa f=>A5 3 11 underlying29 Z sizeOf27 Z f Z λa f=>Be 4 11 0 BG Z Z Z f Z λa f=>q_lenR (i:=5) (listed':= #[true,false,true,true,true,true,false,false,false,false,false]) 11 underlying27 af Z (by kernel_rfl) Z f Z Z Z λa f=>q_p 6 11 Z f (λ_=>Bo (f.e Z) (f.e Z) Bw) λa f=>AE 7 11 Z f Z λa f=>AE 8 11 Z f Z λa f=>Bk 1 Z λai w aj m ak ak=> ?_
 have ae:=rd2 aj ae
 have af:=RSr.mono trivial _ _ _ _ aj af
 have h2:=rd1 aj h2
 have h3:=rd1 aj h3
 have⟨al,am,hd⟩:=bind_some hd
 refine Ay f Z call65 (Wk.D0 m ae am) λan ao ap w aq m ar a f=> ?_
 obtain⟨au,av,rfl,rfl,aw⟩:=ar
 have af:=RSr.mono trivial _ _ _ _ aq af
 have h2:=rd1 aq h2
 have h3:=rd1 aq h3
 refine Aa ?_
 refine ak ao [av] _ _ aq m ?_
 refine Bk 9 Z λax w ay m az az=> ?_
 have af:=RSr.mono trivial _ _ _ _ ay af
 have h2:=rd1 ay h2
 have h3:=rd1 ay h3
 have aw:=od1 ay aw
 have⟨aA,aB,hd⟩:=bind_some hd
 refine Ay f Z call64 (Ow.lendCall (RI.mono _) 0 aw m Z (λaC aD m aE=>Wk.f m aE (RSr.mono trivial _ _ _ _ aD af) (rd1 aD h2) (rd1 aD h3) aB) (λ_ _ _ _ h=>h)) λaF aG aH w aI m aJ a f=> ?_
 obtain⟨rfl,rfl⟩:=aJ
 refine Aa ?_
 refine az aG [av] _ _ aI m ?_
 refine q_p 10 11 Z f (λ_=>Bi (f.e Z)) λa f=>A2 λaK w aL m=>Aa ?_
 refine Ao ?_
 have m:Mem W aK w H:=Mem.drop (H':=[av,ib ah 29 [ab],ib ag 26 [aa]]) m
 obtain rfl:=sj hd
 exact⟨[(.bool aA)],f.g Z,f.d,_,[],(gt aj (gt aq (gt ay (gt aI aL)))),m,Z,Z⟩
theorem Wk.d0 {aa ab v2 v3:Value}{ac:LL}{ad:(List (Int×Int×Int))}{x2:LI}{x3:LL}(m:Mem W G w (H))(ae:R2 G aa ac)(af:RSr P3 G ab ad)(h2:R1 G v2 x2)(h3:R2 G v3 x3){y:Bool}(hd:D.d0 ac ad x2 x3=some y):
  Calls prog 7 #[(.agg #[aa]),(.agg #[ab]),v2,v3] w (Res W G H (λ_ Ho v=>Ho=[]∧v=(.bool y))):=by
 refine Ax (args:=[(.agg #[aa]),(.agg #[ab]),v2,v3]) (N:=66) [.tmp 8] func7 Z Z (lb Z) Z λa f=> ?_
 unfold D.d0 at hd
 refine Af ?_
 refine A4 (cs:=[aa]) m f Z Z Z λag w a m f=>A4 (cs:=[ab]) m f Z Z Z λah w a m f=>Ac f Z λa f=>Aa (Ak (Af ?_))
 refine Ar 1 0 (ds:=[aa]) m AO f Z Z Z Z Z λa f=>Ar 0 0 (ds:=[ab]) m Bd f Z Z Z Z Z λa f=> ?_
 have⟨ai,aj,hd⟩:=bind_some hd
 refine Bb f Z call31 (Wk.u0 m ae af aj) λak w al m a f=> ?_
 have ae:=rd2 al ae
 have af:=RSr.mono trivial _ _ _ _ al af
 have h2:=rd1 al h2
 have h3:=rd2 al h3
 refine l_o f (Br (f.e Z)) λa f=>Ab f Z λa f=> ?_
 refine Bg 4 (λa w=>∃am,GLe ak am∧Mem W am w (ib ah 29 [ab]::ib ag 26 [aa]::H)∧Fr a 66 [(0,(.agg #[aa])),(1,(.agg #[ab])),(2,v2),(3,v3),(4,(pb ag)),(5,(pb ah)),(12,(.agg #[aa])),(13,(.agg #[ab])),(14,(.bool ai)),(15,(.bool (!ai))),(16,(.bool (!ai))),(20,(.bool ((!ai)||((x2.length:Int) !=3))))]) ?_ ?_
 ·rcases Bool.eq_false_or_eq_true (!ai) with an|an
  ·refine Au f an λa f=> ?_
   refine Au f an λa f=>Au f an λa f=>l_o f (AK (f.e Z) an (f.e Z)) λa f=> ?_
   exact⟨_,gr,m,f.weak ⟨Z,Z,Z,Z,Z,Z,Z,Z,Z,Z,Z,by rw[an];rfl,trivial⟩⟩
  ·refine Aw f an ?_
   refine Ab f Z λa f=>Aw f an ?_
   refine Bc underlying30 f Z Z h2 λa f=>Aw f an ?_
   refine Aj f Z Z C7 λa f=>l_o f (AM (f.e Z) an (f.e Z)) λa f=> ?_
   exact⟨_,gr,m,f.weak ⟨Z,Z,Z,Z,Z,Z,Z,Z,Z,Z,Z,by rw[an];rfl,trivial⟩⟩
 ·rintro a w ⟨am,ao,m,f⟩
  have ae:=rd2 ao ae
  have af:=RSr.mono trivial _ _ _ _ ao af
  have h2:=rd1 ao h2
  have h3:=rd2 ao h3
  refine Ab f Z λa f=> ?_
  refine Bg 4 (λa w=>∃ap,GLe am ap∧Mem W ap w (ib ah 29 [ab]::ib ag 26 [aa]::H)∧Fr a 66 [(0,(.agg #[aa])),(1,(.agg #[ab])),(2,v2),(3,v3),(4,(pb ag)),(5,(pb ah)),(12,(.agg #[aa])),(13,(.agg #[ab])),(14,(.bool ai)),(15,(.bool (!ai))),(16,(.bool (!ai))),(20,(.bool ((!ai)||((x2.length:Int) !=3)))),(21,(.bool ((!ai)||((x2.length:Int) !=3)))),(25,(.bool (((!ai)||((x2.length:Int) !=3))||((x3.length:Int) !=2))))]) ?_ ?_
  ·rcases Bool.eq_false_or_eq_true ((!ai)||((x2.length:Int) !=3)) with aq|aq
   ·refine Au f aq λa f=> ?_
    refine Au f aq λa f=>Au f aq λa f=>l_o f (AK (f.e Z) aq (f.e Z)) λa f=> ?_
    exact⟨_,gr,m,f.weak ⟨Z,Z,Z,Z,Z,Z,Z,Z,Z,Z,Z,Z,Z,by rw[aq];rfl,trivial⟩⟩
   ·refine Aw f aq ?_
    refine Ab f Z λa f=>Aw f aq ?_
    refine Bc underlying24 f Z Z h3 λa f=>Aw f aq ?_
    refine Aj f Z Z C7 λa f=>l_o f (AM (f.e Z) aq (f.e Z)) λa f=> ?_
    exact⟨_,gr,m,f.weak ⟨Z,Z,Z,Z,Z,Z,Z,Z,Z,Z,Z,Z,Z,by rw[aq];rfl,trivial⟩⟩
  ·rintro a w ⟨ap,ar,m,f⟩
   have ae:=rd2 ar ae
   have af:=RSr.mono trivial _ _ _ _ ar af
   have h2:=rd1 ar h2
   have h3:=rd2 ar h3
   refine Aa ?_
   rcases Ae hd with⟨au,hd⟩|⟨au,hd⟩
   ·refine Al f Z au ?_
    refine Af ?_
    refine Ac f Z λa f=>Aa ?_
    refine Ao ?_
    have m:Mem W ap w H:=Mem.drop (H':=[ib ah 29 [ab],ib ag 26 [aa]]) m
    obtain rfl:=sj hd
    exact⟨[(.bool false)],f.g Z,f.d,_,[],(gt al (gt ao ar)),m,Z,Z⟩
   ·refine Ag f Z au ?_
    refine Aq ?_
    refine Af ?_
    refine AI (R:=R0) (xs:=([]:LI)) (RI.one _) m T30 f Z Z Z (by decide) (All2.nil _) λav aw w a m ax f=>Ac f Z λa f=>Aa (Ak (Af ?_))
    refine Ac f Z λa f=>Aa ?_
    have⟨ay,az,hd⟩:=bind_some hd
    refine AT (λa w=>∃q_51':Unit,ay= .inl q_51'∧∃(aA:GH),GLe ap aA∧Fr a 66 [(2,v2),(3,v3),(4,(pb ag)),(5,(pb ah)),(9,aw)]∧Mem W aA w (ib ag 26 [aa]::ib ah 29 [ab]::av::H)) ?_ ?_
    ·refine As ?_
     have m:=m.fr 1
     have m:=m.fr 2
     refine A1 (λaB a w=>∃aC:Int,aC=aB∧∃(aD:GH),GLe ap aD∧Fr a 66 [(2,v2),(3,v3),(4,(pb ag)),(5,(pb ah)),(9,aw),(10,(iv aC))]∧Mem W aD w (ib ag 26 [aa]::ib ah 29 [ab]::av::H)) az ⟨_,Z,_,gr,f.k Z,m⟩ ?_
     clear az f m
     rintro aB aE aF aG a w ⟨aC,rfl,aD,aH,f,m⟩
     have h2:=rd1 aH h2
     have ae:=rd2 aH ae
     refine Ak (Af ?_)
     refine Ab f Z λa f=>Ab f Z λa f=>Bc underlying30 f Z Z h2 λa f=>Aj f Z Z A3 λa f=>Aa ?_
     rcases Ae aF with⟨aI,aF⟩|⟨aI,aF⟩
     ·refine Al f Z aI ?_
      refine Aq ?_
      refine Ak (As (Ak ?_))
      refine Bl 7 AQ (by kernel_rfl) m ?_
      refine AY (i:=0) (ds:=[aa]) 7 0 AO Z Z Z Z (by kernel_rfl) Z f Z Z Z λa f=>AE 1 7 Z f Z λa f=>AE 2 7 Z f Z λa f=> ?_
      have⟨aJ,aK,aF⟩:=bind_some aF
      refine BU 3 7 T30 h2 aK Z f Z Z λaL aM a aN aO f=> ?_
      subst aO
      refine BV 4 7 Pl2 aN Z f Z λa f=> ?_
      have⟨aP,aQ,aF⟩:=bind_some aF
      refine BE (i:=5) 7 Z (by kernel_rfl) Z f Z Z Z call32 (λ_ _ w aR m=>Wk.S m (rd2 aR ae) aQ) λa f=>q_p 6 7 Z f (λ_=>Br (f.e Z)) λa f=>A2 λaS w aT m=>Aa ?_
      rcases Ae aF with⟨aU,aF⟩|⟨aU,aF⟩
      ·refine Al f Z aU ?_
       refine Af ?_
       refine Ac f Z λa f=>Aa ?_
       refine Ao ?_
       have m:Mem W aS w H:=Mem.drop (H':=[ib ag 26 [aa],ib ah 29 [ab],av]) m
       obtain rfl:=sj aF
       obtain rfl:=aG _ rfl
       obtain rfl:=sj hd
       exact⟨[(.bool false)],f.g Z,f.d,_,[],(gt al (gt ao (gt ar (gt aH aT)))),m,Z,Z⟩
      ·refine Ag f Z aU ?_
       refine Aq ?_
       refine Ai ?_
       refine Ab f Z λa f=>Aj f Z Z AA λa f=>Ac f Z λa f=>Aa ?_
       obtain rfl:=sj aF
       exact⟨_,Z,_,Z,_,(gt aH aT),f.k Z,m⟩
     ·refine Ag f Z aI ?_
      refine AZ Z ?_
      obtain rfl:=sj aF
      obtain rfl:=aG _ rfl
      exact⟨_,Z,_,aH,f.k Z,m⟩
    ·rintro a w ⟨_,rfl,aA,aV,f,m⟩
     have h2:=rd1 aV h2
     have h3:=rd2 aV h3
     have ae:=rd2 aV ae
     have af:=RSr.mono trivial _ _ _ _ aV af
     have ax:=od1 aV ax
     refine Ak (Af ?_)
     refine Ac f Z λa f=>Aa ?_
     have⟨aW,aX,hd⟩:=bind_some hd
     refine AT (λa w=>∃q_167':LI,aW= .inl q_167'∧∃aY:LI,aY=q_167'∧∃(aZ:GH) (a0:Value) (a1:Itm),GLe aA aZ∧Fr a 66 [(2,v2),(4,(pb ag)),(5,(pb ah)),(9,a0)]∧Mem W aZ w (ib ag 26 [aa]::ib ah 29 [ab]::a1::H)∧Ow R0 2 aZ a1 a0 aY) ?_ ?_
     ·refine As ?_
      refine A1 (λa2 a w=>∃a3:LI,∃a4:Int,(a3,a4)=a2∧∃(a5:GH) (a6:Value) (a7:Itm),GLe aA a5∧Fr a 66 [(2,v2),(3,v3),(4,(pb ag)),(5,(pb ah)),(9,a6),(11,(iv a4))]∧Mem W a5 w (ib ag 26 [aa]::ib ah 29 [ab]::a7::H)∧Ow R0 2 a5 a7 a6 a3) aX ⟨_,_,Z,_,aw,av,gr,f.k Z,m,ax⟩ ?_
      clear aX f m
      rintro a2 a8 a9 ba a w ⟨a3,a4,rfl,a5,a6,a7,bb,f,m,bc⟩
      have h3:=rd2 bb h3
      have ae:=rd2 bb ae
      refine Ak (Af ?_)
      refine Ab f Z λa f=>Ab f Z λa f=>Bc underlying24 f Z Z h3 λa f=>Aj f Z Z A3 λa f=>Aa ?_
      rcases Ae a9 with⟨bd,a9⟩|⟨bd,a9⟩
      ·refine Al f Z bd ?_
       refine Aq ?_
       refine Ak (As (Ak (Ak ?_)))
       refine Bl 7 AQ (by kernel_rfl) m ?_
       refine AY (i:=0) (ds:=[aa]) 7 0 AO Z Z Z Z (by kernel_rfl) Z f Z Z Z λa f=>AE 1 7 Z f Z λa f=>AE 2 7 Z f Z λa f=> ?_
       have⟨be,bf,a9⟩:=bind_some a9
       refine BU 3 7 T24 h3 bf Z f Z Z λbg bh a bi bj f=>BV 4 7 BO bi Z f Z λa f=> ?_
       have⟨bk,bl,a9⟩:=bind_some a9
       refine BE (i:=5) 7 Z (by kernel_rfl) Z f Z Z Z call33 (λ_ _ w bm m=>Wk.y m (rd2 bm ae) (rd1 bm bj) bl) λa f=>q_p 6 7 Z f (λ_=>Br (f.e Z)) λa f=>A2 λbn w bo m=> ?_
       have h3:=rd2 bo h3
       have bc:=od1 bo bc
       refine Aa ?_
       rcases Ae a9 with⟨bp,a9⟩|⟨bp,a9⟩
       ·refine Al f Z bp ?_
        refine Af ?_
        refine Ac f Z λa f=>Aa ?_
        refine Ao ?_
        have m:Mem W bn w H:=Mem.drop (H':=[ib ag 26 [aa],ib ah 29 [ab],a7]) m
        obtain rfl:=sj a9
        obtain rfl:=ba _ rfl
        obtain rfl:=sj hd
        exact⟨[(.bool false)],f.g Z,f.d,_,[],(gt al (gt ao (gt ar (gt aV (gt bb bo))))),m,Z,Z⟩
       ·refine Ag f Z bp ?_
        refine Aq ?_
        refine Ai ?_
        refine Ab f Z λa f=>Ab f Z λa f=>Ab f Z λa f=> ?_
        have⟨bq,br,a9⟩:=bind_some a9
        refine BT T24 f Z Z Z h3 br λbs bt a bu bv f=>Bh m BO f Z Z bu λa f=> ?_
        have⟨bw,bx,a9⟩:=bind_some a9
        refine Bb f Z call34 (Wk.I m bv bx) λbz w bA m a f=> ?_
        have bc:=od1 bA bc
        refine AI (R:=R0) (xs:=([bw]:LI)) (RI.one _) m T30 f Z Z Z (by decide) (All2.cons Z (All2.nil _)) λbB bC w a m bD f=> ?_
        have⟨bE,bF,a9⟩:=bind_some a9
        refine AP (RI.one _) 3 m bc Z T30 Z (by decide) f Z Z Z (Ow.src (j:=0) bD m Z) bF λbG bH w a m bI f=>Ac f Z λa f=>Aa (Ai ?_)
        refine Ab f Z λa f=>Aj f Z Z AA λa f=>Ac f Z λa f=>Aa ?_
        have m:=m.fr 3
        have m:=m.fr 3
        have m:Mem W bz w (ib ag 26 [aa]::ib ah 29 [ab]::bG::bB::H):=m.fr 3
        have m:=m.eraseAt 3
        obtain rfl:=sj a9
        exact⟨_,Z,_,_,Z,_,bH,bG,(gt bb (gt bo bA)),f.k Z,m,bI⟩
      ·refine Ag f Z bd ?_
       refine AZ Z ?_
       obtain rfl:=sj a9
       obtain rfl:=ba _ rfl
       exact⟨_,Z,_,Z,_,a6,a7,bb,f.k Z,m,bc⟩
     ·rintro a w ⟨_,rfl,aY,rfl,aZ,a0,a1,bJ,f,m,bK⟩
      have h2:=rd1 bJ h2
      have ae:=rd2 bJ ae
      have af:=RSr.mono trivial _ _ _ _ bJ af
      refine Af ?_
      refine Ar 0 0 (ds:=[aa]) m AO f Z Z Z Z Z λa f=>Ar 1 0 (ds:=[ab]) m Bd f Z Z Z Z Z λa f=>Ab f Z λa f=>Ab f Z λa f=> ?_
      have⟨bL,bM,hd⟩:=bind_some hd
      refine Ay f Z call35 (Ow.lendCall (RI.mono _) 2 bK m Z (λbN bO m bP=>Wk.p0 m (rd2 bO ae) (RSr.mono trivial _ _ _ _ bO af) (rd1 bO h2) bP bM) (λ_ _ _ _ h=>h)) λbQ bR bS w bT m bU a f=> ?_
      obtain⟨rfl,rfl⟩:=bU
      refine Ac f Z λa f=>Aa ?_
      refine Ao ?_
      have m:Mem W bR w H:=Mem.drop (H':=[ib ag 26 [aa],ib ah 29 [ab],a1]) m
      obtain rfl:=sj hd
      exact⟨[(.bool bL)],f.g Z,f.d,_,[],(gt al (gt ao (gt ar (gt aV (gt bJ bT))))),m,Z,Z⟩
theorem Wk.B0 {aa:Value}{ab:(List (Int×Int×Int))}(m:Mem W G w (H))(ac:RSr P3 G aa ab){y:((List (Int×Int×Int)))×Bool}(hd:D.B0 ab=some y):
  Calls prog 8 #[(.agg #[aa])] w (Res W G H (λG' Ho v=>∃r0:Value,∃i0:Itm,Ho=[i0]∧v= .tuple #[(.agg #[r0]),(.bool y.2)]∧OwR P3 72 G' i0 r0 y.1)):=by
 refine Ax (args:=[(.agg #[aa])]) (N:=25) [.cell 2 29,.tmp 3] func8 Z Z (lb Z) Z λa f=> ?_
 unfold D.B0 at hd
 refine Af ?_
 refine A4 (cs:=[aa]) m f Z Z Z λad w a m f=>AR (cs:=[sn]) zeroValue29 m f Z Z λae w a m f=>Ac f Z λa f=>AD ?_
 refine Az underlying29 Z sizeOf27 f Z λa f=>An 1 0 m BG f Z Z Z Z λa f=>CZ underlying27 f Z Z ac λa f=>Ac f Z λa f=>Aa (Ak (Af ?_))
 refine Ar 1 0 (ds:=[aa]) m Bd f Z Z Z Z Z λa f=> ?_
 have⟨af,ag,hd⟩:=bind_some hd
 refine Bb f Z call36 (Wk.O m ac ag) λah w ai m a f=> ?_
 have ac:=RSr.mono trivial _ _ _ _ ai ac
 refine l_o f (Br (f.e Z)) λa f=>Ab f Z λa f=> ?_
 refine Bg 3 (λa w=>∃aj,GLe ah aj∧Mem W aj w (ib ae 29 [sn]::ib ad 29 [aa]::H)∧Fr a 25 [(0,(.agg #[aa])),(1,(pb ad)),(2,(pb ae)),(4,(iv (ab.length:Int))),(8,(.agg #[aa])),(9,(.bool af)),(10,(.bool (!af))),(11,(.bool (!af))),(14,(.bool ((!af)||((ab.length:Int)==40))))]) ?_ ?_
 ·rcases Bool.eq_false_or_eq_true (!af) with ak|ak
  ·refine Au f ak λa f=> ?_
   refine Au f ak λa f=>l_o f (AK (f.e Z) ak (f.e Z)) λa f=> ?_
   exact⟨_,gr,m,f.weak ⟨Z,Z,Z,Z,Z,Z,Z,Z,by rw[ak];rfl,trivial⟩⟩
  ·refine Aw f ak ?_
   refine Ab f Z λa f=>Aw f ak ?_
   refine Aj f Z Z AH λa f=>l_o f (AM (f.e Z) ak (f.e Z)) λa f=> ?_
   exact⟨_,gr,m,f.weak ⟨Z,Z,Z,Z,Z,Z,Z,Z,by rw[ak];rfl,trivial⟩⟩
 ·rintro a w ⟨aj,al,m,f⟩
  have ac:=RSr.mono trivial _ _ _ _ al ac
  refine Aa ?_
  rcases Ae hd with⟨am,hd⟩|⟨am,hd⟩
  ·refine Al f Z am ?_
   refine Af ?_
   have an:∀w,(Instr.build 29 #[]).run prog w= .ok (.agg #[sn]) w:=by intro w;simp[Instr.build,Instr.fill,A7,AX,AN,AS,AG,A6]
   refine Bn f Z Z an λa f=>Am 0 0 (ds:=[sn]) m sizeOf29 f Z Z Z (Ah Z Ap) Z (lb Z) Z λw m=>Ac f Z λa f=>Aa ?_
   refine Ao ?_
   obtain⟨ao,m,ap⟩:=OwR.nil P3 72 m
   have aq:=A9 (P:=prog) 1 m Bd f (s:=2) rfl rfl rfl
   have m:=m.eraseAt 2
   have m:=m.eraseAt 1
   obtain rfl:=sj hd
   exact⟨[(.agg #[sn]),(.bool false)],⟨aq,f.get _ _ Z,trivial⟩,f.d,_,[ao],(gt ai al),m,_,_,Z,Z,ap⟩
  ·refine Ag f Z am ?_
   refine Aq ?_
   refine Af ?_
   refine Az underlying29 Z sizeOf27 f Z λa f=>An 1 0 m BG f Z Z Z Z λa f=> ?_
   have⟨ar,au,hd⟩:=bind_some hd
   refine Ay f Z call37 (Wk.V0 m ac au) λav aw ax w ay m az a f=> ?_
   obtain⟨aA,aB,rfl,rfl,aC⟩:=az
   refine Ab f Z λa f=>Aj f Z Z Bw λa f=> ?_
   have aD:∀w,(Instr.build 72 #[(0,(iv 4)),(1,(iv (i64.wrap ((ab.length:Int)-1))))]).run prog w= .ok (.agg #[(iv 4),(iv (i64.wrap ((ab.length:Int)-1))),(iv 0)]) w:=by intro w;simp[Instr.build,Instr.fill,A7,AX,AN,AS,AG,A6]
   refine Bn f Z Z aD λa f=>Cd (E:=P3) (y:=(4,(i64.wrap ((ab.length:Int)-1)),0)) (cs:=[(iv 4),(iv (i64.wrap ((ab.length:Int)-1))),(iv 0)]) m T27 f Z Z Z (lb Z) λaE aF w a m aG f=> ?_
   have⟨aH,aI,hd⟩:=bind_some hd
   refine BZ (E:=P3) (z:= .agg #[(iv 0),(iv 0),(iv 0)]) 1 0 m aC Z aG Z (by simp) T27 Z (by decide) f Z Z Z aI λaJ aK w a m aL f=> ?_
   have aM:∀w,(Instr.build 29 #[(0,aK)]).run prog w= .ok (.agg #[aK]) w:=by intro w;simp[Instr.build,Instr.fill,(OwR.cells 1 m aL rfl),A7,AX,AN,AS,AG,A6]
   refine Bn f Z Z aM λa f=>Am 2 0 (ds:=[aK]) m sizeOf29 f Z Z Z (Ah (OwR.one1 1 m aL Z) Ap) Z (lb Z) Z λw m=>Ac f Z λa f=>Aa ?_
   refine Ao ?_
   have aN:=A9 (P:=prog) 2 m Bd f (s:=2) rfl rfl rfl
   have m:=m.fr 1
   have m:=m.eraseAt 3
   have m:Mem W aw w (aJ::aE::H):=m.eraseAt 2
   have m:=m.eraseAt 1
   obtain rfl:=sj hd
   exact⟨[(.agg #[aK]),(.bool true)],⟨aN,f.get _ _ Z,trivial⟩,f.d,_,[aJ],(gt ai (gt al ay)),m,_,_,Z,Z,aL⟩
theorem Wk.j0 {x0:Int}(hW:TabW W)(m:Mem W G w (H)){y:Int}(hd:D.j0 x0=some y):
  Calls prog 86 #[(.int .u32 x0)] w (Res W G H (λ_ Ho v=>Ho=[]∧v=(iv y))):=by
 refine Ax (args:=[(.int .u32 x0)]) (N:=5) [.tmp 2] func86 Z Z (lb Z) Z λa f=> ?_
 unfold D.j0 at hd
 refine Af ?_
 refine Ac f Z λa f=>AD ?_
 refine Ab f Z λa f=> ?_
 have⟨aa,ab,hd⟩:=bind_some hd
 refine Bb f Z call93 (Wk.U0 hW m ab) λac w ad m a f=>Ac f Z λa f=>Aa ?_
 refine Ao ?_
 obtain rfl:=sj hd
 exact⟨[(iv aa)],f.g Z,f.d,_,[],ad,m,Z,Z⟩
theorem Wk.Q {x0:Int}(hW:TabW W)(m:Mem W G w (H)){y:(LI)}(hd:D.Q x0=some y):
  Calls prog 70 #[(.int .u32 x0)] w (Res W G H (λG' Ho v=>∃r0:Value,∃i0:Itm,Ho=[i0]∧r0=v∧Ow R0 3 G' i0 r0 y)):=by
 refine Ax (args:=[(.int .u32 x0)]) (N:=17) [.tmp 2] func70 Z Z (lb Z) Z λa f=> ?_
 unfold D.Q at hd
 refine Af ?_
 refine Ac f Z λa f=>AD ?_
 refine AI (R:=R0) (xs:=([]:LI)) (RI.one _) m CR f Z Z Z (by decide) (All2.nil _) λaa ab w a m ac f=>Ac f Z λa f=>Aa (Ak ?_)
 have⟨ad,ae,hd⟩:=bind_some hd
 refine AT (λa w=>∃af:LI,af=ad∧∃(ag:GH) (ah:Value) (ai:Itm),GLe G ag∧Fr a 17 [(3,ah)]∧Mem W ag w (ai::H)∧Ow R0 3 ag ai ah af) ?_ ?_
 ·refine As ?_
  refine A1 (λaj a w=>∃ak:Int,∃al:LI,(ak,al)=aj∧∃(am:GH) (an:Value) (ao:Itm),GLe G am∧Fr a 17 [(0,(.int .u32 ak)),(3,an)]∧Mem W am w (ao::H)∧Ow R0 3 am ao an al) ae ⟨_,_,Z,_,ab,aa,gr,f.k Z,m,ac⟩ ?_
  clear ae f m
  rintro aj ap aq ar a w ⟨ak,al,rfl,am,an,ao,au,f,m,av⟩
  refine Ak (Af ?_)
  refine Ab f Z λa f=>Aj f Z Z C7 λa f=>Aa ?_
  rcases Ae aq with⟨aw,aq⟩|⟨aw,aq⟩
  ·refine Al f Z aw ?_
   refine Aq ?_
   refine Ak (As (Ai ?_))
   refine Ab f Z λa f=>Ab f Z λa f=> ?_
   have⟨ax,ay,aq⟩:=bind_some aq
   refine Bb f Z call86 (Wk.j0 hW m ay) λaz w aA m a f=> ?_
   have av:=od1 aA av
   refine AI (R:=R0) (xs:=([ax]:LI)) (RI.one _) m CR f Z Z Z (by decide) (All2.cons Z (All2.nil _)) λaB aC w a m aD f=> ?_
   have⟨aE,aF,aq⟩:=bind_some aq
   refine AP (RI.one _) 1 m av Z CR Z (by decide) f Z Z Z (Ow.src (j:=0) aD m Z) aF λaG aH w a m aI f=>Ac f Z λa f=>Aa (Ai ?_)
   refine Ab f Z λa f=>Ab f Z λa f=>Aj f Z Z Bw λa f=>Aj f Z Z C6 λa f=>Ac f Z λa f=>Aa ?_
   have m:=m.fr 1
   have m:=m.eraseAt 1
   obtain rfl:=sj aq
   exact⟨_,Z,_,_,Z,_,aH,aG,(gt au aA),f.k Z,m,aI⟩
  ·refine Ag f Z aw ?_
   refine AZ Z ?_
   obtain rfl:=sj aq
   obtain rfl:=ar _ rfl
   exact⟨_,Z,_,an,ao,au,f.k Z,m,av⟩
 ·rintro a w ⟨af,rfl,ag,ah,ai,aJ,f,m,aK⟩
  refine Af ?_
  refine Ab f Z λa f=>Ac f Z λa f=>Aa ?_
  refine Ao ?_
  obtain rfl:=sj hd
  exact⟨[ah],f.g Z,f.d,_,[ai],aJ,m,_,_,Z,Z,aK⟩
theorem Wk.s0 {v0:Value}{x0:LI}(m:Mem W G w (H))(h0:R1 G v0 x0){y:(LI)}(hd:D.s0 x0=some y):
  Calls prog 69 #[v0] w (Res W G H (λG' Ho v=>∃r0:Value,∃i0:Itm,Ho=[i0]∧r0=v∧Ow R0 2 G' i0 r0 y)):=by
 refine Ax (args:=[v0]) (N:=21) [.tmp 2] func69 Z Z (lb Z) Z λa f=> ?_
 unfold D.s0 at hd
 refine Af ?_
 refine Ac f Z λa f=>AD ?_
 refine Ab f Z λa f=>Bc underlying106 f Z Z h0 λa f=> ?_
 have⟨aa,ab,hd⟩:=bind_some hd
 refine l_make (R:=R0) m T30 Z (by decide) Z f Z Z Z ab λac ad w a m ae f=>Ac f Z λa f=>Aa (Ak (Af ?_))
 refine Ab f Z λa f=>Bc underlying106 f Z Z h0 λa f=>Ab f Z λa f=>Aa ?_
 have⟨af,ag,hd⟩:=bind_some hd
 refine AT (λa w=>∃ah:LI,ah=af∧∃(ai:GH) (aj:Value) (ak:Itm),GLe G ai∧Fr a 21 [(3,aj)]∧Mem W ai w (ak::H)∧Ow R0 2 ai ak aj ah) ?_ ?_
 ·refine As ?_
  refine A1 (λal a w=>∃am:LI,∃an:Int,(am,an)=al∧∃(ao:GH) (ap:Value) (aq:Itm),GLe G ao∧Fr a 21 [(3,ap),(9,v0),(10,(iv (x0.length:Int))),(11,(iv an))]∧Mem W ao w (aq::H)∧Ow R0 2 ao aq ap am) ag ⟨_,_,Z,_,ad,ac,gr,f.k Z,m,ae⟩ ?_
  clear ag f m
  rintro al ar au av a w ⟨am,an,rfl,ao,ap,aq,aw,f,m,ax⟩
  have h0:=rd1 aw h0
  refine Af ?_
  refine Aj f Z Z A3 λa f=>Aa (Ak ?_)
  rcases Ae au with⟨ay,au⟩|⟨ay,au⟩
  ·refine Al f Z ay ?_
   refine Aq ?_
   refine Ak (As (Af ?_))
   have⟨az,aA,au⟩:=bind_some au
   refine BT CR f Z Z Z h0 aA λaB aC a aD aE f=> ?_
   subst aE
   refine Bh m Pl3 f Z Z aD λa f=>Ac f Z λa f=>Aa (Ai ?_)
   refine Ab f Z λa f=>Ab f Z λa f=>AI (R:=R0) (xs:=([az]:LI)) (RI.one _) m T30 f Z Z Z (by decide) (All2.cons Z (All2.nil _)) λaF aG w a m aH f=> ?_
   have⟨aI,aJ,au⟩:=bind_some au
   refine AP (RI.one _) 1 m ax Z T30 Z (by decide) f Z Z Z (Ow.src (j:=0) aH m Z) aJ λaK aL w a m aM f=>Ac f Z λa f=>Aa (Ai ?_)
   refine Aj f Z Z AA λa f=>Ab f Z λa f=>Aa ?_
   have m:=m.fr 1
   have m:=m.eraseAt 1
   obtain rfl:=sj au
   exact⟨_,Z,_,_,Z,_,aL,aK,aw,f.k Z,m,aM⟩
  ·refine Ag f Z ay ?_
   refine AZ Z ?_
   obtain rfl:=sj au
   obtain rfl:=av _ rfl
   exact⟨_,Z,_,ap,aq,aw,f.k Z,m,ax⟩
 ·rintro a w ⟨ah,rfl,ai,aj,ak,aN,f,m,aO⟩
  refine Af ?_
  refine Ab f Z λa f=>Ac f Z λa f=>Aa ?_
  refine Ao ?_
  obtain rfl:=sj hd
  exact⟨[aj],f.g Z,f.d,_,[ak],aN,m,_,_,Z,Z,aO⟩
theorem Wk.f0 {x0:Int}(hW:TabW W)(m:Mem W G w (H)){y:(LI)}(hd:D.f0 x0=some y):
  Calls prog 44 #[(.int .u32 x0)] w (Res W G H (λG' Ho v=>∃r0:Value,∃i0:Itm,Ho=[i0]∧r0=v∧Ow R0 2 G' i0 r0 y)):=by
 refine Ax (args:=[(.int .u32 x0)]) (N:=6) [.tmp 2] func44 Z Z (lb Z) Z λa f=> ?_
 unfold D.f0 at hd
 refine Af ?_
 refine Ac f Z λa f=>AD ?_
 refine Ab f Z λa f=> ?_
 have⟨aa,ab,hd⟩:=bind_some hd
 refine Ay f Z call70 (Wk.Q hW m ab) λac ad ae w af m ag a f=> ?_
 obtain⟨ah,ai,rfl,rfl,aj⟩:=ag
 have⟨ak,al,hd⟩:=bind_some hd
 refine Ay f Z call69 (Ow.lendCall (RI.mono _) 0 aj m Z (λam an m ao=>Wk.s0 m ao al) (λ_ G' _ _ ⟨a0,a1,e1,e2,o0⟩=>⟨a0,a1,e1,e2,Ow.free (RI.free _) G' o0⟩)) λap aq ar w au m av a f=> ?_
 obtain⟨aw,ax,rfl,rfl,ay⟩:=av
 refine Ac f Z λa f=>Aa ?_
 refine Ao ?_
 have m:=m.eraseAt 1
 obtain rfl:=sj hd
 exact⟨[aw],f.g Z,f.d,_,[ax],(gt af au),m,_,_,Z,Z,ay⟩
theorem Wk.m0 {aa:Value}{ab:(List (Int×Int×Int))}(hW:TabW W)(m:Mem W G w (H))(ac:RSr P3 G aa ab){y:(LI)}(hd:D.m0 ab=some y):
  Calls prog 11 #[(.agg #[aa])] w (Res W G H (λG' Ho v=>∃r0:Value,∃i0:Itm,Ho=[i0]∧r0=v∧Ow R0 2 G' i0 r0 y)):=by
 refine Ax (args:=[(.agg #[aa])]) (N:=16) [.tmp 2] func11 Z Z (lb Z) Z λa f=> ?_
 unfold D.m0 at hd
 refine Af ?_
 refine A4 (cs:=[aa]) m f Z Z Z λad w a m f=>Ac f Z λa f=>Aa (Ak (Af ?_))
 refine Ar 0 0 (ds:=[aa]) m Bd f Z Z Z Z Z λa f=> ?_
 have⟨ae,af,hd⟩:=bind_some hd
 refine Bb f Z call36 (Wk.O m ac af) λag w ah m a f=> ?_
 have ac:=RSr.mono trivial _ _ _ _ ah ac
 refine l_o f (Br (f.e Z)) λa f=>Aa ?_
 rcases Ae hd with⟨ai,hd⟩|⟨ai,hd⟩
 ·refine Al f Z ai ?_
  refine Af ?_
  refine Ac f Z λa f=>Aa ?_
  refine Ao ?_
  obtain⟨aj,m,ak⟩:=Ow.nil R0 2 m
  have m:=m.eraseAt 1
  obtain rfl:=sj hd
  exact⟨[sn],f.g Z,f.d,_,[aj],ah,m,_,_,Z,Z,ak⟩
 ·refine Ag f Z ai ?_
  refine Aq ?_
  refine Af ?_
  refine Ar 0 0 (ds:=[aa]) m Bd f Z Z Z Z Z λa f=> ?_
  have⟨al,am,hd⟩:=bind_some hd
  refine Ay f Z call43 (Wk.L m ac am) λan ao ap w aq m ar a f=> ?_
  obtain⟨au,av,rfl,rfl,aw⟩:=ar
  refine Ac f Z λa f=>AD ?_
  refine Ab f Z λa f=>Ab f Z λa f=>Cy 0 m aw Z underlying77 f Z Z λa f=>Aj f Z Z Bw λa f=> ?_
  have⟨ax,ay,hd⟩:=bind_some hd
  refine BQ 0 m aw Z T77 f Z Z Z ay λaz a aA f=>BM 0 m aw Z Pl60 f Z Z aA ay λaB a aC f=> ?_
  subst aC
  have⟨aD,aE,hd⟩:=bind_some hd
  refine Ay f Z call44 (Wk.f0 hW m aE) λaF aG aH w aI m aJ a f=> ?_
  obtain⟨aK,aL,rfl,rfl,aM⟩:=aJ
  refine Ac f Z λa f=>Aa ?_
  refine Ao ?_
  have m:=m.eraseAt 2
  have m:=m.eraseAt 1
  obtain rfl:=sj hd
  exact⟨[aK],f.g Z,f.d,_,[aL],(gt ah (gt aq aI)),m,_,_,Z,Z,aM⟩
theorem Wk.K0 {aa:Value}{ab:(List (Int×Int×Int))}(m:Mem W G w (H))(ac:RSr P3 G aa ab){y:Int}(hd:D.K0 ab=some y):
  Calls prog 46 #[(.agg #[aa])] w (Res W G H (λ_ Ho v=>Ho=[]∧v=(iv y))):=by
 refine Ax (args:=[(.agg #[aa])]) (N:=102) [.tmp 2] func46 Z Z (lb Z) Z λa f=> ?_
 unfold D.K0 at hd
 refine Af ?_
 refine A4 (cs:=[aa]) m f Z Z Z λad w a m f=>Ac f Z λa f=>AD ?_
 refine AI (R:=R0) (xs:=([]:LI)) (RI.one _) m T30 f Z Z Z (by decide) (All2.nil _) λae af w a m ag f=>Ac f Z λa f=>Aa (Ak (Af ?_))
 refine Ac f Z λa f=>Aa ?_
 have⟨ah,ai,hd⟩:=bind_some hd
 refine AT (λa w=>∃aj:LI,aj=ah∧∃(ak:GH) (al:Value) (am:Itm),GLe G ak∧Fr a 102 [(3,al)]∧Mem W ak w (am::H)∧Ow R0 2 ak am al aj) ?_ ?_
 ·refine As ?_
  have m:=m.fr 1
  refine A1 (λan a w=>∃ao:LI,∃ap:Int,(ao,ap)=an∧∃(aq:GH) (ar:Value) (au:Itm),GLe G aq∧Fr a 102 [(1,(pb ad)),(3,ar),(4,(iv ap))]∧Mem W aq w (ib ad 29 [aa]::au::H)∧Ow R0 2 aq au ar ao) ai ⟨_,_,Z,_,af,ae,gr,f.k Z,m,ag⟩ ?_
  clear ai f m
  rintro an av aw ax a w ⟨ao,ap,rfl,aq,ar,au,ay,f,m,az⟩
  have ac:=RSr.mono trivial _ _ _ _ ay ac
  refine Ak (Af ?_)
  refine Ab f Z λa f=>Az underlying29 Z sizeOf27 f Z λa f=>An 0 0 m BG f Z Z Z Z λa f=>CZ underlying27 f Z Z ac λa f=>Aj f Z Z A3 λa f=>Aa ?_
  rcases Ae aw with⟨aA,aw⟩|⟨aA,aw⟩
  ·refine Al f Z aA ?_
   refine Aq ?_
   refine Ak (As (Af ?_))
   refine Az underlying29 Z sizeOf27 f Z λa f=>An 0 0 m BG f Z Z Z Z λa f=>Ab f Z λa f=> ?_
   have⟨aB,aC,aw⟩:=bind_some aw
   refine l_atR (E:=P3) T27 f Z Z Z ac aC λaD a aE f=>C2 (E:=P3) [(iv aB.1),(iv aB.2.1),(iv aB.2.2)] m Cj f Z Z aE Z λa f=>AR (cs:=[(iv 0),(iv 0),(iv 0)]) zeroValue72 m f Z Z λaF w a m f=>Am 0 0 (ds:=[(iv aB.1),(iv aB.2.1),(iv aB.2.2)]) m sizeOf72 f Z Z Z (Ah Z (Ah Z (Ah Z Ap))) Z (lb Z) Z λw m=>AD ?_
   refine Ac f Z λa f=>Aa (Ak (Af ?_))
   refine Az underlying72 Z sizeOf2 f Z λa f=>An 0 0 m Pl2 f Z Z Z Z λa f=>Aa (As (Ak (Af ?_)))
   refine Aj f Z Z AH λa f=>Ac f Z λa f=>Aa ?_
   have⟨aG,aH,aw⟩:=bind_some aw
   refine AT (λa w=>∃aI:Bool,aI=aG∧∃(aJ:GH),GLe aq aJ∧Fr a 102 [(1,(pb ad)),(3,ar),(4,(iv ap)),(5,(pb aF)),(6,(iv 0)),(21,(iv aB.1)),(22,(.bool aI))]∧Mem W aJ w (ib ad 29 [aa]::ib aF 72 [(iv aB.1),(iv aB.2.1),(iv aB.2.2)]::au::H)) ?_ ?_
   ·rcases Ae aH with⟨aK,aH⟩|⟨aK,aH⟩
    ·refine Al f Z aK ?_
     refine Aq ?_
     have m:Mem W aq w (ib ad 29 [aa]::ib aF 72 [(iv aB.1),(iv aB.2.1),(iv aB.2.2)]::au::H):=m.fr 1
     obtain rfl:=sj aH
     exact⟨_,Z,_,gr,f.k Z,m⟩
    ·refine Ag f Z aK ?_
     refine Ai ?_
     refine Aj f Z Z AH λa f=>Ac f Z λa f=>Aa ?_
     have m:Mem W aq w (ib ad 29 [aa]::ib aF 72 [(iv aB.1),(iv aB.2.1),(iv aB.2.2)]::au::H):=m.fr 1
     obtain rfl:=sj aH
     exact⟨_,Z,_,gr,f.k Z,m⟩
   ·rintro a w ⟨aI,rfl,aJ,aL,f,m⟩
    have az:=od1 aL az
    rcases Ae aw with⟨aM,aw⟩|⟨aM,aw⟩
    ·refine Al f Z aM ?_
     refine Ai ?_
     refine Az underlying72 Z sizeOf2 f Z λa f=>An 1 1 m Pl2 f Z Z Z Z λa f=>l_o f (BI (f.e Z) ⟨_,underlying2⟩ underlying100) λa f=> ?_
     obtain⟨aN,aw⟩:=Bs aw
     refine l_o f (CU (f.e Z) (f.e Z) aN) λa f=>Az underlying72 Z sizeOf2 f Z λa f=>An 1 2 m Pl2 f Z Z Z Z λa f=>l_o f (BI (f.e Z) ⟨_,underlying2⟩ underlying100) λa f=> ?_
     obtain⟨aO,aw⟩:=Bs aw
     refine l_o f (CU (f.e Z) (f.e Z) aO) λa f=>Aj f Z Z b_or λa f=>Ac f Z λa f=>Aa (Ai ?_)
     refine Ab f Z λa f=>Ab f Z λa f=>AI (R:=R0) (xs:=([(ior .i64 (ishl .i64 1 (IntKind.u64.wrap aB.2.1)) (ishl .i64 1 (IntKind.u64.wrap aB.2.2)))]:LI)) (RI.one _) m T30 f Z Z Z (by decide) (All2.cons Z (All2.nil _)) λaP aQ w a m aR f=> ?_
     have⟨aS,aT,aw⟩:=bind_some aw
     refine AP (RI.one _) 3 m az Z T30 Z (by decide) f Z Z Z (Ow.src (j:=0) aR m Z) aT λaU aV w a m aW f=>Ac f Z λa f=>Aa (Ai ?_)
     refine Ab f Z λa f=>Aj f Z Z AA λa f=>Ac f Z λa f=>Aa ?_
     have m:=m.fr 3
     have m:=m.fr 2
     have m:Mem W aJ w (ib ad 29 [aa]::aU::aP::H):=m.eraseAt 3
     have m:=m.eraseAt 2
     obtain rfl:=sj aw
     exact⟨_,Z,_,_,Z,_,aV,aU,(gt ay aL),f.k Z,m,aW⟩
    ·refine Ag f Z aM ?_
     refine Af ?_
     refine Aj f Z Z AH λa f=>Ac f Z λa f=>Aa ?_
     rcases Ae aw with⟨aX,aw⟩|⟨aX,aw⟩
     ·refine Al f Z aX ?_
      refine Ai ?_
      refine Az underlying72 Z sizeOf2 f Z λa f=>An 1 1 m Pl2 f Z Z Z Z λa f=>l_o f (BI (f.e Z) ⟨_,underlying2⟩ underlying100) λa f=> ?_
      obtain⟨aY,aw⟩:=Bs aw
      refine l_o f (CU (f.e Z) (f.e Z) aY) λa f=>Az underlying72 Z sizeOf2 f Z λa f=>An 1 2 m Pl2 f Z Z Z Z λa f=>Aj f Z Z AA λa f=>l_o f (BI (f.e Z) ⟨_,underlying2⟩ underlying100) λa f=> ?_
      obtain⟨aZ,aw⟩:=Bs aw
      refine l_o f (CU (f.e Z) (f.e Z) aZ) λa f=>Aj f Z Z b_or λa f=>Ac f Z λa f=>Aa (Ai ?_)
      refine Ab f Z λa f=>Ab f Z λa f=>AI (R:=R0) (xs:=([(ior .i64 (ishl .i64 1 (IntKind.u64.wrap aB.2.1)) (ishl .i64 1 (IntKind.u64.wrap (i64.wrap (3+aB.2.2)))))]:LI)) (RI.one _) m T30 f Z Z Z (by decide) (All2.cons Z (All2.nil _)) λa0 a1 w a m a2 f=> ?_
      have⟨a3,a4,aw⟩:=bind_some aw
      refine AP (RI.one _) 3 m az Z T30 Z (by decide) f Z Z Z (Ow.src (j:=0) a2 m Z) a4 λa5 a6 w a m a7 f=>Ac f Z λa f=>Aa (Ai ?_)
      refine Ab f Z λa f=>Aj f Z Z AA λa f=>Ac f Z λa f=>Aa ?_
      have m:=m.fr 3
      have m:=m.fr 2
      have m:Mem W aJ w (ib ad 29 [aa]::a5::a0::H):=m.eraseAt 3
      have m:=m.eraseAt 2
      obtain rfl:=sj aw
      exact⟨_,Z,_,_,Z,_,a6,a5,(gt ay aL),f.k Z,m,a7⟩
     ·refine Ag f Z aX ?_
      refine Af ?_
      refine Aj f Z Z AH λa f=>Ac f Z λa f=>Aa ?_
      rcases Ae aw with⟨a8,aw⟩|⟨a8,aw⟩
      ·refine Al f Z a8 ?_
       refine Ai ?_
       refine Ab f Z λa f=>Az underlying72 Z sizeOf2 f Z λa f=>An 1 1 m Pl2 f Z Z Z Z λa f=> ?_
       have⟨a9,ba,aw⟩:=bind_some aw
       refine BQ 2 m az Z T30 f Z Z Z ba λbb a bc f=>BM 2 m az Z Pl2 f Z Z bc ba λbd a be f=> ?_
       subst be
       refine Ac f Z λa f=>Aa (Ai ?_)
       refine Ab f Z λa f=>Ab f Z λa f=>AI (R:=R0) (xs:=([a9]:LI)) (RI.one _) m T30 f Z Z Z (by decide) (All2.cons Z (All2.nil _)) λbf bg w a m bh f=> ?_
       have⟨bi,bj,aw⟩:=bind_some aw
       refine AP (RI.one _) 3 m az Z T30 Z (by decide) f Z Z Z (Ow.src (j:=0) bh m Z) bj λbk bl w a m bm f=>Ac f Z λa f=>Aa (Ai ?_)
       refine Ab f Z λa f=>Aj f Z Z AA λa f=>Ac f Z λa f=>Aa ?_
       have m:=m.fr 3
       have m:=m.fr 2
       have m:Mem W aJ w (ib ad 29 [aa]::bk::bf::H):=m.eraseAt 3
       have m:=m.eraseAt 2
       obtain rfl:=sj aw
       exact⟨_,Z,_,_,Z,_,bl,bk,(gt ay aL),f.k Z,m,bm⟩
      ·refine Ag f Z a8 ?_
       refine Ak (Af ?_)
       refine Aj f Z Z AH λa f=>Ac f Z λa f=>Aa ?_
       have⟨bn,bo,aw⟩:=bind_some aw
       refine AT (λa w=>∃bp:Bool,bp=bn∧∃(bq:GH),GLe aJ bq∧Fr a 102 [(1,(pb ad)),(3,ar),(4,(iv ap)),(5,(pb aF)),(6,(iv 0)),(21,(iv aB.1)),(53,(.bool bp))]∧Mem W bq w (ib ad 29 [aa]::ib aF 72 [(iv aB.1),(iv aB.2.1),(iv aB.2.2)]::au::H)) ?_ ?_
       ·rcases Ae bo with⟨br,bo⟩|⟨br,bo⟩
        ·refine Al f Z br ?_
         refine Aq ?_
         obtain rfl:=sj bo
         exact⟨_,Z,_,gr,f.k Z,m⟩
        ·refine Ag f Z br ?_
         refine Ai ?_
         refine Aj f Z Z AH λa f=>Ac f Z λa f=>Aa ?_
         obtain rfl:=sj bo
         exact⟨_,Z,_,gr,f.k Z,m⟩
       ·rintro a w ⟨bp,rfl,bq,bs,f,m⟩
        have az:=od1 bs az
        rcases Ae aw with⟨bt,aw⟩|⟨bt,aw⟩
        ·refine Al f Z bt ?_
         refine Bl 12 AQ (by kernel_rfl) m ?_
         refine AE 0 12 Z f Z λa f=>A5 1 12 underlying72 Z sizeOf2 Z f Z λa f=>Be 2 12 1 Pl2 Z Z Z f Z λa f=> ?_
         have⟨bu,bv,aw⟩:=bind_some aw
         refine Cw 3 12 2 m az T30 bv Z f Z Z λbw a bx f=>CI 4 12 2 az Pl2 bx bv Z f Z λbz a bA f=> ?_
         subst bA
         refine AE 5 12 Z f Z λa f=>A5 6 12 underlying72 Z sizeOf2 Z f Z λa f=>Be 7 12 1 Pl2 Z Z Z f Z λa f=> ?_
         have⟨bB,bC,aw⟩:=bind_some aw
         refine Cw 8 12 2 m az T30 bC Z f Z Z λbD a bE f=>CI 9 12 2 az Pl2 bE bC Z f Z λbF a bG f=> ?_
         subst bG
         refine q_p 10 12 Z f (λ_=>Bo (f.e Z) (f.e Z) b_or) λa f=>q_p 11 12 Z f (λ_=>Bi (f.e Z)) λa f=>A2 λbH w bI m=> ?_
         have az:=od1 bI az
         refine Aa (Ai ?_)
         refine Ab f Z λa f=>Ab f Z λa f=>AI (R:=R0) (xs:=([(ior .i64 bu bB)]:LI)) (RI.one _) m T30 f Z Z Z (by decide) (All2.cons Z (All2.nil _)) λbJ bK w a m bL f=> ?_
         have⟨bM,bN,aw⟩:=bind_some aw
         refine AP (RI.one _) 3 m az Z T30 Z (by decide) f Z Z Z (Ow.src (j:=0) bL m Z) bN λbO bP w a m bQ f=>Ac f Z λa f=>Aa (Ai ?_)
         refine Ab f Z λa f=>Aj f Z Z AA λa f=>Ac f Z λa f=>Aa ?_
         have m:=m.fr 3
         have m:=m.fr 2
         have m:Mem W bH w (ib ad 29 [aa]::bO::bJ::H):=m.eraseAt 3
         have m:=m.eraseAt 2
         obtain rfl:=sj aw
         exact⟨_,Z,_,_,Z,_,bP,bO,(gt ay (gt aL (gt bs bI))),f.k Z,m,bQ⟩
        ·refine Ag f Z bt ?_
         refine Af ?_
         refine Aj f Z Z AH λa f=>Ac f Z λa f=>Aa ?_
         rcases Ae aw with⟨bR,aw⟩|⟨bR,aw⟩
         ·refine Al f Z bR ?_
          refine Bl 11 AQ (by kernel_rfl) m ?_
          refine AE 0 11 Z f Z λa f=>A5 1 11 underlying72 Z sizeOf2 Z f Z λa f=>Be 2 11 1 Pl2 Z Z Z f Z λa f=> ?_
          have⟨bS,bT,aw⟩:=bind_some aw
          refine Cw 3 11 2 m az T30 bT Z f Z Z λbU a bV f=>CI 4 11 2 az Pl2 bV bT Z f Z λbW a bX f=> ?_
          subst bX
          refine A5 5 11 underlying72 Z sizeOf2 Z f Z λa f=>Be 6 11 1 Pl2 Z Z Z f Z λa f=>q_p 7 11 Z f (λ_=>BI (f.e Z) ⟨_,underlying2⟩ underlying100) λa f=> ?_
          obtain⟨bY,aw⟩:=Bs aw
          refine q_p 8 11 Z f (λ_=>CU (f.e Z) (f.e Z) bY) λa f=>q_p 9 11 Z f (λ_=>Bo (f.e Z) (f.e Z) DL) λa f=>q_p 10 11 Z f (λ_=>Bi (f.e Z)) λa f=>A2 λbZ w b0 m=> ?_
          have az:=od1 b0 az
          refine Aa (Ai ?_)
          refine Ab f Z λa f=>Ab f Z λa f=>AI (R:=R0) (xs:=([(iandNot .i64 bS (ishl .i64 1 (IntKind.u64.wrap aB.2.1)))]:LI)) (RI.one _) m T30 f Z Z Z (by decide) (All2.cons Z (All2.nil _)) λb1 b2 w a m b3 f=> ?_
          have⟨b4,b5,aw⟩:=bind_some aw
          refine AP (RI.one _) 3 m az Z T30 Z (by decide) f Z Z Z (Ow.src (j:=0) b3 m Z) b5 λb6 b7 w a m b8 f=>Ac f Z λa f=>Aa (Ai ?_)
          refine Ab f Z λa f=>Aj f Z Z AA λa f=>Ac f Z λa f=>Aa ?_
          have m:=m.fr 3
          have m:=m.fr 2
          have m:Mem W bZ w (ib ad 29 [aa]::b6::b1::H):=m.eraseAt 3
          have m:=m.eraseAt 2
          obtain rfl:=sj aw
          exact⟨_,Z,_,_,Z,_,b7,b6,(gt ay (gt aL (gt bs b0))),f.k Z,m,b8⟩
         ·refine Ag f Z bR ?_
          refine Af ?_
          refine Aj f Z Z AH λa f=>Ac f Z λa f=>Aa ?_
          rcases Ae aw with⟨b9,aw⟩|⟨b9,aw⟩
          ·refine Al f Z b9 ?_
           refine Bl 12 AQ (by kernel_rfl) m ?_
           refine AE 0 12 Z f Z λa f=>A5 1 12 underlying72 Z sizeOf2 Z f Z λa f=>Be 2 12 1 Pl2 Z Z Z f Z λa f=> ?_
           have⟨ca,cb,aw⟩:=bind_some aw
           refine Cw 3 12 2 m az T30 cb Z f Z Z λcc a cd f=>CI 4 12 2 az Pl2 cd cb Z f Z λce a cf f=> ?_
           subst cf
           refine A5 5 12 underlying72 Z sizeOf2 Z f Z λa f=>Be 6 12 1 Pl2 Z Z Z f Z λa f=>q_p 7 12 Z f (λ_=>Bo (f.e Z) (f.e Z) AA) λa f=>q_p 8 12 Z f (λ_=>BI (f.e Z) ⟨_,underlying2⟩ underlying100) λa f=> ?_
           obtain⟨cg,aw⟩:=Bs aw
           refine q_p 9 12 Z f (λ_=>CU (f.e Z) (f.e Z) cg) λa f=>q_p 10 12 Z f (λ_=>Bo (f.e Z) (f.e Z) DL) λa f=>q_p 11 12 Z f (λ_=>Bi (f.e Z)) λa f=>A2 λch w ci m=> ?_
           have az:=od1 ci az
           refine Aa (Ai ?_)
           refine Ab f Z λa f=>Ab f Z λa f=>AI (R:=R0) (xs:=([(iandNot .i64 ca (ishl .i64 1 (IntKind.u64.wrap (i64.wrap (3+aB.2.1)))))]:LI)) (RI.one _) m T30 f Z Z Z (by decide) (All2.cons Z (All2.nil _)) λcj ck w a m cl f=> ?_
           have⟨cm,cn,aw⟩:=bind_some aw
           refine AP (RI.one _) 3 m az Z T30 Z (by decide) f Z Z Z (Ow.src (j:=0) cl m Z) cn λco cp w a m cq f=>Ac f Z λa f=>Aa (Ai ?_)
           refine Ab f Z λa f=>Aj f Z Z AA λa f=>Ac f Z λa f=>Aa ?_
           have m:=m.fr 3
           have m:=m.fr 2
           have m:Mem W ch w (ib ad 29 [aa]::co::cj::H):=m.eraseAt 3
           have m:=m.eraseAt 2
           obtain rfl:=sj aw
           exact⟨_,Z,_,_,Z,_,cp,co,(gt ay (gt aL (gt bs ci))),f.k Z,m,cq⟩
          ·refine Ag f Z b9 ?_
           refine Aq ?_
           refine Ai ?_
           refine Ab f Z λa f=>Ab f Z λa f=>AI (R:=R0) (xs:=([0]:LI)) (RI.one _) m T30 f Z Z Z (by decide) (All2.cons Z (All2.nil _)) λcr ct w a m cu f=> ?_
           have⟨cv,cw,aw⟩:=bind_some aw
           refine AP (RI.one _) 3 m az Z T30 Z (by decide) f Z Z Z (Ow.src (j:=0) cu m Z) cw λcx cy w a m cz f=>Ac f Z λa f=>Aa (Ai ?_)
           refine Ab f Z λa f=>Aj f Z Z AA λa f=>Ac f Z λa f=>Aa ?_
           have m:=m.fr 3
           have m:=m.fr 2
           have m:Mem W bq w (ib ad 29 [aa]::cx::cr::H):=m.eraseAt 3
           have m:=m.eraseAt 2
           obtain rfl:=sj aw
           exact⟨_,Z,_,_,Z,_,cy,cx,(gt ay (gt aL bs)),f.k Z,m,cz⟩
  ·refine Ag f Z aA ?_
   refine AZ Z ?_
   have m:=m.fr 1
   have m:=m.eraseAt 1
   obtain rfl:=sj aw
   obtain rfl:=ax _ rfl
   exact⟨_,Z,_,ar,au,ay,f.k Z,m,az⟩
 ·rintro a w ⟨aj,rfl,ak,al,am,cA,f,m,cB⟩
  refine Af ?_
  refine Ab f Z λa f=>Ab f Z λa f=>Cy 0 m cB Z underlying30 f Z Z λa f=>Aj f Z Z Bw λa f=> ?_
  have⟨cC,cD,hd⟩:=bind_some hd
  refine BQ 0 m cB Z T30 f Z Z Z cD λcE a cF f=>BM 0 m cB Z Pl2 f Z Z cF cD λcG a cH f=> ?_
  subst cH
  refine Ac f Z λa f=>Aa ?_
  refine Ao ?_
  have m:Mem W ak w H:=Mem.drop (H':=[am]) m
  obtain rfl:=sj hd
  exact⟨[(iv cC)],f.g Z,f.d,_,[],cA,m,Z,Z⟩
theorem Wk.z0 {x0:Int}(m:Mem W G w (H)){y:(LI)}(hd:D.z0 x0=some y):
  Calls prog 45 #[(iv x0)] w (Res W G H (λG' Ho v=>∃r0:Value,∃i0:Itm,Ho=[i0]∧r0=v∧Ow R0 2 G' i0 r0 y)):=by
 refine Ax (args:=[(iv x0)]) (N:=24) [.tmp 2] func45 Z Z (lb Z) Z λa f=> ?_
 unfold D.z0 at hd
 refine Af ?_
 refine Ac f Z λa f=>AD ?_
 refine AI (R:=R0) (xs:=([]:LI)) (RI.one _) m T30 f Z Z Z (by decide) (All2.nil _) λaa ab w a m ac f=>Ac f Z λa f=>Aa (Ak (Af ?_))
 refine Ac f Z λa f=>Aa ?_
 have⟨ad,ae,hd⟩:=bind_some hd
 refine AT (λa w=>∃af:LI,af=ad∧∃(ag:GH) (ah:Value) (ai:Itm),GLe G ag∧Fr a 24 [(3,ah)]∧Mem W ag w (ai::H)∧Ow R0 2 ag ai ah af) ?_ ?_
 ·refine As ?_
  refine A1 (λaj a w=>∃ak:LI,∃al:Int,(ak,al)=aj∧∃(am:GH) (an:Value) (ao:Itm),GLe G am∧Fr a 24 [(0,(iv x0)),(3,an),(4,(iv al))]∧Mem W am w (ao::H)∧Ow R0 2 am ao an ak) ae ⟨_,_,Z,_,ab,aa,gr,f.k Z,m,ac⟩ ?_
  clear ae f m
  rintro aj ap aq ar a w ⟨ak,al,rfl,am,an,ao,au,f,m,av⟩
  refine Ak (Af ?_)
  refine Ab f Z λa f=>Ab f Z λa f=>l_o f (BI (f.e Z) ⟨_,underlying2⟩ underlying100) λa f=> ?_
  obtain⟨aw,aq⟩:=Bs aq
  refine l_o f (Dd (f.e Z) (f.e Z) aw) λa f=>Aj f Z Z CS λa f=>Aa ?_
  rcases Ae aq with⟨ax,aq⟩|⟨ax,aq⟩
  ·refine Al f Z ax ?_
   refine Aq ?_
   refine Ak (As (Af ?_))
   refine Ab f Z λa f=>Ab f Z λa f=>l_o f (BI (f.e Z) ⟨_,underlying2⟩ underlying100) λa f=> ?_
   obtain⟨ay,aq⟩:=Bs aq
   refine l_o f (Dd (f.e Z) (f.e Z) ay) λa f=>Aj f Z Z C6 λa f=>Aj f Z Z AH λa f=>Aa ?_
   rcases Ae aq with⟨az,aq⟩|⟨az,aq⟩
   ·refine Al f Z az ?_
    refine Ai ?_
    refine Ab f Z λa f=>Ab f Z λa f=>AI (R:=R0) (xs:=([al]:LI)) (RI.one _) m T30 f Z Z Z (by decide) (All2.cons Z (All2.nil _)) λaA aB w a m aC f=> ?_
    have⟨aD,aE,aq⟩:=bind_some aq
    refine AP (RI.one _) 1 m av Z T30 Z (by decide) f Z Z Z (Ow.src (j:=0) aC m Z) aE λaF aG w a m aH f=>Ac f Z λa f=>Aa (Ai ?_)
    refine Ab f Z λa f=>Aj f Z Z AA λa f=>Ac f Z λa f=>Aa ?_
    have m:=m.fr 1
    have m:=m.eraseAt 1
    obtain rfl:=sj aq
    exact⟨_,Z,_,_,Z,_,aG,aF,au,f.k Z,m,aH⟩
   ·refine Ag f Z az ?_
    refine Aq ?_
    refine Ai ?_
    refine Ab f Z λa f=>Aj f Z Z AA λa f=>Ac f Z λa f=>Aa ?_
    obtain rfl:=sj aq
    exact⟨_,Z,_,_,Z,_,an,ao,au,f.k Z,m,av⟩
  ·refine Ag f Z ax ?_
   refine AZ Z ?_
   obtain rfl:=sj aq
   obtain rfl:=ar _ rfl
   exact⟨_,Z,_,an,ao,au,f.k Z,m,av⟩
 ·rintro a w ⟨af,rfl,ag,ah,ai,aI,f,m,aJ⟩
  refine Af ?_
  refine Ab f Z λa f=>Ac f Z λa f=>Aa ?_
  refine Ao ?_
  obtain rfl:=sj hd
  exact⟨[ah],f.g Z,f.d,_,[ai],aI,m,_,_,Z,Z,aJ⟩
theorem Wk.r0 {aa:Value}{ab:(List (Int×Int×Int))}(m:Mem W G w (H))(ac:RSr P3 G aa ab){y:(LI)}(hd:D.r0 ab=some y):
  Calls prog 13 #[(.agg #[aa])] w (Res W G H (λG' Ho v=>∃r0:Value,∃i0:Itm,Ho=[i0]∧r0=v∧Ow R0 2 G' i0 r0 y)):=by
 refine Ax (args:=[(.agg #[aa])]) (N:=10) [.tmp 2] func13 Z Z (lb Z) Z λa f=> ?_
 unfold D.r0 at hd
 refine Af ?_
 refine A4 (cs:=[aa]) m f Z Z Z λad w a m f=>Ac f Z λa f=>Aa (Ak (Af ?_))
 refine Ar 0 0 (ds:=[aa]) m Bd f Z Z Z Z Z λa f=> ?_
 have⟨ae,af,hd⟩:=bind_some hd
 refine Bb f Z call9 (Wk.u m ac af) λag w ah m a f=> ?_
 have ac:=RSr.mono trivial _ _ _ _ ah ac
 refine l_o f (Br (f.e Z)) λa f=>Aa ?_
 rcases Ae hd with⟨ai,hd⟩|⟨ai,hd⟩
 ·refine Al f Z ai ?_
  refine Af ?_
  refine AI (R:=R0) (xs:=([]:LI)) (RI.one _) m T30 f Z Z Z (by decide) (All2.nil _) λaj ak w a m al f=>Ac f Z λa f=>Aa ?_
  refine Ao ?_
  have m:=m.eraseAt 1
  obtain rfl:=sj hd
  exact⟨[ak],f.g Z,f.d,_,[aj],ah,m,_,_,Z,Z,al⟩
 ·refine Ag f Z ai ?_
  refine Aq ?_
  refine Af ?_
  refine Ar 0 0 (ds:=[aa]) m Bd f Z Z Z Z Z λa f=> ?_
  have⟨am,an,hd⟩:=bind_some hd
  refine Bb f Z call46 (Wk.K0 m ac an) λao w ap m a f=> ?_
  have⟨aq,ar,hd⟩:=bind_some hd
  refine Ay f Z call45 (Wk.z0 m ar) λau av aw w ax m ay a f=> ?_
  obtain⟨az,aA,rfl,rfl,aB⟩:=ay
  refine Ac f Z λa f=>Aa ?_
  refine Ao ?_
  have m:=m.eraseAt 1
  obtain rfl:=sj hd
  exact⟨[az],f.g Z,f.d,_,[aA],(gt ah (gt ap ax)),m,_,_,Z,Z,aB⟩
theorem Wk.M0 {v0 v1:Value}{x0 x1:LI}(m:Mem W G w (H))(h0:R1 G v0 x0)(h1:R1 G v1 x1){y:Bool}(hd:D.M0 x0 x1=some y):
  Calls prog 12 #[v0,v1] w (Res W G H (λ_ Ho v=>Ho=[]∧v=(.bool y))):=by
 refine Ax (args:=[v0,v1]) (N:=26) [.tmp 4] func12 Z Z (lb Z) Z λa f=> ?_
 unfold D.M0 at hd
 refine Af ?_
 refine Ac f Z λa f=>Aa (Ak (Af ?_))
 refine Ab f Z λa f=>Bc underlying30 f Z Z h0 λa f=>Ab f Z λa f=>Bc underlying30 f Z Z h1 λa f=>Aj f Z Z C7 λa f=>Aa ?_
 rcases Ae hd with⟨aa,hd⟩|⟨aa,hd⟩
 ·refine Al f Z aa ?_
  refine Af ?_
  refine Ac f Z λa f=>Aa ?_
  refine Ao ?_
  obtain rfl:=sj hd
  exact⟨[(.bool false)],f.g Z,f.d,_,[],gr,m,Z,Z⟩
 ·refine Ag f Z aa ?_
  refine Aq ?_
  refine Ak (Af ?_)
  refine Ac f Z λa f=>Aa ?_
  have⟨ab,ac,hd⟩:=bind_some hd
  refine AT (λa w=>∃q_36':Unit,ab= .inl q_36'∧∃(ad:GH),GLe G ad∧Fr a 26 []∧Mem W ad w (H)) ?_ ?_
  ·refine As ?_
   refine A1 (λae a w=>∃af:Int,af=ae∧∃(ag:GH),GLe G ag∧Fr a 26 [(0,v0),(1,v1),(5,(iv af))]∧Mem W ag w (H)) ac ⟨_,Z,_,gr,f.k Z,m⟩ ?_
   clear ac f m
   rintro ae ah ai aj a w ⟨af,rfl,ag,ak,f,m⟩
   have h0:=rd1 ak h0
   have h1:=rd1 ak h1
   refine Ak (Af ?_)
   refine Ab f Z λa f=>Ab f Z λa f=>Bc underlying30 f Z Z h0 λa f=>Aj f Z Z A3 λa f=>Aa ?_
   rcases Ae ai with⟨al,ai⟩|⟨al,ai⟩
   ·refine Al f Z al ?_
    refine Aq ?_
    refine Ak (As (Ak ?_))
    refine Bl 9 AQ (by kernel_rfl) m ?_
    refine AE 0 9 Z f Z λa f=>AE 1 9 Z f Z λa f=> ?_
    have⟨am,an,ai⟩:=bind_some ai
    refine BU 2 9 T30 h0 an Z f Z Z λao ap a aq ar f=> ?_
    subst ar
    refine BV 3 9 Pl2 aq Z f Z λa f=>AE 4 9 Z f Z λa f=>AE 5 9 Z f Z λa f=> ?_
    have⟨au,av,ai⟩:=bind_some ai
    refine BU 6 9 T30 h1 av Z f Z Z λaw ax a ay az f=> ?_
    subst az
    refine BV 7 9 Pl2 ay Z f Z λa f=>q_p 8 9 Z f (λ_=>Bo (f.e Z) (f.e Z) C7) λa f=>A2 λaA w aB m=>Aa ?_
    rcases Ae ai with⟨aC,ai⟩|⟨aC,ai⟩
    ·refine Al f Z aC ?_
     refine Af ?_
     refine Ac f Z λa f=>Aa ?_
     refine Ao ?_
     obtain rfl:=sj ai
     obtain rfl:=aj _ rfl
     obtain rfl:=sj hd
     exact⟨[(.bool false)],f.g Z,f.d,_,[],(gt ak aB),m,Z,Z⟩
    ·refine Ag f Z aC ?_
     refine Aq ?_
     refine Ai ?_
     refine Ab f Z λa f=>Aj f Z Z AA λa f=>Ac f Z λa f=>Aa ?_
     obtain rfl:=sj ai
     exact⟨_,Z,_,Z,_,(gt ak aB),f.k Z,m⟩
   ·refine Ag f Z al ?_
    refine AZ Z ?_
    obtain rfl:=sj ai
    obtain rfl:=aj _ rfl
    exact⟨_,Z,_,ak,f.weak trivial,m⟩
  ·rintro a w ⟨_,rfl,ad,aD,f,m⟩
   refine Af ?_
   refine Ac f Z λa f=>Aa ?_
   refine Ao ?_
   obtain rfl:=sj hd
   exact⟨[(.bool true)],f.g Z,f.d,_,[],aD,m,Z,Z⟩
theorem Wk.m {aa ab:Value}{ac:LL}{ad:(List (Int×Int×Int))}(m:Mem W G w (H))(ae:R2 G aa ac)(af:RSr P3 G ab ad){y:Bool}(hd:D.m ac ad=some y):
  Calls prog 14 #[(.agg #[aa]),(.agg #[ab])] w (Res W G H (λ_ Ho v=>Ho=[]∧v=(.bool y))):=by
 refine Ax (args:=[(.agg #[aa]),(.agg #[ab])]) (N:=16) [.tmp 4] func14 Z Z (lb Z) Z λa f=> ?_
 unfold D.m at hd
 refine Af ?_
 refine A4 (cs:=[aa]) m f Z Z Z λag w a m f=>A4 (cs:=[ab]) m f Z Z Z λah w a m f=>Ac f Z λa f=>AD ?_
 refine Ar 1 0 (ds:=[aa]) m AO f Z Z Z Z Z λa f=>Ar 0 0 (ds:=[ab]) m Bd f Z Z Z Z Z λa f=> ?_
 have⟨ai,aj,hd⟩:=bind_some hd
 refine Ay f Z call26 (Wk.F m ae af aj) λak al am w an m ao a f=> ?_
 rcases ao with⟨ap,rfl,rfl⟩|⟨aq,ap,ar,au,av,aw,ax,ay,az,aA,aB,aC,rfl,rfl,aD,aE,aF,aG,aH⟩
 ·subst ap
  replace hd:=DX hd
  refine Ac f Z λa f=>AD ?_
  refine Ab f Z λa f=>l_o f (r_ptr_neq (f.e Z) (f.e Z) underlying56) λa f=>Ab f Z λa f=>Au f Z λa f=>Au f Z λa f=>Au f Z λa f=>l_o f (AM (f.e Z) Z (f.e Z)) λa f=>Ac f Z λa f=>Aa ?_
  refine Ao ?_
  have m:Mem W al w H:=Mem.drop (H':=[ib ah 29 [ab],ib ag 26 [aa]]) m
  obtain rfl:=sj hd
  exact⟨[(.bool false)],f.g Z,f.d,_,[],an,m,Z,Z⟩
 ·subst ap
  replace hd:=D1 hd
  refine Ac f Z λa f=>AD ?_
  refine Ab f Z λa f=>l_o f (r_ptr_neq (f.e Z) (f.e Z) underlying56) λa f=>Ab f Z λa f=>Aw f Z ?_
  refine Ab f Z λa f=>Aw f Z ?_
  have aI:∀w,(Instr.build 63 #[]).run prog w= .ok (.agg #[(iv 0),(iv 0),(iv 0),(.int .u32 0),(.int .u32 0)]) w:=by intro w;simp[Instr.build,Instr.fill,A7,AX,AN,AS,AG,A6]
  refine Bn f Z Z aI λa f=>Aw f Z ?_
  obtain⟨aJ,aK,m,aL⟩:=Ow.stamp (RI.mono _) aD m
  have aF:=od1 aK aF
  have aG:=Ow.mono RB.mono aK aG
  have aH:=OwMd.mono trivial aK aH
  have aE:=RSr.mono trivial _ _ _ _ aK aE
  obtain⟨aM,aN,m,aO⟩:=Ow.stamp (RI.mono _) aF m
  have aG:=Ow.mono RB.mono aN aG
  have aH:=OwMd.mono trivial aN aH
  have aL:=rd1 aN aL
  have aE:=RSr.mono trivial _ _ _ _ aN aE
  obtain⟨aP,aQ,m,aR⟩:=Ow.stamp RB.mono aG m
  have aH:=OwMd.mono trivial aQ aH
  have aL:=rd1 aQ aL
  have aE:=RSr.mono trivial _ _ _ _ aQ aE
  have aO:=rd1 aQ aO
  have m:Mem W aP w (ib aC 90 [ar,av,aw,ay,aA]::aB::ib ah 29 [ab]::ib ag 26 [aa]::H):=m.fr 1
  have⟨aS,aT,hd⟩:=bind_some hd
  refine Ay f Z call30 (Wk.B m aL aE aO aR aH aT) λaU aV aW w aX m aY a f=> ?_
  obtain⟨aZ,a0,rfl,rfl,a1⟩:=aY
  refine l_o f (AK (f.e Z) Z (f.e Z)) λa f=>Ac f Z λa f=>Aa ?_
  refine Ao ?_
  have m:Mem W aV w H:=Mem.drop (H':=[ib aC 90 [ar,av,aw,ay,aZ],a0,ib ah 29 [ab],ib ag 26 [aa]]) m
  obtain rfl:=sj hd
  exact⟨[(.bool aS.1)],f.g Z,f.d,_,[],(gt an (gt aK (gt aN (gt aQ aX)))),m,Z,Z⟩
theorem Wk.C0 {v0:Value}{x0:LI}{x1:Int}(m:Mem W G w (H))(h0:RSl (RI .u8) G v0 x0){y:(LI)×Int×Int}(hd:D.C0 x0 x1=some y):
  Calls prog 15 #[v0,(.int .u64 x1)] w (Res W G H (λG' Ho v=>∃r0:Value,∃c1:Nat,Ho=[ib c1 83 [r0,(iv y.2.1),(.int .u64 y.2.2)]]∧v=(pb c1)∧RSl (RI .u8) G' r0 y.1)):=by
 refine Ax (args:=[v0,(.int .u64 x1)]) (N:=38) [.tmp 4] func15 Z Z (lb Z) Z λa f=> ?_
 unfold D.C0 at hd
 refine Af ?_
 refine Ac f Z λa f=>AD ?_
 refine Ab f Z λa f=>Ab f Z λa f=>Aj f Z Z Dh λa f=>Ab f Z λa f=>Bc underlying22 f Z Z h0 λa f=>l_o f (BI (f.e Z) ⟨_,underlying3⟩ underlying43) λa f=>Aj f Z Z AA λa f=> ?_
 have aa:∀w,(Instr.build 83 #[(0,v0),(2,(.int .u64 (IntKind.u64.wrap ((IntKind.u64.wrap (x1*7919))+(IntKind.u64.wrap (x0.length:Int))))))]).run prog w= .ok (.agg #[v0,(iv 0),(.int .u64 (IntKind.u64.wrap ((IntKind.u64.wrap (x1*7919))+(IntKind.u64.wrap (x0.length:Int)))))]) w:=by intro w;simp[Instr.build,Instr.fill,h0.cells,A7,AX,AN,AS,AG,A6]
 refine Bn f Z Z aa λa f=>A4 (cs:=[v0,(iv 0),(.int .u64 (IntKind.u64.wrap ((IntKind.u64.wrap (x1*7919))+(IntKind.u64.wrap (x0.length:Int)))))]) m f Z Z Z λab w a m f=>Ac f Z λa f=>Aa (Ak (Af ?_))
 refine Ac f Z λa f=>Aa ?_
 have⟨ac,ad,hd⟩:=bind_some hd
 refine AT (λa w=>∃ae:Int,ae=ac∧∃(af:GH),GLe G af∧Fr a 38 [(5,(pb ab))]∧Mem W af w (ib ab 83 [v0,(iv 0),(.int .u64 ae)]::H)) ?_ ?_
 ·refine As ?_
  refine A1 (λag a w=>∃ah:Int,∃ai:Int,(ah,ai)=ag∧∃(aj:GH),GLe G aj∧Fr a 38 [(0,v0),(5,(pb ab)),(6,(iv ah))]∧Mem W aj w (ib ab 83 [v0,(iv 0),(.int .u64 ai)]::H)) ad ⟨_,_,Z,_,gr,f.k Z,m⟩ ?_
  clear ad f m
  rintro ag ak al am a w ⟨ah,ai,rfl,aj,an,f,m⟩
  have h0:=rd1 an h0
  refine Ak (Af ?_)
  refine Ab f Z λa f=>Ab f Z λa f=>Bc underlying22 f Z Z h0 λa f=>Aj f Z Z A3 λa f=>Aa ?_
  rcases Ae al with⟨ao,al⟩|⟨ao,al⟩
  ·refine Al f Z ao ?_
   refine Aq ?_
   refine Ak (As ?_)
   refine Bl 15 AQ (by kernel_rfl) m ?_
   refine AE 0 15 Z f Z λa f=>AE 1 15 Z f Z λa f=>q_p 2 15 Z f (λ_=>AU (f.e Z)) λa f=>A5 3 15 underlying83 Z sizeOf43 Z f Z λa f=>Be 4 15 0 Pl43 Z Z Z f Z λa f=>q_p 5 15 Z f (λ_=>Bo (f.e Z) (f.e Z) Dh) λa f=>AE 6 15 Z f Z λa f=>AE 7 15 Z f Z λa f=> ?_
   have⟨ap,aq,al⟩:=bind_some al
   refine BU 8 15 T22 h0 aq Z f Z Z λar au a av aw f=> ?_
   subst aw
   refine BV 9 15 Pl5 av Z f Z λa f=>q_p 10 15 Z f (λ_=>BI (f.e Z) ⟨_,underlying5⟩ underlying43) λa f=>q_p 11 15 Z f (λ_=>Bo (f.e Z) (f.e Z) AA) λa f=>q_p 12 15 Z f (λ_=>Bo (f.e Z) (f.e Z) AA) λa f=>q_p 13 15 Z f (λ_=>AU (f.e Z)) λa f=>A5 14 15 underlying83 Z sizeOf43 Z f Z λa f=>A2 λax w ay m=>Am 0 2 (ds:=[(.int .u64 (IntKind.u64.wrap ((IntKind.u64.wrap ((IntKind.u64.wrap (ai*1099511628211))+(IntKind.u64.wrap ap)))+3)))]) m sizeOf43 f Z Z Z (Ah Z Ap) Z (lb Z) Z λw m=>Aa (Ai ?_)
   refine Ab f Z λa f=>Aj f Z Z AA λa f=>Ac f Z λa f=>Aa ?_
   obtain rfl:=sj al
   exact⟨_,Z,_,_,Z,_,(gt an ay),f.k Z,m⟩
  ·refine Ag f Z ao ?_
   refine AZ Z ?_
   obtain rfl:=sj al
   obtain rfl:=am _ rfl
   exact⟨_,Z,_,an,f.k Z,m⟩
 ·rintro a w ⟨ae,rfl,af,az,f,m⟩
  have h0:=rd1 az h0
  refine Af ?_
  refine Ab f Z λa f=>Ac f Z λa f=>Aa ?_
  refine Ao ?_
  obtain rfl:=sj hd
  exact⟨[(pb ab)],f.g Z,f.d,_,[ib ab 83 [v0,(iv 0),(.int .u64 ae)]],az,m,_,_,Z,Z,h0⟩
theorem Wk.T0 {b0:Nat}{aa:Value}{ab:LI}{ac ad x1:Int}(m:Mem W G w (ib b0 83 [aa,(iv ac),(.int .u64 ad)]::H))(ae:RSl (RI .u8) G aa ab){y:Int×(LI)×Int×Int}(hd:D.T0 ab ac ad x1=some y):
  Calls prog 49 #[(pb b0),(iv x1)] w (Res W G H (λG' Ho v=>∃r0:Value,Ho=[ib b0 83 [r0,(iv y.2.2.1),(.int .u64 y.2.2.2)]]∧v=(iv y.1)∧RSl (RI .u8) G' r0 y.2.1)):=by
 refine Ax (args:=[(pb b0),(iv x1)]) (N:=56) [.tmp 4] func49 Z Z (lb Z) Z λa f=> ?_
 unfold D.T0 at hd
 refine Af ?_
 refine Ac f Z λa f=>AD ?_
 refine Ab f Z λa f=>Ab f Z λa f=>l_o f (AU (f.e Z)) λa f=>Az underlying83 Z sizeOf43 f Z λa f=>An 0 2 m Pl43 f Z Z Z Z λa f=>Aj f Z Z Dh λa f=>Aj f Z Z AA λa f=>l_o f (AU (f.e Z)) λa f=>Az underlying83 Z sizeOf43 f Z λa f=>Am 0 2 (ds:=[(.int .u64 (IntKind.u64.wrap ((IntKind.u64.wrap (ad*6364136223846793005))+1442695040888963407)))]) m sizeOf43 f Z Z Z (Ah Z Ap) Z (lb Z) Z λw m=>AD ?_
 refine Ab f Z λa f=>l_o f (AU (f.e Z)) λa f=>Az underlying83 Z sizeOf43 f Z λa f=>An 0 2 m Pl43 f Z Z Z Z λa f=>l_o f (Dd (f.e Z) (f.e Z) (by decide)) λa f=>Aj f Z Z C6 λa f=>l_o f (BI (f.e Z) ⟨_,underlying43⟩ underlying2) λa f=>Ac f Z λa f=>Aa (Ak (Ak ?_))
 refine Bl 10 AQ (by kernel_rfl) m ?_
 refine AE 0 10 Z f Z λa f=>q_p 1 10 Z f (λ_=>AU (f.e Z)) λa f=>A5 2 10 underlying83 Z sizeOf3 Z f Z λa f=>Be 3 10 0 Pl3 Z Z Z f Z λa f=>AE 4 10 Z f Z λa f=>q_p 5 10 Z f (λ_=>AU (f.e Z)) λa f=>A5 6 10 underlying83 Z sizeOf22 Z f Z λa f=>Be 7 10 0 Pl22 Z Z Z f Z λa f=>q_len (i:=8) 10 underlying22 ae Z (by kernel_rfl) Z f Z Z Z λa f=>q_p 9 10 Z f (λ_=>Bo (f.e Z) (f.e Z) A3) λa f=>A2 λaf w ag m=> ?_
 have ae:=rd1 ag ae
 refine Aa ?_
 rcases Ae hd with⟨ah,hd⟩|⟨ah,hd⟩
 ·refine Al f Z ah ?_
  refine Ak ?_
  refine Bl 14 AQ (by kernel_rfl) m ?_
  refine AE 0 14 Z f Z λa f=>AE 1 14 Z f Z λa f=>q_p 2 14 Z f (λ_=>AU (f.e Z)) λa f=>A5 3 14 underlying83 Z sizeOf22 Z f Z λa f=>Be 4 14 0 Pl22 Z Z Z f Z λa f=>AE 5 14 Z f Z λa f=>q_p 6 14 Z f (λ_=>AU (f.e Z)) λa f=>A5 7 14 underlying83 Z sizeOf3 Z f Z λa f=>Be 8 14 0 Pl3 Z Z Z f Z λa f=> ?_
  have⟨ai,aj,hd⟩:=bind_some hd
  refine BU 9 14 T22 ae aj Z f Z Z λak al a am an f=> ?_
  subst an
  refine BV 10 14 Pl5 am Z f Z λa f=>q_p 11 14 Z f (λ_=>BI (f.e Z) ⟨_,underlying5⟩ underlying2) λa f=>q_p 12 14 Z f (λ_=>Bo (f.e Z) (f.e Z) AA) λa f=>q_p 13 14 Z f (λ_=>Bi (f.e Z)) λa f=>A2 λao w ap m=> ?_
  have ae:=rd1 ap ae
  refine Aa (Ai ?_)
  refine Ab f Z λa f=>Ab f Z λa f=>l_o f (AU (f.e Z)) λa f=>Az underlying83 Z sizeOf3 f Z λa f=>An 0 1 m Pl3 f Z Z Z Z λa f=>Aj f Z Z AA λa f=>l_o f (AU (f.e Z)) λa f=>Az underlying83 Z sizeOf3 f Z λa f=>Am 0 1 (ds:=[(iv (i64.wrap (ac+1)))]) m sizeOf3 f Z Z Z (Ah Z Ap) Z (lb Z) Z λw m=>AD ?_
  refine Ab f Z λa f=>Ab f Z λa f=> ?_
  obtain⟨aq,hd⟩:=Bs hd
  refine Aj f Z Z (b_rem aq) λa f=>Ac f Z λa f=>Aa ?_
  refine Ao ?_
  obtain rfl:=sj hd
  exact⟨[(iv (Int.tmod (i64.wrap ((i64.wrap (iand .u64 (BC .u64 (IntKind.u64.wrap ((IntKind.u64.wrap (ad*6364136223846793005))+1442695040888963407)) 33) 16777215))+(i64.wrap ai))) x1))],f.g Z,f.d,_,[ib b0 83 [aa,(iv (i64.wrap (ac+1))),(.int .u64 (IntKind.u64.wrap ((IntKind.u64.wrap (ad*6364136223846793005))+1442695040888963407)))]],(gt ag ap),m,_,Z,Z,ae⟩
 ·refine Ag f Z ah ?_
  refine Aq ?_
  refine Af ?_
  refine Ab f Z λa f=>Ab f Z λa f=> ?_
  obtain⟨ar,hd⟩:=Bs hd
  refine Aj f Z Z (b_rem ar) λa f=>Ac f Z λa f=>Aa ?_
  refine Ao ?_
  obtain rfl:=sj hd
  exact⟨[(iv (Int.tmod (i64.wrap (iand .u64 (BC .u64 (IntKind.u64.wrap ((IntKind.u64.wrap (ad*6364136223846793005))+1442695040888963407)) 33) 16777215)) x1))],f.g Z,f.d,_,[ib b0 83 [aa,(iv ac),(.int .u64 (IntKind.u64.wrap ((IntKind.u64.wrap (ad*6364136223846793005))+1442695040888963407)))]],ag,m,_,Z,Z,ae⟩
theorem Wk.o0 {b0:Nat}{aa ab:Value}{ac:LI}{ad ae:Int}{af:LL}(m:Mem W G w (ib b0 83 [aa,(iv ad),(.int .u64 ae)]::H))(ag:RSl (RI .u8) G aa ac)(ah:R2 G ab af){y:(LI)×(LI)×Int×Int}(hd:D.o0 ac ad ae af=some y):
  Calls prog 17 #[(pb b0),(.agg #[ab])] w (Res W G H (λG' Ho v=>∃r0:Value,∃i0:Itm,∃r2:Value,Ho=[i0,ib b0 83 [r2,(iv y.2.2.1),(.int .u64 y.2.2.2)]]∧r0=v∧Ow R0 2 G' i0 r0 y.1∧RSl (RI .u8) G' r2 y.2.1)):=by
 refine Ax (args:=[(pb b0),(.agg #[ab])]) (N:=36) [.tmp 4] func17 Z Z (lb Z) Z λa f=> ?_
 unfold D.o0 at hd
 refine Af ?_
 refine A4 (cs:=[ab]) m f Z Z Z λai w a m f=>Ac f Z λa f=>AD ?_
 refine AI (R:=R0) (xs:=([]:LI)) (RI.one _) m T30 f Z Z Z (by decide) (All2.nil _) λaj ak w a m al f=>Ac f Z λa f=>Aa (Ak (Af ?_))
 refine Ac f Z λa f=>Aa ?_
 have⟨am,an,hd⟩:=bind_some hd
 refine AT (λa w=>∃ao:LI,∃ap:LI,∃aq:Int,∃ar:Int,(ao,ap,aq,ar)=am∧∃(au:GH) (av:Value) (aw:Itm) (ax:Value),GLe G au∧Fr a 36 [(5,av)]∧Mem W au w (ib b0 83 [ax,(iv aq),(.int .u64 ar)]::aw::H)∧Ow R0 2 au aw av ao∧RSl (RI .u8) au ax ap) ?_ ?_
 ·refine As ?_
  have m:=m.fr 1
  have m:Mem W G w (ib b0 83 [aa,(iv ad),(.int .u64 ae)]::ib ai 26 [ab]::aj::H):=m.fr 2
  refine A1 (λay a w=>∃az:LI,∃aA:Int,∃aB:LI,∃aC:Int,∃aD:Int,(az,aA,aB,aC,aD)=ay∧∃(aE:GH) (aF:Value) (aG:Itm) (aH:Value),GLe G aE∧Fr a 36 [(0,(pb b0)),(3,(pb ai)),(5,aF),(6,(iv aA))]∧Mem W aE w (ib b0 83 [aH,(iv aC),(.int .u64 aD)]::ib ai 26 [ab]::aG::H)∧Ow R0 2 aE aG aF az∧RSl (RI .u8) aE aH aB) an ⟨_,_,_,_,_,Z,_,ak,aj,aa,gr,f.k Z,m,al,ag⟩ ?_
  clear an f m
  rintro ay aI aJ aK a w ⟨az,aA,aB,aC,aD,rfl,aE,aF,aG,aH,aL,f,m,aM,aN⟩
  have ah:=rd2 aL ah
  refine Ak (Af ?_)
  refine Ab f Z λa f=>Az underlying26 Z sizeOf24 f Z λa f=>An 1 0 m Bx f Z Z Z Z λa f=>Bc underlying24 f Z Z ah λa f=>Aj f Z Z A3 λa f=>Aa ?_
  rcases Ae aJ with⟨aO,aJ⟩|⟨aO,aJ⟩
  ·refine Al f Z aO ?_
   refine Aq ?_
   refine Ak (As (Af ?_))
   refine Ab f Z λa f=>Ab f Z λa f=>Aj f Z Z AA λa f=> ?_
   have⟨aP,aQ,aJ⟩:=bind_some aJ
   refine Ay f Z call49 (Wk.T0 m aN aQ) λaR aS aT w aU m aV a f=> ?_
   obtain⟨aW,rfl,rfl,aX⟩:=aV
   have aM:=od1 aU aM
   refine Ac f Z λa f=>AD ?_
   refine AI (R:=R0) (xs:=([]:LI)) (RI.one _) m T30 f Z Z Z (by decide) (All2.nil _) λaY aZ w a m a0 f=>Ab f Z λa f=>Ab f Z λa f=> ?_
   have m:Mem W aS w (aG::aY::ib b0 83 [aW,(iv aP.2.2.1),(.int .u64 aP.2.2.2)]::ib ai 26 [ab]::H):=m.fr 3
   obtain⟨a1,a2,m,a3⟩:=Ow.stamp (RI.mono _) aM m
   have a0:=od1 a2 a0
   have aX:=rd1 a2 aX
   have⟨a4,a5,aJ⟩:=bind_some aJ
   refine CN T30 f Z Z a3 (.inl ⟨Z,Z⟩) (.inr ⟨_,_,Z,Z⟩) a5 λa6 a a7 f=> ?_
   have⟨a8,a9,aJ⟩:=bind_some aJ
   refine AP (RI.one _) 0 m a0 Z T30 Z (by decide) f Z Z Z (a7.src m) a9 λba bb w a m bc f=>Ac f Z λa f=>AD ?_
   refine Ab f Z λa f=>Ab f Z λa f=>AI (R:=R0) (xs:=([aA]:LI)) (RI.one _) m T30 f Z Z Z (by decide) (All2.cons Z (All2.nil _)) λbd be w a m bf f=> ?_
   have⟨bg,bh,aJ⟩:=bind_some aJ
   refine AP (RI.one _) 1 m bc Z T30 Z (by decide) f Z Z Z (Ow.src (j:=0) bf m Z) bh λbi bj w a m bk f=>Ac f Z λa f=>Aa (Ai ?_)
   refine Ab f Z λa f=>Ab f Z λa f=>Ab f Z λa f=> ?_
   have⟨bl,bm,aJ⟩:=bind_some aJ
   refine CN T30 f Z Z a3 (.inr ⟨_,_,Z,Z⟩) (.inl ⟨Z,Z⟩) bm λbn a bo f=> ?_
   have⟨bp,bq,aJ⟩:=bind_some aJ
   refine AP (RI.one _) 1 m bk Z T30 Z (by decide) f Z Z Z (bo.src m) bq λbr bs w a m bt f=>Ac f Z λa f=>Aa (Ai ?_)
   refine Ab f Z λa f=>Aj f Z Z AA λa f=>Ac f Z λa f=>Aa ?_
   have m:=m.fr 1
   have m:=m.fr 3
   have m:Mem W a1 w (ib b0 83 [aW,(iv aP.2.2.1),(.int .u64 aP.2.2.2)]::ib ai 26 [ab]::br::bd::H):=m.fr 3
   have m:Mem W a1 w (ib b0 83 [aW,(iv aP.2.2.1),(.int .u64 aP.2.2.2)]::ib ai 26 [ab]::br::H):=m.eraseAt 3
   obtain rfl:=sj aJ
   exact⟨_,Z,_,_,_,_,_,Z,_,bs,br,aW,(gt aL (gt aU a2)),f.k Z,m,bt,aX⟩
  ·refine Ag f Z aO ?_
   refine AZ Z ?_
   have m:=m.fr 2
   have m:=m.fr 1
   have m:=m.eraseAt 2
   obtain rfl:=sj aJ
   obtain rfl:=aK _ rfl
   exact⟨_,_,_,_,Z,_,aF,aG,aH,aL,f.k Z,m,aM,aN⟩
 ·rintro a w ⟨ao,ap,aq,ar,rfl,au,av,aw,ax,bu,f,m,bv,bw⟩
  refine Af ?_
  refine Ab f Z λa f=>Ac f Z λa f=>Aa ?_
  refine Ao ?_
  have m:=m.fr 1
  obtain rfl:=sj hd
  exact⟨[av],f.g Z,f.d,_,[aw,ib b0 83 [ax,(iv aq),(.int .u64 ar)]],bu,m,_,_,_,Z,Z,bv,bw⟩
theorem Wk.b1 {aa v1:Value}{ab:LL}{x1:LI}(m:Mem W G w (H))(ac:R2 G aa ab)(h1:R1 G v1 x1){y:Bool}(hd:D.b1 ab x1=some y):
  Calls prog 71 #[(.agg #[aa]),v1] w (Res W G H (λ_ Ho v=>Ho=[]∧v=(.bool y))):=by
 refine Ax (args:=[(.agg #[aa]),v1]) (N:=34) [.tmp 4] func71 Z Z (lb Z) Z λa f=> ?_
 unfold D.b1 at hd
 refine Af ?_
 refine A4 (cs:=[aa]) m f Z Z Z λad w a m f=>Ac f Z λa f=>Aa (Ak (Af ?_))
 refine Ab f Z λa f=>Bc underlying30 f Z Z h1 λa f=>Ar 0 0 (ds:=[aa]) m AO f Z Z Z Z Z λa f=> ?_
 have⟨ae,af,hd⟩:=bind_some hd
 refine Bb f Z call40 (Wk.o m ac af) λag w ah m a f=> ?_
 have ac:=rd2 ah ac
 have h1:=rd1 ah h1
 refine Aj f Z Z C7 λa f=>Aa ?_
 rcases Ae hd with⟨ai,hd⟩|⟨ai,hd⟩
 ·refine Al f Z ai ?_
  refine Af ?_
  refine Ac f Z λa f=>Aa ?_
  refine Ao ?_
  have m:Mem W ag w H:=Mem.drop (H':=[ib ad 26 [aa]]) m
  obtain rfl:=sj hd
  exact⟨[(.bool false)],f.g Z,f.d,_,[],ah,m,Z,Z⟩
 ·refine Ag f Z ai ?_
  refine Aq ?_
  refine Ak (Af ?_)
  refine Ac f Z λa f=>Aa ?_
  have⟨aj,ak,hd⟩:=bind_some hd
  refine AT (λa w=>∃q_99':Unit,aj= .inl q_99'∧∃(al:GH),GLe ag al∧Fr a 34 []∧Mem W al w (H)) ?_ ?_
  ·refine As ?_
   refine A1 (λam a w=>∃an:Int,an=am∧∃(ao:GH),GLe ag ao∧Fr a 34 [(1,v1),(2,(pb ad)),(5,(iv an))]∧Mem W ao w (ib ad 26 [aa]::H)) ak ⟨_,Z,_,gr,f.k Z,m⟩ ?_
   clear ak f m
   rintro am ap aq ar a w ⟨an,rfl,ao,au,f,m⟩
   have h1:=rd1 au h1
   have ac:=rd2 au ac
   refine Ak (Af ?_)
   refine Ab f Z λa f=>Ab f Z λa f=>Bc underlying30 f Z Z h1 λa f=>Aj f Z Z A3 λa f=>Aa ?_
   rcases Ae aq with⟨av,aq⟩|⟨av,aq⟩
   ·refine Al f Z av ?_
    refine Aq ?_
    refine Ak (As (Ak ?_))
    refine Bl 17 AQ (by kernel_rfl) m ?_
    refine AY (i:=0) (ds:=[aa]) 17 0 AO Z Z Z Z (by kernel_rfl) Z f Z Z Z λa f=>AE 1 17 Z f Z λa f=>AE 2 17 Z f Z λa f=> ?_
    have⟨aw,ax,aq⟩:=bind_some aq
    refine BU 3 17 T30 h1 ax Z f Z Z λay az a aA aB f=> ?_
    subst aB
    refine BV 4 17 Pl2 aA Z f Z λa f=> ?_
    have⟨aC,aD,aq⟩:=bind_some aq
    refine BE (i:=5) 17 Z (by kernel_rfl) Z f Z Z Z call32 (λ_ _ w aE m=>Wk.S m (rd2 aE ac) aD) λa f=>q_p 6 17 Z f (λ_=>Br (f.e Z)) λa f=>AE 7 17 Z f Z λa f=> ?_
    have⟨aF,aG,aq⟩:=bind_some aq
    refine q_cut (fuel':=0) (listed':= #[true,true,true,true,true,true,true,true,true,true,true,true,true,true,true,true,true]) (λa=>Fr a 34 [(1,v1),(2,(pb ad)),(5,(iv an)),(14,(.bool (decide (an<(x1.length:Int))))),(17,(.agg #[aa])),(18,v1),(19,(iv an)),(20,ay),(21,(iv aw)),(22,(.bool aC)),(23,(.bool (!aC))),(24,(.bool (!aC))),(33,(.bool aF))]) ?_ ?_
    ·intro a f
     refine A2 λaH w aI m=>Aa ?_
     rcases Ae aq with⟨aJ,aq⟩|⟨aJ,aq⟩
     ·refine Al f Z aJ ?_
      refine Af ?_
      refine Ac f Z λa f=>Aa ?_
      refine Ao ?_
      have m:Mem W aH w H:=Mem.drop (H':=[ib ad 26 [aa]]) m
      obtain rfl:=sj aq
      obtain rfl:=ar _ rfl
      obtain rfl:=sj hd
      exact⟨[(.bool false)],f.g Z,f.d,_,[],(gt ah (gt au aI)),m,Z,Z⟩
     ·refine Ag f Z aJ ?_
      refine Aq ?_
      refine Ai ?_
      refine Ab f Z λa f=>Aj f Z Z AA λa f=>Ac f Z λa f=>Aa ?_
      obtain rfl:=sj aq
      exact⟨_,Z,_,Z,_,(gt au aI),f.k Z,m⟩
    ·intro aK
     rcases Ae aG with⟨aL,aG⟩|⟨aL,aG⟩
     ·refine Bp 8 17 Z f aL λa f=> ?_
      refine Bp 9 17 Z f aL λa f=>Bp 10 17 Z f aL λa f=>Bp 11 17 Z f aL λa f=>Bp 12 17 Z f aL λa f=>Bp 13 17 Z f aL λa f=>Bp 14 17 Z f aL λa f=>Bp 15 17 Z f aL λa f=>q_p 16 17 Z f (λ_=>AK (f.e Z) aL (f.e Z)) λa f=> ?_
      obtain rfl:=sj aG
      exact aK _ (f.k Z)
     ·refine AE (hw:=wo f aL) 8 17 Z f Z λa f=> ?_
      refine AE (hw:=wo f aL) 9 17 Z f Z λa f=> ?_
      have⟨aM,aN,aG⟩:=bind_some aG
      refine q_slice (i:=10) 17 T30 h1 aN Z (by kernel_rfl) Z f (Bv f Z Z Z aL) Z Z (.inl ⟨Z,Z⟩) (.inr ⟨_,_,Z,Z⟩) λaO a aP f=>AE (hw:=wo f aL) 11 17 Z f Z λa f=>AE (hw:=wo f aL) 12 17 Z f Z λa f=> ?_
      have⟨aQ,aR,aG⟩:=bind_some aG
      refine BU (hw:=wo f aL) 13 17 T30 h1 aR Z f Z Z λaS aT a aU aV f=> ?_
      subst aV
      refine BV (hw:=wo f aL) 14 17 Pl2 aU Z f Z λa f=> ?_
      have⟨aW,aX,aG⟩:=bind_some aG
      refine BE (i:=15) 17 Z (by kernel_rfl) Z f (Bv f Z Z Z aL) Z Z call42 (λ_ _ w aY m=>Wk.x m (rd1 aY aP) aX) λa f=>q_p 16 17 Z f (λ_=>AM (f.e Z) aL (f.e Z)) λa f=> ?_
      obtain rfl:=sj aG
      exact aK _ (f.k Z)
   ·refine Ag f Z av ?_
    refine AZ Z ?_
    have m:Mem W ao w H:=Mem.drop (H':=[ib ad 26 [aa]]) m
    obtain rfl:=sj aq
    obtain rfl:=ar _ rfl
    exact⟨_,Z,_,au,f.weak trivial,m⟩
  ·rintro a w ⟨_,rfl,al,aZ,f,m⟩
   refine Af ?_
   refine Ac f Z λa f=>Aa ?_
   refine Ao ?_
   obtain rfl:=sj hd
   exact⟨[(.bool true)],f.g Z,f.d,_,[],(gt ah aZ),m,Z,Z⟩
theorem Wk.I0 {aa v1:Value}{ab:LL}{x1:LI}(m:Mem W G w (H))(ac:R2 G aa ab)(h1:R1 G v1 x1){y:Bool}(hd:D.I0 ab x1=some y):
  Calls prog 47 #[(.agg #[aa]),v1] w (Res W G H (λ_ Ho v=>Ho=[]∧v=(.bool y))):=by
 refine Ax (args:=[(.agg #[aa]),v1]) (N:=12) [.tmp 4] func47 Z Z (lb Z) Z λa f=> ?_
 unfold D.I0 at hd
 refine Af ?_
 refine A4 (cs:=[aa]) m f Z Z Z λad w a m f=>Ac f Z λa f=>AD ?_
 refine Ar 0 0 (ds:=[aa]) m AO f Z Z Z Z Z λa f=> ?_
 have⟨ae,af,hd⟩:=bind_some hd
 refine Bb f Z call10 (Wk.z m ac af) λag w ah m a f=> ?_
 have ac:=rd2 ah ac
 have h1:=rd1 ah h1
 refine Ab f Z λa f=> ?_
 have⟨ai,aj,hd⟩:=bind_some hd
 refine Bg 4 (λa w=>∃ak,GLe ag ak∧Mem W ak w (ib ad 26 [aa]::H)∧Fr a 12 [(0,(.agg #[aa])),(1,v1),(2,(pb ad)),(5,(.agg #[aa])),(6,(.bool ae)),(7,(.bool ae)),(11,(.bool ai))]) ?_ ?_
 ·rcases Ae aj with⟨al,aj⟩|⟨al,aj⟩
  ·refine Aw f al ?_
   refine Ar 0 0 (ds:=[aa]) m AO f Z Z Z Z Z λa f=>Aw f al ?_
   refine Ab f Z λa f=>Aw f al ?_
   have⟨am,an,aj⟩:=bind_some aj
   refine Bb f Z call71 (Wk.b1 m ac h1 an) λao w ap m a f=>l_o f (AK (f.e Z) al (f.e Z)) λa f=> ?_
   obtain rfl:=sj aj
   exact⟨_,ap,m,f.k Z⟩
  ·refine Au f al λa f=> ?_
   refine Au f al λa f=>Au f al λa f=>l_o f (AM (f.e Z) al (f.e Z)) λa f=> ?_
   obtain rfl:=sj aj
   exact⟨_,gr,m,f.k Z⟩
 ·rintro a w ⟨ak,aq,m,f⟩
  refine Ac f Z λa f=>Aa ?_
  refine Ao ?_
  have m:Mem W ak w H:=Mem.drop (H':=[ib ad 26 [aa]]) m
  obtain rfl:=sj hd
  exact⟨[(.bool ai)],f.g Z,f.d,_,[],(gt ah aq),m,Z,Z⟩
theorem Wk.S0 {aa:Value}{ab:LL}{x1 x2:Int}(m:Mem W G w (H))(ac:R2 G aa ab){y:Bool}(hd:D.S0 ab x1 x2=some y):
  Calls prog 73 #[(.agg #[aa]),(iv x1),(iv x2)] w (Res W G H (λ_ Ho v=>Ho=[]∧v=(.bool y))):=by
 refine Ax (args:=[(.agg #[aa]),(iv x1),(iv x2)]) (N:=14) [.tmp 6] func73 Z Z (lb Z) Z λa f=> ?_
 unfold D.S0 at hd
 refine Af ?_
 refine A4 (cs:=[aa]) m f Z Z Z λad w a m f=>Ac f Z λa f=>AD ?_
 refine Az underlying26 Z sizeOf24 f Z λa f=>An 0 0 m Bx f Z Z Z Z λa f=>Ab f Z λa f=> ?_
 have⟨ae,af,hd⟩:=bind_some hd
 refine BT T24 f Z Z Z ac af λag ah a ai aj f=>Bh m BO f Z Z ai λa f=>Ab f Z λa f=> ?_
 have⟨ak,al,hd⟩:=bind_some hd
 refine Bb f Z call42 (Wk.x m aj al) λam w an m a f=>Ac f Z λa f=>Aa ?_
 refine Ao ?_
 have m:Mem W am w H:=Mem.drop (H':=[ib ad 26 [aa]]) m
 obtain rfl:=sj hd
 exact⟨[(.bool ak)],f.g Z,f.d,_,[],an,m,Z,Z⟩
theorem Wk.N0 {aa v1:Value}{ab:LL}{x1:LI}(m:Mem W G w (H))(ac:R2 G aa ab)(h1:R1 G v1 x1){y:(LL)}(hd:D.N0 ab x1=some y):
  Calls prog 48 #[(.agg #[aa]),v1] w (Res W G H (λG' Ho v=>∃r0:Value,∃i0:Itm,Ho=[i0]∧v=(.agg #[r0])∧Ow R1 30 G' i0 r0 y)):=by
 refine Ax (args:=[(.agg #[aa]),v1]) (N:=37) [.cell 4 26] func48 Z Z (lb Z) Z λa f=> ?_
 unfold D.N0 at hd
 refine Af ?_
 refine A4 (cs:=[aa]) m f Z Z Z λad w a m f=>AR (cs:=[sn]) zeroValue26 m f Z Z λae w a m f=>AD ?_
 refine Ab f Z λa f=>Bc underlying30 f Z Z h1 λa f=> ?_
 have⟨af,ag,hd⟩:=bind_some hd
 refine Ay f Z call72 (Wk.i m ag) λah ai aj w ak m al a f=> ?_
 obtain⟨am,an,rfl,rfl,ao⟩:=al
 have ac:=rd2 ak ac
 have h1:=rd1 ak h1
 refine AR (cs:=[sn]) zeroValue26 m f Z Z λap w a m f=>Am 0 0 (ds:=[am]) m sizeOf26 f Z Z Z (Ah (Ow.one1 1 m ao Z) Ap) Z (lb Z) Z λw m=>Aa (Ak (Af ?_))
 refine Ac f Z λa f=>Aa ?_
 have⟨aq,ar,hd⟩:=bind_some hd
 refine AT (λa w=>∃au:LL,au=aq∧∃(av:GH) (aw:Itm),GLe ai av∧Fr a 37 [(4,(pb ae)),(5,(pb ap))]∧Mem W av w (ib ae 26 [sn]::ib ap 26 [am]::aw::H)∧Ow R1 30 av aw am au) ?_ ?_
 ·refine As ?_
  have m:=m.fr 2
  have m:Mem W ai w (ib ad 26 [aa]::ib ae 26 [sn]::ib ap 26 [am]::an::H):=m.fr 3
  refine A1 (λax a w=>∃ay:Int,∃az:LL,(ay,az)=ax∧∃(aA:GH) (aB:Itm),GLe ai aA∧Fr a 37 [(1,v1),(2,(pb ad)),(4,(pb ae)),(5,(pb ap)),(6,(iv ay))]∧Mem W aA w (ib ad 26 [aa]::ib ae 26 [sn]::ib ap 26 [am]::aB::H)∧Ow R1 30 aA aB am az) ar ⟨_,_,Z,_,an,gr,f.k Z,m,ao⟩ ?_
  clear ar f m
  rintro ax aC aD aE a w ⟨ay,az,rfl,aA,aB,aF,f,m,aG⟩
  have h1:=rd1 aF h1
  have ac:=rd2 aF ac
  refine Ak (Af ?_)
  refine Ab f Z λa f=>Ab f Z λa f=>Bc underlying30 f Z Z h1 λa f=>Aj f Z Z A3 λa f=>Aa ?_
  rcases Ae aD with⟨aH,aD⟩|⟨aH,aD⟩
  ·refine Al f Z aH ?_
   refine Aq ?_
   refine Ak (As (Af ?_))
   refine Ac f Z λa f=>Aa ?_
   have⟨aI,aJ,aD⟩:=bind_some aD
   refine AT (λa w=>∃aK:LL,aK=aI∧∃(aL:GH) (aM:Itm),GLe aA aL∧Fr a 37 [(1,v1),(2,(pb ad)),(4,(pb ae)),(5,(pb ap)),(6,(iv ay))]∧Mem W aL w (ib ad 26 [aa]::ib ae 26 [sn]::ib ap 26 [am]::aM::H)∧Ow R1 30 aL aM am aK) ?_ ?_
   ·refine As ?_
    refine A1 (λaN a w=>∃aO:Int,∃aP:LL,(aO,aP)=aN∧∃(aQ:GH) (aR:Itm),GLe aA aQ∧Fr a 37 [(1,v1),(2,(pb ad)),(4,(pb ae)),(5,(pb ap)),(6,(iv ay)),(7,(iv aO))]∧Mem W aQ w (ib ad 26 [aa]::ib ae 26 [sn]::ib ap 26 [am]::aR::H)∧Ow R1 30 aQ aR am aP) aJ ⟨_,_,Z,_,aB,gr,f.k Z,m,aG⟩ ?_
    clear aJ f m
    rintro aN aS aT aU a w ⟨aO,aP,rfl,aQ,aR,aV,f,m,aW⟩
    have h1:=rd1 aV h1
    have ac:=rd2 aV ac
    refine Ak (Af ?_)
    refine Ab f Z λa f=>Ab f Z λa f=>Aj f Z Z A3 λa f=>Aa ?_
    rcases Ae aT with⟨aX,aT⟩|⟨aX,aT⟩
    ·refine Al f Z aX ?_
     refine Aq ?_
     refine Ak (As (Ak ?_))
     refine Bl 10 AQ (by kernel_rfl) m ?_
     refine AY (i:=0) (ds:=[aa]) 10 0 AO Z Z Z Z (by kernel_rfl) Z f Z Z Z λa f=>AE 1 10 Z f Z λa f=>AE 2 10 Z f Z λa f=> ?_
     have⟨aY,aZ,aT⟩:=bind_some aT
     refine BU 3 10 T30 h1 aZ Z f Z Z λa0 a1 a a2 a3 f=> ?_
     subst a3
     refine BV 4 10 Pl2 a2 Z f Z λa f=>AE 5 10 Z f Z λa f=>AE 6 10 Z f Z λa f=> ?_
     have⟨a4,a5,aT⟩:=bind_some aT
     refine BU 7 10 T30 h1 a5 Z f Z Z λa6 a7 a a8 a9 f=> ?_
     subst a9
     refine BV 8 10 Pl2 a8 Z f Z λa f=> ?_
     have⟨ba,bb,aT⟩:=bind_some aT
     refine BE (i:=9) 10 Z (by kernel_rfl) Z f Z Z Z call73 (λ_ _ w bc m=>Wk.S0 m (rd2 bc ac) bb) λa f=>A2 λbd w be m=> ?_
     have aW:=Ow.mono (RSl.mono (RI.mono _)) be aW
     refine Aa ?_
     rcases Ae aT with⟨bf,aT⟩|⟨bf,aT⟩
     ·refine Al f Z bf ?_
      refine Ai ?_
      refine Ar 2 0 (ds:=[am]) m AO f Z Z Z Z Z λa f=>Ab f Z λa f=>Ab f Z λa f=> ?_
      have m:Mem W bd w (aR::ib ad 26 [aa]::ib ae 26 [sn]::ib ap 26 [am]::H):=m.fr 3
      have⟨bg,bh,aT⟩:=bind_some aT
      refine Ay f Z call74 (Wk.j m aW bh) λbi bj bk w bl m bm a f=> ?_
      obtain⟨bn,rfl,rfl,bo⟩:=bm
      refine Am 3 0 (ds:=[am]) m sizeOf26 f Z Z Z (Ah (Ow.one1 0 m bo Z) Ap) Z (lb Z) Z λw m=>Aa (Ai ?_)
      refine Ab f Z λa f=>Aj f Z Z AA λa f=>Ac f Z λa f=>Aa ?_
      have m:=m.fr 3
      have m:=m.fr 3
      have m:Mem W bj w (ib ad 26 [aa]::ib ae 26 [sn]::ib ap 26 [am]::bn::H):=m.fr 3
      obtain rfl:=sj aT
      exact⟨_,Z,_,_,Z,_,bn,(gt aV (gt be bl)),f.k Z,m,bo⟩
     ·refine Ag f Z bf ?_
      refine Aq ?_
      refine Ai ?_
      refine Ab f Z λa f=>Aj f Z Z AA λa f=>Ac f Z λa f=>Aa ?_
      obtain rfl:=sj aT
      exact⟨_,Z,_,_,Z,_,aR,(gt aV be),f.k Z,m,aW⟩
    ·refine Ag f Z aX ?_
     refine AZ Z ?_
     obtain rfl:=sj aT
     obtain rfl:=aU _ rfl
     exact⟨_,Z,_,aR,aV,f.k Z,m,aW⟩
   ·rintro a w ⟨aK,rfl,aL,aM,bp,f,m,bq⟩
    refine Ai ?_
    refine Ab f Z λa f=>Aj f Z Z AA λa f=>Ac f Z λa f=>Aa ?_
    obtain rfl:=sj aD
    exact⟨_,Z,_,_,Z,_,aM,(gt aF bp),f.k Z,m,bq⟩
  ·refine Ag f Z aH ?_
   refine AZ Z ?_
   have m:=m.fr 3
   have m:=m.fr 3
   have m:Mem W aA w (ib ae 26 [sn]::ib ap 26 [am]::aB::ib ad 26 [aa]::H):=m.fr 3
   have m:=m.eraseAt 3
   obtain rfl:=sj aD
   obtain rfl:=aE _ rfl
   exact⟨_,Z,_,aB,aF,f.k Z,m,aG⟩
 ·rintro a w ⟨au,rfl,av,aw,br,f,m,bs⟩
  refine Af ?_
  refine Ar 1 0 (ds:=[am]) m AO f Z Z Z Z Z λa f=>Am 0 0 (ds:=[am]) m sizeOf26 f Z Z Z (Ah (Ow.one1 2 m bs Z) Ap) Z (lb Z) Z λw m=>Aa ?_
  refine Ao ?_
  have bt:=A9 (P:=prog) 0 m AO f (s:=4) rfl rfl rfl
  have m:=m.fr 2
  have m:=m.eraseAt 2
  have m:=m.eraseAt 1
  obtain rfl:=sj hd
  exact⟨[(.agg #[am])],⟨bt,trivial⟩,f.d,_,[aw],(gt ak br),m,_,_,Z,Z,bs⟩
theorem Wk.i0 {aa v1:Value}{ab:LL}{x1:LI}(m:Mem W G w (H))(ac:R2 G aa ab)(h1:R1 G v1 x1){y:(LL)×Bool}(hd:D.i0 ab x1=some y):
  Calls prog 16 #[(.agg #[aa]),v1] w (Res W G H (λG' Ho v=>∃r0:Value,∃i0:Itm,Ho=[i0]∧v= .tuple #[(.agg #[r0]),(.bool y.2)]∧Ow R1 30 G' i0 r0 y.1)):=by
 refine Ax (args:=[(.agg #[aa]),v1]) (N:=14) [.cell 4 26,.tmp 5] func16 Z Z (lb Z) Z λa f=> ?_
 unfold D.i0 at hd
 refine Af ?_
 refine A4 (cs:=[aa]) m f Z Z Z λad w a m f=>AR (cs:=[sn]) zeroValue26 m f Z Z λae w a m f=>Ac f Z λa f=>Aa (Ak (Af ?_))
 refine Ar 1 0 (ds:=[aa]) m AO f Z Z Z Z Z λa f=>Ab f Z λa f=> ?_
 have⟨af,ag,hd⟩:=bind_some hd
 refine Bb f Z call47 (Wk.I0 m ac h1 ag) λah w ai m a f=> ?_
 have ac:=rd2 ai ac
 have h1:=rd1 ai h1
 refine l_o f (Br (f.e Z)) λa f=>Aa ?_
 rcases Ae hd with⟨aj,hd⟩|⟨aj,hd⟩
 ·refine Al f Z aj ?_
  refine Af ?_
  have ak:∀w,(Instr.build 26 #[]).run prog w= .ok (.agg #[sn]) w:=by intro w;simp[Instr.build,Instr.fill,A7,AX,AN,AS,AG,A6]
  refine Bn f Z Z ak λa f=>Am 0 0 (ds:=[sn]) m sizeOf26 f Z Z Z (Ah Z Ap) Z (lb Z) Z λw m=>Ac f Z λa f=>Aa ?_
  refine Ao ?_
  obtain⟨al,m,am⟩:=Ow.nil R1 30 m
  have an:=A9 (P:=prog) 1 m AO f (s:=4) rfl rfl rfl
  have m:=m.eraseAt 2
  have m:=m.eraseAt 1
  obtain rfl:=sj hd
  exact⟨[(.agg #[sn]),(.bool false)],⟨an,f.get _ _ Z,trivial⟩,f.d,_,[al],ai,m,_,_,Z,Z,am⟩
 ·refine Ag f Z aj ?_
  refine Aq ?_
  refine Af ?_
  refine Ar 1 0 (ds:=[aa]) m AO f Z Z Z Z Z λa f=>Ab f Z λa f=> ?_
  have⟨ao,ap,hd⟩:=bind_some hd
  refine Ay f Z call48 (Wk.N0 m ac h1 ap) λaq ar au w av m aw a f=> ?_
  obtain⟨ax,ay,rfl,rfl,az⟩:=aw
  refine Am 1 0 (ds:=[ax]) m sizeOf26 f Z Z Z (Ah (Ow.one1 0 m az Z) Ap) Z (lb Z) Z λw m=>Ac f Z λa f=>Aa ?_
  refine Ao ?_
  have aA:=A9 (P:=prog) 1 m AO f (s:=4) rfl rfl rfl
  have m:=m.eraseAt 2
  have m:=m.eraseAt 1
  obtain rfl:=sj hd
  exact⟨[(.agg #[ax]),(.bool true)],⟨aA,f.get _ _ Z,trivial⟩,f.d,_,[ay],(gt ai av),m,_,_,Z,Z,az⟩
end Go.Proofs.YtblebdlmoffmjaaDoor

set_option maxRecDepth 100000
namespace Go.Proofs.YtblebdlmoffmjaaDoor
open Go Go.Sx
open Go.Proofs.Tryd Go.Proofs.YtblebdlmoffmjaaDoor.Tryd IntKind
variable {W w : World} {G : GH} {H : List Itm}
theorem Wk.O0 {aa ab:Value}{ac:LL}{ad:(List (Int×Int×Int))}(hW:TabW W)(m:Mem W G w (H))(ae:R2 G aa ac)(af:RSr P3 G ab ad){y:(LI)}(hd:D.O0 ac ad=some y):
  Calls prog 18 #[(.agg #[aa]),(.agg #[ab])] w (Res W G H (λG' Ho v=>∃r0:Value,∃i0:Itm,Ho=[i0]∧r0=v∧Ow R0 2 G' i0 r0 y)):=by
 refine Ax (args:=[(.agg #[aa]),(.agg #[ab])]) (N:=33) [.tmp 4] func18 Z Z (lb Z) Z λa f=> ?_
 unfold D.O0 at hd
 refine Af ?_
 refine A4 (cs:=[aa]) m f Z Z Z λag w a m f=>A4 (cs:=[ab]) m f Z Z Z λah w a m f=>Ac f Z λa f=>AD ?_
 refine Ar 1 0 (ds:=[aa]) m AO f Z Z Z Z Z λa f=>Ar 0 0 (ds:=[ab]) m Bd f Z Z Z Z Z λa f=> ?_
 have⟨ai,aj,hd⟩:=bind_some hd
 refine Ay f Z call26 (Wk.F m ae af aj) λak al am w an m ao a f=> ?_
 rcases ao with⟨ap,rfl,rfl⟩|⟨aq,ap,ar,au,av,aw,ax,ay,az,aA,aB,aC,rfl,rfl,aD,aE,aF,aG,aH⟩
 ·subst ap
  replace hd:=DX hd
  refine Ac f Z λa f=>Aa (Ak (Af ?_))
  refine Ab f Z λa f=>l_o f (Ds (f.e Z) (f.e Z) underlying56) λa f=>Aa ?_
  refine Al f Z Z ?_
  refine Af ?_
  refine Ac f Z λa f=>Aa ?_
  refine Ao ?_
  obtain⟨aI,m,aJ⟩:=Ow.nil R0 2 m
  have m:=m.eraseAt 2
  have m:=m.eraseAt 1
  obtain rfl:=sj hd
  exact⟨[sn],f.g Z,f.d,_,[aI],an,m,_,_,Z,Z,aJ⟩
 ·subst ap
  replace hd:=D1 hd
  refine Ac f Z λa f=>Aa (Ak (Af ?_))
  refine Ab f Z λa f=>l_o f (Ds (f.e Z) (f.e Z) underlying56) λa f=>Aa ?_
  refine Ag f Z Z ?_
  refine Aq ?_
  refine Af ?_
  refine Ac f Z λa f=>Aa (Ak (Af ?_))
  refine Ab f Z λa f=>l_o f (AU (f.e Z)) λa f=>Az underlying90 Z sizeOf86 f Z λa f=>An 4 0 m Pl86 f Z Z Z Z λa f=>Cy 0 m aD Z underlying86 f Z Z λa f=>Ab f Z λa f=>Aa ?_
  obtain⟨aK,aL,m,aM⟩:=Ow.stamp (RI.mono _) aD m
  have aF:=od1 aL aF
  have aG:=Ow.mono RB.mono aL aG
  have aH:=OwMd.mono trivial aL aH
  have aE:=RSr.mono trivial _ _ _ _ aL aE
  obtain⟨aN,aO,m,aP⟩:=Ow.stamp (RI.mono _) aF m
  have aG:=Ow.mono RB.mono aO aG
  have aH:=OwMd.mono trivial aO aH
  have aM:=rd1 aO aM
  have aE:=RSr.mono trivial _ _ _ _ aO aE
  obtain⟨aQ,aR,m,aS⟩:=Ow.stamp RB.mono aG m
  have aH:=OwMd.mono trivial aR aH
  have aM:=rd1 aR aM
  have aE:=RSr.mono trivial _ _ _ _ aR aE
  have aP:=rd1 aR aP
  have⟨aT,aU,hd⟩:=bind_some hd
  refine AT (λa w=>∃aV:Int,aV=aT∧∃(aW:GH),GLe aQ aW∧Fr a 33 [(6,(.int .u32 aV))]∧Mem W aW w (H)) ?_ ?_
  ·refine As ?_
   have m:=m.fr 1
   have m:=m.eraseAt 3
   have m:=m.eraseAt 2
   refine A1 (λaX a w=>∃aY:Int,∃aZ:Int,∃a0:LI,∃a1:LI,∃a2:List Bool,∃a3:List (K6×Bool),(aY,aZ,a0,a1,a2,a3)=aX∧∃(a4:GH) (a5:Value) (a6:Value) (a7:Value) (a8:Value) (a9:Itm),GLe aQ a4∧Fr a 33 [(5,(pb aC)),(6,(.int .u32 aY)),(17,(iv (aq.1.length:Int))),(18,(iv aZ))]∧Mem W a4 w (ib aC 90 [a5,av,a6,a7,a8]::a9::H)∧RSl (RI .u32) a4 a5 a0∧RSl (RI .u32) a4 a6 a1∧RSl RB a4 a7 a2∧OwMd a4 a9 a8 a3) aU ⟨_,_,_,_,_,_,Z,_,ar,aw,ay,aA,aB,gr,f.k Z,m,aM,aP,aS,aH⟩ ?_
   clear aU f m
   rintro aX ba bb bc a w ⟨aY,aZ,a0,a1,a2,a3,rfl,a4,a5,a6,a7,a8,a9,bd,f,m,be,bf,bg,bh⟩
   have aE:=RSr.mono trivial _ _ _ _ bd aE
   refine Af ?_
   refine Aj f Z Z A3 λa f=>Aa (Ak ?_)
   rcases Ae bb with⟨bi,bb⟩|⟨bi,bb⟩
   ·refine Al f Z bi ?_
    refine Aq ?_
    refine Ak (As (Af ?_))
    refine Ab f Z λa f=>Ac f Z λa f=>AD ?_
    refine Ab f Z λa f=>Ab f Z λa f=> ?_
    have bj:∀w,(Instr.build 58 #[(0,(iv aZ))]).run prog w= .ok (.agg #[(iv aZ),(iv 0),(iv 0)]) w:=by intro w;simp[Instr.build,Instr.fill,A7,AX,AN,AS,AG,A6]
    refine Bn f Z Z bj λa f=> ?_
    have bk:∀w,(Instr.build 63 #[(0,(.agg #[(iv aZ),(iv 0),(iv 0)]))]).run prog w= .ok (.agg #[(iv aZ),(iv 0),(iv 0),(.int .u32 0),(.int .u32 0)]) w:=by intro w;simp[Instr.build,Instr.fill,A7,AX,AN,AS,AG,A6]
    refine Bn f Z Z bk λa f=> ?_
    have⟨bl,bm,bb⟩:=bind_some bb
    refine Ay f Z call30 (Wk.B m be aE bf bg bh bm) λbn bo bp w bq m br a f=> ?_
    obtain⟨bs,bt,rfl,rfl,bu⟩:=br
    have be:=rd1 bq be
    have bf:=rd1 bq bf
    have bg:=RSl.mono RB.mono _ _ _ _ bq bg
    refine Aa ?_
    rcases Ae bb with⟨bv,bb⟩|⟨bv,bb⟩
    ·refine Al f Z bv ?_
     refine Ai ?_
     refine Ab f Z λa f=>Ab f Z λa f=> ?_
     have⟨bw,bx,bb⟩:=bind_some bb
     refine Bb f Z call50 (Wk.e m bx) λbz w bA m a f=> ?_
     have be:=rd1 bA be
     have bf:=rd1 bA bf
     have bg:=RSl.mono RB.mono _ _ _ _ bA bg
     have bu:=OwMd.mono trivial bA bu
     refine Aj f Z Z b_or λa f=>Ac f Z λa f=>Aa (Ai ?_)
     refine Aj f Z Z AA λa f=>Ab f Z λa f=>Aa ?_
     obtain rfl:=sj bb
     exact⟨_,Z,_,_,_,_,_,_,Z,_,a5,a6,a7,bs,bt,(gt bd (gt bq bA)),f.k Z,m,be,bf,bg,bu⟩
    ·refine Ag f Z bv ?_
     refine Aq ?_
     refine Ai ?_
     refine Aj f Z Z AA λa f=>Ab f Z λa f=>Aa ?_
     obtain rfl:=sj bb
     exact⟨_,Z,_,_,_,_,_,_,Z,_,a5,a6,a7,bs,bt,(gt bd bq),f.k Z,m,be,bf,bg,bu⟩
   ·refine Ag f Z bi ?_
    refine AZ Z ?_
    have m:Mem W a4 w H:=Mem.drop (H':=[ib aC 90 [a5,av,a6,a7,a8],a9]) m
    obtain rfl:=sj bb
    obtain rfl:=bc _ rfl
    exact⟨_,Z,_,bd,f.k Z,m⟩
  ·rintro a w ⟨aV,rfl,aW,bB,f,m⟩
   refine Af ?_
   refine Ab f Z λa f=> ?_
   have⟨bC,bD,hd⟩:=bind_some hd
   refine Ay f Z call44 (Wk.f0 hW m bD) λbE bF bG w bH m bI a f=> ?_
   obtain⟨bJ,bK,rfl,rfl,bL⟩:=bI
   refine Ac f Z λa f=>Aa ?_
   refine Ao ?_
   obtain rfl:=sj hd
   exact⟨[bJ],f.g Z,f.d,_,[bK],(gt an (gt aL (gt aO (gt aR (gt bB bH))))),m,_,_,Z,Z,bL⟩
set_option maxHeartbeats 1000000 in
theorem Wk.a1 {v0:Value}{x0:LI}(hW:TabW W)(m:Mem W G w (H))(h0:RSl (RI .u8) G v0 x0){y:Bool}(hd:D.a1 x0=some y):
  Calls prog 3 #[v0] w (Res W G H (λ_ Ho v=>Ho=[]∧v=(.bool y))):=by
 refine Ax (args:=[v0]) (N:=114) [.tmp 2] func3 Z Z (lb Z) Z λa f=> ?_
 unfold D.a1 at hd
 refine Af ?_
 refine Ac f Z λa f=>Aa (Ak (Af ?_))
 refine Ab f Z λa f=> ?_
 have⟨aa,ab,hd⟩:=bind_some hd
 refine Bb f Z call4 (Wk.Y0 m h0 ab) λac w ad m a f=> ?_
 have h0:=rd1 ad h0
 refine Aa ?_
 rcases Ae hd with⟨ae,hd⟩|⟨ae,hd⟩
 ·refine Al f Z ae ?_
  refine Af ?_
  refine Ac f Z λa f=>Aa ?_
  refine Ao ?_
  obtain rfl:=sj hd
  exact⟨[(.bool true)],f.g Z,f.d,_,[],ad,m,Z,Z⟩
 ·refine Ag f Z ae ?_
  refine Aq ?_
  refine Af ?_
  refine Ab f Z λa f=> ?_
  have⟨af,ag,hd⟩:=bind_some hd
  refine Ay f Z call5 (Wk.t0 m h0 ag) λah ai aj w ak m al a f=> ?_
  obtain⟨am,an,ao,ap,aq,ar,rfl,rfl,au,av,aw,ax⟩:=al
  have h0:=rd1 ak h0
  refine Ab f Z λa f=>l_o f (Bm (f.e Z) Z) λa f=>l_o f (Bm (f.e Z) Z) λa f=>l_o f (Bm (f.e Z) Z) λa f=>l_o f (Bm (f.e Z) Z) λa f=>AR (cs:=[sn]) zeroValue26 m f Z Z λay w a m f=>AR (cs:=[sn]) zeroValue29 m f Z Z λaz w a m f=>Am 1 0 (ds:=[am]) m sizeOf26 f Z Z Z (Ah au.one1 Ap) Z (lb Z) Z λw m=>Am 0 0 (ds:=[an]) m sizeOf29 f Z Z Z (Ah (OwR.one1 2 m av Z) Ap) Z (lb Z) Z λw m=>Ac f Z λa f=>Ac f Z λa f=>AD ?_
  refine Ar 1 0 (ds:=[am]) m AO f Z Z Z Z Z λa f=>Ar 0 0 (ds:=[an]) m Bd f Z Z Z Z Z λa f=>Ab f Z λa f=>Ab f Z λa f=> ?_
  have⟨aA,aB,hd⟩:=bind_some hd
  refine Ay f Z call6 (OwR.lendCall trivial 2 av m Z (λaC aD m aE=>(Ow.lendCall (RI.mono _) 2 (od1 aD aw) m Z (λaF aG m aH=>Wk.a0 m (rd2 aG (rd2 aD au)) (RSr.mono trivial _ _ _ _ aG aE) aH (rd2 aG (rd2 aD ax)) aB) (λ_ _ _ _ h=>h))) (λ_ _ _ _ h=>h)) λaI aJ aK w aL m aM a f=> ?_
  obtain⟨rfl,rfl⟩:=aM
  have h0:=rd1 aL h0
  have ax:=rd2 aL ax
  have au:=rd2 aL au
  have av:=OwR.mono trivial aL av
  have aw:=od1 aL aw
  refine Ac f Z λa f=>Aa (Ak (Af ?_))
  refine Ab f Z λa f=>Ar 1 0 (ds:=[am]) m AO f Z Z Z Z Z λa f=>Ar 0 0 (ds:=[an]) m Bd f Z Z Z Z Z λa f=>Ab f Z λa f=>Ab f Z λa f=> ?_
  have⟨aN,aO,hd⟩:=bind_some hd
  refine Ay f Z call7 (OwR.lendCall trivial 2 av m Z (λaP aQ m aR=>(Ow.lendCall (RI.mono _) 2 (od1 aQ aw) m Z (λaS aT m aU=>Wk.d0 m (rd2 aT (rd2 aQ au)) (RSr.mono trivial _ _ _ _ aT aR) aU (rd2 aT (rd2 aQ ax)) aO) (λ_ _ _ _ h=>h))) (λ_ _ _ _ h=>h)) λaV aW aX w aY m aZ a f=> ?_
  obtain⟨rfl,rfl⟩:=aZ
  have h0:=rd1 aY h0
  have au:=rd2 aY au
  have av:=OwR.mono trivial aY av
  refine l_o f (r_bool_neq (f.e Z) (f.e Z) underlying4) λa f=>Aa ?_
  rcases Ae hd with⟨a2,hd⟩|⟨a2,hd⟩
  ·refine Al f Z a2 ?_
   refine Af ?_
   refine Ac f Z λa f=>Aa ?_
   refine Ao ?_
   have m:Mem W aW w H:=Mem.drop (H':=[ib az 29 [an],ib ay 26 [am],ao,aq]) m
   obtain rfl:=sj hd
   exact⟨[(.bool false)],f.g Z,f.d,_,[],(gt ad (gt ak (gt aL aY))),m,Z,Z⟩
  ·refine Ag f Z a2 ?_
   refine Aq ?_
   refine Af ?_
   refine Ar 0 0 (ds:=[an]) m Bd f Z Z Z Z Z λa f=> ?_
   have⟨a3,a4,hd⟩:=bind_some hd
   refine Ay f Z call8 (OwR.lendCall trivial 2 av m Z (λa5 a6 m a7=>Wk.B0 m a7 a4) (λ_ G' _ _ ⟨a0,a1,e1,e2,o0⟩=>⟨a0,a1,e1,e2,OwR.free trivial G' o0⟩)) λa8 a9 ba w bb m bc a f=> ?_
   obtain⟨bd,be,rfl,rfl,bf⟩:=bc
   have h0:=rd1 bb h0
   have au:=rd2 bb au
   have av:=OwR.mono trivial bb av
   refine Ab f Z λa f=>l_o f (Bm (f.e Z) Z) λa f=>l_o f (Bm (f.e Z) Z) λa f=>AR (cs:=[sn]) zeroValue29 m f Z Z λbg w a m f=>Am 0 0 (ds:=[bd]) m sizeOf29 f Z Z Z (Ah (OwR.one1 1 m bf Z) Ap) Z (lb Z) Z λw m=>Ac f Z λa f=>Aa (Ak (Af ?_))
   refine Ar 2 0 (ds:=[an]) m Bd f Z Z Z Z Z λa f=> ?_
   have⟨bh,bi,hd⟩:=bind_some hd
   refine Ay f Z call9 (OwR.lendCall trivial 4 av m Z (λbj bk m bl=>Wk.u m bl bi) (λ_ _ _ _ h=>h)) λbm bn bo w bp m bq a f=> ?_
   obtain⟨rfl,rfl⟩:=bq
   have h0:=rd1 bp h0
   have bf:=OwR.mono trivial bp bf
   have au:=rd2 bp au
   have av:=OwR.mono trivial bp av
   refine l_o f (Br (f.e Z)) λa f=>Ab f Z λa f=> ?_
   have⟨br,bs,hd⟩:=bind_some hd
   refine Bg 4 (λa w=>∃bt,GLe bn bt∧Mem W bt w (ib bg 29 [bd]::be::ib az 29 [an]::ib ay 26 [am]::ao::aq::H)∧Fr a 114 [(0,v0),(3,(pb ay)),(4,(pb az)),(5,ap),(6,ar),(7,(.bool aA)),(8,(pb bg)),(9,(.bool a3.2)),(40,(.agg #[an])),(41,(.bool bh)),(42,(.bool (!bh))),(43,(.bool (!bh))),(47,(.bool br))]) ?_ ?_
   ·rcases Ae bs with⟨bu,bs⟩|⟨bu,bs⟩
    ·refine Au f bu λa f=> ?_
     refine Au f bu λa f=>Au f bu λa f=>l_o f (AK (f.e Z) bu (f.e Z)) λa f=> ?_
     obtain rfl:=sj bs
     exact⟨_,gr,m,f.k Z⟩
    ·refine Aw f bu ?_
     refine Ar 3 0 (ds:=[am]) m AO f Z Z Z Z Z λa f=>Aw f bu ?_
     have⟨bv,bw,bs⟩:=bind_some bs
     refine Bb f Z call10 (Wk.z m au bw) λbx w bz m a f=>Aw f bu ?_
     refine l_o f (Br (f.e Z)) λa f=>l_o f (AM (f.e Z) bu (f.e Z)) λa f=> ?_
     obtain rfl:=sj bs
     exact⟨_,bz,m,f.k Z⟩
   ·rintro a w ⟨bt,bA,m,f⟩
    have h0:=rd1 bA h0
    have bf:=OwR.mono trivial bA bf
    have au:=rd2 bA au
    have av:=OwR.mono trivial bA av
    refine Ab f Z λa f=> ?_
    refine Bg 5 (λa w=>∃bB,GLe bt bB∧Mem W bB w (ib bg 29 [bd]::be::ib az 29 [an]::ib ay 26 [am]::ao::aq::H)∧Fr a 114 [(0,v0),(3,(pb ay)),(4,(pb az)),(5,ap),(6,ar),(7,(.bool aA)),(8,(pb bg)),(9,(.bool a3.2)),(40,(.agg #[an])),(41,(.bool bh)),(42,(.bool (!bh))),(43,(.bool (!bh))),(47,(.bool br)),(48,(.bool br)),(53,(.bool (br||(decide ((8:Int)<(af.1.length:Int))))))]) ?_ ?_
    ·rcases Bool.eq_false_or_eq_true br with bC|bC
     ·refine Au f bC λa f=> ?_
      refine Au f bC λa f=>Au f bC λa f=>Au f bC λa f=>l_o f (AK (f.e Z) bC (f.e Z)) λa f=> ?_
      exact⟨_,gr,m,f.weak ⟨Z,Z,Z,Z,Z,Z,Z,Z,Z,Z,Z,Z,Z,Z,by rw[bC];rfl,trivial⟩⟩
     ·refine Aw f bC ?_
      refine Az underlying26 Z sizeOf24 f Z λa f=>Aw f bC ?_
      refine An 3 0 m Bx f Z Z Z Z λa f=>Aw f bC ?_
      refine Bc underlying24 f Z Z au λa f=>Aw f bC ?_
      refine Aj f Z Z CS λa f=>l_o f (AM (f.e Z) bC (f.e Z)) λa f=> ?_
      exact⟨_,gr,m,f.weak ⟨Z,Z,Z,Z,Z,Z,Z,Z,Z,Z,Z,Z,Z,Z,by rw[bC];rfl,trivial⟩⟩
    ·rintro a w ⟨bB,bD,m,f⟩
     have h0:=rd1 bD h0
     have bf:=OwR.mono trivial bD bf
     have au:=rd2 bD au
     have av:=OwR.mono trivial bD av
     refine Aa ?_
     rcases Ae hd with⟨bE,hd⟩|⟨bE,hd⟩
     ·refine Al f Z bE ?_
      refine Af ?_
      refine Ab f Z λa f=>l_o f (Br (f.e Z)) λa f=>Ac f Z λa f=>Aa ?_
      refine Ao ?_
      have m:Mem W bB w H:=Mem.drop (H':=[ib bg 29 [bd],be,ib az 29 [an],ib ay 26 [am],ao,aq]) m
      obtain rfl:=sj hd
      exact⟨[(.bool (!aA))],f.g Z,f.d,_,[],(gt ad (gt ak (gt aL (gt aY (gt bb (gt bp (gt bA bD))))))),m,Z,Z⟩
     ·refine Ag f Z bE ?_
      refine Aq ?_
      refine Af ?_
      refine Ar 2 0 (ds:=[an]) m Bd f Z Z Z Z Z λa f=> ?_
      have⟨bF,bG,hd⟩:=bind_some hd
      refine Ay f Z call11 (OwR.lendCall trivial 4 av m Z (λbH bI m bJ=>Wk.m0 hW m bJ bG) (λ_ G' _ _ ⟨a0,a1,e1,e2,o0⟩=>⟨a0,a1,e1,e2,Ow.free (RI.free _) G' o0⟩)) λbK bL bM w bN m bO a f=> ?_
      obtain⟨bP,bQ,rfl,rfl,bR⟩:=bO
      have h0:=rd1 bN h0
      have bf:=OwR.mono trivial bN bf
      have au:=rd2 bN au
      have av:=OwR.mono trivial bN av
      refine Ac f Z λa f=>Aa (Ak (Ak ?_))
      refine Bl 22 AQ (by kernel_rfl) m ?_
      refine AE 0 22 Z f Z λa f=>AY (i:=1) (ds:=[an]) 22 3 Bd Z Z Z Z (by kernel_rfl) Z f Z Z Z λa f=>Bk 2 Z λbS w bT m bU bU=> ?_
      have h0:=rd1 bT h0
      have bR:=od1 bT bR
      have bf:=OwR.mono trivial bT bf
      have au:=rd2 bT au
      have av:=OwR.mono trivial bT av
      have⟨bV,bW,hd⟩:=bind_some hd
      refine Ay f Z call13 (OwR.lendCall trivial 5 av m Z (λbX bY m bZ=>Wk.r0 m bZ bW) (λ_ G' _ _ ⟨a0,a1,e1,e2,o0⟩=>⟨a0,a1,e1,e2,Ow.free (RI.free _) G' o0⟩)) λb0 b1 b2 w b3 m b4 a f=> ?_
      obtain⟨b5,b6,rfl,rfl,b7⟩:=b4
      have h0:=rd1 b3 h0
      have bR:=od1 b3 bR
      have bf:=OwR.mono trivial b3 bf
      have au:=rd2 b3 au
      have av:=OwR.mono trivial b3 av
      refine Aa ?_
      refine bU b1 [b6] _ _ b3 m ?_
      refine Bk 3 Z λb8 w b9 m ca ca=> ?_
      have h0:=rd1 b9 h0
      have b7:=od1 b9 b7
      have bR:=od1 b9 bR
      have bf:=OwR.mono trivial b9 bf
      have au:=rd2 b9 au
      have av:=OwR.mono trivial b9 av
      have⟨cb,cc,hd⟩:=bind_some hd
      refine Ay f Z call12 (Ow.lendCall (RI.mono _) 1 bR m Z (λcd ce m cf=>(Ow.lendCall (RI.mono _) 0 (od1 ce b7) m Z (λcg ch m ci=>Wk.M0 m (rd1 ch cf) ci cc) (λ_ _ _ _ h=>h))) (λ_ _ _ _ h=>h)) λcj ck cl w cm m cn a f=> ?_
      obtain⟨rfl,rfl⟩:=cn
      have h0:=rd1 cm h0
      have bR:=od1 cm bR
      have bf:=OwR.mono trivial cm bf
      have au:=rd2 cm au
      have av:=OwR.mono trivial cm av
      refine Aa ?_
      refine ca ck [b6] _ _ cm m ?_
      refine q_p 4 22 Z f (λ_=>Br (f.e Z)) λa f=>AE 5 22 Z f Z λa f=> ?_
      have⟨co,cp,hd⟩:=bind_some hd
      refine q_cut (fuel':=0) (listed':= #[true,true,true,true,true,true,true,true,true,true,true,true,true,true,true,true,true,true,true,true,true,true]) (λa=>Fr a 114 [(0,v0),(3,(pb ay)),(4,(pb az)),(5,ap),(6,ar),(7,(.bool aA)),(8,(pb bg)),(9,(.bool a3.2)),(10,bP),(58,bP),(59,(.agg #[an])),(60,b5),(61,(.bool cb)),(62,(.bool (!cb))),(63,(.bool (!cb))),(79,(.bool co))]) ?_ ?_
      ·intro a f
       refine A2 λcq w cr m=> ?_
       have h0:=rd1 cr h0
       have bR:=od1 cr bR
       have au:=rd2 cr au
       have av:=OwR.mono trivial cr av
       refine Aa ?_
       rcases Ae hd with⟨ct,hd⟩|⟨ct,hd⟩
       ·refine Al f Z ct ?_
        refine Af ?_
        refine Ac f Z λa f=>Aa ?_
        refine Ao ?_
        have m:Mem W cq w H:=Mem.drop (H':=[b6,bQ,ib bg 29 [bd],be,ib az 29 [an],ib ay 26 [am],ao,aq]) m
        obtain rfl:=sj hd
        exact⟨[(.bool false)],f.g Z,f.d,_,[],(gt ad (gt ak (gt aL (gt aY (gt bb (gt bp (gt bA (gt bD (gt bN (gt bT (gt b3 (gt b9 (gt cm cr))))))))))))),m,Z,Z⟩
       ·refine Ag f Z ct ?_
        refine Aq ?_
        refine Ak (Af ?_)
        refine Ab f Z λa f=>Cy 1 m bR Z underlying30 f Z Z λa f=>Aj f Z Z CS λa f=>Aa ?_
        rcases Ae hd with⟨cu,hd⟩|⟨cu,hd⟩
        ·refine Al f Z cu ?_
         refine Af ?_
         refine Ac f Z λa f=>Aa ?_
         refine Ao ?_
         have m:Mem W cq w H:=Mem.drop (H':=[b6,bQ,ib bg 29 [bd],be,ib az 29 [an],ib ay 26 [am],ao,aq]) m
         obtain rfl:=sj hd
         exact⟨[(.bool true)],f.g Z,f.d,_,[],(gt ad (gt ak (gt aL (gt aY (gt bb (gt bp (gt bA (gt bD (gt bN (gt bT (gt b3 (gt b9 (gt cm cr))))))))))))),m,Z,Z⟩
        ·refine Ag f Z cu ?_
         refine Aq ?_
         refine Af ?_
         refine Ab f Z λa f=> ?_
         have⟨cv,cw,hd⟩:=bind_some hd
         refine Ay f Z call15 (Wk.C0 m h0 cw) λcx cy cz w cA m cB a f=> ?_
         obtain⟨cC,cD,rfl,rfl,cE⟩:=cB
         have au:=rd2 cA au
         have av:=OwR.mono trivial cA av
         refine Ac f Z λa f=>Aa (Ak ?_)
         have⟨cF,cG,hd⟩:=bind_some hd
         refine AT (λa w=>∃cH:LL,cH=cF∧∃(cI:GH) (cJ:Nat) (cK:Value) (cL:Itm),GLe cy cI∧Fr a 114 [(3,(pb ay)),(4,(pb az)),(12,(pb cJ))]∧Mem W cI w (ib ay 26 [am]::ib az 29 [an]::ib cJ 26 [cK]::cL::ao::H)∧Ow R1 30 cI cL cK cH) ?_ ?_
         ·refine B6 [ib cD 83 [cC,(iv cv.2.1),(.int .u64 cv.2.2)]] (b6::bQ::ib bg 29 [bd]::be::ib az 29 [an]::ib ay 26 [am]::ao::aq::H) 10 AQ (by kernel_rfl) m ?_
          refine AY (i:=0) (ds:=[am]) 10 5 AO Z Z Z Z (by kernel_rfl) Z f Z Z Z λa f=>AE 1 10 Z f Z λa f=>AY (i:=2) (ds:=[am]) 10 5 AO Z Z Z Z (by kernel_rfl) Z f Z Z Z λa f=>C8 (i:=3) (j:=8) (l1:= #[true,true,true,true,false,false,false,false,false,false,false]) (l2:= #[true,true,true,false,false,false,false,false,true,false,false]) Z Z (by kernel_rfl) Z Z ?_ ?_
          ·intro cM w cN m cO cO
           have au:=rd2 cN au
           have cE:=rd1 cN cE
           have⟨cP,cQ,cG⟩:=bind_some cG
           refine Ay f Z call17 (Wk.o0 m cE au cQ) λcR cS cT w cU m cV a f=> ?_
           obtain⟨cW,cX,cY,rfl,rfl,cZ,c0⟩:=cV
           have au:=rd2 cU au
           refine Aa ?_
           refine cO cS [cX,ib cD 83 [cY,(iv cP.2.2.1),(.int .u64 cP.2.2.2)]] _ _ cU m ?_
           refine C8 (i:=4) (j:=8) (l1:= #[true,true,true,true,true,false,false,false,false,false,false]) (l2:= #[true,true,true,true,false,false,false,false,true,false,false]) Z Z (by kernel_rfl) Z Z ?_ ?_
           ·intro c1 w c2 m c3 c3
            have au:=rd2 c2 au
            have cZ:=od1 c2 cZ
            obtain⟨c4,c5,m,c6⟩:=Ow.stamp (RI.mono _) cZ m
            have au:=rd2 c5 au
            have⟨c7,c8,cG⟩:=bind_some cG
            refine Ay f Z call16 (Wk.i0 m au c6 c8) λc9 da db w dc m dd a f=> ?_
            obtain⟨de,df,rfl,rfl,dg⟩:=dd
            refine Aa ?_
            refine c3 da [df,ib cD 83 [cY,(iv cP.2.2.1),(.int .u64 cP.2.2.2)]] _ _ (gt c5 dc) m ?_
            refine AE 5 10 Z f Z λa f=>q_p 6 10 Z f (λ_=>Bm (f.e Z) Z) λa f=>q_p 7 10 Z f (λ_=>Bm (f.e Z) Z) λa f=>Bk 8 Z λdh w di m dj dj=> ?_
            have dg:=Ow.mono (RSl.mono (RI.mono _)) di dg
            refine AR (cs:=[sn]) zeroValue26 m f Z Z λdk w a m f=>Aa ?_
            refine dj dh [ib dk 26 [sn],df,ib cD 83 [cY,(iv cP.2.2.1),(.int .u64 cP.2.2.2)]] _ _ gr m ?_
            refine Bk 9 Z λdl w dm m dn dn=> ?_
            have dg:=Ow.mono (RSl.mono (RI.mono _)) dm dg
            refine Am 0 0 (ds:=[de]) m sizeOf26 f Z Z Z (Ah (Ow.one1 1 m dg Z) Ap) Z (lb Z) Z λw m=>Aa ?_
            refine dn dl [ib dk 26 [de],df,ib cD 83 [cY,(iv cP.2.2.1),(.int .u64 cP.2.2.2)]] _ _ gr m ?_
            refine A2 λdp w dq m=> ?_
            have dg:=Ow.mono (RSl.mono (RI.mono _)) dq dg
            refine Ac f Z λa f=>Aa ?_
            have m:=m.fr 9
            have m:=m.fr 2
            have m:Mem W dp w (ib dk 26 [de]::df::ao::ib cD 83 [cY,(iv cP.2.2.1),(.int .u64 cP.2.2.2)]::b6::bQ::ib bg 29 [bd]::be::ib az 29 [an]::ib ay 26 [am]::aq::H):=m.fr 2
            have m:=m.fr 8
            have m:=m.fr 9
            have m:Mem W dp w (aq::ib ay 26 [am]::ib az 29 [an]::ib dk 26 [de]::df::ao::ib cD 83 [cY,(iv cP.2.2.1),(.int .u64 cP.2.2.2)]::b6::bQ::ib bg 29 [bd]::be::H):=m.fr 10
            have m:=m.fr 10
            have m:=m.fr 9
            have m:Mem W dp w (b6::bQ::be::aq::ib ay 26 [am]::ib az 29 [an]::ib dk 26 [de]::df::ao::ib cD 83 [cY,(iv cP.2.2.1),(.int .u64 cP.2.2.2)]::ib bg 29 [bd]::H):=m.fr 9
            have m:=m.fr 8
            have m:=m.fr 8
            have m:Mem W dp w (ib dk 26 [de]::df::ao::b6::bQ::be::aq::ib ay 26 [am]::ib az 29 [an]::ib cD 83 [cY,(iv cP.2.2.1),(.int .u64 cP.2.2.2)]::ib bg 29 [bd]::H):=m.fr 8
            have m:=m.fr 8
            have m:=m.fr 8
            have m:Mem W dp w (ib ay 26 [am]::ib az 29 [an]::ib dk 26 [de]::df::ao::b6::bQ::be::aq::ib cD 83 [cY,(iv cP.2.2.1),(.int .u64 cP.2.2.2)]::H):=m.eraseAt 10
            have m:=m.eraseAt 9
            have m:=m.eraseAt 8
            have m:Mem W dp w (ib ay 26 [am]::ib az 29 [an]::ib dk 26 [de]::df::ao::b6::bQ::H):=m.eraseAt 7
            have m:=m.eraseAt 6
            have m:Mem W dp w (ib ay 26 [am]::ib az 29 [an]::ib dk 26 [de]::df::ao::H):=m.eraseAt 5
            obtain rfl:=sj cG
            exact⟨_,Z,_,dk,de,df,(gt cN (gt cU (gt c2 (gt c5 (gt dc (gt di (gt dm dq))))))),f.k Z,m,dg⟩
           ·intro dh w di m dj dj
            have⟨c7,c8,cG⟩:=bind_some cG
            have au:=rd2 di au
            have cZ:=od1 di cZ
            refine AR (cs:=[sn]) zeroValue26 m f Z Z λdk w a m f=>Aa ?_
            refine dj dh [ib dk 26 [sn],cX,ib cD 83 [cY,(iv cP.2.2.1),(.int .u64 cP.2.2.2)]] _ _ gr m ?_
            refine Bk 4 Z λc1 w c2 m c3 c3=> ?_
            have au:=rd2 c2 au
            have cZ:=od1 c2 cZ
            have m:Mem W c1 w (cX::ib dk 26 [sn]::ib cD 83 [cY,(iv cP.2.2.1),(.int .u64 cP.2.2.2)]::b6::bQ::ib bg 29 [bd]::be::ib az 29 [an]::ib ay 26 [am]::ao::aq::H):=m.fr 1
            obtain⟨c4,c5,m,c6⟩:=Ow.stamp (RI.mono _) cZ m
            have au:=rd2 c5 au
            refine Ay f Z call16 (Wk.i0 m au c6 c8) λc9 da db w dc m dd a f=> ?_
            obtain⟨de,df,rfl,rfl,dg⟩:=dd
            refine Aa ?_
            refine c3 da [df,ib dk 26 [sn],ib cD 83 [cY,(iv cP.2.2.1),(.int .u64 cP.2.2.2)]] _ _ (gt c5 dc) m ?_
            refine AE 5 10 Z f Z λa f=>q_p 6 10 Z f (λ_=>Bm (f.e Z) Z) λa f=>q_p 7 10 Z f (λ_=>Bm (f.e Z) Z) λa f=>Bk 9 Z λdl w dm m dn dn=> ?_
            have dg:=Ow.mono (RSl.mono (RI.mono _)) dm dg
            refine Am 1 0 (ds:=[de]) m sizeOf26 f Z Z Z (Ah (Ow.one1 0 m dg Z) Ap) Z (lb Z) Z λw m=>Aa ?_
            refine dn dl [df,ib dk 26 [de],ib cD 83 [cY,(iv cP.2.2.1),(.int .u64 cP.2.2.2)]] _ _ gr m ?_
            refine A2 λdp w dq m=> ?_
            have dg:=Ow.mono (RSl.mono (RI.mono _)) dq dg
            refine Ac f Z λa f=>Aa ?_
            have m:=m.fr 9
            have m:=m.fr 1
            have m:Mem W dp w (ib dk 26 [de]::df::ao::ib cD 83 [cY,(iv cP.2.2.1),(.int .u64 cP.2.2.2)]::b6::bQ::ib bg 29 [bd]::be::ib az 29 [an]::ib ay 26 [am]::aq::H):=m.fr 2
            have m:=m.fr 8
            have m:=m.fr 9
            have m:Mem W dp w (aq::ib ay 26 [am]::ib az 29 [an]::ib dk 26 [de]::df::ao::ib cD 83 [cY,(iv cP.2.2.1),(.int .u64 cP.2.2.2)]::b6::bQ::ib bg 29 [bd]::be::H):=m.fr 10
            have m:=m.fr 10
            have m:=m.fr 9
            have m:Mem W dp w (b6::bQ::be::aq::ib ay 26 [am]::ib az 29 [an]::ib dk 26 [de]::df::ao::ib cD 83 [cY,(iv cP.2.2.1),(.int .u64 cP.2.2.2)]::ib bg 29 [bd]::H):=m.fr 9
            have m:=m.fr 8
            have m:=m.fr 8
            have m:Mem W dp w (ib dk 26 [de]::df::ao::b6::bQ::be::aq::ib ay 26 [am]::ib az 29 [an]::ib cD 83 [cY,(iv cP.2.2.1),(.int .u64 cP.2.2.2)]::ib bg 29 [bd]::H):=m.fr 8
            have m:=m.fr 8
            have m:=m.fr 8
            have m:Mem W dp w (ib ay 26 [am]::ib az 29 [an]::ib dk 26 [de]::df::ao::b6::bQ::be::aq::ib cD 83 [cY,(iv cP.2.2.1),(.int .u64 cP.2.2.2)]::H):=m.eraseAt 10
            have m:=m.eraseAt 9
            have m:=m.eraseAt 8
            have m:Mem W dp w (ib ay 26 [am]::ib az 29 [an]::ib dk 26 [de]::df::ao::b6::bQ::H):=m.eraseAt 7
            have m:=m.eraseAt 6
            have m:Mem W dp w (ib ay 26 [am]::ib az 29 [an]::ib dk 26 [de]::df::ao::H):=m.eraseAt 5
            obtain rfl:=sj cG
            exact⟨_,Z,_,dk,de,df,(gt cN (gt cU (gt di (gt c2 (gt c5 (gt dc (gt dm dq))))))),f.k Z,m,dg⟩
          ·intro dh w di m dj dj
           have⟨cP,cQ,cG⟩:=bind_some cG
           have⟨c7,c8,cG⟩:=bind_some cG
           have au:=rd2 di au
           have cE:=rd1 di cE
           refine AR (cs:=[sn]) zeroValue26 m f Z Z λdk w a m f=>Aa ?_
           refine dj dh [ib dk 26 [sn],ib cD 83 [cC,(iv cv.2.1),(.int .u64 cv.2.2)]] _ _ gr m ?_
           refine Bk 3 Z λcM w cN m cO cO=> ?_
           have au:=rd2 cN au
           have cE:=rd1 cN cE
           have m:Mem W cM w (ib cD 83 [cC,(iv cv.2.1),(.int .u64 cv.2.2)]::ib dk 26 [sn]::b6::bQ::ib bg 29 [bd]::be::ib az 29 [an]::ib ay 26 [am]::ao::aq::H):=m.fr 1
           refine Ay f Z call17 (Wk.o0 m cE au cQ) λcR cS cT w cU m cV a f=> ?_
           obtain⟨cW,cX,cY,rfl,rfl,cZ,c0⟩:=cV
           have au:=rd2 cU au
           refine Aa ?_
           refine cO cS [cX,ib cD 83 [cY,(iv cP.2.2.1),(.int .u64 cP.2.2.2)],ib dk 26 [sn]] _ _ cU m ?_
           refine Bk 4 Z λc1 w c2 m c3 c3=> ?_
           have au:=rd2 c2 au
           have cZ:=od1 c2 cZ
           obtain⟨c4,c5,m,c6⟩:=Ow.stamp (RI.mono _) cZ m
           have au:=rd2 c5 au
           refine Ay f Z call16 (Wk.i0 m au c6 c8) λc9 da db w dc m dd a f=> ?_
           obtain⟨de,df,rfl,rfl,dg⟩:=dd
           refine Aa ?_
           refine c3 da [df,ib cD 83 [cY,(iv cP.2.2.1),(.int .u64 cP.2.2.2)],ib dk 26 [sn]] _ _ (gt c5 dc) m ?_
           refine AE 5 10 Z f Z λa f=>q_p 6 10 Z f (λ_=>Bm (f.e Z) Z) λa f=>q_p 7 10 Z f (λ_=>Bm (f.e Z) Z) λa f=>Bk 9 Z λdl w dm m dn dn=> ?_
           have dg:=Ow.mono (RSl.mono (RI.mono _)) dm dg
           refine Am 2 0 (ds:=[de]) m sizeOf26 f Z Z Z (Ah (Ow.one1 0 m dg Z) Ap) Z (lb Z) Z λw m=>Aa ?_
           refine dn dl [df,ib cD 83 [cY,(iv cP.2.2.1),(.int .u64 cP.2.2.2)],ib dk 26 [de]] _ _ gr m ?_
           refine A2 λdp w dq m=> ?_
           have dg:=Ow.mono (RSl.mono (RI.mono _)) dq dg
           refine Ac f Z λa f=>Aa ?_
           have m:=m.fr 9
           have m:=m.fr 1
           have m:Mem W dp w (ib dk 26 [de]::df::ao::ib cD 83 [cY,(iv cP.2.2.1),(.int .u64 cP.2.2.2)]::b6::bQ::ib bg 29 [bd]::be::ib az 29 [an]::ib ay 26 [am]::aq::H):=m.fr 3
           have m:=m.fr 8
           have m:=m.fr 9
           have m:Mem W dp w (aq::ib ay 26 [am]::ib az 29 [an]::ib dk 26 [de]::df::ao::ib cD 83 [cY,(iv cP.2.2.1),(.int .u64 cP.2.2.2)]::b6::bQ::ib bg 29 [bd]::be::H):=m.fr 10
           have m:=m.fr 10
           have m:=m.fr 9
           have m:Mem W dp w (b6::bQ::be::aq::ib ay 26 [am]::ib az 29 [an]::ib dk 26 [de]::df::ao::ib cD 83 [cY,(iv cP.2.2.1),(.int .u64 cP.2.2.2)]::ib bg 29 [bd]::H):=m.fr 9
           have m:=m.fr 8
           have m:=m.fr 8
           have m:Mem W dp w (ib dk 26 [de]::df::ao::b6::bQ::be::aq::ib ay 26 [am]::ib az 29 [an]::ib cD 83 [cY,(iv cP.2.2.1),(.int .u64 cP.2.2.2)]::ib bg 29 [bd]::H):=m.fr 8
           have m:=m.fr 8
           have m:=m.fr 8
           have m:Mem W dp w (ib ay 26 [am]::ib az 29 [an]::ib dk 26 [de]::df::ao::b6::bQ::be::aq::ib cD 83 [cY,(iv cP.2.2.1),(.int .u64 cP.2.2.2)]::H):=m.eraseAt 10
           have m:=m.eraseAt 9
           have m:=m.eraseAt 8
           have m:Mem W dp w (ib ay 26 [am]::ib az 29 [an]::ib dk 26 [de]::df::ao::b6::bQ::H):=m.eraseAt 7
           have m:=m.eraseAt 6
           have m:Mem W dp w (ib ay 26 [am]::ib az 29 [an]::ib dk 26 [de]::df::ao::H):=m.eraseAt 5
           obtain rfl:=sj cG
           exact⟨_,Z,_,dk,de,df,(gt di (gt cN (gt cU (gt c2 (gt c5 (gt dc (gt dm dq))))))),f.k Z,m,dg⟩
         ·rintro a w ⟨cH,rfl,cI,cJ,cK,cL,dr,f,m,dt⟩
          have au:=rd2 dr au
          have av:=OwR.mono trivial dr av
          refine Ak ?_
          refine Bl 22 AQ (by kernel_rfl) m ?_
          refine AY (i:=0) (ds:=[cK]) 22 2 AO Z Z Z Z (by kernel_rfl) Z f Z Z Z λa f=>AY (i:=1) (ds:=[an]) 22 1 Bd Z Z Z Z (by kernel_rfl) Z f Z Z Z λa f=> ?_
          have⟨du,dv,hd⟩:=bind_some hd
          refine BE (i:=2) 22 Z (by kernel_rfl) Z f Z Z Z call14 (λ_ _ w dw m=>(Ow.lendCallR (RSl.mono (RI.mono _)) 3 (Ow.mono (RSl.mono (RI.mono _)) dw dt) m Z (λdx dy m dz=>(OwR.lendCallR trivial 3 (OwR.mono trivial dy (OwR.mono trivial dw av)) m Z (λdA dB m dC=>Wk.m m (rd2 dB dz) dC dv) (λ_ _ _ _ h=>h))) (λ_ _ _ _ h=>h))) λa f=>AY (i:=3) (ds:=[am]) 22 0 AO Z Z Z Z (by kernel_rfl) Z f Z Z Z λa f=>AY (i:=4) (ds:=[an]) 22 1 Bd Z Z Z Z (by kernel_rfl) Z f Z Z Z λa f=> ?_
          have⟨dD,dE,hd⟩:=bind_some hd
          refine BE (i:=5) 22 Z (by kernel_rfl) Z f Z Z Z call14 (λ_ _ w dF m=>(OwR.lendCallR trivial 4 (OwR.mono trivial dF av) m Z (λdG dH m dI=>Wk.m m (rd2 dH (rd2 dF au)) dI dE) (λ_ _ _ _ h=>h))) λa f=>q_p 6 22 Z f (λ_=>DP (f.e Z) (f.e Z) underlying4) λa f=>AE 7 22 Z f Z λa f=> ?_
          rcases Ae hd with⟨dJ,hd⟩|⟨dJ,hd⟩
          ·refine AY (i:=8) (ds:=[am]) 22 0 AO Z Z Z Z (by kernel_rfl) Z f (Bv f Z Z Z dJ) Z Z λa f=> ?_
           refine AY (i:=9) (ds:=[an]) 22 1 Bd Z Z Z Z (by kernel_rfl) Z f (Bv f Z Z Z dJ) Z Z λa f=>A5 (hw:=wo f dJ) 12 22 underlying26 Z sizeOf24 Z f Z λa f=>Be (hw:=wo f dJ) 13 22 0 Bx Z Z Z f Z λa f=>q_len (i:=14) 22 underlying24 au Z (by kernel_rfl) Z f (Bv f Z Z Z dJ) Z Z λa f=>AY (i:=16) (ds:=[am]) 22 0 AO Z Z Z Z (by kernel_rfl) Z f (Bv f Z Z Z dJ) Z Z λa f=>AY (i:=17) (ds:=[an]) 22 1 Bd Z Z Z Z (by kernel_rfl) Z f (Bv f Z Z Z dJ) Z Z λa f=>Bk 10 Z λdK w dL m dM dM=> ?_
           have au:=rd2 dL au
           have av:=OwR.mono trivial dL av
           refine Aw f dJ ?_
           have⟨dN,dO,hd⟩:=bind_some hd
           refine Ay f Z call18 (OwR.lendCall trivial 4 av m Z (λdP dQ m dR=>Wk.O0 hW m (rd2 dQ au) dR dO) (λ_ G' _ _ ⟨a0,a1,e1,e2,o0⟩=>⟨a0,a1,e1,e2,Ow.free (RI.free _) G' o0⟩)) λdS dT dU w dV m dW a f=> ?_
           obtain⟨dX,dY,rfl,rfl,dZ⟩:=dW
           have au:=rd2 dV au
           have av:=OwR.mono trivial dV av
           refine Aa ?_
           refine dM dT [dY] _ _ dV m ?_
           refine q_own_len (i:=11) 22 0 m dZ Z underlying30 Z (by kernel_rfl) Z f (Bv f Z Z Z dJ) Z Z λa f=>q_p (hw:=wo f dJ) 15 22 Z f (λ_=>Bo (f.e Z) (f.e Z) AH) λa f=> ?_
           have⟨d0,d1,hd⟩:=bind_some hd
           refine BE (i:=18) 22 Z (by kernel_rfl) Z f (Bv f Z Z Z dJ) Z Z call14 (λ_ _ w d2 m=>(OwR.lendCallR trivial 4 (OwR.mono trivial d2 av) m Z (λd3 d4 m d5=>Wk.m m (rd2 d4 (rd2 d2 au)) d5 d1) (λ_ _ _ _ h=>h))) λa f=>q_p (hw:=wo f dJ) 19 22 Z f (λ_=>DP (f.e Z) (f.e Z) underlying4) λa f=>q_p 20 22 Z f (λ_=>AK (f.e Z) dJ (f.e Z)) λa f=>q_p 21 22 Z f (λ_=>Bi (f.e Z)) λa f=>A2 λd6 w d7 m=>Aa ?_
           refine Ao ?_
           have m:Mem W d6 w H:=Mem.drop (H':=[dY,ib ay 26 [am],ib az 29 [an],ib cJ 26 [cK],cL,ao]) m
           obtain rfl:=sj hd
           exact⟨[(.bool (((dN.length:Int)==(af.1.length:Int))==d0))],f.g Z,f.d,_,[],(gt ad (gt ak (gt aL (gt aY (gt bb (gt bp (gt bA (gt bD (gt bN (gt bT (gt b3 (gt b9 (gt cm (gt cr (gt cA (gt dr (gt dL (gt dV d7)))))))))))))))))),m,Z,Z⟩
          ·refine Bp 8 22 Z f dJ λa f=> ?_
           refine Bp 9 22 Z f dJ λa f=>Bp 10 22 Z f dJ λa f=>Bp 11 22 Z f dJ λa f=>Bp 12 22 Z f dJ λa f=>Bp 13 22 Z f dJ λa f=>Bp 14 22 Z f dJ λa f=>Bp 15 22 Z f dJ λa f=>Bp 16 22 Z f dJ λa f=>Bp 17 22 Z f dJ λa f=>Bp 18 22 Z f dJ λa f=>Bp 19 22 Z f dJ λa f=>q_p 20 22 Z f (λ_=>AM (f.e Z) dJ (f.e Z)) λa f=>q_p 21 22 Z f (λ_=>Bi (f.e Z)) λa f=>A2 λd8 w d9 m=>Aa ?_
           refine Ao ?_
           have m:Mem W d8 w H:=Mem.drop (H':=[ib ay 26 [am],ib az 29 [an],ib cJ 26 [cK],cL,ao]) m
           obtain rfl:=sj hd
           exact⟨[(.bool false)],f.g Z,f.d,_,[],(gt ad (gt ak (gt aL (gt aY (gt bb (gt bp (gt bA (gt bD (gt bN (gt bT (gt b3 (gt b9 (gt cm (gt cr (gt cA (gt dr d9)))))))))))))))),m,Z,Z⟩
      ·intro ea
       rcases Ae cp with⟨eb,cp⟩|⟨eb,cp⟩
       ·refine Bp 6 22 Z f eb λa f=> ?_
        refine Bp 7 22 Z f eb λa f=>BL 8 22 Z f λa f=>BL 9 22 Z f λa f=>BL 10 22 Z f λa f=>BL 11 22 Z f λa f=>BL 12 22 Z f λa f=>BL 13 22 Z f λa f=>BL 14 22 Z f λa f=>BL 15 22 Z f λa f=>BL 16 22 Z f λa f=>BL 17 22 Z f λa f=>BL 18 22 Z f λa f=>BL 19 22 Z f λa f=>Bp 20 22 Z f eb λa f=>q_p 21 22 Z f (λ_=>AK (f.e Z) eb (f.e Z)) λa f=> ?_
        obtain rfl:=sj cp
        exact ea _ (f.k Z)
       ·refine AE (hw:=wo f eb) 6 22 Z f Z λa f=> ?_
        refine AE (hw:=wo f eb) 7 22 Z f Z λa f=> ?_
        have⟨ec,ed,cp⟩:=bind_some cp
        refine q_cut (fuel':=1) (listed':= #[true,true,true,true,true,true,true,true,true,true,true,true,true,true,true,true,true,true,true,true,true,false]) (λa=>Fr a 114 [(0,v0),(3,(pb ay)),(4,(pb az)),(5,ap),(6,ar),(7,(.bool aA)),(8,(pb bg)),(9,(.bool a3.2)),(10,bP),(58,bP),(59,(.agg #[an])),(60,b5),(61,(.bool cb)),(62,(.bool (!cb))),(63,(.bool (!cb))),(64,(.bool a3.2)),(65,(.bool a3.2)),(78,(.bool ec))]) ?_ ?_
        ·intro a f
         refine q_p 21 22 Z f (λ_=>AM (f.e Z) eb (f.e Z)) λa f=> ?_
         obtain rfl:=sj cp
         exact ea _ (f.k Z)
        ·intro ee
         rcases Ae ed with⟨ef,ed⟩|⟨ef,ed⟩
         ·refine AY (i:=8) (ds:=[bd]) 22 1 Bd Z Z Z Z (by kernel_rfl) Z f (Bv f Z Z Z ef) Z Z λa f=> ?_
          have⟨eg,eh,ed⟩:=bind_some ed
          refine BE (i:=9) 22 Z (by kernel_rfl) Z f (Bv f Z Z Z ef) Z Z call9 (λ_ _ w ei m=>(OwR.lendCallR trivial 2 (OwR.mono trivial ei bf) m Z (λej ek m el=>Wk.u m el eh) (λ_ _ _ _ h=>h))) λa f=>q_p (hw:=wo f ef) 10 22 Z f (λ_=>Br (f.e Z)) λa f=>AE (hw:=wo f ef) 11 22 Z f Z λa f=> ?_
          have⟨em,en,ed⟩:=bind_some ed
          refine q_cut (fuel':=2) (listed':= #[true,true,true,true,true,true,true,true,true,true,true,true,true,true,true,true,true,true,true,true,false,false]) (λa=>Fr a 114 [(0,v0),(3,(pb ay)),(4,(pb az)),(5,ap),(6,ar),(7,(.bool aA)),(8,(pb bg)),(9,(.bool a3.2)),(10,bP),(58,bP),(59,(.agg #[an])),(60,b5),(61,(.bool cb)),(62,(.bool (!cb))),(63,(.bool (!cb))),(64,(.bool a3.2)),(65,(.bool a3.2)),(66,(.agg #[bd])),(67,(.bool eg)),(68,(.bool (!eg))),(69,(.bool (!eg))),(77,(.bool em))]) ?_ ?_
          ·intro a f
           refine q_p (hw:=wo f eb) 20 22 Z f (λ_=>AK (f.e Z) ef (f.e Z)) λa f=> ?_
           obtain rfl:=sj ed
           exact ee _ (f.k Z)
          ·intro eo
           rcases Ae en with⟨ep,en⟩|⟨ep,en⟩
           ·refine Bp 12 22 Z f ep λa f=> ?_
            refine Bp 13 22 Z f ep λa f=>Bp 14 22 Z f ep λa f=>Bp 15 22 Z f ep λa f=>Bp 16 22 Z f ep λa f=>Bp 17 22 Z f ep λa f=>Bp 18 22 Z f ep λa f=>q_p (hw:=wo f ef) 19 22 Z f (λ_=>AK (f.e Z) ep (f.e Z)) λa f=> ?_
            obtain rfl:=sj en
            exact eo _ (f.k Z)
           ·refine AY (i:=12) (ds:=[am]) 22 4 AO Z Z Z Z (by kernel_rfl) Z f (Bv f Z Z Z ep) Z Z λa f=> ?_
            refine AY (i:=13) (ds:=[bd]) 22 1 Bd Z Z Z Z (by kernel_rfl) Z f (Bv f Z Z Z ep) Z Z λa f=> ?_
            have⟨eq,er,en⟩:=bind_some en
            refine BE (i:=14) 22 Z (by kernel_rfl) Z f (Bv f Z Z Z ep) Z Z call14 (λ_ _ w es m=>(OwR.lendCallR trivial 2 (OwR.mono trivial es bf) m Z (λet eu m ev=>Wk.m m (rd2 eu (rd2 es au)) ev er) (λ_ _ _ _ h=>h))) λa f=>AY (i:=15) (ds:=[am]) 22 4 AO Z Z Z Z (by kernel_rfl) Z f (Bv f Z Z Z ep) Z Z λa f=>AY (i:=16) (ds:=[an]) 22 3 Bd Z Z Z Z (by kernel_rfl) Z f (Bv f Z Z Z ep) Z Z λa f=> ?_
            have⟨ew,ex,en⟩:=bind_some en
            refine BE (i:=17) 22 Z (by kernel_rfl) Z f (Bv f Z Z Z ep) Z Z call14 (λ_ _ w ey m=>(OwR.lendCallR trivial 5 (OwR.mono trivial ey av) m Z (λez eA m eB=>Wk.m m (rd2 eA (rd2 ey au)) eB ex) (λ_ _ _ _ h=>h))) λa f=>q_p (hw:=wo f ep) 18 22 Z f (λ_=>DP (f.e Z) (f.e Z) underlying4) λa f=>q_p (hw:=wo f ef) 19 22 Z f (λ_=>AM (f.e Z) ep (f.e Z)) λa f=> ?_
            obtain rfl:=sj en
            exact eo _ (f.k Z)
         ·refine Bp 8 22 Z f ef λa f=> ?_
          refine Bp 9 22 Z f ef λa f=>Bp 10 22 Z f ef λa f=>Bp 11 22 Z f ef λa f=>BL 12 22 Z f λa f=>BL 13 22 Z f λa f=>BL 14 22 Z f λa f=>BL 15 22 Z f λa f=>BL 16 22 Z f λa f=>BL 17 22 Z f λa f=>BL 18 22 Z f λa f=>Bp 19 22 Z f ef λa f=>q_p (hw:=wo f eb) 20 22 Z f (λ_=>AM (f.e Z) ef (f.e Z)) λa f=> ?_
          obtain rfl:=sj ed
          exact ee _ (f.k Z)
end Go.Proofs.YtblebdlmoffmjaaDoor

namespace Go.Sx
end Go.Sx



namespace Go.Sx
def Sh {α:Type}(xs:List α):Prop:=xs.length≤4294967296
theorem Eb (a b c:Int):D.b a b c=some (decide (b≤a)&&decide (a≤c)):=rfl
theorem inRange_eq (a b c:Int):D.p a b c=some (decide (b≤a)&&decide (a≤c)):=rfl
theorem any_beq (xs:LI)(n:Int):xs.any (λx=>x==n)=decide (n∈xs):=by
 rw[Bool.eq_iff_iff,List.any_eq_true];simp
theorem DQ (xs:LI)(n:Int)(h:Sh xs):D.x xs n=some (decide (n∈xs)):=by
 unfold Sh at h
 unfold D.x
 refine(loop_anyb xs.length (λi=>xs.getD i 0==n) true (λi hi=> ?_) ?_ rfl rfl).trans ?_
 ·simp only[dlt hi,cond_true,A8 hi,bs,wi' hi (by omega),Bj hi]
  cases xs[i]==n<;>rfl
 ·simp only[By,cond_false]
 ·rw[range_any_list xs (λx=>x==n) _ (λi hi=>by rw[Bj hi]),any_beq]
theorem Ep (xs:LI)(n:Int)(h:Sh xs):D.g0 xs n=some (decide (n∈xs)):=by
 unfold Sh at h
 unfold D.g0 D.W0
 have e:AF (σ:=Int) (ρ:=(Unit) ⊕ (Int)) (fun(x_26:Int)=>cond (decide (x_26<(xs.length:Int))) ((idx xs x_26).bind λe_39=>cond (n==e_39) (some (.inr (.inr x_26))) (some (.inl (IntKind.i64.wrap (x_26+1))))) (some (.inr (.inl ())))) 0=
   some (((List.range xs.length).findSome? (λi=>if xs.getD i 0==n then some (Sum.inr (i:Int)) else none)).getD (.inl ())):=by
  refine Dq xs.length _ _ (λi hi=> ?_) ?_
  ·simp only[dlt hi,cond_true,A8 hi,bs,wi' hi (by omega),Bj hi]
   rw[show (n==xs[i])=(xs[i]==n) from Bool.beq_comm ..]
   cases xs[i]==n<;>rfl
  ·simp only[By,cond_false]
 rw[e,bs]
 cases hf:(List.range xs.length).findSome? (λi=>if xs.getD i 0==n then some (Sum.inr (i:Int):Unit ⊕ Int) else none) with
 |none=>
  have:n∉xs:=λhm=>by
   obtain⟨i,hi,e⟩:=List.getElem_of_mem hm
   have:=(List.findSome?_eq_none_iff.1 hf) i (List.mem_range.2 hi)
   rw[Bj hi,e] at this
   simp at this
  simp[this]
 |some r=>
  obtain⟨i,hi,hr⟩:=List.exists_of_findSome?_eq_some hf
  have hi':=List.mem_range.1 hi
  rw[Bj hi'] at hr
  split at hr
  ·rename_i hc
   cases hr
   have:n∈xs:=by rw[←(beq_iff_eq.1 hc)];exact List.getElem_mem _
   simp[this]
  ·cases hr
def SetOf (xs:LI)(n:Int):Prop:=Inc xs∧∀x∈xs,0≤x∧x<n
theorem SetOf.len :∀{xs:LI} {n a:Int},Inc xs→(∀x∈xs,a≤x∧x<n)→xs=[]∨(xs.length:Int)≤n-a
 |[],_,_,_,_=> .inl rfl
 |x::xs,n,a,h,hr=>by
  right
  have h':=List.pairwise_cons.1 h
  have hx:=hr x (by simp)
  rcases SetOf.len (a:=x+1) (n:=n) h'.2 (λy hy=>⟨by have:=h'.1 y hy;omega,(hr y (by simp[hy])).2⟩) with e|e
  ·subst e;simp;omega
  ·simp;omega
theorem SetOf.length_le {xs:LI}{n:Int}(h:SetOf xs n)(hn:0≤n):(xs.length:Int)≤n:=by
 rcases SetOf.len h.1 h.2 with e|e
 ·subst e;simpa using hn
 ·omega
theorem inc_iff (xs:LI):Inc xs↔∀i (hi:i+1<xs.length),xs[i]<xs[i+1]:=by
 unfold Inc
 constructor
 ·intro h i hi
  exact List.pairwise_iff_getElem.1 h i (i+1) (by omega) hi (by omega)
 ·intro h
  rw[List.pairwise_iff_getElem]
  intro i j hi hj hij
  have key:∀k,∀hk:i+k+1<xs.length,xs[i]<xs[i+k+1]:=by
   intro k
   induction k with
   |zero=>intro hk;exact h i hk
   |succ k ih=>intro hk;have:=ih (by omega);have:=h (i+k+1) hk;exact Int.lt_trans (ih (by omega)) this
  obtain⟨k,rfl⟩:∃k,j=i+k+1:=⟨j-i-1,by omega⟩
  exact key k hj
def B8 (xs:LI)(n:Int):Bool:=(List.range xs.length).all λi=>(decide (0≤xs.getD i 0)&&decide (xs.getD i 0≤n-1))&& !(decide (0<i)&&decide (xs.getD i 0≤xs.getD (i-1) 0))
theorem Dj (xs:LI)(n:Int):B8 xs n=true↔SetOf xs n:=by
 unfold B8 SetOf
 rw[CP,inc_iff]
 constructor
 ·intro h
  refine⟨λi hi=> ?_,λx hx=> ?_⟩
  ·have:=h (i+1) hi
   simp[hi,show i<xs.length by omega] at this
   omega
  ·obtain⟨i,hi,rfl⟩:=List.getElem_of_mem hx
   have:=h i hi
   simp[hi] at this
   omega
 ·rintro⟨h1,h2⟩ i hi
  have h3:=h2 _ (List.getElem_mem hi)
  simp[hi]
  refine⟨by omega,?_⟩
  rcases Nat.eq_zero_or_pos i with h0|h0
  ·exact .inl h0
  ·right
   have:=h1 (i-1) (by omega)
   have e:i-1+1=i:=by omega
   simp only[e] at this
   have e2:xs[i-1]?.getD 0=xs[i-1]:=by rw[List.getElem?_eq_getElem (by omega)];rfl
   rw[e2];exact this
theorem DR (xs:LI)(n:Int)(h:Sh xs)(h0:0≤n)(hn:n≤4294967296):D.Y xs n=some (B8 xs n):=by
 unfold Sh at h
 unfold D.Y
 refine Cx xs.length _ false (λi hi=> ?_) ?_ rfl rfl
 ·simp only[dlt hi,cond_true,A8 hi,bs,wi' hi (by omega),Bj hi,inRange_eq]
  rw[w64 (x:=n-1) (by omega) (by omega)]
  cases (decide (0≤xs[i])&&decide (xs[i]≤n-1))
  ·simp
  ·by_cases h0:0<i
   ·have e1:IntKind.i64.wrap ((i:Int)-1)=((i-1:Nat):Int):=by rw[w64 (by omega) (by omega)];omega
    have hd:decide ((0:Int)<(i:Int))=true:=by simp;omega
    simp only[Bool.not_true,cond_false,hd,cond_true,e1,A8 (show i-1<xs.length by omega),bs,Bj (show i-1<xs.length by omega),h0,decide_true,Bool.true_and]
    cases decide (xs[i]≤xs[i-1])<;>rfl
   ·have hd:decide ((0:Int)<(i:Int))=false:=by simp;omega
    simp only[Bool.not_true,cond_false,hd,bs,h0,decide_false,Bool.false_and,Bool.not_false,Bool.and_true,if_true]
 ·simp only[By,cond_false]
theorem l1Set_eq (xs:LI)(n:Int)(h:Sh xs)(h0:0≤n)(hn:n≤4294967296):D.V xs n=some (B8 xs n):=by
 have hh:=h
 unfold Sh at h
 unfold D.V
 by_cases hl:n<xs.length
 ·have:B8 xs n=false:=by
   cases hb:B8 xs n
   ·rfl
   ·have:=((Dj xs n).1 hb).length_le h0;omega
  simp[hl,this]
 ·simp only[hl,decide_false,cond_false]
  refine Cx xs.length _ false (λi hi=> ?_) ?_ rfl rfl
  ·simp only[dlt hi,cond_true,A8 hi,bs,wi' hi (by omega),Bj hi,Eb]
   rw[w64 (x:=n-1) (by omega) (by omega)]
   cases (decide (0≤xs[i])&&decide (xs[i]≤n-1))
   ·simp
   ·by_cases h0:0<i
    ·have e1:IntKind.i64.wrap ((i:Int)-1)=((i-1:Nat):Int):=by rw[w64 (by omega) (by omega)];omega
     have hd:decide ((0:Int)<(i:Int))=true:=by simp;omega
     simp only[Bool.not_true,cond_false,hd,cond_true,e1,A8 (show i-1<xs.length by omega),bs,Bj (show i-1<xs.length by omega),h0,decide_true,Bool.true_and]
     cases decide (xs[i]≤xs[i-1])<;>rfl
    ·have hd:decide ((0:Int)<(i:Int))=false:=by simp;omega
     simp only[Bool.not_true,cond_false,hd,bs,h0,decide_false,Bool.false_and,Bool.not_false,Bool.and_true,if_true]
  ·simp only[By,cond_false]
def row (g:LL)(v:Nat):LI:=g.getD v []
theorem row_eq {g:LL}{v:Nat}(h:v<g.length):row g v=g[v]:=Bj h _
def adj (g:LL)(u v:Nat):Prop:=(v:Int)∈row g u
structure GOk (g:LL):Prop where
 n1:1≤g.length
 n16:g.length≤16
 rows:∀v,v<g.length→SetOf (row g v) g.length
 irr:∀v,v<g.length→¬adj g v v
 sym:∀u v,u<g.length→adj g u v→adj g v u
theorem GOk.mem {g:LL}(h:GOk g){u:Nat}(hu:u<g.length){x:Int}(hx:x∈row g u):∃v:Nat,x=v∧v<g.length∧adj g u v:=by
 have:=(h.rows u hu).2 x hx
 refine⟨x.toNat,by omega,by omega,?_⟩
 unfold adj
 rw[show ((x.toNat:Nat):Int)=x by omega];exact hx
theorem GOk.row_len {g:LL}(h:GOk g){u:Nat}(hu:u<g.length):(row g u).length≤16:=by
 have:=(h.rows u hu).length_le (by omega)
 have:=h.n16
 omega
def Sh2 (g:LL):Prop:=Sh g∧∀r∈g,Sh r
theorem Sh2.row {g:LL}(h:Sh2 g){v:Nat}(hv:v<g.length):Sh (row g v):=by
 rw[row_eq hv];exact h.2 _ (List.getElem_mem hv)
theorem B9 {g:LL}{v:Nat}(h:v<g.length):idx g (v:Int)=some (row g v):=by rw[row_eq h,A8 h]
def gB1 (g:LL):Bool:=(List.range g.length).all λv=>B8 (row g v) g.length&& !decide ((v:Int)∈row g v)
def gB2 (g:LL):Bool:=(List.range g.length).all λv=>(row g v).all λx=>decide ((v:Int)∈row g x.toNat)
def gB (g:LL):Bool:=decide (1≤g.length)&&decide (g.length≤16)&&gB1 g&&gB2 g
theorem gB_iff (g:LL):gB g=true↔GOk g:=by
 unfold gB gB1 gB2
 simp only[Bool.and_eq_true,decide_eq_true_eq,Dj,Bool.not_eq_true',decide_eq_false_iff_not,List.all_eq_true,List.mem_range]
 constructor
 ·rintro⟨⟨⟨h1,h2⟩,h3⟩,h4⟩
  refine⟨h1,h2,λv hv=>(h3 v hv).1,λv hv=>(h3 v hv).2,λu v hu ha=> ?_⟩
  have:=h4 u hu v ha
  unfold adj
  simpa using this
 ·intro h
  refine⟨⟨⟨h.n1,h.n16⟩,λv hv=>⟨h.rows v hv,h.irr v hv⟩⟩,λv hv x hx=> ?_⟩
  obtain⟨u,rfl,hu,ha⟩:=h.mem hv hx
  have:=h.sym v u hv ha
  simpa [adj] using this
theorem Cs (g:LL)(h:Sh2 g):D.z g=some (gB g):=by
 have hl:g.length≤4294967296:=h.1
 unfold D.z D.o
 simp only[bs,Eb]
 by_cases hn:1≤g.length∧g.length≤16
 ·have e:(decide ((1:Int)≤(g.length:Int))&&decide ((g.length:Int)≤16))=true:=by simp;omega
  simp only[e,Bool.not_true,cond_false]
  refine(Ea g.length (λv=>B8 (row g v) g.length&& !decide ((v:Int)∈row g v)) (.inl ()) (.inr false) (λv hv=> ?_) ?_).trans ?_
  rotate_left
  ·simp only[By,cond_false]
  ·show cond (gB1 g) _ _=_
   have e4:gB g=(gB1 g&&gB2 g):=by unfold gB;simp[hn.1,hn.2]
   rw[e4]
   cases hc:gB1 g with
   |false=>rfl
   |true=>
    rw[cond_true,Bool.true_and]
    refine Cx g.length _ false (λv hv=> ?_) ?_ rfl rfl
    ·have hset:SetOf (row g v) g.length:=by
      have:=(CP _ _).1 hc v hv
      simp only[Bool.and_eq_true] at this
      exact(Dj _ _).1 this.1
     simp only[dlt hv,cond_true]
     refine(Ea (row g v).length (λi=>decide ((v:Int)∈row g ((row g v).getD i 0).toNat)) (.inl ()) (.inr false) (λi hi=> ?_) ?_).trans ?_
     ·have hx:=hset.2 _ (List.getElem_mem hi)
      have e5:idx g (row g v)[i]=some (row g ((row g v)[i]).toNat):=by
       have:=B9 (g:=g) (v:=((row g v)[i]).toNat) (by omega)
       rwa [show ((((row g v)[i]).toNat:Nat):Int)=(row g v)[i] by omega] at this
      have hs:=h.row (v:=((row g v)[i]).toNat) (by omega)
      simp only[B9 hv,bs,dlt hi,cond_true,A8 hi,e5,DQ _ _ hs,wi (show i<4611686018427387904 by have:=h.row hv;unfold Sh at this;omega),Bj hi]
      cases decide ((v:Int)∈row g ((row g v)[i]).toNat)<;>rfl
     ·simp only[B9 hv,bs,By,cond_false]
     ·rw[Dy (row g v) (λx=>decide ((v:Int)∈row g x.toNat)) _ (λi hi=>by rw[Bj hi]),wi' hv (by omega)]
      cases (row g v).all λx=>decide ((v:Int)∈row g x.toNat)<;>rfl
    ·simp only[By,cond_false]
  ·simp only[dlt hv,cond_true,B9 hv,bs,l1Set_eq _ _ (h.row hv) (show (0:Int)≤(g.length:Int) by omega) (by omega),DQ _ _ (h.row hv),wi' hv (by omega)]
   cases B8 (row g v) g.length
   ·rfl
   ·cases decide ((v:Int)∈row g v)<;>rfl
 ·have e:(decide ((1:Int)≤(g.length:Int))&&decide ((g.length:Int)≤16))=false:=by
   rw[Bool.eq_false_iff];simp;omega
  simp only[e,Bool.not_false,cond_true]
  unfold gB
  congr 1
  symm
  rw[Bool.eq_false_iff]
  simp
  omega
theorem C1 (g:LL)(h:Sh2 g):D.N g=some (gB g):=by
 have hl:g.length≤4294967296:=h.1
 unfold D.N
 by_cases hn:1≤g.length∧g.length≤16
 ·have e:(decide ((g.length:Int)<(1:Int))||decide ((16:Int)<(g.length:Int)))=false:=by simp;omega
  simp only[e,cond_false]
  refine(Ea g.length (λv=>B8 (row g v) g.length&& !decide ((v:Int)∈row g v)) (.inl ()) (.inr false) (λv hv=> ?_) ?_).trans ?_
  rotate_left
  ·simp only[By,cond_false]
  ·show cond (gB1 g) _ _=_
   have e4:gB g=(gB1 g&&gB2 g):=by unfold gB;simp[hn.1,hn.2]
   rw[e4]
   cases hc:gB1 g with
   |false=>rfl
   |true=>
    rw[cond_true,Bool.true_and]
    refine Cx g.length _ false (λv hv=> ?_) ?_ rfl rfl
    ·have hset:SetOf (row g v) g.length:=by
      have:=(CP _ _).1 hc v hv
      simp only[Bool.and_eq_true] at this
      exact(Dj _ _).1 this.1
     simp only[dlt hv,cond_true,B9 hv,bs]
     refine(Ea (row g v).length (λi=>decide ((v:Int)∈row g ((row g v).getD i 0).toNat)) (.inl ()) (.inr false) (λi hi=> ?_) ?_).trans ?_
     ·have hx:=hset.2 _ (List.getElem_mem hi)
      have e5:idx g (row g v)[i]=some (row g ((row g v)[i]).toNat):=by
       have:=B9 (g:=g) (v:=((row g v)[i]).toNat) (by omega)
       rwa [show ((((row g v)[i]).toNat:Nat):Int)=(row g v)[i] by omega] at this
      have hs:=h.row (v:=((row g v)[i]).toNat) (by omega)
      simp only[bs,dlt hi,cond_true,A8 hi,e5,Ep _ _ hs,wi (show i<4611686018427387904 by have:=h.row hv;unfold Sh at this;omega),Bj hi]
      cases decide ((v:Int)∈row g ((row g v)[i]).toNat)<;>rfl
     ·simp only[By,cond_false]
     ·rw[Dy (row g v) (λx=>decide ((v:Int)∈row g x.toNat)) _ (λi hi=>by rw[Bj hi]),wi' hv (by omega)]
      cases (row g v).all λx=>decide ((v:Int)∈row g x.toNat)<;>rfl
    ·simp only[By,cond_false]
  ·simp only[dlt hv,cond_true,B9 hv,bs,DR _ _ (h.row hv) (show (0:Int)≤(g.length:Int) by omega) (by omega),Ep _ _ (h.row hv),wi' hv (by omega)]
   cases B8 (row g v) g.length
   ·rfl
   ·cases decide ((v:Int)∈row g v)<;>rfl
 ·have e:(decide ((g.length:Int)<(1:Int))||decide ((16:Int)<(g.length:Int)))=true:=by
   simp;omega
  simp only[e,cond_true]
  unfold gB
  congr 1
  symm
  rw[Bool.eq_false_iff]
  simp
  omega
structure OOk (g:LL)(o:LI):Prop where
 len:o.length=g.length
 rng:∀x∈o,0≤x∧x<g.length
 nd:o.Nodup
def oB (g:LL)(o:LI):Bool:=(List.range o.length).all λi=>(decide (0≤o.getD i 0)&&decide (o.getD i 0≤(g.length:Int)-1))&& !decide (o.getD i 0∈o.take i)
theorem mem_take_iff {α:Type}{l:List α}{i:Nat}{x:α}:x∈l.take i↔∃j,∃h:j<l.length,j<i∧l[j]=x:=by
 rw[List.mem_take_iff_getElem]
 constructor
 ·rintro⟨j,h,e⟩;exact⟨j,by omega,by omega,e⟩
 ·rintro⟨j,h,h2,e⟩;exact⟨j,by omega,e⟩
theorem nodup_iff {l:LI}:l.Nodup↔∀i (hi:i<l.length),l[i]∉l.take i:=by
 constructor
 ·intro h i hi hm
  obtain⟨j,hj,hji,e⟩:=mem_take_iff.1 hm
  have:=(List.pairwise_iff_getElem.1 h) j i hj hi hji
  exact this e
 ·intro h
  refine List.pairwise_iff_getElem.2 (λi j hi hj hij e=>h j hj (mem_take_iff.2 ⟨i,hi,hij,e⟩))
theorem oB_iff (g:LL)(o:LI)(hl:o.length=g.length):oB g o=true↔OOk g o:=by
 unfold oB
 rw[CP]
 constructor
 ·intro h
  refine⟨hl,λx hx=> ?_,nodup_iff.2 λi hi=> ?_⟩
  ·obtain⟨i,hi,rfl⟩:=List.getElem_of_mem hx
   have:=h i hi
   rw[Bj hi] at this
   simp at this;omega
  ·have:=h i hi
   rw[Bj hi] at this
   simp at this;exact this.2
 ·intro h i hi
  have h1:=h.rng _ (List.getElem_mem hi)
  have h2:=nodup_iff.1 h.nd i hi
  rw[Bj hi]
  simp[h2];omega
def ordB (g:LL)(o:LI):Bool:=decide (o.length=g.length)&&oB g o
theorem ordB_iff (g:LL)(o:LI):ordB g o=true↔OOk g o:=by
 unfold ordB
 by_cases hl:o.length=g.length
 ·simp[hl,oB_iff g o hl]
 ·simp[hl];intro h;exact hl h.len
theorem Ew (g:LL)(o:LI)(h:Sh2 g)(ho:Sh o):D.I0 g o=some (gB g&&ordB g o):=by
 have hl:g.length≤4294967296:=h.1
 have hol:o.length≤4294967296:=ho
 unfold D.I0
 rw[Cs g h,bs]
 cases hg:gB g
 ·rfl
 ·have hg':=(gB_iff g).1 hg
  simp only[cond_true]
  unfold D.b1 D.o ordB
  simp only[bs]
  by_cases hl:o.length=g.length
  ·have e:((o.length:Int) !=(g.length:Int))=false:=by simp[hl]
   simp only[e,cond_false]
   simp only[Option.bind_fun_some,hl,decide_true,Bool.true_and]
   unfold oB
   rw[←hl]
   refine Cx o.length _ false (λi hi=> ?_) ?_ rfl rfl
   ·have hsh:Sh (o.take i):=by unfold Sh;rw[List.length_take];omega
    simp only[dlt hi,cond_true,A8 hi,bs,wi' hi (by omega),Bj hi,←hl,D.S,D.o,Eb,DJ (show i≤o.length by omega),DQ _ _ hsh]
    rw[w64 (x:=(o.length:Int)-1) (by omega) (by omega)]
    cases (decide (0≤o[i])&&decide (o[i]≤(o.length:Int)-1))
    ·rfl
    ·cases decide (o[i]∈o.take i)<;>rfl
   ·simp only[By,cond_false]
  ·have e:((o.length:Int) !=(g.length:Int))=true:=by simp;omega
   simp[e,hl]
theorem Et (v:Nat):D.e (v:Int)=some (ishl .u32 1 (v:Int)):=by
 unfold D.e
 have:decide ((v:Int)<0)=false:=by simp
 rw[this];rfl
theorem BP {x:Int}(h:0≤x):D.e x=some (ishl .u32 1 x):=by
 have:=Et x.toNat
 rwa [show ((x.toNat:Nat):Int)=x by omega] at this
def mk (xs:LI):Int:=xs.foldl (λs v=>ior .u32 s (ishl .u32 1 v)) 0
theorem D9 (xs:LI)(h:Sh xs)(h0:∀x∈xs,0≤x):D.M xs=some (mk xs):=by
 unfold Sh at h
 unfold D.M
 refine(DN xs (λs i=>(s,i)) (λs v=>ior .u32 s (ishl .u32 1 v)) (λs=>s) (λ_=>True) 0 trivial (λs i hi _=>⟨?_,trivial⟩) (λs _=> ?_)).trans rfl
 ·simp only[dlt hi,cond_true,A8 hi,bs,wi' hi (by omega),BP (h0 _ (List.getElem_mem hi))]
 ·simp only[By,cond_false]
theorem D5 :∀(xs:LI) (s:Int),VS s→VS (xs.foldl (λs v=>ior .u32 s (ishl .u32 1 v)) s)
 |[],s,h=>h
 |x::xs,s,_=>D5 xs _ (VS.ior _ _)
theorem VS.mk (xs:LI):VS (mk xs):=D5 xs 0 VS.zero
theorem DS (u:Nat):∀(xs:LI) (s:Int),VS s→(∀x∈xs,0≤x∧x<32)→has (xs.foldl (λs v=>ior .u32 s (ishl .u32 1 v)) s) u=(has s u||decide ((u:Int)∈xs))
 |[],s,_,_=>by simp
 |x::xs,s,hs,h=>by
  have hx:=h x (by simp)
  rw[List.foldl_cons,DS u xs _ (VS.ior _ _) (λy hy=>h y (by simp[hy])),C4 hs (VS.ishl _ _)]
  obtain⟨k,rfl⟩:∃k:Nat,x=k:=⟨x.toNat,by omega⟩
  rw[Co (by omega)]
  by_cases hu:u=k
  ·subst hu;simp
  ·have:¬(u:Int)=(k:Int):=by omega
   simp[hu,this]
theorem has_mk {xs:LI}(h:∀x∈xs,0≤x∧x<32)(u:Nat):has (mk xs) u=decide ((u:Int)∈xs):=by
 unfold mk;rw[DS u xs 0 VS.zero h,Ci,Bool.false_or]
theorem GOk.mem0 {g:LL}(hg:GOk g){r:LI}(hr:r∈g):r.length≤16∧∀x∈r,0≤x∧x<g.length:=by
 obtain⟨v,hv,rfl⟩:=List.getElem_of_mem hr
 rw[←row_eq hv]
 exact⟨hg.row_len hv,(hg.rows v hv).2⟩
theorem netsOf_eq (g:LL)(hg:GOk g):D.n0 g=some (g.map mk):=by
 have h16:=hg.n16
 unfold D.n0
 refine(loop_map g (λs i=>(s,i)) mk (by omega) (λs i hi _=> ?_) (λs=> ?_)).trans rfl
 ·obtain⟨h1,h2⟩:=hg.mem0 (List.getElem_mem hi)
  simp only[dlt hi,cond_true,A8 hi,bs,wi' hi (by omega),D9 g[i] (by unfold Sh;omega) (λx hx=>(h2 x hx).1)]
 ·simp only[By,cond_false]
theorem wide_eq (xs:LI)(h:Sh xs):D.s0 xs=some xs:=by
 unfold Sh at h
 unfold D.s0
 rw[makeD_zero (by omega) (by omega),bs]
 refine(loop_map xs (λs i=>(s,i)) (λx=>x) h (λs i hi _=> ?_) (λs=> ?_)).trans (by simp)
 ·simp only[dlt hi,cond_true,A8 hi,bs,wi' hi (by omega)]
 ·simp only[By,cond_false]
theorem least_eq {s:Int}(h:VS s)(h0:s≠0):∃k:Nat,k<32∧D.j0 s=some (k:Int)∧has s k=true∧(∀v,v<k→has s v=false)∧
  (∀v,has (iand .u32 s (IntKind.u32.wrap (s-1))) v=(has s v&& !decide (v=k))):=by
 obtain⟨k,h1,h2,h3,h4,h5⟩:=least_spec h h0
 refine⟨k,h1,?_,h2,h3,h5⟩
 unfold D.j0 D.U0
 have e:(s==0)=false:=by simpa using h0
 simp only[e,cond_false,h4,tz_table k h1,bs]
 rw[w64 (by omega) (by omega)]
theorem list_eq (s:Int)(h:VS s):D.Q s=some (Bq s):=by
 unfold D.Q
 have key:∀(n:Nat) (x:Int) (l:LI),VS x→(Bq x).length=n→l.length+n≤32→
   AF (σ:=Int×LI) (ρ:=(LI)) (fun(s_52:Int×LI)=>match s_52 with|(x_55,l_56)=>cond (x_55 !=0) ((D.j0 x_55).bind λy_88=>(AB l_56 ([y_88]:LI)).bind λl_99=>some (.inl ((iand .u32 x_55 (IntKind.u32.wrap (x_55-1))),l_99))) (some (.inr l_56))) (x,l)=some (l++Bq x):=by
  intro n
  induction n with
  |zero=>
   intro x l hx hn _
   have e:Bq x=[]:=List.eq_nil_of_length_eq_zero hn
   have e0:x=0:=hx.eq_zero.2 λv hv=>by
    cases hc:has x v
    ·rfl
    ·have:=mem_elems.2 ⟨v,hv,hc,rfl⟩;rw[e] at this;simp at this
   rw[e]
   refine Ba ?_
   have:(x !=0)=false:=by simp[e0]
   simp only[this,cond_false,List.append_nil]
  |succ n ih=>
   intro x l hx hn hl
   have h0:x≠0:=by rintro rfl;rw[elems_zero] at hn;simp at hn
   obtain⟨k,h1,h2,h3,h4,h5⟩:=least_eq hx h0
   have e:=elems_least h1 h3 h4 h5
   have en:(Bq (iand .u32 x (IntKind.u32.wrap (x-1)))).length=n:=by rw[e] at hn;simpa using hn
   have hstep:=ih (iand .u32 x (IntKind.u32.wrap (x-1))) (l++[(k:Int)]) (VS.iand _ _) en (by simp;omega)
   have e1:(x !=0)=true:=by simpa using h0
   rw[AW (s':=(iand .u32 x (IntKind.u32.wrap (x-1)),l++[(k:Int)]))]
   ·rw[hstep,e];simp
   ·simp only[e1,cond_true,h2,bs,Bf (xs:=l) (ys:=[(k:Int)]) (by simp;omega)]
 have:=key (Bq s).length s [] h rfl (by simpa using DW s)
 rw[this];simp
theorem elems_sh (s:Int):Sh (Bq s):=by have:=DW s;unfold Sh;omega
theorem numbers_eq (s:Int)(h:VS s):D.f0 s=some (Bq s):=by
 unfold D.f0
 rw[list_eq s h,bs,wide_eq _ (elems_sh s)];rfl
theorem l1Copy_eq (xs:LI)(h:Sh xs):D.k xs=some xs:=by
 unfold Sh at h
 unfold D.k
 rw[Bf (by simpa using h)];rfl
def into (xs:LI)(n:Int):LI:=if n∈xs then xs else xs.takeWhile (λx=>decide (x<n))++n::xs.dropWhile (λx=>decide (x<n))
theorem mem_into {xs:LI}{n x:Int}:x∈into xs n↔x=n∨x∈xs:=by
 unfold into
 split
 ·constructor
  ·intro h;exact .inr h
  ·rintro(rfl|h)
   ·assumption
   ·exact h
 ·have e:x∈xs↔x∈xs.takeWhile (λx=>decide (x<n))++xs.dropWhile (λx=>decide (x<n)):=by rw[List.takeWhile_append_dropWhile]
  rw[e];simp only[List.mem_append,List.mem_cons]
  constructor
  ·rintro(h|h|h)<;>simp[h]
  ·rintro(h|h|h)<;>simp[h]
theorem DT {xs:LI}{n:Int}(h:Inc xs):∀y∈xs.dropWhile (λx=>decide (x<n)),n≤y:=by
 induction xs with
 |nil=>simp
 |cons x xs ih=>
  have h':=List.pairwise_cons.1 h
  intro y hy
  rw[List.dropWhile_cons] at hy
  split at hy
  ·exact ih h'.2 y hy
  ·rename_i hc
   simp at hc
   rcases List.mem_cons.1 hy with rfl|hy
   ·exact hc
   ·have:=h'.1 y hy;omega
theorem inc_takeWhile {xs:LI}{n:Int}:∀y∈xs.takeWhile (λx=>decide (x<n)),y<n:=by
 intro y hy
 induction xs with
 |nil=>simp at hy
 |cons x xs ih=>
  rw[List.takeWhile_cons] at hy
  split at hy
  ·rename_i hc
   rcases List.mem_cons.1 hy with rfl|hy
   ·simpa using hc
   ·exact ih hy
  ·simp at hy
theorem Inc.into {xs:LI}(h:Inc xs)(n:Int):Inc (into xs n):=by
 unfold Sx.into
 split
 ·exact h
 ·rename_i hn
  unfold Inc
  rw[List.pairwise_append]
  refine⟨List.Pairwise.sublist (List.takeWhile_sublist _) h,List.pairwise_cons.2 ⟨λy hy=> ?_,List.Pairwise.sublist (List.dropWhile_sublist _) h⟩,λa ha b hb=> ?_⟩
  ·have h1:=DT h y hy
   have h2:y≠n:=λe=>hn (e▸(List.dropWhile_sublist _).mem hy)
   omega
  ·have h1:=inc_takeWhile a ha
   rcases List.mem_cons.1 hb with rfl|hb
   ·exact h1
   ·have:=DT h b hb;omega
theorem CD {α:Type}(p:α→Bool):∀(xs:List α),xs.takeWhile p=xs.take (xs.takeWhile p).length∧xs.dropWhile p=xs.drop (xs.takeWhile p).length
 |[]=>by simp
 |x::xs=>by
  rw[List.takeWhile_cons,List.dropWhile_cons]
  cases p x
  ·simp
  ·have:=CD p xs
   simp only[if_true,List.length_cons,List.take_succ_cons,List.drop_succ_cons,←this.1,←this.2,and_self]
theorem CF {α:Type}(p:α→Bool):∀(xs:List α) (i:Nat) (h:i<(xs.takeWhile p).length) (h':i<xs.length),p xs[i]=true
 |x::xs,i,h,h'=>by
  rw[List.takeWhile_cons] at h
  cases hp:p x
  ·rw[hp] at h;simp at h
  ·rw[hp] at h
   cases i with
   |zero=>simpa using hp
   |succ i=>simp only[if_true,List.length_cons] at h;simpa using CF p xs i (by omega) (by simpa using h')
theorem C3 {α:Type}(p:α→Bool):∀(xs:List α) (h:(xs.takeWhile p).length<xs.length),p (xs[(xs.takeWhile p).length])=false
 |x::xs,h=>by
  cases hp:p x
  ·simp[List.takeWhile_cons,hp]
  ·have h2:(xs.takeWhile p).length<xs.length:=by simpa [List.takeWhile_cons,hp] using h
   simpa [List.takeWhile_cons,hp] using C3 p xs h2
theorem Eu {α:Type}(p:α→Bool)(xs:List α):(xs.takeWhile p).length≤xs.length:=(List.takeWhile_sublist _).length_le
theorem l1Into_eq (xs:LI)(n:Int)(h:Inc xs)(hl:xs.length≤4294967295):D.n xs n=some (into xs n):=by
 unfold D.n
 generalize hk:(xs.takeWhile (λx=>decide (x<n))).length=k
 have hkl:k≤xs.length:=by rw[←hk];exact Eu _ _
 have htk:xs.takeWhile (λx=>decide (x<n))=xs.take k:=by rw[←hk];exact(CD _ xs).1
 have hdk:xs.dropWhile (λx=>decide (x<n))=xs.drop k:=by rw[←hk];exact(CD _ xs).2
 refine(Ck (λi=>((i:Nat):Int)) k (k:Int) rfl (λi hi=> ?_) ?_).trans ?_
 ·have hi':i<xs.length:=by omega
  have hp:decide (xs[i]<n)=true:=CF (λx=>decide (x<n)) xs i (by omega) hi'
  simp only[dlt hi',cond_true,A8 hi',bs,hp,wq i]
 ·by_cases hlt:k<xs.length
  ·have hp:decide (xs[k]<n)=false:=by
    have:=C3 (λx=>decide (x<n)) xs (by omega)
    simp only[hk] at this;exact this
   simp only[dlt hlt,cond_true,A8 hlt,bs,hp,cond_false]
  ·obtain rfl:k=xs.length:=by omega
   simp only[By,cond_false,bs]
 ·have hS1:Sh (xs.take k):=by unfold Sh;rw[List.length_take];omega
  have hrest:((BF xs 0 (k:Int)).bind λl_135=>(D.k l_135).bind λy_139=>(AB y_139 ([n]:LI)).bind λl_154=>(BF xs (k:Int) (xs.length:Int)).bind λl_160=>(AB l_154 l_160).bind λl_164=>some l_164)=some (xs.take k++n::xs.drop k):=by
   simp only[DJ hkl,Er hkl,bs,l1Copy_eq _ hS1]
   rw[Bf (by simp;omega),bs,Bf (by simp;omega),bs]
   simp
  by_cases hlt:k<xs.length
  ·simp only[dlt hlt,cond_true,A8 hlt,bs]
   by_cases he:xs[k]=n
   ·have hm:n∈xs:=by rw[←he];exact List.getElem_mem _
    have:(xs[k]==n)=true:=by simp[he]
    simp only[this,cond_true]
    unfold into;rw[if_pos hm]
   ·have:(xs[k]==n)=false:=by simpa using he
    simp only[this,cond_false,hrest]
    unfold into
    rw[htk,hdk,if_neg]
    intro hm
    obtain⟨j,hj,e⟩:=List.getElem_of_mem hm
    have hst:decide (xs[k]<n)=false:=by
     have:=C3 (λx=>decide (x<n)) xs (by omega)
     simp only[hk] at this;exact this
    simp at hst
    rcases Nat.lt_trichotomy j k with h1|h1|h1
    ·have:=CF (λx=>decide (x<n)) xs j (by omega) hj
     simp at this;omega
    ·subst h1;exact he e
    ·have:=(List.pairwise_iff_getElem.1 h) k j hlt hj h1
     omega
  ·obtain rfl:k=xs.length:=by omega
   simp only[By,cond_false,bs,hrest]
   unfold into
   rw[htk,hdk,if_neg]
   intro hm
   obtain⟨j,hj,e⟩:=List.getElem_of_mem hm
   have:=CF (λx=>decide (x<n)) xs j (by omega) hj
   simp at this;omega
end Go.Sx



namespace Go.Sx
structure DK (b:LI)(i:Int):Prop where
 byte:∀x∈b,0≤x∧x≤255
 len:b.length≤4096
 i0:0≤i
 i1:i≤b.length
theorem iand_u64_le (a:Int)(n:Nat)(hn:n<18446744073709551616):0≤iand .u64 a (n:Int)∧iand .u64 a (n:Int)≤n:=by
 have e:(BitVec.ofInt 64 (n:Int)).toNat=n:=by rw[BitVec.toNat_ofInt];omega
 have h:(BitVec.ofInt 64 a&&&BitVec.ofInt 64 (n:Int)).toNat≤n:=by
  rw[BitVec.toNat_and,e];exact Nat.and_le_right
 have w:∀m:Nat,m<18446744073709551616→IntKind.u64.wrap (m:Int)=m:=λm hm=>by
  simp[IntKind.wrap,IntKind.signed,IntKind.bits];omega
 have e2:iand .u64 a (n:Int)=(((BitVec.ofInt 64 a&&&BitVec.ofInt 64 (n:Int)).toNat:Nat):Int):=by
  show IntKind.u64.wrap (((BitVec.ofInt 64 a&&&BitVec.ofInt 64 (n:Int)).toNat:Nat):Int)=_
  exact w _ (by omega)
 rw[e2];omega
theorem DD {x n:Int}(hx:0≤x)(hn:0<n):0≤Int.tmod x n∧Int.tmod x n<n:=
 ⟨Int.tmod_nonneg _ hx,Int.tmod_lt_of_pos _ hn⟩
theorem below_ok {b:LI}{i:Int}(h:DK b i)(z n:Int)(hn:0<n):∃r i' z',D.T0 b i z n=some (r,b,i',z')∧0≤r∧r<n∧DK b i':=by
 obtain⟨h1,h2,h3,h4⟩:=h
 unfold D.T0
 have hn0:(n==0)=false:=by simp;omega
 have hc:∀y:Int,0≤iand .u64 y 16777215∧iand .u64 y 16777215≤16777215:=λy=>iand_u64_le y 16777215 (by omega)
 by_cases hi:i<b.length
 ·have hb:=h1 _ (List.getElem_mem (show i.toNat<b.length by omega))
  simp only[hi,decide_true,cond_true,B4 h3 hi,bs,hn0,cond_false]
  have hy:=hc (BC .u64 (IntKind.u64.wrap ((IntKind.u64.wrap (z*6364136223846793005))+1442695040888963407)) 33)
  generalize iand .u64 (BC .u64 (IntKind.u64.wrap ((IntKind.u64.wrap (z*6364136223846793005))+1442695040888963407)) 33) 16777215=y at hy ⊢
  rw[w64 (x:=y) (by omega) (by omega),w64 (x:=b[i.toNat]) (by omega) (by omega),w64 (x:=y+b[i.toNat]) (by omega) (by omega),w64 (x:=i+1) (by omega) (by omega)]
  have hr:=DD (x:=y+b[i.toNat]) (n:=n) (by omega) hn
  exact⟨_,_,_,rfl,hr.1,hr.2,h1,h2,by omega,by omega⟩
 ·simp only[hi,decide_false,cond_false,hn0]
  have hy:=hc (BC .u64 (IntKind.u64.wrap ((IntKind.u64.wrap (z*6364136223846793005))+1442695040888963407)) 33)
  generalize iand .u64 (BC .u64 (IntKind.u64.wrap ((IntKind.u64.wrap (z*6364136223846793005))+1442695040888963407)) 33) 16777215=y at hy ⊢
  rw[w64 (x:=y) (by omega) (by omega)]
  have hr:=DD (x:=y) (n:=n) (by omega) hn
  exact⟨_,_,_,rfl,hr.1,hr.2,h1,h2,h3,h4⟩
theorem roll_ok (code:LI)(seed:Int)(h:∀x∈code,0≤x∧x≤255)(hl:code.length≤4096):∃z,D.C0 code seed=some (code,0,z)∧DK code 0:=by
 unfold D.C0
 refine⟨_,(DN code (λs i=>(i,s)) (λs e=>IntKind.u64.wrap ((IntKind.u64.wrap ((IntKind.u64.wrap (s*1099511628211))+(IntKind.u64.wrap e)))+3)) (λs=>s) (λ_=>True) _ trivial (λs i hi _=>⟨?_,trivial⟩) (λs _=> ?_)).trans rfl,h,hl,by omega,by omega⟩
 ·simp only[dlt hi,cond_true,A8 hi,bs,wq i]
 ·simp only[By,cond_false]
theorem l1Empty_eq (n:Nat)(hn:n≤16):D.i (n:Int)=some (List.replicate n []):=by
 unfold D.i
 refine(Ck (λi=>((i:Int),List.replicate i [])) n (List.replicate n []) (by simp) (λi hi=> ?_) ?_).trans rfl
 ·simp only[dlt hi,cond_true,wq i]
  rw[Bf (by simp;omega),bs,←List.replicate_succ']
 ·simp only[By,cond_false]
theorem row_set {g:LL}{u v:Nat}{r:LI}(hu:u<g.length):row (g.set u r) v=if v=u then r else row g v:=by
 unfold row
 by_cases h:v=u
 ·subst h;simp[hu]
 ·rw[if_neg h,List.getD_eq_getElem?_getD,List.getElem?_set_ne (λe=>h e.symm),←List.getD_eq_getElem?_getD]
theorem Dt {g:LL}(hg:GOk g){u v:Nat}(hu:u<g.length)(hv:v<g.length)(huv:u≠v):
  ∃g',D.j g (u:Int) (v:Int)=some g'∧GOk g'∧g'.length=g.length∧∀a b,adj g' a b↔adj g a b∨(a=u∧b=v)∨(a=v∧b=u):=by
 have h16:=hg.n16
 have hru:=hg.rows u hu;have hrv:=hg.rows v hv
 have hlu:=hg.row_len hu;have hlv:=hg.row_len hv
 refine⟨(g.set u (into (row g u) v)).set v (into (row g v) u),?_,?_⟩
 ·unfold D.j
  have e1:row (g.set u (into (row g u) v)) v=row g v:=by rw[row_set hu,if_neg (Ne.symm huv)]
  simp only[B9 hu,bs,l1Into_eq _ _ hru.1 (show (row g u).length≤4294967295 by omega),Int.toNat_natCast]
  rw[B9 (show v<(g.set u (into (row g u) v)).length by simpa using hv),e1]
  simp only[bs,l1Into_eq _ _ hrv.1 (show (row g v).length≤4294967295 by omega)]
 ·have hrow:∀w,row ((g.set u (into (row g u) v)).set v (into (row g v) u)) w=if w=v then into (row g v) u else if w=u then into (row g u) v else row g w:=by
   intro w
   rw[row_set (by simpa using hv),row_set hu]
  have hadj:∀a b,adj ((g.set u (into (row g u) v)).set v (into (row g v) u)) a b↔adj g a b∨(a=u∧b=v)∨(a=v∧b=u):=by
   intro a b
   unfold adj
   rw[hrow]
   by_cases ha:a=v
   ·subst ha
    rw[if_pos rfl,mem_into]
    constructor
    ·rintro(h|h)
     ·exact .inr (.inr ⟨rfl,by omega⟩)
     ·exact .inl h
    ·rintro(h|⟨h,_⟩|⟨_,h⟩)
     ·exact .inr h
     ·exact absurd h.symm huv
     ·exact .inl (by omega)
   ·rw[if_neg ha]
    by_cases ha':a=u
    ·subst ha'
     rw[if_pos rfl,mem_into]
     constructor
     ·rintro(h|h)
      ·exact .inr (.inl ⟨rfl,by omega⟩)
      ·exact .inl h
     ·rintro(h|⟨_,h⟩|⟨h,_⟩)
      ·exact .inr h
      ·exact .inl (by omega)
      ·exact absurd h ha
    ·rw[if_neg ha']
     constructor
     ·exact .inl
     ·rintro(h|⟨h,_⟩|⟨h,_⟩)
      ·exact h
      ·exact absurd h ha'
      ·exact absurd h ha
  refine⟨⟨by simpa using hg.n1,by simpa using h16,λw hw=> ?_,λw hw=> ?_,λa b ha hab=> ?_⟩,by simp,hadj⟩
  ·simp only[List.length_set] at hw ⊢
   rw[hrow]
   split
   ·refine⟨hrv.1.into _,λx hx=> ?_⟩
    rcases mem_into.1 hx with rfl|hx
    ·omega
    ·exact hrv.2 x hx
   ·split
    ·refine⟨hru.1.into _,λx hx=> ?_⟩
     rcases mem_into.1 hx with rfl|hx
     ·omega
     ·exact hru.2 x hx
    ·exact hg.rows w hw
  ·simp only[List.length_set] at hw
   rw[hadj]
   rintro(h|⟨h1,h2⟩|⟨h1,h2⟩)
   ·exact hg.irr w hw h
   ·omega
   ·omega
  ·simp only[List.length_set] at ha
   rw[hadj] at hab ⊢
   rcases hab with h|h|h
   ·exact .inl (hg.sym a b ha h)
   ·exact .inr (.inr ⟨h.2,h.1⟩)
   ·exact .inr (.inl ⟨h.2,h.1⟩)
theorem GOk.empty {n:Nat}(h1:1≤n)(h16:n≤16):GOk (List.replicate n []):=by
 have hr:∀v,row (List.replicate n []) v=[]:=λv=>by
  unfold row
  rw[List.getD_eq_getElem?_getD,List.getElem?_replicate];split<;>rfl
 refine⟨by simpa using h1,by simpa using h16,λv _=> ?_,λv _=> ?_,λu v _ h=> ?_⟩
 ·rw[hr];exact⟨by simp[Inc],by simp⟩
 ·unfold adj;rw[hr];simp
 ·unfold adj at h;rw[hr] at h;simp at h
end Go.Sx



namespace Go.Sx
def nb (F:LI)(u w:Nat):Bool:=has (F.getD u 0) w
structure FOk (F:LI)(n:Nat):Prop where
 len:F.length=n
 vs:∀u,u<n→VS (F.getD u 0)
 lt:∀u w,u<n→nb F u w=true→w<n
 irr:∀u,u<n→nb F u u=false
 sym:∀u w,u<n→nb F u w=true→nb F w u=true
theorem getD_map_mk (g:LL)(u:Nat):(g.map mk).getD u 0=mk (row g u):=by
 unfold row
 simp only[List.getD_eq_getElem?_getD,List.getElem?_map]
 cases g[u]? with
 |none=>simp[mk]
 |some r=>rfl
theorem nb_mk {g:LL}(hg:GOk g){u w:Nat}(hu:u<g.length):nb (g.map mk) u w=true↔adj g u w:=by
 have h16:=hg.n16
 unfold nb
 rw[getD_map_mk,has_mk (λx hx=>by have:=(hg.rows u hu).2 x hx;omega)]
 simp[adj]
theorem all_mask :∀n:Fin 17,∀v:Fin 32,has (IntKind.u32.wrap (ishl .u32 1 (n.val:Int)-1)) v.val=decide (v.val<n.val):=by decide+kernel
def PEO (F:LI)(o:LI):Prop:=∀(j:Nat) (v u w:Nat),o[j]? =some (v:Int)→nb F v u=true→nb F v w=true→(u:Int)∉o.take (j+1)→(w:Int)∉o.take (j+1)→u≠w→nb F u w=true
def Lat (F L:LI)(o:LI)(i:Nat):Prop:=∀(j:Nat) (v:Nat),j<i→o[j]? =some (v:Int)→∀w,nb L v w=(nb F v w&&decide ((w:Int)∉o.take (j+1)))
inductive Via (F:LI)(gone:Nat→Prop)(u:Nat):Nat→Prop
 |me:Via F gone u u
 |step {x y:Nat}:Via F gone u x→nb F x y=true→gone y→Via F gone u y
def Bhd (F:LI)(gone:Nat→Prop)(v w:Nat):Prop:=∃x,Via F gone v x∧nb F x w=true
theorem nodup_le :∀{l m:LI},l.Nodup→(∀x∈l,x∈m)→l.length≤m.length
 |[],_,_,_=>by simp
 |x::l,m,h,hs=>by
  have h':=List.nodup_cons.1 h
  have hx:=hs x (by simp)
  have:=nodup_le (l:=l) (m:=m.erase x) h'.2 (λy hy=>by
   have hne:y≠x:=λe=>h'.1 (e▸hy)
   exact(List.mem_erase_of_ne hne).2 (hs y (by simp[hy])))
  rw[List.length_erase_of_mem hx] at this
  have hp:0<m.length:=List.length_pos_of_mem hx
  simp;omega
def withV (bags:LL)(v:Int):LI:=((List.range bags.length).filter λb=>decide (v∈bags.getD b [])).map Int.ofNat
def Lk (links:LL)(x y:Int):Prop:=[x,y]∈links∨[y,x]∈links
structure Closed (links:LL)(sel m:LI):Prop where
 sub:∀x∈m,x∈sel
 first:∀x,sel.head? =some x→x∈m
 step:∀x∈m,∀y∈sel,Lk links x y→y∈m
def Conn (links:LL)(sel:LI):Prop:=∀m,Closed links sel m→∀x∈sel,x∈m
def LinkIn (n:Nat)(l:LI):Prop:=∃a b:Nat,l=[(a:Int),(b:Int)]∧a<b∧b<n
structure TB (g bags links:LL):Prop where
 n1:1≤bags.length
 n16:bags.length≤16
 many:links.length+1=bags.length
 lks:∀l∈links,LinkIn bags.length l
 sets:∀b∈bags,SetOf b g.length
 tree:Conn links ((List.range bags.length).map Int.ofNat)
 edges:∀u v:Nat,u<g.length→adj g u v→∃b∈bags,(u:Int)∈b∧(v:Int)∈b
 some:∀v,v<g.length→withV bags v≠[]
 conn:∀v,v<g.length→Conn links (withV bags v)
theorem GOk.sh2 {g:LL}(hg:GOk g):Sh2 g:=by
 have h16:=hg.n16
 exact⟨by unfold Sh;omega,λr hr=>by have:=(hg.mem0 hr).1;unfold Sh;omega⟩
theorem Di {g:LL}(hg:GOk g):gB g=true:=(gB_iff g).2 hg
structure Fill (g:LL)(o F L:LI):Prop where
 elim:D.d1 (g.map mk) o=some (F,L)
 f:FOk F g.length
 lenL:L.length=g.length
 vsL:∀u,u<g.length→VS (L.getD u 0)
 mono:∀u w,u<g.length→adj g u w→nb F u w=true
 lat:Lat F L o g.length
 peo:PEO F o
 same:PEO (g.map mk) o→F=g.map mk
 latb:∀(j:Nat) (v:Nat),o[j]? =some (v:Int)→∀w:Nat,nb L v w=true↔(w:Int)∉o.take (j+1)∧Bhd (g.map mk) (λx=>(x:Int)∈o.take j) v w
theorem place' {g:LL}{o:LI}(ho:OOk g o){v:Nat}(hv:v<g.length):∃i:Nat,i<g.length∧o[i]? =some (v:Int):=by
 have hsub:∀x∈o,x∈(List.range g.length).map Int.ofNat:=λx hx=>by
  have:=ho.rng x hx
  exact List.mem_map.2 ⟨x.toNat,List.mem_range.2 (by omega),by show ((x.toNat:Nat):Int)=x;omega⟩
 by_cases hm:(v:Int)∈o
 ·obtain⟨i,hi,e⟩:=List.getElem_of_mem hm
  exact⟨i,by have:=ho.len;omega,by rw[List.getElem?_eq_getElem hi,e]⟩
 ·exfalso
  have h1:((v:Int)::o).length≤((List.range g.length).map Int.ofNat).length:=nodup_le (List.nodup_cons.2 ⟨hm,ho.nd⟩) (λx hx=>by
   rcases List.mem_cons.1 hx with rfl|hx
   ·exact List.mem_map.2 ⟨v,List.mem_range.2 hv,rfl⟩
   ·exact hsub x hx)
  have:=ho.len
  simp at h1
  omega
def RowOk (t N:LI):Prop:=(t.length=N.length∧∀k (hk:k<t.length),t[k]∈N∧t[k]∉t.take k)∧(0<t.length→t.getD 0 0=N.getD 0 0)
def cz :LI→LI→Int
 |[],[]=>0
 |[],_::_=> -1
 |_::_,[]=>1
 |a::x,b::y=>if a<b then-1 else if b<a then 1 else cz x y
def lk :Nat→LI→Int
 |0,_=>0
 |_+1,[]=>0
 |d+1,a::l=>(a+1)*33^d+lk d l
def lkey (s:Int):Int:=lk 32 (Bq s)
def skey (s:Int):Int:=((Bq s).length:Int)*33^32+lkey s
theorem least_of {P:Nat→Prop}(h:∃j,P j):∃j,P j∧∀i,i<j→¬P i:=by
 obtain⟨j,hj⟩:=h
 induction j using Nat.strongRecOn with
 |ind j ih=>
  by_cases hc:∃i,i<j∧P i
  ·obtain⟨i,h1,h2⟩:=hc;exact ih i h1 h2
  ·exact⟨j,hj,λi hi hp=>hc ⟨i,hi,hp⟩⟩
theorem l1Edge_eq (g:LL)(hg:GOk g){u:Nat}(hu:u<g.length)(w:Int):D.S0 g (u:Int) w=some (decide (w∈row g u)):=by
 unfold D.S0
 rw[B9 hu,bs,DQ _ _ (hg.sh2.row hu)];rfl
def sumN (f:Nat→Nat):Nat→Nat
 |0=>0
 |n+1=>sumN f n+f n
def bit (b:Bool):Nat:=if b then 1 else 0
def S2 (n:Nat)(p:Nat→Nat→Bool):Nat:=sumN (λu=>sumN (λw=>bit (p u w)) n) n
def els (s:Int)(i:Nat):LI:=((List.range i).filter (has s)).map Int.ofNat
theorem els_succ (s:Int)(i:Nat):els s (i+1)=if has s i then els s i++[(i:Int)] else els s i:=by
 unfold els
 rw[List.range_succ,List.filter_append,List.map_append]
 cases h:has s i<;>simp[h]
theorem els_all {s:Int}{n:Nat}(hn:n≤32)(h:∀v,has s v=true→v<n):els s n=Bq s:=by
 unfold els Bq
 obtain⟨k,hk⟩:∃k,32=n+k:=⟨32-n,by omega⟩
 rw[hk,List.range_add,List.filter_append]
 have:((List.range k).map (λx=>n+x)).filter (has s)=[]:=by
  rw[List.filter_eq_nil_iff]
  intro x hx hc
  obtain⟨y,_,rfl⟩:=List.mem_map.1 hx
  have:=h _ hc;omega
 rw[this,List.append_nil]
def full (n:Nat):Int:=IntKind.u32.wrap (ishl .u32 1 (n:Int)-1)
theorem full_vs (n:Nat):VS (full n):=VS.wrap _
theorem has_full {n:Nat}(h:n≤16)(v:Nat):has (full n) v=decide (v<n):=by
 by_cases hv:v<32
 ·exact all_mask ⟨n,by omega⟩ ⟨v,hv⟩
 ·rw[Ed (full_vs n) (by omega)];symm;simp;omega
theorem nets_all_full (F:LI):D.R F=some (full F.length):=by
 unfold D.R D.c1
 have:decide ((F.length:Int)<0)=false:=by simp
 rw[this];rfl
section
variable {g : LL} {o : LI} (hg : GOk g) (ho : OOk g o)
include hg ho
end
end Go.Sx

namespace Go.Sx
section
variable {g : LL} {o : LI} (hg : GOk g) (ho : OOk g o)
include hg ho
def mx (f:Nat→Int):Nat→Int
 |0=>0
 |n+1=>max (mx f n) (f n)
end
end Go.Sx

namespace Go.Sx
def dg (g:LL)(s:Int)(v:Int):Int:=((Bq (iand .u32 (mk (row g v.toNat)) s)).length:Int)
def CQ (F:LI)(K:Int):Prop:=∀u w,has K u=true→has K w=true→u≠w→nb F u w=true
def MX (F:LI)(n:Nat)(K:Int):Prop:=CQ F K∧∀w,w<n→has K w=false→∃u,has K u=true∧nb F u w=false
def In (n:Nat)(K:Int):Prop:=VS K∧∀w,has K w=true→w<n
theorem In.lt {n:Nat}{K:Int}(h:In n K)(hn:n≤16):0≤K∧K<65536:=by
 obtain⟨m,rfl,hm⟩:=h.1.nat
 refine⟨by omega,?_⟩
 have:m<2^16:=by
  apply Nat.lt_pow_two_of_testBit
  intro i hi
  cases hc:m.testBit i
  ·rfl
  ·have:=h.2 i (by rw[BD];exact hc)
   omega
 omega
theorem iand255 (a:Int):0≤iand .i64 a 255∧iand .i64 a 255≤255:=by
 have e:(BitVec.ofInt 64 255).toNat=255:=rfl
 have h:(BitVec.ofInt 64 a&&&BitVec.ofInt 64 255).toNat≤255:=by
  rw[BitVec.toNat_and,e];exact Nat.and_le_right
 have e2:iand .i64 a 255=(((BitVec.ofInt 64 a&&&BitVec.ofInt 64 255).toNat:Nat):Int):=by
  show IntKind.i64.wrap (((BitVec.ofInt 64 a&&&BitVec.ofInt 64 255).toNat:Nat):Int)=_
  exact w64 (by omega) (by omega)
 rw[e2];omega
theorem new_ok (code:LI)(h:∀x∈code,0≤x∧x≤255)(hl:code.length≤4096):∃z,D.H0 code=some (code,0,z)∧DK code 0:=by
 unfold D.H0
 refine⟨_,(DN code (λs i=>(s,i)) (λs e=>iand .i64 (IntKind.i64.wrap ((IntKind.i64.wrap ((IntKind.i64.wrap (s*331))+(IntKind.i64.wrap e)))+11)) 1073741823) (λs=>s) (λ_=>True) _ trivial (λs i hi _=>⟨?_,trivial⟩) (λs _=> ?_)).trans rfl,h,hl,by omega,by omega⟩
 ·simp only[dlt hi,cond_true,A8 hi,bs,wq i]
 ·simp only[By,cond_false]
def Dw {α:Type}(b:LI)(P:α→Prop)(e:Option (α×LI×Int×Int)):Prop:=∃y,e=some y∧(P y.1∧y.2.1=b∧DK b y.2.2.1)
theorem Dw.then {α β:Type}{b:LI}{P:α→Prop}{e:Option (α×LI×Int×Int)}{k:α×LI×Int×Int→Option β}{Q:β→Prop}(h:Dw b P e)
  (hk:∀a i z,P a→DK b i→∃y,k (a,b,i,z)=some y∧Q y):∃y,e.bind k=some y∧Q y:=by
 obtain⟨⟨a,b',i,z⟩,rfl,h1,h2,h3⟩:=h
 dsimp only at h1 h2 h3
 subst h2
 exact hk a i z h1 h3
theorem DB {b:LI}{i:Int}(h:DK b i)(z:Int):Dw b (λr=>0≤r∧r≤255) (D.s b i z):=by
 obtain⟨h1,h2,h3,h4⟩:=h
 unfold D.s
 by_cases hi:i<b.length
 ·simp only[hi,decide_true,cond_true,B4 h3 hi,bs]
  rw[w64 (x:=i+1) (by omega) (by omega)]
  exact⟨_,rfl,iand255 _,rfl,h1,h2,by dsimp only;omega,by dsimp only;omega⟩
 ·simp only[hi,decide_false,cond_false]
  exact⟨_,rfl,iand255 _,rfl,h1,h2,h3,h4⟩
theorem BW {b:LI}{i:Int}(h:DK b i)(z n:Int):Dw b (λr=>0≤r∧(0<n→r<n)) (D.a b i z n):=by
 unfold D.a
 by_cases h0:n≤0
 ·simp only[h0,decide_true,cond_true]
  exact⟨_,rfl,⟨by dsimp only;omega,λ_=>by omega⟩,rfl,h⟩
 ·have hn0:(n==0)=false:=by simp;omega
  simp only[h0,decide_false,cond_false,hn0]
  by_cases h1:n≤256
  ·simp only[h1,decide_true,cond_true]
   refine(DB h z).then λr i1 z1 hr hk=> ?_
   have:=DD (x:=r) (n:=n) hr.1 (by omega)
   exact⟨_,rfl,⟨this.1,λ_=>this.2⟩,rfl,hk⟩
  ·simp only[h1,decide_false,cond_false]
   refine(DB h z).then λr i1 z1 hr hk=> ?_
   refine(DB hk z1).then λr2 i2 z2 hr2 hk=> ?_
   refine(DB hk z2).then λr3 i3 z3 hr3 hk=> ?_
   refine(DB hk z3).then λr4 i4 z4 hr4 hk=> ?_
   dsimp only
   rw[w64 (x:=r*16777216) (by omega) (by omega),w64 (x:=r2*65536) (by omega) (by omega),w64 (x:=r3*256) (by omega) (by omega),w64 (x:=r*16777216+r2*65536) (by omega) (by omega),w64 (x:=r*16777216+r2*65536+r3*256) (by omega) (by omega),w64 (x:=r*16777216+r2*65536+r3*256+r4) (by omega) (by omega)]
   have:=DD (x:=r*16777216+r2*65536+r3*256+r4) (n:=n) (by omega) (by omega)
   exact⟨_,rfl,⟨this.1,λ_=>this.2⟩,rfl,hk⟩
theorem Bu {b:LI}{i:Int}(h:DK b i)(z n:Int)(hn:0<n):Dw b (λr=>0≤r∧r<n) (D.a b i z n):=by
 obtain⟨y,e,h1,h2⟩:=BW h z n
 exact⟨y,e,⟨h1.1,h1.2 hn⟩,h2⟩
theorem B7 {b:LI}{i:Int}(h:DK b i)(z n:Int):Dw b (λ_:Bool=>True) (D.d b i z n):=by
 unfold D.d
 exact(BW h z n).then λr i1 z1 _ hk=>⟨_,rfl,trivial,rfl,hk⟩
theorem from_dw {b:LI}{i:Int}(h:DK b i)(z m n:Int):Dw b (λ_:Int=>True) (D.X b i z m n):=by
 unfold D.X
 exact(BW h z _).then λr i1 z1 _ hk=>⟨_,rfl,trivial,rfl,hk⟩
theorem odd_dw {b:LI}{i:Int}(h:DK b i)(z:Int):Dw b (λ_:Int=>True) (D.w0 b i z):=by
 unfold D.w0
 refine(Bu h z 10 (by omega)).then λr i1 z1 hr hk=> ?_
 rw[B4 hr.1 (by simpa using hr.2),bs]
 exact⟨_,rfl,trivial,rfl,hk⟩
theorem min_ok (a b:Int):∃m,D.y0 a b=some m:=by
 unfold D.y0
 by_cases h:a<b
 ·exact⟨a,by simp[h]⟩
 ·exact⟨b,by simp[h]⟩
theorem num_dw {b:LI}{i:Int}(h:DK b i)(z n:Int):Dw b (λ_:Int=>True) (D.t b i z n):=by
 unfold D.t
 refine(B7 h z 10).then λr i1 z1 _ hk=> ?_
 dsimp only
 cases r
 ·simp only[cond_false]
  refine(B7 hk z1 2).then λr i1 z1 _ hk=> ?_
  dsimp only
  cases r
  ·simp only[cond_false]
   exact(BW hk z1 _).then λr i1 z1 _ hk=>⟨_,rfl,trivial,rfl,hk⟩
  ·obtain⟨m,e⟩:=min_ok n 4
   simp only[cond_true,e,bs]
   exact(BW hk z1 _).then λr i1 z1 _ hk=>⟨_,rfl,trivial,rfl,hk⟩
 ·simp only[cond_true]
  refine(odd_dw hk z1).then λq i1 z1 _ hk=> ?_
  refine(Bu hk z1 4 (by omega)).then λr i1 z1 hr hk=> ?_
  dsimp only
  rw[B4 hr.1 (by simpa using hr.2),bs]
  exact⟨_,rfl,trivial,rfl,hk⟩
theorem DO (n:Nat)(hn:n≤100):D.J (n:Int)=some (List.replicate n []):=by
 unfold D.J
 refine(Ck (λi=>((i:Int),List.replicate i [])) n (List.replicate n []) (by simp) (λi hi=> ?_) ?_).trans rfl
 ·simp only[dlt hi,cond_true,wq i]
  rw[Bf (by simp;omega),bs,←List.replicate_succ']
 ·simp only[By,cond_false]
theorem DY :D.P=D.j:=rfl
theorem Of_deep (n:Nat)(h1:1≤n)(h16:n≤16):D.Q0 (n:Int)=some (List.replicate n [],true):=by
 unfold D.Q0
 have e1:(decide ((1:Int)≤(n:Int))&&decide ((n:Int)≤16))=true:=by simp;omega
 rw[Eb,bs,e1,Bool.not_true,cond_false,DO n (by omega)];rfl
theorem Path_deep (n:Nat)(h1:1≤n)(h16:n≤16):∃y,D.b0 (n:Int)=some y∧(GOk y.1∧y.1.length=n∧y.2=true):=by
 unfold D.b0
 rw[Of_deep n h1 h16,bs]
 simp only[Bool.and_true]
 refine BS (λs=>∃v:Nat,s.1=(v:Int)∧1≤v∧v≤n∧GOk s.2∧s.2.length=n) (λs=>n-s.1.toNat) (λr=>GOk r∧r.length=n) ?_ ⟨1,rfl,by omega,h1,GOk.empty h1 h16,by simp⟩ ?_
 ·rintro⟨_,l⟩ ⟨v,rfl,hv1,hvn,hg,hl⟩
  dsimp only at hg hl ⊢
  by_cases hv:v<n
  ·obtain⟨g',k1,k2,k3,_⟩:=Dt hg (u:=v-1) (v:=v) (by omega) (by omega) (by omega)
   have e:IntKind.i64.wrap ((v:Int)-1)=((v-1:Nat):Int):=by rw[w64 (by omega) (by omega)];omega
   simp only[dlt hv,cond_true,e,DY,k1,bs,wq v]
   exact⟨_,rfl,⟨v+1,rfl,by omega,by omega,k2,by dsimp only;omega⟩,by dsimp only;omega⟩
  ·obtain rfl:v=n:=by omega
   simp only[By,cond_false]
   exact⟨_,rfl,hg,hl⟩
 ·rintro r ⟨hg,hl⟩
  exact⟨_,rfl,hg,hl,rfl⟩
theorem Loop_deep (n:Nat)(h1:3≤n)(h16:n≤16):∃y,D.F0 (n:Int)=some y∧(GOk y.1∧y.1.length=n):=by
 unfold D.F0
 refine Cv _ (Path_deep n (by omega) h16) ?_
 rintro⟨g,t⟩ ⟨hg,hl,rfl⟩
 dsimp only at hg hl ⊢
 have e3:decide ((n:Int)<3)=false:=by simp;omega
 obtain⟨g',k1,k2,k3,_⟩:=Dt hg (u:=0) (v:=n-1) (by omega) (by omega) (by omega)
 have e:IntKind.i64.wrap ((n:Int)-1)=((n-1:Nat):Int):=by rw[w64 (by omega) (by omega)];omega
 rw[show ((0:Nat):Int)=0 from rfl] at k1
 simp only[Bool.not_true,Bool.false_or,e3,cond_false,DY,e,k1,bs]
 exact⟨_,rfl,k2,by dsimp only;omega⟩
theorem Es {b:LI}{i:Int}(h:DK b i)(z:Int)(n:Nat)(h1:1≤n)(h16:n≤16):Dw b (λg=>GOk g∧g.length=n) (D.e0 b i z (n:Int)):=by
 unfold D.e0
 rw[DO n (by omega),bs]
 refine(Bu h z 3 (by omega)).then λq i0 z0 hq k2=> ?_
 dsimp only
 refine BS (λs=>∃v:Nat,s.1=(v:Int)∧1≤v∧v≤n∧s.2.1=b∧DK b s.2.2.1∧GOk s.2.2.2.2∧s.2.2.2.2.length=n) (λs=>n-s.1.toNat)
  (λr=>r.2.1=b∧DK b r.2.2.1∧GOk r.1∧r.1.length=n) ?_ ⟨1,rfl,by omega,h1,rfl,k2,GOk.empty h1 h16,by simp⟩ ?_
 ·rintro⟨_,b2,i,z,g⟩ ⟨v,rfl,g1,g2,rfl,hk,hg,hl⟩
  dsimp only at hk hg hl ⊢
  by_cases hv:v<n
  ·simp only[dlt hv,cond_true]
   refine BS (λs=>∃u:Nat,s.1=(u:Int)∧u≤v∧s.2.1=b2∧DK b2 s.2.2.1∧GOk s.2.2.2.2∧s.2.2.2.2.length=n) (λs=>v-s.1.toNat)
    (λr=>r.1=b2∧DK b2 r.2.1∧GOk r.2.2.2∧r.2.2.2.length=n) ?_ ⟨0,rfl,by omega,rfl,hk,hg,hl⟩ ?_
   ·rintro⟨_,b2,i,z,g⟩ ⟨u,rfl,g3,rfl,hk,hg,hl⟩
    dsimp only at hk hg hl ⊢
    by_cases hu:u<v
    ·simp only[dlt hu,cond_true]
     refine(Bu hk z 4 (by omega)).then λt i3 z3 ht hk'=> ?_
     dsimp only
     by_cases hc:t<IntKind.i64.wrap (1+q)
     ·obtain⟨g',k1,k3,k4,_⟩:=Dt hg (u:=u) (v:=v) (by omega) (by omega) (by omega)
      simp only[hc,decide_true,cond_true,DY,k1,bs,wq u]
      exact⟨_,rfl,⟨u+1,rfl,by omega,rfl,hk',k3,by dsimp only;omega⟩,by dsimp only;omega⟩
     ·simp only[hc,decide_false,cond_false,wq u]
      exact⟨_,rfl,⟨u+1,rfl,by omega,rfl,hk',hg,hl⟩,by dsimp only;omega⟩
    ·obtain rfl:u=v:=by omega
     simp only[By,cond_false]
     exact⟨_,rfl,rfl,hk,hg,hl⟩
   ·rintro⟨b2,i3,z3,g⟩ ⟨rfl,hk',hg',hl'⟩
    dsimp only at hk' hg' hl' ⊢
    simp only[wq v]
    exact⟨_,rfl,⟨v+1,rfl,by omega,by omega,rfl,hk',hg',hl'⟩,by dsimp only;omega⟩
  ·obtain rfl:v=n:=by omega
   simp only[By,cond_false]
   exact⟨_,rfl,rfl,hk,hg,hl⟩
 ·rintro⟨g,b2,i3,z3⟩ ⟨rfl,hk,hg,hl⟩
  exact⟨_,rfl,⟨hg,hl⟩,rfl,hk⟩
theorem Draw_deep {b:LI}{i:Int}(h:DK b i)(z:Int):Dw b (λg=>GOk g∧g.length≤7) (D.q0 b i z):=by
 unfold D.q0
 refine(Bu h z 6 (by omega)).then λq i0 z0 hq hk=> ?_
 dsimp only
 by_cases h0:q=0
 ·have e0:(q==0)=true:=by simp[h0]
  simp only[e0,cond_true]
  refine(Bu hk z0 4 (by omega)).then λr i1 z1 hr hk=> ?_
  dsimp only
  have e:IntKind.i64.wrap (3+r)=((3+r.toNat:Nat):Int):=by rw[w64 (by omega) (by omega)];omega
  rw[e]
  refine Cv _ (Loop_deep (3+r.toNat) (by omega) (by omega)) ?_
  rintro⟨g,t⟩ ⟨hg,hl⟩
  exact⟨_,rfl,⟨hg,by dsimp only at hl ⊢;omega⟩,rfl,hk⟩
 ·have e0:(q==0)=false:=by simp[h0]
  simp only[e0,cond_false]
  by_cases h1:q=1
  ·have e1:(q==1)=true:=by simp[h1]
   simp only[e1,cond_true]
   refine(Bu hk z0 6 (by omega)).then λr i1 z1 hr hk=> ?_
   dsimp only
   have e:IntKind.i64.wrap (1+r)=((1+r.toNat:Nat):Int):=by rw[w64 (by omega) (by omega)];omega
   rw[e]
   refine Cv _ (Path_deep (1+r.toNat) (by omega) (by omega)) ?_
   rintro⟨g,t⟩ ⟨hg,hl,_⟩
   exact⟨_,rfl,⟨hg,by dsimp only at hl ⊢;omega⟩,rfl,hk⟩
  ·have e1:(q==1)=false:=by simp[h1]
   simp only[e1,cond_false]
   refine(Bu hk z0 7 (by omega)).then λr i1 z1 hr hk=> ?_
   dsimp only
   have e:IntKind.i64.wrap (1+r)=((1+r.toNat:Nat):Int):=by rw[w64 (by omega) (by omega)];omega
   rw[e]
   refine(Es hk z1 (1+r.toNat) (by omega) (by omega)).then λg i2 z2 hg hk=> ?_
   exact⟨_,rfl,⟨hg.1,by have:=hg.2;dsimp only;omega⟩,rfl,hk⟩
def Few (g:LL):Prop:=g.length≤17∧∀r∈g,r.length≤17
theorem Few.sh2 {g:LL}(h:Few g):Sh2 g:=⟨by have:=h.1;unfold Sh;omega,λr hr=>by have:=h.2 r hr;unfold Sh;omega⟩
theorem GOk.few {g:LL}(hg:GOk g):Few g:=by
 have h16:=hg.n16
 exact⟨by omega,λr hr=>by have:=(hg.mem0 hr).1;omega⟩
theorem Few.set {g:LL}(h:Few g)(k:Nat){r:LI}(hr:r.length≤17):Few (g.set k r):=by
 refine⟨by have:=h.1;simpa using this,λx hx=> ?_⟩
 rcases List.mem_or_eq_of_mem_set hx with hx|rfl
 ·exact h.2 x hx
 ·exact hr
theorem DrawAny_dw {b:LI}{i:Int}(h:DK b i)(z:Int):Dw b Few (D.E0 b i z):=by
 unfold D.E0
 refine(Draw_deep h z).then λg i0 z0 hg hk=> ?_
 have hn1:=hg.1.n1
 have hf:=hg.1.few
 refine(B7 hk z0 12).then λt i1 z1 _ hk=> ?_
 dsimp only
 cases t
 ·exact⟨_,rfl,hf,rfl,hk⟩
 ·simp only[cond_true]
  refine(Bu hk z1 g.length (by omega)).then λv i2 z2 hv hk=> ?_
  refine(Bu hk z2 5 (by omega)).then λq i3 z3 hq hk=> ?_
  dsimp only
  have hrow:=B4 (xs:=g) hv.1 hv.2
  have hmem:g[v.toNat]'(by omega)∈g:=List.getElem_mem _
  have hrl:=(hg.1.mem0 hmem).1
  rcases(show q=0∨q=1∨q=2∨q=3∨q=4 by omega) with rfl|rfl|rfl|rfl|rfl
  ·simp only[hrow,bs,show ((0:Int)==0)=true from rfl,cond_true]
   refine Cv (λy=>Few y.1∧y.2.1=b∧DK b y.2.2.1) ?_ (λy hy=>⟨_,rfl,hy⟩)
   refine(num_dw hk z3 16).then λw i4 z4 _ hk=> ?_
   dsimp only
   rw[Bf (by simp;omega),bs]
   exact⟨_,rfl,hf.set _ (by simp;omega),rfl,hk⟩
  ·simp only[hrow,bs,show ((1:Int)==0)=false from rfl,show ((1:Int)==1)=true from rfl,cond_true,cond_false]
   exact⟨_,rfl,hf.set _ (by simp),rfl,hk⟩
  ·simp only[show ((2:Int)==0)=false from rfl,show ((2:Int)==1)=false from rfl,show ((2:Int)==2)=true from rfl,cond_true,cond_false]
   refine(Bu hk z3 2 (by omega)).then λw i4 z4 hw hk=> ?_
   dsimp only
   have e:IntKind.i64.wrap (16+w)=((16+w.toNat:Nat):Int):=by rw[w64 (by omega) (by omega)];omega
   rw[e,DO _ (by omega),bs]
   exact⟨_,rfl,⟨by simp;omega,λr hr=>by have:=List.eq_of_mem_replicate hr;subst this;simp⟩,rfl,hk⟩
  ·simp only[show ((3:Int)==0)=false from rfl,show ((3:Int)==1)=false from rfl,show ((3:Int)==2)=false from rfl,show ((3:Int)==3)=true from rfl,cond_true,cond_false]
   exact⟨_,rfl,⟨by simp,by simp⟩,rfl,hk⟩
  ·simp only[hrow,bs,show ((4:Int)==0)=false from rfl,show ((4:Int)==1)=false from rfl,show ((4:Int)==2)=false from rfl,show ((4:Int)==3)=false from rfl,show ((4:Int)==4)=true from rfl,cond_true,cond_false]
   exact⟨_,rfl,hf.set _ (by simp),rfl,hk⟩
theorem DrawSet_dw {b:LI}{i:Int}(h:DK b i)(z:Int){g:LL}(hg:Few g):Dw b (λo:LI=>o.length≤18) (D.h0 b i z g):=by
 have hgl:=hg.1
 unfold D.h0
 refine BS (λs=>∃v:Nat,s.2.1=(v:Int)∧v≤g.length∧s.1.length≤v∧s.2.2.1=b∧DK b s.2.2.2.1) (λs=>g.length-s.2.1.toNat) (λr=>r.1.length≤17∧r.2.1=b∧DK b r.2.2.1) ?_ ⟨0,rfl,by omega,by simp,rfl,h⟩ ?_
 ·rintro⟨l,_,b2,i,z⟩ ⟨v,rfl,hv,hl,rfl,hk⟩
  dsimp only at hl hk ⊢
  by_cases h0:v<g.length
  ·simp only[dlt h0,cond_true]
   refine(B7 hk z 2).then λt i2 z2 _ hk=> ?_
   dsimp only
   rw[wq v]
   cases t
   ·exact⟨_,rfl,⟨v+1,rfl,by omega,by dsimp only;omega,rfl,hk⟩,by dsimp only;omega⟩
   ·rw[cond_true,Bf (by simp;omega),bs]
    exact⟨_,rfl,⟨v+1,rfl,by omega,by simp;omega,rfl,hk⟩,by dsimp only;omega⟩
  ·obtain rfl:v=g.length:=by omega
   simp only[By,cond_false]
   exact⟨_,rfl,by dsimp only;omega,rfl,hk⟩
 ·rintro⟨o,b2,i2,z2⟩ ⟨ho,rfl,hk⟩
  dsimp only at ho hk ⊢
  refine(B7 hk z2 15).then λt i3 z3 _ hk=> ?_
  dsimp only
  cases t
  ·exact⟨_,rfl,by dsimp only;omega,rfl,hk⟩
  ·simp only[cond_true]
   refine(num_dw hk z3 _).then λw i5 z5 _ hk=> ?_
   dsimp only
   rw[Bf (by simp;omega),bs]
   exact⟨_,rfl,by simp;omega,rfl,hk⟩
def Cq (g:LL)(x:LI):Prop:=∀u w:Nat,(u:Int)∈x→(w:Int)∈x→u≠w→adj g u w
structure GC (g:LL)(l:LI):Prop where
 up:l.Pairwise λa b=>lkey a<lkey b
 mem:∀K,K∈l↔In g.length K∧MX (g.map mk) g.length K
def mis (F:LI)(n:Nat)(S:Int):Nat:=S2 n (λu w=>has S u&&(has S w&&(decide (w<u)&& !nb F w u)))
def cd (F:LI)(s v:Int):Int:=((Bq (iand .u32 (F.getD v.toNat 0) s)).length:Int)
def cf (n:Nat)(F:LI)(s v:Int):Int:=(mis F n (iand .u32 (F.getD v.toNat 0) s):Int)
section
variable {g : LL} (hg : GOk g)
include hg
end
theorem likeInts_self (x:LI)(h:Sh x):D.M0 x x=some true:=by
 unfold Sh at h
 unfold D.M0
 have e:((x.length:Int) !=(x.length:Int))=false:=by simp
 rw[e,cond_false]
 refine(Ck (λi=>(i:Int)) x.length (.inl ()) rfl (λi hi=> ?_) ?_).trans rfl
 ·simp only[dlt hi,cond_true,A8 hi,bs,bne_self_eq_false,cond_false,wq i]
 ·simp only[By,cond_false]
end Go.Sx

namespace Go.Sx
def S16 (s:Int):Prop:=0≤s∧s<65536
theorem S16.vs {s:Int}(h:S16 s):VS s:=⟨h.1,by have:=h.2;omega⟩
theorem S16.nat {s:Int}(h:S16 s):∃n:Nat,s=n∧n<65536:=⟨s.toNat,by have:=h.1;omega,by have:=h.1;have:=h.2;omega⟩
theorem In.s16 {n:Nat}{K:Int}(h:In n K)(hn:n≤16):S16 K:=h.lt hn
theorem Cb (n:Nat)(h:n<18446744073709551616):(BitVec.ofInt 64 (n:Int)).toNat=n:=by
 rw[BitVec.toNat_ofInt];omega
theorem and64 {a b:Nat}(ha:a<4294967296)(hb:b<4294967296):iand .i64 (a:Int) (b:Int)=((a&&&b:Nat):Int):=by
 have hw:a&&&b<4294967296:=Nat.and_lt_two_pow (n:=32) _ hb
 show IntKind.i64.wrap (((BitVec.ofInt 64 (a:Int)&&&BitVec.ofInt 64 (b:Int)).toNat:Nat):Int)=_
 rw[BitVec.toNat_and,Cb a (by omega),Cb b (by omega),w64 (by omega) (by omega)]
theorem or64 {a b:Nat}(ha:a<4294967296)(hb:b<4294967296):ior .i64 (a:Int) (b:Int)=((a|||b:Nat):Int):=by
 have hw:a|||b<4294967296:=Nat.or_lt_two_pow (n:=32) ha hb
 show IntKind.i64.wrap (((BitVec.ofInt 64 (a:Int)|||BitVec.ofInt 64 (b:Int)).toNat:Nat):Int)=_
 rw[BitVec.toNat_or,Cb a (by omega),Cb b (by omega),w64 (by omega) (by omega)]
theorem Dn {a b:Int}(ha:VS a)(hb:VS b):ior .i64 a b=ior .u32 a b:=by
 obtain⟨m,rfl,hm⟩:=ha.nat;obtain⟨n,rfl,hn⟩:=hb.nat
 rw[or64 hm hn,ior_nat hm hn]
theorem shl64 {v:Nat}(hv:v<32):ishl .i64 1 (v:Int)=ishl .u32 1 (v:Int):=by
 rw[one_eq hv]
 have h:(2:Nat)^v<2^32:=Nat.pow_lt_pow_right (by omega) hv
 have h':(2:Nat)^32=4294967296:=by decide
 rw[h'] at h
 show IntKind.i64.wrap (1*2^(min ((v:Int)).toNat 64))=_
 rw[show min ((v:Int)).toNat 64=v by simp;omega,Int.one_mul]
 have e:((2^v:Nat):Int)=(2:Int)^v:=by simp
 rw[←e]
 generalize 2^v=p at h ⊢
 rw[w64 (by omega) (by omega)]
theorem shr64 {s:Int}(h:VS s)(v:Nat)(hv:v<64):BC .i64 s (v:Int)=((s.toNat>>>v:Nat):Int):=by
 obtain⟨m,rfl,hm⟩:=h.nat
 show Int.fdiv (m:Int) (2^(min ((v:Int)).toNat 64))=_
 rw[show min ((v:Int)).toNat 64=v by simp;omega]
 have e:((2^v:Nat):Int)=(2:Int)^v:=by simp
 rw[←e,Int.fdiv_eq_ediv_of_nonneg _ (Int.natCast_nonneg _),Nat.shiftRight_eq_div_pow]
 simp
theorem bit64 {s:Int}(h:VS s){v:Nat}(hv:v<64):(iand .i64 (BC .i64 s (v:Int)) 1==1)=has s v:=by
 rw[shr64 h v hv]
 have hs:s.toNat>>>v<4294967296:=by
  obtain⟨m,rfl,hm⟩:=h.nat
  rw[Nat.shiftRight_eq_div_pow]
  exact Nat.lt_of_le_of_lt (Nat.div_le_self _ _) hm
 rw[show (1:Int)=((1:Nat):Int) from rfl,and64 hs (by omega),has,Nat.testBit]
 rw[Nat.and_comm]
 have h1:1&&&(s.toNat>>>v)=0∨1&&&(s.toNat>>>v)=1:=by
  rw[Nat.and_comm,Nat.and_one_is_mod];omega
 rcases h1 with e|e<;>rw[e]<;>rfl
theorem uw {v:Nat}(hv:v<1000):IntKind.u64.wrap (v:Int)=(v:Int):=wu64 (by omega) (by omega)
theorem C5 (v:Nat):decide ((v:Int)<0)=false:=by simp
theorem l25Bits_eq {g:LL}(hg:GOk g):D.D0 g=some (g.map mk):=by
 have h16:=hg.n16
 unfold D.D0
 refine(Ck (λi=>((g.take i).map mk,(i:Int))) g.length (g.map mk) (by simp) (λi hi=> ?_) ?_).trans rfl
 ·have hr:=hg.row_len hi
  simp only[dlt hi,cond_true]
  refine(Ck (λk=>(mk ((row g i).take k),(k:Int))) (row g i).length (mk (row g i)) (by simp[mk]) (λk hk=> ?_) ?_).trans ?_
  ·obtain⟨w,e1,hw,_⟩:=hg.mem hi (List.getElem_mem hk)
   simp only[B9 hi,bs,dlt hk,cond_true,A8 hk,e1,uw (show w<1000 by omega),C5,cond_false,wq k]
   rw[shl64 (show w<32 by omega),Dn (VS.mk _) (VS.ishl _ _)]
   have:mk ((row g i).take (k+1))=ior .u32 (mk ((row g i).take k)) (ishl .u32 1 (w:Int)):=by
    unfold mk
    rw[List.take_succ_eq_append_getElem hk,List.foldl_append,e1];rfl
   rw[this]
  ·simp only[B9 hi,bs,By,cond_false,List.take_length]
  ·rw[Bf (by simp;omega),bs,wq i,List.take_succ_eq_append_getElem hi,List.map_append,←row_eq hi];rfl
 ·simp only[By,cond_false,List.take_length]
theorem pow_full {n:Nat}(hn:n≤16):full n=((2^n-1:Nat):Int):=by
 have key:∀k:Fin 17,full k.val=((2^k.val-1:Nat):Int):=by decide+kernel
 exact key ⟨n,by omega⟩
theorem l25Set_eq {s:Int}(h:S16 s):D.z0 s=some (Bq s):=by
 unfold D.z0
 obtain⟨j,hj1,hj2⟩:=least_of (P:=λj=>s.toNat>>>j=0) ⟨16,by
  obtain⟨n,rfl,hn⟩:=h.nat
  rw[Nat.shiftRight_eq_div_pow];simp;omega⟩
 have hj16:j≤16:=by
  apply Classical.byContradiction
  intro hc
  refine hj2 16 (by omega) ?_
  obtain⟨n,rfl,hn⟩:=h.nat
  rw[Nat.shiftRight_eq_div_pow];simp;omega
 have hlt:∀v,has s v=true→v<j:=λv hv=>by
  apply Classical.byContradiction
  intro hc
  have:(s.toNat>>>j).testBit (v-j)=true:=by
   rw[Nat.testBit_shiftRight]
   rw[show j+(v-j)=v by omega];exact hv
  rw[hj1] at this;simp at this
 refine(Ck (λi=>(els s i,(i:Int))) j (Bq s) (by simp[els]) (λi hi=> ?_) ?_).trans rfl
 ·have hle:(els s i).length≤16:=by
   unfold els
   rw[List.length_map]
   exact Nat.le_trans (List.length_filter_le _ _) (by simp;omega)
  have e1:decide ((0:Int)<BC .i64 s (i:Int))=true:=by
   rw[shr64 h.vs i (by omega)]
   have h2:s.toNat>>>i≠0:=hj2 i hi
   rw[decide_eq_true_eq]
   generalize s.toNat>>>i=z at h2 ⊢
   omega
  simp only[uw (show i<1000 by omega),C5,cond_false,e1,cond_true,bit64 h.vs (show i<64 by omega),wq i]
  rw[els_succ]
  cases has s i
  ·rfl
  ·rw[cond_true,Bf (by simp;omega),bs];rfl
 ·have e1:decide ((0:Int)<BC .i64 s (j:Int))=false:=by
   rw[shr64 h.vs j (by omega),hj1];rfl
  simp only[uw (show j<1000 by omega),C5,cond_false,e1]
  rw[els_all (by omega) hlt]
theorem impl_SetOk_eq (g:LL)(s:LI)(h:Sh2 g)(hs:Sh s):D.A g s=some (gB g&&B8 s g.length):=by
 unfold D.A
 rw[C1 g h,bs]
 cases gB g
 ·rfl
 ·have:=h.1
  unfold Sh at this
  rw[cond_true,DR s _ hs (by omega) (by omega)];rfl
theorem spec_SetOk_eq (g:LL)(s:LI)(h:Sh2 g)(hs:Sh s):D.y g s=some (gB g&&B8 s g.length):=by
 unfold D.y D.o
 rw[Cs g h,bs]
 cases gB g
 ·rfl
 ·have:=h.1
  unfold Sh at this
  rw[cond_true,bs,l1Set_eq s _ hs (by omega) (by omega)];rfl
def ch (cs:LI)(i v:Nat):Bool:=has (cs.getD i 0) v
def Opn (cs:LI)(p:Int)(v:Nat):Prop:=(∃i,i<cs.length∧has p i=true∧ch cs i v=true)∧∃i,i<cs.length∧has p i=false∧ch cs i v=true
def Ft (cs:LI)(p:Int)(k:Nat):Prop:=k<cs.length∧has p k=false∧∀v,Opn cs p v→ch cs k v=true
def Goes (cs:LI):Int→LI→Prop
 |p,[]=>∀i,i<cs.length→has p i=true
 |p,x::l=>∃k:Nat,x=(k:Int)∧Ft cs p k∧Goes cs (ior .u32 p (ishl .u32 1 (k:Int))) l
section
variable {cs : LI} (hvs : ∀ s ∈ cs, VS s) (hm : cs.length ≤ 16)
include hvs hm
end
end Go.Sx

namespace Go.Sx
section
variable {g : LL} (hg : GOk g)
include hg
end
end Go.Sx

namespace Go.Sx
structure Iv (g:LL)(L R:Nat→Int):Prop where
 le:∀v,v<g.length→L v≤R v
 ad:∀u v,u<g.length→v<g.length→(adj g u v↔u≠v∧L u≤R v∧L v≤R u)
section
variable {g : LL} (hg : GOk g)
include hg
variable {L R : Nat → Int} (hI : Iv g L R)
include hI
end
end Go.Sx

namespace Go.Sx
structure Un (cs:LI)(m:Nat)(U:LI):Prop where
 len:U.length=2^m
 vs:∀b,b<2^m→VS (U.getD b 0)
 hs:∀b,b<2^m→∀v,has (U.getD b 0) v=true↔∃i,i<m∧b.testBit i=true∧ch cs i v=true
section
variable {cs U : LI} (hs : ∀ s ∈ cs, VS s) (hm : cs.length ≤ 16) (hU : Un cs cs.length U)
include hs hm hU
end
end Go.Sx

namespace Go.Sx
section
variable {F : LI} {n : Nat} (hF : FOk F n) (h1 : 1 ≤ n) (h16 : n ≤ 16) {L : Int} (hL : VS L)
include hF h1 h16 hL
end
end Go.Sx

namespace Go.Sx
section
variable {g : LL} {o : LI} (hg : GOk g) (ho : OOk g o)
include hg ho
end
end Go.Sx

namespace Go.Sx
abbrev Pr :=Int×Int×Int
theorem elems_full {n:Nat}(hn:n≤16):Bq (full n)=(List.range n).map Int.ofNat:=by
 refine Inc.ext (D8 _) ?_ (λz=> ?_)
 ·unfold Inc
  rw[List.pairwise_map]
  exact List.Pairwise.imp (fun{a b} h=>by show (a:Int)<(b:Int);omega) List.pairwise_lt_range
 ·rw[mem_elems,List.mem_map]
  constructor
  ·rintro⟨v,_,h,rfl⟩
   rw[has_full hn] at h
   exact⟨v,List.mem_range.2 (of_decide_eq_true h),rfl⟩
  ·rintro⟨v,hv,rfl⟩
   have:=List.mem_range.1 hv
   exact⟨v,by omega,by rw[has_full hn];exact decide_eq_true this,rfl⟩
def joinF (n:Nat)(F:LI)(v:Nat)(S:Int):LI:=(List.range n).map λu=>ior .u32 (ior .u32 (F.getD u 0) (if u=v then S else 0)) (if has S u then ishl .u32 1 (v:Int) else 0)
def Cn (ad:Nat→Nat→Prop)(S:Nat→Prop)(x y:Nat):Prop:=∀T:Nat→Prop,T x→(∀a b,T a→ad a b→S b→T b)→T y
section
variable {ad : Nat → Nat → Prop} {S S' : Nat → Prop} {x y z : Nat}
end
def Joint (ad:Nat→Nat→Prop)(S:Nat→Prop):Prop:=∀x y,S x→S y→Cn ad S x y
abbrev Ad (F:LI)(a b:Nat):Prop:=nb F a b=true
abbrev El (s:Int)(x:Nat):Prop:=has s x=true
abbrev Mn (s:Int)(v x:Nat):Prop:=has s x=true∧x≠v
section
variable {F : LI} {n : Nat} (hn : n ≤ 16) (hF : FOk F n)
include hn hF
end
end Go.Sx

namespace Go.Sx
def Way (ad:Nat→Nat→Prop):List Nat→Prop
 |[]=>True
 |[_]=>True
 |a::b::l=>ad a b∧Way ad (b::l)
structure Hole (ad:Nat→Nat→Prop)(c:List Nat):Prop where
 len:4≤c.length
 nd:c.Nodup
 step:∀i (h:i+1<c.length),ad c[i] c[i+1]
 close:ad (c[c.length-1]'(by omega)) (c[0]'(by omega))
 no:∀i j (_:i+1<j) (hj:j<c.length),¬(i=0∧j=c.length-1)→¬ad (c[i]'(by omega)) c[j]
def NoHole (ad:Nat→Nat→Prop)(X:Nat→Prop):Prop:=∀c,Hole ad c→¬∀x∈c,X x
section
variable {ad : Nat → Nat → Prop} (hs : ∀ a b, ad a b → ad b a) (hi : ∀ a, ¬ ad a a)
include hs hi
end
end Go.Sx

namespace Go.Sx
def iz (P:List Nat):LI:=P.map Int.ofNat
section
variable {g : LL} (hg : GOk g)
include hg
end
end Go.Sx

namespace Go.Sx
section
variable {g : LL} (hg : GOk g)
include hg
end
end Go.Sx

namespace Go.Sx
def Nr (ad:Nat→Nat→Prop)(v:Nat):Nat→Nat→Prop
 |0,_=>False
 |k+1,u=>u=v∨∃w,Nr ad v k w∧ad w u
section
variable {g : LL} (hg : GOk g)
include hg
end
end Go.Sx

namespace Go.Sx
section
variable {g : LL} (hg : GOk g)
include hg
end
end Go.Sx

namespace Go.Sx
theorem vhas_eq {s:Int}(hs:VS s){x:Nat}(hx:x<32):D.v s (x:Int)=some (has s x):=by
 unfold D.v
 have:decide ((x:Int)<0)=false:=by simp
 rw[this,cond_false,bitAt_eq hs hx]
section
variable {g : LL} (hg : GOk g) {c : List Nat} (hH : Hole (adj g) c) (hlt : ∀ x ∈ c, x < g.length)
include hg hH hlt
end
end Go.Sx

namespace Go.Sx
structure Rd (ad:Nat→Nat→Prop)(c:List Nat):Prop where
 len:3≤c.length
 nd:c.Nodup
 step:∀i (h:i+1<c.length),ad c[i] c[i+1]
 close:ad (c[c.length-1]'(by omega)) (c[0]'(by omega))
section
variable {g : LL} (hg : GOk g) {c : List Nat} (hH : Rd (adj g) c) (hlt : ∀ x ∈ c, x < g.length)
include hg hH hlt
end
end Go.Sx

namespace Go.Sx
section
variable {F : LI} {n : Nat} (hF : FOk F n) (h1 : 1 ≤ n) (h16 : n ≤ 16) {L : Int}
include hF h1 h16
end
end Go.Sx

namespace Go.Sx
def Gm (E:Nat→Nat→Prop)(a b c d:Nat):Prop:=E c d∧((a=c∧¬E b d∧b≠d)∨(b=d∧¬E a c∧a≠c))
def Kl (E:Nat→Nat→Prop)(a b c d:Nat):Prop:=∀T:Nat→Nat→Prop,T a b→(∀p q r s,T p q→Gm E p q r s→T r s)→T c d
section
variable {E : Nat → Nat → Prop} (hs : ∀ a b, E a b → E b a) (hi : ∀ a, ¬ E a a)
include hs
include hi
end
section
variable {E : Nat → Nat → Prop} (hs : ∀ a b, E a b → E b a) (hi : ∀ a, ¬ E a a)
include hs hi
end
end Go.Sx

namespace Go.Sx
section
variable {E : Nat → Nat → Prop} (hs : ∀ a b, E a b → E b a) (hi : ∀ a, ¬ E a a)
include hs
include hi
end
end Go.Sx

namespace Go.Sx
def AdW (g:LL)(all:Int)(a b:Nat):Prop:=adj g a b∧has all b=true
def Dst (g:LL)(all:Int)(v j u:Nat):Prop:=Nr (AdW g all) v (j+1) u∧¬Nr (AdW g all) v j u
section
variable {g : LL} (hg : GOk g)
include hg
end
end Go.Sx

namespace Go.Sx
def Av (ad:Nat→Nat→Prop)(X:Nat→Prop)(c z:Nat):Prop:=X z∧z≠c∧¬ad c z
def Apt (ad:Nat→Nat→Prop)(X:Nat→Prop)(a b c:Nat):Prop:=
 X a∧X b∧X c∧a≠b∧a≠c∧b≠c∧¬ad a b∧¬ad a c∧¬ad b c∧Cn ad (Av ad X c) a b∧Cn ad (Av ad X b) a c∧Cn ad (Av ad X a) b c
def Ape (ad:Nat→Nat→Prop)(X S:Nat→Prop)(a b:Nat):Prop:=
 X a∧X b∧a≠b∧¬ad a b∧(∃k,S k∧Cn ad (Av ad X b) a k)∧∃k,S k∧Cn ad (Av ad X a) b k
structure Rp (ad:Nat→Nat→Prop)(X:Nat→Prop)(L R:Nat→Int):Prop where
 le:∀v,X v→L v≤R v
 ad:∀u v,X u→X v→u≠v→(ad u v↔L u≤R v∧L v≤R u)
section
variable {ad : Nat → Nat → Prop} (hs : ∀ a b, ad a b → ad b a)
include hs
end
end Go.Sx

namespace Go.Sx
section
variable {ad : Nat → Nat → Prop}
variable (hs : ∀ a b, ad a b → ad b a) (hi : ∀ a, ¬ ad a a)
include hs
include hi
end
section
variable {ad : Nat → Nat → Prop} (hs : ∀ a b, ad a b → ad b a) (hi : ∀ a, ¬ ad a a)
include hs
include hi
end
end Go.Sx

namespace Go.Sx
section
variable {g : LL} (hg : GOk g)
include hg
end
end Go.Sx

namespace Go.Sx
section
variable {g : LL} (hg : GOk g)
include hg
end
end Go.Sx

namespace Go.Sx
section
variable {g : LL} (hg : GOk g)
include hg
end
end Go.Sx

namespace Go.Sx
section
variable {ad : Nat → Nat → Prop} (hs : ∀ a b, ad a b → ad b a) (hi : ∀ a, ¬ ad a a)
include hs hi
end
end Go.Sx

namespace Go.Sx
section
variable {ad : Nat → Nat → Prop} {X : Nat → Prop} {L R : Nat → Int} (h : Rp ad X L R)
include h
end
end Go.Sx

namespace Go.Sx
def atp (cs o:LI)(k v:Nat):Bool:=ch cs (o.getD k 0).toNat v
section
variable {g : LL} (hg : GOk g) {l o : LI} (hl : GC g l) (h16 : l.length ≤ 16) (ho : Goes l 0 o)
include hg hl
include h16 ho
end
end Go.Sx

namespace Go.Sx
section
variable {g l : LL} {cs : LI} (hg : GOk g)
include hg
end
end Go.Sx

namespace Go.Sx
end Go.Sx



namespace Go.Sx
section
variable {l : LI} (hn : l.length ≤ 16) (hvs : ∀ s ∈ l, VS s)
include hn hvs
end
section
variable {g : LL} (hg : GOk g)
include hg
end
end Go.Sx

namespace Go.Sx
section
variable {g : LL} (hg : GOk g)
include hg
end
end Go.Sx

namespace Go.Sx
def nearS (F:LI)(p:Pr):Int:=if p.2.2=2 then ishl .u32 1 p.2.1 else if p.2.2=3 then F.getD p.2.1.toNat 0 else if p.2.2=4 then ior .u32 (F.getD p.2.1.toNat 0) (ishl .u32 1 p.2.1) else 0
def Fs (n:Nat):List Pr→LI
 |[]=>List.replicate n 0
 |p::l=>joinF n (Fs n l) p.1.toNat (nearS (Fs n l) p)
def vsOf (l:List Pr):LI:=l.map (·.1)
def Lsts (g:LL)(K:Int):Prop:=In g.length K∧(∀u w,has K u=true→has K w=true→¬adj g u w)∧∀w,w<g.length→has K w=true∨∃v,has K v=true∧adj g v w
theorem l2Of_ok {g:LL}(hg:GOk g){L:LI}(h1:1≤L.length)(h16:L.length≤16)(hr:∀x∈L,0≤x∧x<g.length):
  ∃y,D.N0 g L=some y∧(GOk y∧y.length=L.length∧∀i j,adj y i j↔i<L.length∧j<L.length∧adj g (L.getD i 0).toNat (L.getD j 0).toNat):=by
 have hat:∀i (hi:i<L.length),∃v:Nat,L[i]=(v:Int)∧v<g.length∧(L.getD i 0).toNat=v:=λi hi=>by
  have:=hr _ (List.getElem_mem hi)
  exact⟨L[i].toNat,by omega,by omega,by rw[Bj hi]⟩
 unfold D.N0
 rw[l1Empty_eq _ h16,bs]
 refine BS (λs=>∃v:Nat,s.1=(v:Int)∧v≤L.length∧GOk s.2∧s.2.length=L.length∧∀x y,adj s.2 x y↔(x<v∧y<v)∧adj g (L.getD x 0).toNat (L.getD y 0).toNat) (λs=>L.length-s.1.toNat)
  (λy=>GOk y∧y.length=L.length∧∀i j,adj y i j↔i<L.length∧j<L.length∧adj g (L.getD i 0).toNat (L.getD j 0).toNat) ?_ ⟨0,rfl,by omega,GOk.empty h1 h16,by simp,λx y=>⟨λh=> ?_,λh=>by omega⟩⟩ (λr hr=>⟨r,rfl,hr⟩)
 ·rintro⟨_,G⟩ ⟨v,rfl,hv,hG,hl,hA⟩
  dsimp only at hG hl hA ⊢
  by_cases hvn:v<L.length
  ·rw[dlt hvn,cond_true]
   obtain⟨a,ea,han,ea'⟩:=hat v hvn
   refine BS (λs=>∃t:Nat,s.1=(t:Int)∧t≤v∧GOk s.2∧s.2.length=L.length∧∀x y,adj s.2 x y↔((x<v∧y<v)∨(x=v∧y<t)∨(y=v∧x<t))∧adj g (L.getD x 0).toNat (L.getD y 0).toNat) (λs=>v-s.1.toNat)
    (λr=>GOk r∧r.length=L.length∧∀x y,adj r x y↔(x<v+1∧y<v+1)∧adj g (L.getD x 0).toNat (L.getD y 0).toNat) ?_ ⟨0,rfl,by omega,hG,hl,λx y=>by rw[hA];simp⟩ (λr hr=>⟨_,rfl,⟨v+1,wi (by omega),by omega,hr⟩,?_⟩)
   ·rintro⟨_,G⟩ ⟨t,rfl,ht,hG,hl,hA⟩
    dsimp only at hG hl hA ⊢
    by_cases htv:t<v
    ·have htL:t<L.length:=by omega
     obtain⟨b,eb,hbn,eb'⟩:=hat t htL
     rw[dlt htv,cond_true,A8 hvn,bs,A8 htL,bs,ea,eb,l1Edge_eq g hg han,bs,wq t]
     by_cases hc:(b:Int)∈row g a
     ·have c1:adj g a b:=hc
      have c2:adj g b a:=hg.sym a b han c1
      obtain⟨G',e,k1,k2,k3⟩:=Dt hG (u:=t) (v:=v) (by omega) (by omega) (by omega)
      rw[decide_eq_true hc,cond_true,e,bs]
      refine⟨_,rfl,⟨t+1,rfl,by omega,k1,by dsimp only;omega,λx y=> ?_⟩,by dsimp only;omega⟩
      dsimp only
      rw[k3,hA]
      constructor
      ·rintro(⟨h3,h4⟩|⟨rfl,rfl⟩|⟨rfl,rfl⟩)
       ·exact⟨by omega,h4⟩
       ·exact⟨by omega,by rw[ea',eb'];exact c2⟩
       ·exact⟨by omega,by rw[ea',eb'];exact c1⟩
      ·rintro⟨h3,h4⟩
       by_cases d1:x=v∧y=t
       ·exact .inr (.inr d1)
       ·by_cases d2:x=t∧y=v
        ·exact .inr (.inl d2)
        ·exact .inl ⟨by omega,h4⟩
     ·have c1:¬adj g a b:=hc
      have c2:¬adj g b a:=λh=>c1 (hg.sym b a hbn h)
      rw[decide_eq_false hc,cond_false]
      refine⟨_,rfl,⟨t+1,rfl,by omega,hG,hl,λx y=> ?_⟩,by dsimp only;omega⟩
      dsimp only
      rw[hA]
      constructor
      ·rintro⟨h3,h4⟩;exact⟨by omega,h4⟩
      ·rintro⟨h3,h4⟩
       refine⟨?_,h4⟩
       by_cases d1:x=v∧y=t
       ·obtain⟨rfl,rfl⟩:=d1
        rw[ea',eb'] at h4;exact absurd h4 c1
       ·by_cases d2:x=t∧y=v
        ·obtain⟨rfl,rfl⟩:=d2
         rw[ea',eb'] at h4;exact absurd h4 c2
        ·omega
    ·obtain rfl:t=v:=by omega
     simp only[By,cond_false]
     refine⟨_,rfl,hG,hl,λx y=> ?_⟩
     rw[hA]
     constructor
     ·rintro⟨h3,h4⟩;exact⟨by omega,h4⟩
     ·rintro⟨h3,h4⟩
      refine⟨?_,h4⟩
      by_cases d:x=t∧y=t
      ·obtain⟨rfl,rfl⟩:=d
       rw[ea'] at h4;exact absurd h4 (hg.irr a han)
      ·omega
   ·dsimp only
    rw[wi (by omega)];omega
  ·obtain rfl:v=L.length:=by omega
   simp only[By,cond_false]
   refine⟨_,rfl,hG,hl,λx y=> ?_⟩
   rw[hA,and_assoc]
 ·unfold adj row at h
  rw[List.getD_eq_getElem?_getD,List.getElem?_replicate] at h
  split at h<;>simp at h
def lf (xs:List (Int×Int))(v:Nat):Int:=(xs.getD v (0,0)).1
structure IvL (xs:List (Int×Int)):Prop where
 n1:1≤xs.length
 n16:xs.length≤16
 ok:∀x∈xs,0≤x.1∧x.1≤x.2∧x.2≤100
section
variable {xs : List (Int × Int)} (h : IvL xs)
include h
end
end Go.Sx

namespace Go.Sx
section
variable {g : LL} (hg : GOk g) {l o : LI} (hl : GC g l) (h16 : l.length ≤ 16) (ho : Goes l 0 o) (hol : o.length ≤ 32)
include hg hl h16 ho hol
end
end Go.Sx

namespace Go.Sx
section
variable {g : LL} (hg : GOk g)
include hg
end
end Go.Sx

namespace Go.Sx
section
variable {g : LL} (hg : GOk g)
include hg
end
end Go.Sx

namespace Go.Sx
abbrev ap (a b:Nat):Int×Int:=((a:Int),(b:Int))
section
variable {g : LL} (hg : GOk g)
include hg
end
end Go.Sx

namespace Go.Sx
section
variable {g : LL} (hg : GOk g)
include hg
end
end Go.Sx

namespace Go.Sx
abbrev Vx (n at' x:Nat):Prop:=x<n∧x≠at'
def PP (F:LI)(n:Nat)(S:Nat→Prop):Prop:=∀c x,S c→S x→x≠c→(∀w,Ad F c w→Cn (Ad F) (Vx n c) x w→S w)∧∀y,S y→y≠c→Cn (Ad F) (Vx n c) x y→Cn (Ad F) (λz=>S z∧z≠c) x y
def Two (S:Int):Prop:=∃x y,El S x∧El S y∧x≠y
section
variable {F : LI} {n : Nat} (hn : n ≤ 16) (hF : FOk F n)
include hn hF
end
end Go.Sx

namespace Go.Sx
section
variable {g : LL} (hg : GOk g)
include hg
end
end Go.Sx

namespace Go.Sx
def pr (a b:Nat):LI:=[(a:Int),(b:Int)]
def Clo (g:LL)(u v a b:Nat):Prop:=∀T:Nat→Nat→Prop,T u v→T v u→(∀a b w,T a b→adj g a w→Cn (adj g) (Vx g.length a) b w→T a w∧T w a)→T a b
section
variable {g : LL} (hg : GOk g) {u v : Nat}
include hg
end
end Go.Sx

namespace Go.Sx
section
variable {g : LL} (hg : GOk g) {u v : Nat}
include hg
end
end Go.Sx

namespace Go.Sx
section
variable {g : LL} (hg : GOk g)
include hg
end
end Go.Sx

namespace Go.Sx
section
variable {g : LL} (hg : GOk g)
include hg
end
end Go.Sx

namespace Go.Sx
section
variable {g : LL} {o F L : LI} (hg : GOk g) (ho : OOk g o) (hF : Fill g o F L)
include hg ho hF
end
end Go.Sx

namespace Go.Sx
section
variable {g : LL} {o F L : LI} (hg : GOk g) (ho : OOk g o) (hF : Fill g o F L)
include hg ho hF
end
end Go.Sx

namespace Go.Sx
structure PB (g bags:LL):Prop where
 n16:bags.length≤16
 sets:∀i,i<bags.length→SetOf (bags.getD i []) g.length
 some:∀i,i<bags.length→bags.getD i []≠[]
 all:∀v:Nat,v<g.length→∃i,i<bags.length∧(v:Int)∈bags.getD i []
 edge:∀u v:Nat,u<g.length→adj g u v→∃i,i<bags.length∧(u:Int)∈bags.getD i []∧(v:Int)∈bags.getD i []
 run:∀(v:Nat) (i j k:Nat),i<j→j<k→k<bags.length→(v:Int)∈bags.getD i []→(v:Int)∈bags.getD k []→(v:Int)∈bags.getD j []
section
variable {g : LL} {o : LI} (hg : GOk g) (ho : OOk g o)
include hg ho
end
section
variable {g : LL} {o : LI} (hg : GOk g) (ho : OOk g o)
include hg ho
end
section
variable {g bags : LL} (hg : GOk g) (h : PB g bags)
include hg h
end
section
variable {g : LL} {o : LI} (hg : GOk g) (ho : OOk g o)
include hg ho
end
end Go.Sx

namespace Go.Sx
section
variable {B K : LL} (hB : Sh2 B) (hK : Sh2 K)
include hB hK
end
section
variable {g B K : LL} (hg : GOk g) (hB : Sh2 B) (hK : Sh2 K)
include hg hB hK
end
end Go.Sx

namespace Go.Sx
section
variable {g B K : LL} (hg : GOk g) (hs : ∀ b ∈ B, SetOf b (g.length : Int)) (hBl : B.length ≤ 16)
include hg hs hBl
end
section
variable {g B K : LL} (hg : GOk g) (hB : Sh2 B) (hK : Sh2 K)
include hg hB hK
end
end Go.Sx

namespace Go.Sx
def prt (s t:Int):Bool:=(iandNot .u32 s t)==0
structure TS (M:LI)(K:LL):Prop where
 n16:M.length≤16
 vs:∀s∈M,VS s
 lk:∀l∈K,LinkIn M.length l
 k16:K.length≤16
section
variable {M : LI} {K : LL} (h : TS M K) {g k : Nat} (hg : g < M.length) (hk : k < M.length) (hgk : g ≠ k)
include h hg hk hgk
end
def spareM (M:LI)(l:LI):Option (Nat×Nat):=
 if prt (M.getD (l.getD 1 0).toNat 0) (M.getD (l.getD 0 0).toNat 0) then some ((l.getD 1 0).toNat,(l.getD 0 0).toNat)
 else if prt (M.getD (l.getD 0 0).toNat 0) (M.getD (l.getD 1 0).toNat 0) then some ((l.getD 0 0).toNat,(l.getD 1 0).toNat) else none
def spare (M:LI)(K:LL):Option (Nat×Nat):=(List.range K.length).findSome? (λi=>spareM M (K.getD i []))
section
variable {M : LI} {K : LL} (h : TS M K)
include h
end
end Go.Sx

namespace Go.Sx
section
variable {G : LL} {M : LI} {K : LL} (h : TS M K) (hT : TB G (M.map Bq) K) {g k : Nat} (hg : g < M.length) (hk : k < M.length) (hgk : g ≠ k)
include h hT hg hk hgk
end
end Go.Sx

namespace Go.Sx
section
variable {g : LL} (hg : GOk g)
include hg
end
end Go.Sx

namespace Go.Sx
section
variable {g : LL} (hg : GOk g)
include hg
def prs (P:List (Nat×Nat)):LL:=P.map λp=>pr p.1 p.2
end
end Go.Sx

namespace Go.Sx
section
variable {g : LL} (hg : GOk g)
include hg
end
end Go.Sx

namespace Go.Sx
section
variable {g : LL} (hg : GOk g)
include hg
end
end Go.Sx

namespace Go.Sx
section
variable {g : LL} (hg : GOk g)
include hg
end
end Go.Sx

namespace Go.Sx
section
variable {g : LL} (hg : GOk g)
include hg
end
end Go.Sx

namespace Go.Sx
section
variable {g : LL} (hg : GOk g)
include hg
end
end Go.Sx

namespace Go.Sx
section
variable {g : LL} (hg : GOk g)
include hg
end
end Go.Sx

namespace Go.Sx
def wst (A:Nat→Nat→Bool)(s v u:Nat):Bool:=A v u&& !s.testBit u
def wcnF (A:Nat→Nat→Bool)(n:Nat)(L:Nat→Bool):Nat→Nat→Nat→Nat
 |0,_,_=>0
 |k+1,s,v=>if s=2^n-1 then bit (L v) else sumN (λu=>bit (wst A s v u)*wcnF A n L k (s|||2^u) u) n
def wcn (A:Nat→Nat→Bool)(n:Nat)(L:Nat→Bool)(s v:Nat):Nat:=wcnF A n L (2^n) s v
def rm (n:Nat)(m:Int):Int:=iandNot .u32 (full n) m
noncomputable def bh (F:LI)(m v:Int):Int:=(D.e1 F m v).getD 0
noncomputable def indP (p:Prop):Nat:=by classical exact if p then 1 else 0
noncomputable def cntP (n:Nat)(p:Nat→Prop):Nat:=sumN (λv=>indP (p v)) n
section
variable (A : Nat → Nat → Prop) (n : Nat)
def EdI (e:Nat):Prop:=e<n*n∧(e/n=e%n∨A (e/n) (e%n))
def AtI (v:Nat)(P:Nat→Prop):Prop:=∃e,EdI A n e∧P e∧(e/n=v∨e%n=v)
def TI (X:BitVec (n*n))(v:Nat):Prop:=AtI A n v λe=>X.getLsbD e=true
def BdI (X:BitVec (n*n))(v:Nat):Prop:=TI A n X v∧TI A n (~~~X) v
def DelI (m:List (BitVec (n*n)))(v:Nat):Prop:=∃X∈m,BdI A n X v
end
def DisI {N:Nat}(X Y:BitVec N):Prop:=∀e,¬(X.getLsbD e=true∧Y.getLsbD e=true)
def PartI {N:Nat}(m:List (BitVec N)):Prop:=m.Pairwise DisI∧∀e,e<N→∃X∈m,X.getLsbD e=true
section
variable {A : Nat → Nat → Prop} {n k : Nat}
end
end Go.Sx

namespace Go.Sx
def PermN (m:Nat)(f:Nat→Nat):Prop:=(∀x,x<m→f x<m)∧∀x y,x<m→y<m→f x=f y→x=y
section
variable {m : Nat} {f : Nat → Nat}
variable {da : Nat → Prop}
variable (h : PermN m f) (hc : ∀ x, x < m → da x → da (f x)) {S : Nat → Prop} {b d : Nat}
include h hc
variable {face : Nat → LI} {out : LL}
end
end Go.Sx

namespace Go.Sx
def nx (t:LI)(x:Int):Int:=t.getD ((t.idxOf x+1)%t.length) 0
structure Rot (g T:LL):Prop where
 ok:GOk g
 len:T.length=g.length
 rows:∀v,v<g.length→RowOk (row T v) (row g v)
section
variable {g T : LL} (R : Rot g T)
include R
end
section
variable {g T : LL} (R : Rot g T)
include R
end
end Go.Sx

namespace Go.Sx
section
variable {g T : LL} (R : Rot g T)
include R
end
end Go.Sx

namespace Go.Sx
section
variable {g T : LL} (R : Rot g T)
include R
end
end Go.Sx

namespace Go.Sx
section
variable {g T : LL} (R : Rot g T)
include R
end
end Go.Sx

namespace Go.Sx
def Pot (n:Nat)(h w:Nat→Nat→Nat)(a:Nat):Nat:=sumN (λk=>sumN (λu=>(if a≤k then w k u else 0)*h k u) n) (2^n)
def zer (n s:Nat):Nat:=sumN (λu=>bit (!s.testBit u)) n
section
variable {F : LI} {n : Nat} (hF : FOk F n) (h1 : 1 ≤ n) (h16 : n ≤ 16)
include hF h1 h16
end
end Go.Sx

namespace Go.Sx
section
variable {F : LI} {n : Nat} (hF : FOk F n) (h1 : 1 ≤ n) (h16 : n ≤ 16)
include hF h1 h16
end
end Go.Sx

namespace Go.Sx
section
variable {g : LL} (hg : GOk g)
include hg
end
end Go.Sx

namespace Go.Sx
section
variable {g : LL} (hg : GOk g)
include hg
end
end Go.Sx

namespace Go.Sx
section
variable {g : LL} (hg : GOk g)
include hg
end
end Go.Sx

namespace Go.Sx
theorem andnot64 {a b:Int}(ha:VS a)(hb:VS b):iandNot .i64 a b=iandNot .u32 a b:=by
 obtain⟨m,rfl,hm⟩:=ha.nat;obtain⟨n,rfl,hn⟩:=hb.nat
 have hle:(BitVec.ofInt 64 (m:Int)&&& ~~~(BitVec.ofInt 64 (n:Int))).toNat≤m:=by
  rw[BitVec.toNat_and,Cb m (by omega)];exact Nat.and_le_left
 have e:iandNot .i64 (m:Int) (n:Int)=(((BitVec.ofInt 64 (m:Int)&&& ~~~(BitVec.ofInt 64 (n:Int))).toNat:Nat):Int):=by
  show IntKind.i64.wrap (((BitVec.ofInt 64 (m:Int)&&& ~~~(BitVec.ofInt 64 (n:Int))).toNat:Nat):Int)=_
  rw[w64 (by omega) (by omega)]
 rw[e]
 refine VS.ext ⟨by omega,by omega⟩ (VS.iandNot _ _) (λv hv=> ?_)
 have h1:(BitVec.ofInt 64 (m:Int)).getLsbD v=m.testBit v:=by rw[BitVec.getLsbD,Cb m (by omega)]
 have h2:(BitVec.ofInt 64 (n:Int)).getLsbD v=n.testBit v:=by rw[BitVec.getLsbD,Cb n (by omega)]
 rw[Dx ⟨by omega,by omega⟩ ⟨by omega,by omega⟩,BD,BD,BD,←BitVec.getLsbD,BitVec.getLsbD_and,BitVec.getLsbD_not,h1,h2]
 simp[show v<64 by omega]
section
variable {g : LL} (hg : GOk g)
include hg
end
end Go.Sx

namespace Go.Sx
section
variable {g : LL} (hg : GOk g)
include hg
end
end Go.Sx

namespace Go.Sx
noncomputable def wv (F:LI)(rec:Int→Int)(m v:Int):Int:=if((Bq (bh F m v)).length:Int)<rec (ior .u32 m (ishl .u32 1 v)) then rec (ior .u32 m (ishl .u32 1 v)) else((Bq (bh F m v)).length:Int)
noncomputable def wd (F:LI)(n:Nat):Nat→Int→Int
 |0,_=>0
 |k+1,m=>(Bq (rm n m)).foldl (λb v=>if wv F (wd F n k) m v<b then wv F (wd F n k) m v else b) 16
section
variable {F : LI} {n k : Nat} (hn : n ≤ 16) (hF : FOk F n)
include hn hF
end
section
variable {A : Nat → Nat → Prop} {n k : Nat}
end
section
variable {F : LI} {n k : Nat} (hn : n ≤ 16) (hF : FOk F n)
include hn hF
end
end Go.Sx

namespace Go.Sx
def Tch (F:LI)(s t:Int):Prop:=∃x y,El s x∧El t y∧(x=y∨nb F x y=true)
section
variable {F : LI} {n k : Nat} (hn : n ≤ 16) (hF : FOk F n)
include hn hF
end
end Go.Sx

namespace Go.Sx
section
variable {g : LL} (hg : GOk g)
include hg
end
end Go.Sx

namespace Go.Sx
section
variable {g : LL} (hg : GOk g)
include hg
end
end Go.Sx

namespace Go.Sx
section
variable {g : LL} (hg : GOk g)
include hg
end
end Go.Sx

namespace Go.Sx
section
variable {g B K : LL} (hg : GOk g) (h : TB g B K)
include hg h
end
end Go.Sx

namespace Go.Sx
noncomputable def bo (F:LI)(n:Nat)(most:Int):Nat→Int→LI
 |0,_=>[]
 |k+1,m=>match(Bq (rm n m)).find? (λv=>decide (wv F (wd F n k) m v≤most)) with
  |some v=>v::bo F n most k (ior .u32 m (ishl .u32 1 v))
  |none=>[]
section
variable {g : LL} {o F L : LI} (hg : GOk g) (ho : OOk g o) (hF : Fill g o F L)
include hg ho hF
end
end Go.Sx

namespace Go.Sx
section
variable {g : LL} (hg : GOk g)
include hg
end
end Go.Sx

namespace Go.Sx
section
variable {F : LI} {n : Nat} (hn : n ≤ 16) (hF : FOk F n)
include hn hF
end
section
variable {g : LL} (hg : GOk g)
include hg
end
end Go.Sx

namespace Go.Sx
section
variable {F : LI} {n : Nat} (hn : n ≤ 16) (hF : FOk F n)
include hn hF
end
section
variable {g : LL} (hg : GOk g)
include hg
end
end Go.Sx

namespace Go.Sx
theorem l25Mask_eq (xs:LI)(h:Sh xs)(h0:∀x∈xs,0≤x∧x<32):D.I xs=some (mk xs):=by
 unfold Sh at h
 unfold D.I
 refine(Ck (λk=>(mk (xs.take k),(k:Int))) xs.length (mk xs) (by simp[mk]) (λk hk=> ?_) ?_).trans rfl
 ·have hx:=h0 _ (List.getElem_mem hk)
  obtain⟨w,hw⟩:∃w:Nat,xs[k]=(w:Int):=⟨xs[k].toNat,by omega⟩
  simp only[dlt hk,cond_true,A8 hk,hw,bs,uw (show w<1000 by omega),C5,cond_false,wq k]
  rw[shl64 (show w<32 by omega),Dn (VS.mk _) (VS.ishl _ _)]
  have:mk (xs.take (k+1))=ior .u32 (mk (xs.take k)) (ishl .u32 1 (w:Int)):=by
   unfold mk
   rw[List.take_succ_eq_append_getElem hk,List.foldl_append,hw];rfl
  rw[this]
 ·simp only[By,cond_false,List.take_length]
section
variable {F : LI} {n : Nat} (hn : n ≤ 16) (hF : FOk F n)
include hn hF
end
section
variable {F : LI} {n : Nat} (hn : n ≤ 16) (hF : FOk F n)
include hn hF
end
end Go.Sx

namespace Go.Sx
section
variable {g T : LL} (R : Rot g T)
include R
end
end Go.Sx

namespace Go.Sx
section
variable {g : LL} (hg : GOk g)
include hg
end
end Go.Sx

namespace Go.Sx
def prI {α:Type}(c:Nat→Nat→α)(a b i:Nat):List α:=(if b=0 then(List.range' (i+1) (a-(i+1))).map (c i) else [])++(List.range' 0 b).map λx=>c i (a+x)
def prL {α:Type}(c:Nat→Nat→α)(a b:Nat):Nat→List α
 |0=>[]
 |i+1=>prL c a b i++prI c a b i
def prN (a b:Nat):List (Nat×Nat):=prL Prod.mk a b a
def nd (a b i:Nat):Nat:=((List.range (a+b)).filter λw=>decide ((i,w)∈prN a b∨(w,i)∈prN a b)).length
section
variable {g : LL} (hg : GOk g)
include hg
end
end Go.Sx

namespace Go.Sx
section
variable {g : LL} (hg : GOk g)
include hg
end
end Go.Sx

namespace Go.Sx
theorem l1Copy_any (l:LI)(h:l.length≤4294967295):D.k l=some l:=by
 unfold D.k
 rw[Bf (by simp;omega)];simp
section
variable {g : LL} (hg : GOk g)
include hg
end
end Go.Sx

namespace Go.Sx
section
variable {g : LL} (hg : GOk g)
include hg
end
end Go.Sx

namespace Go.Sx
section
variable {g : LL} (hg : GOk g)
include hg
end
end Go.Sx

namespace Go.Sx
section
variable {g : LL} (hg : GOk g)
include hg
end
end Go.Sx

namespace Go.Sx
section
variable {g : LL} (hg : GOk g)
include hg
end
end Go.Sx

namespace Go.Sx
def FewF (f:List (Int×Int×Int)):Prop:=1≤f.length∧f.length≤41
theorem Ev {b:LI}{i:Int}(h:DK b i)(z:Int):Dw b Few (D.P0 b i z):=by
 unfold D.P0
 refine(B7 h z 6).then λt i1 z1 _ hk=> ?_
 dsimp only
 cases t
 ·rw[cond_false]
  refine(Bu hk z1 5 (by omega)).then λr i2 z2 hr hk=> ?_
  dsimp only at hr ⊢
  obtain⟨r',rfl⟩:=Int.eq_ofNat_of_zero_le hr.1
  rw[show IntKind.i64.wrap (1+(r':Int))=((r'+1:Nat):Int) by rw[w64 (by omega) (by omega)];omega]
  exact(Es hk z2 (r'+1) (by omega) (by omega)).then λg i3 z3 hg hk=>⟨_,rfl,hg.1.few,rfl,hk⟩
 ·rw[cond_true]
  exact(DrawAny_dw hk z1).then λg i3 z3 hg hk=>⟨_,rfl,hg,rfl,hk⟩
theorem named_ok {k:Int}(h0:0≤k)(h5:k<5):∃y,D.L0 k=some y∧(1≤y.1.length∧y.1.length≤15):=by
 unfold D.L0 D.b
 generalize hR:([([1,0,1,7,1,0,4,1,0,7,0,2]:LI),([1,0,1,2,0,1,6,0,1,4,2,0,7,1,3,4,4,0,7,0,5]:LI),([1,0,1,1,0,2,1,1,2,5,0,1,5,3,2,7,2,4,7,1,5,7,0,6]:LI),([3,0,0,3,1,0,5,0,1,4,0,0,4,1,0,5,3,4,6,2,5,1,0,1,5,7,6,7,1,8,7,0,9,4,10,0,8,0,11]:LI),([3,0,0,3,1,0,4,1,0,5,0,2,1,0,1,5,3,4,7,1,5,7,0,6,4,7,0,7,0,0,4,0,0,7,0,10,5,8,9,5,12,11,8,0,13]:LI)]:LL)=R
 have hRl:R.length=5:=by rw[←hR];rfl
 obtain⟨row,er,q,hq,h1,h15⟩:∃row,idx R k=some row∧∃q:Nat,row.length=3*q∧1≤q∧q≤15:=by
  obtain⟨kk,rfl⟩:=Int.eq_ofNat_of_zero_le h0
  have:kk=0∨kk=1∨kk=2∨kk=3∨kk=4:=by omega
  rw[←hR]
  rcases this with rfl|rfl|rfl|rfl|rfl
  ·exact⟨_,rfl,4,rfl,by omega,by omega⟩
  ·exact⟨_,rfl,7,rfl,by omega,by omega⟩
  ·exact⟨_,rfl,8,rfl,by omega,by omega⟩
  ·exact⟨_,rfl,13,rfl,by omega,by omega⟩
  ·exact⟨_,rfl,15,rfl,by omega,by omega⟩
 have hin:(decide ((0:Int)≤k)&&decide (k≤IntKind.i64.wrap ((R.length:Int)-1)))=true:=by
  rw[hRl,show IntKind.i64.wrap ((5:Nat)-1:Int)=4 from rfl,decide_eq_true h0,decide_eq_true (show k≤4 by omega)];rfl
 rw[bs,hin,Bool.not_true,cond_false]
 refine BS (λs=>∃v:Nat,s.1=((3*v:Nat):Int)∧v≤q∧s.2.length=v) (λs=>3*q-s.1.toNat) (λr=>r.length=q) ?_ ⟨0,rfl,by omega,rfl⟩ (λr hr=>⟨_,rfl,by have hr:r.length=q:=hr;dsimp only;omega,by have hr:r.length=q:=hr;dsimp only;omega⟩)
 rintro⟨_,l⟩ ⟨v,rfl,hv,hl⟩
 dsimp only at hl ⊢
 rw[er,bs]
 by_cases hlt:v<q
 ·have e0:IntKind.i64.wrap (((3*v:Nat):Int)+1)=((3*v+1:Nat):Int):=wi (by omega)
  have e1:IntKind.i64.wrap (((3*v:Nat):Int)+2)=((3*v+2:Nat):Int):=by rw[w64 (by omega) (by omega)];omega
  have e2:IntKind.i64.wrap (((3*v:Nat):Int)+3)=((3*(v+1):Nat):Int):=by rw[w64 (by omega) (by omega)];omega
  rw[decide_eq_true (show ((3*v:Nat):Int)<(row.length:Int) by omega),cond_true]
  simp only[bs]
  rw[A8 (show 3*v<row.length by omega),bs,e0,A8 (show 3*v+1<row.length by omega),bs,e1,A8 (show 3*v+2<row.length by omega),bs,Bf (by simp;omega),bs,e2]
  exact⟨_,rfl,⟨v+1,rfl,by omega,by simp;omega⟩,by dsimp only;omega⟩
 ·rw[decide_eq_false (show¬((3*v:Nat):Int)<(row.length:Int) by omega),cond_false]
  exact⟨_,rfl,show l.length=q by omega⟩
theorem l30Draw_dw {b:LI}{i:Int}(h:DK b i)(z:Int):Dw b (λf:List (Int×Int×Int)=>1≤f.length∧f.length≤15) (D.g b i z):=by
 unfold D.g
 refine(B7 h z 3).then λt i1 z1 _ hk=> ?_
 dsimp only
 cases t
 ·rw[cond_false]
  refine(Bu hk z1 8 (by omega)).then λr i2 z2 hr hk=> ?_
  dsimp only at hr ⊢
  obtain⟨n,rfl⟩:=Int.eq_ofNat_of_zero_le hr.1
  rw[show IntKind.i64.wrap (1+(n:Int))=((n+1:Nat):Int) by rw[w64 (by omega) (by omega)];omega]
  refine BS (λs=>∃v:Nat,s.2.1=(v:Int)∧v+s.2.2.2.2.2.length=n+1∧s.2.2.1=b∧DK b s.2.2.2.1) (λs=>s.2.1.toNat) (λr=>1≤r.1.length∧r.1.length≤15∧r.2.1=b∧DK b r.2.2.1) ?_ ⟨n+1,rfl,by simp,rfl,hk⟩ ?_
  ·rintro⟨c,_,b2,i,z,l⟩ ⟨v,rfl,hv,rfl,hk⟩
   dsimp only at hv hk ⊢
   by_cases h0:0<v
   ·have ev:IntKind.i64.wrap ((v:Int)-1)=((v-1:Nat):Int):=by rw[w64 (by omega) (by omega)];omega
    have app:∀(x:Int×Int×Int),AB l [x]=some (l++[x]):=λx=>Bf (by simp;omega)
    have hl1:∀(x:Int×Int×Int),v-1+(l++[x]).length=n+1:=λx=>by simp;omega
    rw[decide_eq_true (show (0:Int)<(v:Int) by omega),cond_true]
    refine(Bu hk z 3 (by omega)).then λa1 i z _ hk=> ?_
    refine(Bu hk z 3 (by omega)).then λa2 i z _ hk=> ?_
    refine(Bu hk z 2 (by omega)).then λa3 i z _ hk=> ?_
    dsimp only
    refine Cv (λy:Bool×LI×Int×Int=>y.2.1=b2∧DK b2 y.2.2.1) ?_ ?_
    ·by_cases h1:(1:Int)<(l.length:Int)
     ·rw[decide_eq_true h1,cond_true]
      exact(B7 hk z 4).then λt i z _ hk=>⟨_,rfl,rfl,hk⟩
     ·rw[decide_eq_false h1,cond_false]
      exact⟨_,rfl,rfl,hk⟩
    ·rintro⟨t,b3,i,z⟩ ⟨hb,hk⟩
     dsimp only at hb hk ⊢
     subst hb
     cases t
     ·rw[cond_false,app,bs,ev]
      exact⟨_,rfl,⟨v-1,rfl,hl1 _,rfl,hk⟩,by dsimp only;omega⟩
     ·rw[cond_true]
      refine(Bu hk z 6 (by omega)).then λw i z hw hk=> ?_
      dsimp only at hw ⊢
      have:w=0∨w=1∨w=2∨w=3∨w=4∨w=5:=by omega
      rcases this with rfl|rfl|rfl|rfl|rfl|rfl
      ·show∃y,(AB l [_]).bind _=some y∧_
       rw[app,bs,ev]
       exact⟨_,rfl,⟨v-1,rfl,hl1 _,rfl,hk⟩,by dsimp only;omega⟩
      ·refine(BW hk z _).then λx i z _ hk=> ?_
       dsimp only
       rw[app,bs,ev]
       exact⟨_,rfl,⟨v-1,rfl,hl1 _,rfl,hk⟩,by dsimp only;omega⟩
      ·refine(BW hk z _).then λx i z _ hk=> ?_
       dsimp only
       rw[app,bs,ev]
       exact⟨_,rfl,⟨v-1,rfl,hl1 _,rfl,hk⟩,by dsimp only;omega⟩
      ·refine(BW hk z _).then λx i z _ hk=> ?_
       dsimp only
       rw[app,bs,ev]
       exact⟨_,rfl,⟨v-1,rfl,hl1 _,rfl,hk⟩,by dsimp only;omega⟩
      ·refine(BW hk z _).then λx i z _ hk=> ?_
       dsimp only
       rw[app,bs,ev]
       exact⟨_,rfl,⟨v-1,rfl,hl1 _,rfl,hk⟩,by dsimp only;omega⟩
      ·by_cases h2:c<2
       ·show∃y,(cond (decide (c<2)) _ _)=some y∧_
        rw[decide_eq_true h2,cond_true]
        refine(BW hk z _).then λx i z _ hk=> ?_
        dsimp only
        rw[app,bs,ev]
        exact⟨_,rfl,⟨v-1,rfl,hl1 _,rfl,hk⟩,by dsimp only;omega⟩
       ·show∃y,(cond (decide (c<2)) _ _)=some y∧_
        rw[decide_eq_false h2,cond_false,app,bs,ev]
        exact⟨_,rfl,⟨v-1,rfl,hl1 _,rfl,hk⟩,by dsimp only;omega⟩
   ·rw[decide_eq_false (show¬(0:Int)<(v:Int) by omega),cond_false]
    exact⟨_,rfl,by dsimp only;omega,by dsimp only;omega,rfl,hk⟩
  ·rintro⟨f,b2,i2,z2⟩ ⟨h1,h15,rfl,hk⟩
   exact⟨_,rfl,⟨h1,h15⟩,rfl,hk⟩
 ·rw[cond_true]
  refine(Bu hk z1 5 (by omega)).then λr i2 z2 hr hk=> ?_
  dsimp only at hr ⊢
  refine Cv _ (named_ok hr.1 hr.2) λy hy=>⟨_,rfl,hy,rfl,hk⟩
theorem l30DrawAny_dw {b:LI}{i:Int}(h:DK b i)(z:Int):Dw b FewF (D.x0 b i z):=by
 unfold D.x0
 refine(l30Draw_dw h z).then λf i z hf hk=> ?_
 dsimp only at hf ⊢
 refine(B7 hk z 10).then λt i z _ hk=> ?_
 dsimp only
 have hF:∀k x,FewF (f.set k x):=λk x=>⟨by rw[List.length_set];omega,by rw[List.length_set];omega⟩
 cases t
 ·exact⟨_,rfl,⟨hf.1,by dsimp only;omega⟩,rfl,hk⟩
 ·rw[cond_true]
  refine(Bu hk z (f.length:Int) (by omega)).then λk i z hkk hk=> ?_
  dsimp only at hkk ⊢
  refine(Bu hk z 4 (by omega)).then λw i z hw hk=> ?_
  dsimp only at hw ⊢
  have:w=0∨w=1∨w=2∨w=3:=by omega
  rcases this with rfl|rfl|rfl|rfl
  ·refine(from_dw hk z 0 9).then λx i z _ hk=> ?_
   dsimp only
   rw[B4 hkk.1 (by omega),bs]
   exact⟨_,rfl,hF _ _,rfl,hk⟩
  ·refine(num_dw hk z 5).then λx i z _ hk=> ?_
   dsimp only
   rw[B4 hkk.1 (by omega),bs]
   exact⟨_,rfl,hF _ _,rfl,hk⟩
  ·refine(num_dw hk z 5).then λx i z _ hk=> ?_
   dsimp only
   rw[B4 hkk.1 (by omega),bs]
   exact⟨_,rfl,hF _ _,rfl,hk⟩
  ·refine BS (λs=>s.1=b∧DK b s.2.1∧FewF s.2.2.2) (λs=>41-s.2.2.2.length) (λr=>FewF r.1∧r.2.1=b∧DK b r.2.2.1) ?_ ⟨rfl,hk,hf.1,by dsimp only;omega⟩ (λr hr=>⟨_,rfl,hr.1,hr.2.1,hr.2.2⟩)
   rintro⟨b2,i,z,l⟩ ⟨rfl,hk,hl⟩
   dsimp only at hl hk ⊢
   refine(Bu hk z 2 (by omega)).then λx i z hx hk=> ?_
   dsimp only at hx ⊢
   obtain⟨h1,h2⟩:=hl
   rw[show IntKind.i64.wrap (40+x)=40+x from w64 (by omega) (by omega)]
   by_cases hlt:(l.length:Int)<40+x
   ·rw[decide_eq_true hlt,cond_true,Bf (by simp;omega),bs]
    exact⟨_,rfl,⟨rfl,hk,⟨by simp,by simp;omega⟩⟩,by simp;omega⟩
   ·rw[decide_eq_false hlt,cond_false]
    exact⟨_,rfl,⟨h1,h2⟩,rfl,hk⟩
theorem DrawHoldsIn_ok (code:LI)(h:∀x∈code,0≤x∧x≤255)(hl:code.length≤4096):
  ∃y,D.t0 code=some y∧(Few y.1∧FewF y.2.1∧y.2.2.1.length≤4∧y.2.2.2.length≤2∧∀s∈y.2.2.2,s.length≤18):=by
 unfold D.t0
 obtain⟨z,e,hk⟩:=new_ok code h hl
 rw[e,bs]
 refine(Ev hk z).then λg i z hg hk=> ?_
 dsimp only
 refine(l30DrawAny_dw hk z).then λf i z hf hk=> ?_
 dsimp only
 refine(BW hk z _).then λa i z _ hk=> ?_
 refine(BW hk z _).then λb i z _ hk=> ?_
 refine(BW hk z _).then λc i z _ hk=> ?_
 dsimp only
 refine(DrawSet_dw hk z hg).then λs i z hs hk=> ?_
 refine(DrawSet_dw hk z hg).then λt i z ht hk=> ?_
 dsimp only at hs ht ⊢
 have hst:∀x∈[s,t],x.length≤18:=λx hx=>by
  simp only[List.mem_cons,List.not_mem_nil,or_false] at hx
  rcases hx with rfl|rfl<;>assumption
 refine(B7 hk z 15).then λw i z _ hk=> ?_
 dsimp only
 refine Cv (λl:LI=>3≤l.length∧l.length≤4) ?_ ?_
 ·cases w
  ·exact⟨_,rfl,by simp,by simp⟩
  ·rw[cond_true,Bf (by simp),bs]
   exact⟨_,rfl,by simp,by simp⟩
 ·intro l hl
  refine(B7 hk z 15).then λw i z _ hk=> ?_
  dsimp only
  have hsl:BF [s,t] 1 (([s,t]:LL).length:Int)=some [t]:=rfl
  have ht1:∀x∈[t],x.length≤18:=λx hx=>hst x (List.mem_cons_of_mem _ hx)
  cases w
  ·rw[cond_false]
   refine(B7 hk z 15).then λw i z _ hk=> ?_
   dsimp only
   cases w
   ·exact⟨_,rfl,hg,hf,hl.2,by simp,hst⟩
   ·rw[cond_true,hsl,bs]
    exact⟨_,rfl,hg,hf,hl.2,by simp,ht1⟩
  ·rw[cond_true]
   refine(from_dw hk z (-1) 7).then λx i z _ hk=> ?_
   dsimp only
   rw[show (0:Int)=((0:Nat):Int) from rfl,A8 (show 0<l.length by omega),bs]
   refine(B7 hk z 15).then λw i z _ hk=> ?_
   dsimp only
   have hll:∀k x,(l.set k x).length≤4:=λk x=>by rw[List.length_set];exact hl.2
   cases w
   ·exact⟨_,rfl,hg,hf,hll _ _,by simp,hst⟩
   ·rw[cond_true,hsl,bs]
    exact⟨_,rfl,hg,hf,hll _ _,by simp,ht1⟩
abbrev Fct :Type:=Int×Int×Int
def inr (x:Int)(n:Nat):Bool:=decide (0≤x)&&decide (x<(n:Int))
theorem inr_iff {x:Int}{n:Nat}:inr x n=true↔0≤x∧x<(n:Int):=by unfold inr;simp
def okF (i:Nat)(x:Fct):Bool:=
 if x.1=1∨x.1=2 then inr x.2.1 3&&inr x.2.2 3
 else if x.1=3 then inr x.2.1 3&&inr x.2.2 2
 else if x.1=4 then inr x.2.1 i&&(x.2.2==0)
 else if x.1=5∨x.1=6 then inr x.2.1 i&&inr x.2.2 i
 else if x.1=7 then inr x.2.1 3&&inr x.2.2 i
 else if x.1=8 then inr x.2.1 2&&inr x.2.2 i
 else false
theorem Db (x:Int)(n:Nat):(decide ((0:Int)≤x)&&decide (x≤(n:Int)-1))=inr x n:=by
 unfold inr
 congr 1
 rw[Bool.eq_iff_iff,decide_eq_true_eq,decide_eq_true_eq];omega
theorem CY (x:Int):x=1∨x=2∨x=3∨x=4∨x=5∨x=6∨x=7∨x=8∨(x≠1∧x≠2∧x≠3∧x≠4∧x≠5∧x≠6∧x≠7∧x≠8):=by omega
theorem goodFact_eq (x:Fct){i:Nat}(hi:i<1000000):D.c x.1 x.2.1 x.2.2 (i:Int)=some (okF i x):=by
 obtain⟨k,a,b⟩:=x
 have e1:∀y,D.E y=some (inr y 3):=λy=>congrArg some (Db y 3)
 have e2:∀y,D.k0 y=some (inr y 2):=λy=>congrArg some (Db y 2)
 have e3:∀y,D.r y (i:Int)=some (inr y i):=λy=>by
  unfold D.r D.p
  rw[w64 (by omega) (by omega),bs,Db]
 unfold D.c okF
 dsimp only
 simp only[e1,e2,e3,bs]
 rcases CY k with rfl|rfl|rfl|rfl|rfl|rfl|rfl|rfl|⟨h1,h2,h3,h4,h5,h6,h7,h8⟩
 ·cases inr a 3<;>rfl
 ·cases inr a 3<;>rfl
 ·cases inr a 3<;>rfl
 ·rfl
 ·cases inr a i<;>rfl
 ·cases inr a i<;>rfl
 ·cases inr a 3<;>rfl
 ·cases inr a 2<;>rfl
 ·simp only[beq_false_of_ne h1,beq_false_of_ne h2,beq_false_of_ne h3,beq_false_of_ne h4,beq_false_of_ne h5,beq_false_of_ne h6,beq_false_of_ne h7,beq_false_of_ne h8,h1,h2,h3,h4,h5,h6,h7,h8,cond_false,bs,or_self,if_false]
theorem l30Fact_eq (x:Fct){i:Nat}(hi:i<1000000):D.J0 x.1 x.2.1 x.2.2 (i:Int)=some (okF i x):=by
 obtain⟨k,a,b⟩:=x
 have e1:∀y,D.C y=some (inr y 3):=λy=>congrArg some (Db y 3)
 have e2:∀y,D.l0 y=some (inr y 2):=λy=>congrArg some (Db y 2)
 have e3:∀y,D.b y 0 (IntKind.i64.wrap ((i:Int)-1))=some (inr y i):=λy=>by
  unfold D.b
  rw[w64 (by omega) (by omega),Db]
 unfold D.J0 okF
 dsimp only
 simp only[e1,e2,e3,bs]
 rcases CY k with rfl|rfl|rfl|rfl|rfl|rfl|rfl|rfl|⟨h1,h2,h3,h4,h5,h6,h7,h8⟩
 ·cases inr a 3<;>rfl
 ·cases inr a 3<;>rfl
 ·cases inr a 3<;>rfl
 ·rfl
 ·rfl
 ·rfl
 ·rfl
 ·rfl
 ·simp only[beq_false_of_ne h1,beq_false_of_ne h2,beq_false_of_ne h3,beq_false_of_ne h4,beq_false_of_ne h5,beq_false_of_ne h6,beq_false_of_ne h7,beq_false_of_ne h8,h1,h2,h3,h4,h5,h6,h7,h8,cond_false,bs,or_self,if_false]
def frm (f:List Fct):Bool:=decide (1≤f.length)&&(decide (f.length≤40)&&(List.range f.length).all λi=>okF i (f.getD i (0,0,0)))
theorem frm_iff {f:List Fct}:frm f=true↔1≤f.length∧f.length≤40∧∀i,i<f.length→okF i (f.getD i (0,0,0))=true:=by
 unfold frm
 rw[Bool.and_eq_true,Bool.and_eq_true,decide_eq_true_eq,decide_eq_true_eq,CP]
theorem CC {f:List Fct}:D.O f=some (frm f):=by
 unfold D.O frm
 by_cases h1:1≤f.length
 ·by_cases h40:f.length≤40
  ·rw[decide_eq_false (show¬(f.length:Int)<1 by omega),decide_eq_false (show¬(40:Int)<(f.length:Int) by omega),Bool.or_self,cond_false,decide_eq_true h1,decide_eq_true h40,Bool.true_and,Bool.true_and]
   refine Cx f.length _ false (λi hi=> ?_) ?_ rfl rfl
   ·rw[dlt hi,cond_true,A8 hi,bs,goodFact_eq _ (by omega),bs,wi (by omega),Bj hi]
    cases okF i f[i]<;>rfl
   ·rw[By,cond_false]
  ·rw[decide_eq_true (show (40:Int)<(f.length:Int) by omega),Bool.or_true,cond_true,decide_eq_false h40,Bool.false_and,Bool.and_false]
 ·rw[decide_eq_true (show (f.length:Int)<1 by omega),Bool.true_or,cond_true,decide_eq_false h1,Bool.false_and]
theorem Cc {f:List Fct}:D.u f=some (frm f):=by
 unfold D.u frm D.b
 rw[bs]
 by_cases h1:1≤f.length
 ·by_cases h40:f.length≤40
  ·rw[decide_eq_true (show (1:Int)≤(f.length:Int) by omega),decide_eq_true (show (f.length:Int)≤40 by omega),Bool.and_self,Bool.not_true,cond_false,decide_eq_true h1,decide_eq_true h40,Bool.true_and,Bool.true_and]
   refine Cx f.length _ false (λi hi=> ?_) ?_ rfl rfl
   ·rw[dlt hi,cond_true,A8 hi,bs,l30Fact_eq _ (by omega),bs,wi (by omega),Bj hi]
    cases okF i f[i]<;>rfl
   ·rw[By,cond_false]
  ·rw[decide_eq_false (show¬(f.length:Int)≤40 by omega),Bool.and_false,Bool.not_false,cond_true,decide_eq_false h40,Bool.false_and,Bool.and_false]
 ·rw[decide_eq_false (show¬(1:Int)≤(f.length:Int) by omega),Bool.false_and,Bool.not_false,cond_true,decide_eq_false h1,Bool.false_and]
def atN (v:LI)(a:Int):Nat:=(v.getD a.toNat 0).toNat
def Dc (F:LI)(rec:Nat→LI→LI→Bool)(x:Fct)(v s:LI):Bool:=
 if x.1=1 then has (F.getD (atN v x.2.1) 0) (atN v x.2.2)
 else if x.1=2 then v.getD x.2.1.toNat 0==v.getD x.2.2.toNat 0
 else if x.1=3 then has (s.getD x.2.2.toNat 0) (atN v x.2.1)
 else if x.1=4 then !rec x.2.1.toNat v s
 else if x.1=5 then rec x.2.1.toNat v s&&rec x.2.2.toNat v s
 else if x.1=6 then rec x.2.1.toNat v s||rec x.2.2.toNat v s
 else if x.1=7 then(List.range F.length).any λu=>rec x.2.2.toNat (v.set x.2.1.toNat (u:Int)) s
 else(List.range (2^F.length)).any λu=>rec x.2.2.toNat v (s.set x.2.1.toNat (u:Int))
def smK (F:LI)(f:List Fct):Nat→Nat→LI→LI→Bool
 |0,_,_,_=>false
 |k+1,i,v,s=>Dc F (smK F f k) (f.getD i (0,0,0)) v s
def sem (F:LI)(f:List Fct)(i:Nat)(v s:LI):Bool:=smK F f (i+1) i v s
theorem AJ {x:Int}{n:Nat}(h:inr x n=true):x.toNat<n:=by
 obtain⟨h0,h1⟩:=inr_iff.1 h;omega
theorem DE {F:LI}{r r':Nat→LI→LI→Bool}{x:Fct}{i:Nat}(hx:okF i x=true)(h:∀j,j<i→∀v s,r j v s=r' j v s)(v s:LI):Dc F r x v s=Dc F r' x v s:=by
 obtain⟨k,a,b⟩:=x
 unfold okF at hx
 unfold Dc
 dsimp only at hx ⊢
 rcases CY k with rfl|rfl|rfl|rfl|rfl|rfl|rfl|rfl|⟨h1,h2,h3,h4,h5,h6,h7,h8⟩
 ·rfl
 ·rfl
 ·rfl
 ·have hx:(inr a i&&b==0)=true:=hx
  rw[Bool.and_eq_true] at hx
  show (!_)=(!_)
  rw[h _ (AJ hx.1)]
 ·have hx:(inr a i&&inr b i)=true:=hx
  rw[Bool.and_eq_true] at hx
  show (_&&_)=(_&&_)
  rw[h _ (AJ hx.1),h _ (AJ hx.2)]
 ·have hx:(inr a i&&inr b i)=true:=hx
  rw[Bool.and_eq_true] at hx
  show (_||_)=(_||_)
  rw[h _ (AJ hx.1),h _ (AJ hx.2)]
 ·have hx:(inr a 3&&inr b i)=true:=hx
  rw[Bool.and_eq_true] at hx
  show (List.range _).any _=(List.range _).any _
  congr 1
  funext u
  exact h _ (AJ hx.2) _ _
 ·have hx:(inr a 2&&inr b i)=true:=hx
  rw[Bool.and_eq_true] at hx
  show (List.range _).any _=(List.range _).any _
  congr 1
  funext u
  exact h _ (AJ hx.2) _ _
 ·simp[h1,h2,h3,h4,h5,h6,h7,h8] at hx
theorem smK_eq {F:LI}{f:List Fct}(hf:frm f=true):∀(i:Nat),i<f.length→∀k,i<k→∀v s,smK F f k i v s=sem F f i v s:=by
 have hok:=(frm_iff.1 hf).2.2
 intro i
 induction i using Nat.strongRecOn with
 |ind i ih=>
  intro hi k hk v s
  obtain⟨k',rfl⟩:∃k',k=k'+1:=⟨k-1,by omega⟩
  show Dc F (smK F f k') _ v s=Dc F (smK F f i) _ v s
  refine DE (hok i hi) (λj hj v s=> ?_) v s
  rw[ih j hj (by omega) k' (by omega),ih j hj (by omega) i hj]
theorem Da {F:LI}{f:List Fct}(hf:frm f=true){i:Nat}(hi:i<f.length)(v s:LI):sem F f i v s=Dc F (sem F f) (f.getD i (0,0,0)) v s:=by
 show Dc F (smK F f i) _ v s=_
 exact DE ((frm_iff.1 hf).2.2 i hi) (λj hj v s=>smK_eq hf j (by omega) i hj v s) v s
structure Nam (n:Nat)(v s:LI):Prop where
 vl:v.length=3
 sl:s.length=2
 v0:∀x∈v,0≤x∧x<(n:Int)
 s0:∀x∈s,0≤x∧x<((2^n:Nat):Int)
theorem Nam.setv {n:Nat}{v s:LI}(h:Nam n v s)(a:Nat){u:Nat}(hu:u<n):Nam n (v.set a (u:Int)) s:=
 ⟨by rw[List.length_set];exact h.vl,h.sl,λx hx=>by
  rcases List.mem_or_eq_of_mem_set hx with hx|rfl
  ·exact h.v0 x hx
  ·omega,h.s0⟩
theorem Nam.sets {n:Nat}{v s:LI}(h:Nam n v s)(a:Nat){u:Nat}(hu:u<2^n):Nam n v (s.set a (u:Int)):=
 ⟨h.vl,by rw[List.length_set];exact h.sl,h.v0,λx hx=>by
  rcases List.mem_or_eq_of_mem_set hx with hx|rfl
  ·exact h.s0 x hx
  ·exact⟨by omega,by exact_mod_cast hu⟩⟩
theorem Nam.at {n:Nat}{v s:LI}(h:Nam n v s){a:Int}(ha:inr a 3=true):idx v a=some ((atN v a:Nat):Int)∧atN v a<n∧v.getD a.toNat 0=((atN v a:Nat):Int):=by
 obtain⟨h0,h1⟩:=inr_iff.1 ha
 have hl:a.toNat<v.length:=by rw[h.vl];omega
 have hm:=h.v0 _ (List.getElem_mem hl)
 have e:v.getD a.toNat 0=v[a.toNat]:=Bj hl 0
 refine⟨?_,?_,?_⟩
 ·rw[B4 h0 (by rw[h.vl];exact h1)]
  unfold atN;rw[e,Int.toNat_of_nonneg hm.1]
 ·unfold atN;rw[e];omega
 ·unfold atN;rw[e,Int.toNat_of_nonneg hm.1]
theorem Nam.set {n:Nat}{v s:LI}(h:Nam n v s){b:Int}(hb:inr b 2=true):idx s b=some (s.getD b.toNat 0)∧0≤s.getD b.toNat 0∧s.getD b.toNat 0<((2^n:Nat):Int):=by
 obtain⟨h0,h1⟩:=inr_iff.1 hb
 have hl:b.toNat<s.length:=by rw[h.sl];omega
 rw[Bj hl 0]
 exact⟨B4 h0 (by rw[h.sl];exact h1),h.s0 _ (List.getElem_mem hl)⟩
theorem pow8 {n:Nat}(h:n≤8):2^n≤256:=Nat.pow_le_pow_right (by omega) h
theorem loop_anyS {S ρ : Type} {step : S → Option (S ⊕ ρ)} {s0 : S} (st : Nat → S) (n : Nat) (c : Nat → Bool) (good r : ρ) (h0 : st 0 = s0) (h : ∀ i, i < n → step (st i) = if c i then some (.inr good) else some (.inl (st (i + 1)))) (he : step (st n) = some (.inr r)) :
    AF step s0 = some (if (List.range n).any c then good else r) := by
  subst h0
  have key : ∀ d a, a + d = n → AF step (st a) = some (if (List.range' a d).any c then good else r) := by
    intro d
    induction d with
    | zero =>
      intro a ha
      obtain rfl : a = n := by omega
      rw [Ba he]; rfl
    | succ d ih =>
      intro a ha
      have := h a (by omega)
      rw [List.range'_succ, List.any_cons]
      cases hc : c a
      · rw [hc, if_neg (by simp)] at this
        rw [AW this, ih (a + 1) (by omega), Bool.false_or]
      · rw [hc, if_pos rfl] at this
        rw [Ba this, Bool.true_or, if_pos rfl]
  rw [key n 0 (by omega), List.range_eq_range']
structure Nets (F:LI):Prop where
 n1:1≤F.length
 n8:F.length≤8
 vs:∀x∈F,VS x
theorem Nets.at {F:LI}(h:Nets F){u:Nat}(hu:u<F.length):idx F (u:Int)=some (F.getD u 0)∧VS (F.getD u 0):=by
 rw[Bj hu 0]
 exact⟨A8 hu,h.vs _ (List.getElem_mem hu)⟩
theorem VS.p8 {n:Nat}(hn:n≤8){x:Int}(h0:0≤x)(h1:x<((2^n:Nat):Int)):VS x:=by
 have:=pow8 hn
 exact⟨h0,by omega⟩
theorem Says_eq {F:LI}(hF:Nets F){f:List Fct}(hf:frm f=true):∀(i:Nat),i<f.length→∀k,i<k→∀v s,Nam F.length v s→D.h k F f (i:Int) v s=some (sem F f i v s):=by
 obtain⟨hf1,hf40,hok⟩:=frm_iff.1 hf
 have h8:=hF.n8
 intro i
 induction i using Nat.strongRecOn with
 |ind i ih=>
  intro hi k hk v s hN
  obtain⟨k,rfl⟩:∃k',k=k'+1:=⟨k-1,by omega⟩
  have hx:=hok i hi
  rw[Da hf hi]
  rw[show D.h (k+1) F f (i:Int) v s=_ from by rw[D.h]]
  rw[A8 hi,bs,←Bj hi (0,0,0)]
  generalize f.getD i (0,0,0)=x at hx
  obtain⟨c,a,b⟩:=x
  unfold okF at hx
  dsimp only at hx ⊢
  have sub:∀(j:Int),inr j i=true→∀v s,Nam F.length v s→D.h k F f j v s=some (sem F f j.toNat v s):=λj hj v s hN=>by
   obtain⟨j0,j1⟩:=inr_iff.1 hj
   obtain⟨q,rfl⟩:=Int.eq_ofNat_of_zero_le j0
   exact ih q (by omega) (by omega) k (by omega) v s hN
  rcases CY c with rfl|rfl|rfl|rfl|rfl|rfl|rfl|rfl|⟨h1,h2,h3,h4,h5,h6,h7,h8⟩
  ·have hx:(inr a 3&&inr b 3)=true:=hx
   rw[Bool.and_eq_true] at hx
   obtain⟨e1,l1,_⟩:=hN.at hx.1
   obtain⟨e2,l2,_⟩:=hN.at hx.2
   obtain⟨e3,w3⟩:=hF.at l1
   show (idx v a).bind _=some (has (F.getD (atN v a) 0) (atN v b))
   rw[e1,bs,e3,bs,e2,bs,uw (by omega),C5,cond_false,bit64 w3 (by omega)]
  ·have hx:(inr a 3&&inr b 3)=true:=hx
   rw[Bool.and_eq_true] at hx
   obtain⟨e1,l1,g1⟩:=hN.at hx.1
   obtain⟨e2,l2,g2⟩:=hN.at hx.2
   show (idx v a).bind _=some (v.getD a.toNat 0==v.getD b.toNat 0)
   rw[e1,bs,e2,bs,g1,g2]
  ·have hx:(inr a 3&&inr b 2)=true:=hx
   rw[Bool.and_eq_true] at hx
   obtain⟨e1,l1,g1⟩:=hN.at hx.1
   obtain⟨e2,z0,z1⟩:=hN.set hx.2
   show (idx s b).bind _=some (has (s.getD b.toNat 0) (atN v a))
   rw[e2,bs,e1,bs,uw (by omega),C5,cond_false,bit64 (VS.p8 h8 z0 z1) (by omega)]
  ·have hx:(inr a i&&b==0)=true:=hx
   rw[Bool.and_eq_true] at hx
   show (D.h k F f a v s).bind _=some (!sem F f a.toNat v s)
   rw[sub a hx.1 v s hN,bs]
  ·have hx:(inr a i&&inr b i)=true:=hx
   rw[Bool.and_eq_true] at hx
   show (D.h k F f a v s).bind _=some (sem F f a.toNat v s&&sem F f b.toNat v s)
   rw[sub a hx.1 v s hN,bs,sub b hx.2 v s hN]
   cases sem F f a.toNat v s<;>rfl
  ·have hx:(inr a i&&inr b i)=true:=hx
   rw[Bool.and_eq_true] at hx
   show (D.h k F f a v s).bind _=some (sem F f a.toNat v s||sem F f b.toNat v s)
   rw[sub a hx.1 v s hN,bs,sub b hx.2 v s hN]
   cases sem F f a.toNat v s<;>rfl
  ·have hx:(inr a 3&&inr b i)=true:=hx
   rw[Bool.and_eq_true] at hx
   obtain⟨a0,a1⟩:=inr_iff.1 hx.1
   have hvl:=hN.vl
   show (D.k v).bind _=some ((List.range F.length).any λu=>sem F f b.toNat (v.set a.toNat (u:Int)) s)
   rw[l1Copy_any v (by omega),bs]
   rw[loop_anyS (ρ:=Unit ⊕ Bool) (s0:=(v,(0:Int))) (λu=>((if u=0 then v else v.set a.toNat ((u-1:Nat):Int)),(u:Int))) F.length (λu=>sem F f b.toNat (v.set a.toNat (u:Int)) s) (.inr true) (.inl ()) rfl ?_ ?_]
   ·rw[bs]
    cases (List.range F.length).any λu=>sem F f b.toNat (v.set a.toNat (u:Int)) s<;>rfl
   ·intro u hu
    dsimp only
    have hl:(if u=0 then v else v.set a.toNat ((u-1:Nat):Int)).length=3:=by split<;>simp[hvl]
    have hs:(if u=0 then v else v.set a.toNat ((u-1:Nat):Int)).set a.toNat (u:Int)=v.set a.toNat (u:Int):=by
     split
     ·rfl
     ·rw[List.set_set]
    rw[dlt hu,cond_true,B4 a0 (by rw[hl];exact a1),bs,hs,sub b hx.2 _ _ (hN.setv _ hu),bs,wi (by omega)]
    rw[if_neg (show¬u+1=0 by omega),Nat.add_sub_cancel]
    cases sem F f b.toNat (v.set a.toNat (u:Int)) s<;>rfl
   ·dsimp only
    rw[By,cond_false]
  ·have hx:(inr a 2&&inr b i)=true:=hx
   rw[Bool.and_eq_true] at hx
   obtain⟨a0,a1⟩:=inr_iff.1 hx.1
   have hsl:=hN.sl
   have hp:=pow8 h8
   have hsh:ishl .i64 1 (IntKind.u64.wrap (F.length:Int))=((2^F.length:Nat):Int):=by
    rw[uw (by omega),shl64 (by omega),one_eq (by omega)]
   show (D.k s).bind _=some ((List.range (2^F.length)).any λu=>sem F f b.toNat v (s.set a.toNat (u:Int)))
   rw[l1Copy_any s (by omega),bs]
   rw[loop_anyS (ρ:=Unit ⊕ Bool) (s0:=(s,(0:Int))) (λu=>((if u=0 then s else s.set a.toNat ((u-1:Nat):Int)),(u:Int))) (2^F.length) (λu=>sem F f b.toNat v (s.set a.toNat (u:Int))) (.inr true) (.inl ()) rfl ?_ ?_]
   ·rw[bs]
    cases (List.range (2^F.length)).any λu=>sem F f b.toNat v (s.set a.toNat (u:Int))<;>rfl
   ·intro u hu
    dsimp only
    have hl:(if u=0 then s else s.set a.toNat ((u-1:Nat):Int)).length=2:=by split<;>simp[hsl]
    have hs:(if u=0 then s else s.set a.toNat ((u-1:Nat):Int)).set a.toNat (u:Int)=s.set a.toNat (u:Int):=by
     split
     ·rfl
     ·rw[List.set_set]
    rw[hsh,uw (by omega),C5,cond_false,dlt hu,cond_true,B4 a0 (by rw[hl];exact a1),bs,hs,sub b hx.2 _ _ (hN.sets _ hu),bs,wi (by omega)]
    rw[if_neg (show¬u+1=0 by omega),Nat.add_sub_cancel]
    cases sem F f b.toNat v (s.set a.toNat (u:Int))<;>rfl
   ·dsimp only
    rw[hsh,uw (by omega),C5,cond_false,By,cond_false]
  ·simp[h1,h2,h3,h4,h5,h6,h7,h8] at hx
def CT (F:LI)(f:List Fct)(v s:LI):Bool:=sem F f (f.length-1) v s
theorem l30Says_eq {F:LI}(hF:Nets F){f:List Fct}(hf:frm f=true){v s:LI}(hN:Nam F.length v s):D.f F f (IntKind.i64.wrap ((f.length:Int)-1)) v s=some (CT F f v s):=by
 obtain⟨hf1,hf40,_⟩:=frm_iff.1 hf
 rw[show IntKind.i64.wrap ((f.length:Int)-1)=((f.length-1:Nat):Int) by rw[w64 (by omega) (by omega)];omega]
 unfold D.f
 exact Says_eq hF hf _ (by omega) _ (by have:=Em;omega) v s hN
end Go.Sx
