/- Parts. -/
import Derived.Test.YtmkcbhidbdggiaaGreatDoorPe3
import Derived.Test.YtmkcbhidbdggiaaGreatDoorProg
import Derived.KernelRfl
set_option linter.unusedVariables false
set_option linter.unusedSimpArgs false
set_option maxRecDepth 100000
namespace Go.Proofs.YtmkcbhidbdggiaaGreatDoor
open Go Go.Sx
open Go.Proofs.Tryz Go.Proofs.YtmkcbhidbdggiaaGreatDoor.Tryz IntKind
variable {W w : World} {G : GH} {H : List Itm}
theorem T22 :SlT prog 22 5 1 1 (.int .u8 0):=⟨underlying22,Tryz.t5,by kernel_rfl,by kernel_rfl,by kernel_rfl,by kernel_rfl⟩
theorem Pl26 :B3 prog 26:=isAgg26
theorem Pl22 :B3 prog 22:=isAgg22
theorem T79 :SlT prog 79 3 1 8 (iv 0):=⟨underlying79,Tryz.t3,by kernel_rfl,by kernel_rfl,by kernel_rfl,by kernel_rfl⟩
theorem CY :B3 prog 65:=isAgg65
theorem T30 :SlT prog 30 28 1 24 sn:=⟨underlying30,Tryz.t28,by kernel_rfl,by kernel_rfl,by kernel_rfl,by kernel_rfl⟩
theorem B4 :B3 prog 30:=isAgg30
theorem Bn :Agg prog 32 1:=⟨isAgg32,sizeOf32⟩
theorem CW :B3 prog 28:=isAgg28
theorem AX :SlT prog 115 90 2 16 (.agg #[(iv 0),(iv 0)]):=⟨underlying115,Tryz.t90,by kernel_rfl,by kernel_rfl,by kernel_rfl,by kernel_rfl⟩
theorem Bh :Agg prog 90 2:=⟨isAgg90,sizeOf90⟩
theorem Wk.e1 {v0:Value}{x0:LI}(m:Mem W G w (H))(h0:RSl (RI .u8) G v0 x0){y:Bool}(hd:D.e1 x0=some y):
  Calls prog 5 #[v0] w (Res W G H (λ_ Ho v=>Ho=[]∧v=(.bool y))):=by
 refine Au (args:=[v0]) (N:=6) [.tmp 2] func5 Z Z (lb Z) Z λa f=> ?_
 unfold D.e1 at hd
 refine Ag ?_
 refine Ac f Z λa f=>Ay ?_
 refine Aa f Z λa f=>Bf underlying22 f Z Z h0 λa f=>Ai f Z Z Cs λa f=>Ac f Z λa f=>Ab ?_
 refine Ar ?_
 obtain rfl:=sj hd
 exact⟨[(.bool (decide ((4096:Int)<(x0.length:Int))))],f.g Z,f.d,_,[],gr,m,Z,Z⟩
theorem Wk.r0 {v0:Value}{x0:LI}{x1:Int}(m:Mem W G w (H))(h0:RSl (RI .u8) G v0 x0){y:(LI)×Int×Int}(hd:D.r0 x0 x1=some y):
  Calls prog 6 #[v0,(.int .u64 x1)] w (Res W G H (λG' Ho v=>∃r0:Value,∃c1:Nat,Ho=[ib c1 55 [r0,(iv y.2.1),(.int .u64 y.2.2)]]∧v=(pb c1)∧RSl (RI .u8) G' r0 y.1)):=by
 refine Au (args:=[v0,(.int .u64 x1)]) (N:=38) [.tmp 4] func6 Z Z (lb Z) Z λa f=> ?_
 unfold D.r0 at hd
 refine Ag ?_
 refine Ac f Z λa f=>Ay ?_
 refine Aa f Z λa f=>Aa f Z λa f=>Ai f Z Z Ct λa f=>Aa f Z λa f=>Bf underlying22 f Z Z h0 λa f=>l_o f (Cw (f.e Z) ⟨_,underlying3⟩ underlying26) λa f=>Ai f Z Z As λa f=> ?_
 have aa:∀w,(Instr.build 55 #[(0,v0),(2,(.int .u64 (IntKind.u64.wrap ((IntKind.u64.wrap (x1*7919))+(IntKind.u64.wrap (x0.length:Int))))))]).run prog w= .ok (.agg #[v0,(iv 0),(.int .u64 (IntKind.u64.wrap ((IntKind.u64.wrap (x1*7919))+(IntKind.u64.wrap (x0.length:Int)))))]) w:=by intro w;simp[Instr.build,Instr.fill,h0.cells,Cd,BZ,BO,BS,BF,Ce]
 refine CG f Z Z aa λa f=>BN (cs:=[v0,(iv 0),(.int .u64 (IntKind.u64.wrap ((IntKind.u64.wrap (x1*7919))+(IntKind.u64.wrap (x0.length:Int)))))]) m f Z Z Z λab w a m f=>Ac f Z λa f=>Ab (Ah (Ag ?_))
 refine Ac f Z λa f=>Ab ?_
 have⟨ac,ad,hd⟩:=bind_some hd
 refine AJ (λa w=>∃ae:Int,ae=ac∧∃(af:GH),GLe G af∧Fr a 38 [(5,(pb ab))]∧Mem W af w (ib ab 55 [v0,(iv 0),(.int .u64 ae)]::H)) ?_ ?_
 ·refine Ak ?_
  refine AK (λag a w=>∃ah:Int,∃ai:Int,(ah,ai)=ag∧∃(aj:GH),GLe G aj∧Fr a 38 [(0,v0),(5,(pb ab)),(6,(iv ah))]∧Mem W aj w (ib ab 55 [v0,(iv 0),(.int .u64 ai)]::H)) ad ⟨_,_,Z,_,gr,f.k Z,m⟩ ?_
  clear ad f m
  rintro ag ak al am a w ⟨ah,ai,rfl,aj,an,f,m⟩
  have h0:=rd1 an h0
  refine Ah (Ag ?_)
  refine Aa f Z λa f=>Aa f Z λa f=>Bf underlying22 f Z Z h0 λa f=>Ai f Z Z AV λa f=>Ab ?_
  rcases Af al with⟨ao,al⟩|⟨ao,al⟩
  ·refine Al f Z ao ?_
   refine An ?_
   refine Ah (Ak ?_)
   refine A4 15 Az (by kernel_rfl) m ?_
   refine Ae 0 15 Z f Z λa f=>Ae 1 15 Z f Z λa f=>q_p 2 15 Z f (λ_=>Be (f.e Z)) λa f=>Cf 3 15 underlying55 Z sizeOf26 Z f Z λa f=>BX 4 15 0 Pl26 Z Z Z f Z λa f=>q_p 5 15 Z f (λ_=>AB (f.e Z) (f.e Z) Ct) λa f=>Ae 6 15 Z f Z λa f=>Ae 7 15 Z f Z λa f=> ?_
   have⟨ap,aq,al⟩:=bind_some al
   refine Cy 8 15 T22 h0 aq Z f Z Z λar au a av aw f=> ?_
   subst aw
   refine Cv 9 15 Pl5 av Z f Z λa f=>q_p 10 15 Z f (λ_=>Cw (f.e Z) ⟨_,underlying5⟩ underlying26) λa f=>q_p 11 15 Z f (λ_=>AB (f.e Z) (f.e Z) As) λa f=>q_p 12 15 Z f (λ_=>AB (f.e Z) (f.e Z) As) λa f=>q_p 13 15 Z f (λ_=>Be (f.e Z)) λa f=>Cf 14 15 underlying55 Z sizeOf26 Z f Z λa f=>AN λax w ay m=>A3 0 2 (ds:=[(.int .u64 (IntKind.u64.wrap ((IntKind.u64.wrap ((IntKind.u64.wrap (ai*1099511628211))+(IntKind.u64.wrap ap)))+3)))]) m sizeOf26 f Z Z Z (Ap Z AH) Z (lb Z) Z λw m=>Ab (Ao ?_)
   refine Aa f Z λa f=>Ai f Z Z As λa f=>Ac f Z λa f=>Ab ?_
   obtain rfl:=sj al
   exact⟨_,Z,_,_,Z,_,(gt an ay),f.k Z,m⟩
  ·refine Aj f Z ao ?_
   refine AG Z ?_
   obtain rfl:=sj al
   obtain rfl:=am _ rfl
   exact⟨_,Z,_,an,f.k Z,m⟩
 ·rintro a w ⟨ae,rfl,af,az,f,m⟩
  have h0:=rd1 az h0
  refine Ag ?_
  refine Aa f Z λa f=>Ac f Z λa f=>Ab ?_
  refine Ar ?_
  obtain rfl:=sj hd
  exact⟨[(pb ab)],f.g Z,f.d,_,[ib ab 55 [v0,(iv 0),(.int .u64 ae)]],az,m,_,_,Z,Z,h0⟩
theorem Wk.F {aa:Value}{b0:Nat}{ab:LI}{ac ad x1:Int}(m:Mem W G w (ib b0 55 [aa,(iv ac),(.int .u64 ad)]::H))(ae:RSl (RI .u8) G aa ab){y:Int×(LI)×Int×Int}(hd:D.F ab ac ad x1=some y):
  Calls prog 7 #[(pb b0),(iv x1)] w (Res W G H (λG' Ho v=>∃r0:Value,Ho=[ib b0 55 [r0,(iv y.2.2.1),(.int .u64 y.2.2.2)]]∧v=(iv y.1)∧RSl (RI .u8) G' r0 y.2.1)):=by
 refine Au (args:=[(pb b0),(iv x1)]) (N:=56) [.tmp 4] func7 Z Z (lb Z) Z λa f=> ?_
 unfold D.F at hd
 refine Ag ?_
 refine Ac f Z λa f=>Ay ?_
 refine Aa f Z λa f=>Aa f Z λa f=>l_o f (Be (f.e Z)) λa f=>BC underlying55 Z sizeOf26 f Z λa f=>A5 0 2 m Pl26 f Z Z Z Z λa f=>Ai f Z Z Ct λa f=>Ai f Z Z As λa f=>l_o f (Be (f.e Z)) λa f=>BC underlying55 Z sizeOf26 f Z λa f=>A3 0 2 (ds:=[(.int .u64 (IntKind.u64.wrap ((IntKind.u64.wrap (ad*6364136223846793005))+1442695040888963407)))]) m sizeOf26 f Z Z Z (Ap Z AH) Z (lb Z) Z λw m=>Ay ?_
 refine Aa f Z λa f=>l_o f (Be (f.e Z)) λa f=>BC underlying55 Z sizeOf26 f Z λa f=>A5 0 2 m Pl26 f Z Z Z Z λa f=>l_o f (r_shr (f.e Z) (f.e Z) (by decide)) λa f=>Ai f Z Z D8 λa f=>l_o f (Cw (f.e Z) ⟨_,underlying26⟩ underlying2) λa f=>Ac f Z λa f=>Ab (Ah (Ah ?_))
 refine A4 10 Az (by kernel_rfl) m ?_
 refine Ae 0 10 Z f Z λa f=>q_p 1 10 Z f (λ_=>Be (f.e Z)) λa f=>Cf 2 10 underlying55 Z sizeOf3 Z f Z λa f=>BX 3 10 0 Pl3 Z Z Z f Z λa f=>Ae 4 10 Z f Z λa f=>q_p 5 10 Z f (λ_=>Be (f.e Z)) λa f=>Cf 6 10 underlying55 Z sizeOf22 Z f Z λa f=>BX 7 10 0 Pl22 Z Z Z f Z λa f=>q_len (i:=8) 10 underlying22 ae Z (by kernel_rfl) Z f Z Z Z λa f=>q_p 9 10 Z f (λ_=>AB (f.e Z) (f.e Z) AV) λa f=>AN λaf w ag m=> ?_
 have ae:=rd1 ag ae
 refine Ab ?_
 rcases Af hd with⟨ah,hd⟩|⟨ah,hd⟩
 ·refine Al f Z ah ?_
  refine Ah ?_
  refine A4 14 Az (by kernel_rfl) m ?_
  refine Ae 0 14 Z f Z λa f=>Ae 1 14 Z f Z λa f=>q_p 2 14 Z f (λ_=>Be (f.e Z)) λa f=>Cf 3 14 underlying55 Z sizeOf22 Z f Z λa f=>BX 4 14 0 Pl22 Z Z Z f Z λa f=>Ae 5 14 Z f Z λa f=>q_p 6 14 Z f (λ_=>Be (f.e Z)) λa f=>Cf 7 14 underlying55 Z sizeOf3 Z f Z λa f=>BX 8 14 0 Pl3 Z Z Z f Z λa f=> ?_
  have⟨ai,aj,hd⟩:=bind_some hd
  refine Cy 9 14 T22 ae aj Z f Z Z λak al a am an f=> ?_
  subst an
  refine Cv 10 14 Pl5 am Z f Z λa f=>q_p 11 14 Z f (λ_=>Cw (f.e Z) ⟨_,underlying5⟩ underlying2) λa f=>q_p 12 14 Z f (λ_=>AB (f.e Z) (f.e Z) As) λa f=>q_p 13 14 Z f (λ_=>Cb (f.e Z)) λa f=>AN λao w ap m=> ?_
  have ae:=rd1 ap ae
  refine Ab (Ao ?_)
  refine Aa f Z λa f=>Aa f Z λa f=>l_o f (Be (f.e Z)) λa f=>BC underlying55 Z sizeOf3 f Z λa f=>A5 0 1 m Pl3 f Z Z Z Z λa f=>Ai f Z Z As λa f=>l_o f (Be (f.e Z)) λa f=>BC underlying55 Z sizeOf3 f Z λa f=>A3 0 1 (ds:=[(iv (i64.wrap (ac+1)))]) m sizeOf3 f Z Z Z (Ap Z AH) Z (lb Z) Z λw m=>Ay ?_
  refine Aa f Z λa f=>Aa f Z λa f=> ?_
  obtain⟨aq,hd⟩:=Dv hd
  refine Ai f Z Z (b_rem aq) λa f=>Ac f Z λa f=>Ab ?_
  refine Ar ?_
  obtain rfl:=sj hd
  exact⟨[(iv (Int.tmod (i64.wrap ((i64.wrap (iand .u64 (Bv .u64 (IntKind.u64.wrap ((IntKind.u64.wrap (ad*6364136223846793005))+1442695040888963407)) 33) 16777215))+(i64.wrap ai))) x1))],f.g Z,f.d,_,[ib b0 55 [aa,(iv (i64.wrap (ac+1))),(.int .u64 (IntKind.u64.wrap ((IntKind.u64.wrap (ad*6364136223846793005))+1442695040888963407)))]],(gt ag ap),m,_,Z,Z,ae⟩
 ·refine Aj f Z ah ?_
  refine An ?_
  refine Ag ?_
  refine Aa f Z λa f=>Aa f Z λa f=> ?_
  obtain⟨ar,hd⟩:=Dv hd
  refine Ai f Z Z (b_rem ar) λa f=>Ac f Z λa f=>Ab ?_
  refine Ar ?_
  obtain rfl:=sj hd
  exact⟨[(iv (Int.tmod (i64.wrap (iand .u64 (Bv .u64 (IntKind.u64.wrap ((IntKind.u64.wrap (ad*6364136223846793005))+1442695040888963407)) 33) 16777215)) x1))],f.g Z,f.d,_,[ib b0 55 [aa,(iv ac),(.int .u64 (IntKind.u64.wrap ((IntKind.u64.wrap (ad*6364136223846793005))+1442695040888963407)))]],ag,m,_,Z,Z,ae⟩
theorem Wk.R {aa:Value}{b0:Nat}{ab:LI}{ac ad x1:Int}(m:Mem W G w (ib b0 55 [aa,(iv ac),(.int .u64 ad)]::H))(ae:RSl (RI .u8) G aa ab){y:(LI)×(LI)×Int×Int}(hd:D.R ab ac ad x1=some y):
  Calls prog 8 #[(pb b0),(iv x1)] w (Res W G H (λG' Ho v=>∃r0:Value,∃i0:Itm,∃r2:Value,Ho=[i0,ib b0 55 [r2,(iv y.2.2.1),(.int .u64 y.2.2.2)]]∧r0=v∧Ow R0 2 G' i0 r0 y.1∧RSl (RI .u8) G' r2 y.2.1)):=by
 refine Au (args:=[(pb b0),(iv x1)]) (N:=35) [.tmp 4] func8 Z Z (lb Z) Z λa f=> ?_
 unfold D.R at hd
 refine Ag ?_
 refine Ac f Z λa f=>Ay ?_
 refine BQ (R:=R0) (xs:=([]:LI)) (RI.one _) m T28 f Z Z Z (by decide) (All2.nil _) λaf ag w a m ah f=>Ac f Z λa f=>Ab (Ah (Ag ?_))
 refine Ac f Z λa f=>Ab ?_
 have⟨ai,aj,hd⟩:=bind_some hd
 refine AJ (λa w=>∃ak:LI,∃al:LI,∃am:Int,∃an:Int,(ak,al,am,an)=ai∧∃(ao:GH) (ap:Value) (aq:Itm) (ar:Value),GLe G ao∧Fr a 35 [(5,ap)]∧Mem W ao w (ib b0 55 [ar,(iv am),(.int .u64 an)]::aq::H)∧Ow R0 2 ao aq ap ak∧RSl (RI .u8) ao ar al) ?_ ?_
 ·refine Ak ?_
  have m:=m.fr 1
  refine AK (λau a w=>∃av:LI,∃aw:Int,∃ax:LI,∃ay:Int,∃az:Int,(av,aw,ax,ay,az)=au∧∃(aA:GH) (aB:Value) (aC:Itm) (aD:Value),GLe G aA∧Fr a 35 [(0,(pb b0)),(1,(iv x1)),(5,aB),(6,(iv aw))]∧Mem W aA w (ib b0 55 [aD,(iv ay),(.int .u64 az)]::aC::H)∧Ow R0 2 aA aC aB av∧RSl (RI .u8) aA aD ax) aj ⟨_,_,_,_,_,Z,_,ag,af,aa,gr,f.k Z,m,ah,ae⟩ ?_
  clear aj f m
  rintro au aE aF aG a w ⟨av,aw,ax,ay,az,rfl,aA,aB,aC,aD,aH,f,m,aI,aJ⟩
  refine Ah (Ag ?_)
  refine Aa f Z λa f=>Aa f Z λa f=>Ai f Z Z AV λa f=>Ab ?_
  rcases Af aF with⟨aK,aF⟩|⟨aK,aF⟩
  ·refine Al f Z aK ?_
   refine An ?_
   refine Ah (Ak (Ag ?_))
   refine Aa f Z λa f=>Aa f Z λa f=>Dc 1 m aI Z underlying28 f Z Z λa f=>Ai f Z Z As λa f=> ?_
   have⟨aL,aM,aF⟩:=bind_some aF
   refine AT f Z call7 (Wk.F m aJ aM) λaN aO aP w aQ m aR a f=> ?_
   obtain⟨aS,rfl,rfl,aT⟩:=aR
   have aI:=od1 aQ aI
   refine Ac f Z λa f=>Ay ?_
   refine BQ (R:=R0) (xs:=([]:LI)) (RI.one _) m T28 f Z Z Z (by decide) (All2.nil _) λaU aV w a m aW f=>Aa f Z λa f=>Aa f Z λa f=> ?_
   have m:Mem W aO w (aC::aU::ib b0 55 [aS,(iv aL.2.2.1),(.int .u64 aL.2.2.2)]::H):=m.fr 2
   obtain⟨aX,aY,m,aZ⟩:=Ow.stamp (RI.mono _) aI m
   have aW:=od1 aY aW
   have aT:=rd1 aY aT
   have⟨a0,a1,aF⟩:=bind_some aF
   refine ER T28 f Z Z aZ (.inl ⟨Z,Z⟩) (.inr ⟨_,_,Z,Z⟩) a1 λa2 a a3 f=> ?_
   have⟨a4,a5,aF⟩:=bind_some aF
   refine BJ (RI.one _) 0 m aW Z T28 Z (by decide) f Z Z Z (a3.src m) a5 λa6 a7 w a m a8 f=>Ac f Z λa f=>Ay ?_
   refine Aa f Z λa f=>Aa f Z λa f=>BQ (R:=R0) (xs:=([aw]:LI)) (RI.one _) m T28 f Z Z Z (by decide) (All2.cons Z (All2.nil _)) λa9 ba w a m bb f=> ?_
   have⟨bc,bd,aF⟩:=bind_some aF
   refine BJ (RI.one _) 1 m a8 Z T28 Z (by decide) f Z Z Z (Ow.src (j:=0) bb m Z) bd λbe bf w a m bg f=>Ac f Z λa f=>Ab (Ao ?_)
   refine Aa f Z λa f=>Aa f Z λa f=>Aa f Z λa f=> ?_
   have⟨bh,bi,aF⟩:=bind_some aF
   refine ER T28 f Z Z aZ (.inr ⟨_,_,Z,Z⟩) (.inl ⟨Z,Z⟩) bi λbj a bk f=> ?_
   have⟨bl,bm,aF⟩:=bind_some aF
   refine BJ (RI.one _) 1 m bg Z T28 Z (by decide) f Z Z Z (bk.src m) bm λbn bo w a m bp f=>Ac f Z λa f=>Ab (Ao ?_)
   refine Aa f Z λa f=>Ai f Z Z As λa f=>Ac f Z λa f=>Ab ?_
   have m:=m.fr 1
   have m:=m.fr 2
   have m:Mem W aX w (ib b0 55 [aS,(iv aL.2.2.1),(.int .u64 aL.2.2.2)]::bn::H):=m.eraseAt 2
   obtain rfl:=sj aF
   exact⟨_,Z,_,_,_,_,_,Z,_,bo,bn,aS,(gt aH (gt aQ aY)),f.k Z,m,bp,aT⟩
  ·refine Aj f Z aK ?_
   refine AG Z ?_
   obtain rfl:=sj aF
   obtain rfl:=aG _ rfl
   exact⟨_,_,_,_,Z,_,aB,aC,aD,aH,f.k Z,m,aI,aJ⟩
 ·rintro a w ⟨ak,al,am,an,rfl,ao,ap,aq,ar,bq,f,m,br,bs⟩
  refine Ag ?_
  refine Aa f Z λa f=>Ac f Z λa f=>Ab ?_
  refine Ar ?_
  have m:=m.fr 1
  obtain rfl:=sj hd
  exact⟨[ap],f.g Z,f.d,_,[aq,ib b0 55 [ar,(iv am),(.int .u64 an)]],bq,m,_,_,_,Z,Z,br,bs⟩
theorem Wk.d1 {x0 x1 x2:Int}(m:Mem W G w (H)){y:Bool}(hd:D.d1 x0 x1 x2=some y):
  Calls prog 94 #[(iv x0),(iv x1),(iv x2)] w (Res W G H (λ_ Ho v=>Ho=[]∧v=(.bool y))):=by
 refine Au (args:=[(iv x0),(iv x1),(iv x2)]) (N:=15) [.tmp 6] func94 Z Z (lb Z) Z λa f=> ?_
 unfold D.d1 at hd
 refine Ag ?_
 refine Ac f Z λa f=>Ay ?_
 refine Aa f Z λa f=>Aa f Z λa f=>Ai f Z Z B5 λa f=>Aa f Z λa f=> ?_
 refine Br 4 (λa w=>∃aa,GLe G aa∧Mem W aa w (H)∧Fr a 15 [(0,(iv x0)),(1,(iv x1)),(2,(iv x2)),(7,(iv x1)),(8,(iv x0)),(9,(.bool (decide (x1≤x0)))),(10,(.bool (decide (x1≤x0)))),(14,(.bool ((decide (x1≤x0))&&(decide (x0≤x2)))))]) ?_ ?_
 ·rcases Bool.eq_false_or_eq_true (decide (x1≤x0)) with ab|ab
  ·refine AD f ab ?_
   refine Aa f Z λa f=>AD f ab ?_
   refine Aa f Z λa f=>AD f ab ?_
   refine Ai f Z Z B5 λa f=>l_o f (AS (f.e Z) ab (f.e Z)) λa f=> ?_
   exact⟨_,gr,m,f.weak ⟨Z,Z,Z,Z,Z,Z,Z,by rw[ab];rfl,trivial⟩⟩
  ·refine AE f ab λa f=> ?_
   refine AE f ab λa f=>AE f ab λa f=>l_o f (AR (f.e Z) ab (f.e Z)) λa f=> ?_
   exact⟨_,gr,m,f.weak ⟨Z,Z,Z,Z,Z,Z,Z,by rw[ab];rfl,trivial⟩⟩
 ·rintro a w ⟨aa,ac,m,f⟩
  refine Ac f Z λa f=>Ab ?_
  refine Ar ?_
  obtain rfl:=sj hd
  exact⟨[(.bool ((decide (x1≤x0))&&(decide (x0≤x2))))],f.g Z,f.d,_,[],ac,m,Z,Z⟩
theorem Wk.B {v0:Value}{x0:LI}{x1:Int}(m:Mem W G w (H))(h0:R1 G v0 x0){y:Bool}(hd:D.B x0 x1=some y):
  Calls prog 54 #[v0,(iv x1)] w (Res W G H (λ_ Ho v=>Ho=[]∧v=(.bool y))):=by
 refine Au (args:=[v0,(iv x1)]) (N:=33) [.tmp 4] func54 Z Z (lb Z) Z λa f=> ?_
 unfold D.B at hd
 refine Ag ?_
 refine Ac f Z λa f=>Ab (Ah (Ag ?_))
 refine Aa f Z λa f=>Bf underlying28 f Z Z h0 λa f=>Aa f Z λa f=>Ab ?_
 have⟨aa,ab,hd⟩:=bind_some hd
 refine AJ (λa w=>∃q_181':Unit,aa= .inl q_181'∧∃(ac:GH),GLe G ac∧Fr a 33 []∧Mem W ac w (H)) ?_ ?_
 ·refine Ak ?_
  refine AK (λad a w=>∃ae:Int,ae=ad∧∃(af:GH),GLe G af∧Fr a 33 [(0,v0),(1,(iv x1)),(7,v0),(8,(iv (x0.length:Int))),(9,(iv ae))]∧Mem W af w (H)) ab ⟨_,Z,_,gr,f.k Z,m⟩ ?_
  clear ab f m
  rintro ad ag ah ai a w ⟨ae,rfl,af,aj,f,m⟩
  have h0:=rd1 aj h0
  refine Ag ?_
  refine Ai f Z Z AV λa f=>Ab (Ah ?_)
  rcases Af ah with⟨ak,ah⟩|⟨ak,ah⟩
  ·refine Al f Z ak ?_
   refine An ?_
   refine Ah (Ak (Ag ?_))
   refine Aa f Z λa f=> ?_
   have⟨al,am,ah⟩:=bind_some ah
   refine Cc T28 f Z Z Z h0 am λan ao a ap aq f=> ?_
   subst aq
   refine Bl m Pl2 f Z Z ap λa f=>Ac f Z λa f=>Ac f Z λa f=>Ay ?_
   refine Aa f Z λa f=>Aa f Z λa f=>Ai f Z Z AF λa f=> ?_
   have⟨ar,au,ah⟩:=bind_some ah
   refine Bk f Z call94 (Wk.d1 m au) λav w aw m a f=> ?_
   have h0:=rd1 aw h0
   refine l_o f (Bg (f.e Z)) λa f=>Aa f Z λa f=> ?_
   have⟨ax,ay,ah⟩:=bind_some ah
   refine Br 12 (λa w=>∃az,GLe av az∧Mem W az w (H)∧Fr a 33 [(0,v0),(1,(iv x1)),(5,(iv ae)),(6,(iv al)),(7,v0),(8,(iv (x0.length:Int))),(9,(iv ae)),(14,(iv al)),(15,(iv x1)),(16,(iv (i64.wrap (x1-1)))),(17,(.bool ar)),(18,(.bool (!ar))),(19,(.bool (!ar))),(31,(.bool ax))]) ?_ ?_
   ·rcases Af ay with⟨aA,ay⟩|⟨aA,ay⟩
    ·refine AE f aA λa f=> ?_
     refine AE f aA λa f=>AE f aA λa f=>DO f Z Z Z λa f=>DO f Z Z Z λa f=>DO f Z Z Z λa f=>DO f Z Z Z λa f=>DO f Z Z Z λa f=>DO f Z Z Z λa f=>DO f Z Z Z λa f=>AE f aA λa f=>l_o f (AS (f.e Z) aA (f.e Z)) λa f=> ?_
     obtain rfl:=sj ay
     exact⟨_,gr,m,f.k Z⟩
    ·refine AD f aA ?_
     refine Aa f Z λa f=>AD f aA ?_
     refine Ai f Z Z Cs λa f=>AD f aA ?_
     refine Aa f Z λa f=> ?_
     have⟨aB,aC,ay⟩:=bind_some ay
     refine Br 8 (λa w=>∃aD,GLe av aD∧Mem W aD w (H)∧Fr a 33 [(0,v0),(1,(iv x1)),(5,(iv ae)),(6,(iv al)),(7,v0),(8,(iv (x0.length:Int))),(9,(iv ae)),(14,(iv al)),(15,(iv x1)),(16,(iv (i64.wrap (x1-1)))),(17,(.bool ar)),(18,(.bool (!ar))),(19,(.bool (!ar))),(20,(iv ae)),(21,(.bool (decide ((0:Int)<ae)))),(22,(.bool (decide ((0:Int)<ae)))),(30,(.bool aB))]) ?_ ?_
     ·rcases Af aC with⟨aE,aC⟩|⟨aE,aC⟩
      ·refine AD f aE ?_
       refine Aa f Z λa f=>AD f aE ?_
       refine Aa f Z λa f=>AD f aE ?_
       refine Ai f Z Z AF λa f=>AD f aE ?_
       have⟨aF,aG,aC⟩:=bind_some aC
       refine Cc T28 f Z Z Z h0 aG λaH aI a aJ aK f=> ?_
       subst aK
       refine AD f aE ?_
       refine Bl m Pl2 f Z Z aJ λa f=>AD f aE ?_
       refine Aa f Z λa f=>AD f aE ?_
       refine Ai f Z Z BH λa f=>AD f aA ?_
       refine l_o f (AS (f.e Z) aE (f.e Z)) λa f=> ?_
       obtain rfl:=sj aC
       exact⟨_,gr,m,f.k Z⟩
      ·refine AE f aE λa f=> ?_
       refine AE f aE λa f=>AE f aE λa f=>AE f aE λa f=>AE f aE λa f=>AE f aE λa f=>AE f aE λa f=>AD f aA ?_
       refine l_o f (AR (f.e Z) aE (f.e Z)) λa f=> ?_
       obtain rfl:=sj aC
       exact⟨_,gr,m,f.k Z⟩
     ·rintro a w ⟨aD,aL,m,f⟩
      refine l_o f (AR (f.e Z) aA (f.e Z)) λa f=> ?_
      obtain rfl:=sj ay
      exact⟨_,aL,m,f.k Z⟩
   ·rintro a w ⟨az,aM,m,f⟩
    refine Ab ?_
    rcases Af ah with⟨aN,ah⟩|⟨aN,ah⟩
    ·refine Al f Z aN ?_
     refine Ag ?_
     refine Ac f Z λa f=>Ab ?_
     refine Ar ?_
     obtain rfl:=sj ah
     obtain rfl:=ai _ rfl
     obtain rfl:=sj hd
     exact⟨[(.bool false)],f.g Z,f.d,_,[],(gt aj (gt aw aM)),m,Z,Z⟩
    ·refine Aj f Z aN ?_
     refine An ?_
     refine Ao ?_
     refine Ai f Z Z As λa f=>Aa f Z λa f=>Ab ?_
     obtain rfl:=sj ah
     exact⟨_,Z,_,Z,_,(gt aj (gt aw aM)),f.k Z,m⟩
  ·refine Aj f Z ak ?_
   refine AG Z ?_
   obtain rfl:=sj ah
   obtain rfl:=ai _ rfl
   exact⟨_,Z,_,aj,f.weak trivial,m⟩
 ·rintro a w ⟨_,rfl,ac,aO,f,m⟩
  refine Ag ?_
  refine Ac f Z λa f=>Ab ?_
  refine Ar ?_
  obtain rfl:=sj hd
  exact⟨[(.bool true)],f.g Z,f.d,_,[],aO,m,Z,Z⟩
theorem Wk.Q {v0:Value}{x0:LI}(m:Mem W G w (H))(h0:R1 G v0 x0){y:(LI)×Bool}(hd:D.Q x0=some y):
  Calls prog 52 #[v0] w (Res W G H (λG' Ho v=>∃r0:Value,∃i0:Itm,Ho=[i0]∧v= .tuple #[r0,(.bool y.2)]∧Ow R0 3 G' i0 r0 y.1)):=by
 refine Au (args:=[v0]) (N:=39) [.tmp 2,.tmp 3] func52 Z Z (lb Z) Z λa f=> ?_
 unfold D.Q at hd
 refine Ag ?_
 refine Ac f Z λa f=>Ac f Z λa f=>Ay ?_
 refine Aa f Z λa f=>Bf underlying28 f Z Z h0 λa f=>Ac f Z λa f=>Ab (Ah (Ag ?_))
 refine Aa f Z λa f=>Ai f Z Z AV λa f=>Aa f Z λa f=> ?_
 refine Br 3 (λa w=>∃aa,GLe G aa∧Mem W aa w (H)∧Fr a 39 [(0,v0),(4,(iv (x0.length:Int))),(10,(iv (x0.length:Int))),(11,(.bool (decide ((x0.length:Int)<1)))),(12,(.bool (decide ((x0.length:Int)<1)))),(15,(.bool ((decide ((x0.length:Int)<1))||(decide ((16:Int)<(x0.length:Int))))))]) ?_ ?_
 ·rcases Bool.eq_false_or_eq_true (decide ((x0.length:Int)<1)) with ab|ab
  ·refine AE f ab λa f=> ?_
   refine AE f ab λa f=>l_o f (AS (f.e Z) ab (f.e Z)) λa f=> ?_
   exact⟨_,gr,m,f.weak ⟨Z,Z,Z,Z,Z,by rw[ab];rfl,trivial⟩⟩
  ·refine AD f ab ?_
   refine Aa f Z λa f=>AD f ab ?_
   refine Ai f Z Z Cs λa f=>l_o f (AR (f.e Z) ab (f.e Z)) λa f=> ?_
   exact⟨_,gr,m,f.weak ⟨Z,Z,Z,Z,Z,by rw[ab];rfl,trivial⟩⟩
 ·rintro a w ⟨aa,ac,m,f⟩
  have h0:=rd1 ac h0
  refine Aa f Z λa f=> ?_
  have⟨ad,ae,hd⟩:=bind_some hd
  refine Br 7 (λa w=>∃af,GLe aa af∧Mem W af w (H)∧Fr a 39 [(0,v0),(4,(iv (x0.length:Int))),(10,(iv (x0.length:Int))),(11,(.bool (decide ((x0.length:Int)<1)))),(12,(.bool (decide ((x0.length:Int)<1)))),(15,(.bool ((decide ((x0.length:Int)<1))||(decide ((16:Int)<(x0.length:Int)))))),(16,(.bool ((decide ((x0.length:Int)<1))||(decide ((16:Int)<(x0.length:Int)))))),(23,(.bool ad))]) ?_ ?_
  ·rcases Af ae with⟨ag,ae⟩|⟨ag,ae⟩
   ·refine AE f ag λa f=> ?_
    refine AE f ag λa f=>AE f ag λa f=>AE f ag λa f=>AE f ag λa f=>AE f ag λa f=>l_o f (AS (f.e Z) ag (f.e Z)) λa f=> ?_
    obtain rfl:=sj ae
    exact⟨_,gr,m,f.k Z⟩
   ·refine AD f ag ?_
    refine Aa f Z λa f=>AD f ag ?_
    refine AT f Z call93 (Wk.E1 m h0) λah ai aj w ak m al a f=> ?_
    obtain⟨am,rfl,rfl⟩:=al
    have h0:=rd1 ak h0
    refine AD f ag ?_
    have⟨an,ao,ae⟩:=bind_some ae
    refine AT f Z call92 (Wk.h0 m h0 ao) λap aq ar w au m av a f=> ?_
    obtain⟨aw,ax,rfl,rfl,ay⟩:=av
    refine AD f ag ?_
    refine Aa f Z λa f=>AD f ag ?_
    have⟨az,aA,ae⟩:=bind_some ae
    refine AT f Z call54 (Ow.lendCall (RI.mono _) 0 ay m Z (λaB aC m aD=>Wk.B m aD aA) (λ_ _ _ _ h=>h)) λaE aF aG w aH m aI a f=> ?_
    obtain⟨rfl,rfl⟩:=aI
    refine AD f ag ?_
    refine l_o f (Bg (f.e Z)) λa f=>l_o f (AR (f.e Z) ag (f.e Z)) λa f=> ?_
    obtain rfl:=sj ae
    have m:Mem W aF w H:=Mem.drop (H':=[ax]) m
    exact⟨_,(gt ak (gt au aH)),m,f.k Z⟩
  ·rintro a w ⟨af,aJ,m,f⟩
   have h0:=rd1 aJ h0
   refine Ab ?_
   rcases Af hd with⟨aK,hd⟩|⟨aK,hd⟩
   ·refine Al f Z aK ?_
    refine Ag ?_
    refine Ac f Z λa f=>Ac f Z λa f=>Ab ?_
    refine Ar ?_
    obtain⟨aL,m,aM⟩:=Ow.nil R0 3 m
    obtain rfl:=sj hd
    exact⟨[sn,(.bool false)],⟨f.get _ _ Z,f.get _ _ Z,trivial⟩,f.d,_,[aL],(gt ac aJ),m,_,_,Z,Z,aM⟩
   ·refine Aj f Z aK ?_
    refine An ?_
    refine Ag ?_
    refine Aa f Z λa f=> ?_
    have⟨aN,aO,hd⟩:=bind_some hd
    refine C2 (R:=R0) m T79 Z (by decide) Z f Z Z Z aO λaP aQ w a m aR f=>Ac f Z λa f=>Ab (Ah (Ag ?_))
    refine Aa f Z λa f=>Bf underlying28 f Z Z h0 λa f=>Aa f Z λa f=>Ab ?_
    have⟨aS,aT,hd⟩:=bind_some hd
    refine AJ (λa w=>∃aU:LI,aU=aS∧∃(aV:GH) (aW:Itm),GLe af aV∧Fr a 39 [(5,aQ)]∧Mem W aV w (aW::H)∧Ow R0 3 aV aW aQ aU) ?_ ?_
    ·refine Ak ?_
     refine AK (λaX a w=>∃aY:LI,∃aZ:Int,(aY,aZ)=aX∧∃(a0:GH) (a1:Itm),GLe af a0∧Fr a 39 [(5,aQ),(26,v0),(27,(iv (x0.length:Int))),(28,(iv aZ))]∧Mem W a0 w (a1::H)∧Ow R0 3 a0 a1 aQ aY) aT ⟨_,_,Z,_,aP,gr,f.k Z,m,aR⟩ ?_
     clear aT f m
     rintro aX a2 a3 a4 a w ⟨aY,aZ,rfl,a0,a1,a5,f,m,a6⟩
     have h0:=rd1 a5 h0
     refine Ag ?_
     refine Ai f Z Z AV λa f=>Ab (Ah ?_)
     rcases Af a3 with⟨a7,a3⟩|⟨a7,a3⟩
     ·refine Al f Z a7 ?_
      refine An ?_
      refine Ah (Ak (Ag ?_))
      refine Aa f Z λa f=> ?_
      have⟨a8,a9,a3⟩:=bind_some a3
      refine Cc T28 f Z Z Z h0 a9 λba bb a bc bd f=> ?_
      subst bd
      refine Bl m Pl2 f Z Z bc λa f=>Ac f Z λa f=>Ac f Z λa f=>Ab (Ao ?_)
      refine Aa f Z λa f=>Aa f Z λa f=>Aa f Z λa f=> ?_
      have⟨be,bf,a3⟩:=bind_some a3
      refine Bo 0 m a6 Z T79 f Z Z Z bf λbg a bh f=>AM 0 m a6 Z sizeOf3 f Z Z bh bf Z Z Z λbi w m bj=>Ab (Ao ?_)
      refine Ai f Z Z As λa f=>Aa f Z λa f=>Ab ?_
      obtain rfl:=sj a3
      exact⟨_,Z,_,_,Z,_,bi,a5,f.k Z,m,bj⟩
     ·refine Aj f Z a7 ?_
      refine AG Z ?_
      obtain rfl:=sj a3
      obtain rfl:=a4 _ rfl
      exact⟨_,Z,_,a1,a5,f.k Z,m,a6⟩
    ·rintro a w ⟨aU,rfl,aV,aW,bk,f,m,bl⟩
     refine Ag ?_
     refine Aa f Z λa f=>Ac f Z λa f=>Ac f Z λa f=>Ab ?_
     refine Ar ?_
     obtain rfl:=sj hd
     exact⟨[aQ,(.bool true)],⟨f.get _ _ Z,f.get _ _ Z,trivial⟩,f.d,_,[aW],(gt ac (gt aJ bk)),m,_,_,Z,Z,bl⟩
theorem Wk.b {x0:Int}(m:Mem W G w (H)){y:Int}(hd:D.b x0=some y):
  Calls prog 61 #[(iv x0)] w (Res W G H (λ_ Ho v=>Ho=[]∧v=(.int .u32 y))):=by
 refine Au (args:=[(iv x0)]) (N:=5) [.tmp 2] func61 Z Z (lb Z) Z λa f=> ?_
 unfold D.b at hd
 refine Ag ?_
 refine Ac f Z λa f=>Ay ?_
 refine Aa f Z λa f=> ?_
 obtain⟨aa,hd⟩:=Dv hd
 refine l_o f (r_shl (f.e Z) (f.e Z) aa) λa f=>Ac f Z λa f=>Ab ?_
 refine Ar ?_
 obtain rfl:=sj hd
 exact⟨[(.int .u32 (ishl .u32 1 x0))],f.g Z,f.d,_,[],gr,m,Z,Z⟩
theorem Wk.M0 {v0:Value}{it0:Itm}{x0:LI}{x1 x2:Int}(m:Mem W G w (it0::H))(o0:Ow (RI .u32) 65 G it0 v0 x0){y:(LI)}(hd:D.M0 x0 x1 x2=some y):
  Calls prog 53 #[v0,(iv x1),(iv x2)] w (Res W G H (λG' Ho _=>∃i0:Itm,Ho=[i0]∧Ow (RI .u32) 65 G' i0 v0 y)):=by
 refine Au (args:=[v0,(iv x1),(iv x2)]) (N:=22) [] func53 Z Z (lb Z) Z λa f=> ?_
 unfold D.M0 at hd
 refine Ah ?_
 refine A4 8 Az (by kernel_rfl) m ?_
 refine Ae 0 8 Z f Z λa f=>Ae 1 8 Z f Z λa f=> ?_
 have⟨aa,ab,hd⟩:=bind_some hd
 refine AW 2 8 0 m o0 T58 ab Z f Z Z λac a ad f=>Ba 3 8 0 o0 CY ad ab Z f Z λae a af f=> ?_
 subst af
 refine Ae 4 8 Z f Z λa f=> ?_
 have⟨ag,ah,hd⟩:=bind_some hd
 refine Bu (i:=5) 8 Z (by kernel_rfl) Z f Z Z Z call61 (λ_ _ w ai m=>Wk.b m ah) λa f=>q_p 6 8 Z f (λ_=>AB (f.e Z) (f.e Z) b_or) λa f=> ?_
 have⟨aj,ak,hd⟩:=bind_some hd
 refine AW 7 8 0 m o0 T58 ak Z f Z Z λal a am f=>AN λan w ao m=> ?_
 have o0:=od1 ao o0
 refine AM 0 m o0 Z sizeOf65 f Z Z am ak Z Z Z λap w m aq=>Ab ?_
 refine A4 8 Az (by kernel_rfl) m ?_
 refine Ae 0 8 Z f Z λa f=>Ae 1 8 Z f Z λa f=> ?_
 have⟨ar,au,hd⟩:=bind_some hd
 refine AW 2 8 0 m aq T58 au Z f Z Z λav a aw f=>Ba 3 8 0 aq CY aw au Z f Z λax a ay f=> ?_
 subst ay
 refine Ae 4 8 Z f Z λa f=> ?_
 have⟨az,aA,hd⟩:=bind_some hd
 refine Bu (i:=5) 8 Z (by kernel_rfl) Z f Z Z Z call61 (λ_ _ w aB m=>Wk.b m aA) λa f=>q_p 6 8 Z f (λ_=>AB (f.e Z) (f.e Z) b_or) λa f=> ?_
 have⟨aC,aD,hd⟩:=bind_some hd
 refine AW 7 8 0 m aq T58 aD Z f Z Z λaE a aF f=>AN λaG w aH m=> ?_
 have aq:=od1 aH aq
 refine AM 0 m aq Z sizeOf65 f Z Z aF aD Z Z Z λaI w m aJ=>Ab ?_
 obtain rfl:=sj hd
 exact⟨[],trivial,f.d,_,[aI],(gt ao aH),m,_,Z,aJ⟩
theorem Wk.y {v0 v1:Value}{x0 x1:LI}(m:Mem W G w (H))(h0:R1 G v0 x0)(h1:R1 G v1 x1){y:(LI)×Bool}(hd:D.y x0 x1=some y):
  Calls prog 25 #[v0,v1] w (Res W G H (λG' Ho v=>∃r0:Value,∃i0:Itm,Ho=[i0]∧v= .tuple #[r0,(.bool y.2)]∧Ow (RI .u32) 65 G' i0 r0 y.1)):=by
 refine Au (args:=[v0,v1]) (N:=74) [.tmp 4,.tmp 5] func25 Z Z (lb Z) Z λa f=> ?_
 unfold D.y at hd
 refine Ag ?_
 refine Ac f Z λa f=>Ac f Z λa f=>Ay ?_
 refine Aa f Z λa f=> ?_
 have⟨aa,ab,hd⟩:=bind_some hd
 refine AT f Z call52 (Wk.Q m h0 ab) λac ad ae w af m ag a f=> ?_
 obtain⟨ah,ai,rfl,rfl,aj⟩:=ag
 have h0:=rd1 af h0
 have h1:=rd1 af h1
 refine Aa f Z λa f=>l_o f (AI (f.e Z) Z) λa f=>l_o f (AI (f.e Z) Z) λa f=>Ac f Z λa f=>Ac f Z λa f=>Ay ?_
 refine Aa f Z λa f=> ?_
 have⟨ak,al,hd⟩:=bind_some hd
 refine AT f Z call52 (Wk.Q m h1 al) λam an ao w ap m aq a f=> ?_
 obtain⟨ar,au,rfl,rfl,av⟩:=aq
 have h0:=rd1 ap h0
 have h1:=rd1 ap h1
 have aj:=od1 ap aj
 refine Aa f Z λa f=>l_o f (AI (f.e Z) Z) λa f=>l_o f (AI (f.e Z) Z) λa f=>Ac f Z λa f=>Ac f Z λa f=>Ab (Ah (Ag ?_))
 refine Aa f Z λa f=>l_o f (Bg (f.e Z)) λa f=>Aa f Z λa f=> ?_
 refine Br 3 (λa w=>∃aw,GLe an aw∧Mem W aw w (au::ai::H)∧Fr a 74 [(0,v0),(1,v1),(6,ah),(7,(.bool aa.2)),(8,ar),(9,(.bool ak.2)),(23,(.bool aa.2)),(24,(.bool (!aa.2))),(25,(.bool (!aa.2))),(28,(.bool ((!aa.2)||(!ak.2))))]) ?_ ?_
 ·rcases Bool.eq_false_or_eq_true (!aa.2) with ax|ax
  ·refine AE f ax λa f=> ?_
   refine AE f ax λa f=>l_o f (AS (f.e Z) ax (f.e Z)) λa f=> ?_
   exact⟨_,gr,m,f.weak ⟨Z,Z,Z,Z,Z,Z,Z,Z,Z,by rw[ax];rfl,trivial⟩⟩
  ·refine AD f ax ?_
   refine Aa f Z λa f=>AD f ax ?_
   refine l_o f (Bg (f.e Z)) λa f=>l_o f (AR (f.e Z) ax (f.e Z)) λa f=> ?_
   exact⟨_,gr,m,f.weak ⟨Z,Z,Z,Z,Z,Z,Z,Z,Z,by rw[ax];rfl,trivial⟩⟩
 ·rintro a w ⟨aw,ay,m,f⟩
  have h0:=rd1 ay h0
  have h1:=rd1 ay h1
  have av:=od1 ay av
  have aj:=od1 ay aj
  refine Aa f Z λa f=> ?_
  refine Br 6 (λa w=>∃az,GLe aw az∧Mem W az w (au::ai::H)∧Fr a 74 [(0,v0),(1,v1),(6,ah),(7,(.bool aa.2)),(8,ar),(9,(.bool ak.2)),(23,(.bool aa.2)),(24,(.bool (!aa.2))),(25,(.bool (!aa.2))),(28,(.bool ((!aa.2)||(!ak.2)))),(29,(.bool ((!aa.2)||(!ak.2)))),(35,(.bool (((!aa.2)||(!ak.2))||((x0.length:Int) !=(x1.length:Int)))))]) ?_ ?_
  ·rcases Bool.eq_false_or_eq_true ((!aa.2)||(!ak.2)) with aA|aA
   ·refine AE f aA λa f=> ?_
    refine AE f aA λa f=>AE f aA λa f=>AE f aA λa f=>AE f aA λa f=>l_o f (AS (f.e Z) aA (f.e Z)) λa f=> ?_
    exact⟨_,gr,m,f.weak ⟨Z,Z,Z,Z,Z,Z,Z,Z,Z,Z,Z,by rw[aA];rfl,trivial⟩⟩
   ·refine AD f aA ?_
    refine Aa f Z λa f=>AD f aA ?_
    refine Bf underlying28 f Z Z h0 λa f=>AD f aA ?_
    refine Aa f Z λa f=>AD f aA ?_
    refine Bf underlying28 f Z Z h1 λa f=>AD f aA ?_
    refine Ai f Z Z C5 λa f=>l_o f (AR (f.e Z) aA (f.e Z)) λa f=> ?_
    exact⟨_,gr,m,f.weak ⟨Z,Z,Z,Z,Z,Z,Z,Z,Z,Z,Z,by rw[aA];rfl,trivial⟩⟩
  ·rintro a w ⟨az,aB,m,f⟩
   have h0:=rd1 aB h0
   have av:=od1 aB av
   have aj:=od1 aB aj
   refine Ab ?_
   rcases Af hd with⟨aC,hd⟩|⟨aC,hd⟩
   ·refine Al f Z aC ?_
    refine Ag ?_
    refine Ac f Z λa f=>Ac f Z λa f=>Ab ?_
    refine Ar ?_
    obtain⟨aD,m,aE⟩:=Ow.nil (RI .u32) 65 m
    have m:=m.eraseAt 2
    have m:=m.eraseAt 1
    obtain rfl:=sj hd
    exact⟨[sn,(.bool false)],⟨f.get _ _ Z,f.get _ _ Z,trivial⟩,f.d,_,[aD],(gt af (gt ap (gt ay aB))),m,_,_,Z,Z,aE⟩
   ·refine Aj f Z aC ?_
    refine An ?_
    refine Ag ?_
    refine Aa f Z λa f=>Bf underlying28 f Z Z h0 λa f=> ?_
    have⟨aF,aG,hd⟩:=bind_some hd
    refine C2 (R:=(RI .u32)) m T58 Z (by decide) Z f Z Z Z aG λaH aI w a m aJ f=>Ac f Z λa f=>Ab (Ah (Ag ?_))
    refine Aa f Z λa f=>Dc 2 m aj Z underlying79 f Z Z λa f=>Aa f Z λa f=>Ab ?_
    have⟨aK,aL,hd⟩:=bind_some hd
    refine AJ (λa w=>∃aM:LI,aM=aK∧∃(aN:GH) (aO:Itm),GLe az aN∧Fr a 74 [(10,aI)]∧Mem W aN w (aO::H)∧Ow (RI .u32) 65 aN aO aI aM) ?_ ?_
    ·refine Ak ?_
     have m:=m.fr 1
     have m:=m.fr 2
     refine AK (λaP a w=>∃aQ:LI,∃aR:Int,(aQ,aR)=aP∧∃(aS:GH) (aT:Itm),GLe az aS∧Fr a 74 [(6,ah),(8,ar),(10,aI),(40,(iv (aa.1.length:Int))),(41,(iv aR))]∧Mem W aS w (ai::au::aT::H)∧Ow (RI .u32) 65 aS aT aI aQ) aL ⟨_,_,Z,_,aH,gr,f.k Z,m,aJ⟩ ?_
     clear aL f m
     rintro aP aU aV aW a w ⟨aQ,aR,rfl,aS,aT,aX,f,m,aY⟩
     have aj:=od1 aX aj
     have av:=od1 aX av
     refine Ag ?_
     refine Ai f Z Z AV λa f=>Ab (Ah ?_)
     rcases Af aV with⟨aZ,aV⟩|⟨aZ,aV⟩
     ·refine Al f Z aZ ?_
      refine An ?_
      refine Ah (Ak (Ag ?_))
      refine Aa f Z λa f=>Ac f Z λa f=>Ay ?_
      refine Aa f Z λa f=>Aa f Z λa f=>Ab ?_
      have⟨a0,a1,aV⟩:=bind_some aV
      refine AJ (λa w=>∃a2:LI,a2=a0∧∃(a3:GH) (a4:Itm),GLe aS a3∧Fr a 74 [(6,ah),(8,ar),(10,aI),(40,(iv (aa.1.length:Int))),(41,(iv aR))]∧Mem W a3 w (ai::au::a4::H)∧Ow (RI .u32) 65 a3 a4 aI a2) ?_ ?_
      ·refine Ak ?_
       refine AK (λa5 a w=>∃a6:LI,∃a7:Int,(a6,a7)=a5∧∃(a8:GH) (a9:Itm),GLe aS a8∧Fr a 74 [(6,ah),(8,ar),(10,aI),(11,(iv aR)),(40,(iv (aa.1.length:Int))),(41,(iv aR)),(44,(iv aR)),(45,(iv a7))]∧Mem W a8 w (ai::au::a9::H)∧Ow (RI .u32) 65 a8 a9 aI a6) a1 ⟨_,_,Z,_,aT,gr,f.k Z,m,aY⟩ ?_
       clear a1 f m
       rintro a5 ba bb bc a w ⟨a6,a7,rfl,a8,a9,bd,f,m,be⟩
       have aj:=od1 bd aj
       have av:=od1 bd av
       refine Ag ?_
       refine Ai f Z Z AV λa f=>Ab (Ah ?_)
       rcases Af bb with⟨bf,bb⟩|⟨bf,bb⟩
       ·refine Al f Z bf ?_
        refine An ?_
        refine Ah (Ak (Ag ?_))
        refine Aa f Z λa f=>Ac f Z λa f=>Ab (Ah ?_)
        refine A4 19 Az (by kernel_rfl) m ?_
        refine Ae 0 19 Z f Z λa f=>Ae 1 19 Z f Z λa f=> ?_
        have⟨bg,bh,bb⟩:=bind_some bb
        refine AW 2 19 0 m aj T79 bh Z f Z Z λbi a bj f=>Ba 3 19 0 aj Pl3 bj bh Z f Z λbk a bl f=> ?_
        subst bl
        refine Ae 4 19 Z f Z λa f=>Ae 5 19 Z f Z λa f=> ?_
        have⟨bm,bn,bb⟩:=bind_some bb
        refine AW 6 19 0 m aj T79 bn Z f Z Z λbo a bp f=>Ba 7 19 0 aj Pl3 bp bn Z f Z λbq a br f=> ?_
        subst br
        refine q_p 8 19 Z f (λ_=>AB (f.e Z) (f.e Z) AV) λa f=>Ae 9 19 Z f Z λa f=>Ae 10 19 Z f Z λa f=> ?_
        have⟨bs,bt,bb⟩:=bind_some bb
        refine AW 11 19 1 m av T79 bt Z f Z Z λbu a bv f=>Ba 12 19 1 av Pl3 bv bt Z f Z λbw a bx f=> ?_
        subst bx
        refine Ae 13 19 Z f Z λa f=>Ae 14 19 Z f Z λa f=> ?_
        have⟨bz,bA,bb⟩:=bind_some bb
        refine AW 15 19 1 m av T79 bA Z f Z Z λbB a bC f=>Ba 16 19 1 av Pl3 bC bA Z f Z λbD a bE f=> ?_
        subst bE
        refine q_p 17 19 Z f (λ_=>AB (f.e Z) (f.e Z) AV) λa f=>q_p 18 19 Z f (λ_=>r_bool_neq (f.e Z) (f.e Z) underlying4) λa f=>AN λbF w bG m=> ?_
        have be:=od1 bG be
        refine Ab ?_
        rcases Af bb with⟨bH,bb⟩|⟨bH,bb⟩
        ·refine Al f Z bH ?_
         refine Ao ?_
         refine Aa f Z λa f=>Aa f Z λa f=>Aa f Z λa f=> ?_
         have m:=m.fr 2
         have⟨bI,bJ,bb⟩:=bind_some bb
         refine AT f Z call53 (Wk.M0 m be bJ) λbK bL bM w bN m bO a f=> ?_
         obtain⟨bP,rfl,bQ⟩:=bO
         refine Ab (Ao ?_)
         refine Ai f Z Z As λa f=>Aa f Z λa f=>Ab ?_
         have m:=m.fr 2
         have m:=m.fr 2
         obtain rfl:=sj bb
         exact⟨_,Z,_,_,Z,_,bP,(gt bd (gt bG bN)),f.k Z,m,bQ⟩
        ·refine Aj f Z bH ?_
         refine An ?_
         refine Ao ?_
         refine Ai f Z Z As λa f=>Aa f Z λa f=>Ab ?_
         obtain rfl:=sj bb
         exact⟨_,Z,_,_,Z,_,a9,(gt bd bG),f.k Z,m,be⟩
       ·refine Aj f Z bf ?_
        refine AG Z ?_
        obtain rfl:=sj bb
        obtain rfl:=bc _ rfl
        exact⟨_,Z,_,a9,bd,f.k Z,m,be⟩
      ·rintro a w ⟨a2,rfl,a3,a4,bR,f,m,bS⟩
       refine Ao ?_
       refine Ai f Z Z As λa f=>Aa f Z λa f=>Ab ?_
       obtain rfl:=sj aV
       exact⟨_,Z,_,_,Z,_,a4,(gt aX bR),f.k Z,m,bS⟩
     ·refine Aj f Z aZ ?_
      refine AG Z ?_
      have m:=m.fr 2
      have m:=m.eraseAt 2
      have m:=m.eraseAt 1
      obtain rfl:=sj aV
      obtain rfl:=aW _ rfl
      exact⟨_,Z,_,aT,aX,f.k Z,m,aY⟩
    ·rintro a w ⟨aM,rfl,aN,aO,bT,f,m,bU⟩
     refine Ag ?_
     refine Aa f Z λa f=>Ac f Z λa f=>Ac f Z λa f=>Ab ?_
     refine Ar ?_
     obtain rfl:=sj hd
     exact⟨[aI,(.bool true)],⟨f.get _ _ Z,f.get _ _ Z,trivial⟩,f.d,_,[aO],(gt af (gt ap (gt ay (gt aB bT)))),m,_,_,Z,Z,bU⟩
theorem Wk.v {x0:Int}(hW:CI W)(m:Mem W G w (H)){y:Int}(hd:D.v x0=some y):
  Calls prog 59 #[(.int .u32 x0)] w (Res W G H (λ_ Ho v=>Ho=[]∧v=(iv y))):=by
 refine Au (args:=[(.int .u32 x0)]) (N:=5) [.tmp 2] func59 Z Z (lb Z) Z λa f=> ?_
 unfold D.v at hd
 refine Ag ?_
 refine Ac f Z λa f=>Ay ?_
 refine Aa f Z λa f=> ?_
 have⟨aa,ab,hd⟩:=bind_some hd
 refine Bk f Z call97 (Wk.m1 hW m ab) λac w ad m a f=>Ac f Z λa f=>Ab ?_
 refine Ar ?_
 obtain rfl:=sj hd
 exact⟨[(iv aa)],f.g Z,f.d,_,[],ad,m,Z,Z⟩
theorem Wk.m {x0:Int}(hW:CI W)(m:Mem W G w (H)){y:(LI)}(hd:D.m x0=some y):
  Calls prog 90 #[(.int .u32 x0)] w (Res W G H (λG' Ho v=>∃r0:Value,∃i0:Itm,Ho=[i0]∧r0=v∧Ow R0 3 G' i0 r0 y)):=by
 refine Au (args:=[(.int .u32 x0)]) (N:=17) [.tmp 2] func90 Z Z (lb Z) Z λa f=> ?_
 unfold D.m at hd
 refine Ag ?_
 refine Ac f Z λa f=>Ay ?_
 refine BQ (R:=R0) (xs:=([]:LI)) (RI.one _) m T79 f Z Z Z (by decide) (All2.nil _) λaa ab w a m ac f=>Ac f Z λa f=>Ab (Ah ?_)
 have⟨ad,ae,hd⟩:=bind_some hd
 refine AJ (λa w=>∃af:LI,af=ad∧∃(ag:GH) (ah:Value) (ai:Itm),GLe G ag∧Fr a 17 [(3,ah)]∧Mem W ag w (ai::H)∧Ow R0 3 ag ai ah af) ?_ ?_
 ·refine Ak ?_
  refine AK (λaj a w=>∃ak:Int,∃al:LI,(ak,al)=aj∧∃(am:GH) (an:Value) (ao:Itm),GLe G am∧Fr a 17 [(0,(.int .u32 ak)),(3,an)]∧Mem W am w (ao::H)∧Ow R0 3 am ao an al) ae ⟨_,_,Z,_,ab,aa,gr,f.k Z,m,ac⟩ ?_
  clear ae f m
  rintro aj ap aq ar a w ⟨ak,al,rfl,am,an,ao,au,f,m,av⟩
  refine Ah (Ag ?_)
  refine Aa f Z λa f=>Ai f Z Z C5 λa f=>Ab ?_
  rcases Af aq with⟨aw,aq⟩|⟨aw,aq⟩
  ·refine Al f Z aw ?_
   refine An ?_
   refine Ah (Ak (Ao ?_))
   refine Aa f Z λa f=>Aa f Z λa f=> ?_
   have⟨ax,ay,aq⟩:=bind_some aq
   refine Bk f Z call59 (Wk.v hW m ay) λaz w aA m a f=> ?_
   have av:=od1 aA av
   refine BQ (R:=R0) (xs:=([ax]:LI)) (RI.one _) m T79 f Z Z Z (by decide) (All2.cons Z (All2.nil _)) λaB aC w a m aD f=> ?_
   have⟨aE,aF,aq⟩:=bind_some aq
   refine BJ (RI.one _) 1 m av Z T79 Z (by decide) f Z Z Z (Ow.src (j:=0) aD m Z) aF λaG aH w a m aI f=>Ac f Z λa f=>Ab (Ao ?_)
   refine Aa f Z λa f=>Aa f Z λa f=>Ai f Z Z AF λa f=>Ai f Z Z D8 λa f=>Ac f Z λa f=>Ab ?_
   have m:=m.fr 1
   have m:=m.eraseAt 1
   obtain rfl:=sj aq
   exact⟨_,Z,_,_,Z,_,aH,aG,(gt au aA),f.k Z,m,aI⟩
  ·refine Aj f Z aw ?_
   refine AG Z ?_
   obtain rfl:=sj aq
   obtain rfl:=ar _ rfl
   exact⟨_,Z,_,an,ao,au,f.k Z,m,av⟩
 ·rintro a w ⟨af,rfl,ag,ah,ai,aJ,f,m,aK⟩
  refine Ag ?_
  refine Aa f Z λa f=>Ac f Z λa f=>Ab ?_
  refine Ar ?_
  obtain rfl:=sj hd
  exact⟨[ah],f.g Z,f.d,_,[ai],aJ,m,_,_,Z,Z,aK⟩
theorem Wk.l0 {v0:Value}{x0:LI}(m:Mem W G w (H))(h0:R1 G v0 x0){y:(LI)}(hd:D.l0 x0=some y):
  Calls prog 89 #[v0] w (Res W G H (λG' Ho v=>∃r0:Value,∃i0:Itm,Ho=[i0]∧r0=v∧Ow R0 2 G' i0 r0 y)):=by
 refine Au (args:=[v0]) (N:=21) [.tmp 2] func89 Z Z (lb Z) Z λa f=> ?_
 unfold D.l0 at hd
 refine Ag ?_
 refine Ac f Z λa f=>Ay ?_
 refine Aa f Z λa f=>Bf underlying79 f Z Z h0 λa f=> ?_
 have⟨aa,ab,hd⟩:=bind_some hd
 refine C2 (R:=R0) m T28 Z (by decide) Z f Z Z Z ab λac ad w a m ae f=>Ac f Z λa f=>Ab (Ah (Ag ?_))
 refine Aa f Z λa f=>Bf underlying79 f Z Z h0 λa f=>Aa f Z λa f=>Ab ?_
 have⟨af,ag,hd⟩:=bind_some hd
 refine AJ (λa w=>∃ah:LI,ah=af∧∃(ai:GH) (aj:Value) (ak:Itm),GLe G ai∧Fr a 21 [(3,aj)]∧Mem W ai w (ak::H)∧Ow R0 2 ai ak aj ah) ?_ ?_
 ·refine Ak ?_
  refine AK (λal a w=>∃am:LI,∃an:Int,(am,an)=al∧∃(ao:GH) (ap:Value) (aq:Itm),GLe G ao∧Fr a 21 [(3,ap),(9,v0),(10,(iv (x0.length:Int))),(11,(iv an))]∧Mem W ao w (aq::H)∧Ow R0 2 ao aq ap am) ag ⟨_,_,Z,_,ad,ac,gr,f.k Z,m,ae⟩ ?_
  clear ag f m
  rintro al ar au av a w ⟨am,an,rfl,ao,ap,aq,aw,f,m,ax⟩
  have h0:=rd1 aw h0
  refine Ag ?_
  refine Ai f Z Z AV λa f=>Ab (Ah ?_)
  rcases Af au with⟨ay,au⟩|⟨ay,au⟩
  ·refine Al f Z ay ?_
   refine An ?_
   refine Ah (Ak (Ag ?_))
   have⟨az,aA,au⟩:=bind_some au
   refine Cc T79 f Z Z Z h0 aA λaB aC a aD aE f=> ?_
   subst aE
   refine Bl m Pl3 f Z Z aD λa f=>Ac f Z λa f=>Ab (Ao ?_)
   refine Aa f Z λa f=>Aa f Z λa f=>BQ (R:=R0) (xs:=([az]:LI)) (RI.one _) m T28 f Z Z Z (by decide) (All2.cons Z (All2.nil _)) λaF aG w a m aH f=> ?_
   have⟨aI,aJ,au⟩:=bind_some au
   refine BJ (RI.one _) 1 m ax Z T28 Z (by decide) f Z Z Z (Ow.src (j:=0) aH m Z) aJ λaK aL w a m aM f=>Ac f Z λa f=>Ab (Ao ?_)
   refine Ai f Z Z As λa f=>Aa f Z λa f=>Ab ?_
   have m:=m.fr 1
   have m:=m.eraseAt 1
   obtain rfl:=sj au
   exact⟨_,Z,_,_,Z,_,aL,aK,aw,f.k Z,m,aM⟩
  ·refine Aj f Z ay ?_
   refine AG Z ?_
   obtain rfl:=sj au
   obtain rfl:=av _ rfl
   exact⟨_,Z,_,ap,aq,aw,f.k Z,m,ax⟩
 ·rintro a w ⟨ah,rfl,ai,aj,ak,aN,f,m,aO⟩
  refine Ag ?_
  refine Aa f Z λa f=>Ac f Z λa f=>Ab ?_
  refine Ar ?_
  obtain rfl:=sj hd
  exact⟨[aj],f.g Z,f.d,_,[ak],aN,m,_,_,Z,Z,aO⟩
theorem Wk.s0 {x0:Int}(hW:CI W)(m:Mem W G w (H)){y:(LI)}(hd:D.s0 x0=some y):
  Calls prog 50 #[(.int .u32 x0)] w (Res W G H (λG' Ho v=>∃r0:Value,∃i0:Itm,Ho=[i0]∧r0=v∧Ow R0 2 G' i0 r0 y)):=by
 refine Au (args:=[(.int .u32 x0)]) (N:=6) [.tmp 2] func50 Z Z (lb Z) Z λa f=> ?_
 unfold D.s0 at hd
 refine Ag ?_
 refine Ac f Z λa f=>Ay ?_
 refine Aa f Z λa f=> ?_
 have⟨aa,ab,hd⟩:=bind_some hd
 refine AT f Z call90 (Wk.m hW m ab) λac ad ae w af m ag a f=> ?_
 obtain⟨ah,ai,rfl,rfl,aj⟩:=ag
 have⟨ak,al,hd⟩:=bind_some hd
 refine AT f Z call89 (Ow.lendCall (RI.mono _) 0 aj m Z (λam an m ao=>Wk.l0 m ao al) (λ_ G' _ _ ⟨a0,a1,e1,e2,o0⟩=>⟨a0,a1,e1,e2,Ow.free (RI.free _) G' o0⟩)) λap aq ar w au m av a f=> ?_
 obtain⟨aw,ax,rfl,rfl,ay⟩:=av
 refine Ac f Z λa f=>Ab ?_
 refine Ar ?_
 have m:=m.eraseAt 1
 obtain rfl:=sj hd
 exact⟨[aw],f.g Z,f.d,_,[ax],(gt af au),m,_,_,Z,Z,ay⟩
theorem Wk.a0 {v0:Value}{x0:LI}(hW:CI W)(m:Mem W G w (H))(h0:RSl (RI .u32) G v0 x0){y:(LL)}(hd:D.a0 x0=some y):
  Calls prog 26 #[v0] w (Res W G H (λG' Ho v=>∃r0:Value,∃i0:Itm,Ho=[i0]∧v=(.agg #[r0])∧Ow R1 28 G' i0 r0 y)):=by
 refine Au (args:=[v0]) (N:=22) [.cell 2 32] func26 Z Z (lb Z) Z λa f=> ?_
 unfold D.a0 at hd
 refine Ag ?_
 refine Bx (cs:=[sn]) zeroValue32 m f Z Z λaa w a m f=>Ay ?_
 have ab:∀w,(Instr.build 32 #[]).run prog w= .ok (.agg #[sn]) w:=by intro w;simp[Instr.build,Instr.fill,Cd,BZ,BO,BS,BF,Ce]
 refine CG f Z Z ab λa f=>Bx (cs:=[sn]) zeroValue32 m f Z Z λac w a m f=>A3 0 0 (ds:=[sn]) m sizeOf32 f Z Z Z (Ap Z AH) Z (lb Z) Z λw m=>Ab (Ah (Ag ?_))
 refine Aa f Z λa f=>Bf underlying58 f Z Z h0 λa f=>Aa f Z λa f=>Ab ?_
 obtain⟨ad,m,ae⟩:=Ow.nil R1 28 m
 have⟨af,ag,hd⟩:=bind_some hd
 refine AJ (λa w=>∃ah:LL,ah=af∧∃(ai:GH) (aj:Value) (ak:Itm),GLe G ai∧Fr a 22 [(2,(pb aa)),(3,(pb ac))]∧Mem W ai w (ib aa 32 [sn]::ib ac 32 [aj]::ak::H)∧Ow R1 28 ai ak aj ah) ?_ ?_
 ·refine Ak ?_
  have m:=m.fr 1
  have m:=m.fr 2
  refine AK (λal a w=>∃am:Int,∃an:LL,(am,an)=al∧∃(ao:GH) (ap:Value) (aq:Itm),GLe G ao∧Fr a 22 [(2,(pb aa)),(3,(pb ac)),(7,v0),(8,(iv (x0.length:Int))),(9,(iv am))]∧Mem W ao w (ib aa 32 [sn]::ib ac 32 [ap]::aq::H)∧Ow R1 28 ao aq ap an) ag ⟨_,_,Z,_,sn,ad,gr,f.k Z,m,ae⟩ ?_
  clear ag f m
  rintro al ar au av a w ⟨am,an,rfl,ao,ap,aq,aw,f,m,ax⟩
  have h0:=rd1 aw h0
  refine Ag ?_
  refine Ai f Z Z AV λa f=>Ab (Ah ?_)
  rcases Af au with⟨ay,au⟩|⟨ay,au⟩
  ·refine Al f Z ay ?_
   refine An ?_
   refine Ah (Ak (Ag ?_))
   have⟨az,aA,au⟩:=bind_some au
   refine Cc T58 f Z Z Z h0 aA λaB aC a aD aE f=> ?_
   subst aE
   refine Bl m CY f Z Z aD λa f=>Ac f Z λa f=>Ab ?_
   refine A4 5 Az (by kernel_rfl) m ?_
   refine Cf 0 5 underlying32 Z sizeOf30 Z f Z λa f=>BX 1 5 1 B4 Z Z Z f Z λa f=>Ae 2 5 Z f Z λa f=>CX 3 Z λaF w aG m aH aH=> ?_
   have ax:=Ow.mono (RSl.mono (RI.mono _)) aG ax
   have⟨aI,aJ,au⟩:=bind_some au
   refine AT f Z call50 (Wk.s0 hW m aJ) λaK aL aM w aN m aO a f=> ?_
   obtain⟨aP,aQ,rfl,rfl,aR⟩:=aO
   have ax:=Ow.mono (RSl.mono (RI.mono _)) aN ax
   refine Ab ?_
   refine aH aL [aQ] _ _ aN m ?_
   refine CX 4 Z λaS w aT m aU aU=> ?_
   have aR:=od1 aT aR
   have ax:=Ow.mono (RSl.mono (RI.mono _)) aT ax
   obtain⟨aV,aW,m,aX⟩:=Ow.stamp (RI.mono _) aR m
   have ax:=Ow.mono (RSl.mono (RI.mono _)) aW ax
   refine BQ (R:=R1) (xs:=([aI]:LL)) (RSl.one _) m T30 f Z Z Z (by decide) (All2.cons aX (All2.nil _)) λaY aZ w a m a0 f=>Ab ?_
   refine aU aV [aY] _ _ aW m ?_
   refine AN λa1 w a2 m=> ?_
   have a0:=Ow.mono (RSl.mono (RI.mono _)) a2 a0
   have ax:=Ow.mono (RSl.mono (RI.mono _)) a2 ax
   have⟨a3,a4,au⟩:=bind_some au
   refine BJ (RSl.one _) 3 m ax Z T30 Z (by decide) f Z Z Z (Ow.src (j:=0) a0 m Z) a4 λa5 a6 w a m a7 f=>BC underlying32 Z sizeOf30 f Z λa f=>A3 2 0 (ds:=[a6]) m sizeOf30 f Z Z (Ow.cells 3 m a7 Z) (Ap (Ow.one1 3 m a7 Z) AH) Z (lb Z) Z λw m=>Ab (Ao ?_)
   refine Ai f Z Z As λa f=>Aa f Z λa f=>Ab ?_
   have m:=m.fr 3
   have m:=m.fr 3
   have m:Mem W a1 w (ib aa 32 [sn]::ib ac 32 [a6]::a5::aY::H):=m.fr 3
   have m:=m.eraseAt 3
   obtain rfl:=sj au
   exact⟨_,Z,_,_,Z,_,a6,a5,(gt aw (gt aG (gt aN (gt aT (gt aW a2))))),f.k Z,m,a7⟩
  ·refine Aj f Z ay ?_
   refine AG Z ?_
   obtain rfl:=sj au
   obtain rfl:=av _ rfl
   exact⟨_,Z,_,ap,aq,aw,f.k Z,m,ax⟩
 ·rintro a w ⟨ah,rfl,ai,aj,ak,a8,f,m,a9⟩
  refine Ag ?_
  refine A9 1 0 (ds:=[aj]) m Bn f Z Z Z Z Z λa f=>A3 0 0 (ds:=[aj]) m sizeOf32 f Z Z Z (Ap (Ow.one1 2 m a9 Z) AH) Z (lb Z) Z λw m=>Ab ?_
  refine Ar ?_
  have ba:=CZ (P:=prog) 0 m Bn f (s:=2) rfl rfl rfl
  have m:=m.fr 2
  have m:=m.eraseAt 2
  have m:=m.eraseAt 1
  obtain rfl:=sj hd
  exact⟨[(.agg #[aj])],⟨ba,trivial⟩,f.d,_,[ak],a8,m,_,_,Z,Z,a9⟩
theorem Wk.O {v0 v1:Value}{x0 x1:LI}(hW:CI W)(m:Mem W G w (H))(h0:R1 G v0 x0)(h1:R1 G v1 x1){y:(LL)×Bool}(hd:D.O x0 x1=some y):
  Calls prog 9 #[v0,v1] w (Res W G H (λG' Ho v=>∃r0:Value,∃i0:Itm,Ho=[i0]∧v= .tuple #[(.agg #[r0]),(.bool y.2)]∧Ow R1 28 G' i0 r0 y.1)):=by
 refine Au (args:=[v0,v1]) (N:=19) [.cell 4 32,.tmp 5] func9 Z Z (lb Z) Z λa f=> ?_
 unfold D.O at hd
 refine Ag ?_
 refine Bx (cs:=[sn]) zeroValue32 m f Z Z λaa w a m f=>Ac f Z λa f=>Ay ?_
 refine Aa f Z λa f=>Aa f Z λa f=> ?_
 have⟨ab,ac,hd⟩:=bind_some hd
 refine AT f Z call25 (Wk.y m h0 h1 ac) λad ae af w ag m ah a f=> ?_
 obtain⟨ai,aj,rfl,rfl,ak⟩:=ah
 refine Aa f Z λa f=>l_o f (AI (f.e Z) Z) λa f=>l_o f (AI (f.e Z) Z) λa f=>Ac f Z λa f=>Ac f Z λa f=>Ab (Ah (Ag ?_))
 refine Aa f Z λa f=>l_o f (Bg (f.e Z)) λa f=>Ab ?_
 rcases Af hd with⟨al,hd⟩|⟨al,hd⟩
 ·refine Al f Z al ?_
  refine Ag ?_
  have am:∀w,(Instr.build 32 #[]).run prog w= .ok (.agg #[sn]) w:=by intro w;simp[Instr.build,Instr.fill,Cd,BZ,BO,BS,BF,Ce]
  refine CG f Z Z am λa f=>A3 1 0 (ds:=[sn]) m sizeOf32 f Z Z Z (Ap Z AH) Z (lb Z) Z λw m=>Ac f Z λa f=>Ab ?_
  refine Ar ?_
  obtain⟨an,m,ao⟩:=Ow.nil R1 28 m
  have ap:=CZ (P:=prog) 2 m Bn f (s:=4) rfl rfl rfl
  have m:=m.eraseAt 2
  have m:=m.eraseAt 1
  obtain rfl:=sj hd
  exact⟨[(.agg #[sn]),(.bool false)],⟨ap,f.get _ _ Z,trivial⟩,f.d,_,[an],ag,m,_,_,Z,Z,ao⟩
 ·refine Aj f Z al ?_
  refine An ?_
  refine Ag ?_
  refine Aa f Z λa f=> ?_
  obtain⟨aq,ar,m,au⟩:=Ow.stamp (RI.mono _) ak m
  have⟨av,aw,hd⟩:=bind_some hd
  refine AT f Z call26 (Wk.a0 hW m au aw) λax ay az w aA m aB a f=> ?_
  obtain⟨aC,aD,rfl,rfl,aE⟩:=aB
  refine A3 1 0 (ds:=[aC]) m sizeOf32 f Z Z Z (Ap (Ow.one1 0 m aE Z) AH) Z (lb Z) Z λw m=>Ac f Z λa f=>Ab ?_
  refine Ar ?_
  have aF:=CZ (P:=prog) 1 m Bn f (s:=4) rfl rfl rfl
  have m:=m.eraseAt 1
  obtain rfl:=sj hd
  exact⟨[(.agg #[aC]),(.bool true)],⟨aF,f.get _ _ Z,trivial⟩,f.d,_,[aD],(gt ag (gt ar aA)),m,_,_,Z,Z,aE⟩
theorem Wk.e {aa:Value}{ab:LL}(m:Mem W G w (H))(ac:R2 G aa ab){y:Bool}(hd:D.e ab=some y):
  Calls prog 27 #[(.agg #[aa])] w (Res W G H (λ_ Ho v=>Ho=[]∧v=(.bool y))):=by
 refine Au (args:=[(.agg #[aa])]) (N:=61) [.tmp 2] func27 Z Z (lb Z) Z λa f=> ?_
 unfold D.e at hd
 refine Ag ?_
 refine BN (cs:=[aa]) m f Z Z Z λad w a m f=>Ac f Z λa f=>Ay ?_
 refine BC underlying32 Z sizeOf30 f Z λa f=>A5 0 0 m B4 f Z Z Z Z λa f=>Bf underlying30 f Z Z ac λa f=>Ac f Z λa f=>Ab (Ah (Ag ?_))
 refine Aa f Z λa f=>Ai f Z Z AV λa f=>Aa f Z λa f=> ?_
 refine Br 3 (λa w=>∃ae,GLe G ae∧Mem W ae w (ib ad 32 [aa]::H)∧Fr a 61 [(0,(.agg #[aa])),(1,(pb ad)),(3,(iv (ab.length:Int))),(13,(iv (ab.length:Int))),(14,(.bool (decide ((ab.length:Int)<1)))),(15,(.bool (decide ((ab.length:Int)<1)))),(18,(.bool ((decide ((ab.length:Int)<1))||(decide ((16:Int)<(ab.length:Int))))))]) ?_ ?_
 ·rcases Bool.eq_false_or_eq_true (decide ((ab.length:Int)<1)) with af|af
  ·refine AE f af λa f=> ?_
   refine AE f af λa f=>l_o f (AS (f.e Z) af (f.e Z)) λa f=> ?_
   exact⟨_,gr,m,f.weak ⟨Z,Z,Z,Z,Z,Z,by rw[af];rfl,trivial⟩⟩
  ·refine AD f af ?_
   refine Aa f Z λa f=>AD f af ?_
   refine Ai f Z Z Cs λa f=>l_o f (AR (f.e Z) af (f.e Z)) λa f=> ?_
   exact⟨_,gr,m,f.weak ⟨Z,Z,Z,Z,Z,Z,by rw[af];rfl,trivial⟩⟩
 ·rintro a w ⟨ae,ag,m,f⟩
  have ac:=rd2 ag ac
  refine Ab ?_
  rcases Af hd with⟨ah,hd⟩|⟨ah,hd⟩
  ·refine Al f Z ah ?_
   refine Ag ?_
   refine Ac f Z λa f=>Ab ?_
   refine Ar ?_
   have m:Mem W ae w H:=Mem.drop (H':=[ib ad 32 [aa]]) m
   obtain rfl:=sj hd
   exact⟨[(.bool false)],f.g Z,f.d,_,[],ag,m,Z,Z⟩
  ·refine Aj f Z ah ?_
   refine An ?_
   refine Ah (Ag ?_)
   refine BC underlying32 Z sizeOf30 f Z λa f=>A5 0 0 m B4 f Z Z Z Z λa f=>Bf underlying30 f Z Z ac λa f=>Aa f Z λa f=>Ab ?_
   have⟨ai,aj,hd⟩:=bind_some hd
   refine AJ (λa w=>∃q_91':Unit,ai= .inl q_91'∧∃(ak:GH),GLe ae ak∧Fr a 61 [(1,(pb ad))]∧Mem W ak w (ib ad 32 [aa]::H)) ?_ ?_
   ·refine Ak ?_
    refine AK (λal a w=>∃am:Int,am=al∧∃(an:GH),GLe ae an∧Fr a 61 [(1,(pb ad)),(3,(iv (ab.length:Int))),(20,aa),(21,(iv (ab.length:Int))),(22,(iv am))]∧Mem W an w (ib ad 32 [aa]::H)) aj ⟨_,Z,_,gr,f.k Z,m⟩ ?_
    clear aj f m
    rintro al ao ap aq a w ⟨am,rfl,an,ar,f,m⟩
    have ac:=rd2 ar ac
    refine Ag ?_
    refine Ai f Z Z AV λa f=>Ab (Ah ?_)
    rcases Af ap with⟨au,ap⟩|⟨au,ap⟩
    ·refine Al f Z au ?_
     refine An ?_
     refine Ah (Ak (Ag ?_))
     refine Aa f Z λa f=> ?_
     have⟨av,aw,ap⟩:=bind_some ap
     refine Cc T30 f Z Z Z ac aw λax ay a az aA f=>Bl m CW f Z Z az λa f=>Ac f Z λa f=>Ac f Z λa f=>Ay ?_
     refine Aa f Z λa f=>Aa f Z λa f=> ?_
     have⟨aB,aC,ap⟩:=bind_some ap
     refine Bk f Z call54 (Wk.B m aA aC) λaD w aE m a f=> ?_
     have aA:=rd1 aE aA
     refine l_o f (Bg (f.e Z)) λa f=>Aa f Z λa f=> ?_
     have⟨aF,aG,ap⟩:=bind_some ap
     refine Br 4 (λa w=>∃aH,GLe aD aH∧Mem W aH w (ib ad 32 [aa]::H)∧Fr a 61 [(1,(pb ad)),(3,(iv (ab.length:Int))),(4,(iv am)),(5,ay),(20,aa),(21,(iv (ab.length:Int))),(22,(iv am)),(27,ay),(28,(iv (ab.length:Int))),(29,(.bool aB)),(30,(.bool (!aB))),(31,(.bool (!aB))),(35,(.bool aF))]) ?_ ?_
     ·rcases Af aG with⟨aI,aG⟩|⟨aI,aG⟩
      ·refine AE f aI λa f=> ?_
       refine AE f aI λa f=>AE f aI λa f=>l_o f (AS (f.e Z) aI (f.e Z)) λa f=> ?_
       obtain rfl:=sj aG
       exact⟨_,gr,m,f.k Z⟩
      ·refine AD f aI ?_
       refine Aa f Z λa f=>AD f aI ?_
       refine Aa f Z λa f=>AD f aI ?_
       have⟨aJ,aK,aG⟩:=bind_some aG
       refine Bk f Z call55 (Wk.V m aA aK) λaL w aM m a f=>l_o f (AR (f.e Z) aI (f.e Z)) λa f=> ?_
       obtain rfl:=sj aG
       exact⟨_,aM,m,f.k Z⟩
     ·rintro a w ⟨aH,aN,m,f⟩
      refine Ab ?_
      rcases Af ap with⟨aO,ap⟩|⟨aO,ap⟩
      ·refine Al f Z aO ?_
       refine Ag ?_
       refine Ac f Z λa f=>Ab ?_
       refine Ar ?_
       have m:Mem W aH w H:=Mem.drop (H':=[ib ad 32 [aa]]) m
       obtain rfl:=sj ap
       obtain rfl:=aq _ rfl
       obtain rfl:=sj hd
       exact⟨[(.bool false)],f.g Z,f.d,_,[],(gt ag (gt ar (gt aE aN))),m,Z,Z⟩
      ·refine Aj f Z aO ?_
       refine An ?_
       refine Ao ?_
       refine Ai f Z Z As λa f=>Aa f Z λa f=>Ab ?_
       obtain rfl:=sj ap
       exact⟨_,Z,_,Z,_,(gt ar (gt aE aN)),f.k Z,m⟩
    ·refine Aj f Z au ?_
     refine AG Z ?_
     obtain rfl:=sj ap
     obtain rfl:=aq _ rfl
     exact⟨_,Z,_,ar,f.k Z,m⟩
   ·rintro a w ⟨_,rfl,ak,aP,f,m⟩
    have ac:=rd2 aP ac
    refine Ah (Ag ?_)
    refine BC underlying32 Z sizeOf30 f Z λa f=>A5 0 0 m B4 f Z Z Z Z λa f=>Bf underlying30 f Z Z ac λa f=>Aa f Z λa f=>Ab ?_
    have⟨aQ,aR,hd⟩:=bind_some hd
    refine AJ (λa w=>∃q_394':Unit,aQ= .inl q_394'∧∃(aS:GH),GLe ak aS∧Fr a 61 []∧Mem W aS w (H)) ?_ ?_
    ·refine Ak ?_
     refine AK (λaT a w=>∃aU:Int,aU=aT∧∃(aV:GH),GLe ak aV∧Fr a 61 [(1,(pb ad)),(38,aa),(39,(iv (ab.length:Int))),(40,(iv aU))]∧Mem W aV w (ib ad 32 [aa]::H)) aR ⟨_,Z,_,gr,f.k Z,m⟩ ?_
     clear aR f m
     rintro aT aW aX aY a w ⟨aU,rfl,aV,aZ,f,m⟩
     have ac:=rd2 aZ ac
     refine Ag ?_
     refine Ai f Z Z AV λa f=>Ab (Ah ?_)
     rcases Af aX with⟨a0,aX⟩|⟨a0,aX⟩
     ·refine Al f Z a0 ?_
      refine An ?_
      refine Ah (Ak (Ag ?_))
      refine Aa f Z λa f=> ?_
      have⟨a1,a2,aX⟩:=bind_some aX
      refine Cc T30 f Z Z Z ac a2 λa3 a4 a a5 a6 f=>Bl m CW f Z Z a5 λa f=>Ac f Z λa f=>Ac f Z λa f=>Ay ?_
      refine Aa f Z λa f=>Bf underlying28 f Z Z a6 λa f=>Aa f Z λa f=>Ab ?_
      have⟨a7,a8,aX⟩:=bind_some aX
      refine AJ (λa w=>∃q_560':Unit,a7= .inl q_560'∧∃(a9:GH),GLe aV a9∧Fr a 61 [(1,(pb ad)),(38,aa),(39,(iv (ab.length:Int))),(40,(iv aU))]∧Mem W a9 w (ib ad 32 [aa]::H)) ?_ ?_
      ·refine Ak ?_
       refine AK (λba a w=>∃bb:Int,bb=ba∧∃(bc:GH),GLe aV bc∧Fr a 61 [(1,(pb ad)),(6,(iv aU)),(38,aa),(39,(iv (ab.length:Int))),(40,(iv aU)),(45,a4),(46,(iv (a1.length:Int))),(47,(iv bb))]∧Mem W bc w (ib ad 32 [aa]::H)) a8 ⟨_,Z,_,gr,f.k Z,m⟩ ?_
       clear a8 f m
       rintro ba bd be bf a w ⟨bb,rfl,bc,bg,f,m⟩
       have ac:=rd2 bg ac
       have a6:=rd1 bg a6
       refine Ag ?_
       refine Ai f Z Z AV λa f=>Ab (Ah ?_)
       rcases Af be with⟨bh,be⟩|⟨bh,be⟩
       ·refine Al f Z bh ?_
        refine An ?_
        refine Ah (Ak (Ag ?_))
        have⟨bi,bj,be⟩:=bind_some be
        refine Cc T28 f Z Z Z a6 bj λbk bl a bm bn f=> ?_
        subst bn
        refine Bl m Pl2 f Z Z bm λa f=>Ac f Z λa f=>Ay ?_
        refine BC underlying32 Z sizeOf30 f Z λa f=>A5 0 0 m B4 f Z Z Z Z λa f=>Aa f Z λa f=> ?_
        have⟨bo,bp,be⟩:=bind_some be
        refine Cc T30 f Z Z Z ac bp λbq br a bs bt f=>Bl m CW f Z Z bs λa f=>Aa f Z λa f=> ?_
        have⟨bu,bv,be⟩:=bind_some be
        refine Bk f Z call55 (Wk.V m bt bv) λbw w bx m a f=>l_o f (Bg (f.e Z)) λa f=>Ab ?_
        rcases Af be with⟨bz,be⟩|⟨bz,be⟩
        ·refine Al f Z bz ?_
         refine Ag ?_
         refine Ac f Z λa f=>Ab ?_
         refine Ar ?_
         have m:Mem W bw w H:=Mem.drop (H':=[ib ad 32 [aa]]) m
         obtain rfl:=sj be
         obtain rfl:=bf _ rfl
         obtain rfl:=sj aX
         obtain rfl:=aY _ rfl
         obtain rfl:=sj hd
         exact⟨[(.bool false)],f.g Z,f.d,_,[],(gt ag (gt aP (gt aZ (gt bg bx)))),m,Z,Z⟩
        ·refine Aj f Z bz ?_
         refine An ?_
         refine Ao ?_
         refine Ai f Z Z As λa f=>Aa f Z λa f=>Ab ?_
         obtain rfl:=sj be
         exact⟨_,Z,_,Z,_,(gt bg bx),f.k Z,m⟩
       ·refine Aj f Z bh ?_
        refine AG Z ?_
        obtain rfl:=sj be
        obtain rfl:=bf _ rfl
        exact⟨_,Z,_,bg,f.k Z,m⟩
      ·rintro a w ⟨_,rfl,a9,bA,f,m⟩
       refine Ao ?_
       refine Ai f Z Z As λa f=>Aa f Z λa f=>Ab ?_
       obtain rfl:=sj aX
       exact⟨_,Z,_,Z,_,(gt aZ bA),f.k Z,m⟩
     ·refine Aj f Z a0 ?_
      refine AG Z ?_
      have m:Mem W aV w H:=Mem.drop (H':=[ib ad 32 [aa]]) m
      obtain rfl:=sj aX
      obtain rfl:=aY _ rfl
      exact⟨_,Z,_,aZ,f.weak trivial,m⟩
    ·rintro a w ⟨_,rfl,aS,bB,f,m⟩
     refine Ag ?_
     refine Ac f Z λa f=>Ab ?_
     refine Ar ?_
     obtain rfl:=sj hd
     exact⟨[(.bool true)],f.g Z,f.d,_,[],(gt ag (gt aP bB)),m,Z,Z⟩
theorem Wk.x0 {v0:Value}{x0:LI}(m:Mem W G w (H))(h0:R1 G v0 x0){y:Int}(hd:D.x0 x0=some y):
  Calls prog 56 #[v0] w (Res W G H (λ_ Ho v=>Ho=[]∧v=(.int .u32 y))):=by
 refine Au (args:=[v0]) (N:=18) [.tmp 2] func56 Z Z (lb Z) Z λa f=> ?_
 unfold D.x0 at hd
 refine Ag ?_
 refine Ac f Z λa f=>Ay ?_
 refine Ac f Z λa f=>Ab (Ah (Ag ?_))
 refine Aa f Z λa f=>Bf underlying28 f Z Z h0 λa f=>Aa f Z λa f=>Ab ?_
 have⟨aa,ab,hd⟩:=bind_some hd
 refine AJ (λa w=>∃ac:Int,ac=aa∧∃(ad:GH),GLe G ad∧Fr a 18 [(3,(.int .u32 ac))]∧Mem W ad w (H)) ?_ ?_
 ·refine Ak ?_
  refine AK (λae a w=>∃af:Int,∃ag:Int,(af,ag)=ae∧∃(ah:GH),GLe G ah∧Fr a 18 [(3,(.int .u32 af)),(6,v0),(7,(iv (x0.length:Int))),(8,(iv ag))]∧Mem W ah w (H)) ab ⟨_,_,Z,_,gr,f.k Z,m⟩ ?_
  clear ab f m
  rintro ae ai aj ak a w ⟨af,ag,rfl,ah,al,f,m⟩
  have h0:=rd1 al h0
  refine Ag ?_
  refine Ai f Z Z AV λa f=>Ab (Ah ?_)
  rcases Af aj with⟨am,aj⟩|⟨am,aj⟩
  ·refine Al f Z am ?_
   refine An ?_
   refine Ah (Ak (Ag ?_))
   have⟨an,ao,aj⟩:=bind_some aj
   refine Cc T28 f Z Z Z h0 ao λap aq a ar au f=> ?_
   subst au
   refine Bl m Pl2 f Z Z ar λa f=>Ac f Z λa f=>Ab (Ao ?_)
   refine Aa f Z λa f=>Aa f Z λa f=> ?_
   have⟨av,aw,aj⟩:=bind_some aj
   refine Bk f Z call61 (Wk.b m aw) λax w ay m a f=>Ai f Z Z b_or λa f=>Ac f Z λa f=>Ab (Ao ?_)
   refine Ai f Z Z As λa f=>Aa f Z λa f=>Ab ?_
   obtain rfl:=sj aj
   exact⟨_,Z,_,_,Z,_,(gt al ay),f.k Z,m⟩
  ·refine Aj f Z am ?_
   refine AG Z ?_
   obtain rfl:=sj aj
   obtain rfl:=ak _ rfl
   exact⟨_,Z,_,al,f.k Z,m⟩
 ·rintro a w ⟨ac,rfl,ad,az,f,m⟩
  refine Ag ?_
  refine Aa f Z λa f=>Ac f Z λa f=>Ab ?_
  refine Ar ?_
  obtain rfl:=sj hd
  exact⟨[(.int .u32 ac)],f.g Z,f.d,_,[],az,m,Z,Z⟩
theorem Wk.A {aa:Value}{ab:LL}(m:Mem W G w (H))(ac:R2 G aa ab){y:(LI)}(hd:D.A ab=some y):
  Calls prog 28 #[(.agg #[aa])] w (Res W G H (λG' Ho v=>∃r0:Value,∃i0:Itm,Ho=[i0]∧r0=v∧Ow (RI .u32) 65 G' i0 r0 y)):=by
 refine Au (args:=[(.agg #[aa])]) (N:=21) [.tmp 2] func28 Z Z (lb Z) Z λa f=> ?_
 unfold D.A at hd
 refine Ag ?_
 refine BN (cs:=[aa]) m f Z Z Z λad w a m f=>Ac f Z λa f=>Ay ?_
 refine BQ (R:=(RI .u32)) (xs:=([]:LI)) (RI.one _) m T58 f Z Z Z (by decide) (All2.nil _) λae af w a m ag f=>Ac f Z λa f=>Ab (Ah (Ag ?_))
 refine BC underlying32 Z sizeOf30 f Z λa f=>A5 1 0 m B4 f Z Z Z Z λa f=>Bf underlying30 f Z Z ac λa f=>Aa f Z λa f=>Ab ?_
 have⟨ah,ai,hd⟩:=bind_some hd
 refine AJ (λa w=>∃aj:LI,aj=ah∧∃(ak:GH) (al:Value) (am:Itm),GLe G ak∧Fr a 21 [(3,al)]∧Mem W ak w (am::H)∧Ow (RI .u32) 65 ak am al aj) ?_ ?_
 ·refine Ak ?_
  have m:=m.eraseAt 1
  refine AK (λan a w=>∃ao:LI,∃ap:Int,(ao,ap)=an∧∃(aq:GH) (ar:Value) (au:Itm),GLe G aq∧Fr a 21 [(3,ar),(8,aa),(9,(iv (ab.length:Int))),(10,(iv ap))]∧Mem W aq w (au::H)∧Ow (RI .u32) 65 aq au ar ao) ai ⟨_,_,Z,_,af,ae,gr,f.k Z,m,ag⟩ ?_
  clear ai f m
  rintro an av aw ax a w ⟨ao,ap,rfl,aq,ar,au,ay,f,m,az⟩
  have ac:=rd2 ay ac
  refine Ag ?_
  refine Ai f Z Z AV λa f=>Ab (Ah ?_)
  rcases Af aw with⟨aA,aw⟩|⟨aA,aw⟩
  ·refine Al f Z aA ?_
   refine An ?_
   refine Ah (Ak (Ag ?_))
   have⟨aB,aC,aw⟩:=bind_some aw
   refine Cc T30 f Z Z Z ac aC λaD aE a aF aG f=>Bl m CW f Z Z aF λa f=>Ac f Z λa f=>Ab (Ao ?_)
   refine Aa f Z λa f=>Aa f Z λa f=> ?_
   have⟨aH,aI,aw⟩:=bind_some aw
   refine Bk f Z call56 (Wk.x0 m aG aI) λaJ w aK m a f=> ?_
   have az:=od1 aK az
   refine BQ (R:=(RI .u32)) (xs:=([aH]:LI)) (RI.one _) m T58 f Z Z Z (by decide) (All2.cons Z (All2.nil _)) λaL aM w a m aN f=> ?_
   have⟨aO,aP,aw⟩:=bind_some aw
   refine BJ (RI.one _) 1 m az Z T58 Z (by decide) f Z Z Z (Ow.src (j:=0) aN m Z) aP λaQ aR w a m aS f=>Ac f Z λa f=>Ab (Ao ?_)
   refine Ai f Z Z As λa f=>Aa f Z λa f=>Ab ?_
   have m:=m.fr 1
   have m:=m.eraseAt 1
   obtain rfl:=sj aw
   exact⟨_,Z,_,_,Z,_,aR,aQ,(gt ay aK),f.k Z,m,aS⟩
  ·refine Aj f Z aA ?_
   refine AG Z ?_
   obtain rfl:=sj aw
   obtain rfl:=ax _ rfl
   exact⟨_,Z,_,ar,au,ay,f.k Z,m,az⟩
 ·rintro a w ⟨aj,rfl,ak,al,am,aT,f,m,aU⟩
  refine Ag ?_
  refine Aa f Z λa f=>Ac f Z λa f=>Ab ?_
  refine Ar ?_
  obtain rfl:=sj hd
  exact⟨[al],f.g Z,f.d,_,[am],aT,m,_,_,Z,Z,aU⟩
theorem Wk.c {aa ab ac ad:Int}(m:Mem W G w (H)){y:Int}(hd:D.c aa ab ac ad=some y):
  Calls prog 114 #[(.agg #[(iv aa),(iv ab)]),(.agg #[(iv ac),(iv ad)])] w (Res W G H (λ_ Ho v=>Ho=[]∧v=(iv y))):=by
 refine Au (args:=[(.agg #[(iv aa),(iv ab)]),(.agg #[(iv ac),(iv ad)])]) (N:=20) [.tmp 4] func114 Z Z (lb Z) Z λa f=> ?_
 unfold D.c at hd
 refine Ag ?_
 refine BN (cs:=[(iv aa),(iv ab)]) m f Z Z Z λae w a m f=>BN (cs:=[(iv ac),(iv ad)]) m f Z Z Z λaf w a m f=>Ac f Z λa f=>Ab (Ah (Ag ?_))
 refine BC underlying90 Z sizeOf3 f Z λa f=>A5 1 0 m Pl3 f Z Z Z Z λa f=>BC underlying90 Z sizeOf3 f Z λa f=>A5 0 0 m Pl3 f Z Z Z Z λa f=>Ai f Z Z C5 λa f=>Ab ?_
 rcases Af hd with⟨ag,hd⟩|⟨ag,hd⟩
 ·refine Al f Z ag ?_
  refine Ag ?_
  refine BC underlying90 Z sizeOf3 f Z λa f=>A5 1 0 m Pl3 f Z Z Z Z λa f=>BC underlying90 Z sizeOf3 f Z λa f=>A5 0 0 m Pl3 f Z Z Z Z λa f=>Ai f Z Z AF λa f=>Ac f Z λa f=>Ab ?_
  refine Ar ?_
  have m:Mem W G w H:=Mem.drop (H':=[ib af 90 [(iv ac),(iv ad)],ib ae 90 [(iv aa),(iv ab)]]) m
  obtain rfl:=sj hd
  exact⟨[(iv (i64.wrap (aa-ac)))],f.g Z,f.d,_,[],gr,m,Z,Z⟩
 ·refine Aj f Z ag ?_
  refine An ?_
  refine Ag ?_
  refine BC underlying90 Z sizeOf3 f Z λa f=>A5 1 1 m Pl3 f Z Z Z Z λa f=>BC underlying90 Z sizeOf3 f Z λa f=>A5 0 1 m Pl3 f Z Z Z Z λa f=>Ai f Z Z AF λa f=>Ac f Z λa f=>Ab ?_
  refine Ar ?_
  have m:Mem W G w H:=Mem.drop (H':=[ib af 90 [(iv ac),(iv ad)],ib ae 90 [(iv aa),(iv ab)]]) m
  obtain rfl:=sj hd
  exact⟨[(iv (i64.wrap (ab-ad)))],f.g Z,f.d,_,[],gr,m,Z,Z⟩
theorem Wk.X0 {v0:Value}{it0:Itm}{x0:(List (Int×Int))}{x1 x2:Int}(m:Mem W G w (it0::H))(o0:OwR P2 90 G it0 v0 x0){y:((List (Int×Int)))}(hd:D.X0 x0 x1 x2=some y):
  Calls prog 142 #[v0,(iv x1),(iv x2),(.func (.func 114) #[] #[])] w (Res W G H (λG' Ho _=>∃i0:Itm,Ho=[i0]∧OwR P2 90 G' i0 v0 y)):=by
 refine Au (args:=[v0,(iv x1),(iv x2),(.func (.func 114) #[] #[])]) (N:=53) [] func142 Z Z (lb Z) Z λa f=> ?_
 unfold D.X0 at hd
 refine Ag ?_
 refine Aa f Z λa f=>Ai f Z Z As λa f=>Ac f Z λa f=>Ab ?_
 have⟨aa,ab,hd⟩:=bind_some hd
 refine AJ (λa w=>∃ac:List (Int×Int),ac=aa∧∃(ad:GH) (ae:Itm),GLe G ad∧Fr a 53 []∧Mem W ad w (ae::H)∧OwR P2 90 ad ae v0 ac) ?_ ?_
 ·refine Ak ?_
  refine AK (λaf a w=>∃ag:List (Int×Int),∃ah:Int,(ag,ah)=af∧∃(ai:GH) (aj:Itm),GLe G ai∧Fr a 53 [(0,v0),(1,(iv x1)),(2,(iv x2)),(3,(.func (.func 114) #[] #[])),(8,(iv ah))]∧Mem W ai w (aj::H)∧OwR P2 90 ai aj v0 ag) ab ⟨_,_,Z,_,it0,gr,f.k Z,m,o0⟩ ?_
  clear ab f m
  rintro af ak al am a w ⟨ag,ah,rfl,ai,aj,an,f,m,ao⟩
  refine Ah (Ag ?_)
  refine Aa f Z λa f=>Aa f Z λa f=>Ai f Z Z AV λa f=>Ab ?_
  rcases Af al with⟨ap,al⟩|⟨ap,al⟩
  ·refine Al f Z ap ?_
   refine An ?_
   refine Ah (Ak (Ag ?_))
   refine Aa f Z λa f=>Ac f Z λa f=>Ab ?_
   have⟨aq,ar,al⟩:=bind_some al
   refine AJ (λa w=>∃au:List (Int×Int),au=aq∧∃(av:GH) (aw:Itm),GLe ai av∧Fr a 53 [(0,v0),(1,(iv x1)),(2,(iv x2)),(3,(.func (.func 114) #[] #[])),(8,(iv ah))]∧Mem W av w (aw::H)∧OwR P2 90 av aw v0 au) ?_ ?_
   ·refine Ak ?_
    refine AK (λax a w=>∃ay:List (Int×Int),∃az:Int,(ay,az)=ax∧∃(aA:GH) (aB:Itm),GLe ai aA∧Fr a 53 [(0,v0),(1,(iv x1)),(2,(iv x2)),(3,(.func (.func 114) #[] #[])),(8,(iv ah)),(9,(iv az))]∧Mem W aA w (aB::H)∧OwR P2 90 aA aB v0 ay) ar ⟨_,_,Z,_,aj,gr,f.k Z,m,ao⟩ ?_
    clear ar f m
    rintro ax aC aD aE a w ⟨ay,az,rfl,aA,aB,aF,f,m,aG⟩
    refine Ah (Ah ?_)
    refine A4 17 Az (by kernel_rfl) m ?_
    refine Ae 0 17 Z f Z λa f=>Ae 1 17 Z f Z λa f=>q_p 2 17 Z f (λ_=>AB (f.e Z) (f.e Z) Cs) λa f=>Ae 3 17 Z f Z λa f=> ?_
    have⟨aH,aI,aD⟩:=bind_some aD
    refine BR (fuel':=0) (listed':= #[true,true,true,true,true,true,true,true,true,true,true,true,true,true,true,true,true]) (λa=>Fr a 53 [(0,v0),(1,(iv x1)),(2,(iv x2)),(3,(.func (.func 114) #[] #[])),(8,(iv ah)),(9,(iv az)),(18,(iv az)),(19,(iv x1)),(20,(.bool (decide (x1<az)))),(21,(.bool (decide (x1<az)))),(34,(.bool aH))]) ?_ ?_
    ·intro a f
     refine AN λaJ w aK m=> ?_
     have aG:=OwR.mono trivial aK aG
     refine Ab ?_
     rcases Af aD with⟨aL,aD⟩|⟨aL,aD⟩
     ·refine Al f Z aL ?_
      refine An ?_
      refine Ah (Ak ?_)
      refine Bj Az m ?_
      refine p_p 2 Z f (λ_=>AU (f.e Z)) λa f=>p_p 3 Z f (λ_=>AU (f.e Z)) λa f=>p_p 4 Z f (λ_=>AB (f.e Z) (f.e Z) AF) λa f=>Bi 28015 12 (by kernel_rfl) Z ?_
      refine Ae 0 28015 Z f Z λa f=>Ae 1 28015 Z f Z λa f=>Ae 5 28015 Z f Z λa f=>Ae 6 28015 Z f Z λa f=>q_p 7 28015 Z f (λ_=>AB (f.e Z) (f.e Z) AF) λa f=> ?_
      have⟨aM,aN,aD⟩:=bind_some aD
      refine Aw (i:=8) (listed':= #[true,true,true,true,true,true,true,true,true,false,false,false,false,false,false,false,false,false]) (C:=P2) 28015 0 m aG Z AX aN Z (by kernel_rfl) Z f Z Z Z Z λaO a aP f=>Ax (i:=9) (listed':= #[true,true,true,true,true,true,true,true,true,true,false,false,false,false,false,false,false,false]) (C:=P2) [(iv aM.1),(iv aM.2)] 28015 0 aG Z Bh aP aN Z Z (by kernel_rfl) Z f Z Z Z λa f=>Ae 10 28015 Z f Z λa f=>Ae 11 28015 Z f Z λa f=> ?_
      have⟨aQ,aR,aD⟩:=bind_some aD
      refine Aw (i:=12) (listed':= #[true,true,true,true,true,true,true,true,true,true,true,true,true,false,false,false,false,false]) (C:=P2) 28015 0 m aG Z AX aR Z (by kernel_rfl) Z f Z Z Z Z λaS a aT f=>Ax (i:=13) (listed':= #[true,true,true,true,true,true,true,true,true,true,true,true,true,true,false,false,false,false]) (C:=P2) [(iv aQ.1),(iv aQ.2)] 28015 0 aG Z Bh aT aR Z Z (by kernel_rfl) Z f Z Z Z λa f=> ?_
      have⟨aU,aV,aD⟩:=bind_some aD
      refine Aw (i:=14) (listed':= #[true,true,true,true,true,true,true,true,true,true,true,true,true,true,true,false,false,false]) (C:=P2) 28015 0 m aG Z AX aV Z (by kernel_rfl) Z f Z Z Z Z λaW a aX f=>AN λaY w aZ m=> ?_
      have aG:=OwR.mono trivial aZ aG
      refine AZ (E:=P2) (y':=(aM.1,aM.2)) [(iv aM.1),(iv aM.2)] 0 m aG Z sizeOf90 f Z Z aX aV Z (Ap Z (Ap Z AH)) (lb Z) Z λa0 w m a1=> ?_
      have⟨a2,a3,aD⟩:=bind_some aD
      refine Bz 0 m a1 Z AX f Z Z Z a3 λa4 a a5 f=>AZ (E:=P2) (y':=(aQ.1,aQ.2)) [(iv aQ.1),(iv aQ.2)] 0 m a1 Z sizeOf90 f Z Z a5 a3 Z (Ap Z (Ap Z AH)) (lb Z) Z λa6 w m a7=>Ab (Ao ?_)
      refine Aa f Z λa f=>Ai f Z Z AF λa f=>Ac f Z λa f=>Ab ?_
      obtain rfl:=sj aD
      exact⟨_,Z,_,_,Z,_,a6,(gt aF (gt aK aZ)),f.k Z,m,a7⟩
     ·refine Aj f Z aL ?_
      refine AG Z ?_
      obtain rfl:=sj aD
      obtain rfl:=aE _ rfl
      exact⟨_,Z,_,aB,(gt aF aK),f.k Z,m,aG⟩
    ·intro a8
     rcases Af aI with⟨a9,aI⟩|⟨a9,aI⟩
     ·refine Ae (hw:=wo f a9) 4 17 Z f Z λa f=> ?_
      refine Ae (hw:=wo f a9) 5 17 Z f Z λa f=>Ae (hw:=wo f a9) 6 17 Z f Z λa f=> ?_
      have⟨ba,bb,aI⟩:=bind_some aI
      refine Aw (i:=7) (listed':= #[true,true,true,true,true,true,true,true,false,false,false,false,false,false,false,false,false]) (C:=P2) 17 0 m aG Z AX bb Z (by kernel_rfl) Z f (AC f Z Z Z a9) Z Z Z λbc a bd f=>Ax (i:=8) (listed':= #[true,true,true,true,true,true,true,true,true,false,false,false,false,false,false,false,false]) (C:=P2) [(iv ba.1),(iv ba.2)] 17 0 aG Z Bh bd bb Z Z (by kernel_rfl) Z f (AC f Z Z Z a9) Z Z λa f=>Ae (hw:=wo f a9) 9 17 Z f Z λa f=>Ae (hw:=wo f a9) 10 17 Z f Z λa f=>q_p (hw:=wo f a9) 11 17 Z f (λ_=>AB (f.e Z) (f.e Z) AF) λa f=> ?_
      have⟨be,bf,aI⟩:=bind_some aI
      refine Aw (i:=12) (listed':= #[true,true,true,true,true,true,true,true,true,true,true,true,true,false,false,false,false]) (C:=P2) 17 0 m aG Z AX bf Z (by kernel_rfl) Z f (AC f Z Z Z a9) Z Z Z λbg a bh f=>Ax (i:=13) (listed':= #[true,true,true,true,true,true,true,true,true,true,true,true,true,true,false,false,false]) (C:=P2) [(iv be.1),(iv be.2)] 17 0 aG Z Bh bh bf Z Z (by kernel_rfl) Z f (AC f Z Z Z a9) Z Z λa f=> ?_
      have⟨bi,bj,aI⟩:=bind_some aI
      refine B8 (i:=14) 17 Z (by kernel_rfl) Z f (AC f Z Z Z a9) Z Z Z call114 (λ_ _ w bk m=>Wk.c m bj) λa f=>q_p (hw:=wo f a9) 15 17 Z f (λ_=>AB (f.e Z) (f.e Z) AV) λa f=>q_p 16 17 Z f (λ_=>AS (f.e Z) a9 (f.e Z)) λa f=> ?_
      obtain rfl:=sj aI
      exact a8 _ (f.k Z)
     ·refine Am 4 17 Z f a9 λa f=> ?_
      refine Am 5 17 Z f a9 λa f=>Am 6 17 Z f a9 λa f=>Am 7 17 Z f a9 λa f=>Am 8 17 Z f a9 λa f=>Am 9 17 Z f a9 λa f=>Am 10 17 Z f a9 λa f=>Am 11 17 Z f a9 λa f=>Am 12 17 Z f a9 λa f=>Am 13 17 Z f a9 λa f=>Am 14 17 Z f a9 λa f=>Am 15 17 Z f a9 λa f=>q_p 16 17 Z f (λ_=>AR (f.e Z) a9 (f.e Z)) λa f=> ?_
      obtain rfl:=sj aI
      exact a8 _ (f.k Z)
   ·rintro a w ⟨au,rfl,av,aw,bl,f,m,bm⟩
    refine Ao ?_
    refine Aa f Z λa f=>Ai f Z Z As λa f=>Ac f Z λa f=>Ab ?_
    obtain rfl:=sj al
    exact⟨_,Z,_,_,Z,_,aw,(gt an bl),f.k Z,m,bm⟩
  ·refine Aj f Z ap ?_
   refine AG Z ?_
   obtain rfl:=sj al
   obtain rfl:=am _ rfl
   exact⟨_,Z,_,aj,an,f.weak trivial,m,ao⟩
 ·rintro a w ⟨ac,rfl,ad,ae,bn,f,m,bo⟩
  obtain rfl:=sj hd
  exact⟨[],trivial,f.d,_,[ae],bn,m,_,Z,bo⟩
theorem Wk.B0 {v0:Value}{it0:Itm}{x0:(List (Int×Int))}{x1 x2 x3:Int}(m:Mem W G w (it0::H))(o0:OwR P2 90 G it0 v0 x0){y:((List (Int×Int)))}(hd:D.B0 x0 x1 x2 x3=some y):
  Calls prog 158 #[v0,(iv x1),(iv x2),(iv x3),(.func (.func 114) #[] #[])] w (Res W G H (λG' Ho _=>∃i0:Itm,Ho=[i0]∧OwR P2 90 G' i0 v0 y)):=by
 refine Au (args:=[v0,(iv x1),(iv x2),(iv x3),(.func (.func 114) #[] #[])]) (N:=82) [] func158 Z Z (lb Z) Z λa f=> ?_
 unfold D.B0 at hd
 refine Ag ?_
 refine Aa f Z λa f=>Ac f Z λa f=>Ab ?_
 have⟨aa,ab,hd⟩:=bind_some hd
 refine AJ (λa w=>∃q_150':(List (Int×Int)),aa= .inl q_150'∧∃ac:List (Int×Int),ac=q_150'∧∃(ad:GH) (ae:Itm),GLe G ad∧Fr a 82 []∧Mem W ad w (ae::H)∧OwR P2 90 ad ae v0 ac) ?_ ?_
 ·refine Ak ?_
  refine AK (λaf a w=>∃ag:List (Int×Int),∃ah:Int,(ag,ah)=af∧∃(ai:GH) (aj:Itm),GLe G ai∧Fr a 82 [(0,v0),(2,(iv x2)),(3,(iv x3)),(4,(.func (.func 114) #[] #[])),(10,(iv ah))]∧Mem W ai w (aj::H)∧OwR P2 90 ai aj v0 ag) ab ⟨_,_,Z,_,it0,gr,f.k Z,m,o0⟩ ?_
  clear ab f m
  rintro af ak al am a w ⟨ag,ah,rfl,ai,aj,an,f,m,ao⟩
  refine Ak (Ag ?_)
  refine Aa f Z λa f=>Ai f Z Z Ct λa f=>Ai f Z Z As λa f=>Ac f Z λa f=>Ab (Ah (Ag ?_))
  refine Aa f Z λa f=>Aa f Z λa f=>Ai f Z Z BH λa f=>Ab ?_
  rcases Af al with⟨ap,al⟩|⟨ap,al⟩
  ·refine Al f Z ap ?_
   refine AG Z ?_
   obtain rfl:=sj al
   obtain rfl:=am _ rfl
   exact⟨_,Z,_,Z,_,aj,an,f.weak trivial,m,ao⟩
  ·refine Aj f Z ap ?_
   refine An ?_
   refine Ah (Ah ?_)
   refine A4 22 Az (by kernel_rfl) m ?_
   refine Ae 0 22 Z f Z λa f=>q_p 1 22 Z f (λ_=>AB (f.e Z) (f.e Z) As) λa f=>Ae 2 22 Z f Z λa f=>q_p 3 22 Z f (λ_=>AB (f.e Z) (f.e Z) AV) λa f=>Ae 4 22 Z f Z λa f=> ?_
   have⟨aq,ar,al⟩:=bind_some al
   refine BR (fuel':=0) (listed':= #[true,true,true,true,true,true,true,true,true,true,true,true,true,true,true,true,true,true,true,true,true,true]) (λa=>Fr a 82 [(0,v0),(2,(iv x2)),(3,(iv x3)),(4,(.func (.func 114) #[] #[])),(10,(iv ah)),(11,(iv (i64.wrap ((i64.wrap (2*ah))+1)))),(18,(.bool (decide (x2≤(i64.wrap ((i64.wrap (2*ah))+1)))))),(19,(iv (i64.wrap ((i64.wrap (2*ah))+1)))),(20,(iv (i64.wrap ((i64.wrap ((i64.wrap (2*ah))+1))+1)))),(21,(iv x2)),(22,(.bool (decide ((i64.wrap ((i64.wrap ((i64.wrap (2*ah))+1))+1))<x2)))),(23,(.bool (decide ((i64.wrap ((i64.wrap ((i64.wrap (2*ah))+1))+1))<x2)))),(40,(.bool aq))]) ?_ ?_
   ·intro a f
    refine AN λau w av m=> ?_
    have ao:=OwR.mono trivial av ao
    refine Ab ?_
    have⟨aw,ax,al⟩:=bind_some al
    refine AJ (λa w=>∃ay:Int,ay=aw∧∃(az:GH),GLe au az∧Fr a 82 [(0,v0),(2,(iv x2)),(3,(iv x3)),(4,(.func (.func 114) #[] #[])),(10,(iv ah)),(11,(iv ay))]∧Mem W az w (aj::H)) ?_ ?_
    ·rcases Af ax with⟨aA,ax⟩|⟨aA,ax⟩
     ·refine Al f Z aA ?_
      refine Ao ?_
      refine Aa f Z λa f=>Ai f Z Z As λa f=>Ac f Z λa f=>Ab ?_
      obtain rfl:=sj ax
      exact⟨_,Z,_,gr,f.k Z,m⟩
     ·refine Aj f Z aA ?_
      refine An ?_
      obtain rfl:=sj ax
      exact⟨_,Z,_,gr,f.k Z,m⟩
    ·rintro a w ⟨ay,rfl,az,aB,f,m⟩
     have ao:=OwR.mono trivial aB ao
     refine Ah (Ah ?_)
     refine A4 16 Az (by kernel_rfl) m ?_
     refine Ae 0 16 Z f Z λa f=>Ae 1 16 Z f Z λa f=>Ae 2 16 Z f Z λa f=>Ae 3 16 Z f Z λa f=>q_p 4 16 Z f (λ_=>AB (f.e Z) (f.e Z) As) λa f=> ?_
     have⟨aC,aD,al⟩:=bind_some al
     refine Aw (i:=5) (listed':= #[true,true,true,true,true,true,false,false,false,false,false,false,false,false,false,false]) (C:=P2) 16 0 m ao Z AX aD Z (by kernel_rfl) Z f Z Z Z Z λaE a aF f=>Ax (i:=6) (listed':= #[true,true,true,true,true,true,true,false,false,false,false,false,false,false,false,false]) (C:=P2) [(iv aC.1),(iv aC.2)] 16 0 ao Z Bh aF aD Z Z (by kernel_rfl) Z f Z Z Z λa f=>Ae 7 16 Z f Z λa f=>Ae 8 16 Z f Z λa f=>Ae 9 16 Z f Z λa f=>q_p 10 16 Z f (λ_=>AB (f.e Z) (f.e Z) As) λa f=> ?_
     have⟨aG,aH,al⟩:=bind_some al
     refine Aw (i:=11) (listed':= #[true,true,true,true,true,true,true,true,true,true,true,true,false,false,false,false]) (C:=P2) 16 0 m ao Z AX aH Z (by kernel_rfl) Z f Z Z Z Z λaI a aJ f=>Ax (i:=12) (listed':= #[true,true,true,true,true,true,true,true,true,true,true,true,true,false,false,false]) (C:=P2) [(iv aG.1),(iv aG.2)] 16 0 ao Z Bh aJ aH Z Z (by kernel_rfl) Z f Z Z Z λa f=> ?_
     have⟨aK,aL,al⟩:=bind_some al
     refine B8 (i:=13) 16 Z (by kernel_rfl) Z f Z Z Z Z call114 (λ_ _ w aM m=>Wk.c m aL) λa f=>q_p 14 16 Z f (λ_=>AB (f.e Z) (f.e Z) AV) λa f=>q_p 15 16 Z f (λ_=>Bg (f.e Z)) λa f=>AN λaN w aO m=> ?_
     have ao:=OwR.mono trivial aO ao
     refine Ab ?_
     rcases Af al with⟨aP,al⟩|⟨aP,al⟩
     ·refine Al f Z aP ?_
      refine Ar ?_
      obtain rfl:=sj al
      obtain rfl:=am _ rfl
      obtain rfl:=sj hd
      exact⟨[],trivial,f.d,_,[aj],(gt an (gt av (gt aB aO))),m,_,Z,ao⟩
     ·refine Aj f Z aP ?_
      refine An ?_
      refine Ah ?_
      refine Bj Az m ?_
      refine p_p 4 Z f (λ_=>AU (f.e Z)) λa f=>p_p 5 Z f (λ_=>AU (f.e Z)) λa f=>p_p 6 Z f (λ_=>AU (f.e Z)) λa f=>p_p 7 Z f (λ_=>AB (f.e Z) (f.e Z) As) λa f=>Bi 240021 17 (by kernel_rfl) Z ?_
      refine Ae 0 240021 Z f Z λa f=>Ae 1 240021 Z f Z λa f=>Ae 2 240021 Z f Z λa f=>q_p 3 240021 Z f (λ_=>AB (f.e Z) (f.e Z) As) λa f=>Ae 8 240021 Z f Z λa f=>Ae 9 240021 Z f Z λa f=>Ae 10 240021 Z f Z λa f=>q_p 11 240021 Z f (λ_=>AB (f.e Z) (f.e Z) As) λa f=> ?_
      have⟨aQ,aR,al⟩:=bind_some al
      refine Aw (i:=12) (listed':= #[true,true,true,true,true,true,true,true,true,true,true,true,true,false,false,false,false,false,false,false,false,false,false,false]) (C:=P2) 240021 0 m ao Z AX aR Z (by kernel_rfl) Z f Z Z Z Z λaS a aT f=>Ax (i:=13) (listed':= #[true,true,true,true,true,true,true,true,true,true,true,true,true,true,false,false,false,false,false,false,false,false,false,false]) (C:=P2) [(iv aQ.1),(iv aQ.2)] 240021 0 ao Z Bh aT aR Z Z (by kernel_rfl) Z f Z Z Z λa f=>Ae 14 240021 Z f Z λa f=>Ae 15 240021 Z f Z λa f=>Ae 16 240021 Z f Z λa f=>q_p 17 240021 Z f (λ_=>AB (f.e Z) (f.e Z) As) λa f=> ?_
      have⟨aU,aV,al⟩:=bind_some al
      refine Aw (i:=18) (listed':= #[true,true,true,true,true,true,true,true,true,true,true,true,true,true,true,true,true,true,true,false,false,false,false,false]) (C:=P2) 240021 0 m ao Z AX aV Z (by kernel_rfl) Z f Z Z Z Z λaW a aX f=>Ax (i:=19) (listed':= #[true,true,true,true,true,true,true,true,true,true,true,true,true,true,true,true,true,true,true,true,false,false,false,false]) (C:=P2) [(iv aU.1),(iv aU.2)] 240021 0 ao Z Bh aX aV Z Z (by kernel_rfl) Z f Z Z Z λa f=> ?_
      have⟨aY,aZ,al⟩:=bind_some al
      refine Aw (i:=20) (listed':= #[true,true,true,true,true,true,true,true,true,true,true,true,true,true,true,true,true,true,true,true,true,false,false,false]) (C:=P2) 240021 0 m ao Z AX aZ Z (by kernel_rfl) Z f Z Z Z Z λa0 a a1 f=>AN λa2 w a3 m=> ?_
      have ao:=OwR.mono trivial a3 ao
      refine AZ (E:=P2) (y':=(aQ.1,aQ.2)) [(iv aQ.1),(iv aQ.2)] 0 m ao Z sizeOf90 f Z Z a1 aZ Z (Ap Z (Ap Z AH)) (lb Z) Z λa4 w m a5=> ?_
      have⟨a6,a7,al⟩:=bind_some al
      refine Bz 0 m a5 Z AX f Z Z Z a7 λa8 a a9 f=>AZ (E:=P2) (y':=(aU.1,aU.2)) [(iv aU.1),(iv aU.2)] 0 m a5 Z sizeOf90 f Z Z a9 a7 Z (Ap Z (Ap Z AH)) (lb Z) Z λba w m bb=>Ab (Ao ?_)
      refine Aa f Z λa f=>Ac f Z λa f=>Ab ?_
      obtain rfl:=sj al
      exact⟨_,Z,_,_,Z,_,ba,(gt an (gt av (gt aB (gt aO a3)))),f.k Z,m,bb⟩
   ·intro bc
    rcases Af ar with⟨bd,ar⟩|⟨bd,ar⟩
    ·refine Ae (hw:=wo f bd) 5 22 Z f Z λa f=> ?_
     refine Ae (hw:=wo f bd) 6 22 Z f Z λa f=>Ae (hw:=wo f bd) 7 22 Z f Z λa f=>Ae (hw:=wo f bd) 8 22 Z f Z λa f=>q_p (hw:=wo f bd) 9 22 Z f (λ_=>AB (f.e Z) (f.e Z) As) λa f=> ?_
     have⟨be,bf,ar⟩:=bind_some ar
     refine Aw (i:=10) (listed':= #[true,true,true,true,true,true,true,true,true,true,true,false,false,false,false,false,false,false,false,false,false,false]) (C:=P2) 22 0 m ao Z AX bf Z (by kernel_rfl) Z f (AC f Z Z Z bd) Z Z Z λbg a bh f=>Ax (i:=11) (listed':= #[true,true,true,true,true,true,true,true,true,true,true,true,false,false,false,false,false,false,false,false,false,false]) (C:=P2) [(iv be.1),(iv be.2)] 22 0 ao Z Bh bh bf Z Z (by kernel_rfl) Z f (AC f Z Z Z bd) Z Z λa f=>Ae (hw:=wo f bd) 12 22 Z f Z λa f=>Ae (hw:=wo f bd) 13 22 Z f Z λa f=>Ae (hw:=wo f bd) 14 22 Z f Z λa f=>q_p (hw:=wo f bd) 15 22 Z f (λ_=>AB (f.e Z) (f.e Z) As) λa f=>q_p (hw:=wo f bd) 16 22 Z f (λ_=>AB (f.e Z) (f.e Z) As) λa f=> ?_
     have⟨bi,bj,ar⟩:=bind_some ar
     refine Aw (i:=17) (listed':= #[true,true,true,true,true,true,true,true,true,true,true,true,true,true,true,true,true,true,false,false,false,false]) (C:=P2) 22 0 m ao Z AX bj Z (by kernel_rfl) Z f (AC f Z Z Z bd) Z Z Z λbk a bl f=>Ax (i:=18) (listed':= #[true,true,true,true,true,true,true,true,true,true,true,true,true,true,true,true,true,true,true,false,false,false]) (C:=P2) [(iv bi.1),(iv bi.2)] 22 0 ao Z Bh bl bj Z Z (by kernel_rfl) Z f (AC f Z Z Z bd) Z Z λa f=> ?_
     have⟨bm,bn,ar⟩:=bind_some ar
     refine B8 (i:=19) 22 Z (by kernel_rfl) Z f (AC f Z Z Z bd) Z Z Z call114 (λ_ _ w bo m=>Wk.c m bn) λa f=>q_p (hw:=wo f bd) 20 22 Z f (λ_=>AB (f.e Z) (f.e Z) AV) λa f=>q_p 21 22 Z f (λ_=>AS (f.e Z) bd (f.e Z)) λa f=> ?_
     obtain rfl:=sj ar
     exact bc _ (f.k Z)
    ·refine Am 5 22 Z f bd λa f=> ?_
     refine Am 6 22 Z f bd λa f=>Am 7 22 Z f bd λa f=>Am 8 22 Z f bd λa f=>Am 9 22 Z f bd λa f=>Am 10 22 Z f bd λa f=>Am 11 22 Z f bd λa f=>Am 12 22 Z f bd λa f=>Am 13 22 Z f bd λa f=>Am 14 22 Z f bd λa f=>Am 15 22 Z f bd λa f=>Am 16 22 Z f bd λa f=>Am 17 22 Z f bd λa f=>Am 18 22 Z f bd λa f=>Am 19 22 Z f bd λa f=>Am 20 22 Z f bd λa f=>q_p 21 22 Z f (λ_=>AR (f.e Z) bd (f.e Z)) λa f=> ?_
     obtain rfl:=sj ar
     exact bc _ (f.k Z)
 ·rintro a w ⟨_,rfl,ac,rfl,ad,ae,bp,f,m,bq⟩
  obtain rfl:=sj hd
  exact⟨[],trivial,f.d,_,[ae],bp,m,_,Z,bq⟩
theorem Wk.W0 {v0:Value}{it0:Itm}{x0:(List (Int×Int))}{x1 x2:Int}(m:Mem W G w (it0::H))(o0:OwR P2 90 G it0 v0 x0){y:((List (Int×Int)))}(hd:D.W0 x0 x1 x2=some y):
  Calls prog 143 #[v0,(iv x1),(iv x2),(.func (.func 114) #[] #[])] w (Res W G H (λG' Ho _=>∃i0:Itm,Ho=[i0]∧OwR P2 90 G' i0 v0 y)):=by
 refine Au (args:=[v0,(iv x1),(iv x2),(.func (.func 114) #[] #[])]) (N:=60) [] func143 Z Z (lb Z) Z λa f=> ?_
 unfold D.W0 at hd
 refine Ag ?_
 refine Aa f Z λa f=>Ac f Z λa f=>Ay ?_
 refine Ac f Z λa f=>Ay ?_
 refine Aa f Z λa f=>Aa f Z λa f=>Ai f Z Z AF λa f=>Ac f Z λa f=>Ab (Ah (Ag ?_))
 refine Aa f Z λa f=>Ai f Z Z AF λa f=>Ai f Z Z (CK Z) λa f=>Ac f Z λa f=>Ab ?_
 have⟨aa,ab,hd⟩:=bind_some hd
 refine AJ (λa w=>∃ac:List (Int×Int),ac=aa∧∃(ad:GH) (ae:Itm),GLe G ad∧Fr a 60 [(0,v0),(3,(.func (.func 114) #[] #[])),(8,(iv x1)),(9,(iv 0)),(10,(iv (i64.wrap (x2-x1))))]∧Mem W ad w (ae::H)∧OwR P2 90 ad ae v0 ac) ?_ ?_
 ·refine Ak ?_
  refine AK (λaf a w=>∃ag:List (Int×Int),∃ah:Int,(ag,ah)=af∧∃(ai:GH) (aj:Itm),GLe G ai∧Fr a 60 [(0,v0),(3,(.func (.func 114) #[] #[])),(8,(iv x1)),(9,(iv 0)),(10,(iv (i64.wrap (x2-x1)))),(11,(iv ah))]∧Mem W ai w (aj::H)∧OwR P2 90 ai aj v0 ag) ab ⟨_,_,Z,_,it0,gr,f.k Z,m,o0⟩ ?_
  clear ab f m
  rintro af ak al am a w ⟨ag,ah,rfl,ai,aj,an,f,m,ao⟩
  refine Ah (Ag ?_)
  refine Aa f Z λa f=>Ai f Z Z BH λa f=>Ab ?_
  rcases Af al with⟨ap,al⟩|⟨ap,al⟩
  ·refine Al f Z ap ?_
   refine An ?_
   refine Ah (Ak (Ao ?_))
   refine Aa f Z λa f=>Aa f Z λa f=>Aa f Z λa f=>Aa f Z λa f=>Aa f Z λa f=> ?_
   have⟨aq,ar,al⟩:=bind_some al
   refine AT f Z call158 (Wk.B0 m ao ar) λau av aw w ax m ay a f=> ?_
   obtain⟨az,rfl,aA⟩:=ay
   refine Ab (Ao ?_)
   refine Aa f Z λa f=>Ai f Z Z AF λa f=>Ac f Z λa f=>Ab ?_
   obtain rfl:=sj al
   exact⟨_,Z,_,_,Z,_,az,(gt an ax),f.k Z,m,aA⟩
  ·refine Aj f Z ap ?_
   refine AG Z ?_
   obtain rfl:=sj al
   obtain rfl:=am _ rfl
   exact⟨_,Z,_,aj,an,f.k Z,m,ao⟩
 ·rintro a w ⟨ac,rfl,ad,ae,aB,f,m,aC⟩
  refine Ag ?_
  refine Aa f Z λa f=>Ai f Z Z AF λa f=>Ac f Z λa f=>Ab ?_
  have⟨aD,aE,hd⟩:=bind_some hd
  refine AJ (λa w=>∃aF:List (Int×Int),aF=aD∧∃(aG:GH) (aH:Itm),GLe ad aG∧Fr a 60 []∧Mem W aG w (aH::H)∧OwR P2 90 aG aH v0 aF) ?_ ?_
  ·refine Ak ?_
   refine AK (λaI a w=>∃aJ:List (Int×Int),∃aK:Int,(aJ,aK)=aI∧∃(aL:GH) (aM:Itm),GLe ad aL∧Fr a 60 [(0,v0),(3,(.func (.func 114) #[] #[])),(8,(iv x1)),(9,(iv 0)),(12,(iv aK))]∧Mem W aL w (aM::H)∧OwR P2 90 aL aM v0 aJ) aE ⟨_,_,Z,_,ae,gr,f.k Z,m,aC⟩ ?_
   clear aE f m
   rintro aI aN aO aP a w ⟨aJ,aK,rfl,aL,aM,aQ,f,m,aR⟩
   refine Ah (Ag ?_)
   refine Aa f Z λa f=>Ai f Z Z BH λa f=>Ab ?_
   rcases Af aO with⟨aS,aO⟩|⟨aS,aO⟩
   ·refine Al f Z aS ?_
    refine An ?_
    refine Ah (Ak (Ah ?_))
    refine Bj Az m ?_
    refine p_p 2 Z f (λ_=>AU (f.e Z)) λa f=>p_p 3 Z f (λ_=>AU (f.e Z)) λa f=>p_p 4 Z f (λ_=>AU (f.e Z)) λa f=>p_p 5 Z f (λ_=>AB (f.e Z) (f.e Z) As) λa f=>Bi 60017 13 (by kernel_rfl) Z ?_
    refine Ae 0 60017 Z f Z λa f=>Ae 1 60017 Z f Z λa f=>Ae 6 60017 Z f Z λa f=>Ae 7 60017 Z f Z λa f=>Ae 8 60017 Z f Z λa f=>q_p 9 60017 Z f (λ_=>AB (f.e Z) (f.e Z) As) λa f=> ?_
    have⟨aT,aU,aO⟩:=bind_some aO
    refine Aw (i:=10) (listed':= #[true,true,true,true,true,true,true,true,true,true,true,false,false,false,false,false,false,false,false,false]) (C:=P2) 60017 0 m aR Z AX aU Z (by kernel_rfl) Z f Z Z Z Z λaV a aW f=>Ax (i:=11) (listed':= #[true,true,true,true,true,true,true,true,true,true,true,true,false,false,false,false,false,false,false,false]) (C:=P2) [(iv aT.1),(iv aT.2)] 60017 0 aR Z Bh aW aU Z Z (by kernel_rfl) Z f Z Z Z λa f=>Ae 12 60017 Z f Z λa f=>Ae 13 60017 Z f Z λa f=> ?_
    have⟨aX,aY,aO⟩:=bind_some aO
    refine Aw (i:=14) (listed':= #[true,true,true,true,true,true,true,true,true,true,true,true,true,true,true,false,false,false,false,false]) (C:=P2) 60017 0 m aR Z AX aY Z (by kernel_rfl) Z f Z Z Z Z λaZ a a0 f=>Ax (i:=15) (listed':= #[true,true,true,true,true,true,true,true,true,true,true,true,true,true,true,true,false,false,false,false]) (C:=P2) [(iv aX.1),(iv aX.2)] 60017 0 aR Z Bh a0 aY Z Z (by kernel_rfl) Z f Z Z Z λa f=> ?_
    have⟨a1,a2,aO⟩:=bind_some aO
    refine Aw (i:=16) (listed':= #[true,true,true,true,true,true,true,true,true,true,true,true,true,true,true,true,true,false,false,false]) (C:=P2) 60017 0 m aR Z AX a2 Z (by kernel_rfl) Z f Z Z Z Z λa3 a a4 f=>AN λa5 w a6 m=> ?_
    have aR:=OwR.mono trivial a6 aR
    refine AZ (E:=P2) (y':=(aT.1,aT.2)) [(iv aT.1),(iv aT.2)] 0 m aR Z sizeOf90 f Z Z a4 a2 Z (Ap Z (Ap Z AH)) (lb Z) Z λa7 w m a8=> ?_
    have⟨a9,ba,aO⟩:=bind_some aO
    refine Bz 0 m a8 Z AX f Z Z Z ba λbb a bc f=>AZ (E:=P2) (y':=(aX.1,aX.2)) [(iv aX.1),(iv aX.2)] 0 m a8 Z sizeOf90 f Z Z bc ba Z (Ap Z (Ap Z AH)) (lb Z) Z λbd w m be=>Ab (Ao ?_)
    refine Aa f Z λa f=>Aa f Z λa f=>Aa f Z λa f=>Aa f Z λa f=>Aa f Z λa f=> ?_
    have⟨bf,bg,aO⟩:=bind_some aO
    refine AT f Z call158 (Wk.B0 m be bg) λbh bi bj w bk m bl a f=> ?_
    obtain⟨bm,rfl,bn⟩:=bl
    refine Ab (Ao ?_)
    refine Aa f Z λa f=>Ai f Z Z AF λa f=>Ac f Z λa f=>Ab ?_
    obtain rfl:=sj aO
    exact⟨_,Z,_,_,Z,_,bm,(gt aQ (gt a6 bk)),f.k Z,m,bn⟩
   ·refine Aj f Z aS ?_
    refine AG Z ?_
    obtain rfl:=sj aO
    obtain rfl:=aP _ rfl
    exact⟨_,Z,_,aM,aQ,f.weak trivial,m,aR⟩
  ·rintro a w ⟨aF,rfl,aG,aH,bo,f,m,bp⟩
   obtain rfl:=sj hd
   exact⟨[],trivial,f.d,_,[aH],(gt aB bo),m,_,Z,bp⟩
theorem Wk.Y0 {v0:Value}{it0:Itm}{x0:(List (Int×Int))}{x1 x2:Int}(m:Mem W G w (it0::H))(o0:OwR P2 90 G it0 v0 x0){y:((List (Int×Int)))}(hd:D.Y0 x0 x1 x2=some y):
  Calls prog 144 #[v0,(iv x1),(iv x2),(.func (.func 114) #[] #[])] w (Res W G H (λG' Ho _=>∃i0:Itm,Ho=[i0]∧OwR P2 90 G' i0 v0 y)):=by
 refine Au (args:=[v0,(iv x1),(iv x2),(.func (.func 114) #[] #[])]) (N:=67) [] func144 Z Z (lb Z) Z λa f=> ?_
 unfold D.Y0 at hd
 refine Ag ?_
 refine Aa f Z λa f=>Aa f Z λa f=>Ai f Z Z AF λa f=>Ac f Z λa f=>Ay ?_
 refine Aa f Z λa f=>Ai f Z Z BH λa f=>Ab ?_
 rcases Af hd with⟨aa,hd⟩|⟨aa,hd⟩
 ·refine Al f Z aa ?_
  refine Ag ?_
  refine Aa f Z λa f=>l_o f (Cw (f.e Z) ⟨_,underlying3⟩ underlying163) λa f=>Bx (cs:=[(.int .u64 0)]) zeroValue163 m f Z Z λab w a m f=>A3 0 0 (ds:=[(.int .u64 (IntKind.u64.wrap (i64.wrap (x2-x1))))]) m sizeOf163 f Z Z Z (Ap Z AH) Z (lb Z) Z λw m=>Ay ?_
  refine Aa f Z λa f=> ?_
  have⟨ac,ad,hd⟩:=bind_some hd
  refine Bk f Z call153 (Wk.p m ad) λae w af m a f=> ?_
  have o0:=OwR.mono trivial af o0
  refine Ac f Z λa f=>Ay ?_
  refine Aa f Z λa f=>Aa f Z λa f=>Ai f Z Z (CK Z) λa f=>Ai f Z Z Ct λa f=>Ai f Z Z As λa f=>Ai f Z Z AF λa f=>Ac f Z λa f=>Ab ?_
  have⟨ag,ah,hd⟩:=bind_some hd
  refine AJ (λa w=>∃ai:List (Int×Int),ai=ag∧∃(aj:GH) (ak:Itm),GLe ae aj∧Fr a 67 []∧Mem W aj w (ak::H)∧OwR P2 90 aj ak v0 ai) ?_ ?_
  ·refine Ak ?_
   refine AK (λal a w=>∃am:List (Int×Int),∃an:Int,∃ao:Int,(am,an,ao)=al∧∃(ap:GH) (aq:Itm),GLe ae ap∧Fr a 67 [(0,v0),(1,(iv x1)),(8,(iv (i64.wrap (x2-x1)))),(9,(pb ab)),(10,(.int .u64 ac)),(11,(iv an))]∧Mem W ap w (ib ab 163 [(.int .u64 ao)]::aq::H)∧OwR P2 90 ap aq v0 am) ah ⟨_,_,_,Z,_,it0,gr,f.k Z,m,o0⟩ ?_
   clear ah f m
   rintro al ar au av a w ⟨am,an,ao,rfl,ap,aq,aw,f,m,ax⟩
   refine Ah (Ag ?_)
   refine Aa f Z λa f=>Aa f Z λa f=>Aa f Z λa f=>Ai f Z Z (CK Z) λa f=>Ai f Z Z Ct λa f=>Ai f Z Z As λa f=>Ai f Z Z As λa f=>Ai f Z Z B5 λa f=>Ab ?_
   rcases Af au with⟨ay,au⟩|⟨ay,au⟩
   ·refine Al f Z ay ?_
    refine An ?_
    refine Ah (Ak (Ag ?_))
    have⟨az,aA,au⟩:=bind_some au
    refine AT f Z call154 (Wk.E m aA) λaB aC aD w aE m aF a f=> ?_
    obtain⟨rfl,rfl⟩:=aF
    have ax:=OwR.mono trivial aE ax
    refine Aa f Z λa f=>Ai f Z Z AF λa f=>Ai f Z Z D8 λa f=>l_o f (Cw (f.e Z) ⟨_,underlying56⟩ underlying3) λa f=>Ac f Z λa f=>Ab (Ah (Ag ?_))
    refine Aa f Z λa f=>Aa f Z λa f=>Ai f Z Z BH λa f=>Ab ?_
    have⟨aG,aH,au⟩:=bind_some au
    refine AJ (λa w=>∃aI:Int,aI=aG∧∃(aJ:GH),GLe aC aJ∧Fr a 67 [(0,v0),(1,(iv x1)),(8,(iv (i64.wrap (x2-x1)))),(9,(pb ab)),(10,(.int .u64 ac)),(11,(iv an)),(12,(iv aI))]∧Mem W aJ w (ib ab 163 [(.int .u64 az.2)]::aq::H)) ?_ ?_
    ·rcases Af aH with⟨aK,aH⟩|⟨aK,aH⟩
     ·refine Al f Z aK ?_
      refine Ao ?_
      refine Aa f Z λa f=>Aa f Z λa f=>Ai f Z Z AF λa f=>Ac f Z λa f=>Ab ?_
      obtain rfl:=sj aH
      exact⟨_,Z,_,gr,f.k Z,m⟩
     ·refine Aj f Z aK ?_
      refine An ?_
      obtain rfl:=sj aH
      exact⟨_,Z,_,gr,f.k Z,m⟩
    ·rintro a w ⟨aI,rfl,aJ,aL,f,m⟩
     have ax:=OwR.mono trivial aL ax
     refine Bj Az m ?_
     refine p_p 2 Z f (λ_=>AU (f.e Z)) λa f=>p_p 3 Z f (λ_=>AU (f.e Z)) λa f=>p_p 4 Z f (λ_=>AU (f.e Z)) λa f=>p_p 5 Z f (λ_=>AB (f.e Z) (f.e Z) As) λa f=>Bi 60017 13 (by kernel_rfl) Z ?_
     refine Ae 0 60017 Z f Z λa f=>Ae 1 60017 Z f Z λa f=>Ae 6 60017 Z f Z λa f=>Ae 7 60017 Z f Z λa f=>Ae 8 60017 Z f Z λa f=>q_p 9 60017 Z f (λ_=>AB (f.e Z) (f.e Z) As) λa f=> ?_
     have⟨aM,aN,au⟩:=bind_some au
     refine Aw (i:=10) (listed':= #[true,true,true,true,true,true,true,true,true,true,true,false,false,false,false,false,false,false,false,false]) (C:=P2) 60017 1 m ax Z AX aN Z (by kernel_rfl) Z f Z Z Z Z λaO a aP f=>Ax (i:=11) (listed':= #[true,true,true,true,true,true,true,true,true,true,true,true,false,false,false,false,false,false,false,false]) (C:=P2) [(iv aM.1),(iv aM.2)] 60017 1 ax Z Bh aP aN Z Z (by kernel_rfl) Z f Z Z Z λa f=>Ae 12 60017 Z f Z λa f=>Ae 13 60017 Z f Z λa f=> ?_
     have⟨aQ,aR,au⟩:=bind_some au
     refine Aw (i:=14) (listed':= #[true,true,true,true,true,true,true,true,true,true,true,true,true,true,true,false,false,false,false,false]) (C:=P2) 60017 1 m ax Z AX aR Z (by kernel_rfl) Z f Z Z Z Z λaS a aT f=>Ax (i:=15) (listed':= #[true,true,true,true,true,true,true,true,true,true,true,true,true,true,true,true,false,false,false,false]) (C:=P2) [(iv aQ.1),(iv aQ.2)] 60017 1 ax Z Bh aT aR Z Z (by kernel_rfl) Z f Z Z Z λa f=> ?_
     have⟨aU,aV,au⟩:=bind_some au
     refine Aw (i:=16) (listed':= #[true,true,true,true,true,true,true,true,true,true,true,true,true,true,true,true,true,false,false,false]) (C:=P2) 60017 1 m ax Z AX aV Z (by kernel_rfl) Z f Z Z Z Z λaW a aX f=>AN λaY w aZ m=> ?_
     have ax:=OwR.mono trivial aZ ax
     refine AZ (E:=P2) (y':=(aM.1,aM.2)) [(iv aM.1),(iv aM.2)] 1 m ax Z sizeOf90 f Z Z aX aV Z (Ap Z (Ap Z AH)) (lb Z) Z λa0 w m a1=> ?_
     have⟨a2,a3,au⟩:=bind_some au
     refine Bz 1 m a1 Z AX f Z Z Z a3 λa4 a a5 f=>AZ (E:=P2) (y':=(aQ.1,aQ.2)) [(iv aQ.1),(iv aQ.2)] 1 m a1 Z sizeOf90 f Z Z a5 a3 Z (Ap Z (Ap Z AH)) (lb Z) Z λa6 w m a7=>Ab (Ao ?_)
     refine Aa f Z λa f=>Ai f Z Z As λa f=>Ac f Z λa f=>Ab ?_
     obtain rfl:=sj au
     exact⟨_,Z,_,_,_,Z,_,a6,(gt aw (gt aE (gt aL aZ))),f.k Z,m,a7⟩
   ·refine Aj f Z ay ?_
    refine AG Z ?_
    have m:=m.fr 1
    have m:=m.eraseAt 1
    obtain rfl:=sj au
    obtain rfl:=av _ rfl
    exact⟨_,Z,_,aq,aw,f.weak trivial,m,ax⟩
  ·rintro a w ⟨ai,rfl,aj,ak,a8,f,m,a9⟩
   obtain rfl:=sj hd
   exact⟨[],trivial,f.d,_,[ak],(gt af a8),m,_,Z,a9⟩
 ·refine Aj f Z aa ?_
  refine An ?_
  obtain rfl:=sj hd
  exact⟨[],trivial,f.d,_,[it0],gr,m,_,Z,o0⟩
theorem Wk.P {v0:Value}{it0:Itm}{b3:Nat}{x0:(List (Int×Int))}{x1 x2 aa:Int}(m:Mem W G w (it0::ib b3 3 [(iv aa)]::H))(o0:OwR P2 90 G it0 v0 x0){y:Int×Int×((List (Int×Int)))×Int}(hd:D.P x0 x1 x2 aa=some y):
  Calls prog 171 #[v0,(iv x1),(iv x2),(pb b3),(.func (.func 114) #[] #[])] w (Res W G H (λG' Ho v=>∃i0:Itm,Ho=[i0,ib b3 3 [(iv y.2.2.2)]]∧v= .tuple #[(iv y.1),(iv y.2.1)]∧OwR P2 90 G' i0 v0 y.2.2.1)):=by
 refine Au (args:=[v0,(iv x1),(iv x2),(pb b3),(.func (.func 114) #[] #[])]) (N:=32) [.tmp 10,.tmp 11] func171 Z Z (lb Z) Z λa f=> ?_
 unfold D.P at hd
 refine Ag ?_
 refine Ac f Z λa f=>Ac f Z λa f=>Ab (Ah (Ah ?_))
 refine A4 11 Az (by kernel_rfl) m ?_
 refine Ae 0 11 Z f Z λa f=>Ae 1 11 Z f Z λa f=>Ae 2 11 Z f Z λa f=> ?_
 have⟨ab,ac,hd⟩:=bind_some hd
 refine Aw (i:=3) (listed':= #[true,true,true,true,false,false,false,false,false,false,false]) (C:=P2) 11 0 m o0 Z AX ac Z (by kernel_rfl) Z f Z Z Z Z λad a ae f=>Ax (i:=4) (listed':= #[true,true,true,true,true,false,false,false,false,false,false]) (C:=P2) [(iv ab.1),(iv ab.2)] 11 0 o0 Z Bh ae ac Z Z (by kernel_rfl) Z f Z Z Z λa f=>Ae 5 11 Z f Z λa f=>Ae 6 11 Z f Z λa f=> ?_
 have⟨af,ag,hd⟩:=bind_some hd
 refine Aw (i:=7) (listed':= #[true,true,true,true,true,true,true,true,false,false,false]) (C:=P2) 11 0 m o0 Z AX ag Z (by kernel_rfl) Z f Z Z Z Z λah a ai f=>Ax (i:=8) (listed':= #[true,true,true,true,true,true,true,true,true,false,false]) (C:=P2) [(iv af.1),(iv af.2)] 11 0 o0 Z Bh ai ag Z Z (by kernel_rfl) Z f Z Z Z λa f=> ?_
 have⟨aj,ak,hd⟩:=bind_some hd
 refine B8 (i:=9) 11 Z (by kernel_rfl) Z f Z Z Z Z call114 (λ_ _ w al m=>Wk.c m ak) λa f=>q_p 10 11 Z f (λ_=>AB (f.e Z) (f.e Z) AV) λa f=>AN λam w an m=> ?_
 have o0:=OwR.mono trivial an o0
 refine Ab ?_
 rcases Af hd with⟨ao,hd⟩|⟨ao,hd⟩
 ·refine Al f Z ao ?_
  refine Ag ?_
  refine Aa f Z λa f=>l_o f (Be (f.e Z)) λa f=>A5 1 0 m Pl3 f Z Z Z Z λa f=>Ai f Z Z As λa f=>l_o f (Be (f.e Z)) λa f=>A3 1 0 (ds:=[(iv (i64.wrap (aa+1)))]) m sizeOf3 f Z Z Z (Ap Z AH) Z (lb Z) Z λw m=>Ay ?_
  refine Aa f Z λa f=>Aa f Z λa f=>Ac f Z λa f=>Ac f Z λa f=>Ab ?_
  refine Ar ?_
  obtain rfl:=sj hd
  exact⟨[(iv x2),(iv x1)],⟨f.get _ _ Z,f.get _ _ Z,trivial⟩,f.d,_,[it0,ib b3 3 [(iv (i64.wrap (aa+1)))]],an,m,_,Z,Z,o0⟩
 ·refine Aj f Z ao ?_
  refine An ?_
  refine Ag ?_
  refine Aa f Z λa f=>Aa f Z λa f=>Ac f Z λa f=>Ac f Z λa f=>Ab ?_
  refine Ar ?_
  obtain rfl:=sj hd
  exact⟨[(iv x1),(iv x2)],⟨f.get _ _ Z,f.get _ _ Z,trivial⟩,f.d,_,[it0,ib b3 3 [(iv aa)]],an,m,_,Z,Z,o0⟩
theorem Wk.I0 {v0:Value}{it0:Itm}{b4:Nat}{x0:(List (Int×Int))}{x1 x2 x3 aa:Int}(m:Mem W G w (it0::ib b4 3 [(iv aa)]::H))(o0:OwR P2 90 G it0 v0 x0){y:Int×((List (Int×Int)))×Int}(hd:D.I0 x0 x1 x2 x3 aa=some y):
  Calls prog 160 #[v0,(iv x1),(iv x2),(iv x3),(pb b4),(.func (.func 114) #[] #[])] w (Res W G H (λG' Ho v=>∃i0:Itm,Ho=[i0,ib b4 3 [(iv y.2.2)]]∧v=(iv y.1)∧OwR P2 90 G' i0 v0 y.2.1)):=by
 refine Au (args:=[v0,(iv x1),(iv x2),(iv x3),(pb b4),(.func (.func 114) #[] #[])]) (N:=41) [.tmp 12] func160 Z Z (lb Z) Z λa f=> ?_
 unfold D.I0 at hd
 refine Ag ?_
 refine Ac f Z λa f=>Ay ?_
 refine Aa f Z λa f=>Aa f Z λa f=>Aa f Z λa f=>Aa f Z λa f=>Aa f Z λa f=> ?_
 have⟨ab,ac,hd⟩:=bind_some hd
 refine AT f Z call171 (Wk.P m o0 ac) λad ae af w ag m ah a f=> ?_
 obtain⟨ai,rfl,rfl,aj⟩:=ah
 refine Aa f Z λa f=>l_o f (AI (f.e Z) Z) λa f=>l_o f (AI (f.e Z) Z) λa f=>Ac f Z λa f=>Ac f Z λa f=>Ay ?_
 refine Aa f Z λa f=>Aa f Z λa f=>Aa f Z λa f=>Aa f Z λa f=>Aa f Z λa f=> ?_
 have⟨ak,al,hd⟩:=bind_some hd
 refine AT f Z call171 (Wk.P m aj al) λam an ao w ap m aq a f=> ?_
 obtain⟨ar,rfl,rfl,au⟩:=aq
 refine Aa f Z λa f=>l_o f (AI (f.e Z) Z) λa f=>l_o f (AI (f.e Z) Z) λa f=>Ac f Z λa f=>Ac f Z λa f=>Ay ?_
 refine Aa f Z λa f=>Aa f Z λa f=>Aa f Z λa f=>Aa f Z λa f=>Aa f Z λa f=> ?_
 have⟨av,aw,hd⟩:=bind_some hd
 refine AT f Z call171 (Wk.P m au aw) λax ay az w aA m aB a f=> ?_
 obtain⟨aC,rfl,rfl,aD⟩:=aB
 refine Aa f Z λa f=>l_o f (AI (f.e Z) Z) λa f=>l_o f (AI (f.e Z) Z) λa f=>Ac f Z λa f=>Ac f Z λa f=>Ay ?_
 refine Aa f Z λa f=>Ac f Z λa f=>Ab ?_
 refine Ar ?_
 obtain rfl:=sj hd
 exact⟨[(iv av.2.1)],f.g Z,f.d,_,[aC,ib b4 3 [(iv av.2.2.2)]],(gt ag (gt ap aA)),m,_,Z,Z,aD⟩
theorem Wk.L {v0:Value}{it0:Itm}{b2:Nat}{x0:(List (Int×Int))}{x1 aa:Int}(m:Mem W G w (it0::ib b2 3 [(iv aa)]::H))(o0:OwR P2 90 G it0 v0 x0){y:Int×((List (Int×Int)))×Int}(hd:D.L x0 x1 aa=some y):
  Calls prog 159 #[v0,(iv x1),(pb b2),(.func (.func 114) #[] #[])] w (Res W G H (λG' Ho v=>∃i0:Itm,Ho=[i0,ib b2 3 [(iv y.2.2)]]∧v=(iv y.1)∧OwR P2 90 G' i0 v0 y.2.1)):=by
 refine Au (args:=[v0,(iv x1),(pb b2),(.func (.func 114) #[] #[])]) (N:=18) [.tmp 8] func159 Z Z (lb Z) Z λa f=> ?_
 unfold D.L at hd
 refine Ag ?_
 refine Ac f Z λa f=>Ay ?_
 refine Aa f Z λa f=>Aa f Z λa f=>Ai f Z Z AF λa f=>Aa f Z λa f=>Aa f Z λa f=>Ai f Z Z As λa f=>Aa f Z λa f=>Aa f Z λa f=> ?_
 have⟨ab,ac,hd⟩:=bind_some hd
 refine AT f Z call160 (Wk.I0 m o0 ac) λad ae af w ag m ah a f=> ?_
 obtain⟨ai,rfl,rfl,aj⟩:=ah
 refine Ac f Z λa f=>Ab ?_
 refine Ar ?_
 obtain rfl:=sj hd
 exact⟨[(iv ab.1)],f.g Z,f.d,_,[ai,ib b2 3 [(iv ab.2.2)]],ag,m,_,Z,Z,aj⟩
theorem Wk.i1 {v0:Value}{it0:Itm}{x0:(List (Int×Int))}{x1 x2:Int}(m:Mem W G w (it0::H))(o0:OwR P2 90 G it0 v0 x0){y:Int×Int×((List (Int×Int)))}(hd:D.i1 x0 x1 x2=some y):
  Calls prog 145 #[v0,(iv x1),(iv x2),(.func (.func 114) #[] #[])] w (Res W G H (λG' Ho v=>∃i0:Itm,Ho=[i0]∧v= .tuple #[(iv y.1),(iv y.2.1)]∧OwR P2 90 G' i0 v0 y.2.2)):=by
 refine Au (args:=[v0,(iv x1),(iv x2),(.func (.func 114) #[] #[])]) (N:=63) [.tmp 8,.tmp 9] func145 Z Z (lb Z) Z λa f=> ?_
 unfold D.i1 at hd
 refine Ag ?_
 refine Ac f Z λa f=>Ac f Z λa f=>Ay ?_
 refine Aa f Z λa f=>Aa f Z λa f=>Ai f Z Z AF λa f=>Ac f Z λa f=>Ay ?_
 refine Bx (cs:=[(iv 0)]) zeroValue3 m f Z Z λaa w a m f=>Ay ?_
 refine Aa f Z λa f=>Aa f Z λa f=>Ai f Z Z (CK Z) λa f=>Ai f Z Z Ct λa f=>Ai f Z Z As λa f=>Ac f Z λa f=>Ay ?_
 refine Aa f Z λa f=>Aa f Z λa f=>Ai f Z Z (CK Z) λa f=>Ai f Z Z Ct λa f=>Ai f Z Z As λa f=>Ac f Z λa f=>Ay ?_
 refine Aa f Z λa f=>Aa f Z λa f=>Ai f Z Z (CK Z) λa f=>Ai f Z Z Ct λa f=>Ai f Z Z As λa f=>Ac f Z λa f=>Ab (Ah (Ag ?_))
 refine Aa f Z λa f=>Ai f Z Z BH λa f=>Ab ?_
 rcases Af hd with⟨ab,hd⟩|⟨ab,hd⟩
 ·refine Al f Z ab ?_
  refine Ah (Ag ?_)
  refine Aa f Z λa f=>Ai f Z Z BH λa f=>Ab ?_
  have⟨ac,ad,hd⟩:=bind_some hd
  refine AJ (λa w=>∃ae:List (Int×Int),∃af:Int,∃ag:Int,∃ah:Int,∃ai:Int,(ae,af,ag,ah,ai)=ac∧∃(aj:GH) (ak:Itm),GLe G aj∧Fr a 63 [(0,v0),(3,(.func (.func 114) #[] #[])),(11,(pb aa)),(12,(iv af)),(13,(iv ag)),(14,(iv ah))]∧Mem W aj w (ib aa 3 [(iv ai)]::ak::H)∧OwR P2 90 aj ak v0 ae) ?_ ?_
  ·rcases Af ad with⟨al,ad⟩|⟨al,ad⟩
   ·refine Al f Z al ?_
    refine Ag ?_
    refine Aa f Z λa f=>Aa f Z λa f=>Aa f Z λa f=> ?_
    have m:=m.fr 1
    have⟨am,an,ad⟩:=bind_some ad
    refine AT f Z call159 (Wk.L m o0 an) λao ap aq w ar m au a f=> ?_
    obtain⟨av,rfl,rfl,aw⟩:=au
    refine Ac f Z λa f=>Ay ?_
    refine Aa f Z λa f=>Aa f Z λa f=>Aa f Z λa f=> ?_
    have⟨ax,ay,ad⟩:=bind_some ad
    refine AT f Z call159 (Wk.L m aw ay) λaz aA aB w aC m aD a f=> ?_
    obtain⟨aE,rfl,rfl,aF⟩:=aD
    refine Ac f Z λa f=>Ab (Ao ?_)
    refine Aa f Z λa f=>Aa f Z λa f=>Aa f Z λa f=> ?_
    have⟨aG,aH,ad⟩:=bind_some ad
    refine AT f Z call159 (Wk.L m aF aH) λaI aJ aK w aL m aM a f=> ?_
    obtain⟨aN,rfl,rfl,aO⟩:=aM
    refine Ac f Z λa f=>Ab ?_
    have m:=m.fr 1
    obtain rfl:=sj ad
    exact⟨_,_,_,_,_,Z,_,aN,(gt ar (gt aC aL)),f.k Z,m,aO⟩
   ·refine Aj f Z al ?_
    refine An ?_
    obtain rfl:=sj ad
    exact⟨_,_,_,_,_,Z,_,it0,gr,f.k Z,m,o0⟩
  ·rintro a w ⟨ae,af,ag,ah,ai,rfl,aj,ak,aP,f,m,aQ⟩
   refine Ao ?_
   refine Aa f Z λa f=>Aa f Z λa f=>Aa f Z λa f=>Aa f Z λa f=>Aa f Z λa f=> ?_
   have m:=m.fr 1
   have⟨aR,aS,hd⟩:=bind_some hd
   refine AT f Z call160 (Wk.I0 m aQ aS) λaT aU aV w aW m aX a f=> ?_
   obtain⟨aY,rfl,rfl,aZ⟩:=aX
   refine Ac f Z λa f=>Ay ?_
   refine A5 1 0 m Pl3 f Z Z Z Z λa f=>Ab (Ak (Ag ?_))
   refine Ai f Z Z BT λa f=>Ac f Z λa f=>Ab ?_
   rcases Af hd with⟨a0,hd⟩|⟨a0,hd⟩
   ·refine Al f Z a0 ?_
    refine Ag ?_
    refine Aa f Z λa f=>Ac f Z λa f=>Ac f Z λa f=>Ab ?_
    refine Ar ?_
    have m:=m.eraseAt 1
    obtain rfl:=sj hd
    exact⟨[(iv aR.1),(iv 1)],⟨f.get _ _ Z,f.get _ _ Z,trivial⟩,f.d,_,[aY],(gt aP aW),m,_,Z,Z,aZ⟩
   ·refine Aj f Z a0 ?_
    refine Ag ?_
    refine Ai f Z Z BT λa f=>Ac f Z λa f=>Ab ?_
    rcases Af hd with⟨a1,hd⟩|⟨a1,hd⟩
    ·refine Al f Z a1 ?_
     refine Ag ?_
     refine Aa f Z λa f=>Ac f Z λa f=>Ac f Z λa f=>Ab ?_
     refine Ar ?_
     have m:=m.eraseAt 1
     obtain rfl:=sj hd
     exact⟨[(iv aR.1),(iv 2)],⟨f.get _ _ Z,f.get _ _ Z,trivial⟩,f.d,_,[aY],(gt aP aW),m,_,Z,Z,aZ⟩
    ·refine Aj f Z a1 ?_
     refine Ag ?_
     refine Aa f Z λa f=>Ac f Z λa f=>Ac f Z λa f=>Ab ?_
     refine Ar ?_
     have m:=m.eraseAt 1
     obtain rfl:=sj hd
     exact⟨[(iv aR.1),(iv 0)],⟨f.get _ _ Z,f.get _ _ Z,trivial⟩,f.d,_,[aY],(gt aP aW),m,_,Z,Z,aZ⟩
 ·refine Aj f Z ab ?_
  refine An ?_
  refine Ag ?_
  refine A5 0 0 m Pl3 f Z Z Z Z λa f=>Ab (Ak (Ag ?_))
  refine Ai f Z Z BT λa f=>Ac f Z λa f=>Ab ?_
  rcases Af hd with⟨a2,hd⟩|⟨a2,hd⟩
  ·refine Al f Z a2 ?_
   refine Ag ?_
   refine Aa f Z λa f=>Ac f Z λa f=>Ac f Z λa f=>Ab ?_
   refine Ar ?_
   have m:=m.fr 1
   have m:=m.eraseAt 1
   obtain rfl:=sj hd
   exact⟨[(iv (i64.wrap (x1+(i64.wrap ((i64.wrap (Int.tdiv (i64.wrap (x2-x1)) 4))*2))))),(iv 1)],⟨f.get _ _ Z,f.get _ _ Z,trivial⟩,f.d,_,[it0],gr,m,_,Z,Z,o0⟩
  ·refine Aj f Z a2 ?_
   refine Ag ?_
   refine Ai f Z Z BT λa f=>Ac f Z λa f=>Ab ?_
   rcases Af hd with⟨a3,hd⟩|⟨a3,hd⟩
   ·refine Al f Z a3 ?_
    refine Ag ?_
    refine Aa f Z λa f=>Ac f Z λa f=>Ac f Z λa f=>Ab ?_
    refine Ar ?_
    have m:=m.fr 1
    have m:=m.eraseAt 1
    obtain rfl:=sj hd
    exact⟨[(iv (i64.wrap (x1+(i64.wrap ((i64.wrap (Int.tdiv (i64.wrap (x2-x1)) 4))*2))))),(iv 2)],⟨f.get _ _ Z,f.get _ _ Z,trivial⟩,f.d,_,[it0],gr,m,_,Z,Z,o0⟩
   ·refine Aj f Z a3 ?_
    refine Ag ?_
    refine Aa f Z λa f=>Ac f Z λa f=>Ac f Z λa f=>Ab ?_
    refine Ar ?_
    have m:=m.fr 1
    have m:=m.eraseAt 1
    obtain rfl:=sj hd
    exact⟨[(iv (i64.wrap (x1+(i64.wrap ((i64.wrap (Int.tdiv (i64.wrap (x2-x1)) 4))*2))))),(iv 0)],⟨f.get _ _ Z,f.get _ _ Z,trivial⟩,f.d,_,[it0],gr,m,_,Z,Z,o0⟩
theorem Wk.k1 {v0:Value}{it0:Itm}{x0:(List (Int×Int))}{x1 x2:Int}(m:Mem W G w (it0::H))(o0:OwR P2 90 G it0 v0 x0){y:((List (Int×Int)))}(hd:D.k1 x0 x1 x2=some y):
  Calls prog 146 #[v0,(iv x1),(iv x2),(.func (.func 114) #[] #[])] w (Res W G H (λG' Ho _=>∃i0:Itm,Ho=[i0]∧OwR P2 90 G' i0 v0 y)):=by
 refine Au (args:=[v0,(iv x1),(iv x2),(.func (.func 114) #[] #[])]) (N:=34) [] func146 Z Z (lb Z) Z λa f=> ?_
 unfold D.k1 at hd
 refine Ag ?_
 refine Aa f Z λa f=>Ac f Z λa f=>Ay ?_
 refine Aa f Z λa f=>Ai f Z Z AF λa f=>Ac f Z λa f=>Ab ?_
 have⟨aa,ab,hd⟩:=bind_some hd
 refine AJ (λa w=>∃ac:List (Int×Int),ac=aa∧∃(ad:GH) (ae:Itm),GLe G ad∧Fr a 34 []∧Mem W ad w (ae::H)∧OwR P2 90 ad ae v0 ac) ?_ ?_
 ·refine Ak ?_
  refine AK (λaf a w=>∃ag:List (Int×Int),∃ah:Int,∃ai:Int,(ag,ah,ai)=af∧∃(aj:GH) (ak:Itm),GLe G aj∧Fr a 34 [(0,v0),(8,(iv ah)),(9,(iv ai))]∧Mem W aj w (ak::H)∧OwR P2 90 aj ak v0 ag) ab ⟨_,_,_,Z,_,it0,gr,f.k Z,m,o0⟩ ?_
  clear ab f m
  rintro af al am an a w ⟨ag,ah,ai,rfl,aj,ak,ao,f,m,ap⟩
  refine Ah (Ag ?_)
  refine Aa f Z λa f=>Aa f Z λa f=>Ai f Z Z AV λa f=>Ab ?_
  rcases Af am with⟨aq,am⟩|⟨aq,am⟩
  ·refine Al f Z aq ?_
   refine An ?_
   refine Ak (Ah ?_)
   refine Bj Az m ?_
   refine p_p 2 Z f (λ_=>AU (f.e Z)) λa f=>p_p 3 Z f (λ_=>AU (f.e Z)) λa f=>Bi 12013 11 (by kernel_rfl) Z ?_
   refine Ae 0 12013 Z f Z λa f=>Ae 1 12013 Z f Z λa f=>Ae 4 12013 Z f Z λa f=>Ae 5 12013 Z f Z λa f=> ?_
   have⟨ar,au,am⟩:=bind_some am
   refine Aw (i:=6) (listed':= #[true,true,true,true,true,true,true,false,false,false,false,false,false,false,false,false]) (C:=P2) 12013 0 m ap Z AX au Z (by kernel_rfl) Z f Z Z Z Z λav a aw f=>Ax (i:=7) (listed':= #[true,true,true,true,true,true,true,true,false,false,false,false,false,false,false,false]) (C:=P2) [(iv ar.1),(iv ar.2)] 12013 0 ap Z Bh aw au Z Z (by kernel_rfl) Z f Z Z Z λa f=>Ae 8 12013 Z f Z λa f=>Ae 9 12013 Z f Z λa f=> ?_
   have⟨ax,ay,am⟩:=bind_some am
   refine Aw (i:=10) (listed':= #[true,true,true,true,true,true,true,true,true,true,true,false,false,false,false,false]) (C:=P2) 12013 0 m ap Z AX ay Z (by kernel_rfl) Z f Z Z Z Z λaz a aA f=>Ax (i:=11) (listed':= #[true,true,true,true,true,true,true,true,true,true,true,true,false,false,false,false]) (C:=P2) [(iv ax.1),(iv ax.2)] 12013 0 ap Z Bh aA ay Z Z (by kernel_rfl) Z f Z Z Z λa f=> ?_
   have⟨aB,aC,am⟩:=bind_some am
   refine Aw (i:=12) (listed':= #[true,true,true,true,true,true,true,true,true,true,true,true,true,false,false,false]) (C:=P2) 12013 0 m ap Z AX aC Z (by kernel_rfl) Z f Z Z Z Z λaD a aE f=>AN λaF w aG m=> ?_
   have ap:=OwR.mono trivial aG ap
   refine AZ (E:=P2) (y':=(ar.1,ar.2)) [(iv ar.1),(iv ar.2)] 0 m ap Z sizeOf90 f Z Z aE aC Z (Ap Z (Ap Z AH)) (lb Z) Z λaH w m aI=> ?_
   have⟨aJ,aK,am⟩:=bind_some am
   refine Bz 0 m aI Z AX f Z Z Z aK λaL a aM f=>AZ (E:=P2) (y':=(ax.1,ax.2)) [(iv ax.1),(iv ax.2)] 0 m aI Z sizeOf90 f Z Z aM aK Z (Ap Z (Ap Z AH)) (lb Z) Z λaN w m aO=>Ay ?_
   refine Aa f Z λa f=>Ai f Z Z As λa f=>Ac f Z λa f=>Ab (Ao ?_)
   refine Aa f Z λa f=>Ai f Z Z AF λa f=>Ac f Z λa f=>Ab ?_
   obtain rfl:=sj am
   exact⟨_,Z,_,_,_,Z,_,aN,(gt ao aG),f.k Z,m,aO⟩
  ·refine Aj f Z aq ?_
   refine AG Z ?_
   obtain rfl:=sj am
   obtain rfl:=an _ rfl
   exact⟨_,Z,_,ak,ao,f.weak trivial,m,ap⟩
 ·rintro a w ⟨ac,rfl,ad,ae,aP,f,m,aQ⟩
  obtain rfl:=sj hd
  exact⟨[],trivial,f.d,_,[ae],aP,m,_,Z,aQ⟩
theorem Wk.h1 {v0:Value}{it0:Itm}{x0:(List (Int×Int))}{x1 x2:Int}(m:Mem W G w (it0::H))(o0:OwR P2 90 G it0 v0 x0){y:Bool×((List (Int×Int)))}(hd:D.h1 x0 x1 x2=some y):
  Calls prog 147 #[v0,(iv x1),(iv x2),(.func (.func 114) #[] #[])] w (Res W G H (λG' Ho v=>∃i0:Itm,Ho=[i0]∧v=(.bool y.1)∧OwR P2 90 G' i0 v0 y.2)):=by
 refine Au (args:=[v0,(iv x1),(iv x2),(.func (.func 114) #[] #[])]) (N:=141) [.tmp 8] func147 Z Z (lb Z) Z λa f=> ?_
 unfold D.h1 at hd
 refine Ag ?_
 refine Ac f Z λa f=>Ay ?_
 refine Aa f Z λa f=>Ai f Z Z As λa f=>Ac f Z λa f=>Ab (Ah (Ag ?_))
 refine Ac f Z λa f=>Ab ?_
 have⟨aa,ab,hd⟩:=bind_some hd
 refine AJ (λa w=>∃q_1357':(List (Int×Int)),aa= .inl q_1357'∧∃ac:List (Int×Int),ac=q_1357'∧∃(ad:GH) (ae:Itm),GLe G ad∧Fr a 141 []∧Mem W ad w (ae::H)∧OwR P2 90 ad ae v0 ac) ?_ ?_
 ·refine Ak ?_
  refine AK (λaf a w=>∃ag:List (Int×Int),∃ah:Int,∃ai:Int,(ag,ah,ai)=af∧∃(aj:GH) (ak:Itm),GLe G aj∧Fr a 141 [(0,v0),(1,(iv x1)),(2,(iv x2)),(3,(.func (.func 114) #[] #[])),(9,(iv ah)),(10,(iv ai))]∧Mem W aj w (ak::H)∧OwR P2 90 aj ak v0 ag) ab ⟨_,_,_,Z,_,it0,gr,f.k Z,m,o0⟩ ?_
  clear ab f m
  rintro af al am an a w ⟨ag,ah,ai,rfl,aj,ak,ao,f,m,ap⟩
  refine Ah (Ag ?_)
  refine Aa f Z λa f=>Ai f Z Z AV λa f=>Ab ?_
  rcases Af am with⟨aq,am⟩|⟨aq,am⟩
  ·refine Al f Z aq ?_
   refine An ?_
   refine Ah (Ak (Ah ?_))
   have⟨ar,au,am⟩:=bind_some am
   refine AJ (λa w=>∃av:Int,av=ar∧∃(aw:GH),GLe aj aw∧Fr a 141 [(0,v0),(1,(iv x1)),(2,(iv x2)),(3,(.func (.func 114) #[] #[])),(9,(iv av)),(10,(iv ai))]∧Mem W aw w (ak::H)) ?_ ?_
   ·refine Ak ?_
    refine AK (λax a w=>∃ay:Int,ay=ax∧∃(az:GH),GLe aj az∧Fr a 141 [(0,v0),(1,(iv x1)),(2,(iv x2)),(3,(.func (.func 114) #[] #[])),(9,(iv ay)),(10,(iv ai))]∧Mem W az w (ak::H)) au ⟨_,Z,_,gr,f.k Z,m⟩ ?_
    clear au f m
    rintro ax aA aB aC a w ⟨ay,rfl,az,aD,f,m⟩
    have ap:=OwR.mono trivial aD ap
    refine Ah (Ah ?_)
    refine A4 18 Az (by kernel_rfl) m ?_
    refine Ae 0 18 Z f Z λa f=>Ae 1 18 Z f Z λa f=>q_p 2 18 Z f (λ_=>AB (f.e Z) (f.e Z) AV) λa f=>Ae 3 18 Z f Z λa f=> ?_
    have⟨aE,aF,aB⟩:=bind_some aB
    refine BR (fuel':=0) (listed':= #[true,true,true,true,true,true,true,true,true,true,true,true,true,true,true,true,true,true]) (λa=>Fr a 141 [(0,v0),(1,(iv x1)),(2,(iv x2)),(3,(.func (.func 114) #[] #[])),(9,(iv ay)),(10,(iv ai)),(19,(iv ay)),(20,(iv x2)),(21,(.bool (decide (ay<x2)))),(22,(.bool (decide (ay<x2)))),(36,(.bool aE))]) ?_ ?_
    ·intro a f
     refine AN λaG w aH m=>Ab ?_
     rcases Af aB with⟨aI,aB⟩|⟨aI,aB⟩
     ·refine Al f Z aI ?_
      refine An ?_
      refine Ak (Ao ?_)
      refine Aa f Z λa f=>Ai f Z Z As λa f=>Ac f Z λa f=>Ab ?_
      obtain rfl:=sj aB
      exact⟨_,Z,_,Z,_,(gt aD aH),f.k Z,m⟩
     ·refine Aj f Z aI ?_
      refine AG Z ?_
      obtain rfl:=sj aB
      obtain rfl:=aC _ rfl
      exact⟨_,Z,_,(gt aD aH),f.k Z,m⟩
    ·intro aJ
     rcases Af aF with⟨aK,aF⟩|⟨aK,aF⟩
     ·refine Ae (hw:=wo f aK) 4 18 Z f Z λa f=> ?_
      refine Ae (hw:=wo f aK) 5 18 Z f Z λa f=>Ae (hw:=wo f aK) 6 18 Z f Z λa f=> ?_
      have⟨aL,aM,aF⟩:=bind_some aF
      refine Aw (i:=7) (listed':= #[true,true,true,true,true,true,true,true,false,false,false,false,false,false,false,false,false,false]) (C:=P2) 18 0 m ap Z AX aM Z (by kernel_rfl) Z f (AC f Z Z Z aK) Z Z Z λaN a aO f=>Ax (i:=8) (listed':= #[true,true,true,true,true,true,true,true,true,false,false,false,false,false,false,false,false,false]) (C:=P2) [(iv aL.1),(iv aL.2)] 18 0 ap Z Bh aO aM Z Z (by kernel_rfl) Z f (AC f Z Z Z aK) Z Z λa f=>Ae (hw:=wo f aK) 9 18 Z f Z λa f=>Ae (hw:=wo f aK) 10 18 Z f Z λa f=>q_p (hw:=wo f aK) 11 18 Z f (λ_=>AB (f.e Z) (f.e Z) AF) λa f=> ?_
      have⟨aP,aQ,aF⟩:=bind_some aF
      refine Aw (i:=12) (listed':= #[true,true,true,true,true,true,true,true,true,true,true,true,true,false,false,false,false,false]) (C:=P2) 18 0 m ap Z AX aQ Z (by kernel_rfl) Z f (AC f Z Z Z aK) Z Z Z λaR a aS f=>Ax (i:=13) (listed':= #[true,true,true,true,true,true,true,true,true,true,true,true,true,true,false,false,false,false]) (C:=P2) [(iv aP.1),(iv aP.2)] 18 0 ap Z Bh aS aQ Z Z (by kernel_rfl) Z f (AC f Z Z Z aK) Z Z λa f=> ?_
      have⟨aT,aU,aF⟩:=bind_some aF
      refine B8 (i:=14) 18 Z (by kernel_rfl) Z f (AC f Z Z Z aK) Z Z Z call114 (λ_ _ w aV m=>Wk.c m aU) λa f=>q_p (hw:=wo f aK) 15 18 Z f (λ_=>AB (f.e Z) (f.e Z) AV) λa f=>q_p (hw:=wo f aK) 16 18 Z f (λ_=>Bg (f.e Z)) λa f=>q_p 17 18 Z f (λ_=>AS (f.e Z) aK (f.e Z)) λa f=> ?_
      obtain rfl:=sj aF
      exact aJ _ (f.k Z)
     ·refine Am 4 18 Z f aK λa f=> ?_
      refine Am 5 18 Z f aK λa f=>Am 6 18 Z f aK λa f=>Am 7 18 Z f aK λa f=>Am 8 18 Z f aK λa f=>Am 9 18 Z f aK λa f=>Am 10 18 Z f aK λa f=>Am 11 18 Z f aK λa f=>Am 12 18 Z f aK λa f=>Am 13 18 Z f aK λa f=>Am 14 18 Z f aK λa f=>Am 15 18 Z f aK λa f=>Am 16 18 Z f aK λa f=>q_p 17 18 Z f (λ_=>AR (f.e Z) aK (f.e Z)) λa f=> ?_
      obtain rfl:=sj aF
      exact aJ _ (f.k Z)
   ·rintro a w ⟨av,rfl,aw,aW,f,m⟩
    have ap:=OwR.mono trivial aW ap
    refine Ah (Ag ?_)
    refine Aa f Z λa f=>Aa f Z λa f=>Ai f Z Z BT λa f=>Ab ?_
    rcases Af am with⟨aX,am⟩|⟨aX,am⟩
    ·refine Al f Z aX ?_
     refine Ag ?_
     refine Ac f Z λa f=>Ab ?_
     refine Ar ?_
     obtain rfl:=sj am
     obtain rfl:=an _ rfl
     obtain rfl:=sj hd
     exact⟨[(.bool true)],f.g Z,f.d,_,[ak],(gt ao aW),m,_,Z,Z,ap⟩
    ·refine Aj f Z aX ?_
     refine An ?_
     refine Ah (Ag ?_)
     refine Aa f Z λa f=>Aa f Z λa f=>Ai f Z Z AF λa f=>Ai f Z Z AV λa f=>Ab ?_
     rcases Af am with⟨aY,am⟩|⟨aY,am⟩
     ·refine Al f Z aY ?_
      refine Ag ?_
      refine Ac f Z λa f=>Ab ?_
      refine Ar ?_
      obtain rfl:=sj am
      obtain rfl:=an _ rfl
      obtain rfl:=sj hd
      exact⟨[(.bool false)],f.g Z,f.d,_,[ak],(gt ao aW),m,_,Z,Z,ap⟩
     ·refine Aj f Z aY ?_
      refine An ?_
      refine Ah ?_
      refine Bj Az m ?_
      refine p_p 2 Z f (λ_=>AU (f.e Z)) λa f=>p_p 3 Z f (λ_=>AU (f.e Z)) λa f=>p_p 4 Z f (λ_=>AB (f.e Z) (f.e Z) AF) λa f=>Bi 28015 12 (by kernel_rfl) Z ?_
      refine Ae 0 28015 Z f Z λa f=>Ae 1 28015 Z f Z λa f=>Ae 5 28015 Z f Z λa f=>Ae 6 28015 Z f Z λa f=>q_p 7 28015 Z f (λ_=>AB (f.e Z) (f.e Z) AF) λa f=> ?_
      have⟨aZ,a0,am⟩:=bind_some am
      refine Aw (i:=8) (listed':= #[true,true,true,true,true,true,true,true,true,false,false,false,false,false,false,false,false,false]) (C:=P2) 28015 0 m ap Z AX a0 Z (by kernel_rfl) Z f Z Z Z Z λa1 a a2 f=>Ax (i:=9) (listed':= #[true,true,true,true,true,true,true,true,true,true,false,false,false,false,false,false,false,false]) (C:=P2) [(iv aZ.1),(iv aZ.2)] 28015 0 ap Z Bh a2 a0 Z Z (by kernel_rfl) Z f Z Z Z λa f=>Ae 10 28015 Z f Z λa f=>Ae 11 28015 Z f Z λa f=> ?_
      have⟨a3,a4,am⟩:=bind_some am
      refine Aw (i:=12) (listed':= #[true,true,true,true,true,true,true,true,true,true,true,true,true,false,false,false,false,false]) (C:=P2) 28015 0 m ap Z AX a4 Z (by kernel_rfl) Z f Z Z Z Z λa5 a a6 f=>Ax (i:=13) (listed':= #[true,true,true,true,true,true,true,true,true,true,true,true,true,true,false,false,false,false]) (C:=P2) [(iv a3.1),(iv a3.2)] 28015 0 ap Z Bh a6 a4 Z Z (by kernel_rfl) Z f Z Z Z λa f=> ?_
      have⟨a7,a8,am⟩:=bind_some am
      refine Aw (i:=14) (listed':= #[true,true,true,true,true,true,true,true,true,true,true,true,true,true,true,false,false,false]) (C:=P2) 28015 0 m ap Z AX a8 Z (by kernel_rfl) Z f Z Z Z Z λa9 a ba f=>AN λbb w bc m=> ?_
      have ap:=OwR.mono trivial bc ap
      refine AZ (E:=P2) (y':=(aZ.1,aZ.2)) [(iv aZ.1),(iv aZ.2)] 0 m ap Z sizeOf90 f Z Z ba a8 Z (Ap Z (Ap Z AH)) (lb Z) Z λbd w m be=> ?_
      have⟨bf,bg,am⟩:=bind_some am
      refine Bz 0 m be Z AX f Z Z Z bg λbh a bi f=>AZ (E:=P2) (y':=(a3.1,a3.2)) [(iv a3.1),(iv a3.2)] 0 m be Z sizeOf90 f Z Z bi bg Z (Ap Z (Ap Z AH)) (lb Z) Z λbj w m bk=>Ab (Ah (Ag ?_))
      refine Aa f Z λa f=>Aa f Z λa f=>Ai f Z Z AF λa f=>Ai f Z Z BH λa f=>Ab ?_
      have⟨bl,bm,am⟩:=bind_some am
      refine AJ (λa w=>∃bn:List (Int×Int),bn=bl∧∃(bo:GH) (bp:Itm),GLe bb bo∧Fr a 141 [(0,v0),(1,(iv x1)),(2,(iv x2)),(3,(.func (.func 114) #[] #[])),(9,(iv av)),(10,(iv ai))]∧Mem W bo w (bp::H)∧OwR P2 90 bo bp v0 bn) ?_ ?_
      ·rcases Af bm with⟨bq,bm⟩|⟨bq,bm⟩
       ·refine Al f Z bq ?_
        refine Ag ?_
        refine Aa f Z λa f=>Ai f Z Z AF λa f=>Ac f Z λa f=>Ab ?_
        have⟨br,bs,bm⟩:=bind_some bm
        refine AJ (λa w=>∃bt:List (Int×Int),bt=br∧∃(bu:GH) (bv:Itm),GLe bb bu∧Fr a 141 [(0,v0),(1,(iv x1)),(2,(iv x2)),(3,(.func (.func 114) #[] #[])),(9,(iv av)),(10,(iv ai))]∧Mem W bu w (bv::H)∧OwR P2 90 bu bv v0 bt) ?_ ?_
        ·refine Ak ?_
         refine AK (λbw a w=>∃bx:List (Int×Int),∃bz:Int,(bx,bz)=bw∧∃(bA:GH) (bB:Itm),GLe bb bA∧Fr a 141 [(0,v0),(1,(iv x1)),(2,(iv x2)),(3,(.func (.func 114) #[] #[])),(9,(iv av)),(10,(iv ai)),(11,(iv bz))]∧Mem W bA w (bB::H)∧OwR P2 90 bA bB v0 bx) bs ⟨_,_,Z,_,bj,gr,f.k Z,m,bk⟩ ?_
         clear bs f m
         rintro bw bC bD bE a w ⟨bx,bz,rfl,bA,bB,bF,f,m,bG⟩
         refine Ah (Ag ?_)
         refine Aa f Z λa f=>Ai f Z Z BH λa f=>Ab ?_
         rcases Af bD with⟨bH,bD⟩|⟨bH,bD⟩
         ·refine Al f Z bH ?_
          refine An ?_
          refine Ah (Ak (Ah (Ah ?_)))
          refine A4 13 Az (by kernel_rfl) m ?_
          refine Ae 0 13 Z f Z λa f=>Ae 1 13 Z f Z λa f=>Ae 2 13 Z f Z λa f=> ?_
          have⟨bI,bJ,bD⟩:=bind_some bD
          refine Aw (i:=3) (listed':= #[true,true,true,true,false,false,false,false,false,false,false,false,false]) (C:=P2) 13 0 m bG Z AX bJ Z (by kernel_rfl) Z f Z Z Z Z λbK a bL f=>Ax (i:=4) (listed':= #[true,true,true,true,true,false,false,false,false,false,false,false,false]) (C:=P2) [(iv bI.1),(iv bI.2)] 13 0 bG Z Bh bL bJ Z Z (by kernel_rfl) Z f Z Z Z λa f=>Ae 5 13 Z f Z λa f=>Ae 6 13 Z f Z λa f=>q_p 7 13 Z f (λ_=>AB (f.e Z) (f.e Z) AF) λa f=> ?_
          have⟨bM,bN,bD⟩:=bind_some bD
          refine Aw (i:=8) (listed':= #[true,true,true,true,true,true,true,true,true,false,false,false,false]) (C:=P2) 13 0 m bG Z AX bN Z (by kernel_rfl) Z f Z Z Z Z λbO a bP f=>Ax (i:=9) (listed':= #[true,true,true,true,true,true,true,true,true,true,false,false,false]) (C:=P2) [(iv bM.1),(iv bM.2)] 13 0 bG Z Bh bP bN Z Z (by kernel_rfl) Z f Z Z Z λa f=> ?_
          have⟨bQ,bR,bD⟩:=bind_some bD
          refine B8 (i:=10) 13 Z (by kernel_rfl) Z f Z Z Z Z call114 (λ_ _ w bS m=>Wk.c m bR) λa f=>q_p 11 13 Z f (λ_=>AB (f.e Z) (f.e Z) AV) λa f=>q_p 12 13 Z f (λ_=>Bg (f.e Z)) λa f=>AN λbT w bU m=> ?_
          have bG:=OwR.mono trivial bU bG
          refine Ab ?_
          rcases Af bD with⟨bV,bD⟩|⟨bV,bD⟩
          ·refine Al f Z bV ?_
           refine AG Z ?_
           obtain rfl:=sj bD
           obtain rfl:=bE _ rfl
           exact⟨_,Z,_,bB,(gt bF bU),f.k Z,m,bG⟩
          ·refine Aj f Z bV ?_
           refine An ?_
           refine Bj Az m ?_
           refine p_p 2 Z f (λ_=>AU (f.e Z)) λa f=>p_p 3 Z f (λ_=>AU (f.e Z)) λa f=>p_p 4 Z f (λ_=>AB (f.e Z) (f.e Z) AF) λa f=>Bi 28015 12 (by kernel_rfl) Z ?_
           refine Ae 0 28015 Z f Z λa f=>Ae 1 28015 Z f Z λa f=>Ae 5 28015 Z f Z λa f=>Ae 6 28015 Z f Z λa f=>q_p 7 28015 Z f (λ_=>AB (f.e Z) (f.e Z) AF) λa f=> ?_
           have⟨bW,bX,bD⟩:=bind_some bD
           refine Aw (i:=8) (listed':= #[true,true,true,true,true,true,true,true,true,false,false,false,false,false,false,false,false,false]) (C:=P2) 28015 0 m bG Z AX bX Z (by kernel_rfl) Z f Z Z Z Z λbY a bZ f=>Ax (i:=9) (listed':= #[true,true,true,true,true,true,true,true,true,true,false,false,false,false,false,false,false,false]) (C:=P2) [(iv bW.1),(iv bW.2)] 28015 0 bG Z Bh bZ bX Z Z (by kernel_rfl) Z f Z Z Z λa f=>Ae 10 28015 Z f Z λa f=>Ae 11 28015 Z f Z λa f=> ?_
           have⟨b0,b1,bD⟩:=bind_some bD
           refine Aw (i:=12) (listed':= #[true,true,true,true,true,true,true,true,true,true,true,true,true,false,false,false,false,false]) (C:=P2) 28015 0 m bG Z AX b1 Z (by kernel_rfl) Z f Z Z Z Z λb2 a b3 f=>Ax (i:=13) (listed':= #[true,true,true,true,true,true,true,true,true,true,true,true,true,true,false,false,false,false]) (C:=P2) [(iv b0.1),(iv b0.2)] 28015 0 bG Z Bh b3 b1 Z Z (by kernel_rfl) Z f Z Z Z λa f=> ?_
           have⟨b4,b5,bD⟩:=bind_some bD
           refine Aw (i:=14) (listed':= #[true,true,true,true,true,true,true,true,true,true,true,true,true,true,true,false,false,false]) (C:=P2) 28015 0 m bG Z AX b5 Z (by kernel_rfl) Z f Z Z Z Z λb6 a b7 f=>AN λb8 w b9 m=> ?_
           have bG:=OwR.mono trivial b9 bG
           refine AZ (E:=P2) (y':=(bW.1,bW.2)) [(iv bW.1),(iv bW.2)] 0 m bG Z sizeOf90 f Z Z b7 b5 Z (Ap Z (Ap Z AH)) (lb Z) Z λca w m cb=> ?_
           have⟨cc,cd,bD⟩:=bind_some bD
           refine Bz 0 m cb Z AX f Z Z Z cd λce a cf f=>AZ (E:=P2) (y':=(b0.1,b0.2)) [(iv b0.1),(iv b0.2)] 0 m cb Z sizeOf90 f Z Z cf cd Z (Ap Z (Ap Z AH)) (lb Z) Z λcg w m ch=>Ab (Ao ?_)
           refine Aa f Z λa f=>Ai f Z Z AF λa f=>Ac f Z λa f=>Ab ?_
           obtain rfl:=sj bD
           exact⟨_,Z,_,_,Z,_,cg,(gt bF (gt bU b9)),f.k Z,m,ch⟩
         ·refine Aj f Z bH ?_
          refine AG Z ?_
          obtain rfl:=sj bD
          obtain rfl:=bE _ rfl
          exact⟨_,Z,_,bB,bF,f.k Z,m,bG⟩
        ·rintro a w ⟨bt,rfl,bu,bv,ci,f,m,cj⟩
         obtain rfl:=sj bm
         exact⟨_,Z,_,bv,ci,f.k Z,m,cj⟩
       ·refine Aj f Z bq ?_
        refine An ?_
        obtain rfl:=sj bm
        exact⟨_,Z,_,bj,gr,f.k Z,m,bk⟩
      ·rintro a w ⟨bn,rfl,bo,bp,ck,f,m,cl⟩
       refine Ag ?_
       refine Aa f Z λa f=>Aa f Z λa f=>Ai f Z Z AF λa f=>Ai f Z Z BH λa f=>Ab ?_
       rcases Af am with⟨cm,am⟩|⟨cm,am⟩
       ·refine Al f Z cm ?_
        refine Ag ?_
        refine Aa f Z λa f=>Ai f Z Z As λa f=>Ac f Z λa f=>Ab ?_
        have⟨cn,co,am⟩:=bind_some am
        refine AJ (λa w=>∃cp:List (Int×Int),cp=cn∧∃(cq:GH) (cr:Itm),GLe bo cq∧Fr a 141 [(0,v0),(1,(iv x1)),(2,(iv x2)),(3,(.func (.func 114) #[] #[])),(9,(iv av)),(10,(iv ai))]∧Mem W cq w (cr::H)∧OwR P2 90 cq cr v0 cp) ?_ ?_
        ·refine Ak ?_
         refine AK (λcs a w=>∃ct:List (Int×Int),∃cu:Int,(ct,cu)=cs∧∃(cv:GH) (cw:Itm),GLe bo cv∧Fr a 141 [(0,v0),(1,(iv x1)),(2,(iv x2)),(3,(.func (.func 114) #[] #[])),(9,(iv av)),(10,(iv ai)),(12,(iv cu))]∧Mem W cv w (cw::H)∧OwR P2 90 cv cw v0 ct) co ⟨_,_,Z,_,bp,gr,f.k Z,m,cl⟩ ?_
         clear co f m
         rintro cs cx cy cz a w ⟨ct,cu,rfl,cv,cw,cA,f,m,cB⟩
         refine Ah (Ag ?_)
         refine Aa f Z λa f=>Aa f Z λa f=>Ai f Z Z AV λa f=>Ab ?_
         rcases Af cy with⟨cC,cy⟩|⟨cC,cy⟩
         ·refine Al f Z cC ?_
          refine An ?_
          refine Ah (Ak (Ah (Ah ?_)))
          refine A4 13 Az (by kernel_rfl) m ?_
          refine Ae 0 13 Z f Z λa f=>Ae 1 13 Z f Z λa f=>Ae 2 13 Z f Z λa f=> ?_
          have⟨cD,cE,cy⟩:=bind_some cy
          refine Aw (i:=3) (listed':= #[true,true,true,true,false,false,false,false,false,false,false,false,false]) (C:=P2) 13 0 m cB Z AX cE Z (by kernel_rfl) Z f Z Z Z Z λcF a cG f=>Ax (i:=4) (listed':= #[true,true,true,true,true,false,false,false,false,false,false,false,false]) (C:=P2) [(iv cD.1),(iv cD.2)] 13 0 cB Z Bh cG cE Z Z (by kernel_rfl) Z f Z Z Z λa f=>Ae 5 13 Z f Z λa f=>Ae 6 13 Z f Z λa f=>q_p 7 13 Z f (λ_=>AB (f.e Z) (f.e Z) AF) λa f=> ?_
          have⟨cH,cI,cy⟩:=bind_some cy
          refine Aw (i:=8) (listed':= #[true,true,true,true,true,true,true,true,true,false,false,false,false]) (C:=P2) 13 0 m cB Z AX cI Z (by kernel_rfl) Z f Z Z Z Z λcJ a cK f=>Ax (i:=9) (listed':= #[true,true,true,true,true,true,true,true,true,true,false,false,false]) (C:=P2) [(iv cH.1),(iv cH.2)] 13 0 cB Z Bh cK cI Z Z (by kernel_rfl) Z f Z Z Z λa f=> ?_
          have⟨cL,cM,cy⟩:=bind_some cy
          refine B8 (i:=10) 13 Z (by kernel_rfl) Z f Z Z Z Z call114 (λ_ _ w cN m=>Wk.c m cM) λa f=>q_p 11 13 Z f (λ_=>AB (f.e Z) (f.e Z) AV) λa f=>q_p 12 13 Z f (λ_=>Bg (f.e Z)) λa f=>AN λcO w cP m=> ?_
          have cB:=OwR.mono trivial cP cB
          refine Ab ?_
          rcases Af cy with⟨cQ,cy⟩|⟨cQ,cy⟩
          ·refine Al f Z cQ ?_
           refine AG Z ?_
           obtain rfl:=sj cy
           obtain rfl:=cz _ rfl
           exact⟨_,Z,_,cw,(gt cA cP),f.k Z,m,cB⟩
          ·refine Aj f Z cQ ?_
           refine An ?_
           refine Bj Az m ?_
           refine p_p 2 Z f (λ_=>AU (f.e Z)) λa f=>p_p 3 Z f (λ_=>AU (f.e Z)) λa f=>p_p 4 Z f (λ_=>AB (f.e Z) (f.e Z) AF) λa f=>Bi 28015 12 (by kernel_rfl) Z ?_
           refine Ae 0 28015 Z f Z λa f=>Ae 1 28015 Z f Z λa f=>Ae 5 28015 Z f Z λa f=>Ae 6 28015 Z f Z λa f=>q_p 7 28015 Z f (λ_=>AB (f.e Z) (f.e Z) AF) λa f=> ?_
           have⟨cR,cS,cy⟩:=bind_some cy
           refine Aw (i:=8) (listed':= #[true,true,true,true,true,true,true,true,true,false,false,false,false,false,false,false,false,false]) (C:=P2) 28015 0 m cB Z AX cS Z (by kernel_rfl) Z f Z Z Z Z λcT a cU f=>Ax (i:=9) (listed':= #[true,true,true,true,true,true,true,true,true,true,false,false,false,false,false,false,false,false]) (C:=P2) [(iv cR.1),(iv cR.2)] 28015 0 cB Z Bh cU cS Z Z (by kernel_rfl) Z f Z Z Z λa f=>Ae 10 28015 Z f Z λa f=>Ae 11 28015 Z f Z λa f=> ?_
           have⟨cV,cW,cy⟩:=bind_some cy
           refine Aw (i:=12) (listed':= #[true,true,true,true,true,true,true,true,true,true,true,true,true,false,false,false,false,false]) (C:=P2) 28015 0 m cB Z AX cW Z (by kernel_rfl) Z f Z Z Z Z λcX a cY f=>Ax (i:=13) (listed':= #[true,true,true,true,true,true,true,true,true,true,true,true,true,true,false,false,false,false]) (C:=P2) [(iv cV.1),(iv cV.2)] 28015 0 cB Z Bh cY cW Z Z (by kernel_rfl) Z f Z Z Z λa f=> ?_
           have⟨cZ,c0,cy⟩:=bind_some cy
           refine Aw (i:=14) (listed':= #[true,true,true,true,true,true,true,true,true,true,true,true,true,true,true,false,false,false]) (C:=P2) 28015 0 m cB Z AX c0 Z (by kernel_rfl) Z f Z Z Z Z λc1 a c2 f=>AN λc3 w c4 m=> ?_
           have cB:=OwR.mono trivial c4 cB
           refine AZ (E:=P2) (y':=(cR.1,cR.2)) [(iv cR.1),(iv cR.2)] 0 m cB Z sizeOf90 f Z Z c2 c0 Z (Ap Z (Ap Z AH)) (lb Z) Z λc5 w m c6=> ?_
           have⟨c7,c8,cy⟩:=bind_some cy
           refine Bz 0 m c6 Z AX f Z Z Z c8 λc9 a da f=>AZ (E:=P2) (y':=(cV.1,cV.2)) [(iv cV.1),(iv cV.2)] 0 m c6 Z sizeOf90 f Z Z da c8 Z (Ap Z (Ap Z AH)) (lb Z) Z λdb w m dc=>Ab (Ao ?_)
           refine Aa f Z λa f=>Ai f Z Z As λa f=>Ac f Z λa f=>Ab ?_
           obtain rfl:=sj cy
           exact⟨_,Z,_,_,Z,_,db,(gt cA (gt cP c4)),f.k Z,m,dc⟩
         ·refine Aj f Z cC ?_
          refine AG Z ?_
          obtain rfl:=sj cy
          obtain rfl:=cz _ rfl
          exact⟨_,Z,_,cw,cA,f.k Z,m,cB⟩
        ·rintro a w ⟨cp,rfl,cq,cr,dd,f,m,de⟩
         refine Ao ?_
         refine Aa f Z λa f=>Ai f Z Z As λa f=>Ac f Z λa f=>Ab ?_
         obtain rfl:=sj am
         exact⟨_,Z,_,_,_,Z,_,cr,(gt ao (gt aW (gt bc (gt ck dd)))),f.k Z,m,de⟩
       ·refine Aj f Z cm ?_
        refine An ?_
        refine Ao ?_
        refine Aa f Z λa f=>Ai f Z Z As λa f=>Ac f Z λa f=>Ab ?_
        obtain rfl:=sj am
        exact⟨_,Z,_,_,_,Z,_,bp,(gt ao (gt aW (gt bc ck))),f.k Z,m,cl⟩
  ·refine Aj f Z aq ?_
   refine AG Z ?_
   obtain rfl:=sj am
   obtain rfl:=an _ rfl
   exact⟨_,Z,_,Z,_,ak,ao,f.weak trivial,m,ap⟩
 ·rintro a w ⟨_,rfl,ac,rfl,ad,ae,df,f,m,dg⟩
  refine Ag ?_
  refine Ac f Z λa f=>Ab ?_
  refine Ar ?_
  obtain rfl:=sj hd
  exact⟨[(.bool false)],f.g Z,f.d,_,[ae],df,m,_,Z,Z,dg⟩
theorem Wk.V0 {v0:Value}{it0:Itm}{x0:(List (Int×Int))}{x1 x2 x3:Int}(m:Mem W G w (it0::H))(o0:OwR P2 90 G it0 v0 x0){y:Int×((List (Int×Int)))}(hd:D.V0 x0 x1 x2 x3=some y):
  Calls prog 148 #[v0,(iv x1),(iv x2),(iv x3),(.func (.func 114) #[] #[])] w (Res W G H (λG' Ho v=>∃i0:Itm,Ho=[i0]∧v=(iv y.1)∧OwR P2 90 G' i0 v0 y.2)):=by
 refine Au (args:=[v0,(iv x1),(iv x2),(iv x3),(.func (.func 114) #[] #[])]) (N:=90) [.tmp 10] func148 Z Z (lb Z) Z λa f=> ?_
 unfold D.V0 at hd
 refine Ag ?_
 refine Ac f Z λa f=>Ab (Ah ?_)
 refine Bj Az m ?_
 refine p_p 2 Z f (λ_=>AU (f.e Z)) λa f=>p_p 3 Z f (λ_=>AU (f.e Z)) λa f=>Bi 12013 11 (by kernel_rfl) Z ?_
 refine Ae 0 12013 Z f Z λa f=>Ae 1 12013 Z f Z λa f=>Ae 4 12013 Z f Z λa f=>Ae 5 12013 Z f Z λa f=> ?_
 have⟨aa,ab,hd⟩:=bind_some hd
 refine Aw (i:=6) (listed':= #[true,true,true,true,true,true,true,false,false,false,false,false,false,false,false,false]) (C:=P2) 12013 0 m o0 Z AX ab Z (by kernel_rfl) Z f Z Z Z Z λac a ad f=>Ax (i:=7) (listed':= #[true,true,true,true,true,true,true,true,false,false,false,false,false,false,false,false]) (C:=P2) [(iv aa.1),(iv aa.2)] 12013 0 o0 Z Bh ad ab Z Z (by kernel_rfl) Z f Z Z Z λa f=>Ae 8 12013 Z f Z λa f=>Ae 9 12013 Z f Z λa f=> ?_
 have⟨ae,af,hd⟩:=bind_some hd
 refine Aw (i:=10) (listed':= #[true,true,true,true,true,true,true,true,true,true,true,false,false,false,false,false]) (C:=P2) 12013 0 m o0 Z AX af Z (by kernel_rfl) Z f Z Z Z Z λag a ah f=>Ax (i:=11) (listed':= #[true,true,true,true,true,true,true,true,true,true,true,true,false,false,false,false]) (C:=P2) [(iv ae.1),(iv ae.2)] 12013 0 o0 Z Bh ah af Z Z (by kernel_rfl) Z f Z Z Z λa f=> ?_
 have⟨ai,aj,hd⟩:=bind_some hd
 refine Aw (i:=12) (listed':= #[true,true,true,true,true,true,true,true,true,true,true,true,true,false,false,false]) (C:=P2) 12013 0 m o0 Z AX aj Z (by kernel_rfl) Z f Z Z Z Z λak a al f=>AN λam w an m=> ?_
 have o0:=OwR.mono trivial an o0
 refine AZ (E:=P2) (y':=(aa.1,aa.2)) [(iv aa.1),(iv aa.2)] 0 m o0 Z sizeOf90 f Z Z al aj Z (Ap Z (Ap Z AH)) (lb Z) Z λao w m ap=> ?_
 have⟨aq,ar,hd⟩:=bind_some hd
 refine Bz 0 m ap Z AX f Z Z Z ar λau a av f=>AZ (E:=P2) (y':=(ae.1,ae.2)) [(iv ae.1),(iv ae.2)] 0 m ap Z sizeOf90 f Z Z av ar Z (Ap Z (Ap Z AH)) (lb Z) Z λaw w m ax=>Ay ?_
 refine Aa f Z λa f=>Ai f Z Z As λa f=>Aa f Z λa f=>Ai f Z Z AF λa f=>Ac f Z λa f=>Ac f Z λa f=>Ab (Ah ?_)
 have⟨ay,az,hd⟩:=bind_some hd
 refine AJ (λa w=>∃aA:List (Int×Int),∃aB:Int,(aA,aB)=ay∧∃(aC:GH) (aD:Itm),GLe am aC∧Fr a 90 [(11,(iv aB))]∧Mem W aC w (aD::H)∧OwR P2 90 aC aD v0 aA) ?_ ?_
 ·refine Ak ?_
  refine AK (λaE a w=>∃aF:List (Int×Int),∃aG:Int,∃aH:Int,(aF,aG,aH)=aE∧∃(aI:GH) (aJ:Itm),GLe am aI∧Fr a 90 [(0,v0),(1,(iv x1)),(4,(.func (.func 114) #[] #[])),(11,(iv aG)),(12,(iv aH))]∧Mem W aI w (aJ::H)∧OwR P2 90 aI aJ v0 aF) az ⟨_,_,_,Z,_,aw,gr,f.k Z,m,ax⟩ ?_
  clear az f m
  rintro aE aK aL aM a w ⟨aF,aG,aH,rfl,aI,aJ,aN,f,m,aO⟩
  refine Ak (Ah ?_)
  have⟨aP,aQ,aL⟩:=bind_some aL
  refine AJ (λa w=>∃aR:Int,aR=aP∧∃(aS:GH),GLe aI aS∧Fr a 90 [(0,v0),(1,(iv x1)),(4,(.func (.func 114) #[] #[])),(11,(iv aR)),(12,(iv aH))]∧Mem W aS w (aJ::H)) ?_ ?_
  ·refine Ak ?_
   refine AK (λaT a w=>∃aU:Int,aU=aT∧∃(aV:GH),GLe aI aV∧Fr a 90 [(0,v0),(1,(iv x1)),(4,(.func (.func 114) #[] #[])),(11,(iv aU)),(12,(iv aH))]∧Mem W aV w (aJ::H)) aQ ⟨_,Z,_,gr,f.k Z,m⟩ ?_
   clear aQ f m
   rintro aT aW aX aY a w ⟨aU,rfl,aV,aZ,f,m⟩
   have aO:=OwR.mono trivial aZ aO
   refine Ah (Ah ?_)
   refine A4 17 Az (by kernel_rfl) m ?_
   refine Ae 0 17 Z f Z λa f=>Ae 1 17 Z f Z λa f=>q_p 2 17 Z f (λ_=>AB (f.e Z) (f.e Z) B5) λa f=>Ae 3 17 Z f Z λa f=> ?_
   have⟨a0,a1,aX⟩:=bind_some aX
   refine BR (fuel':=0) (listed':= #[true,true,true,true,true,true,true,true,true,true,true,true,true,true,true,true,true]) (λa=>Fr a 90 [(0,v0),(1,(iv x1)),(4,(.func (.func 114) #[] #[])),(11,(iv aU)),(12,(iv aH)),(31,(iv aU)),(32,(iv aH)),(33,(.bool (decide (aU≤aH)))),(34,(.bool (decide (aU≤aH)))),(47,(.bool a0))]) ?_ ?_
   ·intro a f
    refine AN λa2 w a3 m=>Ab ?_
    rcases Af aX with⟨a4,aX⟩|⟨a4,aX⟩
    ·refine Al f Z a4 ?_
     refine An ?_
     refine Ak (Ao ?_)
     refine Aa f Z λa f=>Ai f Z Z As λa f=>Ac f Z λa f=>Ab ?_
     obtain rfl:=sj aX
     exact⟨_,Z,_,Z,_,(gt aZ a3),f.k Z,m⟩
    ·refine Aj f Z a4 ?_
     refine AG Z ?_
     obtain rfl:=sj aX
     obtain rfl:=aY _ rfl
     exact⟨_,Z,_,(gt aZ a3),f.k Z,m⟩
   ·intro a5
    rcases Af a1 with⟨a6,a1⟩|⟨a6,a1⟩
    ·refine Ae (hw:=wo f a6) 4 17 Z f Z λa f=> ?_
     refine Ae (hw:=wo f a6) 5 17 Z f Z λa f=>Ae (hw:=wo f a6) 6 17 Z f Z λa f=> ?_
     have⟨a7,a8,a1⟩:=bind_some a1
     refine Aw (i:=7) (listed':= #[true,true,true,true,true,true,true,true,false,false,false,false,false,false,false,false,false]) (C:=P2) 17 0 m aO Z AX a8 Z (by kernel_rfl) Z f (AC f Z Z Z a6) Z Z Z λa9 a ba f=>Ax (i:=8) (listed':= #[true,true,true,true,true,true,true,true,true,false,false,false,false,false,false,false,false]) (C:=P2) [(iv a7.1),(iv a7.2)] 17 0 aO Z Bh ba a8 Z Z (by kernel_rfl) Z f (AC f Z Z Z a6) Z Z λa f=>Ae (hw:=wo f a6) 9 17 Z f Z λa f=>Ae (hw:=wo f a6) 10 17 Z f Z λa f=> ?_
     have⟨bb,bc,a1⟩:=bind_some a1
     refine Aw (i:=11) (listed':= #[true,true,true,true,true,true,true,true,true,true,true,true,false,false,false,false,false]) (C:=P2) 17 0 m aO Z AX bc Z (by kernel_rfl) Z f (AC f Z Z Z a6) Z Z Z λbd a be f=>Ax (i:=12) (listed':= #[true,true,true,true,true,true,true,true,true,true,true,true,true,false,false,false,false]) (C:=P2) [(iv bb.1),(iv bb.2)] 17 0 aO Z Bh be bc Z Z (by kernel_rfl) Z f (AC f Z Z Z a6) Z Z λa f=> ?_
     have⟨bf,bg,a1⟩:=bind_some a1
     refine B8 (i:=13) 17 Z (by kernel_rfl) Z f (AC f Z Z Z a6) Z Z Z call114 (λ_ _ w bh m=>Wk.c m bg) λa f=>q_p (hw:=wo f a6) 14 17 Z f (λ_=>AB (f.e Z) (f.e Z) AV) λa f=>q_p (hw:=wo f a6) 15 17 Z f (λ_=>Bg (f.e Z)) λa f=>q_p 16 17 Z f (λ_=>AS (f.e Z) a6 (f.e Z)) λa f=> ?_
     obtain rfl:=sj a1
     exact a5 _ (f.k Z)
    ·refine Am 4 17 Z f a6 λa f=> ?_
     refine Am 5 17 Z f a6 λa f=>Am 6 17 Z f a6 λa f=>Am 7 17 Z f a6 λa f=>Am 8 17 Z f a6 λa f=>Am 9 17 Z f a6 λa f=>Am 10 17 Z f a6 λa f=>Am 11 17 Z f a6 λa f=>Am 12 17 Z f a6 λa f=>Am 13 17 Z f a6 λa f=>Am 14 17 Z f a6 λa f=>Am 15 17 Z f a6 λa f=>q_p 16 17 Z f (λ_=>AR (f.e Z) a6 (f.e Z)) λa f=> ?_
     obtain rfl:=sj a1
     exact a5 _ (f.k Z)
  ·rintro a w ⟨aR,rfl,aS,bi,f,m⟩
   have aO:=OwR.mono trivial bi aO
   refine Ah ?_
   have⟨bj,bk,aL⟩:=bind_some aL
   refine AJ (λa w=>∃bl:Int,bl=bj∧∃(bm:GH),GLe aS bm∧Fr a 90 [(0,v0),(1,(iv x1)),(4,(.func (.func 114) #[] #[])),(11,(iv aR)),(12,(iv bl))]∧Mem W bm w (aJ::H)) ?_ ?_
   ·refine Ak ?_
    refine AK (λbn a w=>∃bo:Int,bo=bn∧∃(bp:GH),GLe aS bp∧Fr a 90 [(0,v0),(1,(iv x1)),(4,(.func (.func 114) #[] #[])),(11,(iv aR)),(12,(iv bo))]∧Mem W bp w (aJ::H)) bk ⟨_,Z,_,gr,f.k Z,m⟩ ?_
    clear bk f m
    rintro bn bq br bs a w ⟨bo,rfl,bp,bt,f,m⟩
    have aO:=OwR.mono trivial bt aO
    refine Ah (Ah ?_)
    refine A4 16 Az (by kernel_rfl) m ?_
    refine Ae 0 16 Z f Z λa f=>Ae 1 16 Z f Z λa f=>q_p 2 16 Z f (λ_=>AB (f.e Z) (f.e Z) B5) λa f=>Ae 3 16 Z f Z λa f=> ?_
    have⟨bu,bv,br⟩:=bind_some br
    refine BR (fuel':=0) (listed':= #[true,true,true,true,true,true,true,true,true,true,true,true,true,true,true,true]) (λa=>Fr a 90 [(0,v0),(1,(iv x1)),(4,(.func (.func 114) #[] #[])),(11,(iv aR)),(12,(iv bo)),(50,(iv aR)),(51,(iv bo)),(52,(.bool (decide (aR≤bo)))),(53,(.bool (decide (aR≤bo)))),(65,(.bool bu))]) ?_ ?_
    ·intro a f
     refine AN λbw w bx m=>Ab ?_
     rcases Af br with⟨bz,br⟩|⟨bz,br⟩
     ·refine Al f Z bz ?_
      refine An ?_
      refine Ak (Ao ?_)
      refine Aa f Z λa f=>Ai f Z Z AF λa f=>Ac f Z λa f=>Ab ?_
      obtain rfl:=sj br
      exact⟨_,Z,_,Z,_,(gt bt bx),f.k Z,m⟩
     ·refine Aj f Z bz ?_
      refine AG Z ?_
      obtain rfl:=sj br
      obtain rfl:=bs _ rfl
      exact⟨_,Z,_,(gt bt bx),f.k Z,m⟩
    ·intro bA
     rcases Af bv with⟨bB,bv⟩|⟨bB,bv⟩
     ·refine Ae (hw:=wo f bB) 4 16 Z f Z λa f=> ?_
      refine Ae (hw:=wo f bB) 5 16 Z f Z λa f=>Ae (hw:=wo f bB) 6 16 Z f Z λa f=> ?_
      have⟨bC,bD,bv⟩:=bind_some bv
      refine Aw (i:=7) (listed':= #[true,true,true,true,true,true,true,true,false,false,false,false,false,false,false,false]) (C:=P2) 16 0 m aO Z AX bD Z (by kernel_rfl) Z f (AC f Z Z Z bB) Z Z Z λbE a bF f=>Ax (i:=8) (listed':= #[true,true,true,true,true,true,true,true,true,false,false,false,false,false,false,false]) (C:=P2) [(iv bC.1),(iv bC.2)] 16 0 aO Z Bh bF bD Z Z (by kernel_rfl) Z f (AC f Z Z Z bB) Z Z λa f=>Ae (hw:=wo f bB) 9 16 Z f Z λa f=>Ae (hw:=wo f bB) 10 16 Z f Z λa f=> ?_
      have⟨bG,bH,bv⟩:=bind_some bv
      refine Aw (i:=11) (listed':= #[true,true,true,true,true,true,true,true,true,true,true,true,false,false,false,false]) (C:=P2) 16 0 m aO Z AX bH Z (by kernel_rfl) Z f (AC f Z Z Z bB) Z Z Z λbI a bJ f=>Ax (i:=12) (listed':= #[true,true,true,true,true,true,true,true,true,true,true,true,true,false,false,false]) (C:=P2) [(iv bG.1),(iv bG.2)] 16 0 aO Z Bh bJ bH Z Z (by kernel_rfl) Z f (AC f Z Z Z bB) Z Z λa f=> ?_
      have⟨bK,bL,bv⟩:=bind_some bv
      refine B8 (i:=13) 16 Z (by kernel_rfl) Z f (AC f Z Z Z bB) Z Z Z call114 (λ_ _ w bM m=>Wk.c m bL) λa f=>q_p (hw:=wo f bB) 14 16 Z f (λ_=>AB (f.e Z) (f.e Z) AV) λa f=>q_p 15 16 Z f (λ_=>AS (f.e Z) bB (f.e Z)) λa f=> ?_
      obtain rfl:=sj bv
      exact bA _ (f.k Z)
     ·refine Am 4 16 Z f bB λa f=> ?_
      refine Am 5 16 Z f bB λa f=>Am 6 16 Z f bB λa f=>Am 7 16 Z f bB λa f=>Am 8 16 Z f bB λa f=>Am 9 16 Z f bB λa f=>Am 10 16 Z f bB λa f=>Am 11 16 Z f bB λa f=>Am 12 16 Z f bB λa f=>Am 13 16 Z f bB λa f=>Am 14 16 Z f bB λa f=>q_p 15 16 Z f (λ_=>AR (f.e Z) bB (f.e Z)) λa f=> ?_
      obtain rfl:=sj bv
      exact bA _ (f.k Z)
   ·rintro a w ⟨bl,rfl,bm,bN,f,m⟩
    have aO:=OwR.mono trivial bN aO
    refine Ah (Ag ?_)
    refine Aa f Z λa f=>Aa f Z λa f=>Ai f Z Z Cs λa f=>Ab ?_
    rcases Af aL with⟨bO,aL⟩|⟨bO,aL⟩
    ·refine Al f Z bO ?_
     refine AG Z ?_
     obtain rfl:=sj aL
     obtain rfl:=aM _ rfl
     exact⟨_,_,Z,_,aJ,(gt aN (gt bi bN)),f.k Z,m,aO⟩
    ·refine Aj f Z bO ?_
     refine An ?_
     refine Ah ?_
     refine Bj Az m ?_
     refine p_p 2 Z f (λ_=>AU (f.e Z)) λa f=>p_p 3 Z f (λ_=>AU (f.e Z)) λa f=>Bi 12013 11 (by kernel_rfl) Z ?_
     refine Ae 0 12013 Z f Z λa f=>Ae 1 12013 Z f Z λa f=>Ae 4 12013 Z f Z λa f=>Ae 5 12013 Z f Z λa f=> ?_
     have⟨bP,bQ,aL⟩:=bind_some aL
     refine Aw (i:=6) (listed':= #[true,true,true,true,true,true,true,false,false,false,false,false,false,false,false,false]) (C:=P2) 12013 0 m aO Z AX bQ Z (by kernel_rfl) Z f Z Z Z Z λbR a bS f=>Ax (i:=7) (listed':= #[true,true,true,true,true,true,true,true,false,false,false,false,false,false,false,false]) (C:=P2) [(iv bP.1),(iv bP.2)] 12013 0 aO Z Bh bS bQ Z Z (by kernel_rfl) Z f Z Z Z λa f=>Ae 8 12013 Z f Z λa f=>Ae 9 12013 Z f Z λa f=> ?_
     have⟨bT,bU,aL⟩:=bind_some aL
     refine Aw (i:=10) (listed':= #[true,true,true,true,true,true,true,true,true,true,true,false,false,false,false,false]) (C:=P2) 12013 0 m aO Z AX bU Z (by kernel_rfl) Z f Z Z Z Z λbV a bW f=>Ax (i:=11) (listed':= #[true,true,true,true,true,true,true,true,true,true,true,true,false,false,false,false]) (C:=P2) [(iv bT.1),(iv bT.2)] 12013 0 aO Z Bh bW bU Z Z (by kernel_rfl) Z f Z Z Z λa f=> ?_
     have⟨bX,bY,aL⟩:=bind_some aL
     refine Aw (i:=12) (listed':= #[true,true,true,true,true,true,true,true,true,true,true,true,true,false,false,false]) (C:=P2) 12013 0 m aO Z AX bY Z (by kernel_rfl) Z f Z Z Z Z λbZ a b0 f=>AN λb1 w b2 m=> ?_
     have aO:=OwR.mono trivial b2 aO
     refine AZ (E:=P2) (y':=(bP.1,bP.2)) [(iv bP.1),(iv bP.2)] 0 m aO Z sizeOf90 f Z Z b0 bY Z (Ap Z (Ap Z AH)) (lb Z) Z λb3 w m b4=> ?_
     have⟨b5,b6,aL⟩:=bind_some aL
     refine Bz 0 m b4 Z AX f Z Z Z b6 λb7 a b8 f=>AZ (E:=P2) (y':=(bT.1,bT.2)) [(iv bT.1),(iv bT.2)] 0 m b4 Z sizeOf90 f Z Z b8 b6 Z (Ap Z (Ap Z AH)) (lb Z) Z λb9 w m ca=>Ay ?_
     refine Aa f Z λa f=>Ai f Z Z As λa f=>Ac f Z λa f=>Ab (Ao ?_)
     refine Aa f Z λa f=>Ai f Z Z AF λa f=>Ac f Z λa f=>Ab ?_
     obtain rfl:=sj aL
     exact⟨_,Z,_,_,_,Z,_,b9,(gt aN (gt bi (gt bN b2))),f.k Z,m,ca⟩
 ·rintro a w ⟨aA,aB,rfl,aC,aD,cb,f,m,cc⟩
  refine Ag ?_
  refine Aa f Z λa f=>Ac f Z λa f=>Ab ?_
  refine Ar ?_
  obtain rfl:=sj hd
  exact⟨[(iv aB)],f.g Z,f.d,_,[aD],(gt an cb),m,_,Z,Z,cc⟩
theorem Wk.U0 {v0:Value}{it0:Itm}{x0:(List (Int×Int))}{x1 x2 x3:Int}(m:Mem W G w (it0::H))(o0:OwR P2 90 G it0 v0 x0){y:Int×Bool×((List (Int×Int)))}(hd:D.U0 x0 x1 x2 x3=some y):
  Calls prog 149 #[v0,(iv x1),(iv x2),(iv x3),(.func (.func 114) #[] #[])] w (Res W G H (λG' Ho v=>∃i0:Itm,Ho=[i0]∧v= .tuple #[(iv y.1),(.bool y.2.1)]∧OwR P2 90 G' i0 v0 y.2.2)):=by
 refine Au (args:=[v0,(iv x1),(iv x2),(iv x3),(.func (.func 114) #[] #[])]) (N:=178) [.tmp 10,.tmp 11] func149 Z Z (lb Z) Z λa f=> ?_
 unfold D.U0 at hd
 refine Ag ?_
 refine Ac f Z λa f=>Ac f Z λa f=>Ab (Ah ?_)
 refine Bj Az m ?_
 refine p_p 2 Z f (λ_=>AU (f.e Z)) λa f=>p_p 3 Z f (λ_=>AU (f.e Z)) λa f=>Bi 12013 11 (by kernel_rfl) Z ?_
 refine Ae 0 12013 Z f Z λa f=>Ae 1 12013 Z f Z λa f=>Ae 4 12013 Z f Z λa f=>Ae 5 12013 Z f Z λa f=> ?_
 have⟨aa,ab,hd⟩:=bind_some hd
 refine Aw (i:=6) (listed':= #[true,true,true,true,true,true,true,false,false,false,false,false,false,false,false,false]) (C:=P2) 12013 0 m o0 Z AX ab Z (by kernel_rfl) Z f Z Z Z Z λac a ad f=>Ax (i:=7) (listed':= #[true,true,true,true,true,true,true,true,false,false,false,false,false,false,false,false]) (C:=P2) [(iv aa.1),(iv aa.2)] 12013 0 o0 Z Bh ad ab Z Z (by kernel_rfl) Z f Z Z Z λa f=>Ae 8 12013 Z f Z λa f=>Ae 9 12013 Z f Z λa f=> ?_
 have⟨ae,af,hd⟩:=bind_some hd
 refine Aw (i:=10) (listed':= #[true,true,true,true,true,true,true,true,true,true,true,false,false,false,false,false]) (C:=P2) 12013 0 m o0 Z AX af Z (by kernel_rfl) Z f Z Z Z Z λag a ah f=>Ax (i:=11) (listed':= #[true,true,true,true,true,true,true,true,true,true,true,true,false,false,false,false]) (C:=P2) [(iv ae.1),(iv ae.2)] 12013 0 o0 Z Bh ah af Z Z (by kernel_rfl) Z f Z Z Z λa f=> ?_
 have⟨ai,aj,hd⟩:=bind_some hd
 refine Aw (i:=12) (listed':= #[true,true,true,true,true,true,true,true,true,true,true,true,true,false,false,false]) (C:=P2) 12013 0 m o0 Z AX aj Z (by kernel_rfl) Z f Z Z Z Z λak a al f=>AN λam w an m=> ?_
 have o0:=OwR.mono trivial an o0
 refine AZ (E:=P2) (y':=(aa.1,aa.2)) [(iv aa.1),(iv aa.2)] 0 m o0 Z sizeOf90 f Z Z al aj Z (Ap Z (Ap Z AH)) (lb Z) Z λao w m ap=> ?_
 have⟨aq,ar,hd⟩:=bind_some hd
 refine Bz 0 m ap Z AX f Z Z Z ar λau a av f=>AZ (E:=P2) (y':=(ae.1,ae.2)) [(iv ae.1),(iv ae.2)] 0 m ap Z sizeOf90 f Z Z av ar Z (Ap Z (Ap Z AH)) (lb Z) Z λaw w m ax=>Ay ?_
 refine Aa f Z λa f=>Ai f Z Z As λa f=>Aa f Z λa f=>Ai f Z Z AF λa f=>Ac f Z λa f=>Ac f Z λa f=>Ab (Ah ?_)
 have⟨ay,az,hd⟩:=bind_some hd
 refine AJ (λa w=>∃aA:Int,aA=ay∧∃(aB:GH),GLe am aB∧Fr a 178 [(0,v0),(1,(iv x1)),(4,(.func (.func 114) #[] #[])),(12,(iv aA)),(13,(iv (i64.wrap (x2-1))))]∧Mem W aB w (aw::H)) ?_ ?_
 ·refine Ak ?_
  refine AK (λaC a w=>∃aD:Int,aD=aC∧∃(aE:GH),GLe am aE∧Fr a 178 [(0,v0),(1,(iv x1)),(4,(.func (.func 114) #[] #[])),(12,(iv aD)),(13,(iv (i64.wrap (x2-1))))]∧Mem W aE w (aw::H)) az ⟨_,Z,_,gr,f.k Z,m⟩ ?_
  clear az f m
  rintro aC aF aG aH a w ⟨aD,rfl,aE,aI,f,m⟩
  have ax:=OwR.mono trivial aI ax
  refine Ah (Ah ?_)
  refine A4 16 Az (by kernel_rfl) m ?_
  refine Ae 0 16 Z f Z λa f=>Ae 1 16 Z f Z λa f=>q_p 2 16 Z f (λ_=>AB (f.e Z) (f.e Z) B5) λa f=>Ae 3 16 Z f Z λa f=> ?_
  have⟨aJ,aK,aG⟩:=bind_some aG
  refine BR (fuel':=0) (listed':= #[true,true,true,true,true,true,true,true,true,true,true,true,true,true,true,true]) (λa=>Fr a 178 [(0,v0),(1,(iv x1)),(4,(.func (.func 114) #[] #[])),(12,(iv aD)),(13,(iv (i64.wrap (x2-1)))),(32,(iv aD)),(33,(iv (i64.wrap (x2-1)))),(34,(.bool (decide (aD≤(i64.wrap (x2-1)))))),(35,(.bool (decide (aD≤(i64.wrap (x2-1)))))),(47,(.bool aJ))]) ?_ ?_
  ·intro a f
   refine AN λaL w aM m=>Ab ?_
   rcases Af aG with⟨aN,aG⟩|⟨aN,aG⟩
   ·refine Al f Z aN ?_
    refine An ?_
    refine Ak (Ao ?_)
    refine Aa f Z λa f=>Ai f Z Z As λa f=>Ac f Z λa f=>Ab ?_
    obtain rfl:=sj aG
    exact⟨_,Z,_,Z,_,(gt aI aM),f.k Z,m⟩
   ·refine Aj f Z aN ?_
    refine AG Z ?_
    obtain rfl:=sj aG
    obtain rfl:=aH _ rfl
    exact⟨_,Z,_,(gt aI aM),f.k Z,m⟩
  ·intro aO
   rcases Af aK with⟨aP,aK⟩|⟨aP,aK⟩
   ·refine Ae (hw:=wo f aP) 4 16 Z f Z λa f=> ?_
    refine Ae (hw:=wo f aP) 5 16 Z f Z λa f=>Ae (hw:=wo f aP) 6 16 Z f Z λa f=> ?_
    have⟨aQ,aR,aK⟩:=bind_some aK
    refine Aw (i:=7) (listed':= #[true,true,true,true,true,true,true,true,false,false,false,false,false,false,false,false]) (C:=P2) 16 0 m ax Z AX aR Z (by kernel_rfl) Z f (AC f Z Z Z aP) Z Z Z λaS a aT f=>Ax (i:=8) (listed':= #[true,true,true,true,true,true,true,true,true,false,false,false,false,false,false,false]) (C:=P2) [(iv aQ.1),(iv aQ.2)] 16 0 ax Z Bh aT aR Z Z (by kernel_rfl) Z f (AC f Z Z Z aP) Z Z λa f=>Ae (hw:=wo f aP) 9 16 Z f Z λa f=>Ae (hw:=wo f aP) 10 16 Z f Z λa f=> ?_
    have⟨aU,aV,aK⟩:=bind_some aK
    refine Aw (i:=11) (listed':= #[true,true,true,true,true,true,true,true,true,true,true,true,false,false,false,false]) (C:=P2) 16 0 m ax Z AX aV Z (by kernel_rfl) Z f (AC f Z Z Z aP) Z Z Z λaW a aX f=>Ax (i:=12) (listed':= #[true,true,true,true,true,true,true,true,true,true,true,true,true,false,false,false]) (C:=P2) [(iv aU.1),(iv aU.2)] 16 0 ax Z Bh aX aV Z Z (by kernel_rfl) Z f (AC f Z Z Z aP) Z Z λa f=> ?_
    have⟨aY,aZ,aK⟩:=bind_some aK
    refine B8 (i:=13) 16 Z (by kernel_rfl) Z f (AC f Z Z Z aP) Z Z Z call114 (λ_ _ w a0 m=>Wk.c m aZ) λa f=>q_p (hw:=wo f aP) 14 16 Z f (λ_=>AB (f.e Z) (f.e Z) AV) λa f=>q_p 15 16 Z f (λ_=>AS (f.e Z) aP (f.e Z)) λa f=> ?_
    obtain rfl:=sj aK
    exact aO _ (f.k Z)
   ·refine Am 4 16 Z f aP λa f=> ?_
    refine Am 5 16 Z f aP λa f=>Am 6 16 Z f aP λa f=>Am 7 16 Z f aP λa f=>Am 8 16 Z f aP λa f=>Am 9 16 Z f aP λa f=>Am 10 16 Z f aP λa f=>Am 11 16 Z f aP λa f=>Am 12 16 Z f aP λa f=>Am 13 16 Z f aP λa f=>Am 14 16 Z f aP λa f=>q_p 15 16 Z f (λ_=>AR (f.e Z) aP (f.e Z)) λa f=> ?_
    obtain rfl:=sj aK
    exact aO _ (f.k Z)
 ·rintro a w ⟨aA,rfl,aB,a1,f,m⟩
  have ax:=OwR.mono trivial a1 ax
  refine Ah ?_
  have⟨a2,a3,hd⟩:=bind_some hd
  refine AJ (λa w=>∃a4:Int,a4=a2∧∃(a5:GH),GLe aB a5∧Fr a 178 [(0,v0),(1,(iv x1)),(4,(.func (.func 114) #[] #[])),(12,(iv aA)),(13,(iv a4))]∧Mem W a5 w (aw::H)) ?_ ?_
  ·refine Ak ?_
   refine AK (λa6 a w=>∃a7:Int,a7=a6∧∃(a8:GH),GLe aB a8∧Fr a 178 [(0,v0),(1,(iv x1)),(4,(.func (.func 114) #[] #[])),(12,(iv aA)),(13,(iv a7))]∧Mem W a8 w (aw::H)) a3 ⟨_,Z,_,gr,f.k Z,m⟩ ?_
   clear a3 f m
   rintro a6 a9 ba bb a w ⟨a7,rfl,a8,bc,f,m⟩
   have ax:=OwR.mono trivial bc ax
   refine Ah (Ah ?_)
   refine A4 17 Az (by kernel_rfl) m ?_
   refine Ae 0 17 Z f Z λa f=>Ae 1 17 Z f Z λa f=>q_p 2 17 Z f (λ_=>AB (f.e Z) (f.e Z) B5) λa f=>Ae 3 17 Z f Z λa f=> ?_
   have⟨bd,be,ba⟩:=bind_some ba
   refine BR (fuel':=0) (listed':= #[true,true,true,true,true,true,true,true,true,true,true,true,true,true,true,true,true]) (λa=>Fr a 178 [(0,v0),(1,(iv x1)),(4,(.func (.func 114) #[] #[])),(12,(iv aA)),(13,(iv a7)),(50,(iv aA)),(51,(iv a7)),(52,(.bool (decide (aA≤a7)))),(53,(.bool (decide (aA≤a7)))),(66,(.bool bd))]) ?_ ?_
   ·intro a f
    refine AN λbf w bg m=>Ab ?_
    rcases Af ba with⟨bh,ba⟩|⟨bh,ba⟩
    ·refine Al f Z bh ?_
     refine An ?_
     refine Ak (Ao ?_)
     refine Aa f Z λa f=>Ai f Z Z AF λa f=>Ac f Z λa f=>Ab ?_
     obtain rfl:=sj ba
     exact⟨_,Z,_,Z,_,(gt bc bg),f.k Z,m⟩
    ·refine Aj f Z bh ?_
     refine AG Z ?_
     obtain rfl:=sj ba
     obtain rfl:=bb _ rfl
     exact⟨_,Z,_,(gt bc bg),f.k Z,m⟩
   ·intro bi
    rcases Af be with⟨bj,be⟩|⟨bj,be⟩
    ·refine Ae (hw:=wo f bj) 4 17 Z f Z λa f=> ?_
     refine Ae (hw:=wo f bj) 5 17 Z f Z λa f=>Ae (hw:=wo f bj) 6 17 Z f Z λa f=> ?_
     have⟨bk,bl,be⟩:=bind_some be
     refine Aw (i:=7) (listed':= #[true,true,true,true,true,true,true,true,false,false,false,false,false,false,false,false,false]) (C:=P2) 17 0 m ax Z AX bl Z (by kernel_rfl) Z f (AC f Z Z Z bj) Z Z Z λbm a bn f=>Ax (i:=8) (listed':= #[true,true,true,true,true,true,true,true,true,false,false,false,false,false,false,false,false]) (C:=P2) [(iv bk.1),(iv bk.2)] 17 0 ax Z Bh bn bl Z Z (by kernel_rfl) Z f (AC f Z Z Z bj) Z Z λa f=>Ae (hw:=wo f bj) 9 17 Z f Z λa f=>Ae (hw:=wo f bj) 10 17 Z f Z λa f=> ?_
     have⟨bo,bp,be⟩:=bind_some be
     refine Aw (i:=11) (listed':= #[true,true,true,true,true,true,true,true,true,true,true,true,false,false,false,false,false]) (C:=P2) 17 0 m ax Z AX bp Z (by kernel_rfl) Z f (AC f Z Z Z bj) Z Z Z λbq a br f=>Ax (i:=12) (listed':= #[true,true,true,true,true,true,true,true,true,true,true,true,true,false,false,false,false]) (C:=P2) [(iv bo.1),(iv bo.2)] 17 0 ax Z Bh br bp Z Z (by kernel_rfl) Z f (AC f Z Z Z bj) Z Z λa f=> ?_
     have⟨bs,bt,be⟩:=bind_some be
     refine B8 (i:=13) 17 Z (by kernel_rfl) Z f (AC f Z Z Z bj) Z Z Z call114 (λ_ _ w bu m=>Wk.c m bt) λa f=>q_p (hw:=wo f bj) 14 17 Z f (λ_=>AB (f.e Z) (f.e Z) AV) λa f=>q_p (hw:=wo f bj) 15 17 Z f (λ_=>Bg (f.e Z)) λa f=>q_p 16 17 Z f (λ_=>AS (f.e Z) bj (f.e Z)) λa f=> ?_
     obtain rfl:=sj be
     exact bi _ (f.k Z)
    ·refine Am 4 17 Z f bj λa f=> ?_
     refine Am 5 17 Z f bj λa f=>Am 6 17 Z f bj λa f=>Am 7 17 Z f bj λa f=>Am 8 17 Z f bj λa f=>Am 9 17 Z f bj λa f=>Am 10 17 Z f bj λa f=>Am 11 17 Z f bj λa f=>Am 12 17 Z f bj λa f=>Am 13 17 Z f bj λa f=>Am 14 17 Z f bj λa f=>Am 15 17 Z f bj λa f=>q_p 16 17 Z f (λ_=>AR (f.e Z) bj (f.e Z)) λa f=> ?_
     obtain rfl:=sj be
     exact bi _ (f.k Z)
  ·rintro a w ⟨a4,rfl,a5,bv,f,m⟩
   have ax:=OwR.mono trivial bv ax
   refine Ah (Ag ?_)
   refine Aa f Z λa f=>Aa f Z λa f=>Ai f Z Z Cs λa f=>Ab ?_
   rcases Af hd with⟨bw,hd⟩|⟨bw,hd⟩
   ·refine Al f Z bw ?_
    refine Ah ?_
    refine Bj Az m ?_
    refine p_p 2 Z f (λ_=>AU (f.e Z)) λa f=>p_p 3 Z f (λ_=>AU (f.e Z)) λa f=>Bi 12013 11 (by kernel_rfl) Z ?_
    refine Ae 0 12013 Z f Z λa f=>Ae 1 12013 Z f Z λa f=>Ae 4 12013 Z f Z λa f=>Ae 5 12013 Z f Z λa f=> ?_
    have⟨bx,bz,hd⟩:=bind_some hd
    refine Aw (i:=6) (listed':= #[true,true,true,true,true,true,true,false,false,false,false,false,false,false,false,false]) (C:=P2) 12013 0 m ax Z AX bz Z (by kernel_rfl) Z f Z Z Z Z λbA a bB f=>Ax (i:=7) (listed':= #[true,true,true,true,true,true,true,true,false,false,false,false,false,false,false,false]) (C:=P2) [(iv bx.1),(iv bx.2)] 12013 0 ax Z Bh bB bz Z Z (by kernel_rfl) Z f Z Z Z λa f=>Ae 8 12013 Z f Z λa f=>Ae 9 12013 Z f Z λa f=> ?_
    have⟨bC,bD,hd⟩:=bind_some hd
    refine Aw (i:=10) (listed':= #[true,true,true,true,true,true,true,true,true,true,true,false,false,false,false,false]) (C:=P2) 12013 0 m ax Z AX bD Z (by kernel_rfl) Z f Z Z Z Z λbE a bF f=>Ax (i:=11) (listed':= #[true,true,true,true,true,true,true,true,true,true,true,true,false,false,false,false]) (C:=P2) [(iv bC.1),(iv bC.2)] 12013 0 ax Z Bh bF bD Z Z (by kernel_rfl) Z f Z Z Z λa f=> ?_
    have⟨bG,bH,hd⟩:=bind_some hd
    refine Aw (i:=12) (listed':= #[true,true,true,true,true,true,true,true,true,true,true,true,true,false,false,false]) (C:=P2) 12013 0 m ax Z AX bH Z (by kernel_rfl) Z f Z Z Z Z λbI a bJ f=>AN λbK w bL m=> ?_
    have ax:=OwR.mono trivial bL ax
    refine AZ (E:=P2) (y':=(bx.1,bx.2)) [(iv bx.1),(iv bx.2)] 0 m ax Z sizeOf90 f Z Z bJ bH Z (Ap Z (Ap Z AH)) (lb Z) Z λbM w m bN=> ?_
    have⟨bO,bP,hd⟩:=bind_some hd
    refine Bz 0 m bN Z AX f Z Z Z bP λbQ a bR f=>AZ (E:=P2) (y':=(bC.1,bC.2)) [(iv bC.1),(iv bC.2)] 0 m bN Z sizeOf90 f Z Z bR bP Z (Ap Z (Ap Z AH)) (lb Z) Z λbS w m bT=>Ay ?_
    refine Aa f Z λa f=>Ac f Z λa f=>Ac f Z λa f=>Ab ?_
    refine Ar ?_
    obtain rfl:=sj hd
    exact⟨[(iv a4),(.bool true)],⟨f.get _ _ Z,f.get _ _ Z,trivial⟩,f.d,_,[bS],(gt an (gt a1 (gt bv bL))),m,_,Z,Z,bT⟩
   ·refine Aj f Z bw ?_
    refine An ?_
    refine Ah ?_
    refine Bj Az m ?_
    refine p_p 2 Z f (λ_=>AU (f.e Z)) λa f=>p_p 3 Z f (λ_=>AU (f.e Z)) λa f=>Bi 12013 11 (by kernel_rfl) Z ?_
    refine Ae 0 12013 Z f Z λa f=>Ae 1 12013 Z f Z λa f=>Ae 4 12013 Z f Z λa f=>Ae 5 12013 Z f Z λa f=> ?_
    have⟨bU,bV,hd⟩:=bind_some hd
    refine Aw (i:=6) (listed':= #[true,true,true,true,true,true,true,false,false,false,false,false,false,false,false,false]) (C:=P2) 12013 0 m ax Z AX bV Z (by kernel_rfl) Z f Z Z Z Z λbW a bX f=>Ax (i:=7) (listed':= #[true,true,true,true,true,true,true,true,false,false,false,false,false,false,false,false]) (C:=P2) [(iv bU.1),(iv bU.2)] 12013 0 ax Z Bh bX bV Z Z (by kernel_rfl) Z f Z Z Z λa f=>Ae 8 12013 Z f Z λa f=>Ae 9 12013 Z f Z λa f=> ?_
    have⟨bY,bZ,hd⟩:=bind_some hd
    refine Aw (i:=10) (listed':= #[true,true,true,true,true,true,true,true,true,true,true,false,false,false,false,false]) (C:=P2) 12013 0 m ax Z AX bZ Z (by kernel_rfl) Z f Z Z Z Z λb0 a b1 f=>Ax (i:=11) (listed':= #[true,true,true,true,true,true,true,true,true,true,true,true,false,false,false,false]) (C:=P2) [(iv bY.1),(iv bY.2)] 12013 0 ax Z Bh b1 bZ Z Z (by kernel_rfl) Z f Z Z Z λa f=> ?_
    have⟨b2,b3,hd⟩:=bind_some hd
    refine Aw (i:=12) (listed':= #[true,true,true,true,true,true,true,true,true,true,true,true,true,false,false,false]) (C:=P2) 12013 0 m ax Z AX b3 Z (by kernel_rfl) Z f Z Z Z Z λb4 a b5 f=>AN λb6 w b7 m=> ?_
    have ax:=OwR.mono trivial b7 ax
    refine AZ (E:=P2) (y':=(bU.1,bU.2)) [(iv bU.1),(iv bU.2)] 0 m ax Z sizeOf90 f Z Z b5 b3 Z (Ap Z (Ap Z AH)) (lb Z) Z λb8 w m b9=> ?_
    have⟨ca,cb,hd⟩:=bind_some hd
    refine Bz 0 m b9 Z AX f Z Z Z cb λcc a cd f=>AZ (E:=P2) (y':=(bY.1,bY.2)) [(iv bY.1),(iv bY.2)] 0 m b9 Z sizeOf90 f Z Z cd cb Z (Ap Z (Ap Z AH)) (lb Z) Z λce w m cf=>Ay ?_
    refine Aa f Z λa f=>Ai f Z Z As λa f=>Ac f Z λa f=>Ay ?_
    refine Aa f Z λa f=>Ai f Z Z AF λa f=>Ac f Z λa f=>Ab (Ah ?_)
    have⟨cg,ch,hd⟩:=bind_some hd
    refine AJ (λa w=>∃ci:List (Int×Int),∃cj:Int,(ci,cj)=cg∧∃(ck:GH) (cl:Itm),GLe b6 ck∧Fr a 178 [(0,v0),(1,(iv x1)),(13,(iv cj))]∧Mem W ck w (cl::H)∧OwR P2 90 ck cl v0 ci) ?_ ?_
    ·refine Ak ?_
     refine AK (λcm a w=>∃cn:List (Int×Int),∃co:Int,∃cp:Int,(cn,co,cp)=cm∧∃(cq:GH) (cr:Itm),GLe b6 cq∧Fr a 178 [(0,v0),(1,(iv x1)),(4,(.func (.func 114) #[] #[])),(12,(iv co)),(13,(iv cp))]∧Mem W cq w (cr::H)∧OwR P2 90 cq cr v0 cn) ch ⟨_,_,_,Z,_,ce,gr,f.k Z,m,cf⟩ ?_
     clear ch f m
     rintro cm cs ct cu a w ⟨cn,co,cp,rfl,cq,cr,cv,f,m,cw⟩
     refine Ak (Ah ?_)
     have⟨cx,cy,ct⟩:=bind_some ct
     refine AJ (λa w=>∃cz:Int,cz=cx∧∃(cA:GH),GLe cq cA∧Fr a 178 [(0,v0),(1,(iv x1)),(4,(.func (.func 114) #[] #[])),(12,(iv cz)),(13,(iv cp))]∧Mem W cA w (cr::H)) ?_ ?_
     ·refine Ak ?_
      refine AK (λcB a w=>∃cC:Int,cC=cB∧∃(cD:GH),GLe cq cD∧Fr a 178 [(0,v0),(1,(iv x1)),(4,(.func (.func 114) #[] #[])),(12,(iv cC)),(13,(iv cp))]∧Mem W cD w (cr::H)) cy ⟨_,Z,_,gr,f.k Z,m⟩ ?_
      clear cy f m
      rintro cB cE cF cG a w ⟨cC,rfl,cD,cH,f,m⟩
      have cw:=OwR.mono trivial cH cw
      refine Ah (Ah ?_)
      refine A4 16 Az (by kernel_rfl) m ?_
      refine Ae 0 16 Z f Z λa f=>Ae 1 16 Z f Z λa f=>q_p 2 16 Z f (λ_=>AB (f.e Z) (f.e Z) B5) λa f=>Ae 3 16 Z f Z λa f=> ?_
      have⟨cI,cJ,cF⟩:=bind_some cF
      refine BR (fuel':=0) (listed':= #[true,true,true,true,true,true,true,true,true,true,true,true,true,true,true,true]) (λa=>Fr a 178 [(0,v0),(1,(iv x1)),(4,(.func (.func 114) #[] #[])),(12,(iv cC)),(13,(iv cp)),(105,(iv cC)),(106,(iv cp)),(107,(.bool (decide (cC≤cp)))),(108,(.bool (decide (cC≤cp)))),(120,(.bool cI))]) ?_ ?_
      ·intro a f
       refine AN λcK w cL m=>Ab ?_
       rcases Af cF with⟨cM,cF⟩|⟨cM,cF⟩
       ·refine Al f Z cM ?_
        refine An ?_
        refine Ak (Ao ?_)
        refine Aa f Z λa f=>Ai f Z Z As λa f=>Ac f Z λa f=>Ab ?_
        obtain rfl:=sj cF
        exact⟨_,Z,_,Z,_,(gt cH cL),f.k Z,m⟩
       ·refine Aj f Z cM ?_
        refine AG Z ?_
        obtain rfl:=sj cF
        obtain rfl:=cG _ rfl
        exact⟨_,Z,_,(gt cH cL),f.k Z,m⟩
      ·intro cN
       rcases Af cJ with⟨cO,cJ⟩|⟨cO,cJ⟩
       ·refine Ae (hw:=wo f cO) 4 16 Z f Z λa f=> ?_
        refine Ae (hw:=wo f cO) 5 16 Z f Z λa f=>Ae (hw:=wo f cO) 6 16 Z f Z λa f=> ?_
        have⟨cP,cQ,cJ⟩:=bind_some cJ
        refine Aw (i:=7) (listed':= #[true,true,true,true,true,true,true,true,false,false,false,false,false,false,false,false]) (C:=P2) 16 0 m cw Z AX cQ Z (by kernel_rfl) Z f (AC f Z Z Z cO) Z Z Z λcR a cS f=>Ax (i:=8) (listed':= #[true,true,true,true,true,true,true,true,true,false,false,false,false,false,false,false]) (C:=P2) [(iv cP.1),(iv cP.2)] 16 0 cw Z Bh cS cQ Z Z (by kernel_rfl) Z f (AC f Z Z Z cO) Z Z λa f=>Ae (hw:=wo f cO) 9 16 Z f Z λa f=>Ae (hw:=wo f cO) 10 16 Z f Z λa f=> ?_
        have⟨cT,cU,cJ⟩:=bind_some cJ
        refine Aw (i:=11) (listed':= #[true,true,true,true,true,true,true,true,true,true,true,true,false,false,false,false]) (C:=P2) 16 0 m cw Z AX cU Z (by kernel_rfl) Z f (AC f Z Z Z cO) Z Z Z λcV a cW f=>Ax (i:=12) (listed':= #[true,true,true,true,true,true,true,true,true,true,true,true,true,false,false,false]) (C:=P2) [(iv cT.1),(iv cT.2)] 16 0 cw Z Bh cW cU Z Z (by kernel_rfl) Z f (AC f Z Z Z cO) Z Z λa f=> ?_
        have⟨cX,cY,cJ⟩:=bind_some cJ
        refine B8 (i:=13) 16 Z (by kernel_rfl) Z f (AC f Z Z Z cO) Z Z Z call114 (λ_ _ w cZ m=>Wk.c m cY) λa f=>q_p (hw:=wo f cO) 14 16 Z f (λ_=>AB (f.e Z) (f.e Z) AV) λa f=>q_p 15 16 Z f (λ_=>AS (f.e Z) cO (f.e Z)) λa f=> ?_
        obtain rfl:=sj cJ
        exact cN _ (f.k Z)
       ·refine Am 4 16 Z f cO λa f=> ?_
        refine Am 5 16 Z f cO λa f=>Am 6 16 Z f cO λa f=>Am 7 16 Z f cO λa f=>Am 8 16 Z f cO λa f=>Am 9 16 Z f cO λa f=>Am 10 16 Z f cO λa f=>Am 11 16 Z f cO λa f=>Am 12 16 Z f cO λa f=>Am 13 16 Z f cO λa f=>Am 14 16 Z f cO λa f=>q_p 15 16 Z f (λ_=>AR (f.e Z) cO (f.e Z)) λa f=> ?_
        obtain rfl:=sj cJ
        exact cN _ (f.k Z)
     ·rintro a w ⟨cz,rfl,cA,c0,f,m⟩
      have cw:=OwR.mono trivial c0 cw
      refine Ah ?_
      have⟨c1,c2,ct⟩:=bind_some ct
      refine AJ (λa w=>∃c3:Int,c3=c1∧∃(c4:GH),GLe cA c4∧Fr a 178 [(0,v0),(1,(iv x1)),(4,(.func (.func 114) #[] #[])),(12,(iv cz)),(13,(iv c3))]∧Mem W c4 w (cr::H)) ?_ ?_
      ·refine Ak ?_
       refine AK (λc5 a w=>∃c6:Int,c6=c5∧∃(c7:GH),GLe cA c7∧Fr a 178 [(0,v0),(1,(iv x1)),(4,(.func (.func 114) #[] #[])),(12,(iv cz)),(13,(iv c6))]∧Mem W c7 w (cr::H)) c2 ⟨_,Z,_,gr,f.k Z,m⟩ ?_
       clear c2 f m
       rintro c5 c8 c9 da a w ⟨c6,rfl,c7,db,f,m⟩
       have cw:=OwR.mono trivial db cw
       refine Ah (Ah ?_)
       refine A4 17 Az (by kernel_rfl) m ?_
       refine Ae 0 17 Z f Z λa f=>Ae 1 17 Z f Z λa f=>q_p 2 17 Z f (λ_=>AB (f.e Z) (f.e Z) B5) λa f=>Ae 3 17 Z f Z λa f=> ?_
       have⟨dc,dd,c9⟩:=bind_some c9
       refine BR (fuel':=0) (listed':= #[true,true,true,true,true,true,true,true,true,true,true,true,true,true,true,true,true]) (λa=>Fr a 178 [(0,v0),(1,(iv x1)),(4,(.func (.func 114) #[] #[])),(12,(iv cz)),(13,(iv c6)),(123,(iv cz)),(124,(iv c6)),(125,(.bool (decide (cz≤c6)))),(126,(.bool (decide (cz≤c6)))),(139,(.bool dc))]) ?_ ?_
       ·intro a f
        refine AN λde w df m=>Ab ?_
        rcases Af c9 with⟨dg,c9⟩|⟨dg,c9⟩
        ·refine Al f Z dg ?_
         refine An ?_
         refine Ak (Ao ?_)
         refine Aa f Z λa f=>Ai f Z Z AF λa f=>Ac f Z λa f=>Ab ?_
         obtain rfl:=sj c9
         exact⟨_,Z,_,Z,_,(gt db df),f.k Z,m⟩
        ·refine Aj f Z dg ?_
         refine AG Z ?_
         obtain rfl:=sj c9
         obtain rfl:=da _ rfl
         exact⟨_,Z,_,(gt db df),f.k Z,m⟩
       ·intro dh
        rcases Af dd with⟨di,dd⟩|⟨di,dd⟩
        ·refine Ae (hw:=wo f di) 4 17 Z f Z λa f=> ?_
         refine Ae (hw:=wo f di) 5 17 Z f Z λa f=>Ae (hw:=wo f di) 6 17 Z f Z λa f=> ?_
         have⟨dj,dk,dd⟩:=bind_some dd
         refine Aw (i:=7) (listed':= #[true,true,true,true,true,true,true,true,false,false,false,false,false,false,false,false,false]) (C:=P2) 17 0 m cw Z AX dk Z (by kernel_rfl) Z f (AC f Z Z Z di) Z Z Z λdl a dm f=>Ax (i:=8) (listed':= #[true,true,true,true,true,true,true,true,true,false,false,false,false,false,false,false,false]) (C:=P2) [(iv dj.1),(iv dj.2)] 17 0 cw Z Bh dm dk Z Z (by kernel_rfl) Z f (AC f Z Z Z di) Z Z λa f=>Ae (hw:=wo f di) 9 17 Z f Z λa f=>Ae (hw:=wo f di) 10 17 Z f Z λa f=> ?_
         have⟨dn,dp,dd⟩:=bind_some dd
         refine Aw (i:=11) (listed':= #[true,true,true,true,true,true,true,true,true,true,true,true,false,false,false,false,false]) (C:=P2) 17 0 m cw Z AX dp Z (by kernel_rfl) Z f (AC f Z Z Z di) Z Z Z λdq a dr f=>Ax (i:=12) (listed':= #[true,true,true,true,true,true,true,true,true,true,true,true,true,false,false,false,false]) (C:=P2) [(iv dn.1),(iv dn.2)] 17 0 cw Z Bh dr dp Z Z (by kernel_rfl) Z f (AC f Z Z Z di) Z Z λa f=> ?_
         have⟨ds,dt,dd⟩:=bind_some dd
         refine B8 (i:=13) 17 Z (by kernel_rfl) Z f (AC f Z Z Z di) Z Z Z call114 (λ_ _ w du m=>Wk.c m dt) λa f=>q_p (hw:=wo f di) 14 17 Z f (λ_=>AB (f.e Z) (f.e Z) AV) λa f=>q_p (hw:=wo f di) 15 17 Z f (λ_=>Bg (f.e Z)) λa f=>q_p 16 17 Z f (λ_=>AS (f.e Z) di (f.e Z)) λa f=> ?_
         obtain rfl:=sj dd
         exact dh _ (f.k Z)
        ·refine Am 4 17 Z f di λa f=> ?_
         refine Am 5 17 Z f di λa f=>Am 6 17 Z f di λa f=>Am 7 17 Z f di λa f=>Am 8 17 Z f di λa f=>Am 9 17 Z f di λa f=>Am 10 17 Z f di λa f=>Am 11 17 Z f di λa f=>Am 12 17 Z f di λa f=>Am 13 17 Z f di λa f=>Am 14 17 Z f di λa f=>Am 15 17 Z f di λa f=>q_p 16 17 Z f (λ_=>AR (f.e Z) di (f.e Z)) λa f=> ?_
         obtain rfl:=sj dd
         exact dh _ (f.k Z)
      ·rintro a w ⟨c3,rfl,c4,dv,f,m⟩
       have cw:=OwR.mono trivial dv cw
       refine Ah (Ag ?_)
       refine Aa f Z λa f=>Aa f Z λa f=>Ai f Z Z Cs λa f=>Ab ?_
       rcases Af ct with⟨dw,ct⟩|⟨dw,ct⟩
       ·refine Al f Z dw ?_
        refine AG Z ?_
        obtain rfl:=sj ct
        obtain rfl:=cu _ rfl
        exact⟨_,_,Z,_,cr,(gt cv (gt c0 dv)),f.k Z,m,cw⟩
       ·refine Aj f Z dw ?_
        refine An ?_
        refine Ah ?_
        refine Bj Az m ?_
        refine p_p 2 Z f (λ_=>AU (f.e Z)) λa f=>p_p 3 Z f (λ_=>AU (f.e Z)) λa f=>Bi 12013 11 (by kernel_rfl) Z ?_
        refine Ae 0 12013 Z f Z λa f=>Ae 1 12013 Z f Z λa f=>Ae 4 12013 Z f Z λa f=>Ae 5 12013 Z f Z λa f=> ?_
        have⟨dx,dy,ct⟩:=bind_some ct
        refine Aw (i:=6) (listed':= #[true,true,true,true,true,true,true,false,false,false,false,false,false,false,false,false]) (C:=P2) 12013 0 m cw Z AX dy Z (by kernel_rfl) Z f Z Z Z Z λdz a dA f=>Ax (i:=7) (listed':= #[true,true,true,true,true,true,true,true,false,false,false,false,false,false,false,false]) (C:=P2) [(iv dx.1),(iv dx.2)] 12013 0 cw Z Bh dA dy Z Z (by kernel_rfl) Z f Z Z Z λa f=>Ae 8 12013 Z f Z λa f=>Ae 9 12013 Z f Z λa f=> ?_
        have⟨dB,dC,ct⟩:=bind_some ct
        refine Aw (i:=10) (listed':= #[true,true,true,true,true,true,true,true,true,true,true,false,false,false,false,false]) (C:=P2) 12013 0 m cw Z AX dC Z (by kernel_rfl) Z f Z Z Z Z λdD a dE f=>Ax (i:=11) (listed':= #[true,true,true,true,true,true,true,true,true,true,true,true,false,false,false,false]) (C:=P2) [(iv dB.1),(iv dB.2)] 12013 0 cw Z Bh dE dC Z Z (by kernel_rfl) Z f Z Z Z λa f=> ?_
        have⟨dF,dG,ct⟩:=bind_some ct
        refine Aw (i:=12) (listed':= #[true,true,true,true,true,true,true,true,true,true,true,true,true,false,false,false]) (C:=P2) 12013 0 m cw Z AX dG Z (by kernel_rfl) Z f Z Z Z Z λdH a dI f=>AN λdJ w dK m=> ?_
        have cw:=OwR.mono trivial dK cw
        refine AZ (E:=P2) (y':=(dx.1,dx.2)) [(iv dx.1),(iv dx.2)] 0 m cw Z sizeOf90 f Z Z dI dG Z (Ap Z (Ap Z AH)) (lb Z) Z λdL w m dM=> ?_
        have⟨dN,dO,ct⟩:=bind_some ct
        refine Bz 0 m dM Z AX f Z Z Z dO λdP a dQ f=>AZ (E:=P2) (y':=(dB.1,dB.2)) [(iv dB.1),(iv dB.2)] 0 m dM Z sizeOf90 f Z Z dQ dO Z (Ap Z (Ap Z AH)) (lb Z) Z λdR w m dS=>Ay ?_
        refine Aa f Z λa f=>Ai f Z Z As λa f=>Ac f Z λa f=>Ab (Ao ?_)
        refine Aa f Z λa f=>Ai f Z Z AF λa f=>Ac f Z λa f=>Ab ?_
        obtain rfl:=sj ct
        exact⟨_,Z,_,_,_,Z,_,dR,(gt cv (gt c0 (gt dv dK))),f.k Z,m,dS⟩
    ·rintro a w ⟨ci,cj,rfl,ck,cl,dT,f,m,dU⟩
     refine Ah ?_
     refine Bj Az m ?_
     refine p_p 2 Z f (λ_=>AU (f.e Z)) λa f=>p_p 3 Z f (λ_=>AU (f.e Z)) λa f=>Bi 12013 11 (by kernel_rfl) Z ?_
     refine Ae 0 12013 Z f Z λa f=>Ae 1 12013 Z f Z λa f=>Ae 4 12013 Z f Z λa f=>Ae 5 12013 Z f Z λa f=> ?_
     have⟨dV,dW,hd⟩:=bind_some hd
     refine Aw (i:=6) (listed':= #[true,true,true,true,true,true,true,false,false,false,false,false,false,false,false,false]) (C:=P2) 12013 0 m dU Z AX dW Z (by kernel_rfl) Z f Z Z Z Z λdX a dY f=>Ax (i:=7) (listed':= #[true,true,true,true,true,true,true,true,false,false,false,false,false,false,false,false]) (C:=P2) [(iv dV.1),(iv dV.2)] 12013 0 dU Z Bh dY dW Z Z (by kernel_rfl) Z f Z Z Z λa f=>Ae 8 12013 Z f Z λa f=>Ae 9 12013 Z f Z λa f=> ?_
     have⟨dZ,d0,hd⟩:=bind_some hd
     refine Aw (i:=10) (listed':= #[true,true,true,true,true,true,true,true,true,true,true,false,false,false,false,false]) (C:=P2) 12013 0 m dU Z AX d0 Z (by kernel_rfl) Z f Z Z Z Z λd1 a d2 f=>Ax (i:=11) (listed':= #[true,true,true,true,true,true,true,true,true,true,true,true,false,false,false,false]) (C:=P2) [(iv dZ.1),(iv dZ.2)] 12013 0 dU Z Bh d2 d0 Z Z (by kernel_rfl) Z f Z Z Z λa f=> ?_
     have⟨d3,d4,hd⟩:=bind_some hd
     refine Aw (i:=12) (listed':= #[true,true,true,true,true,true,true,true,true,true,true,true,true,false,false,false]) (C:=P2) 12013 0 m dU Z AX d4 Z (by kernel_rfl) Z f Z Z Z Z λd5 a d6 f=>AN λd7 w d8 m=> ?_
     have dU:=OwR.mono trivial d8 dU
     refine AZ (E:=P2) (y':=(dV.1,dV.2)) [(iv dV.1),(iv dV.2)] 0 m dU Z sizeOf90 f Z Z d6 d4 Z (Ap Z (Ap Z AH)) (lb Z) Z λd9 w m ea=> ?_
     have⟨eb,ec,hd⟩:=bind_some hd
     refine Bz 0 m ea Z AX f Z Z Z ec λed a ee f=>AZ (E:=P2) (y':=(dZ.1,dZ.2)) [(iv dZ.1),(iv dZ.2)] 0 m ea Z sizeOf90 f Z Z ee ec Z (Ap Z (Ap Z AH)) (lb Z) Z λef w m eg=>Ay ?_
     refine Aa f Z λa f=>Ac f Z λa f=>Ac f Z λa f=>Ab ?_
     refine Ar ?_
     obtain rfl:=sj hd
     exact⟨[(iv cj),(.bool false)],⟨f.get _ _ Z,f.get _ _ Z,trivial⟩,f.d,_,[ef],(gt an (gt a1 (gt bv (gt b7 (gt dT d8))))),m,_,Z,Z,eg⟩
theorem Wk.z {W:World}(n:Nat):∀{w:World} {G:GH} {H:List Itm} {v0:Value} {it0:Itm} {x0:(List (Int×Int))} {x1 x2 x3:Int} (m:Mem W G w (it0::H)) (o0:OwR P2 90 G it0 v0 x0) {y:((List (Int×Int)))} (hd:D.z n x0 x1 x2 x3=some y),
  Calls prog 125 #[v0,(iv x1),(iv x2),(iv x3),(.func (.func 114) #[] #[])] w (Res W G H (λG' Ho _=>∃i0:Itm,Ho=[i0]∧OwR P2 90 G' i0 v0 y)):=by
 induction n with
 |zero=>intros;rename_i hd;simp[D.z] at hd
 |succ fuel ih=>
  intro w G H v0 it0 x0 x1 x2 x3 m o0 y hd
  refine Au (args:=[v0,(iv x1),(iv x2),(iv x3),(.func (.func 114) #[] #[])]) (N:=148) [] func125 Z Z (lb Z) Z λa f=> ?_
  unfold D.z at hd
  refine Ag ?_
  refine Ac f Z λa f=>Ay ?_
  refine Ac f Z λa f=>Ab ?_
  have⟨aa,ab,hd⟩:=bind_some hd
  refine Ak ?_
  refine AK (λac a w=>∃ad:List (Int×Int),∃ae:Int,∃af:Int,∃ag:Int,∃ah:Bool,∃ai:Bool,(ad,ae,af,ag,ah,ai)=ac∧∃(aj:GH) (ak:Itm),GLe G aj∧Fr a 148 [(0,v0),(1,(iv ae)),(2,(iv af)),(3,(iv ag)),(4,(.func (.func 114) #[] #[])),(10,(.bool ah)),(11,(.bool ai))]∧Mem W aj w (ak::H)∧OwR P2 90 aj ak v0 ad) ab ⟨_,_,_,_,_,_,Z,_,it0,gr,f.k Z,m,o0⟩ ?_
  clear ab f m
  rintro ac al am an a w ⟨ad,ae,af,ag,ah,ai,rfl,aj,ak,ao,f,m,ap⟩
  refine Ak (Ag ?_)
  refine Aa f Z λa f=>Aa f Z λa f=>Ai f Z Z AF λa f=>Ac f Z λa f=>Ab (Ah (Ag ?_))
  refine Aa f Z λa f=>Ai f Z Z B5 λa f=>Ab ?_
  rcases Af am with⟨aq,am⟩|⟨aq,am⟩
  ·refine Al f Z aq ?_
   refine Ag ?_
   refine Aa f Z λa f=>Aa f Z λa f=>Aa f Z λa f=>Aa f Z λa f=> ?_
   have⟨ar,au,am⟩:=bind_some am
   refine AT f Z call142 (Wk.X0 m ap au) λav aw ax w ay m az a f=> ?_
   obtain⟨aA,rfl,aB⟩:=az
   refine Ab ?_
   refine Ar ?_
   obtain rfl:=sj am
   obtain rfl:=an _ rfl
   obtain rfl:=sj hd
   exact⟨[],trivial,f.d,_,[aA],(gt ao ay),m,_,Z,aB⟩
  ·refine Aj f Z aq ?_
   refine An ?_
   refine Ah (Ag ?_)
   refine Aa f Z λa f=>Ai f Z Z BT λa f=>Ab ?_
   rcases Af am with⟨aC,am⟩|⟨aC,am⟩
   ·refine Al f Z aC ?_
    refine Ag ?_
    refine Aa f Z λa f=>Aa f Z λa f=>Aa f Z λa f=>Aa f Z λa f=> ?_
    have⟨aD,aE,am⟩:=bind_some am
    refine AT f Z call143 (Wk.W0 m ap aE) λaF aG aH w aI m aJ a f=> ?_
    obtain⟨aK,rfl,aL⟩:=aJ
    refine Ab ?_
    refine Ar ?_
    obtain rfl:=sj am
    obtain rfl:=an _ rfl
    obtain rfl:=sj hd
    exact⟨[],trivial,f.d,_,[aK],(gt ao aI),m,_,Z,aL⟩
   ·refine Aj f Z aC ?_
    refine An ?_
    refine Ah (Ag ?_)
    refine Aa f Z λa f=>l_o f (Bg (f.e Z)) λa f=>Ab ?_
    have⟨aM,aN,am⟩:=bind_some am
    refine AJ (λa w=>∃aO:List (Int×Int),∃aP:Int,(aO,aP)=aM∧∃(aQ:GH) (aR:Itm),GLe aj aQ∧Fr a 148 [(0,v0),(1,(iv ae)),(2,(iv af)),(3,(iv aP)),(4,(.func (.func 114) #[] #[])),(10,(.bool ah)),(11,(.bool ai)),(12,(iv (i64.wrap (af-ae))))]∧Mem W aQ w (aR::H)∧OwR P2 90 aQ aR v0 aO) ?_ ?_
    ·rcases Af aN with⟨aS,aN⟩|⟨aS,aN⟩
     ·refine Al f Z aS ?_
      refine Ag ?_
      refine Aa f Z λa f=>Aa f Z λa f=>Aa f Z λa f=>Aa f Z λa f=> ?_
      have⟨aT,aU,aN⟩:=bind_some aN
      refine AT f Z call144 (Wk.Y0 m ap aU) λaV aW aX w aY m aZ a f=> ?_
      obtain⟨a0,rfl,a1⟩:=aZ
      refine Ab (Ao ?_)
      refine Aa f Z λa f=>Ai f Z Z AF λa f=>Ac f Z λa f=>Ab ?_
      obtain rfl:=sj aN
      exact⟨_,_,Z,_,a0,aY,f.k Z,m,a1⟩
     ·refine Aj f Z aS ?_
      refine An ?_
      obtain rfl:=sj aN
      exact⟨_,_,Z,_,ak,gr,f.k Z,m,ap⟩
    ·rintro a w ⟨aO,aP,rfl,aQ,aR,a2,f,m,a3⟩
     refine Ag ?_
     refine Aa f Z λa f=>Aa f Z λa f=>Aa f Z λa f=>Aa f Z λa f=> ?_
     have⟨a4,a5,am⟩:=bind_some am
     refine AT f Z call145 (Wk.i1 m a3 a5) λa6 a7 a8 w a9 m ba a f=> ?_
     obtain⟨bb,rfl,rfl,bc⟩:=ba
     refine Aa f Z λa f=>l_o f (AI (f.e Z) Z) λa f=>l_o f (AI (f.e Z) Z) λa f=>Ac f Z λa f=>Ac f Z λa f=>Ab (Ah (Ag ?_))
     refine Aa f Z λa f=>Ai f Z Z BT λa f=>Ab ?_
     have⟨bd,be,am⟩:=bind_some am
     refine AJ (λa w=>∃bf:List (Int×Int),∃bg:Int,∃bh:Int,(bf,bg,bh)=bd∧∃(bi:GH) (bj:Itm),GLe a7 bi∧Fr a 148 [(0,v0),(1,(iv ae)),(2,(iv af)),(3,(iv aP)),(4,(.func (.func 114) #[] #[])),(10,(.bool ah)),(11,(.bool ai)),(12,(iv (i64.wrap (af-ae)))),(13,(iv bg)),(14,(iv bh))]∧Mem W bi w (bj::H)∧OwR P2 90 bi bj v0 bf) ?_ ?_
     ·rcases Af be with⟨bk,be⟩|⟨bk,be⟩
      ·refine Al f Z bk ?_
       refine Ag ?_
       refine Aa f Z λa f=>Aa f Z λa f=>Aa f Z λa f=>Aa f Z λa f=> ?_
       have⟨bl,bm,be⟩:=bind_some be
       refine AT f Z call146 (Wk.k1 m bc bm) λbn bo bp w bq m br a f=> ?_
       obtain⟨bs,rfl,bt⟩:=br
       refine Ay ?_
       refine Aa f Z λa f=>Ai f Z Z AF λa f=>Aa f Z λa f=>Aa f Z λa f=>Ai f Z Z AF λa f=>Ai f Z Z AF λa f=>Ac f Z λa f=>Ab (Ao ?_)
       refine Ac f Z λa f=>Ab ?_
       obtain rfl:=sj be
       exact⟨_,_,_,Z,_,bs,bq,f.k Z,m,bt⟩
      ·refine Aj f Z bk ?_
       refine An ?_
       obtain rfl:=sj be
       exact⟨_,_,_,Z,_,bb,gr,f.k Z,m,bc⟩
     ·rintro a w ⟨bf,bg,bh,rfl,bi,bj,bu,f,m,bv⟩
      refine Ah (Ag ?_)
      refine Aa f Z λa f=>Aa f Z λa f=> ?_
      refine Br 2 (λa w=>∃bw,GLe bi bw∧Mem W bw w (bj::H)∧Fr a 148 [(0,v0),(1,(iv ae)),(2,(iv af)),(3,(iv aP)),(4,(.func (.func 114) #[] #[])),(10,(.bool ah)),(11,(.bool ai)),(12,(iv (i64.wrap (af-ae)))),(13,(iv bg)),(14,(iv bh)),(68,(.bool ah)),(69,(.bool ah)),(71,(.bool (ah&&ai)))]) ?_ ?_
      ·rcases Bool.eq_false_or_eq_true ah with bx|bx
       ·refine AD f bx ?_
        refine Aa f Z λa f=>l_o f (AS (f.e Z) bx (f.e Z)) λa f=> ?_
        exact⟨_,gr,m,f.weak ⟨Z,Z,Z,Z,Z,Z,Z,Z,Z,Z,Z,Z,by rw[bx];rfl,trivial⟩⟩
       ·refine AE f bx λa f=> ?_
        refine l_o f (AR (f.e Z) bx (f.e Z)) λa f=> ?_
        exact⟨_,gr,m,f.weak ⟨Z,Z,Z,Z,Z,Z,Z,Z,Z,Z,Z,Z,by rw[bx];rfl,trivial⟩⟩
      ·rintro a w ⟨bw,bz,m,f⟩
       have bv:=OwR.mono trivial bz bv
       refine Aa f Z λa f=> ?_
       refine Br 3 (λa w=>∃bA,GLe bw bA∧Mem W bA w (bj::H)∧Fr a 148 [(0,v0),(1,(iv ae)),(2,(iv af)),(3,(iv aP)),(4,(.func (.func 114) #[] #[])),(10,(.bool ah)),(11,(.bool ai)),(12,(iv (i64.wrap (af-ae)))),(13,(iv bg)),(14,(iv bh)),(68,(.bool ah)),(69,(.bool ah)),(71,(.bool (ah&&ai))),(72,(.bool (ah&&ai))),(75,(.bool ((ah&&ai)&&(bh==1))))]) ?_ ?_
       ·rcases Bool.eq_false_or_eq_true (ah&&ai) with bB|bB
        ·refine AD f bB ?_
         refine Aa f Z λa f=>AD f bB ?_
         refine Ai f Z Z BT λa f=>l_o f (AS (f.e Z) bB (f.e Z)) λa f=> ?_
         exact⟨_,gr,m,f.weak ⟨Z,Z,Z,Z,Z,Z,Z,Z,Z,Z,Z,Z,Z,Z,by rw[bB];rfl,trivial⟩⟩
        ·refine AE f bB λa f=> ?_
         refine AE f bB λa f=>l_o f (AR (f.e Z) bB (f.e Z)) λa f=> ?_
         exact⟨_,gr,m,f.weak ⟨Z,Z,Z,Z,Z,Z,Z,Z,Z,Z,Z,Z,Z,Z,by rw[bB];rfl,trivial⟩⟩
       ·rintro a w ⟨bA,bC,m,f⟩
        have bv:=OwR.mono trivial bC bv
        refine Ab ?_
        have⟨bD,bE,am⟩:=bind_some am
        refine AJ (λa w=>∃j_497':(List (Int×Int)),bD= .inl j_497'∧∃bF:List (Int×Int),bF=j_497'∧∃(bG:GH) (bH:Itm),GLe bA bG∧Fr a 148 [(0,v0),(1,(iv ae)),(2,(iv af)),(3,(iv aP)),(4,(.func (.func 114) #[] #[])),(10,(.bool ah)),(11,(.bool ai)),(12,(iv (i64.wrap (af-ae)))),(13,(iv bg))]∧Mem W bG w (bH::H)∧OwR P2 90 bG bH v0 bF) ?_ ?_
        ·rcases Af bE with⟨bI,bE⟩|⟨bI,bE⟩
         ·refine Al f Z bI ?_
          refine Ag ?_
          refine Aa f Z λa f=>Aa f Z λa f=>Aa f Z λa f=>Aa f Z λa f=> ?_
          have⟨bJ,bK,bE⟩:=bind_some bE
          refine AT f Z call147 (Wk.h1 m bv bK) λbL bM bN w bO m bP a f=> ?_
          obtain⟨bQ,rfl,rfl,bR⟩:=bP
          refine Ab ?_
          rcases Af bE with⟨bS,bE⟩|⟨bS,bE⟩
          ·refine Al f Z bS ?_
           refine Ar ?_
           obtain rfl:=sj bE
           obtain rfl:=sj am
           obtain rfl:=an _ rfl
           obtain rfl:=sj hd
           exact⟨[],trivial,f.d,_,[bQ],(gt ao (gt a2 (gt a9 (gt bu (gt bz (gt bC bO)))))),m,_,Z,bR⟩
          ·refine Aj f Z bS ?_
           refine An ?_
           obtain rfl:=sj bE
           exact⟨_,Z,_,Z,_,bQ,bO,f.k Z,m,bR⟩
         ·refine Aj f Z bI ?_
          refine An ?_
          obtain rfl:=sj bE
          exact⟨_,Z,_,Z,_,bj,gr,f.k Z,m,bv⟩
        ·rintro a w ⟨_,rfl,bF,rfl,bG,bH,bT,f,m,bU⟩
         refine Ah (Ah ?_)
         refine A4 17 Az (by kernel_rfl) m ?_
         refine Ae 0 17 Z f Z λa f=>q_p 1 17 Z f (λ_=>AB (f.e Z) (f.e Z) Cs) λa f=>Ae 2 17 Z f Z λa f=> ?_
         have⟨bV,bW,am⟩:=bind_some am
         refine BR (fuel':=0) (listed':= #[true,true,true,true,true,true,true,true,true,true,true,true,true,true,true,true,true]) (λa=>Fr a 148 [(0,v0),(1,(iv ae)),(2,(iv af)),(3,(iv aP)),(4,(.func (.func 114) #[] #[])),(10,(.bool ah)),(11,(.bool ai)),(12,(iv (i64.wrap (af-ae)))),(13,(iv bg)),(81,(iv ae)),(82,(.bool (decide ((0:Int)<ae)))),(83,(.bool (decide ((0:Int)<ae)))),(97,(.bool bV))]) ?_ ?_
         ·intro a f
          refine AN λbX w bY m=> ?_
          have bU:=OwR.mono trivial bY bU
          refine Ab ?_
          rcases Af am with⟨bZ,am⟩|⟨bZ,am⟩
          ·refine Al f Z bZ ?_
           refine Ag ?_
           refine Aa f Z λa f=>Aa f Z λa f=>Aa f Z λa f=>Aa f Z λa f=>Aa f Z λa f=> ?_
           have⟨b0,b1,am⟩:=bind_some am
           refine AT f Z call148 (Wk.V0 m bU b1) λb2 b3 b4 w b5 m b6 a f=> ?_
           obtain⟨b7,rfl,rfl,b8⟩:=b6
           refine Ac f Z λa f=>Ay ?_
           refine Aa f Z λa f=>Ac f Z λa f=>Ab ?_
           refine AG Z ?_
           obtain rfl:=sj am
           exact⟨_,Z,_,_,_,_,_,_,Z,_,b7,(gt ao (gt a2 (gt a9 (gt bu (gt bz (gt bC (gt bT (gt bY b5)))))))),f.k Z,m,b8⟩
          ·refine Aj f Z bZ ?_
           refine An ?_
           refine Ag ?_
           refine Aa f Z λa f=>Aa f Z λa f=>Aa f Z λa f=>Aa f Z λa f=>Aa f Z λa f=> ?_
           have⟨b9,ca,am⟩:=bind_some am
           refine AT f Z call149 (Wk.U0 m bU ca) λcb cc cd w ce m cf a f=> ?_
           obtain⟨cg,rfl,rfl,ch⟩:=cf
           refine Aa f Z λa f=>l_o f (AI (f.e Z) Z) λa f=>l_o f (AI (f.e Z) Z) λa f=>Ac f Z λa f=>Ac f Z λa f=>Ay ?_
           refine Aa f Z λa f=>Ac f Z λa f=>Ay ?_
           refine Aa f Z λa f=>Aa f Z λa f=>Ai f Z Z AF λa f=>Aa f Z λa f=>Aa f Z λa f=>Ai f Z Z AF λa f=>Ac f Z λa f=>Ac f Z λa f=>Ay ?_
           refine Aa f Z λa f=>Ai f Z Z (CK Z) λa f=>Ac f Z λa f=>Ay ?_
           refine Aa f Z λa f=>Aa f Z λa f=>Ai f Z Z AV λa f=>Ab ?_
           rcases Af am with⟨ci,am⟩|⟨ci,am⟩
           ·refine Al f Z ci ?_
            refine Ag ?_
            refine Aa f Z λa f=>Aa f Z λa f=>Ai f Z Z BH λa f=>Ac f Z λa f=>Ay ?_
            refine Aa f Z λa f=>Aa f Z λa f=>Aa f Z λa f=>Aa f Z λa f=>Aa f Z λa f=> ?_
            have⟨cj,ck,am⟩:=bind_some am
            refine AT f Z call125 (ih m ch ck) λcl cm cn w co m cp a f=> ?_
            obtain⟨cq,rfl,cr⟩:=cp
            refine Ab (Ao ?_)
            refine Aa f Z λa f=>Ai f Z Z As λa f=>Ac f Z λa f=>Ab ?_
            obtain rfl:=sj am
            exact⟨_,Z,_,_,_,_,_,_,Z,_,cq,(gt ao (gt a2 (gt a9 (gt bu (gt bz (gt bC (gt bT (gt bY (gt ce co))))))))),f.k Z,m,cr⟩
           ·refine Aj f Z ci ?_
            refine Ag ?_
            refine Aa f Z λa f=>Aa f Z λa f=>Ai f Z Z BH λa f=>Ac f Z λa f=>Ay ?_
            refine Aa f Z λa f=>Aa f Z λa f=>Ai f Z Z As λa f=>Aa f Z λa f=>Aa f Z λa f=>Aa f Z λa f=> ?_
            have⟨cs,ct,am⟩:=bind_some am
            refine AT f Z call125 (ih m ch ct) λcu cv cw w cx m cy a f=> ?_
            obtain⟨cz,rfl,cA⟩:=cy
            refine Ab (Ao ?_)
            refine Aa f Z λa f=>Ac f Z λa f=>Ab ?_
            obtain rfl:=sj am
            exact⟨_,Z,_,_,_,_,_,_,Z,_,cz,(gt ao (gt a2 (gt a9 (gt bu (gt bz (gt bC (gt bT (gt bY (gt ce cx))))))))),f.k Z,m,cA⟩
         ·intro cB
          rcases Af bW with⟨cC,bW⟩|⟨cC,bW⟩
          ·refine Ae (hw:=wo f cC) 3 17 Z f Z λa f=> ?_
           refine Ae (hw:=wo f cC) 4 17 Z f Z λa f=>Ae (hw:=wo f cC) 5 17 Z f Z λa f=>q_p (hw:=wo f cC) 6 17 Z f (λ_=>AB (f.e Z) (f.e Z) AF) λa f=> ?_
           have⟨cD,cE,bW⟩:=bind_some bW
           refine Aw (i:=7) (listed':= #[true,true,true,true,true,true,true,true,false,false,false,false,false,false,false,false,false]) (C:=P2) 17 0 m bU Z AX cE Z (by kernel_rfl) Z f (AC f Z Z Z cC) Z Z Z λcF a cG f=>Ax (i:=8) (listed':= #[true,true,true,true,true,true,true,true,true,false,false,false,false,false,false,false,false]) (C:=P2) [(iv cD.1),(iv cD.2)] 17 0 bU Z Bh cG cE Z Z (by kernel_rfl) Z f (AC f Z Z Z cC) Z Z λa f=>Ae (hw:=wo f cC) 9 17 Z f Z λa f=>Ae (hw:=wo f cC) 10 17 Z f Z λa f=> ?_
           have⟨cH,cI,bW⟩:=bind_some bW
           refine Aw (i:=11) (listed':= #[true,true,true,true,true,true,true,true,true,true,true,true,false,false,false,false,false]) (C:=P2) 17 0 m bU Z AX cI Z (by kernel_rfl) Z f (AC f Z Z Z cC) Z Z Z λcJ a cK f=>Ax (i:=12) (listed':= #[true,true,true,true,true,true,true,true,true,true,true,true,true,false,false,false,false]) (C:=P2) [(iv cH.1),(iv cH.2)] 17 0 bU Z Bh cK cI Z Z (by kernel_rfl) Z f (AC f Z Z Z cC) Z Z λa f=> ?_
           have⟨cL,cM,bW⟩:=bind_some bW
           refine B8 (i:=13) 17 Z (by kernel_rfl) Z f (AC f Z Z Z cC) Z Z Z call114 (λ_ _ w cN m=>Wk.c m cM) λa f=>q_p (hw:=wo f cC) 14 17 Z f (λ_=>AB (f.e Z) (f.e Z) AV) λa f=>q_p (hw:=wo f cC) 15 17 Z f (λ_=>Bg (f.e Z)) λa f=>q_p 16 17 Z f (λ_=>AS (f.e Z) cC (f.e Z)) λa f=> ?_
           obtain rfl:=sj bW
           exact cB _ (f.k Z)
          ·refine Am 3 17 Z f cC λa f=> ?_
           refine Am 4 17 Z f cC λa f=>Am 5 17 Z f cC λa f=>Am 6 17 Z f cC λa f=>Am 7 17 Z f cC λa f=>Am 8 17 Z f cC λa f=>Am 9 17 Z f cC λa f=>Am 10 17 Z f cC λa f=>Am 11 17 Z f cC λa f=>Am 12 17 Z f cC λa f=>Am 13 17 Z f cC λa f=>Am 14 17 Z f cC λa f=>Am 15 17 Z f cC λa f=>q_p 16 17 Z f (λ_=>AR (f.e Z) cC (f.e Z)) λa f=> ?_
           obtain rfl:=sj bW
           exact cB _ (f.k Z)
theorem Wk.f {v0:Value}{it0:Itm}{x0:(List (Int×Int))}{x1 x2 x3:Int}(m:Mem W G w (it0::H))(o0:OwR P2 90 G it0 v0 x0){y:((List (Int×Int)))}(hd:D.f x0 x1 x2 x3=some y):
  Calls prog 125 #[v0,(iv x1),(iv x2),(iv x3),(.func (.func 114) #[] #[])] w (Res W G H (λG' Ho _=>∃i0:Itm,Ho=[i0]∧OwR P2 90 G' i0 v0 y)):=by
 exact Wk.z CF m o0 hd
theorem Wk.b0 {v0:Value}{it0:Itm}{x0:(List (Int×Int))}(m:Mem W G w (it0::H))(o0:OwR P2 90 G it0 v0 x0){y:((List (Int×Int)))}(hd:D.b0 x0=some y):
  Calls prog 113 #[v0,(.func (.func 114) #[] #[])] w (Res W G H (λG' Ho _=>∃i0:Itm,Ho=[i0]∧OwR P2 90 G' i0 v0 y)):=by
 refine Au (args:=[v0,(.func (.func 114) #[] #[])]) (N:=14) [] func113 Z Z (lb Z) Z λa f=> ?_
 unfold D.b0 at hd
 refine Ag ?_
 refine Aa f Z λa f=>Eo 0 m o0 Z underlying115 f Z Z λa f=>Ac f Z λa f=>Ab (Ao ?_)
 refine Aa f Z λa f=>Aa f Z λa f=>Aa f Z λa f=>l_o f (Cw (f.e Z) ⟨_,underlying3⟩ underlying56) λa f=> ?_
 have⟨aa,ab,hd⟩:=bind_some hd
 refine AT f Z call124 (Wk.j m ab) λac ad ae w af m ag a f=> ?_
 obtain⟨rfl,rfl⟩:=ag
 have o0:=OwR.mono trivial af o0
 refine Aa f Z λa f=> ?_
 have⟨ah,ai,hd⟩:=bind_some hd
 refine AT f Z call125 (Wk.f m o0 ai) λaj ak al w am m an a f=> ?_
 obtain⟨ao,rfl,ap⟩:=an
 refine Ab ?_
 obtain rfl:=sj hd
 exact⟨[],trivial,f.d,_,[ao],(gt af am),m,_,Z,ap⟩
theorem Wk.c0 {v0:Value}{x0:LI}{aa ab:Int}(hW:CI W)(m:Mem W G w (H))(h0:RSl (RI .u32) G v0 x0){y:((List (Int×Int)))}(hd:D.c0 x0 aa ab=some y):
  Calls prog 96 #[v0,(.agg #[(iv aa),(iv ab)])] w (Res W G H (λG' Ho v=>∃r0:Value,∃i0:Itm,Ho=[i0]∧r0=v∧OwR P2 90 G' i0 r0 y)):=by
 refine Au (args:=[v0,(.agg #[(iv aa),(iv ab)])]) (N:=72) [.tmp 4] func96 Z Z (lb Z) Z λa f=> ?_
 unfold D.c0 at hd
 refine Ag ?_
 refine BN (cs:=[(iv aa),(iv ab)]) m f Z Z Z λac w a m f=>Ac f Z λa f=>Ay ?_
 refine l_slitR0 (E:=P2) m AX f Z λad ae w a m af f=>Ac f Z λa f=>Ab (Ah (Ah ?_))
 refine A4 18 Az (by kernel_rfl) m ?_
 refine Ae 0 18 Z f Z λa f=>Cf 1 18 underlying90 Z sizeOf3 Z f Z λa f=>BX 2 18 1 Pl3 Z Z Z f Z λa f=> ?_
 have⟨ag,ah,hd⟩:=bind_some hd
 refine Cy 3 18 T58 h0 ah Z f Z Z λai aj a ak al f=> ?_
 subst al
 refine Cv 4 18 CY ak Z f Z λa f=>Ae 5 18 Z f Z λa f=>Cf 6 18 underlying90 Z sizeOf3 Z f Z λa f=>BX 7 18 1 Pl3 Z Z Z f Z λa f=> ?_
 have⟨am,an,hd⟩:=bind_some hd
 refine Cy 8 18 T58 h0 an Z f Z Z λao ap a aq ar f=> ?_
 subst ar
 refine Cv 9 18 CY aq Z f Z λa f=>q_p 10 18 Z f (λ_=>AB (f.e Z) (f.e Z) CC) λa f=>Cf 11 18 underlying90 Z sizeOf3 Z f Z λa f=>BX 12 18 1 Pl3 Z Z Z f Z λa f=> ?_
 have⟨au,av,hd⟩:=bind_some hd
 refine Bu (i:=13) 18 Z (by kernel_rfl) Z f Z Z Z call61 (λ_ _ w aw m=>Wk.b m av) λa f=>q_p 14 18 Z f (λ_=>AB (f.e Z) (f.e Z) CC) λa f=>Ae 17 18 Z f Z λa f=>CX 15 Z λax w ay m az az=> ?_
 have h0:=rd1 ay h0
 have af:=OwR.mono trivial ay af
 have⟨aA,aB,hd⟩:=bind_some hd
 refine AT f Z call90 (Wk.m hW m aB) λaC aD aE w aF m aG a f=> ?_
 obtain⟨aH,aI,rfl,rfl,aJ⟩:=aG
 have h0:=rd1 aF h0
 have af:=OwR.mono trivial aF af
 refine Ab ?_
 refine az aD [aI] _ _ aF m ?_
 refine D5 (i:=16) 18 0 m aJ Z underlying79 Z (by kernel_rfl) Z f Z Z Z λa f=>AN λaK w aL m=> ?_
 have h0:=rd1 aL h0
 have aJ:=od1 aL aJ
 have af:=OwR.mono trivial aL af
 refine Ab ?_
 have⟨aM,aN,hd⟩:=bind_some hd
 refine AJ (λa w=>∃aO:List (Int×Int),aO=aM∧∃(aP:GH) (aQ:Value) (aR:Itm),GLe aK aP∧Fr a 72 [(0,v0),(3,(pb ac)),(5,aQ)]∧Mem W aP w (ib ac 90 [(iv aa),(iv ab)]::aR::H)∧OwR P2 90 aP aR aQ aO) ?_ ?_
 ·refine Ak ?_
  have m:=m.fr 1
  have m:=m.fr 2
  refine AK (λaS a w=>∃aT:List (Int×Int),∃aU:Int,(aT,aU)=aS∧∃(aV:GH) (aW:Value) (aX:Itm),GLe aK aV∧Fr a 72 [(0,v0),(3,(pb ac)),(5,aW),(26,aH),(27,(iv (aA.length:Int))),(28,(iv aU))]∧Mem W aV w (ib ac 90 [(iv aa),(iv ab)]::aX::aI::H)∧OwR P2 90 aV aX aW aT) aN ⟨_,_,Z,_,ae,ad,gr,f.k Z,m,af⟩ ?_
  clear aN f m
  rintro aS aY aZ a0 a w ⟨aT,aU,rfl,aV,aW,aX,a1,f,m,a2⟩
  have aJ:=od1 a1 aJ
  refine Ag ?_
  refine Ai f Z Z AV λa f=>Ab (Ah ?_)
  rcases Af aZ with⟨a3,aZ⟩|⟨a3,aZ⟩
  ·refine Al f Z a3 ?_
   refine An ?_
   refine Ah (Ak (Ag ?_))
   have⟨a4,a5,aZ⟩:=bind_some aZ
   refine Bo 2 m aJ Z T79 f Z Z Z a5 λa6 a a7 f=>DH 2 m aJ Z Pl3 f Z Z a7 a5 λa8 a a9 f=> ?_
   subst a9
   refine Ac f Z λa f=>Ab (Ao ?_)
   refine Aa f Z λa f=>BC underlying90 Z sizeOf3 f Z λa f=>A5 0 0 m Pl3 f Z Z Z Z λa f=>Aa f Z λa f=> ?_
   have ba:∀w,(Instr.build 90 #[(0,(iv aa)),(1,(iv a4))]).run prog w= .ok (.agg #[(iv aa),(iv a4)]) w:=by intro w;simp[Instr.build,Instr.fill,Cd,BZ,BO,BS,BF,Ce]
   refine CG f Z Z ba λa f=>DL (E:=P2) (y:=(aa,a4)) (cs:=[(iv aa),(iv a4)]) m AX f Z Z Z (lb Z) λbb bc w a m bd f=> ?_
   have⟨be,bf,aZ⟩:=bind_some aZ
   refine EP (E:=P2) (z:= .agg #[(iv 0),(iv 0)]) 2 0 m a2 Z bd Z (by simp) AX Z (by decide) f Z Z Z bf λbg bh w a m bi f=>Ac f Z λa f=>Ab (Ao ?_)
   refine Ai f Z Z As λa f=>Aa f Z λa f=>Ab ?_
   have m:=m.fr 3
   have m:=m.fr 3
   have m:Mem W aV w (ib ac 90 [(iv aa),(iv ab)]::bg::aI::bb::H):=m.fr 3
   have m:=m.eraseAt 3
   obtain rfl:=sj aZ
   exact⟨_,Z,_,_,Z,_,bh,bg,a1,f.k Z,m,bi⟩
  ·refine Aj f Z a3 ?_
   refine AG Z ?_
   have m:=m.eraseAt 2
   obtain rfl:=sj aZ
   obtain rfl:=a0 _ rfl
   exact⟨_,Z,_,aW,aX,a1,f.k Z,m,a2⟩
 ·rintro a w ⟨aO,rfl,aP,aQ,aR,bj,f,m,bk⟩
  have h0:=rd1 bj h0
  refine Ah (Ah ?_)
  refine A4 18 Az (by kernel_rfl) m ?_
  refine Ae 0 18 Z f Z λa f=>Cf 1 18 underlying90 Z sizeOf3 Z f Z λa f=>BX 2 18 0 Pl3 Z Z Z f Z λa f=> ?_
  have⟨bl,bm,hd⟩:=bind_some hd
  refine Cy 3 18 T58 h0 bm Z f Z Z λbn bo a bp bq f=> ?_
  subst bq
  refine Cv 4 18 CY bp Z f Z λa f=>Ae 5 18 Z f Z λa f=>Cf 6 18 underlying90 Z sizeOf3 Z f Z λa f=>BX 7 18 0 Pl3 Z Z Z f Z λa f=> ?_
  have⟨br,bs,hd⟩:=bind_some hd
  refine Cy 8 18 T58 h0 bs Z f Z Z λbt bu a bv bw f=> ?_
  subst bw
  refine Cv 9 18 CY bv Z f Z λa f=>q_p 10 18 Z f (λ_=>AB (f.e Z) (f.e Z) CC) λa f=>Cf 11 18 underlying90 Z sizeOf3 Z f Z λa f=>BX 12 18 0 Pl3 Z Z Z f Z λa f=> ?_
  have⟨bx,bz,hd⟩:=bind_some hd
  refine Bu (i:=13) 18 Z (by kernel_rfl) Z f Z Z Z call61 (λ_ _ w bA m=>Wk.b m bz) λa f=>q_p 14 18 Z f (λ_=>AB (f.e Z) (f.e Z) CC) λa f=>Ae 17 18 Z f Z λa f=>CX 15 Z λbB w bC m bD bD=> ?_
  have bk:=OwR.mono trivial bC bk
  have⟨bE,bF,hd⟩:=bind_some hd
  refine AT f Z call90 (Wk.m hW m bF) λbG bH bI w bJ m bK a f=> ?_
  obtain⟨bL,bM,rfl,rfl,bN⟩:=bK
  have bk:=OwR.mono trivial bJ bk
  refine Ab ?_
  refine bD bH [bM] _ _ bJ m ?_
  refine D5 (i:=16) 18 0 m bN Z underlying79 Z (by kernel_rfl) Z f Z Z Z λa f=>AN λbO w bP m=> ?_
  have bN:=od1 bP bN
  have bk:=OwR.mono trivial bP bk
  refine Ab ?_
  have⟨bQ,bR,hd⟩:=bind_some hd
  refine AJ (λa w=>∃bS:List (Int×Int),bS=bQ∧∃(bT:GH) (bU:Value) (bV:Itm),GLe bO bT∧Fr a 72 [(5,bU)]∧Mem W bT w (bV::H)∧OwR P2 90 bT bV bU bS) ?_ ?_
  ·refine Ak ?_
   have m:=m.fr 2
   have m:=m.fr 2
   refine AK (λbW a w=>∃bX:List (Int×Int),∃bY:Int,(bX,bY)=bW∧∃(bZ:GH) (b0:Value) (b1:Itm),GLe bO bZ∧Fr a 72 [(3,(pb ac)),(5,b0),(55,bL),(56,(iv (bE.length:Int))),(57,(iv bY))]∧Mem W bZ w (ib ac 90 [(iv aa),(iv ab)]::b1::bM::H)∧OwR P2 90 bZ b1 b0 bX) bR ⟨_,_,Z,_,aQ,aR,gr,f.k Z,m,bk⟩ ?_
   clear bR f m
   rintro bW b2 b3 b4 a w ⟨bX,bY,rfl,bZ,b0,b1,b5,f,m,b6⟩
   have bN:=od1 b5 bN
   refine Ag ?_
   refine Ai f Z Z AV λa f=>Ab (Ah ?_)
   rcases Af b3 with⟨b7,b3⟩|⟨b7,b3⟩
   ·refine Al f Z b7 ?_
    refine An ?_
    refine Ah (Ak (Ag ?_))
    have⟨b8,b9,b3⟩:=bind_some b3
    refine Bo 2 m bN Z T79 f Z Z Z b9 λca a cb f=>DH 2 m bN Z Pl3 f Z Z cb b9 λcc a cd f=> ?_
    subst cd
    refine Ac f Z λa f=>Ab (Ao ?_)
    refine Aa f Z λa f=>Aa f Z λa f=>BC underlying90 Z sizeOf3 f Z λa f=>A5 0 1 m Pl3 f Z Z Z Z λa f=> ?_
    have ce:∀w,(Instr.build 90 #[(0,(iv b8)),(1,(iv ab))]).run prog w= .ok (.agg #[(iv b8),(iv ab)]) w:=by intro w;simp[Instr.build,Instr.fill,Cd,BZ,BO,BS,BF,Ce]
    refine CG f Z Z ce λa f=>DL (E:=P2) (y:=(b8,ab)) (cs:=[(iv b8),(iv ab)]) m AX f Z Z Z (lb Z) λcf cg w a m ch f=> ?_
    have⟨ci,cj,b3⟩:=bind_some b3
    refine EP (E:=P2) (z:= .agg #[(iv 0),(iv 0)]) 2 0 m b6 Z ch Z (by simp) AX Z (by decide) f Z Z Z cj λck cl w a m cm f=>Ac f Z λa f=>Ab (Ao ?_)
    refine Ai f Z Z As λa f=>Aa f Z λa f=>Ab ?_
    have m:=m.fr 3
    have m:=m.fr 3
    have m:Mem W bZ w (ib ac 90 [(iv aa),(iv ab)]::ck::bM::cf::H):=m.fr 3
    have m:=m.eraseAt 3
    obtain rfl:=sj b3
    exact⟨_,Z,_,_,Z,_,cl,ck,b5,f.k Z,m,cm⟩
   ·refine Aj f Z b7 ?_
    refine AG Z ?_
    have m:=m.fr 1
    have m:=m.eraseAt 2
    have m:=m.eraseAt 1
    obtain rfl:=sj b3
    obtain rfl:=b4 _ rfl
    exact⟨_,Z,_,b0,b1,b5,f.k Z,m,b6⟩
  ·rintro a w ⟨bS,rfl,bT,bU,bV,cn,f,m,co⟩
   refine Ag ?_
   refine Aa f Z λa f=> ?_
   have⟨cp,cq,hd⟩:=bind_some hd
   refine AT f Z call113 (Wk.b0 m co cq) λcr ct cu w cv m cw a f=> ?_
   obtain⟨cx,rfl,cy⟩:=cw
   refine Ay ?_
   refine Aa f Z λa f=>Ac f Z λa f=>Ab ?_
   refine Ar ?_
   obtain rfl:=sj hd
   exact⟨[bU],f.g Z,f.d,_,[cx],(gt ay (gt aF (gt aL (gt bj (gt bC (gt bJ (gt bP (gt cn cv)))))))),m,_,_,Z,Z,cy⟩
end Go.Proofs.YtmkcbhidbdggiaaGreatDoor

set_option maxRecDepth 100000
namespace Go.Proofs.YtmkcbhidbdggiaaGreatDoor
open Go Go.Sx
open Go.Proofs.Tryz Go.Proofs.YtmkcbhidbdggiaaGreatDoor.Tryz IntKind
variable {W w : World} {G : GH} {H : List Itm}
theorem kPK :∃f0 f1,PrK prog 90 3 f0 f1:=⟨_,_,⟨underlying90,rfl,rfl,rfl,rfl,by decide,by decide,underlying3,isAgg3,Tryz.stoodInHeld90⟩⟩
theorem kT :SlT prog 115 90 2 16 (.agg #[(iv 0),(iv 0)]):=⟨underlying115,Tryz.t90,by kernel_rfl,by kernel_rfl,by kernel_rfl,by kernel_rfl⟩
theorem kA :Agg prog 90 2:=⟨isAgg90,sizeOf90⟩
abbrev kBx (b:Nat)(x:Int×Int):Itm:=ib b 90 [.int .i64 x.1,.int .i64 x.2]
theorem OwMa.cells {it:Itm}{v:Value}{M:ArM}(h:OwMa it v M):v.cells= #[v]:=by
 obtain⟨b,es,clock,rfl,rfl,_⟩:=h;rfl
set_option maxHeartbeats 2000000 in
theorem Wk.U {v0:Value}{x0:LI}{x:Int×Int}(hW:CI W)(m:Mem W G w H)(h0:RSl (RI .u32) G v0 x0){y:ArM}(hd:D.U x0 x=some y):
  Calls prog 58 #[v0,kyV x] w (Res W G H (λ_ Ho v=>∃i0:Itm,Ho=[i0]∧OwMa i0 v y)):=by
 refine Au (args:=[v0,kyV x]) (N:=57) [.tmp 4] func58 Z Z (lb Z) Z λa f=> ?_
 unfold D.U at hd
 obtain⟨f0,f1,kpk⟩:=kPK
 have hmp:=underlying86
 have hz:=zeroValue3
 refine Ag ?_
 refine BN (cs:=[.int .i64 x.1,.int .i64 x.2]) m f Z Z Z λbx w a m f=>Ac f Z λa f=>Ab (Ah ?_)
 refine AJ (λa w=>∃(G':GH) (itM itL:Itm) (vM vL:Value),GLe G G'∧Fr a 57 [(0,v0),(5,vM),(6,vL)]∧Mem W G' w (itM::itL::kBx bx x::H)∧OwMa itM vM [(x,0)]∧OwR P2 90 G' itL vL [x]) ?_ ?_
 ·skip
  refine A4 7 Az (by kernel_rfl) m ?_
  refine DQ (i:=1) (ds:=[.int .i64 x.1,.int .i64 x.2]) 7 0 kA Z Z Z Z (by kernel_rfl) Z f Z Z Z λa f=>DQ (i:=4) (ds:=[.int .i64 x.1,.int .i64 x.2]) 7 0 kA Z Z Z Z (by kernel_rfl) Z f Z Z Z λa f=>q_two (i:=0) (j:=5) (l1:= #[true,true,false,false,true,false,false,false]) (l2:= #[false,true,false,false,true,true,false,false]) Z Z (by kernel_rfl) Z Z (λG1 w hl1 m K K=> ?_) λG1 w hl1 m K K=> ?_
  ·skip
   refine l_makeMa m f Z λitM vM w a m oM f=>Ab ?_
   refine K G1 [itM] _ _ gr m ?_
   refine q_two (i:=2) (j:=5) (l1:= #[true,true,true,false,true,false,false,false]) (l2:= #[true,true,false,false,true,true,false,false]) Z Z (by kernel_rfl) Z Z (λG2 w hl2 m K K=> ?_) λG2 w hl2 m K K=> ?_
   ·skip
    refine l_insMa kpk 0 m oM Z hmp f Z Z Z Z λitM w m oM=>Ab ?_
    refine K G2 [itM] _ _ gr m ?_
    refine Ae 3 7 Z f Z λa f=>q_p 6 7 Z f (λ_=>Cb (f.e Z)) λa f=>CX 5 Z λG3 w hl3 m K K=>DL (E:=P2) (y:=x) (cs:=[.int .i64 x.1,.int .i64 x.2]) m kT f Z Z Z (lb Z) λitL vL w a m oL f=>Ab ?_
    refine K G3 [itL,itM] _ _ gr m ?_
    refine AN λG4 w hl4 m=> ?_
    have oL:=OwR.mono trivial hl4 oL
    refine Ac f Z λa f=>Ab ?_
    have m:=m.fr 1
    exact⟨G4,itM,itL,vM,vL,(gt hl1 (gt hl2 (gt hl3 hl4))),f.k Z,m,oM,oL⟩
   ·skip
    refine DL (E:=P2) (y:=x) (cs:=[.int .i64 x.1,.int .i64 x.2]) m kT f Z Z Z (lb Z) λitL vL w a m oL f=>Ab ?_
    refine K G2 [itL,itM] _ _ gr m ?_
    refine CX 2 Z λG5 w hl5 m K K=> ?_
    have oL:=OwR.mono trivial hl5 oL
    refine l_insMa kpk 1 m oM Z hmp f Z Z Z Z λitM w m oM=>Ab ?_
    refine K G5 [itL,itM] _ _ gr m ?_
    refine Ae 3 7 Z f Z λa f=>q_p 6 7 Z f (λ_=>Cb (f.e Z)) λa f=>AN λG6 w hl6 m=> ?_
    have oL:=OwR.mono trivial hl6 oL
    refine Ac f Z λa f=>Ab ?_
    have m:=m.fr 1
    exact⟨G6,itM,itL,vM,vL,(gt hl1 (gt hl2 (gt hl5 hl6))),f.k Z,m,oM,oL⟩
  ·skip
   refine DL (E:=P2) (y:=x) (cs:=[.int .i64 x.1,.int .i64 x.2]) m kT f Z Z Z (lb Z) λitL vL w a m oL f=>Ab ?_
   refine K G1 [itL] _ _ gr m ?_
   refine CX 0 Z λG7 w hl7 m K K=> ?_
   have oL:=OwR.mono trivial hl7 oL
   refine l_makeMa m f Z λitM vM w a m oM f=>Ab ?_
   refine K G7 [itM,itL] _ _ gr m ?_
   refine CX 2 Z λG8 w hl8 m K K=> ?_
   have oL:=OwR.mono trivial hl8 oL
   refine l_insMa kpk 0 m oM Z hmp f Z Z Z Z λitM w m oM=>Ab ?_
   refine K G8 [itM,itL] _ _ gr m ?_
   refine Ae 3 7 Z f Z λa f=>q_p 6 7 Z f (λ_=>Cb (f.e Z)) λa f=>AN λG9 w hl9 m=> ?_
   have oL:=OwR.mono trivial hl9 oL
   refine Ac f Z λa f=>Ab ?_
   exact⟨G9,itM,itL,vM,vL,(gt hl1 (gt hl7 (gt hl8 hl9))),f.k Z,m,oM,oL⟩
 ·skip
  clear f m
  rintro a w ⟨G1,itM,itL,vM,vL,hl1,f,m,oM,oL⟩
  refine Ah (Ag ?_)
  refine Ac f Z λa f=>Ab ?_
  refine AJ (λa w=>∃(G':GH) (itM itL:Itm) (vM vL:Value),GLe G G'∧Fr a 57 [(5,vM)]∧Mem W G' w (itM::itL::kBx bx x::H)∧OwMa itM vM y) ?_ ?_
  ·skip
   refine Ak ?_
   refine AK (fun(s:ArM×ArL×Int) a w=>∃(G':GH) (itM itL:Itm) (vM vL:Value),GLe G G'∧Fr a 57 [(0,v0),(5,vM),(6,vL),(7,.int .i64 s.2.2)]∧Mem W G' w (itM::itL::kBx bx x::H)∧OwMa itM vM s.1∧OwR P2 90 G' itL vL s.2.1) hd ⟨G1,itM,itL,vM,vL,hl1,f.k Z,m,oM,oL⟩ ?_
   clear hd f m oM oL
   rintro⟨M,L,i⟩ ro hs hq a w ⟨G2,itM,itL,vM,vL,hl2,f,m,oM,oL⟩
   have h0:=rd1 hl2 h0
   unfold D.x1 at hs
   dsimp only at hs oM oL f
   refine Ah (Ag ?_)
   refine Aa f Z λa f=>Aa f Z λa f=>Eo 1 m oL Z underlying115 f Z Z λa f=>Ai f Z Z AV λa f=>Ab ?_
   rcases Af hs with⟨hc,hs⟩|⟨hc,hs⟩
   ·skip
    refine Al f Z hc ?_
    refine An ?_
    have⟨xi,hxi,hs⟩:=bind_some hs
    have⟨ys,hys,hs⟩:=bind_some hs
    have⟨qq,hqq,hs⟩:=bind_some hs
    obtain rfl:=sj hs
    refine Ah (Ak (Ag ?_))
    refine Aa f Z λa f=>Aa f Z λa f=>Aa f Z λa f=>Bz 1 m oL Z kT f Z Z Z hxi λp a ha f=>E5 (C:=P2) [.int .i64 xi.1,.int .i64 xi.2] 1 m oL Z kA f Z Z ha hxi Z λa f=>AT f Z call96 (Wk.c0 hW m h0 hys) λv3 G3 Ho3 w hl3 m hQ3 a f=> ?_
    obtain⟨vY,itY,rfl,rfl,oY⟩:=hQ3
    have oL:=OwR.mono trivial hl3 oL
    refine Eo 0 m oY Z underlying115 f Z Z λa f=>Aa f Z λa f=>Ab ?_
    refine AJ (λa w=>∃(G':GH) (itM itL:Itm) (vM vL:Value),GLe G G'∧Fr a 57 [(0,v0),(5,vM),(6,vL),(7,.int .i64 i)]∧Mem W G' w (itM::itL::kBx bx x::H)∧OwMa itM vM qq.1∧OwR P2 90 G' itL vL qq.2) ?_ ?_
    ·skip
     refine Ak ?_
     have m:=m.fr 2
     have m:=m.fr 2
     refine AK (fun(s:ArM×ArL×Int) a w=>∃(G':GH) (itM itL:Itm) (vM vL:Value),GLe G3 G'∧Fr a 57 [(0,v0),(5,vM),(6,vL),(7,.int .i64 i),(28,vY),(29,.int .i64 (ys.length:Int)),(30,.int .i64 s.2.2)]∧Mem W G' w (itM::itL::itY::kBx bx x::H)∧OwMa itM vM s.1∧OwR P2 90 G' itL vL s.2.1) hqq ⟨G3,itM,itL,vM,vL,gr,f.k Z,m,oM,oL⟩ ?_
     clear hqq f m oM oL ha hxi
     rintro⟨M,L,j⟩ ro hs hqi a w ⟨G4,itM,itL,vM,vL,hl4,f,m,oM,oL⟩
     have oY:=OwR.mono trivial hl4 oY
     unfold D.r1 at hs
     dsimp only at hs oM oL f
     refine Ag ?_
     refine Ai f Z Z AV λa f=>Ab (Ah ?_)
     rcases Af hs with⟨hc,hs⟩|⟨hc,hs⟩
     ·skip
      refine Al f Z hc ?_
      refine An ?_
      have⟨yj,hyj,hs⟩:=bind_some hs
      refine Ah (Ak (Ag ?_))
      refine Bz 2 m oY Z kT f Z Z Z hyj λp a ha f=>E5 (C:=P2) [.int .i64 yj.1,.int .i64 yj.2] 2 m oY Z kA f Z Z ha hyj Z λa f=>Bx (cs:=[(iv 0),(iv 0)]) zeroValue90 m f Z Z λb9 w a m f=>A3 0 0 (ds:=[.int .i64 yj.1,.int .i64 yj.2]) m sizeOf90 f Z Z Z (Ap Z (Ap Z AH)) Z (lb Z) Z λw m=>Ay ?_
      refine Aa f Z λa f=>A9 0 0 (ds:=[.int .i64 yj.1,.int .i64 yj.2]) m kA f Z Z Z Z Z λa f=>Eu kpk 1 m oM Z hmp hz f Z Z Z λa f=>Aa f Z λa f=>l_o f (AI (f.e Z) Z) λa f=>l_o f (AI (f.e Z) Z) λa f=>Ac f Z λa f=>Ac f Z λa f=>Ay ?_
      refine Aa f Z λa f=>l_o f (Bg (f.e Z)) λa f=>Ab ?_
      rcases Af hs with⟨hc2,hs⟩|⟨hc2,hs⟩
      ·skip
       refine Al f Z hc2 ?_
       have⟨z,hz2,hs⟩:=bind_some hs
       have⟨l',hl',hs⟩:=bind_some hs
       obtain rfl:=sj hs
       have hno:By M yj=none:=by
        cases hh:By M yj with
        |none=>rfl
        |some _=>rw[hh] at hc2;cases hc2
       refine Ah ?_
       refine AJ (λa w=>∃(G':GH) (itM:Itm),GLe G4 G'∧Fr a 57 [(0,v0),(5,vM),(6,vL),(7,.int .i64 i),(9,.pointer (some ⟨b9,0,none⟩)),(28,vY),(29,.int .i64 (ys.length:Int)),(30,.int .i64 j)]∧Mem W G' w (kBx b9 yj::itM::itL::itY::kBx bx x::H)∧OwMa itM vM (M++[(yj,i64.wrap ((By M z).getD 0+1))])) ?_ ?_
       ·skip
        refine A4 9 Az (by kernel_rfl) m ?_
        refine Ae 0 9 Z f Z λa f=>DQ (i:=1) (ds:=[.int .i64 yj.1,.int .i64 yj.2]) 9 0 kA Z Z Z Z (by kernel_rfl) Z f Z Z Z λa f=>Ae 2 9 Z f Z λa f=>Ae 3 9 Z f Z λa f=>Ae 4 9 Z f Z λa f=>Aw (i:=5) (listed':= #[true,true,true,true,true,true,false,false,false,false]) (C:=P2) 9 2 m oL Z kT hz2 Z (by kernel_rfl) Z f Z Z Z Z λp a ha f=>Ax (i:=6) (listed':= #[true,true,true,true,true,true,true,false,false,false]) (C:=P2) [.int .i64 z.1,.int .i64 z.2] 9 2 oL Z kA ha hz2 Z Z (by kernel_rfl) Z f Z Z Z λa f=>q_lookupMa (i:=7) (listed':= #[true,true,true,true,true,true,true,true,false,false]) 9 kpk 1 oM Z hmp hz Z (by kernel_rfl) Z f Z Z Z Z λa f=>q_p 8 9 Z f (λ_=>AB (f.e Z) (f.e Z) As) λa f=>AN λG5 w hl5 m=>l_putMa kpk 1 m oM Z hmp f Z Z Z hno λitM' w m oM'=> ?_
        refine Ab ?_
        exact⟨G5,itM',hl5,f.k Z,m,oM'⟩
       ·skip
        clear f m oM
        rintro a w ⟨G5,itM,hl5,f,m,oM⟩
        have oL:=OwR.mono trivial hl5 oL
        refine Ao ?_
        refine Aa f Z λa f=>A9 0 0 (ds:=[.int .i64 yj.1,.int .i64 yj.2]) m kA f Z Z Z Z Z λa f=>DL (E:=P2) (y:=yj) (cs:=[.int .i64 yj.1,.int .i64 yj.2]) m kT f Z Z Z (lb Z) λitN vN w a m oN f=>EP (E:=P2) (z:= .agg #[(iv 0),(iv 0)]) 3 0 m oL Z oN Z (by simp) kT Z (by decide) f Z Z Z hl' λitL vL w a m oL f=>Ac f Z λa f=>Ab (Ao ?_)
        refine Ai f Z Z As λa f=>Aa f Z λa f=>Ab ?_
        exact⟨_,Z,G5,itM,itL,vM,vL,gt hl4 hl5,f.k Z,m.tail.tail,oM,oL⟩
      ·skip
       refine Aj f Z hc2 ?_
       refine An ?_
       obtain rfl:=sj hs
       refine Ao ?_
       refine Ai f Z Z As λa f=>Aa f Z λa f=>Ab ?_
       exact⟨_,Z,G4,itM,itL,vM,vL,hl4,f.k Z,m.tail,oM,oL⟩
     ·skip
      refine Aj f Z hc ?_
      refine AG Z ?_
      obtain rfl:=sj hs
      obtain rfl:=hqi _ rfl
      have m:=m.eraseAt 2
      exact⟨G4,itM,itL,vM,vL,gt hl2 (gt hl3 hl4),f.k Z,m,oM,oL⟩
    ·skip
     clear f m oM oL oY ha
     rintro a w ⟨G4,itM,itL,vM,vL,hl4,f,m,oM,oL⟩
     refine Ao ?_
     refine Aa f Z λa f=>Ai f Z Z As λa f=>Ac f Z λa f=>Ab ?_
     exact⟨_,Z,G4,itM,itL,vM,vL,hl4,f.k Z,m,oM,oL⟩
   ·skip
    refine Aj f Z hc ?_
    refine AG Z ?_
    obtain rfl:=sj hs
    obtain rfl:=hq _ rfl
    exact⟨G2,itM,itL,vM,vL,hl2,f.k Z,m,oM⟩
  ·skip
   clear f m oM oL
   rintro a w ⟨G2,itM,itL,vM,vL,hl2,f,m,oM⟩
   refine Ag ?_
   refine Aa f Z λa f=>Ac f Z λa f=>Ab ?_
   refine Ar ?_
   have m:Mem W G2 w (itM::H):=(m.eraseAt 1).eraseAt 1
   exact⟨[vM],f.g Z,f.d,G2,[itM],hl2,m,itM,Z,oM⟩
end Go.Proofs.YtmkcbhidbdggiaaGreatDoor

set_option maxRecDepth 100000
namespace Go.Proofs.YtmkcbhidbdggiaaGreatDoor
open Go Go.Sx
open Go.Proofs.Tryz Go.Proofs.YtmkcbhidbdggiaaGreatDoor.Tryz IntKind
variable {W w : World} {G : GH} {H : List Itm}
theorem Wk.o1 {aa ab:Int}(m:Mem W G w (H)){y:Int×Int}(hd:D.o1 aa ab=some y):
  Calls prog 60 #[(.agg #[(iv aa),(iv ab)])] w (Res W G H (λ_ Ho v=>Ho=[]∧v=(.agg #[(iv y.1),(iv y.2)]))):=by
 refine Au (args:=[(.agg #[(iv aa),(iv ab)])]) (N:=8) [.cell 2 90] func60 Z Z (lb Z) Z λa f=> ?_
 unfold D.o1 at hd
 refine Ag ?_
 refine BN (cs:=[(iv aa),(iv ab)]) m f Z Z Z λac w a m f=>Bx (cs:=[(iv 0),(iv 0)]) zeroValue90 m f Z Z λad w a m f=>Ay ?_
 refine BC underlying90 Z sizeOf3 f Z λa f=>A5 1 1 m Pl3 f Z Z Z Z λa f=>BC underlying90 Z sizeOf3 f Z λa f=>A5 1 0 m Pl3 f Z Z Z Z λa f=> ?_
 have ae:∀w,(Instr.build 90 #[(0,(iv ab)),(1,(iv aa))]).run prog w= .ok (.agg #[(iv ab),(iv aa)]) w:=by intro w;simp[Instr.build,Instr.fill,Cd,BZ,BO,BS,BF,Ce]
 refine CG f Z Z ae λa f=>A3 0 0 (ds:=[(iv ab),(iv aa)]) m sizeOf90 f Z Z Z (Ap Z (Ap Z AH)) Z (lb Z) Z λw m=>Ab ?_
 refine Ar ?_
 have af:=CZ (P:=prog) 0 m Bh f (s:=2) rfl rfl rfl
 have m:Mem W G w H:=Mem.drop (H':=[ib ad 90 [(iv ab),(iv aa)],ib ac 90 [(iv aa),(iv ab)]]) m
 obtain rfl:=sj hd
 exact⟨[(.agg #[(iv ab),(iv aa)])],⟨af,trivial⟩,f.d,_,[],gr,m,Z,Z⟩
theorem Wk.m0 {v0:Value}{it0:Itm}{x0:LI}{x1 x2:Int}(m:Mem W G w (it0::H))(o0:Ow (RI .u32) 65 G it0 v0 x0){y:(LI)}(hd:D.m0 x0 x1 x2=some y):
  Calls prog 62 #[v0,(iv x1),(iv x2)] w (Res W G H (λG' Ho _=>∃i0:Itm,Ho=[i0]∧Ow (RI .u32) 65 G' i0 v0 y)):=by
 refine Au (args:=[v0,(iv x1),(iv x2)]) (N:=22) [] func62 Z Z (lb Z) Z λa f=> ?_
 unfold D.m0 at hd
 refine Ah ?_
 refine A4 8 Az (by kernel_rfl) m ?_
 refine Ae 0 8 Z f Z λa f=>Ae 1 8 Z f Z λa f=> ?_
 have⟨aa,ab,hd⟩:=bind_some hd
 refine AW 2 8 0 m o0 T58 ab Z f Z Z λac a ad f=>Ba 3 8 0 o0 CY ad ab Z f Z λae a af f=> ?_
 subst af
 refine Ae 4 8 Z f Z λa f=> ?_
 have⟨ag,ah,hd⟩:=bind_some hd
 refine Bu (i:=5) 8 Z (by kernel_rfl) Z f Z Z Z call61 (λ_ _ w ai m=>Wk.b m ah) λa f=>q_p 6 8 Z f (λ_=>AB (f.e Z) (f.e Z) CC) λa f=> ?_
 have⟨aj,ak,hd⟩:=bind_some hd
 refine AW 7 8 0 m o0 T58 ak Z f Z Z λal a am f=>AN λan w ao m=> ?_
 have o0:=od1 ao o0
 refine AM 0 m o0 Z sizeOf65 f Z Z am ak Z Z Z λap w m aq=>Ab ?_
 refine A4 8 Az (by kernel_rfl) m ?_
 refine Ae 0 8 Z f Z λa f=>Ae 1 8 Z f Z λa f=> ?_
 have⟨ar,au,hd⟩:=bind_some hd
 refine AW 2 8 0 m aq T58 au Z f Z Z λav a aw f=>Ba 3 8 0 aq CY aw au Z f Z λax a ay f=> ?_
 subst ay
 refine Ae 4 8 Z f Z λa f=> ?_
 have⟨az,aA,hd⟩:=bind_some hd
 refine Bu (i:=5) 8 Z (by kernel_rfl) Z f Z Z Z call61 (λ_ _ w aB m=>Wk.b m aA) λa f=>q_p 6 8 Z f (λ_=>AB (f.e Z) (f.e Z) CC) λa f=> ?_
 have⟨aC,aD,hd⟩:=bind_some hd
 refine AW 7 8 0 m aq T58 aD Z f Z Z λaE a aF f=>AN λaG w aH m=> ?_
 have aq:=od1 aH aq
 refine AM 0 m aq Z sizeOf65 f Z Z aF aD Z Z Z λaI w m aJ=>Ab ?_
 obtain rfl:=sj hd
 exact⟨[],trivial,f.d,_,[aI],(gt ao aH),m,_,Z,aJ⟩
end Go.Proofs.YtmkcbhidbdggiaaGreatDoor

set_option maxRecDepth 100000
namespace Go.Proofs.YtmkcbhidbdggiaaGreatDoor
open Go Go.Sx
open Go.Proofs.Tryz Go.Proofs.YtmkcbhidbdggiaaGreatDoor.Tryz IntKind
variable {W w : World} {G : GH} {H : List Itm}
theorem oT :SlT prog 58 65 1 4 (.int .u32 0):=⟨underlying58,Tryz.t65,by kernel_rfl,by kernel_rfl,by kernel_rfl,by kernel_rfl⟩
theorem oPl :B3 prog 65:=isAgg65
theorem oPi :B3 prog 3:=isAgg3
set_option maxHeartbeats 4000000 in
theorem Wk.r {v0:Value}{x0:LI}(hW:CI W)(m:Mem W G w H)(h0:RSl (RI .u32) G v0 x0){y:LI}(hd:D.r x0=some y):
  Calls prog 29 #[v0] w (Res W G H (λG' Ho v=>∃r0:Value,∃i0:Itm,Ho=[i0]∧r0=v∧Ow (RI .u32) 65 G' i0 r0 y∧Dk r0=y.isEmpty)):=by
 refine Au (args:=[v0]) (N:=73) [.tmp 2] func29 Z Z (lb Z) Z λa f=> ?_
 unfold D.r at hd
 have⟨left,hleft,hd⟩:=bind_some hd
 have⟨heads,hheads,hd⟩:=bind_some hd
 have⟨res,hres,hd⟩:=bind_some hd
 obtain⟨f0,f1,kpk⟩:=kPK
 have hmp:=underlying86
 have hz:=zeroValue3
 refine Ag ?_
 refine Ac f Z λa f=>Ab (Ah ?_)
 refine AJ (λa w=>∃(G':GH) (itL itH:Itm) (vL vH:Value),GLe G G'∧Fr a 73 [(3,vL),(4,vH)]∧Mem W G' w (itL::itH::H)∧Ow (RI .u32) 65 G' itL vL left∧Ow (RI .u32) 65 G' itH vH heads) ?_ ?_
 ·skip
  refine A4 6 Az (by kernel_rfl) m ?_
  refine Ae 0 6 Z f Z λa f=>Ae 2 6 Z f Z λa f=>q_len (i:=3) 6 underlying58 h0 Z (by kernel_rfl) Z f Z Z Z λa f=>q_two (i:=1) (j:=4) (l1:= #[true,true,true,true,false,false,false]) (l2:= #[true,false,true,true,true,false,false]) Z Z (by kernel_rfl) Z Z (λG1 w hl1 m K K=> ?_) λG1 w hl1 m K K=> ?_
  ·skip
   have h0:=rd1 hl1 h0
   refine AT f Z call57 (Wk.g0 m h0 hleft) λv9 G9 Ho9 w hl9 m hQ9 a f=> ?_
   obtain⟨vL,itL,rfl,rfl,oL⟩:=hQ9
   refine Ab ?_
   refine K G9 [itL] _ _ hl9 m ?_
   refine q_p 5 6 Z f (λ_=>Cb (f.e Z)) λa f=>CX 4 Z λG2 w hl2 m K K=> ?_
   have oL:=od1 hl2 oL
   refine C2 (R:=(RI .u32)) m oT Z (by decide) Z f Z Z Z hheads λitH vH w a m oH f=>Ab ?_
   refine K G2 [itH,itL] _ _ gr m ?_
   refine AN λG3 w hl3 m=> ?_
   have oL:=od1 hl3 oL
   have oH:=od1 hl3 oH
   refine Ac f Z λa f=>Ab ?_
   have m:=m.fr 1
   exact⟨G3,itL,itH,vL,vH,gt hl1 (gt hl9 (gt hl2 hl3)),f.k Z,m,oL,oH⟩
  ·skip
   refine C2 (R:=(RI .u32)) m oT Z (by decide) Z f Z Z Z hheads λitH vH w a m oH f=>Ab ?_
   refine K G1 [itH] _ _ gr m ?_
   refine CX 1 Z λG2 w hl2 m K K=> ?_
   have oH:=od1 hl2 oH
   have h0:=rd1 (gt hl1 hl2) h0
   refine AT f Z call57 (Wk.g0 m h0 hleft) λv9 G9 Ho9 w hl9 m hQ9 a f=> ?_
   obtain⟨vL,itL,rfl,rfl,oL⟩:=hQ9
   have oH:=od1 hl9 oH
   refine Ab ?_
   refine K G9 [itL,itH] _ _ hl9 m ?_
   refine q_p 5 6 Z f (λ_=>Cb (f.e Z)) λa f=>AN λG3 w hl3 m=> ?_
   have oL:=od1 hl3 oL
   have oH:=od1 hl3 oH
   refine Ac f Z λa f=>Ab ?_
   exact⟨G3,itL,itH,vL,vH,gt hl1 (gt hl2 (gt hl9 hl3)),f.k Z,m,oL,oH⟩
 ·skip
  clear f m
  rintro a w ⟨G1,itL,itH,vL,vH,hl1,f,m,oL,oH⟩
  refine Ah (Ag ?_)
  refine Aa f Z λa f=>Dc 0 m oL Z underlying58 f Z Z λa f=>Aa f Z λa f=>Ab ?_
  refine AJ (λa w=>∃(G':GH) (itL itH:Itm) (vL vH:Value) (hs:LI),res=some hs∧GLe G G'∧Fr a 73 [(4,vH)]∧Mem W G' w (itL::itH::H)∧Ow (RI .u32) 65 G' itH vH hs) ?_ ?_
  ·skip
   refine Ak ?_
   refine AK (fun(s:(LI×LI)×Int) a w=>∃(G':GH) (itL itH:Itm) (vL vH:Value),GLe G G'∧Fr a 73 [(3,vL),(4,vH),(17,.int .i64 (left.length:Int)),(18,.int .i64 s.2)]∧Mem W G' w (itL::itH::H)∧Ow (RI .u32) 65 G' itL vL s.1.1∧Ow (RI .u32) 65 G' itH vH s.1.2) hres ⟨G1,itL,itH,vL,vH,hl1,f.k Z,m,oL,oH⟩ ?_
   clear hres f m oL oH
   rintro⟨s,u⟩ ro hs hq a w ⟨G2,itL,itH,vL,vH,hl2,f,m,oL,oH⟩
   unfold D.f0 at hs
   dsimp only at hs oL oH f
   refine Ag ?_
   refine Ai f Z Z AV λa f=>Ab (Ah ?_)
   rcases Af hs with⟨hc,hs⟩|⟨hc,hs⟩
   ·skip
    refine Al f Z hc ?_
    refine An ?_
    have⟨q2,hq2,hs⟩:=bind_some hs
    refine Ah (Ak (Ag ?_))
    refine Aa f Z λa f=>Ac f Z λa f=>Ab ?_
    refine AJ (λa w=>∃(G':GH) (itL itH:Itm) (vL vH:Value) (s':LI×LI),q2=some s'∧GLe G G'∧Fr a 73 [(3,vL),(4,vH),(17,.int .i64 (left.length:Int)),(18,.int .i64 u)]∧Mem W G' w (itL::itH::H)∧Ow (RI .u32) 65 G' itL vL s'.1∧Ow (RI .u32) 65 G' itH vH s'.2) ?_ ?_
    ·skip
     refine Ak ?_
     refine AK (fun(s:LI×LI) a w=>∃(G':GH) (itL itH:Itm) (vL vH:Value),GLe G G'∧Fr a 73 [(3,vL),(4,vH),(17,.int .i64 (left.length:Int)),(5,.int .i64 u),(18,.int .i64 u)]∧Mem W G' w (itL::itH::H)∧Ow (RI .u32) 65 G' itL vL s.1∧Ow (RI .u32) 65 G' itH vH s.2) hq2 ⟨G2,itL,itH,vL,vH,hl2,f.k Z,m,oL,oH⟩ ?_
     clear hq2 f m oL oH
     rintro s ri hsi hqi a w ⟨G3,itL,itH,vL,vH,hl3,f,m,oL,oH⟩
     unfold D.N at hsi
     have⟨e,he,hsi⟩:=bind_some hsi
     refine Ah (Ag ?_)
     refine Aa f Z λa f=>Aa f Z λa f=>Bo 0 m oL Z oT f Z Z Z he λp a ha f=>DH 0 m oL Z oPl f Z Z ha he λc a h f=> ?_
     subst h
     refine Ai f Z Z C5 λa f=>Ab ?_
     rcases Af hsi with⟨hci,hsi⟩|⟨hci,hsi⟩
     ·skip
      refine Al f Z hci ?_
      refine An ?_
      have⟨v,hv,hsi⟩:=bind_some hsi
      have⟨M,hM,hsi⟩:=bind_some hsi
      refine Ak (Ag ?_)
      refine Aa f Z λa f=>Aa f Z λa f=>Aa f Z λa f=>Aa f Z λa f=>Bo 0 m oL Z oT f Z Z Z he λp a ha f=>DH 0 m oL Z oPl f Z Z ha he λc a h f=> ?_
      subst h
      refine Bk f Z call59 (Wk.v hW m hv) λG4 w hl4 m a f=> ?_
      have oL:=od1 hl4 oL
      have oH:=od1 hl4 oH
      have hb:∀w,(Instr.build 90 #[(0,(iv u)),(1,(iv v))]).run prog w= .ok (kyV (u,v)) w:=by intro w;simp[Instr.build,Instr.fill,kyV,Cd,BZ,BO,BS,BF,Ce]
      refine CG f Z Z hb λa f=>AT f Z call58 (Ow.lendCall (RI.mono _) 0 oL m Z (λG' hG m hL=>Wk.U hW m hL hM) (λ_ _ _ _ h=>h)) λvM G5 Ho5 w hl5 m hQ5 a f=> ?_
      obtain⟨itM,rfl,oM⟩:=hQ5
      have oL:=od1 hl5 oL
      have oH:=od1 hl5 oH
      refine Ac f Z λa f=>Ab ?_
      have hl35:GLe G G5:=gt hl3 (gt hl4 hl5)
      refine Ah (Ag ?_)
      refine Aa f Z λa f=>l_rangeMa 0 m oM Z hmp f Z Z λitI vI w a m hR f=>Ab ?_
      rcases Af hsi with⟨hk,hsi⟩|⟨hk,hsi⟩
      ·skip
       obtain rfl:=sj hsi
       obtain rfl:=hqi _ rfl
       have hs':some (Sum.inr none)=some ro:=hs
       obtain rfl:=sj hs'
       obtain rfl:=hq _ rfl
       have hd':some ([]:LI)=some y:=hd
       obtain rfl:=sj hd'
       have hex:∃e∈M.map (·.1),(By M (e.2,e.1)).isSome=true:=by
        obtain⟨kv,h1,h2⟩:=List.any_eq_true.1 hk
        exact⟨kv.1,List.mem_map.2 ⟨kv,h1,Z⟩,h2⟩
       refine AJ (λa w=>False) ?_ (λ_ _ h=>h.elim)
       refine Ak ?_
       refine k_loopN (λk a w=>∃(rs:ArL) (at':Option (Int×Int)) (G':GH) (itI:Itm),rs.length=k∧RgI itM itI vI rs at'∧(∃e∈rs,(By M (e.2,e.1)).isSome=true)∧GLe G5 G'∧Fr a 73 [(3,vL),(4,vH),(5,.int .i64 u),(6,vM),(17,.int .i64 (left.length:Int)),(18,.int .i64 u),(36,vI)]∧Mem W G' w (itI::itM::itL::itH::H)) ⟨_,none,G5,itI,Z,hR,hex,gr,f.k Z,m⟩ ?_
       clear f m hR hex
       rintro k a w ⟨rs,at',G6,itI,hk',hR,hex,hl6,f,m⟩
       refine Ag ?_
       refine l_nextMa 0 1 m hR oM Z Z f Z Z (λh0=> ?_) λee rs' itI y0 w a hp m hR f=> ?_
       ·skip
        subst h0
        obtain⟨_,h,_⟩:=hex
        cases h
       refine l_o f (AI (f.e Z) Z) λa f=>Ab (Ah ?_)
       refine Al f Z Z ?_
       refine An ?_
       refine Ak (Ag ?_)
       refine EH 0 1 m hR oM Z Z f Z Z λy1 a f=>l_o f (AI (f.e Z) Z) λa f=>Bx (cs:=[(iv 0),(iv 0)]) zeroValue90 m f Z Z λb7 w a m f=>A3 0 0 (ds:=[.int .i64 ee.1,.int .i64 ee.2]) m sizeOf90 f Z Z Z (Ap Z (Ap Z AH)) Z (lb Z) Z λw m=>Ay ?_
       refine Aa f Z λa f=>A9 0 0 (ds:=[.int .i64 ee.1,.int .i64 ee.2]) m kA f Z Z Z Z Z λa f=>Bk f Z call60 (Wk.o1 (y:=(ee.2,ee.1)) m Z) λG7 w hl7 m a f=>Eu (i:=(ee.2,ee.1)) kpk 2 m oM Z hmp hz f Z Z Z λa f=>Aa f Z λa f=>l_o f (AI (f.e Z) Z) λa f=>l_o f (AI (f.e Z) Z) λa f=>Ac f Z λa f=>Ac f Z λa f=>Ay ?_
       refine Aa f Z λa f=>Ab ?_
       cases hopp:(By M (ee.2,ee.1)).isSome
       ·skip
        refine Aj f Z hopp ?_
        refine An ?_
        refine⟨rs'.length,by rw[←hk',hp.length_eq];exact Nat.lt_succ_self _,rs',some ee,G7,itI,Z,hR,?_,gt hl6 hl7,f.k Z,m.tail⟩
        obtain⟨e1,h1,h2⟩:=hex
        rcases List.mem_cons.1 (hp.mem_iff.1 h1) with h|h
        ·skip
         subst h;rw[hopp] at h2;cases h2
        ·skip
         exact⟨e1,h,h2⟩
       ·skip
        refine Al f Z hopp ?_
        refine Ag ?_
        refine Ac f Z λa f=>Ab ?_
        refine Ar ?_
        have m:Mem W G7 w H:=m.tail.tail.tail.tail.tail
        obtain⟨itN,m,oN⟩:=Ow.nil (RI .u32) 65 m
        exact⟨[.slice none 0 0],f.g Z,f.d,G7,[itN],gt hl35 (gt hl6 hl7),m,_,_,Z,Z,oN,Z⟩
      ·skip
       have⟨sf,hsf,hsi⟩:=bind_some hsi
       obtain rfl:=sj hsi
       have hnone:∀e∈M.map (·.1),(By M (e.2,e.1)).isSome=false:=λe he=>by
        obtain⟨kv,h1,rfl⟩:=List.mem_map.1 he
        cases hh:(By M (kv.1.2,kv.1.1)).isSome
        ·rfl
        ·exact absurd (List.any_eq_true.2 ⟨kv,h1,hh⟩) (by show¬D.w0 M=true;rw[hk];decide)
       refine AJ (λa w=>∃(G':GH),GLe G5 G'∧Fr a 73 [(3,vL),(4,vH),(5,.int .i64 u),(6,vM),(17,.int .i64 (left.length:Int)),(18,.int .i64 u)]∧Mem W G' w (itM::itL::itH::H)) ?_ ?_
       ·skip
        refine Ak ?_
        refine k_loopN (λk a w=>∃(rs:ArL) (at':Option (Int×Int)) (G':GH) (itI:Itm),rs.length=k∧RgI itM itI vI rs at'∧(∀e∈rs,(By M (e.2,e.1)).isSome=false)∧GLe G5 G'∧Fr a 73 [(3,vL),(4,vH),(5,.int .i64 u),(6,vM),(17,.int .i64 (left.length:Int)),(18,.int .i64 u),(36,vI)]∧Mem W G' w (itI::itM::itL::itH::H)) ⟨_,none,G5,itI,Z,hR,hnone,gr,f.k Z,m⟩ ?_
        clear f m hR
        rintro k a w ⟨rs,at',G6,itI,hk',hR,hno,hl6,f,m⟩
        refine Ag ?_
        refine l_nextMa 0 1 m hR oM Z Z f Z Z (λh0 a f=> ?_) λee rs' itI y0 w a hp m hR f=> ?_
        ·skip
         refine l_o f (AI (f.e Z) Z) λa f=>Ab (Ah ?_)
         refine Aj f Z Z ?_
         refine AG Z ?_
         exact⟨G6,hl6,f.k Z,m.tail⟩
        refine l_o f (AI (f.e Z) Z) λa f=>Ab (Ah ?_)
        refine Al f Z Z ?_
        refine An ?_
        refine Ak (Ag ?_)
        refine EH 0 1 m hR oM Z Z f Z Z λy1 a f=>l_o f (AI (f.e Z) Z) λa f=>Bx (cs:=[(iv 0),(iv 0)]) zeroValue90 m f Z Z λb7 w a m f=>A3 0 0 (ds:=[.int .i64 ee.1,.int .i64 ee.2]) m sizeOf90 f Z Z Z (Ap Z (Ap Z AH)) Z (lb Z) Z λw m=>Ay ?_
        refine Aa f Z λa f=>A9 0 0 (ds:=[.int .i64 ee.1,.int .i64 ee.2]) m kA f Z Z Z Z Z λa f=>Bk f Z call60 (Wk.o1 (y:=(ee.2,ee.1)) m Z) λG7 w hl7 m a f=>Eu (i:=(ee.2,ee.1)) kpk 2 m oM Z hmp hz f Z Z Z λa f=>Aa f Z λa f=>l_o f (AI (f.e Z) Z) λa f=>l_o f (AI (f.e Z) Z) λa f=>Ac f Z λa f=>Ac f Z λa f=>Ay ?_
        refine Aa f Z λa f=>Ab ?_
        have hopp:=hno ee (hp.mem_iff.2 List.mem_cons_self)
        refine Aj f Z hopp ?_
        refine An ?_
        exact⟨rs'.length,by rw[←hk',hp.length_eq];exact Nat.lt_succ_self _,rs',some ee,G7,itI,Z,hR,λe he=>hno e (hp.mem_iff.2 (List.mem_cons_of_mem _ he)),gt hl6 hl7,f.k Z,m.tail⟩
       ·skip
        clear f m hR
        rintro a w ⟨G6,hl6,f,m⟩
        have oL:=od1 hl6 oL
        have oH:=od1 hl6 oH
        refine Ag ?_
        refine Aa f Z λa f=>l_rangeMa 0 m oM Z hmp f Z Z λitI vI w a m hR f=>Ab (Ak ?_)
        refine k_loopN (λk a w=>∃(rs:ArL) (at':Option (Int×Int)) (s:LI×LI) (G':GH) (itI itL itH:Itm),rs.length=k∧RgI itM itI vI rs at'∧D.o rs s=some sf∧GLe G6 G'∧Fr a 73 [(3,vL),(4,vH),(5,.int .i64 u),(17,.int .i64 (left.length:Int)),(18,.int .i64 u),(50,vI)]∧Mem W G' w (itI::itM::itL::itH::H)∧Ow (RI .u32) 65 G' itL vL s.1∧Ow (RI .u32) 65 G' itH vH s.2) ⟨_,none,s,G6,itI,itL,itH,Z,hR,hsf,gr,f.k Z,m,oL,oH⟩ ?_
        clear f m hR hsf oL oH
        rintro k a w ⟨rs,at',s,G7,itI,itL,itH,hk',hR,hsf,hl7,f,m,oL,oH⟩
        refine Ag ?_
        refine l_nextMa 0 1 m hR oM Z Z f Z Z (λh0 a f=> ?_) λee rs' itI y0 w a hp m hR f=> ?_
        ·skip
         subst h0
         obtain rfl:=sj hsf
         refine l_o f (AI (f.e Z) Z) λa f=>Ab (Ah ?_)
         refine Aj f Z Z ?_
         refine AG Z ?_
         exact⟨_,Z,G7,itL,itH,vL,vH,gt hl35 (gt hl6 hl7),f.k Z,m.tail.tail,oL,oH⟩
        have hsf:=orFold_perm hp _ _ hsf
        unfold D.o at hsf
        have⟨s1,hs1,hsf⟩:=bind_some hsf
        unfold D.q at hs1
        have⟨e1,he1,hs1⟩:=bind_some hs1
        have⟨o1,ho1,hs1⟩:=bind_some hs1
        have⟨l1,hl1',hs1⟩:=bind_some hs1
        obtain rfl:=sj hs1
        refine l_o f (AI (f.e Z) Z) λa f=>Ab (Ah ?_)
        refine Al f Z Z ?_
        refine An ?_
        refine Ak (Ag ?_)
        refine EH 0 1 m hR oM Z Z f Z Z λy1 a f=>l_o f (AI (f.e Z) Z) λa f=>Bx (cs:=[(iv 0),(iv 0)]) zeroValue90 m f Z Z λb7 w a m f=>A3 0 0 (ds:=[.int .i64 ee.1,.int .i64 ee.2]) m sizeOf90 f Z Z Z (Ap Z (Ap Z AH)) Z (lb Z) Z λw m=>Ab (Ah ?_)
        refine AJ (λa w=>∃(G':GH) (itH:Itm),GLe G7 G'∧Fr a 73 [(3,vL),(4,vH),(5,.int .i64 u),(17,.int .i64 (left.length:Int)),(18,.int .i64 u),(50,vI),(10,.pointer (some ⟨b7,0,none⟩))]∧Mem W G' w (kBx b7 ee::itI::itM::itL::itH::H)∧Ow (RI .u32) 65 G' itH vH (s.2.set (Int.toNat ee.1) (ior .u32 e1 o1))) ?_ ?_
        ·skip
         refine A4 9 Az (by kernel_rfl) m ?_
         refine Ae 0 9 Z f Z λa f=>Cf 1 9 underlying90 Z sizeOf3 Z f Z λa f=>BX 2 9 0 oPi Z Z Z f Z λa f=>AW 3 9 4 m oH oT he1 Z f Z Z λp a ha f=>Ba 4 9 4 oH oPl ha he1 Z f Z λc a h f=> ?_
         subst h
         refine Cf 5 9 underlying90 Z sizeOf3 Z f Z λa f=>BX 6 9 0 oPi Z Z Z f Z λa f=>Bu (i:=7) 9 Z (by kernel_rfl) Z f Z Z Z call61 (λ_ _ w hG m=>Wk.b m ho1) λa f=>q_p 8 9 Z f (λ_=>AB (f.e Z) (f.e Z) b_or) λa f=>AN λG8 w hl8 m=> ?_
         have oH:=od1 hl8 oH
         refine Bo 4 m oH Z oT f Z Z Z he1 λp a ha f=>AM 4 m oH Z sizeOf65 f Z Z ha he1 Z Z Z λitH w m oH=>Ab ?_
         exact⟨G8,itH,hl8,f.k Z,m,oH⟩
        ·skip
         clear f m oH
         rintro a w ⟨G8,itH,hl8,f,m,oH⟩
         have oL:=od1 hl8 oL
         refine Ao ?_
         refine Aa f Z λa f=>BC underlying90 Z sizeOf3 f Z λa f=>A5 0 0 m oPi f Z Z Z Z λa f=>BC underlying90 Z sizeOf3 f Z λa f=>A5 0 1 m oPi f Z Z Z Z λa f=> ?_
         have m:=m.fr 3
         refine AT f Z call62 (Wk.m0 m oL hl1') λv9 G9 Ho9 w hl9 m hQ9 a f=> ?_
         obtain⟨itL,rfl,oL⟩:=hQ9
         have oH:=od1 hl9 oH
         refine Ab ?_
         have m:=m.eraseAt 1
         have m:=m.fr 2
         have m:=m.fr 2
         exact⟨rs'.length,by rw[←hk',hp.length_eq];exact Nat.lt_succ_self _,rs',some ee,_,G9,itI,itL,itH,Z,hR,hsf,gt hl7 (gt hl8 hl9),f.k Z,m,oL,oH⟩
     ·skip
      refine Aj f Z hci ?_
      refine AG Z ?_
      obtain rfl:=sj hsi
      obtain rfl:=hqi _ rfl
      exact⟨G3,itL,itH,vL,vH,s,Z,hl3,f.k Z,m,oL,oH⟩
    ·skip
     clear f m oL oH
     rintro a w ⟨G3,itL,itH,vL,vH,s',rfl,hl3,f,m,oL,oH⟩
     have hs':some (Sum.inl (s',i64.wrap (u+1)))=some ro:=hs
     obtain rfl:=sj hs'
     refine Ao ?_
     refine Ai f Z Z As λa f=>Aa f Z λa f=>Ab ?_
     exact⟨_,Z,G3,itL,itH,vL,vH,hl3,f.k Z,m,oL,oH⟩
   ·skip
    refine Aj f Z hc ?_
    refine AG Z ?_
    obtain rfl:=sj hs
    have hr:=hq _ rfl
    exact⟨G2,itL,itH,vL,vH,s.2,hr.symm,hl2,f.k Z,m,oH⟩
  ·skip
   clear f m oL oH
   rintro a w ⟨G2,itL,itH,vL,vH,hs,rfl,hl2,f,m,oH⟩
   have hd':(nonE hs).bind (λ_=>some hs)=some y:=hd
   obtain⟨un,hn,hd'⟩:=bind_some hd'
   obtain rfl:=sj hd'
   have hnn:=Ow.notNil 1 m oH rfl hn
   refine Ag ?_
   refine Aa f Z λa f=>Ac f Z λa f=>Ab ?_
   refine Ar ?_
   exact⟨[vH],f.g Z,f.d,G2,[itH],hl2,m.tail,vH,itH,Z,Z,oH,hnn⟩
end Go.Proofs.YtmkcbhidbdggiaaGreatDoor
