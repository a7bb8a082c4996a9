/- Parts. -/
import Derived.Test.YtehkdflfnampdaaGreatDoorCh2
import Derived.Test.YtehkdflfnampdaaGreatDoorProg
import Derived.KernelRfl
set_option linter.unusedVariables false
set_option linter.unusedSimpArgs false
set_option maxRecDepth 100000
namespace Go.Proofs.YtehkdflfnampdaaGreatDoor
open Go Go.Sx
open Go.Proofs.Tryz Go.Proofs.YtehkdflfnampdaaGreatDoor.Tryz IntKind
variable {W w : World} {G : GH} {H : List Itm}
theorem T22 :SlT prog 22 5 1 1 (.int .u8 0):=⟨underlying22,Tryz.t5,by kernel_rfl,by kernel_rfl,by kernel_rfl,by kernel_rfl⟩
theorem Pl22 :BS prog 22:=isAgg22
theorem T24 :SlT prog 24 28 1 24 sn:=⟨underlying24,Tryz.t28,by kernel_rfl,by kernel_rfl,by kernel_rfl,by kernel_rfl⟩
theorem Bt :BS prog 24:=isAgg24
theorem AI :Agg prog 26 1:=⟨isAgg26,sizeOf26⟩
theorem B3 :BS prog 28:=isAgg28
theorem Wk.r1 {v0:Value}{x0:LI}(m:Mem W G w (H))(h0:RSl (RI .u8) G v0 x0){y:Bool}(hd:D.r1 x0=some y):
  Calls prog 4 #[v0] w (Res W G H (λ_ Ho v=>Ho=[]∧v=(.bool y))):=by
 refine Au (args:=[v0]) (N:=6) [.tmp 2] func4 Z Z (lb Z) Z λa f=> ?_
 unfold D.r1 at hd
 refine Af ?_
 refine Ac f Z λa f=>AB ?_
 refine Ab f Z λa f=>A8 underlying22 f Z Z h0 λa f=>Ai f Z Z Ce λa f=>Ac f Z λa f=>Aa ?_
 refine Aq ?_
 obtain rfl:=sj hd
 exact⟨[(.bool (decide ((4096:Int)<(x0.length:Int))))],f.g Z,f.d,_,[],gr,m,Z,Z⟩
theorem Wk.I0 {v0:Value}{x0:LI}(m:Mem W G w (H))(h0:RSl (RI .u8) G v0 x0){y:(LI)×Int×Int}(hd:D.I0 x0=some y):
  Calls prog 16 #[v0] w (Res W G H (λG' Ho v=>∃r0:Value,∃c1:Nat,Ho=[ib c1 64 [r0,(iv y.2.1),(iv y.2.2)]]∧v=(pb c1)∧RSl (RI .u8) G' r0 y.1)):=by
 refine Au (args:=[v0]) (N:=28) [.tmp 2] func16 Z Z (lb Z) Z λa f=> ?_
 unfold D.I0 at hd
 refine Af ?_
 refine Ac f Z λa f=>AB ?_
 refine Ab f Z λa f=>A8 underlying22 f Z Z h0 λa f=>Ai f Z Z Ax λa f=>Ac f Z λa f=>Aa (Ag (Af ?_))
 refine Ac f Z λa f=>Aa ?_
 have⟨aa,ab,hd⟩:=bind_some hd
 refine AM (λa w=>∃ac:Int,ac=aa∧∃(ad:GH),GLe G ad∧Fr a 28 [(0,v0),(3,(iv ac))]∧Mem W ad w (H)) ?_ ?_
 ·refine Ak ?_
  refine AL (λae a w=>∃af:Int,∃ag:Int,(af,ag)=ae∧∃(ah:GH),GLe G ah∧Fr a 28 [(0,v0),(3,(iv af)),(4,(iv ag))]∧Mem W ah w (H)) ab ⟨_,_,Z,_,gr,f.k Z,m⟩ ?_
  clear ab f m
  rintro ae ai aj ak a w ⟨af,ag,rfl,ah,al,f,m⟩
  have h0:=rd1 al h0
  refine Ag (Af ?_)
  refine Ab f Z λa f=>Ab f Z λa f=>A8 underlying22 f Z Z h0 λa f=>Ai f Z Z AR λa f=>Aa ?_
  rcases Ae aj with⟨am,aj⟩|⟨am,aj⟩
  ·refine Al f Z am ?_
   refine Ap ?_
   refine Ag (Ak (Ao ?_))
   refine Ab f Z λa f=>Ai f Z Z C3 λa f=>Ab f Z λa f=>Ab f Z λa f=> ?_
   have⟨an,ao,aj⟩:=bind_some aj
   refine Bu T22 f Z Z Z h0 ao λap aq a ar au f=> ?_
   subst au
   refine AT m Pl5 f Z Z ar λa f=>l_o f (Dy (f.e Z) ⟨_,underlying5⟩ underlying2) λa f=>Ai f Z Z Ax λa f=>Ai f Z Z Ax λa f=>Ai f Z Z CT λa f=>Ac f Z λa f=>Aa (Ao ?_)
   refine Ab f Z λa f=>Ai f Z Z Ax λa f=>Ac f Z λa f=>Aa ?_
   obtain rfl:=sj aj
   exact⟨_,Z,_,_,Z,_,al,f.k Z,m⟩
  ·refine Aj f Z am ?_
   refine AH Z ?_
   obtain rfl:=sj aj
   obtain rfl:=ak _ rfl
   exact⟨_,Z,_,al,f.k Z,m⟩
 ·rintro a w ⟨ac,rfl,ad,av,f,m⟩
  have h0:=rd1 av h0
  refine Af ?_
  refine Ab f Z λa f=>Ab f Z λa f=> ?_
  have aw:∀w,(Instr.build 64 #[(0,v0),(2,(iv ac))]).run prog w= .ok (.agg #[v0,(iv 0),(iv ac)]) w:=by intro w;simp[Instr.build,Instr.fill,h0.cells,Cm,Cw,B6,Cf,BT,Cp]
  refine CG f Z Z aw λa f=>Bj (cs:=[v0,(iv 0),(iv ac)]) m f Z Z Z λax w a m f=>Ac f Z λa f=>Aa ?_
  refine Aq ?_
  obtain rfl:=sj hd
  exact⟨[(pb ax)],f.g Z,f.d,_,[ib ax 64 [v0,(iv 0),(iv ac)]],av,m,_,_,Z,Z,h0⟩
theorem Wk.r {aa:Value}{b0:Nat}{ab:LI}{ac ad:Int}(m:Mem W G w (ib b0 64 [aa,(iv ac),(iv ad)]::H))(ae:RSl (RI .u8) G aa ab){y:Int×(LI)×Int×Int}(hd:D.r ab ac ad=some y):
  Calls prog 87 #[(pb b0)] w (Res W G H (λG' Ho v=>∃r0:Value,Ho=[ib b0 64 [r0,(iv y.2.2.1),(iv y.2.2.2)]]∧v=(iv y.1)∧RSl (RI .u8) G' r0 y.2.1)):=by
 refine Au (args:=[(pb b0)]) (N:=58) [.tmp 2] func87 Z Z (lb Z) Z λa f=> ?_
 unfold D.r at hd
 refine Af ?_
 refine Ac f Z λa f=>AB ?_
 refine Ab f Z λa f=>Ab f Z λa f=>l_o f (Av (f.e Z)) λa f=>Bo underlying64 Z sizeOf2 f Z λa f=>AA 0 2 m Pl2 f Z Z Z Z λa f=>Ai f Z Z C3 λa f=>Ai f Z Z Ax λa f=>l_o f (Av (f.e Z)) λa f=>Bo underlying64 Z sizeOf2 f Z λa f=>An 0 2 (ds:=[(iv (i64.wrap ((i64.wrap (ad*6364136223846793005))+1442695040888963407)))]) m sizeOf2 f Z Z Z (Ar Z As) Z (lb Z) Z λw m=>Aa (Ag ?_)
 refine A2 13 AG (by kernel_rfl) m ?_
 refine Ah 0 13 Z f Z λa f=>q_p 1 13 Z f (λ_=>Av (f.e Z)) λa f=>Bg 2 13 underlying64 Z sizeOf2 Z f Z λa f=>Bp 3 13 0 Pl2 Z Z Z f Z λa f=>q_p 4 13 Z f (λ_=>DZ (f.e Z) (f.e Z) (by decide)) λa f=>Ah 5 13 Z f Z λa f=>q_p 6 13 Z f (λ_=>Av (f.e Z)) λa f=>Bg 7 13 underlying64 Z sizeOf2 Z f Z λa f=>Bp 8 13 0 Pl2 Z Z Z f Z λa f=>q_p 9 13 Z f (λ_=>DZ (f.e Z) (f.e Z) (by decide)) λa f=>q_p 10 13 Z f (λ_=>AF (f.e Z) (f.e Z) b_xor) λa f=>q_p 11 13 Z f (λ_=>AF (f.e Z) (f.e Z) CT) λa f=>q_p 12 13 Z f (λ_=>Ct (f.e Z)) λa f=>AJ λaf w ag m=> ?_
 have ae:=rd1 ag ae
 refine Aa (Ag (Ag ?_))
 refine A2 10 AG (by kernel_rfl) m ?_
 refine Ah 0 10 Z f Z λa f=>q_p 1 10 Z f (λ_=>Av (f.e Z)) λa f=>Bg 2 10 underlying64 Z sizeOf3 Z f Z λa f=>Bp 3 10 0 Pl3 Z Z Z f Z λa f=>Ah 4 10 Z f Z λa f=>q_p 5 10 Z f (λ_=>Av (f.e Z)) λa f=>Bg 6 10 underlying64 Z sizeOf22 Z f Z λa f=>Bp 7 10 0 Pl22 Z Z Z f Z λa f=>q_len (i:=8) 10 underlying22 ae Z (by kernel_rfl) Z f Z Z Z λa f=>q_p 9 10 Z f (λ_=>AF (f.e Z) (f.e Z) AR) λa f=>AJ λah w ai m=> ?_
 have ae:=rd1 ai ae
 refine Aa ?_
 rcases Ae hd with⟨aj,hd⟩|⟨aj,hd⟩
 ·refine Al f Z aj ?_
  refine Ag ?_
  refine A2 15 AG (by kernel_rfl) m ?_
  refine Ah 0 15 Z f Z λa f=>Ah 1 15 Z f Z λa f=>q_p 2 15 Z f (λ_=>Av (f.e Z)) λa f=>Bg 3 15 underlying64 Z sizeOf22 Z f Z λa f=>Bp 4 15 0 Pl22 Z Z Z f Z λa f=>Ah 5 15 Z f Z λa f=>q_p 6 15 Z f (λ_=>Av (f.e Z)) λa f=>Bg 7 15 underlying64 Z sizeOf3 Z f Z λa f=>Bp 8 15 0 Pl3 Z Z Z f Z λa f=> ?_
  have⟨ak,al,hd⟩:=bind_some hd
  refine BF 9 15 T22 ae al Z f Z Z λam an a ao ap f=> ?_
  subst ap
  refine BG 10 15 Pl5 ao Z f Z λa f=>q_p 11 15 Z f (λ_=>Dy (f.e Z) ⟨_,underlying5⟩ underlying2) λa f=>q_p 12 15 Z f (λ_=>AF (f.e Z) (f.e Z) Ax) λa f=>q_p 13 15 Z f (λ_=>AF (f.e Z) (f.e Z) CT) λa f=>q_p 14 15 Z f (λ_=>Ct (f.e Z)) λa f=>AJ λaq w ar m=> ?_
  have ae:=rd1 ar ae
  refine Aa (Ao ?_)
  refine Ab f Z λa f=>Ab f Z λa f=>l_o f (Av (f.e Z)) λa f=>Bo underlying64 Z sizeOf3 f Z λa f=>AA 0 1 m Pl3 f Z Z Z Z λa f=>Ai f Z Z Ax λa f=>l_o f (Av (f.e Z)) λa f=>Bo underlying64 Z sizeOf3 f Z λa f=>An 0 1 (ds:=[(iv (i64.wrap (ac+1)))]) m sizeOf3 f Z Z Z (Ar Z As) Z (lb Z) Z λw m=>AB ?_
  refine Ab f Z λa f=>Ac f Z λa f=>Aa ?_
  refine Aq ?_
  obtain rfl:=sj hd
  exact⟨[(iv (iand .i64 (i64.wrap ((iand .i64 (Bb .i64 (BC .i64 (i64.wrap ((i64.wrap (ad*6364136223846793005))+1442695040888963407)) 33) (BC .i64 (i64.wrap ((i64.wrap (ad*6364136223846793005))+1442695040888963407)) 45)) 255)+(i64.wrap ak))) 255))],f.g Z,f.d,_,[ib b0 64 [aa,(iv (i64.wrap (ac+1))),(iv (i64.wrap ((i64.wrap (ad*6364136223846793005))+1442695040888963407)))]],(gt ag (gt ai ar)),m,_,Z,Z,ae⟩
 ·refine Aj f Z aj ?_
  refine Ap ?_
  refine Af ?_
  refine Ab f Z λa f=>Ac f Z λa f=>Aa ?_
  refine Aq ?_
  obtain rfl:=sj hd
  exact⟨[(iv (iand .i64 (Bb .i64 (BC .i64 (i64.wrap ((i64.wrap (ad*6364136223846793005))+1442695040888963407)) 33) (BC .i64 (i64.wrap ((i64.wrap (ad*6364136223846793005))+1442695040888963407)) 45)) 255))],f.g Z,f.d,_,[ib b0 64 [aa,(iv ac),(iv (i64.wrap ((i64.wrap (ad*6364136223846793005))+1442695040888963407)))]],(gt ag ai),m,_,Z,Z,ae⟩
theorem Wk.c {aa:Value}{b0:Nat}{ab:LI}{ac ad x1:Int}(m:Mem W G w (ib b0 64 [aa,(iv ac),(iv ad)]::H))(ae:RSl (RI .u8) G aa ab){y:Int×(LI)×Int×Int}(hd:D.c ab ac ad x1=some y):
  Calls prog 64 #[(pb b0),(iv x1)] w (Res W G H (λG' Ho v=>∃r0:Value,Ho=[ib b0 64 [r0,(iv y.2.2.1),(iv y.2.2.2)]]∧v=(iv y.1)∧RSl (RI .u8) G' r0 y.2.1)):=by
 refine Au (args:=[(pb b0),(iv x1)]) (N:=37) [.tmp 4] func64 Z Z (lb Z) Z λa f=> ?_
 unfold D.c at hd
 refine Af ?_
 refine Ac f Z λa f=>Aa (Ag (Af ?_))
 refine Ab f Z λa f=>Ai f Z Z CN λa f=>Aa ?_
 rcases Ae hd with⟨af,hd⟩|⟨af,hd⟩
 ·refine Al f Z af ?_
  refine Af ?_
  refine Ac f Z λa f=>Aa ?_
  refine Aq ?_
  obtain rfl:=sj hd
  exact⟨[(iv 0)],f.g Z,f.d,_,[ib b0 64 [aa,(iv ac),(iv ad)]],gr,m,_,Z,Z,ae⟩
 ·refine Aj f Z af ?_
  refine Ap ?_
  refine Ag (Af ?_)
  refine Ab f Z λa f=>Ai f Z Z CN λa f=>Aa ?_
  rcases Ae hd with⟨ag,hd⟩|⟨ag,hd⟩
  ·refine Al f Z ag ?_
   refine Af ?_
   refine Ab f Z λa f=> ?_
   have⟨ah,ai,hd⟩:=bind_some hd
   refine AD f Z call87 (Wk.r m ae ai) λaj ak al w am m an a f=> ?_
   obtain⟨ao,rfl,rfl,ap⟩:=an
   refine Ab f Z λa f=> ?_
   obtain⟨aq,hd⟩:=Dc hd
   refine Ai f Z Z (b_rem aq) λa f=>Ac f Z λa f=>Aa ?_
   refine Aq ?_
   obtain rfl:=sj hd
   exact⟨[(iv (Int.tmod ah.1 x1))],f.g Z,f.d,_,[ib b0 64 [ao,(iv ah.2.2.1),(iv ah.2.2.2)]],am,m,_,Z,Z,ap⟩
  ·refine Aj f Z ag ?_
   refine Ap ?_
   refine Af ?_
   refine Ab f Z λa f=> ?_
   have⟨ar,au,hd⟩:=bind_some hd
   refine AD f Z call87 (Wk.r m ae au) λav aw ax w ay m az a f=> ?_
   obtain⟨aA,rfl,rfl,aB⟩:=az
   refine Ac f Z λa f=>AB ?_
   refine Ab f Z λa f=> ?_
   have⟨aC,aD,hd⟩:=bind_some hd
   refine AD f Z call87 (Wk.r m aB aD) λaE aF aG w aH m aI a f=> ?_
   obtain⟨aJ,rfl,rfl,aK⟩:=aI
   refine Ac f Z λa f=>AB ?_
   refine Ab f Z λa f=> ?_
   have⟨aL,aM,hd⟩:=bind_some hd
   refine AD f Z call87 (Wk.r m aK aM) λaN aO aP w aQ m aR a f=> ?_
   obtain⟨aS,rfl,rfl,aT⟩:=aR
   refine Ac f Z λa f=>AB ?_
   refine Ab f Z λa f=> ?_
   have⟨aU,aV,hd⟩:=bind_some hd
   refine AD f Z call87 (Wk.r m aT aV) λaW aX aY w aZ m a0 a f=> ?_
   obtain⟨a1,rfl,rfl,a2⟩:=a0
   refine Ac f Z λa f=>AB ?_
   refine Ab f Z λa f=>Ai f Z Z C3 λa f=>Ab f Z λa f=>Ai f Z Z C3 λa f=>Ai f Z Z Ax λa f=>Ab f Z λa f=>Ai f Z Z C3 λa f=>Ai f Z Z Ax λa f=>Ab f Z λa f=>Ai f Z Z Ax λa f=>Ab f Z λa f=> ?_
   obtain⟨a3,hd⟩:=Dc hd
   refine Ai f Z Z (b_rem a3) λa f=>Ac f Z λa f=>Aa ?_
   refine Aq ?_
   obtain rfl:=sj hd
   exact⟨[(iv (Int.tmod (i64.wrap ((i64.wrap ((i64.wrap ((i64.wrap (ar.1*16777216))+(i64.wrap (aC.1*65536))))+(i64.wrap (aL.1*256))))+aU.1)) x1))],f.g Z,f.d,_,[ib b0 64 [a1,(iv aU.2.2.1),(iv aU.2.2.2)]],(gt ay (gt aH (gt aQ aZ))),m,_,Z,Z,a2⟩
theorem Wk.e {x0 x1 x2:Int}(m:Mem W G w (H)){y:Bool}(hd:D.e x0 x1 x2=some y):
  Calls prog 32 #[(iv x0),(iv x1),(iv x2)] w (Res W G H (λ_ Ho v=>Ho=[]∧v=(.bool y))):=by
 refine Au (args:=[(iv x0),(iv x1),(iv x2)]) (N:=15) [.tmp 6] func32 Z Z (lb Z) Z λa f=> ?_
 unfold D.e at hd
 refine Af ?_
 refine Ac f Z λa f=>AB ?_
 refine Ab f Z λa f=>Ab f Z λa f=>Ai f Z Z CE λa f=>Ab f Z λa f=> ?_
 refine Bz 4 (λa w=>∃aa,GLe G aa∧Mem W aa w (H)∧Fr a 15 [(0,(iv x0)),(1,(iv x1)),(2,(iv x2)),(7,(iv x0)),(8,(iv x1)),(9,(.bool (decide (x1≤x0)))),(10,(.bool (decide (x1≤x0)))),(14,(.bool ((decide (x1≤x0))&&(decide (x0≤x2)))))]) ?_ ?_
 ·rcases Bool.eq_false_or_eq_true (decide (x1≤x0)) with ab|ab
  ·refine AC f ab ?_
   refine Ab f Z λa f=>AC f ab ?_
   refine Ab f Z λa f=>AC f ab ?_
   refine Ai f Z Z CN λa f=>l_o f (AK (f.e Z) ab (f.e Z)) λa f=> ?_
   exact⟨_,gr,m,f.weak ⟨Z,Z,Z,Z,Z,Z,Z,by rw[ab];rfl,trivial⟩⟩
  ·refine AE f ab λa f=> ?_
   refine AE f ab λa f=>AE f ab λa f=>l_o f (AP (f.e Z) ab (f.e Z)) λa f=> ?_
   exact⟨_,gr,m,f.weak ⟨Z,Z,Z,Z,Z,Z,Z,by rw[ab];rfl,trivial⟩⟩
 ·rintro a w ⟨aa,ac,m,f⟩
  refine Ac f Z λa f=>Aa ?_
  refine Aq ?_
  obtain rfl:=sj hd
  exact⟨[(.bool ((decide (x1≤x0))&&(decide (x0≤x2))))],f.g Z,f.d,_,[],ac,m,Z,Z⟩
theorem Wk.g {v0:Value}{x0:LI}(m:Mem W G w (H))(h0:R1 G v0 x0){y:(LI)}(hd:D.g x0=some y):
  Calls prog 68 #[v0] w (Res W G H (λG' Ho v=>∃r0:Value,∃i0:Itm,Ho=[i0]∧r0=v∧Ow R0 2 G' i0 r0 y)):=by
 refine Au (args:=[v0]) (N:=6) [.tmp 2] func68 Z Z (lb Z) Z λa f=> ?_
 unfold D.g at hd
 refine Af ?_
 refine Ac f Z λa f=>AB ?_
 refine A4 (R:=R0) (xs:=([]:LI)) (RI.one _) m T28 f Z Z Z (by decide) (All2.nil _) λaa ab w a m ac f=>Ab f Z λa f=> ?_
 have⟨ad,ae,hd⟩:=bind_some hd
 refine A6 (RI.one _) 0 m ac Z T28 Z (by decide) f Z Z Z (h0.src m) ae λaf ag w a m ah f=>Ac f Z λa f=>Aa ?_
 refine Aq ?_
 obtain rfl:=sj hd
 exact⟨[ag],f.g Z,f.d,_,[af],gr,m,_,_,Z,Z,ah⟩
theorem Wk.k {v0:Value}{x0:LI}{x1:Int}(m:Mem W G w (H))(h0:R1 G v0 x0){y:(LI)}(hd:D.k x0 x1=some y):
  Calls prog 96 #[v0,(iv x1)] w (Res W G H (λG' Ho v=>∃r0:Value,Ho=[]∧r0=v∧R1 G' r0 y)):=by
 refine Au (args:=[v0,(iv x1)]) (N:=46) [.tmp 4] func96 Z Z (lb Z) Z λa f=> ?_
 unfold D.k at hd
 refine Af ?_
 refine Ac f Z λa f=>AB ?_
 refine Ac f Z λa f=>Aa (Ag ?_)
 have⟨aa,ab,hd⟩:=bind_some hd
 refine AM (λa w=>∃ac:Int,ac=aa∧∃(ad:GH),GLe G ad∧Fr a 46 [(0,v0),(1,(iv x1)),(5,(iv ac))]∧Mem W ad w (H)) ?_ ?_
 ·refine Ak ?_
  refine AL (λae a w=>∃af:Int,af=ae∧∃(ag:GH),GLe G ag∧Fr a 46 [(0,v0),(1,(iv x1)),(5,(iv af))]∧Mem W ag w (H)) ab ⟨_,Z,_,gr,f.k Z,m⟩ ?_
  clear ab f m
  rintro ae ah ai aj a w ⟨af,rfl,ag,ak,f,m⟩
  have h0:=rd1 ak h0
  refine Ag (Af ?_)
  refine Ab f Z λa f=>Ab f Z λa f=>A8 underlying28 f Z Z h0 λa f=>Ai f Z Z AR λa f=>Ab f Z λa f=> ?_
  have⟨al,am,ai⟩:=bind_some ai
  refine Bz 7 (λa w=>∃an,GLe ag an∧Mem W an w (H)∧Fr a 46 [(0,v0),(1,(iv x1)),(5,(iv af)),(7,(iv af)),(8,v0),(9,(iv (x0.length:Int))),(10,(.bool (decide (af<(x0.length:Int))))),(11,(.bool (decide (af<(x0.length:Int))))),(18,(.bool al))]) ?_ ?_
  ·rcases Ae am with⟨ao,am⟩|⟨ao,am⟩
   ·refine AC f ao ?_
    refine Ab f Z λa f=>AC f ao ?_
    refine Ab f Z λa f=>AC f ao ?_
    have⟨ap,aq,am⟩:=bind_some am
    refine Bu T28 f Z Z Z h0 aq λar au a av aw f=> ?_
    subst aw
    refine AC f ao ?_
    refine AT m Pl2 f Z Z av λa f=>AC f ao ?_
    refine Ab f Z λa f=>AC f ao ?_
    refine Ai f Z Z AR λa f=>l_o f (AK (f.e Z) ao (f.e Z)) λa f=> ?_
    obtain rfl:=sj am
    exact⟨_,gr,m,f.k Z⟩
   ·refine AE f ao λa f=> ?_
    refine AE f ao λa f=>AE f ao λa f=>AE f ao λa f=>AE f ao λa f=>AE f ao λa f=>l_o f (AP (f.e Z) ao (f.e Z)) λa f=> ?_
    obtain rfl:=sj am
    exact⟨_,gr,m,f.k Z⟩
  ·rintro a w ⟨an,ax,m,f⟩
   refine Aa ?_
   rcases Ae ai with⟨ay,ai⟩|⟨ay,ai⟩
   ·refine Al f Z ay ?_
    refine Ap ?_
    refine Ak (Ao ?_)
    refine Ab f Z λa f=>Ai f Z Z Ax λa f=>Ac f Z λa f=>Aa ?_
    obtain rfl:=sj ai
    exact⟨_,Z,_,Z,_,(gt ak ax),f.k Z,m⟩
   ·refine Aj f Z ay ?_
    refine AH Z ?_
    obtain rfl:=sj ai
    obtain rfl:=aj _ rfl
    exact⟨_,Z,_,(gt ak ax),f.k Z,m⟩
 ·rintro a w ⟨ac,rfl,ad,az,f,m⟩
  have h0:=rd1 az h0
  refine Ag (Af ?_)
  refine Ab f Z λa f=>Ab f Z λa f=>A8 underlying28 f Z Z h0 λa f=>Ai f Z Z AR λa f=>Ab f Z λa f=> ?_
  have⟨aA,aB,hd⟩:=bind_some hd
  refine Bz 7 (λa w=>∃aC,GLe ad aC∧Mem W aC w (H)∧Fr a 46 [(0,v0),(1,(iv x1)),(5,(iv ac)),(21,(iv ac)),(22,v0),(23,(iv (x0.length:Int))),(24,(.bool (decide (ac<(x0.length:Int))))),(25,(.bool (decide (ac<(x0.length:Int))))),(32,(.bool aA))]) ?_ ?_
  ·rcases Ae aB with⟨aD,aB⟩|⟨aD,aB⟩
   ·refine AC f aD ?_
    refine Ab f Z λa f=>AC f aD ?_
    refine Ab f Z λa f=>AC f aD ?_
    have⟨aE,aF,aB⟩:=bind_some aB
    refine Bu T28 f Z Z Z h0 aF λaG aH a aI aJ f=> ?_
    subst aJ
    refine AC f aD ?_
    refine AT m Pl2 f Z Z aI λa f=>AC f aD ?_
    refine Ab f Z λa f=>AC f aD ?_
    refine Ai f Z Z By λa f=>l_o f (AK (f.e Z) aD (f.e Z)) λa f=> ?_
    obtain rfl:=sj aB
    exact⟨_,gr,m,f.k Z⟩
   ·refine AE f aD λa f=> ?_
    refine AE f aD λa f=>AE f aD λa f=>AE f aD λa f=>AE f aD λa f=>AE f aD λa f=>l_o f (AP (f.e Z) aD (f.e Z)) λa f=> ?_
    obtain rfl:=sj aB
    exact⟨_,gr,m,f.k Z⟩
  ·rintro a w ⟨aC,aK,m,f⟩
   have h0:=rd1 aK h0
   refine Aa ?_
   rcases Ae hd with⟨aL,hd⟩|⟨aL,hd⟩
   ·refine Al f Z aL ?_
    refine Af ?_
    refine Ab f Z λa f=>Ac f Z λa f=>Aa ?_
    refine Aq ?_
    obtain rfl:=sj hd
    exact⟨[v0],f.g Z,f.d,_,[],(gt az aK),m,_,Z,Z,h0⟩
   ·refine Aj f Z aL ?_
    refine Ap ?_
    refine Af ?_
    refine Ab f Z λa f=>Ab f Z λa f=> ?_
    have⟨aM,aN,hd⟩:=bind_some hd
    refine Ef T28 f Z Z h0 (.inl ⟨Z,Z⟩) (.inr ⟨_,_,Z,Z⟩) aN λaO a aP f=> ?_
    have⟨aQ,aR,hd⟩:=bind_some hd
    refine AD f Z call68 (Wk.g m aP aR) λaS aT aU w aV m aW a f=> ?_
    obtain⟨aX,aY,rfl,rfl,aZ⟩:=aW
    have h0:=rd1 aV h0
    refine Ab f Z λa f=>A4 (R:=R0) (xs:=([x1]:LI)) (RI.one _) m T28 f Z Z Z (by decide) (All2.cons Z (All2.nil _)) λa0 a1 w a m a2 f=> ?_
    have⟨a3,a4,hd⟩:=bind_some hd
    refine A6 (RI.one _) 1 m aZ Z T28 Z (by decide) f Z Z Z (Ow.src (j:=0) a2 m Z) a4 λa5 a6 w a m a7 f=>Ac f Z λa f=>AB ?_
    refine Ab f Z λa f=>Ab f Z λa f=>Ab f Z λa f=> ?_
    have⟨a8,a9,hd⟩:=bind_some hd
    refine Ef T28 f Z Z h0 (.inr ⟨_,_,Z,Z⟩) (.inl ⟨Z,Z⟩) a9 λba a bb f=> ?_
    have⟨bc,bd,hd⟩:=bind_some hd
    refine A6 (RI.one _) 1 m a7 Z T28 Z (by decide) f Z Z Z (bb.src m) bd λbe bf w a m bg f=>Ac f Z λa f=>Aa ?_
    refine Aq ?_
    have m:=m.fr 1
    obtain⟨bh,bi,m,bj⟩:=Ow.stamp (RI.mono _) bg m
    have m:Mem W bh w H:=Mem.drop (H':=[a0]) m
    obtain rfl:=sj hd
    exact⟨[bf],f.g Z,f.d,_,[],(gt az (gt aK (gt aV bi))),m,_,Z,Z,bj⟩
theorem Wk.i {aa:Value}{ab:Itm}{ac:LL}{x1 x2:Int}(m:Mem W G w (ab::H))(ad:Ow R1 28 G ab aa ac){y:(LL)}(hd:D.i ac x1 x2=some y):
  Calls prog 91 #[(.agg #[aa]),(iv x1),(iv x2)] w (Res W G H (λG' Ho v=>∃i0:Itm,Ho=[i0]∧v=(.agg #[aa])∧Ow R1 28 G' i0 aa y)):=by
 refine Au (args:=[(.agg #[aa]),(iv x1),(iv x2)]) (N:=30) [.cell 6 26] func91 Z Z (lb Z) Z λa f=> ?_
 unfold D.i at hd
 refine Af ?_
 refine Bj (cs:=[aa]) m f Z Z Z λae w a m f=>A9 (cs:=[sn]) zeroValue26 m f Z Z λaf w a m f=>Aa (Ag ?_)
 refine A2 11 AG (by kernel_rfl) m ?_
 refine Bg 0 11 underlying26 Z sizeOf24 Z f Z λa f=>Bp 1 11 1 Bt Z Z Z f Z λa f=>Ah 2 11 Z f Z λa f=>Bg 3 11 underlying26 Z sizeOf24 Z f Z λa f=>Bp 4 11 1 Bt Z Z Z f Z λa f=>Ah 5 11 Z f Z λa f=> ?_
 have⟨ag,ah,hd⟩:=bind_some hd
 refine AV 6 11 2 m ad T24 ah Z f Z Z λai a aj f=>Bd 7 11 2 ad B3 aj ah Z f Z λak a al f=>Ah 8 11 Z f Z λa f=>AU 9 Z λam w an m ao ao=> ?_
 have al:=rd1 an al
 have ad:=Ow.mono (RSl.mono (RI.mono _)) an ad
 have⟨ap,aq,hd⟩:=bind_some hd
 refine AD f Z call96 (Wk.k m al aq) λar au av w aw m ax a f=> ?_
 obtain⟨ay,rfl,rfl,az⟩:=ax
 have ad:=Ow.mono (RSl.mono (RI.mono _)) aw ad
 refine Aa ?_
 refine ao au [] _ _ aw m ?_
 have⟨aA,aB,hd⟩:=bind_some hd
 refine AV 10 11 2 m ad T24 aB Z f Z Z λaC a aD f=>AJ λaE w aF m=> ?_
 have az:=rd1 aF az
 have ad:=Ow.mono (RSl.mono (RI.mono _)) aF ad
 refine AO 2 m ad Z sizeOf28 f Z Z aD aB az.cells az.one1 az λaG w m aH=>Aa (Ag ?_)
 refine A2 11 AG (by kernel_rfl) m ?_
 refine Bg 0 11 underlying26 Z sizeOf24 Z f Z λa f=>Bp 1 11 1 Bt Z Z Z f Z λa f=>Ah 2 11 Z f Z λa f=>Bg 3 11 underlying26 Z sizeOf24 Z f Z λa f=>Bp 4 11 1 Bt Z Z Z f Z λa f=>Ah 5 11 Z f Z λa f=> ?_
 have⟨aI,aJ,hd⟩:=bind_some hd
 refine AV 6 11 2 m aH T24 aJ Z f Z Z λaK a aL f=>Bd 7 11 2 aH B3 aL aJ Z f Z λaM a aN f=>Ah 8 11 Z f Z λa f=>AU 9 Z λaO w aP m aQ aQ=> ?_
 have aN:=rd1 aP aN
 have aH:=Ow.mono (RSl.mono (RI.mono _)) aP aH
 have⟨aR,aS,hd⟩:=bind_some hd
 refine AD f Z call96 (Wk.k m aN aS) λaT aU aV w aW m aX a f=> ?_
 obtain⟨aY,rfl,rfl,aZ⟩:=aX
 have aH:=Ow.mono (RSl.mono (RI.mono _)) aW aH
 refine Aa ?_
 refine aQ aU [] _ _ aW m ?_
 have⟨a0,a1,hd⟩:=bind_some hd
 refine AV 10 11 2 m aH T24 a1 Z f Z Z λa2 a a3 f=>AJ λa4 w a5 m=> ?_
 have aZ:=rd1 a5 aZ
 have aH:=Ow.mono (RSl.mono (RI.mono _)) a5 aH
 refine AO 2 m aH Z sizeOf28 f Z Z a3 a1 aZ.cells aZ.one1 aZ λa6 w m a7=>AB ?_
 refine Az 1 0 (ds:=[aa]) m AI f Z Z Z Z Z λa f=>An 0 0 (ds:=[aa]) m sizeOf26 f Z Z Z (Ar (Ow.one1 2 m a7 Z) As) Z (lb Z) Z λw m=>Aa ?_
 refine Aq ?_
 have a8:=Bq (P:=prog) 0 m AI f (s:=6) rfl rfl rfl
 have m:=m.fr 2
 have m:=m.eraseAt 2
 have m:=m.eraseAt 1
 obtain rfl:=sj hd
 exact⟨[(.agg #[aa])],⟨a8,trivial⟩,f.d,_,[a6],(gt an (gt aw (gt aF (gt aP (gt aW a5))))),m,_,Z,Z,a7⟩
theorem Wk.o {aa:Value}{b0:Nat}{ab:LI}{ac ad x1:Int}(m:Mem W G w (ib b0 64 [aa,(iv ac),(iv ad)]::H))(ae:RSl (RI .u8) G aa ab){y:Bool×(LI)×Int×Int}(hd:D.o ab ac ad x1=some y):
  Calls prog 45 #[(pb b0),(iv x1)] w (Res W G H (λG' Ho v=>∃r0:Value,Ho=[ib b0 64 [r0,(iv y.2.2.1),(iv y.2.2.2)]]∧v=(.bool y.1)∧RSl (RI .u8) G' r0 y.2.1)):=by
 refine Au (args:=[(pb b0),(iv x1)]) (N:=9) [.tmp 4] func45 Z Z (lb Z) Z λa f=> ?_
 unfold D.o at hd
 refine Af ?_
 refine Ac f Z λa f=>AB ?_
 refine Ab f Z λa f=>Ab f Z λa f=> ?_
 have⟨af,ag,hd⟩:=bind_some hd
 refine AD f Z call64 (Wk.c m ae ag) λah ai aj w ak m al a f=> ?_
 obtain⟨am,rfl,rfl,an⟩:=al
 refine Ai f Z Z By λa f=>Ac f Z λa f=>Aa ?_
 refine Aq ?_
 obtain rfl:=sj hd
 exact⟨[(.bool (af.1==0))],f.g Z,f.d,_,[ib b0 64 [am,(iv af.2.2.1),(iv af.2.2.2)]],ak,m,_,Z,Z,an⟩
theorem Wk.Q0 {aa:Value}{b0:Nat}{ab:LI}{ac ad:Int}(m:Mem W G w (ib b0 64 [aa,(iv ac),(iv ad)]::H))(ae:RSl (RI .u8) G aa ab){y:Int×(LI)×Int×Int}(hd:D.Q0 ab ac ad=some y):
  Calls prog 88 #[(pb b0)] w (Res W G H (λG' Ho v=>∃r0:Value,Ho=[ib b0 64 [r0,(iv y.2.2.1),(iv y.2.2.2)]]∧v=(iv y.1)∧RSl (RI .u8) G' r0 y.2.1)):=by
 refine Au (args:=[(pb b0)]) (N:=8) [.tmp 2] func88 Z Z (lb Z) Z λa f=> ?_
 unfold D.Q0 at hd
 refine Af ?_
 refine Ac f Z λa f=>AB ?_
 refine A4 (R:=R0) (xs:=([(-1),0,1,2147483648,(-2147483648),1099511627776,4611686018427387904,(-4611686018427387904),9223372036854775807,(-9223372036854775808)]:LI)) (RI.one _) m T28 f Z Z Z (by decide) (All2.cons Z (All2.cons Z (All2.cons Z (All2.cons Z (All2.cons Z (All2.cons Z (All2.cons Z (All2.cons Z (All2.cons Z (All2.cons Z (All2.nil _))))))))))) λaf ag w a m ah f=>Ab f Z λa f=> ?_
 have m:=m.fr 1
 have⟨ai,aj,hd⟩:=bind_some hd
 refine AD f Z call64 (Wk.c m ae aj) λak al am w an m ao a f=> ?_
 obtain⟨ap,rfl,rfl,aq⟩:=ao
 have ah:=od1 an ah
 have⟨ar,au,hd⟩:=bind_some hd
 refine A5 1 m ah Z T28 f Z Z Z au λav a aw f=>BB 1 m ah Z Pl2 f Z Z aw au λax a ay f=> ?_
 subst ay
 refine Ac f Z λa f=>Aa ?_
 refine Aq ?_
 have m:=m.eraseAt 1
 obtain rfl:=sj hd
 exact⟨[(iv ar)],f.g Z,f.d,_,[ib b0 64 [ap,(iv ai.2.2.1),(iv ai.2.2.2)]],an,m,_,Z,Z,aq⟩
theorem Wk.y0 {x0 x1:Int}(m:Mem W G w (H)){y:Int}(hd:D.y0 x0 x1=some y):
  Calls prog 89 #[(iv x0),(iv x1)] w (Res W G H (λ_ Ho v=>Ho=[]∧v=(iv y))):=by
 refine Au (args:=[(iv x0),(iv x1)]) (N:=10) [.tmp 4] func89 Z Z (lb Z) Z λa f=> ?_
 unfold D.y0 at hd
 refine Af ?_
 refine Ac f Z λa f=>Aa (Ag (Af ?_))
 refine Ab f Z λa f=>Ab f Z λa f=>Ai f Z Z AR λa f=>Aa ?_
 rcases Ae hd with⟨aa,hd⟩|⟨aa,hd⟩
 ·refine Al f Z aa ?_
  refine Af ?_
  refine Ab f Z λa f=>Ac f Z λa f=>Aa ?_
  refine Aq ?_
  obtain rfl:=sj hd
  exact⟨[(iv x0)],f.g Z,f.d,_,[],gr,m,Z,Z⟩
 ·refine Aj f Z aa ?_
  refine Ap ?_
  refine Af ?_
  refine Ab f Z λa f=>Ac f Z λa f=>Aa ?_
  refine Aq ?_
  obtain rfl:=sj hd
  exact⟨[(iv x1)],f.g Z,f.d,_,[],gr,m,Z,Z⟩
theorem Wk.Y {aa:Value}{b0:Nat}{ab:LI}{ac ad x1:Int}(m:Mem W G w (ib b0 64 [aa,(iv ac),(iv ad)]::H))(ae:RSl (RI .u8) G aa ab){y:Int×(LI)×Int×Int}(hd:D.Y ab ac ad x1=some y):
  Calls prog 65 #[(pb b0),(iv x1)] w (Res W G H (λG' Ho v=>∃r0:Value,Ho=[ib b0 64 [r0,(iv y.2.2.1),(iv y.2.2.2)]]∧v=(iv y.1)∧RSl (RI .u8) G' r0 y.2.1)):=by
 refine Au (args:=[(pb b0),(iv x1)]) (N:=28) [.tmp 4] func65 Z Z (lb Z) Z λa f=> ?_
 unfold D.Y at hd
 refine Af ?_
 refine Ac f Z λa f=>Aa (Ag (Af ?_))
 refine Ab f Z λa f=> ?_
 have⟨af,ag,hd⟩:=bind_some hd
 refine AD f Z call45 (Wk.o m ae ag) λah ai aj w ak m al a f=> ?_
 obtain⟨am,rfl,rfl,an⟩:=al
 refine Aa ?_
 rcases Ae hd with⟨ao,hd⟩|⟨ao,hd⟩
 ·refine Al f Z ao ?_
  refine Af ?_
  refine Ab f Z λa f=>Ab f Z λa f=>Ai f Z Z Ax λa f=>Ab f Z λa f=> ?_
  have⟨ap,aq,hd⟩:=bind_some hd
  refine AD f Z call88 (Wk.Q0 m an aq) λar au av w aw m ax a f=> ?_
  obtain⟨ay,rfl,rfl,az⟩:=ax
  refine A4 (R:=R0) (xs:=([(-1),x1,(i64.wrap (x1+1)),ap.1]:LI)) (RI.one _) m T28 f Z Z Z (by decide) (All2.cons Z (All2.cons Z (All2.cons Z (All2.cons Z (All2.nil _))))) λaA aB w a m aC f=>Ab f Z λa f=> ?_
  have m:=m.fr 1
  have⟨aD,aE,hd⟩:=bind_some hd
  refine AD f Z call64 (Wk.c m az aE) λaF aG aH w aI m aJ a f=> ?_
  obtain⟨aK,rfl,rfl,aL⟩:=aJ
  have aC:=od1 aI aC
  have⟨aM,aN,hd⟩:=bind_some hd
  refine A5 1 m aC Z T28 f Z Z Z aN λaO a aP f=>BB 1 m aC Z Pl2 f Z Z aP aN λaQ a aR f=> ?_
  subst aR
  refine Ac f Z λa f=>Aa ?_
  refine Aq ?_
  have m:=m.eraseAt 1
  obtain rfl:=sj hd
  exact⟨[(iv aM)],f.g Z,f.d,_,[ib b0 64 [aK,(iv aD.2.2.1),(iv aD.2.2.2)]],(gt ak (gt aw aI)),m,_,Z,Z,aL⟩
 ·refine Aj f Z ao ?_
  refine Ap ?_
  refine Ag (Af ?_)
  refine Ab f Z λa f=> ?_
  have⟨aS,aT,hd⟩:=bind_some hd
  refine AD f Z call45 (Wk.o m an aT) λaU aV aW w aX m aY a f=> ?_
  obtain⟨aZ,rfl,rfl,a0⟩:=aY
  refine Aa ?_
  rcases Ae hd with⟨a1,hd⟩|⟨a1,hd⟩
  ·refine Al f Z a1 ?_
   refine Af ?_
   refine Ab f Z λa f=>Ab f Z λa f=> ?_
   have⟨a2,a3,hd⟩:=bind_some hd
   refine Bc f Z call89 (Wk.y0 m a3) λa4 w a5 m a f=> ?_
   have a0:=rd1 a5 a0
   refine Ai f Z Z Ax λa f=> ?_
   have⟨a6,a7,hd⟩:=bind_some hd
   refine AD f Z call64 (Wk.c m a0 a7) λa8 a9 ba w bb m bc a f=> ?_
   obtain⟨bd,rfl,rfl,be⟩:=bc
   refine Ac f Z λa f=>Aa ?_
   refine Aq ?_
   obtain rfl:=sj hd
   exact⟨[(iv a6.1)],f.g Z,f.d,_,[ib b0 64 [bd,(iv a6.2.2.1),(iv a6.2.2.2)]],(gt ak (gt aX (gt a5 bb))),m,_,Z,Z,be⟩
  ·refine Aj f Z a1 ?_
   refine Ap ?_
   refine Af ?_
   refine Ab f Z λa f=>Ab f Z λa f=>Ai f Z Z Ax λa f=> ?_
   have⟨bf,bg,hd⟩:=bind_some hd
   refine AD f Z call64 (Wk.c m a0 bg) λbh bi bj w bk m bl a f=> ?_
   obtain⟨bm,rfl,rfl,bn⟩:=bl
   refine Ac f Z λa f=>Aa ?_
   refine Aq ?_
   obtain rfl:=sj hd
   exact⟨[(iv bf.1)],f.g Z,f.d,_,[ib b0 64 [bm,(iv bf.2.2.1),(iv bf.2.2.2)]],(gt ak (gt aX bk)),m,_,Z,Z,bn⟩
theorem Wk.V0 {v0:Value}{it0:Itm}{x0:LI}{x1:Int}(m:Mem W G w (it0::H))(o0:Ow R0 2 G it0 v0 x0){y:(LI)}(hd:D.V0 x0 x1=some y):
  Calls prog 96 #[v0,(iv x1)] w (Res W G H (λG' Ho v=>∃r0:Value,∃i0:Itm,Ho=[i0]∧r0=v∧Ow R0 2 G' i0 r0 y)):=by
 refine Au (args:=[v0,(iv x1)]) (N:=46) [.tmp 4] func96 Z Z (lb Z) Z λa f=> ?_
 unfold D.V0 at hd
 refine Af ?_
 refine Ac f Z λa f=>AB ?_
 refine Ac f Z λa f=>Aa (Ag ?_)
 have⟨aa,ab,hd⟩:=bind_some hd
 refine AM (λa w=>∃ac:Int,ac=aa∧∃(ad:GH),GLe G ad∧Fr a 46 [(0,v0),(1,(iv x1)),(5,(iv ac))]∧Mem W ad w (it0::H)) ?_ ?_
 ·refine Ak ?_
  refine AL (λae a w=>∃af:Int,af=ae∧∃(ag:GH),GLe G ag∧Fr a 46 [(0,v0),(1,(iv x1)),(5,(iv af))]∧Mem W ag w (it0::H)) ab ⟨_,Z,_,gr,f.k Z,m⟩ ?_
  clear ab f m
  rintro ae ah ai aj a w ⟨af,rfl,ag,ak,f,m⟩
  have o0:=od1 ak o0
  refine Ag (Af ?_)
  refine Ab f Z λa f=>Ab f Z λa f=>Bv 0 m o0 Z underlying28 f Z Z λa f=>Ai f Z Z AR λa f=>Ab f Z λa f=> ?_
  have⟨al,am,ai⟩:=bind_some ai
  refine Bz 7 (λa w=>∃an,GLe ag an∧Mem W an w (it0::H)∧Fr a 46 [(0,v0),(1,(iv x1)),(5,(iv af)),(7,(iv af)),(8,v0),(9,(iv (x0.length:Int))),(10,(.bool (decide (af<(x0.length:Int))))),(11,(.bool (decide (af<(x0.length:Int))))),(18,(.bool al))]) ?_ ?_
  ·rcases Ae am with⟨ao,am⟩|⟨ao,am⟩
   ·refine AC f ao ?_
    refine Ab f Z λa f=>AC f ao ?_
    refine Ab f Z λa f=>AC f ao ?_
    have⟨ap,aq,am⟩:=bind_some am
    refine A5 0 m o0 Z T28 f Z Z Z aq λar a au f=>AC f ao ?_
    refine BB 0 m o0 Z Pl2 f Z Z au aq λav a aw f=> ?_
    subst aw
    refine AC f ao ?_
    refine Ab f Z λa f=>AC f ao ?_
    refine Ai f Z Z AR λa f=>l_o f (AK (f.e Z) ao (f.e Z)) λa f=> ?_
    obtain rfl:=sj am
    exact⟨_,gr,m,f.k Z⟩
   ·refine AE f ao λa f=> ?_
    refine AE f ao λa f=>AE f ao λa f=>AE f ao λa f=>AE f ao λa f=>AE f ao λa f=>l_o f (AP (f.e Z) ao (f.e Z)) λa f=> ?_
    obtain rfl:=sj am
    exact⟨_,gr,m,f.k Z⟩
  ·rintro a w ⟨an,ax,m,f⟩
   refine Aa ?_
   rcases Ae ai with⟨ay,ai⟩|⟨ay,ai⟩
   ·refine Al f Z ay ?_
    refine Ap ?_
    refine Ak (Ao ?_)
    refine Ab f Z λa f=>Ai f Z Z Ax λa f=>Ac f Z λa f=>Aa ?_
    obtain rfl:=sj ai
    exact⟨_,Z,_,Z,_,(gt ak ax),f.k Z,m⟩
   ·refine Aj f Z ay ?_
    refine AH Z ?_
    obtain rfl:=sj ai
    obtain rfl:=aj _ rfl
    exact⟨_,Z,_,(gt ak ax),f.k Z,m⟩
 ·rintro a w ⟨ac,rfl,ad,az,f,m⟩
  have o0:=od1 az o0
  refine Ag (Af ?_)
  refine Ab f Z λa f=>Ab f Z λa f=>Bv 0 m o0 Z underlying28 f Z Z λa f=>Ai f Z Z AR λa f=>Ab f Z λa f=> ?_
  have⟨aA,aB,hd⟩:=bind_some hd
  refine Bz 7 (λa w=>∃aC,GLe ad aC∧Mem W aC w (it0::H)∧Fr a 46 [(0,v0),(1,(iv x1)),(5,(iv ac)),(21,(iv ac)),(22,v0),(23,(iv (x0.length:Int))),(24,(.bool (decide (ac<(x0.length:Int))))),(25,(.bool (decide (ac<(x0.length:Int))))),(32,(.bool aA))]) ?_ ?_
  ·rcases Ae aB with⟨aD,aB⟩|⟨aD,aB⟩
   ·refine AC f aD ?_
    refine Ab f Z λa f=>AC f aD ?_
    refine Ab f Z λa f=>AC f aD ?_
    have⟨aE,aF,aB⟩:=bind_some aB
    refine A5 0 m o0 Z T28 f Z Z Z aF λaG a aH f=>AC f aD ?_
    refine BB 0 m o0 Z Pl2 f Z Z aH aF λaI a aJ f=> ?_
    subst aJ
    refine AC f aD ?_
    refine Ab f Z λa f=>AC f aD ?_
    refine Ai f Z Z By λa f=>l_o f (AK (f.e Z) aD (f.e Z)) λa f=> ?_
    obtain rfl:=sj aB
    exact⟨_,gr,m,f.k Z⟩
   ·refine AE f aD λa f=> ?_
    refine AE f aD λa f=>AE f aD λa f=>AE f aD λa f=>AE f aD λa f=>AE f aD λa f=>l_o f (AP (f.e Z) aD (f.e Z)) λa f=> ?_
    obtain rfl:=sj aB
    exact⟨_,gr,m,f.k Z⟩
  ·rintro a w ⟨aC,aK,m,f⟩
   have o0:=od1 aK o0
   refine Aa ?_
   rcases Ae hd with⟨aL,hd⟩|⟨aL,hd⟩
   ·refine Al f Z aL ?_
    refine Af ?_
    refine Ab f Z λa f=>Ac f Z λa f=>Aa ?_
    refine Aq ?_
    obtain rfl:=sj hd
    exact⟨[v0],f.g Z,f.d,_,[it0],(gt az aK),m,_,_,Z,Z,o0⟩
   ·refine Aj f Z aL ?_
    refine Ap ?_
    refine Af ?_
    refine Ab f Z λa f=>Ab f Z λa f=> ?_
    obtain⟨aM,aN,m,aO⟩:=Ow.stamp (RI.mono _) o0 m
    have⟨aP,aQ,hd⟩:=bind_some hd
    refine Ef T28 f Z Z aO (.inl ⟨Z,Z⟩) (.inr ⟨_,_,Z,Z⟩) aQ λaR a aS f=> ?_
    have⟨aT,aU,hd⟩:=bind_some hd
    refine AD f Z call68 (Wk.g m aS aU) λaV aW aX w aY m aZ a f=> ?_
    obtain⟨a0,a1,rfl,rfl,a2⟩:=aZ
    have aO:=rd1 aY aO
    refine Ab f Z λa f=>A4 (R:=R0) (xs:=([x1]:LI)) (RI.one _) m T28 f Z Z Z (by decide) (All2.cons Z (All2.nil _)) λa3 a4 w a m a5 f=> ?_
    have⟨a6,a7,hd⟩:=bind_some hd
    refine A6 (RI.one _) 1 m a2 Z T28 Z (by decide) f Z Z Z (Ow.src (j:=0) a5 m Z) a7 λa8 a9 w a m ba f=>Ac f Z λa f=>AB ?_
    refine Ab f Z λa f=>Ab f Z λa f=>Ab f Z λa f=> ?_
    have⟨bb,bc,hd⟩:=bind_some hd
    refine Ef T28 f Z Z aO (.inr ⟨_,_,Z,Z⟩) (.inl ⟨Z,Z⟩) bc λbd a be f=> ?_
    have⟨bf,bg,hd⟩:=bind_some hd
    refine A6 (RI.one _) 1 m ba Z T28 Z (by decide) f Z Z Z (be.src m) bg λbh bi w a m bj f=>Ac f Z λa f=>Aa ?_
    refine Aq ?_
    have m:=m.fr 1
    have m:=m.eraseAt 1
    obtain rfl:=sj hd
    exact⟨[bi],f.g Z,f.d,_,[bh],(gt az (gt aK (gt aN aY))),m,_,_,Z,Z,bj⟩
theorem Wk.F {x0:Int}(m:Mem W G w (H)){y:(LL)}(hd:D.F x0=some y):
  Calls prog 66 #[(iv x0)] w (Res W G H (λG' Ho v=>∃r0:Value,∃i0:Itm,Ho=[i0]∧v=(.agg #[r0])∧Ow2 R0 28 2 G' i0 r0 y)):=by
 refine Au (args:=[(iv x0)]) (N:=18) [.cell 2 26] func66 Z Z (lb Z) Z λa f=> ?_
 unfold D.F at hd
 refine Af ?_
 refine A9 (cs:=[sn]) zeroValue26 m f Z Z λaa w a m f=>AB ?_
 have ab:∀w,(Instr.build 26 #[]).run prog w= .ok (.agg #[sn]) w:=by intro w;simp[Instr.build,Instr.fill,Cm,Cw,B6,Cf,BT,Cp]
 refine CG f Z Z ab λa f=>A9 (cs:=[sn]) zeroValue26 m f Z Z λac w a m f=>An 0 0 (ds:=[sn]) m sizeOf26 f Z Z Z (Ar Z As) Z (lb Z) Z λw m=>Aa (Ag (Af ?_))
 refine Ac f Z λa f=>Aa ?_
 obtain⟨ad,m,ae⟩:=Ow2.nil R0 28 2 m
 have⟨af,ag,hd⟩:=bind_some hd
 refine AM (λa w=>∃ah:LL,ah=af∧∃(ai:GH) (aj:Value) (ak:Itm),GLe G ai∧Fr a 18 [(2,(pb aa)),(3,(pb ac))]∧Mem W ai w (ib aa 26 [sn]::ib ac 26 [aj]::ak::H)∧Ow2 R0 28 2 ai ak aj ah) ?_ ?_
 ·refine Ak ?_
  have m:=m.fr 1
  have m:=m.fr 2
  refine AL (λal a w=>∃am:Int,∃an:LL,(am,an)=al∧∃(ao:GH) (ap:Value) (aq:Itm),GLe G ao∧Fr a 18 [(0,(iv x0)),(2,(pb aa)),(3,(pb ac)),(4,(iv am))]∧Mem W ao w (ib aa 26 [sn]::ib ac 26 [ap]::aq::H)∧Ow2 R0 28 2 ao aq ap an) ag ⟨_,_,Z,_,sn,ad,gr,f.k Z,m,ae⟩ ?_
  clear ag f m
  rintro al ar au av a w ⟨am,an,rfl,ao,ap,aq,aw,f,m,ax⟩
  refine Ag (Af ?_)
  refine Ab f Z λa f=>Ab f Z λa f=>Ai f Z Z AR λa f=>Aa ?_
  rcases Ae au with⟨ay,au⟩|⟨ay,au⟩
  ·refine Al f Z ay ?_
   refine Ap ?_
   refine Ag (Ak (Ao ?_))
   refine Bo underlying26 Z sizeOf24 f Z λa f=>AA 1 0 m Bt f Z Z Z Z λa f=>A4 (R:=R0) (xs:=([]:LI)) (RI.one _) m T28 f Z Z Z (by decide) (All2.nil _) λaz aA w a m aB f=>A4 (R:=RawS) (xs:=[aA]) RawS.one m T24 f Z Z Z (by decide) (All2.cons ⟨Z,Ow.one1 0 m aB Z,Ow.cells 0 m aB Z⟩ (All2.nil _)) λaC aD w a m aE f=> ?_
   have m:=m.fr 1
   have m:Mem W ao w (aq::az::aC::ib aa 26 [sn]::ib ac 26 [ap]::H):=m.fr 4
   have⟨aF,aG,au⟩:=bind_some au
   refine l_append2 m ax aB aE T24 Z (by decide) f Z Z Z aG λaH aI w a m aJ f=>Bo underlying26 Z sizeOf24 f Z λa f=>An 2 0 (ds:=[aI]) m sizeOf24 f Z Z (Ow2.cells 0 m aJ Z) (Ar (Ow2.one1 0 m aJ Z) As) Z (lb Z) Z λw m=>Aa (Ao ?_)
   refine Ab f Z λa f=>Ai f Z Z Ax λa f=>Ac f Z λa f=>Aa ?_
   have m:=m.fr 2
   have m:=m.fr 2
   obtain rfl:=sj au
   exact⟨_,Z,_,_,Z,_,aI,aH,aw,f.k Z,m,aJ⟩
  ·refine Aj f Z ay ?_
   refine AH Z ?_
   obtain rfl:=sj au
   obtain rfl:=av _ rfl
   exact⟨_,Z,_,ap,aq,aw,f.k Z,m,ax⟩
 ·rintro a w ⟨ah,rfl,ai,aj,ak,aK,f,m,aL⟩
  refine Af ?_
  refine Az 1 0 (ds:=[aj]) m AI f Z Z Z Z Z λa f=>An 0 0 (ds:=[aj]) m sizeOf26 f Z Z Z (Ar (Ow2.one1 2 m aL Z) As) Z (lb Z) Z λw m=>Aa ?_
  refine Aq ?_
  have aM:=Bq (P:=prog) 0 m AI f (s:=2) rfl rfl rfl
  have m:=m.fr 2
  have m:=m.eraseAt 2
  have m:=m.eraseAt 1
  obtain rfl:=sj hd
  exact⟨[(.agg #[aj])],⟨aM,trivial⟩,f.d,_,[ak],aK,m,_,_,Z,Z,aL⟩
theorem Wk.K {aa:Value}{ab:Itm}{ac:LL}{x1 x2:Int}(m:Mem W G w (ab::H))(ad:Ow2 R0 28 2 G ab aa ac){y:(LL)}(hd:D.K ac x1 x2=some y):
  Calls prog 91 #[(.agg #[aa]),(iv x1),(iv x2)] w (Res W G H (λG' Ho v=>∃i0:Itm,Ho=[i0]∧v=(.agg #[aa])∧Ow2 R0 28 2 G' i0 aa y)):=by
 refine Au (args:=[(.agg #[aa]),(iv x1),(iv x2)]) (N:=30) [.cell 6 26] func91 Z Z (lb Z) Z λa f=> ?_
 unfold D.K at hd
 refine Af ?_
 refine Bj (cs:=[aa]) m f Z Z Z λae w a m f=>A9 (cs:=[sn]) zeroValue26 m f Z Z λaf w a m f=>Aa (Ag ?_)
 have m:=m.fr 2
 refine DH [ab] (ib af 26 [sn]::ib ae 26 [aa]::H) 10 AG (by kernel_rfl) m ?_
 refine Bg 0 10 underlying26 Z sizeOf24 Z f Z λa f=>Bp 1 10 1 Bt Z Z Z f Z λa f=>Ah 2 10 Z f Z λa f=>Bg 3 10 underlying26 Z sizeOf24 Z f Z λa f=>Bp 4 10 1 Bt Z Z Z f Z λa f=>Ah 5 10 Z f Z λa f=>Ah 8 10 Z f Z λa f=>AU 6 Z λag w ah m ai ai=> ?_
 have ad:=od2 ah ad
 have⟨aj,ak,hd⟩:=bind_some hd
 refine CW 0 m ad Z T24 f Z Z Z ak λal a am f=>Aa ?_
 refine ai ag [ab] _ _ gr m ?_
 refine AU 7 Z λan w ao m ap ap=> ?_
 have ad:=od2 ao ad
 refine Cy 0 m ad Z B3 f Z Z am ak λaq a ar f=>Aa ?_
 refine ap an [ab] _ _ gr m ?_
 refine AU 9 Z λau w av m aw aw=> ?_
 have ad:=od2 av ad
 obtain⟨ax,ay,m,az,aA⟩:=Ow2.out ad m ak ar
 have m:=m.fr 1
 have⟨aB,aC,hd⟩:=bind_some hd
 refine AD f Z call96 (Wk.V0 m aA aC) λaD aE aF w aG m aH a f=> ?_
 obtain⟨aI,aJ,rfl,rfl,aK⟩:=aH
 have az:=OwH.mono (RI.mono _) aG az
 refine Aa ?_
 refine aw aE [aJ,ax] _ _ aG m ?_
 refine AJ λaL w aM m=> ?_
 have aK:=od1 aM aK
 have az:=OwH.mono (RI.mono _) aM az
 have⟨aN,aO,hd⟩:=bind_some hd
 refine CK 1 m az Z T24 f Z Z Z aO λaP a aQ f=> ?_
 have m:=m.fr 1
 refine Ci m az aK sizeOf28 f Z Z aQ λaR w m aS=>Aa (Ag ?_)
 refine DH [aR] (ib af 26 [sn]::ib ae 26 [aa]::H) 10 AG (by kernel_rfl) m ?_
 refine Bg 0 10 underlying26 Z sizeOf24 Z f Z λa f=>Bp 1 10 1 Bt Z Z Z f Z λa f=>Ah 2 10 Z f Z λa f=>Bg 3 10 underlying26 Z sizeOf24 Z f Z λa f=>Bp 4 10 1 Bt Z Z Z f Z λa f=>Ah 5 10 Z f Z λa f=>Ah 8 10 Z f Z λa f=>AU 6 Z λaT w aU m aV aV=> ?_
 have aS:=od2 aU aS
 have⟨aW,aX,hd⟩:=bind_some hd
 refine CW 0 m aS Z T24 f Z Z Z aX λaY a aZ f=>Aa ?_
 refine aV aT [aR] _ _ gr m ?_
 refine AU 7 Z λa0 w a1 m a2 a2=> ?_
 have aS:=od2 a1 aS
 refine Cy 0 m aS Z B3 f Z Z aZ aX λa3 a a4 f=>Aa ?_
 refine a2 a0 [aR] _ _ gr m ?_
 refine AU 9 Z λa5 w a6 m a7 a7=> ?_
 have aS:=od2 a6 aS
 obtain⟨a8,a9,m,ba,bb⟩:=Ow2.out aS m aX a4
 have m:=m.fr 1
 have⟨bc,bd,hd⟩:=bind_some hd
 refine AD f Z call96 (Wk.V0 m bb bd) λbe bf bg w bh m bi a f=> ?_
 obtain⟨bj,bk,rfl,rfl,bl⟩:=bi
 have ba:=OwH.mono (RI.mono _) bh ba
 refine Aa ?_
 refine a7 bf [bk,a8] _ _ bh m ?_
 refine AJ λbm w bn m=> ?_
 have bl:=od1 bn bl
 have ba:=OwH.mono (RI.mono _) bn ba
 have⟨bo,bp,hd⟩:=bind_some hd
 refine CK 1 m ba Z T24 f Z Z Z bp λbq a br f=> ?_
 have m:=m.fr 1
 refine Ci m ba bl sizeOf28 f Z Z br λbs w m bt=>AB ?_
 refine Az 2 0 (ds:=[aa]) m AI f Z Z Z Z Z λa f=>An 1 0 (ds:=[aa]) m sizeOf26 f Z Z Z (Ar (Ow2.one1 0 m bt Z) As) Z (lb Z) Z λw m=>Aa ?_
 refine Aq ?_
 have bu:=Bq (P:=prog) 1 m AI f (s:=6) rfl rfl rfl
 have m:=m.eraseAt 2
 have m:=m.eraseAt 1
 obtain rfl:=sj hd
 exact⟨[(.agg #[aa])],⟨bu,trivial⟩,f.d,_,[bs],(gt ah (gt ao (gt av (gt aG (gt aM (gt aU (gt a1 (gt a6 (gt bh bn))))))))),m,_,Z,Z,bt⟩
theorem Wk.r0 {x0:Int}(m:Mem W G w (H)){y:(LL)×Bool}(hd:D.r0 x0=some y):
  Calls prog 95 #[(iv x0)] w (Res W G H (λG' Ho v=>∃r0:Value,∃i0:Itm,Ho=[i0]∧v= .tuple #[(.agg #[r0]),(.bool y.2)]∧Ow2 R0 28 2 G' i0 r0 y.1)):=by
 refine Au (args:=[(iv x0)]) (N:=10) [.cell 2 26,.tmp 3] func95 Z Z (lb Z) Z λa f=> ?_
 unfold D.r0 at hd
 refine Af ?_
 refine A9 (cs:=[sn]) zeroValue26 m f Z Z λaa w a m f=>Ac f Z λa f=>Aa (Ag (Af ?_))
 refine Ab f Z λa f=> ?_
 have⟨ab,ac,hd⟩:=bind_some hd
 refine Bc f Z call32 (Wk.e m ac) λad w ae m a f=>l_o f (Bh (f.e Z)) λa f=>Aa ?_
 rcases Ae hd with⟨af,hd⟩|⟨af,hd⟩
 ·refine Al f Z af ?_
  refine Af ?_
  have ag:∀w,(Instr.build 26 #[]).run prog w= .ok (.agg #[sn]) w:=by intro w;simp[Instr.build,Instr.fill,Cm,Cw,B6,Cf,BT,Cp]
  refine CG f Z Z ag λa f=>An 0 0 (ds:=[sn]) m sizeOf26 f Z Z Z (Ar Z As) Z (lb Z) Z λw m=>Ac f Z λa f=>Aa ?_
  refine Aq ?_
  obtain⟨ah,m,ai⟩:=Ow2.nil R0 28 2 m
  have aj:=Bq (P:=prog) 1 m AI f (s:=2) rfl rfl rfl
  have m:=m.eraseAt 1
  obtain rfl:=sj hd
  exact⟨[(.agg #[sn]),(.bool false)],⟨aj,f.get _ _ Z,trivial⟩,f.d,_,[ah],ae,m,_,_,Z,Z,ai⟩
 ·refine Aj f Z af ?_
  refine Ap ?_
  refine Af ?_
  refine Ab f Z λa f=> ?_
  have⟨ak,al,hd⟩:=bind_some hd
  refine AD f Z call66 (Wk.F m al) λam an ao w ap m aq a f=> ?_
  obtain⟨ar,au,rfl,rfl,av⟩:=aq
  refine An 1 0 (ds:=[ar]) m sizeOf26 f Z Z Z (Ar (Ow2.one1 0 m av Z) As) Z (lb Z) Z λw m=>Ac f Z λa f=>Aa ?_
  refine Aq ?_
  have aw:=Bq (P:=prog) 1 m AI f (s:=2) rfl rfl rfl
  have m:=m.eraseAt 1
  obtain rfl:=sj hd
  exact⟨[(.agg #[ar]),(.bool true)],⟨aw,f.get _ _ Z,trivial⟩,f.d,_,[au],(gt ae ap),m,_,_,Z,Z,av⟩
theorem Wk.f0 {x0:Int}(m:Mem W G w (H)){y:(LL)×Bool}(hd:D.f0 x0=some y):
  Calls prog 85 #[(iv x0)] w (Res W G H (λG' Ho v=>∃r0:Value,∃i0:Itm,Ho=[i0]∧v= .tuple #[(.agg #[r0]),(.bool y.2)]∧Ow2 R0 28 2 G' i0 r0 y.1)):=by
 refine Au (args:=[(iv x0)]) (N:=27) [.cell 2 26,.tmp 3] func85 Z Z (lb Z) Z λa f=> ?_
 unfold D.f0 at hd
 refine Af ?_
 refine A9 (cs:=[sn]) zeroValue26 m f Z Z λaa w a m f=>Ac f Z λa f=>AB ?_
 refine Ab f Z λa f=> ?_
 have⟨ab,ac,hd⟩:=bind_some hd
 refine AD f Z call95 (Wk.r0 m ac) λad ae af w ag m ah a f=> ?_
 obtain⟨ai,aj,rfl,rfl,ak⟩:=ah
 refine Ab f Z λa f=>l_o f (AZ (f.e Z) Z) λa f=>l_o f (AZ (f.e Z) Z) λa f=>A9 (cs:=[sn]) zeroValue26 m f Z Z λal w a m f=>An 0 0 (ds:=[ai]) m sizeOf26 f Z Z Z (Ar (Ow2.one1 1 m ak Z) As) Z (lb Z) Z λw m=>Ac f Z λa f=>Aa (Ag (Af ?_))
 refine Ac f Z λa f=>Aa ?_
 have⟨am,an,hd⟩:=bind_some hd
 refine AM (λa w=>∃ao:LL,ao=am∧∃(ap:GH) (aq:Itm),GLe ae ap∧Fr a 27 [(2,(pb aa)),(4,(pb al)),(5,(.bool ab.2))]∧Mem W ap w (ib aa 26 [sn]::ib al 26 [ai]::aq::H)∧Ow2 R0 28 2 ap aq ai ao) ?_ ?_
 ·refine Ak ?_
  have m:=m.fr 2
  refine AL (λar a w=>∃au:Int,∃av:LL,(au,av)=ar∧∃(aw:GH) (ax:Itm),GLe ae aw∧Fr a 27 [(0,(iv x0)),(2,(pb aa)),(4,(pb al)),(5,(.bool ab.2)),(6,(iv au))]∧Mem W aw w (ib aa 26 [sn]::ib al 26 [ai]::ax::H)∧Ow2 R0 28 2 aw ax ai av) an ⟨_,_,Z,_,aj,gr,f.k Z,m,ak⟩ ?_
  clear an f m
  rintro ar ay az aA a w ⟨au,av,rfl,aw,ax,aB,f,m,aC⟩
  refine Ag (Af ?_)
  refine Ab f Z λa f=>Ab f Z λa f=>Ai f Z Z AR λa f=>Ab f Z λa f=> ?_
  refine Bz 2 (λa w=>∃aD,GLe aw aD∧Mem W aD w (ib aa 26 [sn]::ib al 26 [ai]::ax::H)∧Fr a 27 [(0,(iv x0)),(2,(pb aa)),(4,(pb al)),(5,(.bool ab.2)),(6,(iv au)),(12,(iv au)),(13,(iv x0)),(14,(.bool (decide (au<x0)))),(15,(.bool (decide (au<x0)))),(17,(.bool ((decide (au<x0))&&ab.2)))]) ?_ ?_
  ·rcases Bool.eq_false_or_eq_true (decide (au<x0)) with aE|aE
   ·refine AC f aE ?_
    refine Ab f Z λa f=>l_o f (AK (f.e Z) aE (f.e Z)) λa f=> ?_
    exact⟨_,gr,m,f.weak ⟨Z,Z,Z,Z,Z,Z,Z,Z,Z,by rw[aE];rfl,trivial⟩⟩
   ·refine AE f aE λa f=> ?_
    refine l_o f (AP (f.e Z) aE (f.e Z)) λa f=> ?_
    exact⟨_,gr,m,f.weak ⟨Z,Z,Z,Z,Z,Z,Z,Z,Z,by rw[aE];rfl,trivial⟩⟩
  ·rintro a w ⟨aD,aF,m,f⟩
   have aC:=od2 aF aC
   refine Aa ?_
   rcases Ae az with⟨aG,az⟩|⟨aG,az⟩
   ·refine Al f Z aG ?_
    refine Ap ?_
    refine Ag (Ak (Ao ?_))
    refine Az 1 0 (ds:=[ai]) m AI f Z Z Z Z Z λa f=>Ab f Z λa f=>Ai f Z Z AS λa f=>Ab f Z λa f=> ?_
    have m:=m.fr 2
    have⟨aH,aI,az⟩:=bind_some az
    refine AD f Z call91 (Wk.K m aC aI) λaJ aK aL w aM m aN a f=> ?_
    obtain⟨aO,rfl,rfl,aP⟩:=aN
    refine An 2 0 (ds:=[ai]) m sizeOf26 f Z Z Z (Ar (Ow2.one1 0 m aP Z) As) Z (lb Z) Z λw m=>Aa (Ao ?_)
    refine Ab f Z λa f=>Ai f Z Z Ax λa f=>Ac f Z λa f=>Aa ?_
    have m:=m.fr 2
    have m:=m.fr 2
    obtain rfl:=sj az
    exact⟨_,Z,_,_,Z,_,aO,(gt aB (gt aF aM)),f.k Z,m,aP⟩
   ·refine Aj f Z aG ?_
    refine AH Z ?_
    obtain rfl:=sj az
    obtain rfl:=aA _ rfl
    exact⟨_,Z,_,ax,(gt aB aF),f.k Z,m,aC⟩
 ·rintro a w ⟨ao,rfl,ap,aq,aQ,f,m,aR⟩
  refine Af ?_
  refine Az 1 0 (ds:=[ai]) m AI f Z Z Z Z Z λa f=>Ab f Z λa f=>An 0 0 (ds:=[ai]) m sizeOf26 f Z Z Z (Ar (Ow2.one1 2 m aR Z) As) Z (lb Z) Z λw m=>Ac f Z λa f=>Aa ?_
  refine Aq ?_
  have aS:=Bq (P:=prog) 0 m AI f (s:=2) rfl rfl rfl
  have m:=m.fr 2
  have m:=m.eraseAt 2
  have m:=m.eraseAt 1
  obtain rfl:=sj hd
  exact⟨[(.agg #[ai]),(.bool ab.2)],⟨aS,f.get _ _ Z,trivial⟩,f.d,_,[aq],(gt ag aQ),m,_,_,Z,Z,aR⟩
theorem Wk.H0 {x0:Int}(m:Mem W G w (H)){y:(LL)×Bool}(hd:D.H0 x0=some y):
  Calls prog 84 #[(iv x0)] w (Res W G H (λG' Ho v=>∃r0:Value,∃i0:Itm,Ho=[i0]∧v= .tuple #[(.agg #[r0]),(.bool y.2)]∧Ow2 R0 28 2 G' i0 r0 y.1)):=by
 refine Au (args:=[(iv x0)]) (N:=22) [.cell 2 26,.tmp 3] func84 Z Z (lb Z) Z λa f=> ?_
 unfold D.H0 at hd
 refine Af ?_
 refine A9 (cs:=[sn]) zeroValue26 m f Z Z λaa w a m f=>Ac f Z λa f=>AB ?_
 refine Ab f Z λa f=> ?_
 have⟨ab,ac,hd⟩:=bind_some hd
 refine AD f Z call85 (Wk.f0 m ac) λad ae af w ag m ah a f=> ?_
 obtain⟨ai,aj,rfl,rfl,ak⟩:=ah
 refine Ab f Z λa f=>l_o f (AZ (f.e Z) Z) λa f=>l_o f (AZ (f.e Z) Z) λa f=>A9 (cs:=[sn]) zeroValue26 m f Z Z λal w a m f=>An 0 0 (ds:=[ai]) m sizeOf26 f Z Z Z (Ar (Ow2.one1 1 m ak Z) As) Z (lb Z) Z λw m=>Ac f Z λa f=>Aa (Ag (Af ?_))
 refine Ab f Z λa f=>l_o f (Bh (f.e Z)) λa f=>Ab f Z λa f=> ?_
 refine Bz 3 (λa w=>∃am,GLe ae am∧Mem W am w (ib al 26 [ai]::aj::ib aa 26 [sn]::H)∧Fr a 22 [(0,(iv x0)),(2,(pb aa)),(4,(pb al)),(5,(.bool ab.2)),(11,(.bool ab.2)),(12,(.bool (!ab.2))),(13,(.bool (!ab.2))),(16,(.bool ((!ab.2)||(decide (x0<3)))))]) ?_ ?_
 ·rcases Bool.eq_false_or_eq_true (!ab.2) with an|an
  ·refine AE f an λa f=> ?_
   refine AE f an λa f=>l_o f (AK (f.e Z) an (f.e Z)) λa f=> ?_
   exact⟨_,gr,m,f.weak ⟨Z,Z,Z,Z,Z,Z,Z,by rw[an];rfl,trivial⟩⟩
  ·refine AC f an ?_
   refine Ab f Z λa f=>AC f an ?_
   refine Ai f Z Z AR λa f=>l_o f (AP (f.e Z) an (f.e Z)) λa f=> ?_
   exact⟨_,gr,m,f.weak ⟨Z,Z,Z,Z,Z,Z,Z,by rw[an];rfl,trivial⟩⟩
 ·rintro a w ⟨am,ao,m,f⟩
  have ak:=od2 ao ak
  refine Aa ?_
  rcases Ae hd with⟨ap,hd⟩|⟨ap,hd⟩
  ·refine Al f Z ap ?_
   refine Af ?_
   have aq:∀w,(Instr.build 26 #[]).run prog w= .ok (.agg #[sn]) w:=by intro w;simp[Instr.build,Instr.fill,Cm,Cw,B6,Cf,BT,Cp]
   refine CG f Z Z aq λa f=>An 2 0 (ds:=[sn]) m sizeOf26 f Z Z Z (Ar Z As) Z (lb Z) Z λw m=>Ac f Z λa f=>Aa ?_
   refine Aq ?_
   obtain⟨ar,m,au⟩:=Ow2.nil R0 28 2 m
   have av:=Bq (P:=prog) 3 m AI f (s:=2) rfl rfl rfl
   have m:=m.fr 2
   have m:=m.fr 1
   have m:Mem W am w (ar::aj::ib al 26 [ai]::H):=m.eraseAt 3
   have m:=m.eraseAt 2
   have m:=m.eraseAt 1
   obtain rfl:=sj hd
   exact⟨[(.agg #[sn]),(.bool false)],⟨av,f.get _ _ Z,trivial⟩,f.d,_,[ar],(gt ag ao),m,_,_,Z,Z,au⟩
  ·refine Aj f Z ap ?_
   refine Ap ?_
   refine Af ?_
   refine Az 0 0 (ds:=[ai]) m AI f Z Z Z Z Z λa f=>Ab f Z λa f=>Ai f Z Z AS λa f=> ?_
   have m:=m.fr 1
   have⟨aw,ax,hd⟩:=bind_some hd
   refine AD f Z call91 (Wk.K m ak ax) λay az aA w aB m aC a f=> ?_
   obtain⟨aD,rfl,rfl,aE⟩:=aC
   refine An 2 0 (ds:=[ai]) m sizeOf26 f Z Z Z (Ar (Ow2.one1 0 m aE Z) As) Z (lb Z) Z λw m=>Ac f Z λa f=>Aa ?_
   refine Aq ?_
   have aF:=Bq (P:=prog) 2 m AI f (s:=2) rfl rfl rfl
   have m:=m.eraseAt 2
   have m:=m.eraseAt 1
   obtain rfl:=sj hd
   exact⟨[(.agg #[ai]),(.bool true)],⟨aF,f.get _ _ Z,trivial⟩,f.d,_,[aD],(gt ag (gt ao aB)),m,_,_,Z,Z,aE⟩
theorem Wk.X0 {aa:Value}{b0:Nat}{ab:LI}{ac ad x1:Int}(m:Mem W G w (ib b0 64 [aa,(iv ac),(iv ad)]::H))(ae:RSl (RI .u8) G aa ab){y:(LL)×(LI)×Int×Int}(hd:D.X0 ab ac ad x1=some y):
  Calls prog 86 #[(pb b0),(iv x1)] w (Res W G H (λG' Ho v=>∃r0:Value,∃i0:Itm,∃r2:Value,Ho=[i0,ib b0 64 [r2,(iv y.2.2.1),(iv y.2.2.2)]]∧v=(.agg #[r0])∧Ow2 R0 28 2 G' i0 r0 y.1∧RSl (RI .u8) G' r2 y.2.1)):=by
 refine Au (args:=[(pb b0),(iv x1)]) (N:=33) [.cell 4 26] func86 Z Z (lb Z) Z λa f=> ?_
 unfold D.X0 at hd
 refine Af ?_
 refine A9 (cs:=[sn]) zeroValue26 m f Z Z λaf w a m f=>AB ?_
 refine Ab f Z λa f=> ?_
 have⟨ag,ah,hd⟩:=bind_some hd
 refine AD f Z call66 (Wk.F m ah) λai aj ak w al m am a f=> ?_
 obtain⟨an,ao,rfl,rfl,ap⟩:=am
 have ae:=rd1 al ae
 refine A9 (cs:=[sn]) zeroValue26 m f Z Z λaq w a m f=>An 0 0 (ds:=[an]) m sizeOf26 f Z Z Z (Ar (Ow2.one1 1 m ap Z) As) Z (lb Z) Z λw m=>AB ?_
 refine Ab f Z λa f=> ?_
 have m:Mem W aj w (ib b0 64 [aa,(iv ac),(iv ad)]::ib aq 26 [an]::ao::ib af 26 [sn]::H):=m.fr 3
 have⟨ar,au,hd⟩:=bind_some hd
 refine AD f Z call64 (Wk.c m ae au) λav aw ax w ay m az a f=> ?_
 obtain⟨aA,rfl,rfl,aB⟩:=az
 have ap:=od2 ay ap
 refine Ai f Z Z Ax λa f=>Ac f Z λa f=>Aa (Ag (Af ?_))
 refine Ac f Z λa f=>Aa ?_
 have⟨aC,aD,hd⟩:=bind_some hd
 refine AM (λa w=>∃aE:LL,∃aF:LI,∃aG:Int,∃aH:Int,(aE,aF,aG,aH)=aC∧∃(aI:GH) (aJ:Itm) (aK:Value),GLe aw aI∧Fr a 33 [(4,(pb af)),(5,(pb aq))]∧Mem W aI w (ib af 26 [sn]::ib aq 26 [an]::ib b0 64 [aK,(iv aG),(iv aH)]::aJ::H)∧Ow2 R0 28 2 aI aJ an aE∧RSl (RI .u8) aI aK aF) ?_ ?_
 ·refine Ak ?_
  have m:=m.fr 3
  have m:Mem W aw w (ib b0 64 [aA,(iv ar.2.2.1),(iv ar.2.2.2)]::ib af 26 [sn]::ib aq 26 [an]::ao::H):=m.fr 1
  refine AL (λaL a w=>∃aM:Int,∃aN:LI,∃aO:Int,∃aP:Int,∃aQ:LL,(aM,aN,aO,aP,aQ)=aL∧∃(aR:GH) (aS:Value) (aT:Itm),GLe aw aR∧Fr a 33 [(0,(pb b0)),(1,(iv x1)),(4,(pb af)),(5,(pb aq)),(6,(iv (i64.wrap (1+ar.1)))),(7,(iv aM))]∧Mem W aR w (ib b0 64 [aS,(iv aO),(iv aP)]::ib af 26 [sn]::ib aq 26 [an]::aT::H)∧RSl (RI .u8) aR aS aN∧Ow2 R0 28 2 aR aT an aQ) aD ⟨_,_,_,_,_,Z,_,aA,ao,gr,f.k Z,m,aB,ap⟩ ?_
  clear aD f m
  rintro aL aU aV aW a w ⟨aM,aN,aO,aP,aQ,rfl,aR,aS,aT,aX,f,m,aY,aZ⟩
  refine Ag (Af ?_)
  refine Ab f Z λa f=>Ab f Z λa f=>Ai f Z Z AR λa f=>Aa ?_
  rcases Ae aV with⟨a0,aV⟩|⟨a0,aV⟩
  ·refine Al f Z a0 ?_
   refine Ap ?_
   refine Ag (Ak (Af ?_))
   refine Ac f Z λa f=>Aa ?_
   have⟨a1,a2,aV⟩:=bind_some aV
   refine AM (λa w=>∃a3:LI,∃a4:Int,∃a5:Int,∃a6:LL,(a3,a4,a5,a6)=a1∧∃(a7:GH) (a8:Value) (a9:Itm),GLe aR a7∧Fr a 33 [(0,(pb b0)),(1,(iv x1)),(4,(pb af)),(5,(pb aq)),(6,(iv (i64.wrap (1+ar.1)))),(7,(iv aM))]∧Mem W a7 w (ib b0 64 [a8,(iv a4),(iv a5)]::ib af 26 [sn]::ib aq 26 [an]::a9::H)∧RSl (RI .u8) a7 a8 a3∧Ow2 R0 28 2 a7 a9 an a6) ?_ ?_
   ·refine Ak ?_
    refine AL (λba a w=>∃bb:Int,∃bc:LI,∃bd:Int,∃be:Int,∃bf:LL,(bb,bc,bd,be,bf)=ba∧∃(bg:GH) (bh:Value) (bi:Itm),GLe aR bg∧Fr a 33 [(0,(pb b0)),(1,(iv x1)),(4,(pb af)),(5,(pb aq)),(6,(iv (i64.wrap (1+ar.1)))),(7,(iv aM)),(8,(iv bb))]∧Mem W bg w (ib b0 64 [bh,(iv bd),(iv be)]::ib af 26 [sn]::ib aq 26 [an]::bi::H)∧RSl (RI .u8) bg bh bc∧Ow2 R0 28 2 bg bi an bf) a2 ⟨_,_,_,_,_,Z,_,aS,aT,gr,f.k Z,m,aY,aZ⟩ ?_
    clear a2 f m
    rintro ba bj bk bl a w ⟨bb,bc,bd,be,bf,rfl,bg,bh,bi,bm,f,m,bn,bo⟩
    refine Ag (Af ?_)
    refine Ab f Z λa f=>Ab f Z λa f=>Ai f Z Z AR λa f=>Aa ?_
    rcases Ae bk with⟨bp,bk⟩|⟨bp,bk⟩
    ·refine Al f Z bp ?_
     refine Ap ?_
     refine Ag (Ak (Af ?_))
     refine Ab f Z λa f=> ?_
     have⟨bq,br,bk⟩:=bind_some bk
     refine AD f Z call64 (Wk.c m bn br) λbs bt bu w bv m bw a f=> ?_
     obtain⟨bx,rfl,rfl,bz⟩:=bw
     have bo:=od2 bv bo
     refine Ab f Z λa f=>Ai f Z Z AR λa f=>Aa ?_
     rcases Ae bk with⟨bA,bk⟩|⟨bA,bk⟩
     ·refine Al f Z bA ?_
      refine Ao ?_
      refine Az 2 0 (ds:=[an]) m AI f Z Z Z Z Z λa f=>Ab f Z λa f=>Ab f Z λa f=> ?_
      have m:Mem W bt w (bi::ib b0 64 [bx,(iv bq.2.2.1),(iv bq.2.2.2)]::ib af 26 [sn]::ib aq 26 [an]::H):=m.fr 3
      have⟨bB,bC,bk⟩:=bind_some bk
      refine AD f Z call91 (Wk.K m bo bC) λbD bE bF w bG m bH a f=> ?_
      obtain⟨bI,rfl,rfl,bJ⟩:=bH
      have bz:=rd1 bG bz
      refine An 3 0 (ds:=[an]) m sizeOf26 f Z Z Z (Ar (Ow2.one1 0 m bJ Z) As) Z (lb Z) Z λw m=>Aa (Ao ?_)
      refine Ab f Z λa f=>Ai f Z Z Ax λa f=>Ac f Z λa f=>Aa ?_
      have m:=m.fr 3
      have m:=m.fr 3
      have m:Mem W bE w (ib b0 64 [bx,(iv bq.2.2.1),(iv bq.2.2.2)]::ib af 26 [sn]::ib aq 26 [an]::bI::H):=m.fr 3
      obtain rfl:=sj bk
      exact⟨_,Z,_,_,_,_,_,Z,_,bx,bI,(gt bm (gt bv bG)),f.k Z,m,bz,bJ⟩
     ·refine Aj f Z bA ?_
      refine Ap ?_
      refine Ao ?_
      refine Ab f Z λa f=>Ai f Z Z Ax λa f=>Ac f Z λa f=>Aa ?_
      obtain rfl:=sj bk
      exact⟨_,Z,_,_,_,_,_,Z,_,bx,bi,(gt bm bv),f.k Z,m,bz,bo⟩
    ·refine Aj f Z bp ?_
     refine AH Z ?_
     obtain rfl:=sj bk
     obtain rfl:=bl _ rfl
     exact⟨_,_,_,_,Z,_,bh,bi,bm,f.k Z,m,bn,bo⟩
   ·rintro a w ⟨a3,a4,a5,a6,rfl,a7,a8,a9,bK,f,m,bL,bM⟩
    refine Ao ?_
    refine Ab f Z λa f=>Ai f Z Z Ax λa f=>Ac f Z λa f=>Aa ?_
    obtain rfl:=sj aV
    exact⟨_,Z,_,_,_,_,_,Z,_,a8,a9,(gt aX bK),f.k Z,m,bL,bM⟩
  ·refine Aj f Z a0 ?_
   refine AH Z ?_
   have m:=m.fr 2
   have m:Mem W aR w (ib af 26 [sn]::ib aq 26 [an]::ib b0 64 [aS,(iv aO),(iv aP)]::aT::H):=m.fr 2
   obtain rfl:=sj aV
   obtain rfl:=aW _ rfl
   exact⟨_,_,_,_,Z,_,aT,aS,aX,f.k Z,m,aZ,aY⟩
 ·rintro a w ⟨aE,aF,aG,aH,rfl,aI,aJ,aK,bN,f,m,bO,bP⟩
  refine Af ?_
  refine Az 1 0 (ds:=[an]) m AI f Z Z Z Z Z λa f=>An 0 0 (ds:=[an]) m sizeOf26 f Z Z Z (Ar (Ow2.one1 3 m bO Z) As) Z (lb Z) Z λw m=>Aa ?_
  refine Aq ?_
  have bQ:=Bq (P:=prog) 0 m AI f (s:=4) rfl rfl rfl
  have m:=m.fr 2
  have m:=m.fr 3
  have m:Mem W aI w (aJ::ib b0 64 [aK,(iv aG),(iv aH)]::ib af 26 [an]::H):=m.eraseAt 3
  have m:=m.eraseAt 2
  obtain rfl:=sj hd
  exact⟨[(.agg #[an])],⟨bQ,trivial⟩,f.d,_,[aJ,ib b0 64 [aK,(iv aG),(iv aH)]],(gt al (gt ay bN)),m,_,_,_,Z,Z,bO,bP⟩
theorem Wk.C0 {aa:Value}{b0:Nat}{ab:LI}{ac ad:Int}(m:Mem W G w (ib b0 64 [aa,(iv ac),(iv ad)]::H))(ae:RSl (RI .u8) G aa ab){y:(LL)×(LI)×Int×Int}(hd:D.C0 ab ac ad=some y):
  Calls prog 63 #[(pb b0)] w (Res W G H (λG' Ho v=>∃r0:Value,∃i0:Itm,∃r2:Value,Ho=[i0,ib b0 64 [r2,(iv y.2.2.1),(iv y.2.2.2)]]∧v=(.agg #[r0])∧Ow2 R0 28 2 G' i0 r0 y.1∧RSl (RI .u8) G' r2 y.2.1)):=by
 refine Au (args:=[(pb b0)]) (N:=34) [.cell 2 26] func63 Z Z (lb Z) Z λa f=> ?_
 unfold D.C0 at hd
 refine Af ?_
 refine A9 (cs:=[sn]) zeroValue26 m f Z Z λaf w a m f=>Aa (Ag (Af ?_))
 refine Ab f Z λa f=> ?_
 have m:Mem W G w (ib b0 64 [aa,(iv ac),(iv ad)]::ib af 26 [sn]::H):=m.fr 1
 have⟨ag,ah,hd⟩:=bind_some hd
 refine AD f Z call64 (Wk.c m ae ah) λai aj ak w al m am a f=> ?_
 obtain⟨an,rfl,rfl,ao⟩:=am
 refine Aa (Ak (Af ?_))
 refine Ai f Z Z By λa f=>Ac f Z λa f=>Aa ?_
 rcases Ae hd with⟨ap,hd⟩|⟨ap,hd⟩
 ·refine Al f Z ap ?_
  refine Af ?_
  refine Ab f Z λa f=> ?_
  have⟨aq,ar,hd⟩:=bind_some hd
  refine AD f Z call64 (Wk.c m ao ar) λau av aw w ax m ay a f=> ?_
  obtain⟨az,rfl,rfl,aA⟩:=ay
  refine Ai f Z Z Ax λa f=> ?_
  have⟨aB,aC,hd⟩:=bind_some hd
  refine AD f Z call84 (Wk.H0 m aC) λaD aE aF w aG m aH a f=> ?_
  obtain⟨aI,aJ,rfl,rfl,aK⟩:=aH
  have aA:=rd1 aG aA
  refine Ab f Z λa f=>l_o f (AZ (f.e Z) Z) λa f=>l_o f (AZ (f.e Z) Z) λa f=>A9 (cs:=[sn]) zeroValue26 m f Z Z λaL w a m f=>An 0 0 (ds:=[aI]) m sizeOf26 f Z Z Z (Ar (Ow2.one1 1 m aK Z) As) Z (lb Z) Z λw m=>Ac f Z λa f=>AB ?_
  refine Az 0 0 (ds:=[aI]) m AI f Z Z Z Z Z λa f=>An 3 0 (ds:=[aI]) m sizeOf26 f Z Z Z (Ar (Ow2.one1 1 m aK Z) As) Z (lb Z) Z λw m=>Aa ?_
  refine Aq ?_
  have aM:=Bq (P:=prog) 3 m AI f (s:=2) rfl rfl rfl
  have m:=m.fr 2
  have m:=m.fr 2
  have m:Mem W aE w (aJ::ib b0 64 [az,(iv aq.2.2.1),(iv aq.2.2.2)]::ib aL 26 [aI]::H):=m.eraseAt 3
  have m:=m.eraseAt 2
  obtain rfl:=sj hd
  exact⟨[(.agg #[aI])],⟨aM,trivial⟩,f.d,_,[aJ,ib b0 64 [az,(iv aq.2.2.1),(iv aq.2.2.2)]],(gt al (gt ax aG)),m,_,_,_,Z,Z,aK,aA⟩
 ·refine Aj f Z ap ?_
  refine Af ?_
  refine Ai f Z Z By λa f=>Ac f Z λa f=>Aa ?_
  rcases Ae hd with⟨aN,hd⟩|⟨aN,hd⟩
  ·refine Al f Z aN ?_
   refine Af ?_
   refine Ab f Z λa f=> ?_
   have⟨aO,aP,hd⟩:=bind_some hd
   refine AD f Z call64 (Wk.c m ao aP) λaQ aR aS w aT m aU a f=> ?_
   obtain⟨aV,rfl,rfl,aW⟩:=aU
   refine Ai f Z Z Ax λa f=> ?_
   have⟨aX,aY,hd⟩:=bind_some hd
   refine AD f Z call85 (Wk.f0 m aY) λaZ a0 a1 w a2 m a3 a f=> ?_
   obtain⟨a4,a5,rfl,rfl,a6⟩:=a3
   have aW:=rd1 a2 aW
   refine Ab f Z λa f=>l_o f (AZ (f.e Z) Z) λa f=>l_o f (AZ (f.e Z) Z) λa f=>A9 (cs:=[sn]) zeroValue26 m f Z Z λa7 w a m f=>An 0 0 (ds:=[a4]) m sizeOf26 f Z Z Z (Ar (Ow2.one1 1 m a6 Z) As) Z (lb Z) Z λw m=>Ac f Z λa f=>AB ?_
   refine Az 0 0 (ds:=[a4]) m AI f Z Z Z Z Z λa f=>An 3 0 (ds:=[a4]) m sizeOf26 f Z Z Z (Ar (Ow2.one1 1 m a6 Z) As) Z (lb Z) Z λw m=>Aa ?_
   refine Aq ?_
   have a8:=Bq (P:=prog) 3 m AI f (s:=2) rfl rfl rfl
   have m:=m.fr 2
   have m:=m.fr 2
   have m:Mem W a0 w (a5::ib b0 64 [aV,(iv aO.2.2.1),(iv aO.2.2.2)]::ib a7 26 [a4]::H):=m.eraseAt 3
   have m:=m.eraseAt 2
   obtain rfl:=sj hd
   exact⟨[(.agg #[a4])],⟨a8,trivial⟩,f.d,_,[a5,ib b0 64 [aV,(iv aO.2.2.1),(iv aO.2.2.2)]],(gt al (gt aT a2)),m,_,_,_,Z,Z,a6,aW⟩
  ·refine Aj f Z aN ?_
   refine Ap ?_
   refine Af ?_
   refine Ab f Z λa f=>Ab f Z λa f=> ?_
   have⟨a9,ba,hd⟩:=bind_some hd
   refine AD f Z call64 (Wk.c m ao ba) λbb bc bd w be m bf a f=> ?_
   obtain⟨bg,rfl,rfl,bh⟩:=bf
   refine Ai f Z Z Ax λa f=> ?_
   have⟨bi,bj,hd⟩:=bind_some hd
   refine AD f Z call86 (Wk.X0 m bh bj) λbk bl bm w bn m bo a f=> ?_
   obtain⟨bp,bq,br,rfl,rfl,bs,bt⟩:=bo
   refine An 2 0 (ds:=[bp]) m sizeOf26 f Z Z Z (Ar (Ow2.one1 0 m bs Z) As) Z (lb Z) Z λw m=>Aa ?_
   refine Aq ?_
   have bu:=Bq (P:=prog) 2 m AI f (s:=2) rfl rfl rfl
   have m:=m.eraseAt 2
   obtain rfl:=sj hd
   exact⟨[(.agg #[bp])],⟨bu,trivial⟩,f.d,_,[bq,ib b0 64 [br,(iv bi.2.2.1),(iv bi.2.2.2)]],(gt al (gt be bn)),m,_,_,_,Z,Z,bs,bt⟩
theorem Wk.k0 {aa:Value}{b0:Nat}{ab:LI}{ac ad:Int}(m:Mem W G w (ib b0 64 [aa,(iv ac),(iv ad)]::H))(ae:RSl (RI .u8) G aa ab){y:(LL)×(LI)×Int×Int}(hd:D.k0 ab ac ad=some y):
  Calls prog 44 #[(pb b0)] w (Res W G H (λG' Ho v=>∃r0:Value,∃i0:Itm,∃r2:Value,Ho=[i0,ib b0 64 [r2,(iv y.2.2.1),(iv y.2.2.2)]]∧v=(.agg #[r0])∧Ow2 R0 28 2 G' i0 r0 y.1∧RSl (RI .u8) G' r2 y.2.1)):=by
 refine Au (args:=[(pb b0)]) (N:=56) [.cell 2 26] func44 Z Z (lb Z) Z λa f=> ?_
 unfold D.k0 at hd
 refine Af ?_
 refine A9 (cs:=[sn]) zeroValue26 m f Z Z λaf w a m f=>AB ?_
 refine Ab f Z λa f=> ?_
 have m:Mem W G w (ib b0 64 [aa,(iv ac),(iv ad)]::ib af 26 [sn]::H):=m.fr 1
 have⟨ag,ah,hd⟩:=bind_some hd
 refine AD f Z call63 (Wk.C0 m ae ah) λai aj ak w al m am a f=> ?_
 obtain⟨an,ao,ap,rfl,rfl,aq,ar⟩:=am
 refine A9 (cs:=[sn]) zeroValue26 m f Z Z λau w a m f=>An 0 0 (ds:=[an]) m sizeOf26 f Z Z Z (Ar (Ow2.one1 1 m aq Z) As) Z (lb Z) Z λw m=>Aa (Ag (Af ?_))
 refine Ab f Z λa f=> ?_
 have m:Mem W aj w (ib b0 64 [ap,(iv ag.2.2.1),(iv ag.2.2.2)]::ib au 26 [an]::ao::ib af 26 [sn]::H):=m.fr 2
 have⟨av,aw,hd⟩:=bind_some hd
 refine AD f Z call45 (Wk.o m ar aw) λax ay az w aA m aB a f=> ?_
 obtain⟨aC,rfl,rfl,aD⟩:=aB
 have aq:=od2 aA aq
 refine Aa ?_
 rcases Ae hd with⟨aE,hd⟩|⟨aE,hd⟩
 ·refine Al f Z aE ?_
  refine Af ?_
  refine Ab f Z λa f=>Bo underlying26 Z sizeOf24 f Z λa f=>AA 1 0 m Bt f Z Z Z Z λa f=>l_own2_len 2 m aq Z underlying24 f Z Z λa f=> ?_
  have⟨aF,aG,hd⟩:=bind_some hd
  refine AD f Z call64 (Wk.c m aD aG) λaH aI aJ w aK m aL a f=> ?_
  obtain⟨aM,rfl,rfl,aN⟩:=aL
  have aq:=od2 aK aq
  refine Ac f Z λa f=>AB ?_
  refine Ab f Z λa f=> ?_
  have⟨aO,aP,hd⟩:=bind_some hd
  refine AD f Z call64 (Wk.c m aN aP) λaQ aR aS w aT m aU a f=> ?_
  obtain⟨aV,rfl,rfl,aW⟩:=aU
  have aq:=od2 aT aq
  refine Aa (Ak (Af ?_))
  refine Ai f Z Z By λa f=>Ac f Z λa f=>Aa ?_
  rcases Ae hd with⟨aX,hd⟩|⟨aX,hd⟩
  ·refine Al f Z aX ?_
   have⟨aY,aZ,hd⟩:=bind_some hd
   refine AM (λa w=>∃a0:LL,∃a1:LI,∃a2:Int,∃a3:Int,(a0,a1,a2,a3)=aY∧∃(a4:GH) (a5:Itm) (a6:Value),GLe aR a4∧Fr a 56 [(2,(pb af)),(3,(pb au))]∧Mem W a4 w (ib af 26 [sn]::ib au 26 [an]::ib b0 64 [a6,(iv a2),(iv a3)]::a5::H)∧Ow2 R0 28 2 a4 a5 an a0∧RSl (RI .u8) a4 a6 a1) ?_ ?_
   ·have m:Mem W aR w (ao::ib b0 64 [aV,(iv aO.2.2.1),(iv aO.2.2.2)]::ib au 26 [an]::ib af 26 [sn]::H):=m.fr 2
    refine DH [ao,ib b0 64 [aV,(iv aO.2.2.1),(iv aO.2.2.2)]] (ib au 26 [an]::ib af 26 [sn]::H) 12 AG (by kernel_rfl) m ?_
    refine Bg 0 12 underlying26 Z sizeOf24 Z f Z λa f=>Bp 1 12 0 Bt Z Z Z f Z λa f=>Ah 2 12 Z f Z λa f=>Bg 3 12 underlying26 Z sizeOf24 Z f Z λa f=>Bp 4 12 0 Bt Z Z Z f Z λa f=>Ah 5 12 Z f Z λa f=>Ah 8 12 Z f Z λa f=>Cs (i:=6) (j:=9) (l1:= #[true,true,true,true,true,true,true,false,true,false,false,false,false,false]) (l2:= #[true,true,true,true,true,true,false,false,true,true,false,false,false,false]) Z Z (by kernel_rfl) Z Z ?_ ?_
    ·intro a7 w a8 m a9 a9
     have aq:=od2 a8 aq
     have aW:=rd1 a8 aW
     have⟨ba,bb,aZ⟩:=bind_some aZ
     refine CW 0 m aq Z T24 f Z Z Z bb λbc a bd f=>Aa ?_
     refine a9 a7 [ao,ib b0 64 [aV,(iv aO.2.2.1),(iv aO.2.2.2)]] _ _ gr m ?_
     refine Cs (i:=7) (j:=9) (l1:= #[true,true,true,true,true,true,true,true,true,false,false,false,false,false]) (l2:= #[true,true,true,true,true,true,true,false,true,true,false,false,false,false]) Z Z (by kernel_rfl) Z Z ?_ ?_
     ·intro be w bf m bg bg
      have aq:=od2 bf aq
      have aW:=rd1 bf aW
      refine Cy 0 m aq Z B3 f Z Z bd bb λbh a bi f=>Aa ?_
      refine bg be [ao,ib b0 64 [aV,(iv aO.2.2.1),(iv aO.2.2.2)]] _ _ gr m ?_
      refine AU 9 Z λbj w bk m bl bl=> ?_
      have aq:=od2 bk aq
      have aW:=rd1 bk aW
      have m:Mem W bj w (ib b0 64 [aV,(iv aO.2.2.1),(iv aO.2.2.2)]::ao::ib au 26 [an]::ib af 26 [sn]::H):=m.fr 1
      have⟨bm,bn,aZ⟩:=bind_some aZ
      refine AD f Z call65 (Wk.Y m aW bn) λbo bp bq w br m bs a f=> ?_
      obtain⟨bt,rfl,rfl,bu⟩:=bs
      have aq:=od2 br aq
      refine Aa ?_
      refine bl bp [ib b0 64 [bt,(iv bm.2.2.1),(iv bm.2.2.2)],ao] _ _ br m ?_
      refine AU 10 Z λbv w bw m bx bx=> ?_
      have bu:=rd1 bw bu
      have aq:=od2 bw aq
      refine A4 (R:=R0) (xs:=([bm.1]:LI)) (RI.one _) m T28 f Z Z Z (by decide) (All2.cons Z (All2.nil _)) λbz bA w a m bB f=>Aa ?_
      refine bx bv [bz,ib b0 64 [bt,(iv bm.2.2.1),(iv bm.2.2.2)],ao] _ _ gr m ?_
      refine AU 11 Z λbC w bD m bE bE=> ?_
      have bB:=od1 bD bB
      have bu:=rd1 bD bu
      have aq:=od2 bD aq
      have m:Mem W bC w (ao::bz::ib b0 64 [bt,(iv bm.2.2.1),(iv bm.2.2.2)]::ib au 26 [an]::ib af 26 [sn]::H):=m.fr 2
      obtain⟨bF,bG,m,bH,bI⟩:=Ow2.out aq m bb bi
      have⟨bJ,bK,aZ⟩:=bind_some aZ
      refine A6 (RI.one _) 1 m bI Z T28 Z (by decide) f Z Z Z (Ow.src (j:=2) bB m Z) bK λbL bM w a m bN f=>Aa ?_
      refine bE bC [bF,bL,bz,ib b0 64 [bt,(iv bm.2.2.1),(iv bm.2.2.2)]] _ _ gr m ?_
      refine AJ λbO w bP m=> ?_
      have bH:=OwH.mono (RI.mono _) bP bH
      have bN:=od1 bP bN
      have bu:=rd1 bP bu
      have⟨bQ,bR,aZ⟩:=bind_some aZ
      refine CK 0 m bH Z T24 f Z Z Z bR λbS a bT f=>Ci m bH bN sizeOf28 f Z Z bT λbU w m bV=>Aa ?_
      have m:=m.fr 2
      have m:=m.fr 3
      have m:Mem W bO w (ib af 26 [sn]::ib au 26 [an]::ib b0 64 [bt,(iv bm.2.2.1),(iv bm.2.2.2)]::bU::bz::H):=m.fr 4
      have m:Mem W bO w (ib af 26 [sn]::ib au 26 [an]::ib b0 64 [bt,(iv bm.2.2.1),(iv bm.2.2.2)]::bU::H):=m.eraseAt 4
      obtain rfl:=sj aZ
      exact⟨_,_,_,_,Z,_,bU,bt,(gt a8 (gt bf (gt bk (gt br (gt bw (gt bD bP)))))),f.k Z,m,bV,bu⟩
     ·intro bj w bk m bl bl
      have⟨bm,bn,aZ⟩:=bind_some aZ
      have⟨bJ,bK,aZ⟩:=bind_some aZ
      have⟨bQ,bR,aZ⟩:=bind_some aZ
      have aq:=od2 bk aq
      have aW:=rd1 bk aW
      have m:Mem W bj w (ib b0 64 [aV,(iv aO.2.2.1),(iv aO.2.2.2)]::ao::ib au 26 [an]::ib af 26 [sn]::H):=m.fr 1
      refine AD f Z call65 (Wk.Y m aW bn) λbo bp bq w br m bs a f=> ?_
      obtain⟨bt,rfl,rfl,bu⟩:=bs
      have aq:=od2 br aq
      refine Aa ?_
      refine bl bp [ib b0 64 [bt,(iv bm.2.2.1),(iv bm.2.2.2)],ao] _ _ br m ?_
      refine Cs (i:=7) (j:=10) (l1:= #[true,true,true,true,true,true,true,true,true,true,false,false,false,false]) (l2:= #[true,true,true,true,true,true,true,false,true,true,true,false,false,false]) Z Z (by kernel_rfl) Z Z ?_ ?_
      ·intro be w bf m bg bg
       have bu:=rd1 bf bu
       have aq:=od2 bf aq
       refine Cy 1 m aq Z B3 f Z Z bd bb λbh a bi f=>Aa ?_
       refine bg be [ib b0 64 [bt,(iv bm.2.2.1),(iv bm.2.2.2)],ao] _ _ gr m ?_
       refine AU 10 Z λbv w bw m bx bx=> ?_
       have bu:=rd1 bw bu
       have aq:=od2 bw aq
       refine A4 (R:=R0) (xs:=([bm.1]:LI)) (RI.one _) m T28 f Z Z Z (by decide) (All2.cons Z (All2.nil _)) λbz bA w a m bB f=>Aa ?_
       refine bx bv [bz,ib b0 64 [bt,(iv bm.2.2.1),(iv bm.2.2.2)],ao] _ _ gr m ?_
       refine AU 11 Z λbC w bD m bE bE=> ?_
       have bB:=od1 bD bB
       have bu:=rd1 bD bu
       have aq:=od2 bD aq
       have m:Mem W bC w (ao::bz::ib b0 64 [bt,(iv bm.2.2.1),(iv bm.2.2.2)]::ib au 26 [an]::ib af 26 [sn]::H):=m.fr 2
       obtain⟨bF,bG,m,bH,bI⟩:=Ow2.out aq m bb bi
       refine A6 (RI.one _) 1 m bI Z T28 Z (by decide) f Z Z Z (Ow.src (j:=2) bB m Z) bK λbL bM w a m bN f=>Aa ?_
       refine bE bC [bF,bL,bz,ib b0 64 [bt,(iv bm.2.2.1),(iv bm.2.2.2)]] _ _ gr m ?_
       refine AJ λbO w bP m=> ?_
       have bH:=OwH.mono (RI.mono _) bP bH
       have bN:=od1 bP bN
       have bu:=rd1 bP bu
       refine CK 0 m bH Z T24 f Z Z Z bR λbS a bT f=>Ci m bH bN sizeOf28 f Z Z bT λbU w m bV=>Aa ?_
       have m:=m.fr 2
       have m:=m.fr 3
       have m:Mem W bO w (ib af 26 [sn]::ib au 26 [an]::ib b0 64 [bt,(iv bm.2.2.1),(iv bm.2.2.2)]::bU::bz::H):=m.fr 4
       have m:Mem W bO w (ib af 26 [sn]::ib au 26 [an]::ib b0 64 [bt,(iv bm.2.2.1),(iv bm.2.2.2)]::bU::H):=m.eraseAt 4
       obtain rfl:=sj aZ
       exact⟨_,_,_,_,Z,_,bU,bt,(gt a8 (gt bk (gt br (gt bf (gt bw (gt bD bP)))))),f.k Z,m,bV,bu⟩
      ·intro bv w bw m bx bx
       have bu:=rd1 bw bu
       have aq:=od2 bw aq
       refine A4 (R:=R0) (xs:=([bm.1]:LI)) (RI.one _) m T28 f Z Z Z (by decide) (All2.cons Z (All2.nil _)) λbz bA w a m bB f=>Aa ?_
       refine bx bv [bz,ib b0 64 [bt,(iv bm.2.2.1),(iv bm.2.2.2)],ao] _ _ gr m ?_
       refine AU 7 Z λbe w bf m bg bg=> ?_
       have bB:=od1 bf bB
       have bu:=rd1 bf bu
       have aq:=od2 bf aq
       refine Cy 2 m aq Z B3 f Z Z bd bb λbh a bi f=>Aa ?_
       refine bg be [bz,ib b0 64 [bt,(iv bm.2.2.1),(iv bm.2.2.2)],ao] _ _ gr m ?_
       refine AU 11 Z λbC w bD m bE bE=> ?_
       have bB:=od1 bD bB
       have bu:=rd1 bD bu
       have aq:=od2 bD aq
       have m:Mem W bC w (ao::bz::ib b0 64 [bt,(iv bm.2.2.1),(iv bm.2.2.2)]::ib au 26 [an]::ib af 26 [sn]::H):=m.fr 2
       obtain⟨bF,bG,m,bH,bI⟩:=Ow2.out aq m bb bi
       refine A6 (RI.one _) 1 m bI Z T28 Z (by decide) f Z Z Z (Ow.src (j:=2) bB m Z) bK λbL bM w a m bN f=>Aa ?_
       refine bE bC [bF,bL,bz,ib b0 64 [bt,(iv bm.2.2.1),(iv bm.2.2.2)]] _ _ gr m ?_
       refine AJ λbO w bP m=> ?_
       have bH:=OwH.mono (RI.mono _) bP bH
       have bN:=od1 bP bN
       have bu:=rd1 bP bu
       refine CK 0 m bH Z T24 f Z Z Z bR λbS a bT f=>Ci m bH bN sizeOf28 f Z Z bT λbU w m bV=>Aa ?_
       have m:=m.fr 2
       have m:=m.fr 3
       have m:Mem W bO w (ib af 26 [sn]::ib au 26 [an]::ib b0 64 [bt,(iv bm.2.2.1),(iv bm.2.2.2)]::bU::bz::H):=m.fr 4
       have m:Mem W bO w (ib af 26 [sn]::ib au 26 [an]::ib b0 64 [bt,(iv bm.2.2.1),(iv bm.2.2.2)]::bU::H):=m.eraseAt 4
       obtain rfl:=sj aZ
       exact⟨_,_,_,_,Z,_,bU,bt,(gt a8 (gt bk (gt br (gt bw (gt bf (gt bD bP)))))),f.k Z,m,bV,bu⟩
    ·intro bj w bk m bl bl
     have⟨ba,bb,aZ⟩:=bind_some aZ
     have⟨bm,bn,aZ⟩:=bind_some aZ
     have⟨bJ,bK,aZ⟩:=bind_some aZ
     have⟨bQ,bR,aZ⟩:=bind_some aZ
     have aq:=od2 bk aq
     have aW:=rd1 bk aW
     have m:Mem W bj w (ib b0 64 [aV,(iv aO.2.2.1),(iv aO.2.2.2)]::ao::ib au 26 [an]::ib af 26 [sn]::H):=m.fr 1
     refine AD f Z call65 (Wk.Y m aW bn) λbo bp bq w br m bs a f=> ?_
     obtain⟨bt,rfl,rfl,bu⟩:=bs
     have aq:=od2 br aq
     refine Aa ?_
     refine bl bp [ib b0 64 [bt,(iv bm.2.2.1),(iv bm.2.2.2)],ao] _ _ br m ?_
     refine Cs (i:=6) (j:=10) (l1:= #[true,true,true,true,true,true,true,false,true,true,false,false,false,false]) (l2:= #[true,true,true,true,true,true,false,false,true,true,true,false,false,false]) Z Z (by kernel_rfl) Z Z ?_ ?_
     ·intro a7 w a8 m a9 a9
      have bu:=rd1 a8 bu
      have aq:=od2 a8 aq
      refine CW 1 m aq Z T24 f Z Z Z bb λbc a bd f=>Aa ?_
      refine a9 a7 [ib b0 64 [bt,(iv bm.2.2.1),(iv bm.2.2.2)],ao] _ _ gr m ?_
      refine Cs (i:=7) (j:=10) (l1:= #[true,true,true,true,true,true,true,true,true,true,false,false,false,false]) (l2:= #[true,true,true,true,true,true,true,false,true,true,true,false,false,false]) Z Z (by kernel_rfl) Z Z ?_ ?_
      ·intro be w bf m bg bg
       have bu:=rd1 bf bu
       have aq:=od2 bf aq
       refine Cy 1 m aq Z B3 f Z Z bd bb λbh a bi f=>Aa ?_
       refine bg be [ib b0 64 [bt,(iv bm.2.2.1),(iv bm.2.2.2)],ao] _ _ gr m ?_
       refine AU 10 Z λbv w bw m bx bx=> ?_
       have bu:=rd1 bw bu
       have aq:=od2 bw aq
       refine A4 (R:=R0) (xs:=([bm.1]:LI)) (RI.one _) m T28 f Z Z Z (by decide) (All2.cons Z (All2.nil _)) λbz bA w a m bB f=>Aa ?_
       refine bx bv [bz,ib b0 64 [bt,(iv bm.2.2.1),(iv bm.2.2.2)],ao] _ _ gr m ?_
       refine AU 11 Z λbC w bD m bE bE=> ?_
       have bB:=od1 bD bB
       have bu:=rd1 bD bu
       have aq:=od2 bD aq
       have m:Mem W bC w (ao::bz::ib b0 64 [bt,(iv bm.2.2.1),(iv bm.2.2.2)]::ib au 26 [an]::ib af 26 [sn]::H):=m.fr 2
       obtain⟨bF,bG,m,bH,bI⟩:=Ow2.out aq m bb bi
       refine A6 (RI.one _) 1 m bI Z T28 Z (by decide) f Z Z Z (Ow.src (j:=2) bB m Z) bK λbL bM w a m bN f=>Aa ?_
       refine bE bC [bF,bL,bz,ib b0 64 [bt,(iv bm.2.2.1),(iv bm.2.2.2)]] _ _ gr m ?_
       refine AJ λbO w bP m=> ?_
       have bH:=OwH.mono (RI.mono _) bP bH
       have bN:=od1 bP bN
       have bu:=rd1 bP bu
       refine CK 0 m bH Z T24 f Z Z Z bR λbS a bT f=>Ci m bH bN sizeOf28 f Z Z bT λbU w m bV=>Aa ?_
       have m:=m.fr 2
       have m:=m.fr 3
       have m:Mem W bO w (ib af 26 [sn]::ib au 26 [an]::ib b0 64 [bt,(iv bm.2.2.1),(iv bm.2.2.2)]::bU::bz::H):=m.fr 4
       have m:Mem W bO w (ib af 26 [sn]::ib au 26 [an]::ib b0 64 [bt,(iv bm.2.2.1),(iv bm.2.2.2)]::bU::H):=m.eraseAt 4
       obtain rfl:=sj aZ
       exact⟨_,_,_,_,Z,_,bU,bt,(gt bk (gt br (gt a8 (gt bf (gt bw (gt bD bP)))))),f.k Z,m,bV,bu⟩
      ·intro bv w bw m bx bx
       have bu:=rd1 bw bu
       have aq:=od2 bw aq
       refine A4 (R:=R0) (xs:=([bm.1]:LI)) (RI.one _) m T28 f Z Z Z (by decide) (All2.cons Z (All2.nil _)) λbz bA w a m bB f=>Aa ?_
       refine bx bv [bz,ib b0 64 [bt,(iv bm.2.2.1),(iv bm.2.2.2)],ao] _ _ gr m ?_
       refine AU 7 Z λbe w bf m bg bg=> ?_
       have bB:=od1 bf bB
       have bu:=rd1 bf bu
       have aq:=od2 bf aq
       refine Cy 2 m aq Z B3 f Z Z bd bb λbh a bi f=>Aa ?_
       refine bg be [bz,ib b0 64 [bt,(iv bm.2.2.1),(iv bm.2.2.2)],ao] _ _ gr m ?_
       refine AU 11 Z λbC w bD m bE bE=> ?_
       have bB:=od1 bD bB
       have bu:=rd1 bD bu
       have aq:=od2 bD aq
       have m:Mem W bC w (ao::bz::ib b0 64 [bt,(iv bm.2.2.1),(iv bm.2.2.2)]::ib au 26 [an]::ib af 26 [sn]::H):=m.fr 2
       obtain⟨bF,bG,m,bH,bI⟩:=Ow2.out aq m bb bi
       refine A6 (RI.one _) 1 m bI Z T28 Z (by decide) f Z Z Z (Ow.src (j:=2) bB m Z) bK λbL bM w a m bN f=>Aa ?_
       refine bE bC [bF,bL,bz,ib b0 64 [bt,(iv bm.2.2.1),(iv bm.2.2.2)]] _ _ gr m ?_
       refine AJ λbO w bP m=> ?_
       have bH:=OwH.mono (RI.mono _) bP bH
       have bN:=od1 bP bN
       have bu:=rd1 bP bu
       refine CK 0 m bH Z T24 f Z Z Z bR λbS a bT f=>Ci m bH bN sizeOf28 f Z Z bT λbU w m bV=>Aa ?_
       have m:=m.fr 2
       have m:=m.fr 3
       have m:Mem W bO w (ib af 26 [sn]::ib au 26 [an]::ib b0 64 [bt,(iv bm.2.2.1),(iv bm.2.2.2)]::bU::bz::H):=m.fr 4
       have m:Mem W bO w (ib af 26 [sn]::ib au 26 [an]::ib b0 64 [bt,(iv bm.2.2.1),(iv bm.2.2.2)]::bU::H):=m.eraseAt 4
       obtain rfl:=sj aZ
       exact⟨_,_,_,_,Z,_,bU,bt,(gt bk (gt br (gt a8 (gt bw (gt bf (gt bD bP)))))),f.k Z,m,bV,bu⟩
     ·intro bv w bw m bx bx
      have bu:=rd1 bw bu
      have aq:=od2 bw aq
      refine A4 (R:=R0) (xs:=([bm.1]:LI)) (RI.one _) m T28 f Z Z Z (by decide) (All2.cons Z (All2.nil _)) λbz bA w a m bB f=>Aa ?_
      refine bx bv [bz,ib b0 64 [bt,(iv bm.2.2.1),(iv bm.2.2.2)],ao] _ _ gr m ?_
      refine AU 6 Z λa7 w a8 m a9 a9=> ?_
      have bB:=od1 a8 bB
      have bu:=rd1 a8 bu
      have aq:=od2 a8 aq
      refine CW 2 m aq Z T24 f Z Z Z bb λbc a bd f=>Aa ?_
      refine a9 a7 [bz,ib b0 64 [bt,(iv bm.2.2.1),(iv bm.2.2.2)],ao] _ _ gr m ?_
      refine AU 7 Z λbe w bf m bg bg=> ?_
      have bB:=od1 bf bB
      have bu:=rd1 bf bu
      have aq:=od2 bf aq
      refine Cy 2 m aq Z B3 f Z Z bd bb λbh a bi f=>Aa ?_
      refine bg be [bz,ib b0 64 [bt,(iv bm.2.2.1),(iv bm.2.2.2)],ao] _ _ gr m ?_
      refine AU 11 Z λbC w bD m bE bE=> ?_
      have bB:=od1 bD bB
      have bu:=rd1 bD bu
      have aq:=od2 bD aq
      have m:Mem W bC w (ao::bz::ib b0 64 [bt,(iv bm.2.2.1),(iv bm.2.2.2)]::ib au 26 [an]::ib af 26 [sn]::H):=m.fr 2
      obtain⟨bF,bG,m,bH,bI⟩:=Ow2.out aq m bb bi
      refine A6 (RI.one _) 1 m bI Z T28 Z (by decide) f Z Z Z (Ow.src (j:=2) bB m Z) bK λbL bM w a m bN f=>Aa ?_
      refine bE bC [bF,bL,bz,ib b0 64 [bt,(iv bm.2.2.1),(iv bm.2.2.2)]] _ _ gr m ?_
      refine AJ λbO w bP m=> ?_
      have bH:=OwH.mono (RI.mono _) bP bH
      have bN:=od1 bP bN
      have bu:=rd1 bP bu
      refine CK 0 m bH Z T24 f Z Z Z bR λbS a bT f=>Ci m bH bN sizeOf28 f Z Z bT λbU w m bV=>Aa ?_
      have m:=m.fr 2
      have m:=m.fr 3
      have m:Mem W bO w (ib af 26 [sn]::ib au 26 [an]::ib b0 64 [bt,(iv bm.2.2.1),(iv bm.2.2.2)]::bU::bz::H):=m.fr 4
      have m:Mem W bO w (ib af 26 [sn]::ib au 26 [an]::ib b0 64 [bt,(iv bm.2.2.1),(iv bm.2.2.2)]::bU::H):=m.eraseAt 4
      obtain rfl:=sj aZ
      exact⟨_,_,_,_,Z,_,bU,bt,(gt bk (gt br (gt bw (gt a8 (gt bf (gt bD bP)))))),f.k Z,m,bV,bu⟩
   ·rintro a w ⟨a0,a1,a2,a3,rfl,a4,a5,a6,bW,f,m,bX,bY⟩
    refine Af ?_
    refine Az 1 0 (ds:=[an]) m AI f Z Z Z Z Z λa f=>An 0 0 (ds:=[an]) m sizeOf26 f Z Z Z (Ar (Ow2.one1 3 m bX Z) As) Z (lb Z) Z λw m=>Aa ?_
    refine Aq ?_
    have bZ:=Bq (P:=prog) 0 m AI f (s:=2) rfl rfl rfl
    have m:=m.fr 2
    have m:=m.fr 3
    have m:Mem W a4 w (a5::ib b0 64 [a6,(iv a2),(iv a3)]::ib af 26 [an]::H):=m.eraseAt 3
    have m:=m.eraseAt 2
    obtain rfl:=sj hd
    exact⟨[(.agg #[an])],⟨bZ,trivial⟩,f.d,_,[a5,ib b0 64 [a6,(iv a2),(iv a3)]],(gt al (gt aA (gt aK (gt aT bW)))),m,_,_,_,Z,Z,bX,bY⟩
  ·refine Aj f Z aX ?_
   refine Af ?_
   refine Ai f Z Z By λa f=>Ac f Z λa f=>Aa ?_
   rcases Ae hd with⟨b1,hd⟩|⟨b1,hd⟩
   ·refine Al f Z b1 ?_
    refine Ao ?_
    refine Bo underlying26 Z sizeOf24 f Z λa f=>AA 1 0 m Bt f Z Z Z Z λa f=>Ab f Z λa f=>Ab f Z λa f=>A4 (R:=R0) (xs:=([aF.1]:LI)) (RI.one _) m T28 f Z Z Z (by decide) (All2.cons Z (All2.nil _)) λb2 b3 w a m b4 f=> ?_
    have⟨b5,b6,hd⟩:=bind_some hd
    refine CW 3 m aq Z T24 f Z Z Z b6 λb7 a b8 f=> ?_
    have m:Mem W aR w (ao::b2::ib b0 64 [aV,(iv aO.2.2.1),(iv aO.2.2.2)]::ib au 26 [an]::ib af 26 [sn]::H):=m.fr 3
    refine EL m aq b4 sizeOf28 f Z Z b8 b6 λb9 w m ca=>AB ?_
    refine Az 2 0 (ds:=[an]) m AI f Z Z Z Z Z λa f=>An 3 0 (ds:=[an]) m sizeOf26 f Z Z Z (Ar (Ow2.one1 0 m ca Z) As) Z (lb Z) Z λw m=>Aa ?_
    refine Aq ?_
    have cb:=Bq (P:=prog) 3 m AI f (s:=2) rfl rfl rfl
    have m:=m.eraseAt 3
    have m:Mem W aR w (b9::ib b0 64 [aV,(iv aO.2.2.1),(iv aO.2.2.2)]::H):=m.eraseAt 2
    obtain rfl:=sj hd
    exact⟨[(.agg #[an])],⟨cb,trivial⟩,f.d,_,[b9,ib b0 64 [aV,(iv aO.2.2.1),(iv aO.2.2.2)]],(gt al (gt aA (gt aK aT))),m,_,_,_,Z,Z,ca,aW⟩
   ·refine Aj f Z b1 ?_
    refine Af ?_
    refine Ai f Z Z By λa f=>Ac f Z λa f=>Aa ?_
    rcases Ae hd with⟨cc,hd⟩|⟨cc,hd⟩
    ·refine Al f Z cc ?_
     refine Ao ?_
     refine Ab f Z λa f=> ?_
     have⟨cd,ce,hd⟩:=bind_some hd
     refine AD f Z call64 (Wk.c m aW ce) λcf cg ch w ci m cj a f=> ?_
     obtain⟨ck,rfl,rfl,cl⟩:=cj
     refine Ai f Z Z Ax λa f=> ?_
     have⟨cm,cn,hd⟩:=bind_some hd
     refine AD f Z call66 (Wk.F m cn) λco cp cq w cr m ct a f=> ?_
     obtain⟨cu,cv,rfl,rfl,cw⟩:=ct
     have cl:=rd1 cr cl
     refine An 2 0 (ds:=[cu]) m sizeOf26 f Z Z Z (Ar (Ow2.one1 0 m cw Z) As) Z (lb Z) Z λw m=>AB ?_
     refine Az 2 0 (ds:=[cu]) m AI f Z Z Z Z Z λa f=>An 4 0 (ds:=[cu]) m sizeOf26 f Z Z Z (Ar (Ow2.one1 0 m cw Z) As) Z (lb Z) Z λw m=>Aa ?_
     refine Aq ?_
     have cx:=Bq (P:=prog) 4 m AI f (s:=2) rfl rfl rfl
     have m:=m.fr 3
     have m:=m.fr 2
     have m:Mem W cp w (cv::ib b0 64 [ck,(iv cd.2.2.1),(iv cd.2.2.2)]::ao::ib au 26 [cu]::ib af 26 [cu]::H):=m.fr 2
     have m:=m.eraseAt 4
     have m:=m.eraseAt 3
     have m:Mem W cp w (cv::ib b0 64 [ck,(iv cd.2.2.1),(iv cd.2.2.2)]::H):=m.eraseAt 2
     obtain rfl:=sj hd
     exact⟨[(.agg #[cu])],⟨cx,trivial⟩,f.d,_,[cv,ib b0 64 [ck,(iv cd.2.2.1),(iv cd.2.2.2)]],(gt al (gt aA (gt aK (gt aT (gt ci cr))))),m,_,_,_,Z,Z,cw,cl⟩
    ·refine Aj f Z cc ?_
     refine Af ?_
     refine Ai f Z Z By λa f=>Ac f Z λa f=>Aa ?_
     rcases Ae hd with⟨cy,hd⟩|⟨cy,hd⟩
     ·refine Al f Z cy ?_
      refine Ao ?_
      have cz:∀w,(Instr.build 26 #[]).run prog w= .ok (.agg #[sn]) w:=by intro w;simp[Instr.build,Instr.fill,Cm,Cw,B6,Cf,BT,Cp]
      refine CG f Z Z cz λa f=>An 1 0 (ds:=[sn]) m sizeOf26 f Z Z Z (Ar Z As) Z (lb Z) Z λw m=>AB ?_
      refine Az 1 0 (ds:=[sn]) m AI f Z Z Z Z Z λa f=>An 3 0 (ds:=[sn]) m sizeOf26 f Z Z Z (Ar Z As) Z (lb Z) Z λw m=>Aa ?_
      refine Aq ?_
      obtain⟨cA,m,cB⟩:=Ow2.nil R0 28 2 m
      have cC:=Bq (P:=prog) 4 m AI f (s:=2) rfl rfl rfl
      have m:=m.eraseAt 4
      have m:=m.eraseAt 3
      have m:Mem W aR w (cA::ib b0 64 [aV,(iv aO.2.2.1),(iv aO.2.2.2)]::H):=m.eraseAt 2
      obtain rfl:=sj hd
      exact⟨[(.agg #[sn])],⟨cC,trivial⟩,f.d,_,[cA,ib b0 64 [aV,(iv aO.2.2.1),(iv aO.2.2.2)]],(gt al (gt aA (gt aK aT))),m,_,_,_,Z,Z,cB,aW⟩
     ·refine Aj f Z cy ?_
      refine Af ?_
      refine Ai f Z Z By λa f=>Ac f Z λa f=>Aa ?_
      rcases Ae hd with⟨cD,hd⟩|⟨cD,hd⟩
      ·refine Al f Z cD ?_
       refine Ao ?_
       refine Bo underlying26 Z sizeOf24 f Z λa f=>AA 1 0 m Bt f Z Z Z Z λa f=>Ab f Z λa f=>A4 (R:=R0) (xs:=([]:LI)) (RI.one _) m T28 f Z Z Z (by decide) (All2.nil _) λcE cF w a m cG f=> ?_
       have⟨cH,cI,hd⟩:=bind_some hd
       refine CW 3 m aq Z T24 f Z Z Z cI λcJ a cK f=> ?_
       have m:Mem W aR w (ao::cE::ib b0 64 [aV,(iv aO.2.2.1),(iv aO.2.2.2)]::ib au 26 [an]::ib af 26 [sn]::H):=m.fr 3
       refine EL m aq cG sizeOf28 f Z Z cK cI λcL w m cM=>AB ?_
       refine Az 2 0 (ds:=[an]) m AI f Z Z Z Z Z λa f=>An 3 0 (ds:=[an]) m sizeOf26 f Z Z Z (Ar (Ow2.one1 0 m cM Z) As) Z (lb Z) Z λw m=>Aa ?_
       refine Aq ?_
       have cN:=Bq (P:=prog) 3 m AI f (s:=2) rfl rfl rfl
       have m:=m.eraseAt 3
       have m:Mem W aR w (cL::ib b0 64 [aV,(iv aO.2.2.1),(iv aO.2.2.2)]::H):=m.eraseAt 2
       obtain rfl:=sj hd
       exact⟨[(.agg #[an])],⟨cN,trivial⟩,f.d,_,[cL,ib b0 64 [aV,(iv aO.2.2.1),(iv aO.2.2.2)]],(gt al (gt aA (gt aK aT))),m,_,_,_,Z,Z,cM,aW⟩
      ·refine Aj f Z cD ?_
       refine Ap ?_
       refine Af ?_
       refine Az 1 0 (ds:=[an]) m AI f Z Z Z Z Z λa f=>An 3 0 (ds:=[an]) m sizeOf26 f Z Z Z (Ar (Ow2.one1 2 m aq Z) As) Z (lb Z) Z λw m=>Aa ?_
       refine Aq ?_
       have cO:=Bq (P:=prog) 3 m AI f (s:=2) rfl rfl rfl
       have m:=m.fr 2
       have m:=m.eraseAt 3
       have m:Mem W aR w (ao::ib b0 64 [aV,(iv aO.2.2.1),(iv aO.2.2.2)]::H):=m.eraseAt 2
       obtain rfl:=sj hd
       exact⟨[(.agg #[an])],⟨cO,trivial⟩,f.d,_,[ao,ib b0 64 [aV,(iv aO.2.2.1),(iv aO.2.2.2)]],(gt al (gt aA (gt aK aT))),m,_,_,_,Z,Z,aq,aW⟩
 ·refine Aj f Z aE ?_
  refine Ap ?_
  refine Af ?_
  refine Az 1 0 (ds:=[an]) m AI f Z Z Z Z Z λa f=>An 3 0 (ds:=[an]) m sizeOf26 f Z Z Z (Ar (Ow2.one1 2 m aq Z) As) Z (lb Z) Z λw m=>Aa ?_
  refine Aq ?_
  have cP:=Bq (P:=prog) 3 m AI f (s:=2) rfl rfl rfl
  have m:=m.fr 2
  have m:=m.eraseAt 3
  have m:=m.eraseAt 2
  obtain rfl:=sj hd
  exact⟨[(.agg #[an])],⟨cP,trivial⟩,f.d,_,[ao,ib b0 64 [aC,(iv av.2.2.1),(iv av.2.2.2)]],(gt al aA),m,_,_,_,Z,Z,aq,aD⟩
theorem Wk.N0 {x0:Int}(m:Mem W G w (H)){y:(LI)}(hd:D.N0 x0=some y):
  Calls prog 67 #[(iv x0)] w (Res W G H (λG' Ho v=>∃r0:Value,∃i0:Itm,Ho=[i0]∧r0=v∧Ow R0 2 G' i0 r0 y)):=by
 refine Au (args:=[(iv x0)]) (N:=16) [.tmp 2] func67 Z Z (lb Z) Z λa f=> ?_
 unfold D.N0 at hd
 refine Af ?_
 refine Ac f Z λa f=>AB ?_
 refine A4 (R:=R0) (xs:=([]:LI)) (RI.one _) m T28 f Z Z Z (by decide) (All2.nil _) λaa ab w a m ac f=>Ac f Z λa f=>Aa (Ag (Af ?_))
 refine Ac f Z λa f=>Aa ?_
 have⟨ad,ae,hd⟩:=bind_some hd
 refine AM (λa w=>∃af:LI,af=ad∧∃(ag:GH) (ah:Value) (ai:Itm),GLe G ag∧Fr a 16 [(3,ah)]∧Mem W ag w (ai::H)∧Ow R0 2 ag ai ah af) ?_ ?_
 ·refine Ak ?_
  refine AL (λaj a w=>∃ak:LI,∃al:Int,(ak,al)=aj∧∃(am:GH) (an:Value) (ao:Itm),GLe G am∧Fr a 16 [(0,(iv x0)),(3,an),(4,(iv al))]∧Mem W am w (ao::H)∧Ow R0 2 am ao an ak) ae ⟨_,_,Z,_,ab,aa,gr,f.k Z,m,ac⟩ ?_
  clear ae f m
  rintro aj ap aq ar a w ⟨ak,al,rfl,am,an,ao,au,f,m,av⟩
  refine Ag (Af ?_)
  refine Ab f Z λa f=>Ab f Z λa f=>Ai f Z Z AR λa f=>Aa ?_
  rcases Ae aq with⟨aw,aq⟩|⟨aw,aq⟩
  ·refine Al f Z aw ?_
   refine Ap ?_
   refine Ag (Ak (Ao ?_))
   refine Ab f Z λa f=>Ab f Z λa f=>A4 (R:=R0) (xs:=([al]:LI)) (RI.one _) m T28 f Z Z Z (by decide) (All2.cons Z (All2.nil _)) λax ay w a m az f=> ?_
   have⟨aA,aB,aq⟩:=bind_some aq
   refine A6 (RI.one _) 1 m av Z T28 Z (by decide) f Z Z Z (Ow.src (j:=0) az m Z) aB λaC aD w a m aE f=>Ac f Z λa f=>Aa (Ao ?_)
   refine Ab f Z λa f=>Ai f Z Z Ax λa f=>Ac f Z λa f=>Aa ?_
   have m:=m.fr 1
   have m:=m.eraseAt 1
   obtain rfl:=sj aq
   exact⟨_,Z,_,_,Z,_,aD,aC,au,f.k Z,m,aE⟩
  ·refine Aj f Z aw ?_
   refine AH Z ?_
   obtain rfl:=sj aq
   obtain rfl:=ar _ rfl
   exact⟨_,Z,_,an,ao,au,f.k Z,m,av⟩
 ·rintro a w ⟨af,rfl,ag,ah,ai,aF,f,m,aG⟩
  refine Af ?_
  refine Ab f Z λa f=>Ac f Z λa f=>Aa ?_
  refine Aq ?_
  obtain rfl:=sj hd
  exact⟨[ah],f.g Z,f.d,_,[ai],aF,m,_,_,Z,Z,aG⟩
theorem Wk.v0 {aa:Value}{b0:Nat}{ab:LI}{ac ad x1 x2:Int}(m:Mem W G w (ib b0 64 [aa,(iv ac),(iv ad)]::H))(ae:RSl (RI .u8) G aa ab){y:Int×(LI)×Int×Int}(hd:D.v0 ab ac ad x1 x2=some y):
  Calls prog 69 #[(pb b0),(iv x1),(iv x2)] w (Res W G H (λG' Ho v=>∃r0:Value,Ho=[ib b0 64 [r0,(iv y.2.2.1),(iv y.2.2.2)]]∧v=(iv y.1)∧RSl (RI .u8) G' r0 y.2.1)):=by
 refine Au (args:=[(pb b0),(iv x1),(iv x2)]) (N:=15) [.tmp 6] func69 Z Z (lb Z) Z λa f=> ?_
 unfold D.v0 at hd
 refine Af ?_
 refine Ac f Z λa f=>AB ?_
 refine Ab f Z λa f=>Ab f Z λa f=>Ab f Z λa f=>Ab f Z λa f=>Ai f Z Z AS λa f=>Ai f Z Z Ax λa f=> ?_
 have⟨af,ag,hd⟩:=bind_some hd
 refine AD f Z call64 (Wk.c m ae ag) λah ai aj w ak m al a f=> ?_
 obtain⟨am,rfl,rfl,an⟩:=al
 refine Ai f Z Z Ax λa f=>Ac f Z λa f=>Aa ?_
 refine Aq ?_
 obtain rfl:=sj hd
 exact⟨[(iv (i64.wrap (x1+af.1)))],f.g Z,f.d,_,[ib b0 64 [am,(iv af.2.2.1),(iv af.2.2.2)]],ak,m,_,Z,Z,an⟩
theorem Wk.Q {aa:Value}{b0:Nat}{ab:Value}{ac:LI}{ad ae:Int}{af:LL}(m:Mem W G w (ib b0 64 [aa,(iv ad),(iv ae)]::H))(ag:RSl (RI .u8) G aa ac)(ah:R2 G ab af){y:(LI)×(LI)×Int×Int}(hd:D.Q ac ad ae af=some y):
  Calls prog 47 #[(pb b0),(.agg #[ab])] w (Res W G H (λG' Ho v=>∃r0:Value,∃i0:Itm,∃r2:Value,Ho=[i0,ib b0 64 [r2,(iv y.2.2.1),(iv y.2.2.2)]]∧r0=v∧Ow R0 2 G' i0 r0 y.1∧RSl (RI .u8) G' r2 y.2.1)):=by
 refine Au (args:=[(pb b0),(.agg #[ab])]) (N:=52) [.tmp 4] func47 Z Z (lb Z) Z λa f=> ?_
 unfold D.Q at hd
 refine Af ?_
 refine Bj (cs:=[ab]) m f Z Z Z λai w a m f=>Ac f Z λa f=>AB ?_
 refine Bo underlying26 Z sizeOf24 f Z λa f=>AA 0 0 m Bt f Z Z Z Z λa f=>A8 underlying24 f Z Z ah λa f=> ?_
 have⟨aj,ak,hd⟩:=bind_some hd
 refine AD f Z call67 (Wk.N0 m ak) λal am an w ao m ap a f=> ?_
 obtain⟨aq,ar,rfl,rfl,au⟩:=ap
 have ag:=rd1 ao ag
 refine Ac f Z λa f=>AB ?_
 refine A4 (R:=R0) (xs:=([]:LI)) (RI.one _) m T28 f Z Z Z (by decide) (All2.nil _) λav aw w a m ax f=>Ac f Z λa f=>Aa (Ag ?_)
 have⟨ay,az,hd⟩:=bind_some hd
 refine AM (λa w=>∃aA:LI,∃aB:LI,∃aC:Int,∃aD:Int,(aA,aB,aC,aD)=ay∧∃(aE:GH) (aF:Value) (aG:Itm) (aH:Value),GLe am aE∧Fr a 52 [(0,(pb b0)),(6,aF)]∧Mem W aE w (ib b0 64 [aH,(iv aC),(iv aD)]::aG::H)∧Ow R0 2 aE aG aF aA∧RSl (RI .u8) aE aH aB) ?_ ?_
 ·refine Ak ?_
  have m:=m.fr 1
  have m:=m.fr 3
  have m:=m.eraseAt 3
  refine AL (λaI a w=>∃aJ:LI,∃aK:LI,∃aL:LI,∃aM:Int,∃aN:Int,(aJ,aK,aL,aM,aN)=aI∧∃(aO:GH) (aP:Value) (aQ:Itm) (aR:Value) (aS:Itm) (aT:Value),GLe am aO∧Fr a 52 [(0,(pb b0)),(5,aP),(6,aR)]∧Mem W aO w (ib b0 64 [aT,(iv aM),(iv aN)]::aQ::aS::H)∧Ow R0 2 aO aQ aP aJ∧Ow R0 2 aO aS aR aK∧RSl (RI .u8) aO aT aL) az ⟨_,_,_,_,_,Z,_,aq,ar,aw,av,aa,gr,f.k Z,m,au,ax,ag⟩ ?_
  clear az f m
  rintro aI aU aV aW a w ⟨aJ,aK,aL,aM,aN,rfl,aO,aP,aQ,aR,aS,aT,aX,f,m,aY,aZ,a0⟩
  refine Ag (Af ?_)
  refine Ab f Z λa f=>Bv 1 m aY Z underlying28 f Z Z λa f=>Ai f Z Z Ce λa f=>Aa ?_
  rcases Ae aV with⟨a1,aV⟩|⟨a1,aV⟩
  ·refine Al f Z a1 ?_
   refine Ap ?_
   refine Ak (Af ?_)
   refine Ab f Z λa f=>Ab f Z λa f=>Bv 1 m aY Z underlying28 f Z Z λa f=> ?_
   have⟨a2,a3,aV⟩:=bind_some aV
   refine AD f Z call64 (Wk.c m a0 a3) λa4 a5 a6 w a7 m a8 a f=> ?_
   obtain⟨a9,rfl,rfl,ba⟩:=a8
   have aY:=od1 a7 aY
   have aZ:=od1 a7 aZ
   refine Ac f Z λa f=>AB ?_
   refine Ab f Z λa f=>Ab f Z λa f=>Ab f Z λa f=> ?_
   have⟨bb,bc,aV⟩:=bind_some aV
   refine A5 1 m aY Z T28 f Z Z Z bc λbd a be f=>BB 1 m aY Z Pl2 f Z Z be bc λbf a bg f=> ?_
   subst bg
   refine A4 (R:=R0) (xs:=([bb]:LI)) (RI.one _) m T28 f Z Z Z (by decide) (All2.cons Z (All2.nil _)) λbh bi w a m bj f=> ?_
   have⟨bk,bl,aV⟩:=bind_some aV
   refine A6 (RI.one _) 3 m aZ Z T28 Z (by decide) f Z Z Z (Ow.src (j:=0) bj m Z) bl λbm bn w a m bo f=>Ac f Z λa f=>Aa ?_
   have m:Mem W a5 w (aQ::bh::ib b0 64 [a9,(iv a2.2.2.1),(iv a2.2.2.2)]::bm::H):=m.fr 2
   obtain⟨bp,bq,m,br⟩:=Ow.stamp (RI.mono _) aY m
   have ba:=rd1 bq ba
   have bo:=od1 bq bo
   refine A2 8 AG (by kernel_rfl) m ?_
   refine Ah 0 8 Z f Z λa f=>Ah 1 8 Z f Z λa f=> ?_
   have⟨bs,bt,aV⟩:=bind_some aV
   refine ET (i:=2) 8 T28 br bt Z (by kernel_rfl) Z f Z Z Z (.inl ⟨Z,Z⟩) (.inr ⟨_,_,Z,Z⟩) λbu a bv f=>Ah 4 8 Z f Z λa f=>Ah 5 8 Z f Z λa f=>q_p 6 8 Z f (λ_=>AF (f.e Z) (f.e Z) Ax) λa f=> ?_
   have⟨bw,bx,aV⟩:=bind_some aV
   refine ET (i:=7) 8 T28 br bx Z (by kernel_rfl) Z f Z Z Z (.inr ⟨_,_,Z,Z⟩) (.inl ⟨Z,Z⟩) λbz a bA f=>AU 3 Z λbB w bC m bD bD=> ?_
   have bv:=rd1 bC bv
   have bA:=rd1 bC bA
   have ba:=rd1 bC ba
   have bo:=od1 bC bo
   have⟨bE,bF,aV⟩:=bind_some aV
   refine AD f Z call68 (Wk.g m bv bF) λbG bH bI w bJ m bK a f=> ?_
   obtain⟨bL,bM,rfl,rfl,bN⟩:=bK
   have bA:=rd1 bJ bA
   have ba:=rd1 bJ ba
   have bo:=od1 bJ bo
   refine Aa ?_
   refine bD bH [bM] _ _ bJ m ?_
   refine AJ λbO w bP m=> ?_
   have bA:=rd1 bP bA
   have bN:=od1 bP bN
   have ba:=rd1 bP ba
   have bo:=od1 bP bo
   have⟨bQ,bR,aV⟩:=bind_some aV
   refine A6 (RI.one _) 0 m bN Z T28 Z (by decide) f Z Z Z (bA.src m) bR λbS bT w a m bU f=>Ac f Z λa f=>Aa ?_
   have m:=m.fr 3
   have m:=m.fr 1
   have m:Mem W bO w (ib b0 64 [a9,(iv a2.2.2.1),(iv a2.2.2.2)]::bS::bm::bh::H):=m.fr 3
   have m:Mem W bO w (ib b0 64 [a9,(iv a2.2.2.1),(iv a2.2.2.2)]::bS::bm::H):=m.eraseAt 3
   obtain rfl:=sj aV
   exact⟨_,Z,_,_,_,_,_,Z,_,bT,bS,bn,bm,a9,(gt aX (gt a7 (gt bq (gt bC (gt bJ bP))))),f.k Z,m,bU,bo,ba⟩
  ·refine Aj f Z a1 ?_
   refine AH Z ?_
   have m:=m.fr 2
   have m:=m.fr 1
   have m:=m.eraseAt 2
   obtain rfl:=sj aV
   obtain rfl:=aW _ rfl
   exact⟨_,_,_,_,Z,_,aR,aS,aT,aX,f.k Z,m,aZ,a0⟩
 ·rintro a w ⟨aA,aB,aC,aD,rfl,aE,aF,aG,aH,bV,f,m,bW,bX⟩
  refine Ag (Af ?_)
  refine Ab f Z λa f=> ?_
  have⟨bY,bZ,hd⟩:=bind_some hd
  refine AD f Z call45 (Wk.o m bX bZ) λb1 b2 b3 w b4 m b5 a f=> ?_
  obtain⟨b6,rfl,rfl,b7⟩:=b5
  have bW:=od1 b4 bW
  refine Ab f Z λa f=> ?_
  refine Bz 4 (λa w=>∃b8,GLe b2 b8∧Mem W b8 w (ib b0 64 [b6,(iv bY.2.2.1),(iv bY.2.2.2)]::aG::H)∧Fr a 52 [(0,(pb b0)),(6,aF),(36,(pb b0)),(37,(.bool bY.1)),(38,(.bool bY.1)),(42,(.bool (bY.1&&(decide ((0:Int)<(aA.length:Int))))))]) ?_ ?_
  ·rcases Bool.eq_false_or_eq_true bY.1 with b9|b9
   ·refine AC f b9 ?_
    refine Ab f Z λa f=>AC f b9 ?_
    refine Bv 1 m bW Z underlying28 f Z Z λa f=>AC f b9 ?_
    refine Ai f Z Z Ce λa f=>l_o f (AK (f.e Z) b9 (f.e Z)) λa f=> ?_
    exact⟨_,gr,m,f.weak ⟨Z,Z,Z,Z,Z,by rw[b9];rfl,trivial⟩⟩
   ·refine AE f b9 λa f=> ?_
    refine AE f b9 λa f=>AE f b9 λa f=>l_o f (AP (f.e Z) b9 (f.e Z)) λa f=> ?_
    exact⟨_,gr,m,f.weak ⟨Z,Z,Z,Z,Z,by rw[b9];rfl,trivial⟩⟩
  ·rintro a w ⟨b8,ca,m,f⟩
   have b7:=rd1 ca b7
   have bW:=od1 ca bW
   refine Aa ?_
   rcases Ae hd with⟨cb,hd⟩|⟨cb,hd⟩
   ·refine Al f Z cb ?_
    refine Ao ?_
    refine Ab f Z λa f=>Ab f Z λa f=>Ab f Z λa f=>Bv 1 m bW Z underlying28 f Z Z λa f=> ?_
    have⟨cc,cd,hd⟩:=bind_some hd
    refine AD f Z call64 (Wk.c m b7 cd) λce cf cg w ch m ci a f=> ?_
    obtain⟨cj,rfl,rfl,ck⟩:=ci
    have bW:=od1 ch bW
    refine Ab f Z λa f=> ?_
    have⟨cl,cm,hd⟩:=bind_some hd
    refine AD f Z call69 (Wk.v0 m ck cm) λcn co cp w cq m cr a f=> ?_
    obtain⟨ct,rfl,rfl,cu⟩:=cr
    have bW:=od1 cq bW
    have⟨cv,cw,hd⟩:=bind_some hd
    refine A5 1 m bW Z T28 f Z Z Z cw λcx a cy f=>AO 1 m bW Z sizeOf2 f Z Z cy cw Z Z Z λcz w m cA=>AB ?_
    refine Ab f Z λa f=>Ac f Z λa f=>Aa ?_
    refine Aq ?_
    have m:Mem W co w (cz::ib b0 64 [ct,(iv cl.2.2.1),(iv cl.2.2.2)]::H):=m.fr 1
    obtain rfl:=sj hd
    exact⟨[aF],f.g Z,f.d,_,[cz,ib b0 64 [ct,(iv cl.2.2.1),(iv cl.2.2.2)]],(gt ao (gt bV (gt b4 (gt ca (gt ch cq))))),m,_,_,_,Z,Z,cA,cu⟩
   ·refine Aj f Z cb ?_
    refine Ap ?_
    refine Af ?_
    refine Ab f Z λa f=>Ac f Z λa f=>Aa ?_
    refine Aq ?_
    have m:Mem W b8 w (aG::ib b0 64 [b6,(iv bY.2.2.1),(iv bY.2.2.2)]::H):=m.fr 1
    obtain rfl:=sj hd
    exact⟨[aF],f.g Z,f.d,_,[aG,ib b0 64 [b6,(iv bY.2.2.1),(iv bY.2.2.2)]],(gt ao (gt bV (gt b4 ca))),m,_,_,_,Z,Z,bW,b7⟩
end Go.Proofs.YtehkdflfnampdaaGreatDoor

set_option maxRecDepth 100000
namespace Go.Proofs.YtehkdflfnampdaaGreatDoor
open Go Go.Sx
open Go.Proofs.Tryz Go.Proofs.YtehkdflfnampdaaGreatDoor.Tryz IntKind
variable {W w : World} {G : GH} {H : List Itm}
theorem Pl4 :BS prog 4:=isAgg4
theorem T71 :SlT prog 71 4 1 1 (.bool false):=⟨underlying71,Tryz.t4,by kernel_rfl,by kernel_rfl,by kernel_rfl,by kernel_rfl⟩
theorem T41 :SlT prog 41 44 1 4 (.int .u32 0):=⟨underlying41,Tryz.t44,by kernel_rfl,by kernel_rfl,by kernel_rfl,by kernel_rfl⟩
theorem Wk.b {aa:Value}{ab:LL}(m:Mem W G w (H))(ac:R2 G aa ab){y:Int}(hd:D.b ab=some y):
  Calls prog 31 #[(.agg #[aa])] w (Res W G H (λ_ Ho v=>Ho=[]∧v=(iv y))):=by
 refine Au (args:=[(.agg #[aa])]) (N:=6) [.tmp 2] func31 Z Z (lb Z) Z λa f=> ?_
 unfold D.b at hd
 refine Af ?_
 refine Bj (cs:=[aa]) m f Z Z Z λad w a m f=>Ac f Z λa f=>AB ?_
 refine Bo underlying26 Z sizeOf24 f Z λa f=>AA 0 0 m Bt f Z Z Z Z λa f=>A8 underlying24 f Z Z ac λa f=>Ac f Z λa f=>Aa ?_
 refine Aq ?_
 have m:Mem W G w H:=Mem.drop (H':=[ib ad 26 [aa]]) m
 obtain rfl:=sj hd
 exact⟨[(iv (ab.length:Int))],f.g Z,f.d,_,[],gr,m,Z,Z⟩
theorem Wk.W0 {v0:Value}{x0:LI}{x1:Int}(m:Mem W G w (H))(h0:R1 G v0 x0){y:Bool}(hd:D.W0 x0 x1=some y):
  Calls prog 33 #[v0,(iv x1)] w (Res W G H (λ_ Ho v=>Ho=[]∧v=(.bool y))):=by
 refine Au (args:=[v0,(iv x1)]) (N:=40) [.tmp 4] func33 Z Z (lb Z) Z λa f=> ?_
 unfold D.W0 at hd
 refine Af ?_
 refine Ac f Z λa f=>Aa (Ag (Af ?_))
 refine Ab f Z λa f=>A8 underlying28 f Z Z h0 λa f=>Ab f Z λa f=>Ai f Z Z Ce λa f=>Aa ?_
 rcases Ae hd with⟨aa,hd⟩|⟨aa,hd⟩
 ·refine Al f Z aa ?_
  refine Af ?_
  refine Ac f Z λa f=>Aa ?_
  refine Aq ?_
  obtain rfl:=sj hd
  exact⟨[(.bool false)],f.g Z,f.d,_,[],gr,m,Z,Z⟩
 ·refine Aj f Z aa ?_
  refine Ap ?_
  refine Ag (Af ?_)
  refine Ac f Z λa f=>Aa ?_
  have⟨ab,ac,hd⟩:=bind_some hd
  refine AM (λa w=>∃q_150':Unit,ab= .inl q_150'∧∃(ad:GH),GLe G ad∧Fr a 40 []∧Mem W ad w (H)) ?_ ?_
  ·refine Ak ?_
   refine AL (λae a w=>∃af:Int,af=ae∧∃(ag:GH),GLe G ag∧Fr a 40 [(0,v0),(1,(iv x1)),(5,(iv af))]∧Mem W ag w (H)) ac ⟨_,Z,_,gr,f.k Z,m⟩ ?_
   clear ac f m
   rintro ae ah ai aj a w ⟨af,rfl,ag,ak,f,m⟩
   have h0:=rd1 ak h0
   refine Ag (Af ?_)
   refine Ab f Z λa f=>Ab f Z λa f=>A8 underlying28 f Z Z h0 λa f=>Ai f Z Z AR λa f=>Aa ?_
   rcases Ae ai with⟨al,ai⟩|⟨al,ai⟩
   ·refine Al f Z al ?_
    refine Ap ?_
    refine Ag (Ak (Ag ?_))
    refine A2 24 AG (by kernel_rfl) m ?_
    refine Ah 0 24 Z f Z λa f=>Ah 1 24 Z f Z λa f=> ?_
    have⟨am,an,ai⟩:=bind_some ai
    refine BF 2 24 T28 h0 an Z f Z Z λao ap a aq ar f=> ?_
    subst ar
    refine BG 3 24 Pl2 aq Z f Z λa f=>Ah 4 24 Z f Z λa f=>q_p 5 24 Z f (λ_=>AF (f.e Z) (f.e Z) AS) λa f=> ?_
    have⟨au,av,ai⟩:=bind_some ai
    refine AW (i:=6) 24 Z (by kernel_rfl) Z f Z Z Z call32 (λ_ _ w aw m=>Wk.e m av) λa f=>q_p 7 24 Z f (λ_=>Bh (f.e Z)) λa f=>Ah 8 24 Z f Z λa f=> ?_
    have⟨ax,ay,ai⟩:=bind_some ai
    refine BU (fuel':=0) (listed':= #[true,true,true,true,true,true,true,true,true,true,true,true,true,true,true,true,true,true,true,true,true,true,true,true]) (λa=>Fr a 40 [(0,v0),(1,(iv x1)),(5,(iv af)),(13,(.bool (decide (af<(x0.length:Int))))),(16,v0),(17,(iv af)),(18,ao),(19,(iv am)),(20,(iv x1)),(21,(iv (i64.wrap (x1-1)))),(22,(.bool au)),(23,(.bool (!au))),(24,(.bool (!au))),(39,(.bool ax))]) ?_ ?_
    ·intro a f
     refine AJ λaz w aA m=>Aa ?_
     rcases Ae ai with⟨aB,ai⟩|⟨aB,ai⟩
     ·refine Al f Z aB ?_
      refine Af ?_
      refine Ac f Z λa f=>Aa ?_
      refine Aq ?_
      obtain rfl:=sj ai
      obtain rfl:=aj _ rfl
      obtain rfl:=sj hd
      exact⟨[(.bool false)],f.g Z,f.d,_,[],(gt ak aA),m,Z,Z⟩
     ·refine Aj f Z aB ?_
      refine Ap ?_
      refine Ao ?_
      refine Ab f Z λa f=>Ai f Z Z Ax λa f=>Ac f Z λa f=>Aa ?_
      obtain rfl:=sj ai
      exact⟨_,Z,_,Z,_,(gt ak aA),f.k Z,m⟩
    ·intro aC
     rcases Ae ay with⟨aD,ay⟩|⟨aD,ay⟩
     ·refine Am 9 24 Z f aD λa f=> ?_
      refine Am 10 24 Z f aD λa f=>Am 11 24 Z f aD λa f=>Bw 12 24 Z f λa f=>Bw 13 24 Z f λa f=>Bw 14 24 Z f λa f=>Bw 15 24 Z f λa f=>Bw 16 24 Z f λa f=>Bw 17 24 Z f λa f=>Bw 18 24 Z f λa f=>Bw 19 24 Z f λa f=>Bw 20 24 Z f λa f=>Bw 21 24 Z f λa f=>Am 22 24 Z f aD λa f=>q_p 23 24 Z f (λ_=>AK (f.e Z) aD (f.e Z)) λa f=> ?_
      obtain rfl:=sj ay
      exact aC _ (f.k Z)
     ·refine Ah (hw:=wo f aD) 9 24 Z f Z λa f=> ?_
      refine q_p (hw:=wo f aD) 10 24 Z f (λ_=>AF (f.e Z) (f.e Z) Ce) λa f=>Ah (hw:=wo f aD) 11 24 Z f Z λa f=> ?_
      have⟨aE,aF,ay⟩:=bind_some ay
      refine BU (fuel':=1) (listed':= #[true,true,true,true,true,true,true,true,true,true,true,true,true,true,true,true,true,true,true,true,true,true,true,false]) (λa=>Fr a 40 [(0,v0),(1,(iv x1)),(5,(iv af)),(13,(.bool (decide (af<(x0.length:Int))))),(16,v0),(17,(iv af)),(18,ao),(19,(iv am)),(20,(iv x1)),(21,(iv (i64.wrap (x1-1)))),(22,(.bool au)),(23,(.bool (!au))),(24,(.bool (!au))),(25,(iv af)),(26,(.bool (decide ((0:Int)<af)))),(27,(.bool (decide ((0:Int)<af)))),(38,(.bool aE))]) ?_ ?_
      ·intro a f
       refine q_p 23 24 Z f (λ_=>AP (f.e Z) aD (f.e Z)) λa f=> ?_
       obtain rfl:=sj ay
       exact aC _ (f.k Z)
      ·intro aG
       rcases Ae aF with⟨aH,aF⟩|⟨aH,aF⟩
       ·refine Ah (hw:=wo f aH) 12 24 Z f Z λa f=> ?_
        refine Ah (hw:=wo f aH) 13 24 Z f Z λa f=> ?_
        have⟨aI,aJ,aF⟩:=bind_some aF
        refine BF (hw:=wo f aH) 14 24 T28 h0 aJ Z f Z Z λaK aL a aM aN f=> ?_
        subst aN
        refine BG (hw:=wo f aH) 15 24 Pl2 aM Z f Z λa f=>Ah (hw:=wo f aH) 16 24 Z f Z λa f=>Ah (hw:=wo f aH) 17 24 Z f Z λa f=>q_p (hw:=wo f aH) 18 24 Z f (λ_=>AF (f.e Z) (f.e Z) AS) λa f=> ?_
        have⟨aO,aP,aF⟩:=bind_some aF
        refine BF (hw:=wo f aH) 19 24 T28 h0 aP Z f Z Z λaQ aR a aS aT f=> ?_
        subst aT
        refine BG (hw:=wo f aH) 20 24 Pl2 aS Z f Z λa f=>q_p (hw:=wo f aH) 21 24 Z f (λ_=>AF (f.e Z) (f.e Z) CN) λa f=>q_p (hw:=wo f aD) 22 24 Z f (λ_=>AK (f.e Z) aH (f.e Z)) λa f=> ?_
        obtain rfl:=sj aF
        exact aG _ (f.k Z)
       ·refine Am 12 24 Z f aH λa f=> ?_
        refine Am 13 24 Z f aH λa f=>Am 14 24 Z f aH λa f=>Am 15 24 Z f aH λa f=>Am 16 24 Z f aH λa f=>Am 17 24 Z f aH λa f=>Am 18 24 Z f aH λa f=>Am 19 24 Z f aH λa f=>Am 20 24 Z f aH λa f=>Am 21 24 Z f aH λa f=>q_p (hw:=wo f aD) 22 24 Z f (λ_=>AP (f.e Z) aH (f.e Z)) λa f=> ?_
        obtain rfl:=sj aF
        exact aG _ (f.k Z)
   ·refine Aj f Z al ?_
    refine AH Z ?_
    obtain rfl:=sj ai
    obtain rfl:=aj _ rfl
    exact⟨_,Z,_,ak,f.weak trivial,m⟩
  ·rintro a w ⟨_,rfl,ad,aU,f,m⟩
   refine Af ?_
   refine Ac f Z λa f=>Aa ?_
   refine Aq ?_
   obtain rfl:=sj hd
   exact⟨[(.bool true)],f.g Z,f.d,_,[],aU,m,Z,Z⟩
theorem Wk.q {v0:Value}{x0:LI}{x1:Int}(m:Mem W G w (H))(h0:R1 G v0 x0){y:Bool}(hd:D.q x0 x1=some y):
  Calls prog 34 #[v0,(iv x1)] w (Res W G H (λ_ Ho v=>Ho=[]∧v=(.bool y))):=by
 refine Au (args:=[v0,(iv x1)]) (N:=18) [.tmp 4] func34 Z Z (lb Z) Z λa f=> ?_
 unfold D.q at hd
 refine Af ?_
 refine Ac f Z λa f=>Aa (Ag (Af ?_))
 refine Ac f Z λa f=>Aa ?_
 have⟨aa,ab,hd⟩:=bind_some hd
 refine AM (λa w=>∃q_19':Unit,aa= .inl q_19'∧∃(ac:GH),GLe G ac∧Fr a 18 []∧Mem W ac w (H)) ?_ ?_
 ·refine Ak ?_
  refine AL (λad a w=>∃ae:Int,ae=ad∧∃(af:GH),GLe G af∧Fr a 18 [(0,v0),(1,(iv x1)),(5,(iv ae))]∧Mem W af w (H)) ab ⟨_,Z,_,gr,f.k Z,m⟩ ?_
  clear ab f m
  rintro ad ag ah ai a w ⟨ae,rfl,af,aj,f,m⟩
  have h0:=rd1 aj h0
  refine Ag (Af ?_)
  refine Ab f Z λa f=>Ab f Z λa f=>A8 underlying28 f Z Z h0 λa f=>Ai f Z Z AR λa f=>Aa ?_
  rcases Ae ah with⟨ak,ah⟩|⟨ak,ah⟩
  ·refine Al f Z ak ?_
   refine Ap ?_
   refine Ag (Ak (Af ?_))
   refine Ab f Z λa f=>Ab f Z λa f=> ?_
   have⟨al,am,ah⟩:=bind_some ah
   refine Bu T28 f Z Z Z h0 am λan ao a ap aq f=> ?_
   subst aq
   refine AT m Pl2 f Z Z ap λa f=>Ab f Z λa f=>Ai f Z Z By λa f=>Aa ?_
   rcases Ae ah with⟨ar,ah⟩|⟨ar,ah⟩
   ·refine Al f Z ar ?_
    refine Af ?_
    refine Ac f Z λa f=>Aa ?_
    refine Aq ?_
    obtain rfl:=sj ah
    obtain rfl:=ai _ rfl
    obtain rfl:=sj hd
    exact⟨[(.bool true)],f.g Z,f.d,_,[],aj,m,Z,Z⟩
   ·refine Aj f Z ar ?_
    refine Ap ?_
    refine Ao ?_
    refine Ab f Z λa f=>Ai f Z Z Ax λa f=>Ac f Z λa f=>Aa ?_
    obtain rfl:=sj ah
    exact⟨_,Z,_,Z,_,aj,f.k Z,m⟩
  ·refine Aj f Z ak ?_
   refine AH Z ?_
   obtain rfl:=sj ah
   obtain rfl:=ai _ rfl
   exact⟨_,Z,_,aj,f.weak trivial,m⟩
 ·rintro a w ⟨_,rfl,ac,au,f,m⟩
  refine Af ?_
  refine Ac f Z λa f=>Aa ?_
  refine Aq ?_
  obtain rfl:=sj hd
  exact⟨[(.bool false)],f.g Z,f.d,_,[],au,m,Z,Z⟩
theorem Wk.p {aa:Value}{ab:LL}(m:Mem W G w (H))(ac:R2 G aa ab){y:Bool}(hd:D.p ab=some y):
  Calls prog 10 #[(.agg #[aa])] w (Res W G H (λ_ Ho v=>Ho=[]∧v=(.bool y))):=by
 refine Au (args:=[(.agg #[aa])]) (N:=64) [.tmp 2] func10 Z Z (lb Z) Z λa f=> ?_
 unfold D.p at hd
 refine Af ?_
 refine Bj (cs:=[aa]) m f Z Z Z λad w a m f=>Ac f Z λa f=>AB ?_
 refine Az 0 0 (ds:=[aa]) m AI f Z Z Z Z Z λa f=> ?_
 have⟨ae,af,hd⟩:=bind_some hd
 refine Bc f Z call31 (Wk.b m ac af) λag w ah m a f=> ?_
 have ac:=rd2 ah ac
 refine Ac f Z λa f=>Aa (Ag (Af ?_))
 refine Ab f Z λa f=> ?_
 have⟨ai,aj,hd⟩:=bind_some hd
 refine Bc f Z call32 (Wk.e m aj) λak w al m a f=> ?_
 have ac:=rd2 al ac
 refine l_o f (Bh (f.e Z)) λa f=>Aa ?_
 rcases Ae hd with⟨am,hd⟩|⟨am,hd⟩
 ·refine Al f Z am ?_
  refine Af ?_
  refine Ac f Z λa f=>Aa ?_
  refine Aq ?_
  have m:Mem W ak w H:=Mem.drop (H':=[ib ad 26 [aa]]) m
  obtain rfl:=sj hd
  exact⟨[(.bool false)],f.g Z,f.d,_,[],(gt ah al),m,Z,Z⟩
 ·refine Aj f Z am ?_
  refine Ap ?_
  refine Ag (Af ?_)
  refine Ac f Z λa f=>Aa ?_
  have⟨an,ao,hd⟩:=bind_some hd
  refine AM (λa w=>∃q_138':Unit,an= .inl q_138'∧∃(ap:GH),GLe ak ap∧Fr a 64 [(1,(pb ad)),(3,(iv ae))]∧Mem W ap w (ib ad 26 [aa]::H)) ?_ ?_
  ·refine Ak ?_
   refine AL (λaq a w=>∃ar:Int,ar=aq∧∃(au:GH),GLe ak au∧Fr a 64 [(1,(pb ad)),(3,(iv ae)),(4,(iv ar))]∧Mem W au w (ib ad 26 [aa]::H)) ao ⟨_,Z,_,gr,f.k Z,m⟩ ?_
   clear ao f m
   rintro aq av aw ax a w ⟨ar,rfl,au,ay,f,m⟩
   have ac:=rd2 ay ac
   refine Ag (Af ?_)
   refine Ab f Z λa f=>Ab f Z λa f=>Ai f Z Z AR λa f=>Aa ?_
   rcases Ae aw with⟨az,aw⟩|⟨az,aw⟩
   ·refine Al f Z az ?_
    refine Ap ?_
    refine Ag (Ak (Af ?_))
    refine Bo underlying26 Z sizeOf24 f Z λa f=>AA 0 0 m Bt f Z Z Z Z λa f=>Ab f Z λa f=> ?_
    have⟨aA,aB,aw⟩:=bind_some aw
    refine Bu T24 f Z Z Z ac aB λaC aD a aE aF f=>AT m B3 f Z Z aE λa f=>Ab f Z λa f=> ?_
    have⟨aG,aH,aw⟩:=bind_some aw
    refine Bc f Z call33 (Wk.W0 m aF aH) λaI w aJ m a f=> ?_
    have ac:=rd2 aJ ac
    refine l_o f (Bh (f.e Z)) λa f=>Ab f Z λa f=> ?_
    have⟨aK,aL,aw⟩:=bind_some aw
    refine Bz 8 (λa w=>∃aM,GLe aI aM∧Mem W aM w (ib ad 26 [aa]::H)∧Fr a 64 [(1,(pb ad)),(3,(iv ae)),(4,(iv ar)),(14,(.bool (decide (ar<ae)))),(17,(pb ad)),(18,aa),(19,(iv ar)),(20,aC),(21,aD),(22,(iv ae)),(23,(.bool aG)),(24,(.bool (!aG))),(25,(.bool (!aG))),(33,(.bool aK))]) ?_ ?_
    ·rcases Ae aL with⟨aN,aL⟩|⟨aN,aL⟩
     ·refine AE f aN λa f=> ?_
      refine AE f aN λa f=>AE f aN λa f=>AE f aN λa f=>AE f aN λa f=>AE f aN λa f=>AE f aN λa f=>l_o f (AK (f.e Z) aN (f.e Z)) λa f=> ?_
      obtain rfl:=sj aL
      exact⟨_,gr,m,f.k Z⟩
     ·refine AC f aN ?_
      refine Bo underlying26 Z sizeOf24 f Z λa f=>AC f aN ?_
      refine AA 0 0 m Bt f Z Z Z Z λa f=>AC f aN ?_
      refine Ab f Z λa f=>AC f aN ?_
      have⟨aO,aP,aL⟩:=bind_some aL
      refine Bu T24 f Z Z Z ac aP λaQ aR a aS aT f=>AC f aN ?_
      refine AT m B3 f Z Z aS λa f=>AC f aN ?_
      refine Ab f Z λa f=>AC f aN ?_
      have⟨aU,aV,aL⟩:=bind_some aL
      refine Bc f Z call34 (Wk.q m aT aV) λaW w aX m a f=>l_o f (AP (f.e Z) aN (f.e Z)) λa f=> ?_
      obtain rfl:=sj aL
      exact⟨_,aX,m,f.k Z⟩
    ·rintro a w ⟨aM,aY,m,f⟩
     refine Aa ?_
     rcases Ae aw with⟨aZ,aw⟩|⟨aZ,aw⟩
     ·refine Al f Z aZ ?_
      refine Af ?_
      refine Ac f Z λa f=>Aa ?_
      refine Aq ?_
      have m:Mem W aM w H:=Mem.drop (H':=[ib ad 26 [aa]]) m
      obtain rfl:=sj aw
      obtain rfl:=ax _ rfl
      obtain rfl:=sj hd
      exact⟨[(.bool false)],f.g Z,f.d,_,[],(gt ah (gt al (gt ay (gt aJ aY)))),m,Z,Z⟩
     ·refine Aj f Z aZ ?_
      refine Ap ?_
      refine Ao ?_
      refine Ab f Z λa f=>Ai f Z Z Ax λa f=>Ac f Z λa f=>Aa ?_
      obtain rfl:=sj aw
      exact⟨_,Z,_,Z,_,(gt ay (gt aJ aY)),f.k Z,m⟩
   ·refine Aj f Z az ?_
    refine AH Z ?_
    obtain rfl:=sj aw
    obtain rfl:=ax _ rfl
    exact⟨_,Z,_,ay,f.k Z,m⟩
  ·rintro a w ⟨_,rfl,ap,a0,f,m⟩
   have ac:=rd2 a0 ac
   refine Ag (Af ?_)
   refine Ac f Z λa f=>Aa ?_
   have⟨a1,a2,hd⟩:=bind_some hd
   refine AM (λa w=>∃q_545':Unit,a1= .inl q_545'∧∃(a3:GH),GLe ap a3∧Fr a 64 []∧Mem W a3 w (H)) ?_ ?_
   ·refine Ak ?_
    refine AL (λa4 a w=>∃a5:Int,a5=a4∧∃(a6:GH),GLe ap a6∧Fr a 64 [(1,(pb ad)),(3,(iv ae)),(5,(iv a5))]∧Mem W a6 w (ib ad 26 [aa]::H)) a2 ⟨_,Z,_,gr,f.k Z,m⟩ ?_
    clear a2 f m
    rintro a4 a7 a8 a9 a w ⟨a5,rfl,a6,ba,f,m⟩
    have ac:=rd2 ba ac
    refine Ag (Af ?_)
    refine Ab f Z λa f=>Ab f Z λa f=>Ai f Z Z AR λa f=>Aa ?_
    rcases Ae a8 with⟨bb,a8⟩|⟨bb,a8⟩
    ·refine Al f Z bb ?_
     refine Ap ?_
     refine Ag (Ak (Af ?_))
     refine Ac f Z λa f=>Aa ?_
     have⟨bc,bd,a8⟩:=bind_some a8
     refine AM (λa w=>∃q_759':Unit,bc= .inl q_759'∧∃(be:GH),GLe a6 be∧Fr a 64 [(1,(pb ad)),(3,(iv ae)),(5,(iv a5))]∧Mem W be w (ib ad 26 [aa]::H)) ?_ ?_
     ·refine Ak ?_
      refine AL (λbf a w=>∃bg:Int,bg=bf∧∃(bh:GH),GLe a6 bh∧Fr a 64 [(1,(pb ad)),(3,(iv ae)),(5,(iv a5)),(6,(iv bg))]∧Mem W bh w (ib ad 26 [aa]::H)) bd ⟨_,Z,_,gr,f.k Z,m⟩ ?_
      clear bd f m
      rintro bf bi bj bk a w ⟨bg,rfl,bh,bl,f,m⟩
      have ac:=rd2 bl ac
      refine Ag (Af ?_)
      refine Ab f Z λa f=>Bo underlying26 Z sizeOf24 f Z λa f=>AA 0 0 m Bt f Z Z Z Z λa f=>Ab f Z λa f=> ?_
      have⟨bm,bn,bj⟩:=bind_some bj
      refine Bu T24 f Z Z Z ac bn λbo bp a bq br f=>AT m B3 f Z Z bq λa f=>A8 underlying28 f Z Z br λa f=>Ai f Z Z AR λa f=>Aa ?_
      rcases Ae bj with⟨bs,bj⟩|⟨bs,bj⟩
      ·refine Al f Z bs ?_
       refine Ap ?_
       refine Ag (Ak (Ag ?_))
       refine A2 15 AG (by kernel_rfl) m ?_
       refine Bg 0 15 underlying26 Z sizeOf24 Z f Z λa f=>Bp 1 15 0 Bt Z Z Z f Z λa f=>Bg 2 15 underlying26 Z sizeOf24 Z f Z λa f=>Bp 3 15 0 Bt Z Z Z f Z λa f=>Ah 4 15 Z f Z λa f=> ?_
       have⟨bt,bu,bj⟩:=bind_some bj
       refine BF 5 15 T24 ac bu Z f Z Z λbv bw a bx bz f=>BG 6 15 B3 bx Z f Z λa f=>Ah 7 15 Z f Z λa f=> ?_
       have⟨bA,bB,bj⟩:=bind_some bj
       refine BF 8 15 T28 bz bB Z f Z Z λbC bD a bE bF f=> ?_
       subst bF
       refine BG 9 15 Pl2 bE Z f Z λa f=> ?_
       have⟨bG,bH,bj⟩:=bind_some bj
       refine BF 10 15 T24 ac bH Z f Z Z λbI bJ a bK bL f=>BG 11 15 B3 bK Z f Z λa f=>Ah 12 15 Z f Z λa f=> ?_
       have⟨bM,bN,bj⟩:=bind_some bj
       refine AW (i:=13) 15 Z (by kernel_rfl) Z f Z Z Z call34 (λ_ _ w bO m=>Wk.q m (rd1 bO bL) bN) λa f=>q_p 14 15 Z f (λ_=>Bh (f.e Z)) λa f=>AJ λbP w bQ m=>Aa ?_
       rcases Ae bj with⟨bR,bj⟩|⟨bR,bj⟩
       ·refine Al f Z bR ?_
        refine Af ?_
        refine Ac f Z λa f=>Aa ?_
        refine Aq ?_
        have m:Mem W bP w H:=Mem.drop (H':=[ib ad 26 [aa]]) m
        obtain rfl:=sj bj
        obtain rfl:=bk _ rfl
        obtain rfl:=sj a8
        obtain rfl:=a9 _ rfl
        obtain rfl:=sj hd
        exact⟨[(.bool false)],f.g Z,f.d,_,[],(gt ah (gt al (gt a0 (gt ba (gt bl bQ))))),m,Z,Z⟩
       ·refine Aj f Z bR ?_
        refine Ap ?_
        refine Ao ?_
        refine Ab f Z λa f=>Ai f Z Z Ax λa f=>Ac f Z λa f=>Aa ?_
        obtain rfl:=sj bj
        exact⟨_,Z,_,Z,_,(gt bl bQ),f.k Z,m⟩
      ·refine Aj f Z bs ?_
       refine AH Z ?_
       obtain rfl:=sj bj
       obtain rfl:=bk _ rfl
       exact⟨_,Z,_,bl,f.k Z,m⟩
     ·rintro a w ⟨_,rfl,be,bS,f,m⟩
      refine Ao ?_
      refine Ab f Z λa f=>Ai f Z Z Ax λa f=>Ac f Z λa f=>Aa ?_
      obtain rfl:=sj a8
      exact⟨_,Z,_,Z,_,(gt ba bS),f.k Z,m⟩
    ·refine Aj f Z bb ?_
     refine AH Z ?_
     have m:Mem W a6 w H:=Mem.drop (H':=[ib ad 26 [aa]]) m
     obtain rfl:=sj a8
     obtain rfl:=a9 _ rfl
     exact⟨_,Z,_,ba,f.weak trivial,m⟩
   ·rintro a w ⟨_,rfl,a3,bT,f,m⟩
    refine Af ?_
    refine Ac f Z λa f=>Aa ?_
    refine Aq ?_
    obtain rfl:=sj hd
    exact⟨[(.bool true)],f.g Z,f.d,_,[],(gt ah (gt al (gt a0 bT))),m,Z,Z⟩
theorem Wk.O {aa:Value}{ab:LL}{x1:Int}(m:Mem W G w (H))(ac:R2 G aa ab){y:Bool}(hd:D.O ab x1=some y):
  Calls prog 83 #[(.agg #[aa]),(iv x1)] w (Res W G H (λ_ Ho v=>Ho=[]∧v=(.bool y))):=by
 refine Au (args:=[(.agg #[aa]),(iv x1)]) (N:=10) [.tmp 4] func83 Z Z (lb Z) Z λa f=> ?_
 unfold D.O at hd
 refine Af ?_
 refine Bj (cs:=[aa]) m f Z Z Z λad w a m f=>Ac f Z λa f=>AB ?_
 refine Ab f Z λa f=>Az 0 0 (ds:=[aa]) m AI f Z Z Z Z Z λa f=> ?_
 have⟨ae,af,hd⟩:=bind_some hd
 refine Bc f Z call31 (Wk.b m ac af) λag w ah m a f=>Ai f Z Z AS λa f=> ?_
 have⟨ai,aj,hd⟩:=bind_some hd
 refine Bc f Z call32 (Wk.e m aj) λak w al m a f=>Ac f Z λa f=>Aa ?_
 refine Aq ?_
 have m:Mem W ak w H:=Mem.drop (H':=[ib ad 26 [aa]]) m
 obtain rfl:=sj hd
 exact⟨[(.bool ai)],f.g Z,f.d,_,[],(gt ah al),m,Z,Z⟩
theorem Wk.p1 {aa v1:Value}{ab:LL}{x1:LI}(m:Mem W G w (H))(ac:R2 G aa ab)(h1:R1 G v1 x1){y:Bool}(hd:D.p1 ab x1=some y):
  Calls prog 74 #[(.agg #[aa]),v1] w (Res W G H (λ_ Ho v=>Ho=[]∧v=(.bool y))):=by
 refine Au (args:=[(.agg #[aa]),v1]) (N:=34) [.tmp 4] func74 Z Z (lb Z) Z λa f=> ?_
 unfold D.p1 at hd
 refine Af ?_
 refine Bj (cs:=[aa]) m f Z Z Z λad w a m f=>Ac f Z λa f=>Aa (Ag (Af ?_))
 refine Ab f Z λa f=>A8 underlying28 f Z Z h1 λa f=>Az 0 0 (ds:=[aa]) m AI f Z Z Z Z Z λa f=> ?_
 have⟨ae,af,hd⟩:=bind_some hd
 refine Bc f Z call31 (Wk.b m ac af) λag w ah m a f=> ?_
 have ac:=rd2 ah ac
 have h1:=rd1 ah h1
 refine Ai f Z Z DG λa f=>Aa ?_
 rcases Ae hd with⟨ai,hd⟩|⟨ai,hd⟩
 ·refine Al f Z ai ?_
  refine Af ?_
  refine Ac f Z λa f=>Aa ?_
  refine Aq ?_
  have m:Mem W ag w H:=Mem.drop (H':=[ib ad 26 [aa]]) m
  obtain rfl:=sj hd
  exact⟨[(.bool false)],f.g Z,f.d,_,[],ah,m,Z,Z⟩
 ·refine Aj f Z ai ?_
  refine Ap ?_
  refine Ag (Af ?_)
  refine Ac f Z λa f=>Aa ?_
  have⟨aj,ak,hd⟩:=bind_some hd
  refine AM (λa w=>∃q_99':Unit,aj= .inl q_99'∧∃(al:GH),GLe ag al∧Fr a 34 []∧Mem W al w (H)) ?_ ?_
  ·refine Ak ?_
   refine AL (λam a w=>∃an:Int,an=am∧∃(ao:GH),GLe ag ao∧Fr a 34 [(1,v1),(2,(pb ad)),(5,(iv an))]∧Mem W ao w (ib ad 26 [aa]::H)) ak ⟨_,Z,_,gr,f.k Z,m⟩ ?_
   clear ak f m
   rintro am ap aq ar a w ⟨an,rfl,ao,au,f,m⟩
   have h1:=rd1 au h1
   have ac:=rd2 au ac
   refine Ag (Af ?_)
   refine Ab f Z λa f=>Ab f Z λa f=>A8 underlying28 f Z Z h1 λa f=>Ai f Z Z AR λa f=>Aa ?_
   rcases Ae aq with⟨av,aq⟩|⟨av,aq⟩
   ·refine Al f Z av ?_
    refine Ap ?_
    refine Ag (Ak (Ag ?_))
    refine A2 17 AG (by kernel_rfl) m ?_
    refine Bx (i:=0) (ds:=[aa]) 17 0 AI Z Z Z Z (by kernel_rfl) Z f Z Z Z λa f=>Ah 1 17 Z f Z λa f=>Ah 2 17 Z f Z λa f=> ?_
    have⟨aw,ax,aq⟩:=bind_some aq
    refine BF 3 17 T28 h1 ax Z f Z Z λay az a aA aB f=> ?_
    subst aB
    refine BG 4 17 Pl2 aA Z f Z λa f=> ?_
    have⟨aC,aD,aq⟩:=bind_some aq
    refine AW (i:=5) 17 Z (by kernel_rfl) Z f Z Z Z call83 (λ_ _ w aE m=>Wk.O m (rd2 aE ac) aD) λa f=>q_p 6 17 Z f (λ_=>Bh (f.e Z)) λa f=>Ah 7 17 Z f Z λa f=> ?_
    have⟨aF,aG,aq⟩:=bind_some aq
    refine BU (fuel':=0) (listed':= #[true,true,true,true,true,true,true,true,true,true,true,true,true,true,true,true,true]) (λa=>Fr a 34 [(1,v1),(2,(pb ad)),(5,(iv an)),(14,(.bool (decide (an<(x1.length:Int))))),(17,(.agg #[aa])),(18,v1),(19,(iv an)),(20,ay),(21,(iv aw)),(22,(.bool aC)),(23,(.bool (!aC))),(24,(.bool (!aC))),(33,(.bool aF))]) ?_ ?_
    ·intro a f
     refine AJ λaH w aI m=>Aa ?_
     rcases Ae aq with⟨aJ,aq⟩|⟨aJ,aq⟩
     ·refine Al f Z aJ ?_
      refine Af ?_
      refine Ac f Z λa f=>Aa ?_
      refine Aq ?_
      have m:Mem W aH w H:=Mem.drop (H':=[ib ad 26 [aa]]) m
      obtain rfl:=sj aq
      obtain rfl:=ar _ rfl
      obtain rfl:=sj hd
      exact⟨[(.bool false)],f.g Z,f.d,_,[],(gt ah (gt au aI)),m,Z,Z⟩
     ·refine Aj f Z aJ ?_
      refine Ap ?_
      refine Ao ?_
      refine Ab f Z λa f=>Ai f Z Z Ax λa f=>Ac f Z λa f=>Aa ?_
      obtain rfl:=sj aq
      exact⟨_,Z,_,Z,_,(gt au aI),f.k Z,m⟩
    ·intro aK
     rcases Ae aG with⟨aL,aG⟩|⟨aL,aG⟩
     ·refine Am 8 17 Z f aL λa f=> ?_
      refine Am 9 17 Z f aL λa f=>Am 10 17 Z f aL λa f=>Am 11 17 Z f aL λa f=>Am 12 17 Z f aL λa f=>Am 13 17 Z f aL λa f=>Am 14 17 Z f aL λa f=>Am 15 17 Z f aL λa f=>q_p 16 17 Z f (λ_=>AK (f.e Z) aL (f.e Z)) λa f=> ?_
      obtain rfl:=sj aG
      exact aK _ (f.k Z)
     ·refine Ah (hw:=wo f aL) 8 17 Z f Z λa f=> ?_
      refine Ah (hw:=wo f aL) 9 17 Z f Z λa f=> ?_
      have⟨aM,aN,aG⟩:=bind_some aG
      refine ET (i:=10) 17 T28 h1 aN Z (by kernel_rfl) Z f (Ba f Z Z Z aL) Z Z (.inl ⟨Z,Z⟩) (.inr ⟨_,_,Z,Z⟩) λaO a aP f=>Ah (hw:=wo f aL) 11 17 Z f Z λa f=>Ah (hw:=wo f aL) 12 17 Z f Z λa f=> ?_
      have⟨aQ,aR,aG⟩:=bind_some aG
      refine BF (hw:=wo f aL) 13 17 T28 h1 aR Z f Z Z λaS aT a aU aV f=> ?_
      subst aV
      refine BG (hw:=wo f aL) 14 17 Pl2 aU Z f Z λa f=> ?_
      have⟨aW,aX,aG⟩:=bind_some aG
      refine AW (i:=15) 17 Z (by kernel_rfl) Z f (Ba f Z Z Z aL) Z Z call34 (λ_ _ w aY m=>Wk.q m (rd1 aY aP) aX) λa f=>q_p 16 17 Z f (λ_=>AP (f.e Z) aL (f.e Z)) λa f=> ?_
      obtain rfl:=sj aG
      exact aK _ (f.k Z)
   ·refine Aj f Z av ?_
    refine AH Z ?_
    have m:Mem W ao w H:=Mem.drop (H':=[ib ad 26 [aa]]) m
    obtain rfl:=sj aq
    obtain rfl:=ar _ rfl
    exact⟨_,Z,_,au,f.weak trivial,m⟩
  ·rintro a w ⟨_,rfl,al,aZ,f,m⟩
   refine Af ?_
   refine Ac f Z λa f=>Aa ?_
   refine Aq ?_
   obtain rfl:=sj hd
   exact⟨[(.bool true)],f.g Z,f.d,_,[],(gt ah aZ),m,Z,Z⟩
theorem Wk.i0 {aa v1:Value}{ab:LL}{x1:LI}(m:Mem W G w (H))(ac:R2 G aa ab)(h1:R1 G v1 x1){y:Bool}(hd:D.i0 ab x1=some y):
  Calls prog 54 #[(.agg #[aa]),v1] w (Res W G H (λ_ Ho v=>Ho=[]∧v=(.bool y))):=by
 refine Au (args:=[(.agg #[aa]),v1]) (N:=12) [.tmp 4] func54 Z Z (lb Z) Z λa f=> ?_
 unfold D.i0 at hd
 refine Af ?_
 refine Bj (cs:=[aa]) m f Z Z Z λad w a m f=>Ac f Z λa f=>AB ?_
 refine Az 0 0 (ds:=[aa]) m AI f Z Z Z Z Z λa f=> ?_
 have⟨ae,af,hd⟩:=bind_some hd
 refine Bc f Z call10 (Wk.p m ac af) λag w ah m a f=> ?_
 have ac:=rd2 ah ac
 have h1:=rd1 ah h1
 refine Ab f Z λa f=> ?_
 have⟨ai,aj,hd⟩:=bind_some hd
 refine Bz 4 (λa w=>∃ak,GLe ag ak∧Mem W ak w (ib ad 26 [aa]::H)∧Fr a 12 [(0,(.agg #[aa])),(1,v1),(2,(pb ad)),(5,(.agg #[aa])),(6,(.bool ae)),(7,(.bool ae)),(11,(.bool ai))]) ?_ ?_
 ·rcases Ae aj with⟨al,aj⟩|⟨al,aj⟩
  ·refine AC f al ?_
   refine Az 0 0 (ds:=[aa]) m AI f Z Z Z Z Z λa f=>AC f al ?_
   refine Ab f Z λa f=>AC f al ?_
   have⟨am,an,aj⟩:=bind_some aj
   refine Bc f Z call74 (Wk.p1 m ac h1 an) λao w ap m a f=>l_o f (AK (f.e Z) al (f.e Z)) λa f=> ?_
   obtain rfl:=sj aj
   exact⟨_,ap,m,f.k Z⟩
  ·refine AE f al λa f=> ?_
   refine AE f al λa f=>AE f al λa f=>l_o f (AP (f.e Z) al (f.e Z)) λa f=> ?_
   obtain rfl:=sj aj
   exact⟨_,gr,m,f.k Z⟩
 ·rintro a w ⟨ak,aq,m,f⟩
  refine Ac f Z λa f=>Aa ?_
  refine Aq ?_
  have m:Mem W ak w H:=Mem.drop (H':=[ib ad 26 [aa]]) m
  obtain rfl:=sj hd
  exact⟨[(.bool ai)],f.g Z,f.d,_,[],(gt ah aq),m,Z,Z⟩
theorem Wk.M0 {aa:Value}{ab:LL}(m:Mem W G w (H))(ac:R2 G aa ab){y:(LL)}(hd:D.M0 ab=some y):
  Calls prog 76 #[(.agg #[aa])] w (Res W G H (λG' Ho v=>∃r0:Value,∃i0:Itm,Ho=[i0]∧v=(.agg #[r0])∧Ow R1 28 G' i0 r0 y)):=by
 refine Au (args:=[(.agg #[aa])]) (N:=25) [.cell 2 26] func76 Z Z (lb Z) Z λa f=> ?_
 unfold D.M0 at hd
 refine Af ?_
 refine Bj (cs:=[aa]) m f Z Z Z λad w a m f=>A9 (cs:=[sn]) zeroValue26 m f Z Z λae w a m f=>AB ?_
 have af:∀w,(Instr.build 26 #[]).run prog w= .ok (.agg #[sn]) w:=by intro w;simp[Instr.build,Instr.fill,Cm,Cw,B6,Cf,BT,Cp]
 refine CG f Z Z af λa f=>A9 (cs:=[sn]) zeroValue26 m f Z Z λag w a m f=>An 0 0 (ds:=[sn]) m sizeOf26 f Z Z Z (Ar Z As) Z (lb Z) Z λw m=>Aa (Ag (Af ?_))
 refine Ac f Z λa f=>Aa ?_
 obtain⟨ah,m,ai⟩:=Ow.nil R1 28 m
 have⟨aj,ak,hd⟩:=bind_some hd
 refine AM (λa w=>∃al:LL,al=aj∧∃(am:GH) (an:Value) (ao:Itm),GLe G am∧Fr a 25 [(2,(pb ae)),(3,(pb ag))]∧Mem W am w (ib ae 26 [sn]::ib ag 26 [an]::ao::H)∧Ow R1 28 am ao an al) ?_ ?_
 ·refine Ak ?_
  have m:=m.fr 1
  have m:=m.fr 2
  have m:Mem W G w (ib ad 26 [aa]::ib ae 26 [sn]::ib ag 26 [sn]::ah::H):=m.fr 3
  refine AL (λap a w=>∃aq:Int,∃ar:LL,(aq,ar)=ap∧∃(au:GH) (av:Value) (aw:Itm),GLe G au∧Fr a 25 [(1,(pb ad)),(2,(pb ae)),(3,(pb ag)),(4,(iv aq))]∧Mem W au w (ib ad 26 [aa]::ib ae 26 [sn]::ib ag 26 [av]::aw::H)∧Ow R1 28 au aw av ar) ak ⟨_,_,Z,_,sn,ah,gr,f.k Z,m,ai⟩ ?_
  clear ak f m
  rintro ap ax ay az a w ⟨aq,ar,rfl,au,av,aw,aA,f,m,aB⟩
  have ac:=rd2 aA ac
  refine Ag (Af ?_)
  refine Ab f Z λa f=>Bo underlying26 Z sizeOf24 f Z λa f=>AA 0 0 m Bt f Z Z Z Z λa f=>A8 underlying24 f Z Z ac λa f=>Ai f Z Z AR λa f=>Aa ?_
  rcases Ae ay with⟨aC,ay⟩|⟨aC,ay⟩
  ·refine Al f Z aC ?_
   refine Ap ?_
   refine Ag (Ak ?_)
   refine A2 9 AG (by kernel_rfl) m ?_
   refine Bg 0 9 underlying26 Z sizeOf24 Z f Z λa f=>Bp 1 9 2 Bt Z Z Z f Z λa f=>Bg 2 9 underlying26 Z sizeOf24 Z f Z λa f=>Bp 3 9 0 Bt Z Z Z f Z λa f=>Ah 4 9 Z f Z λa f=> ?_
   have⟨aD,aE,ay⟩:=bind_some ay
   refine BF 5 9 T24 ac aE Z f Z Z λaF aG a aH aI f=>BG 6 9 B3 aH Z f Z λa f=>AU 7 Z λaJ w aK m aL aL=> ?_
   have aI:=rd1 aK aI
   have aB:=Ow.mono (RSl.mono (RI.mono _)) aK aB
   have⟨aM,aN,ay⟩:=bind_some ay
   refine AD f Z call68 (Wk.g m aI aN) λaO aP aQ w aR m aS a f=> ?_
   obtain⟨aT,aU,rfl,rfl,aV⟩:=aS
   have aB:=Ow.mono (RSl.mono (RI.mono _)) aR aB
   refine Aa ?_
   refine aL aP [aU] _ _ aR m ?_
   refine AU 8 Z λaW w aX m aY aY=> ?_
   have aV:=od1 aX aV
   have aB:=Ow.mono (RSl.mono (RI.mono _)) aX aB
   obtain⟨aZ,a0,m,a1⟩:=Ow.stamp (RI.mono _) aV m
   have aB:=Ow.mono (RSl.mono (RI.mono _)) a0 aB
   refine A4 (R:=R1) (xs:=([aM]:LL)) (RSl.one _) m T24 f Z Z Z (by decide) (All2.cons a1 (All2.nil _)) λa2 a3 w a m a4 f=>Aa ?_
   refine aY aZ [a2] _ _ a0 m ?_
   refine AJ λa5 w a6 m=> ?_
   have a4:=Ow.mono (RSl.mono (RI.mono _)) a6 a4
   have aB:=Ow.mono (RSl.mono (RI.mono _)) a6 aB
   have⟨a7,a8,ay⟩:=bind_some ay
   refine A6 (RSl.one _) 4 m aB Z T24 Z (by decide) f Z Z Z (Ow.src (j:=0) a4 m Z) a8 λa9 ba w a m bb f=>Bo underlying26 Z sizeOf24 f Z λa f=>An 3 0 (ds:=[ba]) m sizeOf24 f Z Z (Ow.cells 4 m bb Z) (Ar (Ow.one1 4 m bb Z) As) Z (lb Z) Z λw m=>Aa (Ao ?_)
   refine Ab f Z λa f=>Ai f Z Z Ax λa f=>Ac f Z λa f=>Aa ?_
   have m:=m.fr 4
   have m:=m.fr 4
   have m:Mem W a5 w (ib ae 26 [sn]::ib ag 26 [ba]::a9::a2::ib ad 26 [aa]::H):=m.fr 4
   have m:=m.fr 4
   have m:Mem W a5 w (ib ad 26 [aa]::ib ae 26 [sn]::ib ag 26 [ba]::a9::H):=m.eraseAt 4
   obtain rfl:=sj ay
   exact⟨_,Z,_,_,Z,_,ba,a9,(gt aA (gt aK (gt aR (gt aX (gt a0 a6))))),f.k Z,m,bb⟩
  ·refine Aj f Z aC ?_
   refine AH Z ?_
   have m:=m.fr 3
   have m:=m.fr 3
   have m:Mem W au w (ib ae 26 [sn]::ib ag 26 [av]::aw::ib ad 26 [aa]::H):=m.fr 3
   have m:=m.eraseAt 3
   obtain rfl:=sj ay
   obtain rfl:=az _ rfl
   exact⟨_,Z,_,av,aw,aA,f.k Z,m,aB⟩
 ·rintro a w ⟨al,rfl,am,an,ao,bc,f,m,bd⟩
  refine Af ?_
  refine Az 1 0 (ds:=[an]) m AI f Z Z Z Z Z λa f=>An 0 0 (ds:=[an]) m sizeOf26 f Z Z Z (Ar (Ow.one1 2 m bd Z) As) Z (lb Z) Z λw m=>Aa ?_
  refine Aq ?_
  have be:=Bq (P:=prog) 0 m AI f (s:=2) rfl rfl rfl
  have m:=m.fr 2
  have m:=m.eraseAt 2
  have m:=m.eraseAt 1
  obtain rfl:=sj hd
  exact⟨[(.agg #[an])],⟨be,trivial⟩,f.d,_,[ao],bc,m,_,_,Z,Z,bd⟩
theorem Wk.E {aa v2:Value}{ab:LL}{x1:Int}{x2:(List Bool)}(m:Mem W G w (H))(ac:R2 G aa ab)(h2:RSl RB G v2 x2){y:(LI)}(hd:D.E ab x1 x2=some y):
  Calls prog 53 #[(.agg #[aa]),(iv x1),v2] w (Res W G H (λG' Ho v=>∃r0:Value,∃i0:Itm,Ho=[i0]∧r0=v∧Ow R0 2 G' i0 r0 y)):=by
 refine Au (args:=[(.agg #[aa]),(iv x1),v2]) (N:=44) [.tmp 6] func53 Z Z (lb Z) Z λa f=> ?_
 unfold D.E at hd
 refine Af ?_
 refine Bj (cs:=[aa]) m f Z Z Z λad w a m f=>Ac f Z λa f=>AB ?_
 refine A4 (R:=R0) (xs:=([]:LI)) (RI.one _) m T28 f Z Z Z (by decide) (All2.nil _) λae af w a m ag f=>Ac f Z λa f=>Aa (Ag (Af ?_))
 refine Ac f Z λa f=>Aa ?_
 have⟨ah,ai,hd⟩:=bind_some hd
 refine AM (λa w=>∃aj:LI,aj=ah∧∃(ak:GH) (al:Value) (am:Itm),GLe G ak∧Fr a 44 [(7,al)]∧Mem W ak w (am::H)∧Ow R0 2 ak am al aj) ?_ ?_
 ·refine Ak ?_
  have m:=m.fr 1
  refine AL (λan a w=>∃ao:LI,∃ap:Int,(ao,ap)=an∧∃(aq:GH) (ar:Value) (au:Itm),GLe G aq∧Fr a 44 [(1,(iv x1)),(2,v2),(3,(pb ad)),(7,ar),(8,(iv ap))]∧Mem W aq w (ib ad 26 [aa]::au::H)∧Ow R0 2 aq au ar ao) ai ⟨_,_,Z,_,af,ae,gr,f.k Z,m,ag⟩ ?_
  clear ai f m
  rintro an av aw ax a w ⟨ao,ap,rfl,aq,ar,au,ay,f,m,az⟩
  have h2:=RSl.mono RB.mono _ _ _ _ ay h2
  have ac:=rd2 ay ac
  refine Ag (Af ?_)
  refine Ab f Z λa f=>Bo underlying26 Z sizeOf24 f Z λa f=>AA 0 0 m Bt f Z Z Z Z λa f=>Ab f Z λa f=> ?_
  have⟨aA,aB,aw⟩:=bind_some aw
  refine Bu T24 f Z Z Z ac aB λaC aD a aE aF f=>AT m B3 f Z Z aE λa f=>A8 underlying28 f Z Z aF λa f=>Ai f Z Z AR λa f=>Aa ?_
  rcases Ae aw with⟨aG,aw⟩|⟨aG,aw⟩
  ·refine Al f Z aG ?_
   refine Ap ?_
   refine Ag (Ak (Af ?_))
   refine Ab f Z λa f=>Bo underlying26 Z sizeOf24 f Z λa f=>AA 0 0 m Bt f Z Z Z Z λa f=>Ab f Z λa f=> ?_
   have⟨aH,aI,aw⟩:=bind_some aw
   refine Bu T24 f Z Z Z ac aI λaJ aK a aL aM f=>AT m B3 f Z Z aL λa f=>Ab f Z λa f=> ?_
   have⟨aN,aO,aw⟩:=bind_some aw
   refine Bu T28 f Z Z Z aM aO λaP aQ a aR aS f=> ?_
   subst aS
   refine AT m Pl2 f Z Z aR λa f=> ?_
   have⟨aT,aU,aw⟩:=bind_some aw
   refine Bu T71 f Z Z Z h2 aU λaV aW a aX aY f=> ?_
   subst aY
   refine AT m Pl4 f Z Z aX λa f=>l_o f (Bh (f.e Z)) λa f=>Aa ?_
   rcases Ae aw with⟨aZ,aw⟩|⟨aZ,aw⟩
   ·refine Al f Z aZ ?_
    refine Ao ?_
    refine Ab f Z λa f=>Bo underlying26 Z sizeOf24 f Z λa f=>AA 0 0 m Bt f Z Z Z Z λa f=>Ab f Z λa f=> ?_
    have⟨a0,a1,aw⟩:=bind_some aw
    refine Bu T24 f Z Z Z ac a1 λa2 a3 a a4 a5 f=>AT m B3 f Z Z a4 λa f=>Ab f Z λa f=> ?_
    have⟨a6,a7,aw⟩:=bind_some aw
    refine Bu T28 f Z Z Z a5 a7 λa8 a9 a ba bb f=> ?_
    subst bb
    refine AT m Pl2 f Z Z ba λa f=>A4 (R:=R0) (xs:=([a6]:LI)) (RI.one _) m T28 f Z Z Z (by decide) (All2.cons Z (All2.nil _)) λbc bd w a m be f=> ?_
    have⟨bf,bg,aw⟩:=bind_some aw
    refine A6 (RI.one _) 2 m az Z T28 Z (by decide) f Z Z Z (Ow.src (j:=0) be m Z) bg λbh bi w a m bj f=>Ac f Z λa f=>Aa (Ao ?_)
    refine Ab f Z λa f=>Ai f Z Z Ax λa f=>Ac f Z λa f=>Aa ?_
    have m:=m.fr 2
    have m:=m.fr 2
    have m:=m.eraseAt 2
    obtain rfl:=sj aw
    exact⟨_,Z,_,_,Z,_,bi,bh,ay,f.k Z,m,bj⟩
   ·refine Aj f Z aZ ?_
    refine Ap ?_
    refine Ao ?_
    refine Ab f Z λa f=>Ai f Z Z Ax λa f=>Ac f Z λa f=>Aa ?_
    obtain rfl:=sj aw
    exact⟨_,Z,_,_,Z,_,ar,au,ay,f.k Z,m,az⟩
  ·refine Aj f Z aG ?_
   refine AH Z ?_
   have m:=m.fr 1
   have m:=m.eraseAt 1
   obtain rfl:=sj aw
   obtain rfl:=ax _ rfl
   exact⟨_,Z,_,ar,au,ay,f.k Z,m,az⟩
 ·rintro a w ⟨aj,rfl,ak,al,am,bk,f,m,bl⟩
  refine Af ?_
  refine Ab f Z λa f=>Ac f Z λa f=>Aa ?_
  refine Aq ?_
  obtain rfl:=sj hd
  exact⟨[al],f.g Z,f.d,_,[am],bk,m,_,_,Z,Z,bl⟩
theorem Wk.o0 {aa:Value}{ab:Itm}{v1:Value}{ac:LL}{x1:LI}(m:Mem W G w (ab::H))(ad:Ow R1 28 G ab aa ac)(h1:R1 G v1 x1){y:(LL)}(hd:D.o0 ac x1=some y):
  Calls prog 77 #[(.agg #[aa]),v1] w (Res W G H (λG' Ho v=>∃i0:Itm,Ho=[i0]∧v=(.agg #[aa])∧Ow R1 28 G' i0 aa y)):=by
 refine Au (args:=[(.agg #[aa]),v1]) (N:=29) [.cell 4 26] func77 Z Z (lb Z) Z λa f=> ?_
 unfold D.o0 at hd
 refine Af ?_
 refine Bj (cs:=[aa]) m f Z Z Z λae w a m f=>A9 (cs:=[sn]) zeroValue26 m f Z Z λaf w a m f=>Aa (Ag (Af ?_))
 refine Ac f Z λa f=>Aa ?_
 have⟨ag,ah,hd⟩:=bind_some hd
 refine AM (λa w=>∃ai:LL,ai=ag∧∃(aj:GH) (ak:Itm),GLe G aj∧Fr a 29 [(2,(pb ae)),(4,(pb af))]∧Mem W aj w (ib ae 26 [aa]::ib af 26 [sn]::ak::H)∧Ow R1 28 aj ak aa ai) ?_ ?_
 ·refine Ak ?_
  have m:=m.fr 1
  refine AL (λal a w=>∃am:LL,∃an:Int,(am,an)=al∧∃(ao:GH) (ap:Itm),GLe G ao∧Fr a 29 [(1,v1),(2,(pb ae)),(4,(pb af)),(5,(iv an))]∧Mem W ao w (ib ae 26 [aa]::ib af 26 [sn]::ap::H)∧Ow R1 28 ao ap aa am) ah ⟨_,_,Z,_,ab,gr,f.k Z,m,ad⟩ ?_
  clear ah f m
  rintro al aq ar au a w ⟨am,an,rfl,ao,ap,av,f,m,aw⟩
  have h1:=rd1 av h1
  refine Ag (Af ?_)
  refine Ab f Z λa f=>Ab f Z λa f=>A8 underlying28 f Z Z h1 λa f=>Ai f Z Z AR λa f=>Aa ?_
  rcases Ae ar with⟨ax,ar⟩|⟨ax,ar⟩
  ·refine Al f Z ax ?_
   refine Ap ?_
   refine Ag (Ak (Af ?_))
   refine Ac f Z λa f=>Aa ?_
   have⟨ay,az,ar⟩:=bind_some ar
   refine AM (λa w=>∃aA:LL,aA=ay∧∃(aB:GH) (aC:Itm),GLe ao aB∧Fr a 29 [(1,v1),(2,(pb ae)),(4,(pb af)),(5,(iv an))]∧Mem W aB w (ib ae 26 [aa]::ib af 26 [sn]::aC::H)∧Ow R1 28 aB aC aa aA) ?_ ?_
   ·refine Ak ?_
    refine AL (λaD a w=>∃aE:LL,∃aF:Int,(aE,aF)=aD∧∃(aG:GH) (aH:Itm),GLe ao aG∧Fr a 29 [(1,v1),(2,(pb ae)),(4,(pb af)),(5,(iv an)),(6,(iv aF))]∧Mem W aG w (ib ae 26 [aa]::ib af 26 [sn]::aH::H)∧Ow R1 28 aG aH aa aE) az ⟨_,_,Z,_,ap,gr,f.k Z,m,aw⟩ ?_
    clear az f m
    rintro aD aI aJ aK a w ⟨aE,aF,rfl,aG,aH,aL,f,m,aM⟩
    have h1:=rd1 aL h1
    refine Ag (Af ?_)
    refine Ab f Z λa f=>Ab f Z λa f=>Ai f Z Z AR λa f=>Aa ?_
    rcases Ae aJ with⟨aN,aJ⟩|⟨aN,aJ⟩
    ·refine Al f Z aN ?_
     refine Ap ?_
     refine Ag (Ak ?_)
     refine A2 9 AG (by kernel_rfl) m ?_
     refine Bx (i:=0) (ds:=[aa]) 9 0 AI Z Z Z Z (by kernel_rfl) Z f Z Z Z λa f=>Ah 1 9 Z f Z λa f=>Ah 2 9 Z f Z λa f=> ?_
     have⟨aO,aP,aJ⟩:=bind_some aJ
     refine BF 3 9 T28 h1 aP Z f Z Z λaQ aR a aS aT f=> ?_
     subst aT
     refine BG 4 9 Pl2 aS Z f Z λa f=>Ah 5 9 Z f Z λa f=>Ah 6 9 Z f Z λa f=> ?_
     have⟨aU,aV,aJ⟩:=bind_some aJ
     refine BF 7 9 T28 h1 aV Z f Z Z λaW aX a aY aZ f=> ?_
     subst aZ
     refine BG 8 9 Pl2 aY Z f Z λa f=>AJ λa0 w a1 m=> ?_
     have aM:=Ow.mono (RSl.mono (RI.mono _)) a1 aM
     have m:=m.fr 2
     have⟨a2,a3,aJ⟩:=bind_some aJ
     refine AD f Z call91 (Wk.i m aM a3) λa4 a5 a6 w a7 m a8 a f=> ?_
     obtain⟨a9,rfl,rfl,ba⟩:=a8
     refine An 1 0 (ds:=[aa]) m sizeOf26 f Z Z Z (Ar (Ow.one1 0 m ba Z) As) Z (lb Z) Z λw m=>Aa (Ao ?_)
     refine Ab f Z λa f=>Ai f Z Z Ax λa f=>Ac f Z λa f=>Aa ?_
     have m:=m.fr 2
     have m:=m.fr 2
     obtain rfl:=sj aJ
     exact⟨_,Z,_,_,Z,_,a9,(gt aL (gt a1 a7)),f.k Z,m,ba⟩
    ·refine Aj f Z aN ?_
     refine AH Z ?_
     obtain rfl:=sj aJ
     obtain rfl:=aK _ rfl
     exact⟨_,Z,_,aH,aL,f.k Z,m,aM⟩
   ·rintro a w ⟨aA,rfl,aB,aC,bb,f,m,bc⟩
    refine Ao ?_
    refine Ab f Z λa f=>Ai f Z Z Ax λa f=>Ac f Z λa f=>Aa ?_
    obtain rfl:=sj ar
    exact⟨_,Z,_,_,Z,_,aC,(gt av bb),f.k Z,m,bc⟩
  ·refine Aj f Z ax ?_
   refine AH Z ?_
   obtain rfl:=sj ar
   obtain rfl:=au _ rfl
   exact⟨_,Z,_,ap,av,f.k Z,m,aw⟩
 ·rintro a w ⟨ai,rfl,aj,ak,bd,f,m,be⟩
  refine Af ?_
  refine Az 0 0 (ds:=[aa]) m AI f Z Z Z Z Z λa f=>An 1 0 (ds:=[aa]) m sizeOf26 f Z Z Z (Ar (Ow.one1 2 m be Z) As) Z (lb Z) Z λw m=>Aa ?_
  refine Aq ?_
  have bf:=Bq (P:=prog) 1 m AI f (s:=4) rfl rfl rfl
  have m:=m.fr 2
  have m:=m.eraseAt 2
  have m:=m.eraseAt 1
  obtain rfl:=sj hd
  exact⟨[(.agg #[aa])],⟨bf,trivial⟩,f.d,_,[ak],bd,m,_,Z,Z,be⟩
theorem Wk.x {aa v1:Value}{ab:LL}{x1:LI}(m:Mem W G w (H))(ac:R2 G aa ab)(h1:R1 G v1 x1){y:(LL)}(hd:D.x ab x1=some y):
  Calls prog 56 #[(.agg #[aa]),v1] w (Res W G H (λG' Ho v=>∃r0:Value,∃i0:Itm,Ho=[i0]∧v=(.agg #[r0])∧Ow R1 28 G' i0 r0 y)):=by
 refine Au (args:=[(.agg #[aa]),v1]) (N:=35) [.cell 4 26] func56 Z Z (lb Z) Z λa f=> ?_
 unfold D.x at hd
 refine Af ?_
 refine Bj (cs:=[aa]) m f Z Z Z λad w a m f=>A9 (cs:=[sn]) zeroValue26 m f Z Z λae w a m f=>AB ?_
 refine Az 1 0 (ds:=[aa]) m AI f Z Z Z Z Z λa f=> ?_
 have⟨af,ag,hd⟩:=bind_some hd
 refine AD f Z call76 (Wk.M0 m ac ag) λah ai aj w ak m al a f=> ?_
 obtain⟨am,an,rfl,rfl,ao⟩:=al
 have ac:=rd2 ak ac
 have h1:=rd1 ak h1
 refine A9 (cs:=[sn]) zeroValue26 m f Z Z λap w a m f=>An 0 0 (ds:=[am]) m sizeOf26 f Z Z Z (Ar (Ow.one1 1 m ao Z) As) Z (lb Z) Z λw m=>AB ?_
 refine Az 3 0 (ds:=[aa]) m AI f Z Z Z Z Z λa f=> ?_
 have⟨aq,ar,hd⟩:=bind_some hd
 refine Bc f Z call31 (Wk.b m ac ar) λau w av m a f=> ?_
 have h1:=rd1 av h1
 have ao:=Ow.mono (RSl.mono (RI.mono _)) av ao
 have⟨aw,ax,hd⟩:=bind_some hd
 refine Dv (R:=RB) m T71 Z (by decide) Z f Z Z Z ax λay az w a m aA f=>Ac f Z λa f=>Aa (Ag (Af ?_))
 refine Ac f Z λa f=>Aa ?_
 have⟨aB,aC,hd⟩:=bind_some hd
 refine AM (λa w=>∃aD:LL,aD=aB∧∃(aE:GH) (aF:Itm),GLe au aE∧Fr a 35 [(4,(pb ae)),(5,(pb ap))]∧Mem W aE w (ib ae 26 [sn]::ib ap 26 [am]::aF::H)∧Ow R1 28 aE aF am aD) ?_ ?_
 ·refine Ak ?_
  have m:=m.fr 1
  have m:=m.fr 3
  have m:=m.eraseAt 4
  refine AL (λaG a w=>∃aH:List Bool,∃aI:Int,∃aJ:LL,(aH,aI,aJ)=aG∧∃(aK:GH) (aL:Itm) (aM:Itm),GLe au aK∧Fr a 35 [(1,v1),(4,(pb ae)),(5,(pb ap)),(6,az),(7,(iv aI))]∧Mem W aK w (ib ae 26 [sn]::ib ap 26 [am]::aL::aM::H)∧Ow RB 4 aK aL az aH∧Ow R1 28 aK aM am aJ) aC ⟨_,_,_,Z,_,ay,an,gr,f.k Z,m,aA,ao⟩ ?_
  clear aC f m
  rintro aG aN aO aP a w ⟨aH,aI,aJ,rfl,aK,aL,aM,aQ,f,m,aR,aS⟩
  have h1:=rd1 aQ h1
  refine Ag (Af ?_)
  refine Ab f Z λa f=>Ab f Z λa f=>A8 underlying28 f Z Z h1 λa f=>Ai f Z Z AR λa f=>Aa ?_
  rcases Ae aO with⟨aT,aO⟩|⟨aT,aO⟩
  ·refine Al f Z aT ?_
   refine Ap ?_
   refine Ag (Ak (Af ?_))
   refine Ab f Z λa f=>Ab f Z λa f=>Ab f Z λa f=> ?_
   have⟨aU,aV,aO⟩:=bind_some aO
   refine Bu T28 f Z Z Z h1 aV λaW aX a aY aZ f=> ?_
   subst aZ
   refine AT m Pl2 f Z Z aY λa f=> ?_
   have⟨a2,a3,aO⟩:=bind_some aO
   refine A5 2 m aR Z T71 f Z Z Z a3 λa4 a a5 f=>AO 2 m aR Z sizeOf4 f Z Z a5 a3 Z Z Z λa6 w m a7=>Aa ?_
   refine A2 8 AG (by kernel_rfl) m ?_
   refine Bx (i:=0) (ds:=[am]) 8 1 AI Z Z Z Z (by kernel_rfl) Z f Z Z Z λa f=>Bx (i:=1) (ds:=[am]) 8 1 AI Z Z Z Z (by kernel_rfl) Z f Z Z Z λa f=>Ah 2 8 Z f Z λa f=>Ah 3 8 Z f Z λa f=> ?_
   have⟨a8,a9,aO⟩:=bind_some aO
   refine BF 4 8 T28 h1 a9 Z f Z Z λba bb a bc bd f=> ?_
   subst bd
   refine BG 5 8 Pl2 bc Z f Z λa f=>Ah 6 8 Z f Z λa f=>AU 7 Z λbe w bf m bg bg=> ?_
   have a7:=Ow.mono RB.mono bf a7
   have aS:=Ow.mono (RSl.mono (RI.mono _)) bf aS
   have⟨bh,bi,aO⟩:=bind_some aO
   refine AD f Z call53 (Ow.lendCall (RSl.mono (RI.mono _)) 3 aS m Z (λbj bk m bl=>(Ow.lendCall RB.mono 2 (Ow.mono RB.mono bk a7) m Z (λbm bn m bo=>Wk.E m (rd2 bn bl) bo bi) (λ_ G' _ _ ⟨a0,a1,e1,e2,o0⟩=>⟨a0,a1,e1,e2,Ow.free (RI.free _) G' o0⟩))) (λ_ G' _ _ ⟨a0,a1,e1,e2,o0⟩=>⟨a0,a1,e1,e2,Ow.free (RI.free _) G' o0⟩)) λbp bq br w bs m bt a f=> ?_
   obtain⟨bu,bv,rfl,rfl,bw⟩:=bt
   have a7:=Ow.mono RB.mono bs a7
   have aS:=Ow.mono (RSl.mono (RI.mono _)) bs aS
   refine Aa ?_
   refine bg bq [bv] _ _ bs m ?_
   refine AJ λbx w bz m=> ?_
   have bw:=od1 bz bw
   have a7:=Ow.mono RB.mono bz a7
   have aS:=Ow.mono (RSl.mono (RI.mono _)) bz aS
   obtain⟨bA,bB,m,bC⟩:=Ow.stamp (RI.mono _) bw m
   have a7:=Ow.mono RB.mono bB a7
   have aS:=Ow.mono (RSl.mono (RI.mono _)) bB aS
   have m:Mem W bA w (aM::ib ae 26 [sn]::ib ap 26 [am]::a6::H):=m.fr 3
   have⟨bD,bE,aO⟩:=bind_some aO
   refine AD f Z call77 (Wk.o0 m aS bC bE) λbF bG bH w bI m bJ a f=> ?_
   obtain⟨bK,rfl,rfl,bL⟩:=bJ
   have a7:=Ow.mono RB.mono bI a7
   refine An 2 0 (ds:=[am]) m sizeOf26 f Z Z Z (Ar (Ow.one1 0 m bL Z) As) Z (lb Z) Z λw m=>Aa (Ao ?_)
   refine Ab f Z λa f=>Ai f Z Z Ax λa f=>Ac f Z λa f=>Aa ?_
   have m:=m.fr 3
   have m:=m.fr 3
   have m:Mem W bG w (ib ae 26 [sn]::ib ap 26 [am]::a6::bK::H):=m.fr 3
   obtain rfl:=sj aO
   exact⟨_,Z,_,_,_,Z,_,a6,bK,(gt aQ (gt bf (gt bs (gt bz (gt bB bI))))),f.k Z,m,a7,bL⟩
  ·refine Aj f Z aT ?_
   refine AH Z ?_
   have m:=m.fr 3
   have m:=m.fr 2
   have m:Mem W aK w (ib ae 26 [sn]::ib ap 26 [am]::aM::aL::H):=m.fr 2
   have m:=m.eraseAt 3
   obtain rfl:=sj aO
   obtain rfl:=aP _ rfl
   exact⟨_,Z,_,aM,aQ,f.k Z,m,aS⟩
 ·rintro a w ⟨aD,rfl,aE,aF,bM,f,m,bN⟩
  refine Af ?_
  refine Az 1 0 (ds:=[am]) m AI f Z Z Z Z Z λa f=>An 0 0 (ds:=[am]) m sizeOf26 f Z Z Z (Ar (Ow.one1 2 m bN Z) As) Z (lb Z) Z λw m=>Aa ?_
  refine Aq ?_
  have bO:=Bq (P:=prog) 0 m AI f (s:=4) rfl rfl rfl
  have m:=m.fr 2
  have m:=m.eraseAt 2
  have m:=m.eraseAt 1
  obtain rfl:=sj hd
  exact⟨[(.agg #[am])],⟨bO,trivial⟩,f.d,_,[aF],(gt ak (gt av bM)),m,_,_,Z,Z,bN⟩
theorem Wk.y {aa v1:Value}{ab:LL}{x1:LI}(m:Mem W G w (H))(ac:R2 G aa ab)(h1:R1 G v1 x1){y:(LL)×Bool}(hd:D.y ab x1=some y):
  Calls prog 46 #[(.agg #[aa]),v1] w (Res W G H (λG' Ho v=>∃r0:Value,∃i0:Itm,Ho=[i0]∧v= .tuple #[(.agg #[r0]),(.bool y.2)]∧Ow R1 28 G' i0 r0 y.1)):=by
 refine Au (args:=[(.agg #[aa]),v1]) (N:=14) [.cell 4 26,.tmp 5] func46 Z Z (lb Z) Z λa f=> ?_
 unfold D.y at hd
 refine Af ?_
 refine Bj (cs:=[aa]) m f Z Z Z λad w a m f=>A9 (cs:=[sn]) zeroValue26 m f Z Z λae w a m f=>Ac f Z λa f=>Aa (Ag (Af ?_))
 refine Az 1 0 (ds:=[aa]) m AI f Z Z Z Z Z λa f=>Ab f Z λa f=> ?_
 have⟨af,ag,hd⟩:=bind_some hd
 refine Bc f Z call54 (Wk.i0 m ac h1 ag) λah w ai m a f=> ?_
 have ac:=rd2 ai ac
 have h1:=rd1 ai h1
 refine l_o f (Bh (f.e Z)) λa f=>Aa ?_
 rcases Ae hd with⟨aj,hd⟩|⟨aj,hd⟩
 ·refine Al f Z aj ?_
  refine Af ?_
  have ak:∀w,(Instr.build 26 #[]).run prog w= .ok (.agg #[sn]) w:=by intro w;simp[Instr.build,Instr.fill,Cm,Cw,B6,Cf,BT,Cp]
  refine CG f Z Z ak λa f=>An 0 0 (ds:=[sn]) m sizeOf26 f Z Z Z (Ar Z As) Z (lb Z) Z λw m=>Ac f Z λa f=>Aa ?_
  refine Aq ?_
  obtain⟨al,m,am⟩:=Ow.nil R1 28 m
  have an:=Bq (P:=prog) 1 m AI f (s:=4) rfl rfl rfl
  have m:=m.eraseAt 2
  have m:=m.eraseAt 1
  obtain rfl:=sj hd
  exact⟨[(.agg #[sn]),(.bool false)],⟨an,f.get _ _ Z,trivial⟩,f.d,_,[al],ai,m,_,_,Z,Z,am⟩
 ·refine Aj f Z aj ?_
  refine Ap ?_
  refine Af ?_
  refine Az 1 0 (ds:=[aa]) m AI f Z Z Z Z Z λa f=>Ab f Z λa f=> ?_
  have⟨ao,ap,hd⟩:=bind_some hd
  refine AD f Z call56 (Wk.x m ac h1 ap) λaq ar au w av m aw a f=> ?_
  obtain⟨ax,ay,rfl,rfl,az⟩:=aw
  refine An 1 0 (ds:=[ax]) m sizeOf26 f Z Z Z (Ar (Ow.one1 0 m az Z) As) Z (lb Z) Z λw m=>Ac f Z λa f=>Aa ?_
  refine Aq ?_
  have aA:=Bq (P:=prog) 1 m AI f (s:=4) rfl rfl rfl
  have m:=m.eraseAt 2
  have m:=m.eraseAt 1
  obtain rfl:=sj hd
  exact⟨[(.agg #[ax]),(.bool true)],⟨aA,f.get _ _ Z,trivial⟩,f.d,_,[ay],(gt ai av),m,_,_,Z,Z,az⟩
theorem Wk.v {aa:Value}{b0:Nat}{ab:LI}{ac ad:Int}(m:Mem W G w (ib b0 64 [aa,(iv ac),(iv ad)]::H))(ae:RSl (RI .u8) G aa ab){y:(LL)×(LI)×Int×Int}(hd:D.u1 ab ac ad=some y):
  Calls prog 17 #[(pb b0)] w (Res W G H (λG' Ho v=>∃r0:Value,∃r1:Value,Ho=[ib b0 64 [r1,(iv y.2.2.1),(iv y.2.2.2)]]∧v=(.agg #[r0])∧R2 G' r0 y.1∧RSl (RI .u8) G' r1 y.2.1)):=by
 refine Au (args:=[(pb b0)]) (N:=21) [.cell 2 26] func17 Z Z (lb Z) Z λa f=> ?_
 unfold D.u1 at hd
 refine Af ?_
 refine A9 (cs:=[sn]) zeroValue26 m f Z Z λaf w a m f=>AB ?_
 refine Ab f Z λa f=> ?_
 have m:Mem W G w (ib b0 64 [aa,(iv ac),(iv ad)]::ib af 26 [sn]::H):=m.fr 1
 have⟨ag,ah,hd⟩:=bind_some hd
 refine AD f Z call44 (Wk.k0 m ae ah) λai aj ak w al m am a f=> ?_
 obtain⟨an,ao,ap,rfl,rfl,aq,ar⟩:=am
 refine A9 (cs:=[sn]) zeroValue26 m f Z Z λau w a m f=>An 0 0 (ds:=[an]) m sizeOf26 f Z Z Z (Ar (Ow2.one1 1 m aq Z) As) Z (lb Z) Z λw m=>Aa (Ag (Af ?_))
 refine Ab f Z λa f=> ?_
 have m:Mem W aj w (ib b0 64 [ap,(iv ag.2.2.1),(iv ag.2.2.2)]::ib au 26 [an]::ao::ib af 26 [sn]::H):=m.fr 2
 have⟨av,aw,hd⟩:=bind_some hd
 refine AD f Z call45 (Wk.o m ar aw) λax ay az w aA m aB a f=> ?_
 obtain⟨aC,rfl,rfl,aD⟩:=aB
 have aq:=od2 aA aq
 refine Aa ?_
 rcases Ae hd with⟨aE,hd⟩|⟨aE,hd⟩
 ·refine Al f Z aE ?_
  refine Ag ?_
  have⟨aF,aG,hd⟩:=bind_some hd
  refine AM (λa w=>∃aH:LL,∃aI:Bool,∃aJ:LL,∃aK:LI,∃aL:Int,∃aM:Int,(aH,aI,aJ,aK,aL,aM)=aF∧∃(aN:GH) (aO:Nat) (aP:Value) (aQ:Itm) (aR:Value) (aS:Value),GLe ay aN∧Fr a 21 [(2,(pb af)),(3,(pb au)),(4,(pb aO)),(5,(.bool aI))]∧Mem W aN w (ib af 26 [sn]::ib au 26 [aR]::ib b0 64 [aS,(iv aL),(iv aM)]::ib aO 26 [aP]::aQ::H)∧Ow R1 28 aN aQ aP aH∧R2 aN aR aJ∧RSl (RI .u8) aN aS aK) ?_ ?_
  ·have m:Mem W ay w (ao::ib b0 64 [aC,(iv av.2.2.1),(iv av.2.2.2)]::ib au 26 [an]::ib af 26 [sn]::H):=m.fr 2
   obtain⟨aT,aU,m,aV⟩:=Ow2.stamp (RI.mono _) aq m
   have aD:=rd1 aU aD
   refine DH [ib b0 64 [aC,(iv av.2.2.1),(iv av.2.2.2)]] (ib au 26 [an]::ib af 26 [sn]::H) 10 AG (by kernel_rfl) m ?_
   refine Bx (i:=0) (ds:=[an]) 10 0 AI Z Z Z Z (by kernel_rfl) Z f Z Z Z λa f=>Ah 1 10 Z f Z λa f=>Bx (i:=2) (ds:=[an]) 10 0 AI Z Z Z Z (by kernel_rfl) Z f Z Z Z λa f=>Cs (i:=3) (j:=8) (l1:= #[true,true,true,true,false,false,false,false,false,false,false]) (l2:= #[true,true,true,false,false,false,false,false,true,false,false]) Z Z (by kernel_rfl) Z Z ?_ ?_
   ·intro aW w aX m aY aY
    have aV:=rd2 aX aV
    have aD:=rd1 aX aD
    have⟨aZ,a0,aG⟩:=bind_some aG
    refine AD f Z call47 (Wk.Q m aD aV a0) λa1 a2 a3 w a4 m a5 a f=> ?_
    obtain⟨a6,a7,a8,rfl,rfl,a9,ba⟩:=a5
    have aV:=rd2 a4 aV
    refine Aa ?_
    refine aY a2 [a7,ib b0 64 [a8,(iv aZ.2.2.1),(iv aZ.2.2.2)]] _ _ a4 m ?_
    refine Cs (i:=4) (j:=8) (l1:= #[true,true,true,true,true,false,false,false,false,false,false]) (l2:= #[true,true,true,true,false,false,false,false,true,false,false]) Z Z (by kernel_rfl) Z Z ?_ ?_
    ·intro bb w bc m bd bd
     have aV:=rd2 bc aV
     have a9:=od1 bc a9
     have ba:=rd1 bc ba
     obtain⟨be,bf,m,bg⟩:=Ow.stamp (RI.mono _) a9 m
     have aV:=rd2 bf aV
     have ba:=rd1 bf ba
     have⟨bh,bi,aG⟩:=bind_some aG
     refine AD f Z call46 (Wk.y m aV bg bi) λbj bk bl w bm m bn a f=> ?_
     obtain⟨bo,bp,rfl,rfl,bq⟩:=bn
     have aV:=rd2 bm aV
     have ba:=rd1 bm ba
     refine Aa ?_
     refine bd bk [bp,ib b0 64 [a8,(iv aZ.2.2.1),(iv aZ.2.2.2)]] _ _ (gt bf bm) m ?_
     refine Ah 5 10 Z f Z λa f=>q_p 6 10 Z f (λ_=>AZ (f.e Z) Z) λa f=>q_p 7 10 Z f (λ_=>AZ (f.e Z) Z) λa f=>AU 8 Z λbr w bs m bt bt=> ?_
     have aV:=rd2 bs aV
     have bq:=Ow.mono (RSl.mono (RI.mono _)) bs bq
     have ba:=rd1 bs ba
     refine A9 (cs:=[sn]) zeroValue26 m f Z Z λbu w a m f=>Aa ?_
     refine bt br [ib bu 26 [sn],bp,ib b0 64 [a8,(iv aZ.2.2.1),(iv aZ.2.2.2)]] _ _ gr m ?_
     refine AU 9 Z λbv w bw m bx bx=> ?_
     have aV:=rd2 bw aV
     have bq:=Ow.mono (RSl.mono (RI.mono _)) bw bq
     have ba:=rd1 bw ba
     refine An 0 0 (ds:=[bo]) m sizeOf26 f Z Z Z (Ar (Ow.one1 1 m bq Z) As) Z (lb Z) Z λw m=>Aa ?_
     refine bx bv [ib bu 26 [bo],bp,ib b0 64 [a8,(iv aZ.2.2.1),(iv aZ.2.2.2)]] _ _ gr m ?_
     refine AJ λbz w bA m=> ?_
     have aV:=rd2 bA aV
     have bq:=Ow.mono (RSl.mono (RI.mono _)) bA bq
     have ba:=rd1 bA ba
     refine Ac f Z λa f=>Aa ?_
     have m:=m.fr 2
     have m:=m.fr 3
     have m:Mem W bz w (ib af 26 [sn]::ib au 26 [an]::ib b0 64 [a8,(iv aZ.2.2.1),(iv aZ.2.2.2)]::ib bu 26 [bo]::bp::H):=m.fr 4
     obtain rfl:=sj aG
     exact⟨_,_,_,_,_,_,Z,_,bu,bo,bp,an,a8,(gt aU (gt aX (gt a4 (gt bc (gt bf (gt bm (gt bs (gt bw bA)))))))),f.k Z,m,bq,aV,ba⟩
    ·intro br w bs m bt bt
     have⟨bh,bi,aG⟩:=bind_some aG
     have aV:=rd2 bs aV
     have a9:=od1 bs a9
     have ba:=rd1 bs ba
     refine A9 (cs:=[sn]) zeroValue26 m f Z Z λbu w a m f=>Aa ?_
     refine bt br [ib bu 26 [sn],a7,ib b0 64 [a8,(iv aZ.2.2.1),(iv aZ.2.2.2)]] _ _ gr m ?_
     refine AU 4 Z λbb w bc m bd bd=> ?_
     have aV:=rd2 bc aV
     have a9:=od1 bc a9
     have ba:=rd1 bc ba
     have m:Mem W bb w (a7::ib bu 26 [sn]::ib b0 64 [a8,(iv aZ.2.2.1),(iv aZ.2.2.2)]::ib au 26 [an]::ib af 26 [sn]::H):=m.fr 1
     obtain⟨be,bf,m,bg⟩:=Ow.stamp (RI.mono _) a9 m
     have aV:=rd2 bf aV
     have ba:=rd1 bf ba
     refine AD f Z call46 (Wk.y m aV bg bi) λbj bk bl w bm m bn a f=> ?_
     obtain⟨bo,bp,rfl,rfl,bq⟩:=bn
     have aV:=rd2 bm aV
     have ba:=rd1 bm ba
     refine Aa ?_
     refine bd bk [bp,ib bu 26 [sn],ib b0 64 [a8,(iv aZ.2.2.1),(iv aZ.2.2.2)]] _ _ (gt bf bm) m ?_
     refine Ah 5 10 Z f Z λa f=>q_p 6 10 Z f (λ_=>AZ (f.e Z) Z) λa f=>q_p 7 10 Z f (λ_=>AZ (f.e Z) Z) λa f=>AU 9 Z λbv w bw m bx bx=> ?_
     have aV:=rd2 bw aV
     have bq:=Ow.mono (RSl.mono (RI.mono _)) bw bq
     have ba:=rd1 bw ba
     refine An 1 0 (ds:=[bo]) m sizeOf26 f Z Z Z (Ar (Ow.one1 0 m bq Z) As) Z (lb Z) Z λw m=>Aa ?_
     refine bx bv [bp,ib bu 26 [bo],ib b0 64 [a8,(iv aZ.2.2.1),(iv aZ.2.2.2)]] _ _ gr m ?_
     refine AJ λbz w bA m=> ?_
     have aV:=rd2 bA aV
     have bq:=Ow.mono (RSl.mono (RI.mono _)) bA bq
     have ba:=rd1 bA ba
     refine Ac f Z λa f=>Aa ?_
     have m:=m.fr 1
     have m:=m.fr 2
     have m:Mem W bz w (ib au 26 [an]::ib b0 64 [a8,(iv aZ.2.2.1),(iv aZ.2.2.2)]::ib bu 26 [bo]::bp::ib af 26 [sn]::H):=m.fr 3
     have m:Mem W bz w (ib af 26 [sn]::ib au 26 [an]::ib b0 64 [a8,(iv aZ.2.2.1),(iv aZ.2.2.2)]::ib bu 26 [bo]::bp::H):=m.fr 4
     obtain rfl:=sj aG
     exact⟨_,_,_,_,_,_,Z,_,bu,bo,bp,an,a8,(gt aU (gt aX (gt a4 (gt bs (gt bc (gt bf (gt bm (gt bw bA)))))))),f.k Z,m,bq,aV,ba⟩
   ·intro br w bs m bt bt
    have⟨aZ,a0,aG⟩:=bind_some aG
    have⟨bh,bi,aG⟩:=bind_some aG
    have aV:=rd2 bs aV
    have aD:=rd1 bs aD
    refine A9 (cs:=[sn]) zeroValue26 m f Z Z λbu w a m f=>Aa ?_
    refine bt br [ib bu 26 [sn],ib b0 64 [aC,(iv av.2.2.1),(iv av.2.2.2)]] _ _ gr m ?_
    refine AU 3 Z λaW w aX m aY aY=> ?_
    have aV:=rd2 aX aV
    have aD:=rd1 aX aD
    have m:Mem W aW w (ib b0 64 [aC,(iv av.2.2.1),(iv av.2.2.2)]::ib bu 26 [sn]::ib au 26 [an]::ib af 26 [sn]::H):=m.fr 1
    refine AD f Z call47 (Wk.Q m aD aV a0) λa1 a2 a3 w a4 m a5 a f=> ?_
    obtain⟨a6,a7,a8,rfl,rfl,a9,ba⟩:=a5
    have aV:=rd2 a4 aV
    refine Aa ?_
    refine aY a2 [a7,ib b0 64 [a8,(iv aZ.2.2.1),(iv aZ.2.2.2)],ib bu 26 [sn]] _ _ a4 m ?_
    refine AU 4 Z λbb w bc m bd bd=> ?_
    have aV:=rd2 bc aV
    have a9:=od1 bc a9
    have ba:=rd1 bc ba
    obtain⟨be,bf,m,bg⟩:=Ow.stamp (RI.mono _) a9 m
    have aV:=rd2 bf aV
    have ba:=rd1 bf ba
    refine AD f Z call46 (Wk.y m aV bg bi) λbj bk bl w bm m bn a f=> ?_
    obtain⟨bo,bp,rfl,rfl,bq⟩:=bn
    have aV:=rd2 bm aV
    have ba:=rd1 bm ba
    refine Aa ?_
    refine bd bk [bp,ib b0 64 [a8,(iv aZ.2.2.1),(iv aZ.2.2.2)],ib bu 26 [sn]] _ _ (gt bf bm) m ?_
    refine Ah 5 10 Z f Z λa f=>q_p 6 10 Z f (λ_=>AZ (f.e Z) Z) λa f=>q_p 7 10 Z f (λ_=>AZ (f.e Z) Z) λa f=>AU 9 Z λbv w bw m bx bx=> ?_
    have aV:=rd2 bw aV
    have bq:=Ow.mono (RSl.mono (RI.mono _)) bw bq
    have ba:=rd1 bw ba
    refine An 2 0 (ds:=[bo]) m sizeOf26 f Z Z Z (Ar (Ow.one1 0 m bq Z) As) Z (lb Z) Z λw m=>Aa ?_
    refine bx bv [bp,ib b0 64 [a8,(iv aZ.2.2.1),(iv aZ.2.2.2)],ib bu 26 [bo]] _ _ gr m ?_
    refine AJ λbz w bA m=> ?_
    have aV:=rd2 bA aV
    have bq:=Ow.mono (RSl.mono (RI.mono _)) bA bq
    have ba:=rd1 bA ba
    refine Ac f Z λa f=>Aa ?_
    have m:=m.fr 2
    have m:=m.fr 2
    have m:Mem W bz w (ib au 26 [an]::ib b0 64 [a8,(iv aZ.2.2.1),(iv aZ.2.2.2)]::ib bu 26 [bo]::bp::ib af 26 [sn]::H):=m.fr 3
    have m:Mem W bz w (ib af 26 [sn]::ib au 26 [an]::ib b0 64 [a8,(iv aZ.2.2.1),(iv aZ.2.2.2)]::ib bu 26 [bo]::bp::H):=m.fr 4
    obtain rfl:=sj aG
    exact⟨_,_,_,_,_,_,Z,_,bu,bo,bp,an,a8,(gt aU (gt bs (gt aX (gt a4 (gt bc (gt bf (gt bm (gt bw bA)))))))),f.k Z,m,bq,aV,ba⟩
  ·rintro a w ⟨aH,aI,aJ,aK,aL,aM,rfl,aN,aO,aP,aQ,aR,aS,bB,f,m,bC,bD,bE⟩
   refine Af ?_
   refine Ab f Z λa f=>Aa ?_
   rcases Ae hd with⟨bF,hd⟩|⟨bF,hd⟩
   ·refine Al f Z bF ?_
    refine Af ?_
    refine Az 3 0 (ds:=[aP]) m AI f Z Z Z Z Z λa f=>An 0 0 (ds:=[aP]) m sizeOf26 f Z Z Z (Ar (Ow.one1 4 m bC Z) As) Z (lb Z) Z λw m=>Aa ?_
    refine Aq ?_
    have m:Mem W aN w (aQ::ib af 26 [aP]::ib au 26 [aR]::ib b0 64 [aS,(iv aL),(iv aM)]::ib aO 26 [aP]::H):=m.fr 4
    obtain⟨bG,bH,m,bI⟩:=Ow.stamp (RSl.mono (RI.mono _)) bC m
    have bE:=rd1 bH bE
    have bJ:=Bq (P:=prog) 0 m AI f (s:=2) rfl rfl rfl
    have m:=m.fr 2
    have m:=m.eraseAt 3
    have m:Mem W bG w (ib b0 64 [aS,(iv aL),(iv aM)]::ib af 26 [aP]::H):=m.eraseAt 2
    have m:=m.eraseAt 1
    obtain rfl:=sj hd
    exact⟨[(.agg #[aP])],⟨bJ,trivial⟩,f.d,_,[ib b0 64 [aS,(iv aL),(iv aM)]],(gt al (gt aA (gt bB bH))),m,_,_,Z,Z,bI,bE⟩
   ·refine Aj f Z bF ?_
    refine Ap ?_
    refine Af ?_
    refine Az 1 0 (ds:=[aR]) m AI f Z Z Z Z Z λa f=>An 0 0 (ds:=[aR]) m sizeOf26 f Z Z Z (Ar bD.one1 As) Z (lb Z) Z λw m=>Aa ?_
    refine Aq ?_
    have bK:=Bq (P:=prog) 0 m AI f (s:=2) rfl rfl rfl
    have m:=m.fr 2
    have m:=m.fr 4
    have m:Mem W aN w (ib b0 64 [aS,(iv aL),(iv aM)]::aQ::ib af 26 [aR]::ib au 26 [aR]::ib aO 26 [aP]::H):=m.fr 1
    have m:=m.eraseAt 4
    have m:=m.eraseAt 3
    have m:Mem W aN w (ib b0 64 [aS,(iv aL),(iv aM)]::aQ::H):=m.eraseAt 2
    have m:=m.eraseAt 1
    obtain rfl:=sj hd
    exact⟨[(.agg #[aR])],⟨bK,trivial⟩,f.d,_,[ib b0 64 [aS,(iv aL),(iv aM)]],(gt al (gt aA bB)),m,_,_,Z,Z,bD,bE⟩
 ·refine Aj f Z aE ?_
  refine Ap ?_
  refine Af ?_
  refine Az 1 0 (ds:=[an]) m AI f Z Z Z Z Z λa f=>An 3 0 (ds:=[an]) m sizeOf26 f Z Z Z (Ar (Ow2.one1 2 m aq Z) As) Z (lb Z) Z λw m=>Aa ?_
  refine Aq ?_
  have m:Mem W ay w (ao::ib b0 64 [aC,(iv av.2.2.1),(iv av.2.2.2)]::ib au 26 [an]::ib af 26 [an]::H):=m.fr 2
  obtain⟨bL,bM,m,bN⟩:=Ow2.stamp (RI.mono _) aq m
  have aD:=rd1 bM aD
  have bO:=Bq (P:=prog) 2 m AI f (s:=2) rfl rfl rfl
  have m:=m.eraseAt 2
  have m:=m.eraseAt 1
  obtain rfl:=sj hd
  exact⟨[(.agg #[an])],⟨bO,trivial⟩,f.d,_,[ib b0 64 [aC,(iv av.2.2.1),(iv av.2.2.2)]],(gt al (gt aA bM)),m,_,_,Z,Z,bN,aD⟩
theorem Wk.c1 {v0:Value}{x0:LI}(m:Mem W G w (H))(h0:RSl (RI .u8) G v0 x0){y:(LL)}(hd:D.c1 x0=some y):
  Calls prog 5 #[v0] w (Res W G H (λG' Ho v=>∃r0:Value,Ho=[]∧v=(.agg #[r0])∧R2 G' r0 y)):=by
 refine Au (args:=[v0]) (N:=8) [.cell 2 26] func5 Z Z (lb Z) Z λa f=> ?_
 unfold D.c1 at hd
 refine Af ?_
 refine A9 (cs:=[sn]) zeroValue26 m f Z Z λaa w a m f=>AB ?_
 refine Ab f Z λa f=> ?_
 have⟨ab,ac,hd⟩:=bind_some hd
 refine AD f Z call16 (Wk.I0 m h0 ac) λad ae af w ag m ah a f=> ?_
 obtain⟨ai,aj,rfl,rfl,ak⟩:=ah
 refine Ac f Z λa f=>AB ?_
 refine Ab f Z λa f=> ?_
 have⟨al,am,hd⟩:=bind_some hd
 refine AD f Z call17 (Wk.v m ak am) λan ao ap w aq m ar a f=> ?_
 obtain⟨au,av,rfl,rfl,aw,ax⟩:=ar
 refine An 1 0 (ds:=[au]) m sizeOf26 f Z Z Z (Ar aw.one1 As) Z (lb Z) Z λw m=>Aa ?_
 refine Aq ?_
 have ay:=Bq (P:=prog) 1 m AI f (s:=2) rfl rfl rfl
 have m:Mem W ao w H:=Mem.drop (H':=[ib aj 64 [av,(iv al.2.2.1),(iv al.2.2.2)],ib aa 26 [au]]) m
 obtain rfl:=sj hd
 exact⟨[(.agg #[au])],⟨ay,trivial⟩,f.d,_,[],(gt ag aq),m,_,Z,Z,aw⟩
theorem Wk.c0 {x0 x1 x2:Int}(m:Mem W G w (H)){y:Bool}(hd:D.c0 x0 x1 x2=some y):
  Calls prog 71 #[(iv x0),(iv x1),(iv x2)] w (Res W G H (λ_ Ho v=>Ho=[]∧v=(.bool y))):=by
 refine Au (args:=[(iv x0),(iv x1),(iv x2)]) (N:=15) [.tmp 6] func71 Z Z (lb Z) Z λa f=> ?_
 unfold D.c0 at hd
 refine Af ?_
 refine Ac f Z λa f=>AB ?_
 refine Ab f Z λa f=>Ab f Z λa f=>Ai f Z Z CN λa f=>Ab f Z λa f=> ?_
 refine Bz 4 (λa w=>∃aa,GLe G aa∧Mem W aa w (H)∧Fr a 15 [(0,(iv x0)),(1,(iv x1)),(2,(iv x2)),(7,(iv x1)),(8,(iv x0)),(9,(.bool (decide (x1≤x0)))),(10,(.bool (decide (x1≤x0)))),(14,(.bool ((decide (x1≤x0))&&(decide (x0≤x2)))))]) ?_ ?_
 ·rcases Bool.eq_false_or_eq_true (decide (x1≤x0)) with ab|ab
  ·refine AC f ab ?_
   refine Ab f Z λa f=>AC f ab ?_
   refine Ab f Z λa f=>AC f ab ?_
   refine Ai f Z Z CN λa f=>l_o f (AK (f.e Z) ab (f.e Z)) λa f=> ?_
   exact⟨_,gr,m,f.weak ⟨Z,Z,Z,Z,Z,Z,Z,by rw[ab];rfl,trivial⟩⟩
  ·refine AE f ab λa f=> ?_
   refine AE f ab λa f=>AE f ab λa f=>l_o f (AP (f.e Z) ab (f.e Z)) λa f=> ?_
   exact⟨_,gr,m,f.weak ⟨Z,Z,Z,Z,Z,Z,Z,by rw[ab];rfl,trivial⟩⟩
 ·rintro a w ⟨aa,ac,m,f⟩
  refine Ac f Z λa f=>Aa ?_
  refine Aq ?_
  obtain rfl:=sj hd
  exact⟨[(.bool ((decide (x1≤x0))&&(decide (x0≤x2))))],f.g Z,f.d,_,[],ac,m,Z,Z⟩
theorem Wk.T {v0:Value}{x0:LI}{x1:Int}(m:Mem W G w (H))(h0:R1 G v0 x0){y:Bool}(hd:D.T x0 x1=some y):
  Calls prog 49 #[v0,(iv x1)] w (Res W G H (λ_ Ho v=>Ho=[]∧v=(.bool y))):=by
 refine Au (args:=[v0,(iv x1)]) (N:=33) [.tmp 4] func49 Z Z (lb Z) Z λa f=> ?_
 unfold D.T at hd
 refine Af ?_
 refine Ac f Z λa f=>Aa (Ag (Af ?_))
 refine Ab f Z λa f=>A8 underlying28 f Z Z h0 λa f=>Ab f Z λa f=>Aa ?_
 have⟨aa,ab,hd⟩:=bind_some hd
 refine AM (λa w=>∃q_181':Unit,aa= .inl q_181'∧∃(ac:GH),GLe G ac∧Fr a 33 []∧Mem W ac w (H)) ?_ ?_
 ·refine Ak ?_
  refine AL (λad a w=>∃ae:Int,ae=ad∧∃(af:GH),GLe G af∧Fr a 33 [(0,v0),(1,(iv x1)),(7,v0),(8,(iv (x0.length:Int))),(9,(iv ae))]∧Mem W af w (H)) ab ⟨_,Z,_,gr,f.k Z,m⟩ ?_
  clear ab f m
  rintro ad ag ah ai a w ⟨ae,rfl,af,aj,f,m⟩
  have h0:=rd1 aj h0
  refine Af ?_
  refine Ai f Z Z AR λa f=>Aa (Ag ?_)
  rcases Ae ah with⟨ak,ah⟩|⟨ak,ah⟩
  ·refine Al f Z ak ?_
   refine Ap ?_
   refine Ag (Ak (Af ?_))
   refine Ab f Z λa f=> ?_
   have⟨al,am,ah⟩:=bind_some ah
   refine Bu T28 f Z Z Z h0 am λan ao a ap aq f=> ?_
   subst aq
   refine AT m Pl2 f Z Z ap λa f=>Ac f Z λa f=>Ac f Z λa f=>AB ?_
   refine Ab f Z λa f=>Ab f Z λa f=>Ai f Z Z AS λa f=> ?_
   have⟨ar,au,ah⟩:=bind_some ah
   refine Bc f Z call71 (Wk.c0 m au) λav w aw m a f=> ?_
   have h0:=rd1 aw h0
   refine l_o f (Bh (f.e Z)) λa f=>Ab f Z λa f=> ?_
   have⟨ax,ay,ah⟩:=bind_some ah
   refine Bz 12 (λa w=>∃az,GLe av az∧Mem W az w (H)∧Fr a 33 [(0,v0),(1,(iv x1)),(5,(iv ae)),(6,(iv al)),(7,v0),(8,(iv (x0.length:Int))),(9,(iv ae)),(14,(iv al)),(15,(iv x1)),(16,(iv (i64.wrap (x1-1)))),(17,(.bool ar)),(18,(.bool (!ar))),(19,(.bool (!ar))),(31,(.bool ax))]) ?_ ?_
   ·rcases Ae ay with⟨aA,ay⟩|⟨aA,ay⟩
    ·refine AE f aA λa f=> ?_
     refine AE f aA λa f=>AE f aA λa f=>CP f Z Z Z λa f=>CP f Z Z Z λa f=>CP f Z Z Z λa f=>CP f Z Z Z λa f=>CP f Z Z Z λa f=>CP f Z Z Z λa f=>CP f Z Z Z λa f=>AE f aA λa f=>l_o f (AK (f.e Z) aA (f.e Z)) λa f=> ?_
     obtain rfl:=sj ay
     exact⟨_,gr,m,f.k Z⟩
    ·refine AC f aA ?_
     refine Ab f Z λa f=>AC f aA ?_
     refine Ai f Z Z Ce λa f=>AC f aA ?_
     refine Ab f Z λa f=> ?_
     have⟨aB,aC,ay⟩:=bind_some ay
     refine Bz 8 (λa w=>∃aD,GLe av aD∧Mem W aD w (H)∧Fr a 33 [(0,v0),(1,(iv x1)),(5,(iv ae)),(6,(iv al)),(7,v0),(8,(iv (x0.length:Int))),(9,(iv ae)),(14,(iv al)),(15,(iv x1)),(16,(iv (i64.wrap (x1-1)))),(17,(.bool ar)),(18,(.bool (!ar))),(19,(.bool (!ar))),(20,(iv ae)),(21,(.bool (decide ((0:Int)<ae)))),(22,(.bool (decide ((0:Int)<ae)))),(30,(.bool aB))]) ?_ ?_
     ·rcases Ae aC with⟨aE,aC⟩|⟨aE,aC⟩
      ·refine AC f aE ?_
       refine Ab f Z λa f=>AC f aE ?_
       refine Ab f Z λa f=>AC f aE ?_
       refine Ai f Z Z AS λa f=>AC f aE ?_
       have⟨aF,aG,aC⟩:=bind_some aC
       refine Bu T28 f Z Z Z h0 aG λaH aI a aJ aK f=> ?_
       subst aK
       refine AC f aE ?_
       refine AT m Pl2 f Z Z aJ λa f=>AC f aE ?_
       refine Ab f Z λa f=>AC f aE ?_
       refine Ai f Z Z CE λa f=>AC f aA ?_
       refine l_o f (AK (f.e Z) aE (f.e Z)) λa f=> ?_
       obtain rfl:=sj aC
       exact⟨_,gr,m,f.k Z⟩
      ·refine AE f aE λa f=> ?_
       refine AE f aE λa f=>AE f aE λa f=>AE f aE λa f=>AE f aE λa f=>AE f aE λa f=>AE f aE λa f=>AC f aA ?_
       refine l_o f (AP (f.e Z) aE (f.e Z)) λa f=> ?_
       obtain rfl:=sj aC
       exact⟨_,gr,m,f.k Z⟩
     ·rintro a w ⟨aD,aL,m,f⟩
      refine l_o f (AP (f.e Z) aA (f.e Z)) λa f=> ?_
      obtain rfl:=sj ay
      exact⟨_,aL,m,f.k Z⟩
   ·rintro a w ⟨az,aM,m,f⟩
    refine Aa ?_
    rcases Ae ah with⟨aN,ah⟩|⟨aN,ah⟩
    ·refine Al f Z aN ?_
     refine Af ?_
     refine Ac f Z λa f=>Aa ?_
     refine Aq ?_
     obtain rfl:=sj ah
     obtain rfl:=ai _ rfl
     obtain rfl:=sj hd
     exact⟨[(.bool false)],f.g Z,f.d,_,[],(gt aj (gt aw aM)),m,Z,Z⟩
    ·refine Aj f Z aN ?_
     refine Ap ?_
     refine Ao ?_
     refine Ai f Z Z Ax λa f=>Ab f Z λa f=>Aa ?_
     obtain rfl:=sj ah
     exact⟨_,Z,_,Z,_,(gt aj (gt aw aM)),f.k Z,m⟩
  ·refine Aj f Z ak ?_
   refine AH Z ?_
   obtain rfl:=sj ah
   obtain rfl:=ai _ rfl
   exact⟨_,Z,_,aj,f.weak trivial,m⟩
 ·rintro a w ⟨_,rfl,ac,aO,f,m⟩
  refine Af ?_
  refine Ac f Z λa f=>Aa ?_
  refine Aq ?_
  obtain rfl:=sj hd
  exact⟨[(.bool true)],f.g Z,f.d,_,[],aO,m,Z,Z⟩
theorem Wk.l {aa:Value}{ab:LL}(m:Mem W G w (H))(ac:R2 G aa ab){y:Bool}(hd:D.l ab=some y):
  Calls prog 21 #[(.agg #[aa])] w (Res W G H (λ_ Ho v=>Ho=[]∧v=(.bool y))):=by
 refine Au (args:=[(.agg #[aa])]) (N:=61) [.tmp 2] func21 Z Z (lb Z) Z λa f=> ?_
 unfold D.l at hd
 refine Af ?_
 refine Bj (cs:=[aa]) m f Z Z Z λad w a m f=>Ac f Z λa f=>AB ?_
 refine Bo underlying26 Z sizeOf24 f Z λa f=>AA 0 0 m Bt f Z Z Z Z λa f=>A8 underlying24 f Z Z ac λa f=>Ac f Z λa f=>Aa (Ag (Af ?_))
 refine Ab f Z λa f=>Ai f Z Z AR λa f=>Ab f Z λa f=> ?_
 refine Bz 3 (λa w=>∃ae,GLe G ae∧Mem W ae w (ib ad 26 [aa]::H)∧Fr a 61 [(0,(.agg #[aa])),(1,(pb ad)),(3,(iv (ab.length:Int))),(13,(iv (ab.length:Int))),(14,(.bool (decide ((ab.length:Int)<1)))),(15,(.bool (decide ((ab.length:Int)<1)))),(18,(.bool ((decide ((ab.length:Int)<1))||(decide ((16:Int)<(ab.length:Int))))))]) ?_ ?_
 ·rcases Bool.eq_false_or_eq_true (decide ((ab.length:Int)<1)) with af|af
  ·refine AE f af λa f=> ?_
   refine AE f af λa f=>l_o f (AK (f.e Z) af (f.e Z)) λa f=> ?_
   exact⟨_,gr,m,f.weak ⟨Z,Z,Z,Z,Z,Z,by rw[af];rfl,trivial⟩⟩
  ·refine AC f af ?_
   refine Ab f Z λa f=>AC f af ?_
   refine Ai f Z Z Ce λa f=>l_o f (AP (f.e Z) af (f.e Z)) λa f=> ?_
   exact⟨_,gr,m,f.weak ⟨Z,Z,Z,Z,Z,Z,by rw[af];rfl,trivial⟩⟩
 ·rintro a w ⟨ae,ag,m,f⟩
  have ac:=rd2 ag ac
  refine Aa ?_
  rcases Ae hd with⟨ah,hd⟩|⟨ah,hd⟩
  ·refine Al f Z ah ?_
   refine Af ?_
   refine Ac f Z λa f=>Aa ?_
   refine Aq ?_
   have m:Mem W ae w H:=Mem.drop (H':=[ib ad 26 [aa]]) m
   obtain rfl:=sj hd
   exact⟨[(.bool false)],f.g Z,f.d,_,[],ag,m,Z,Z⟩
  ·refine Aj f Z ah ?_
   refine Ap ?_
   refine Ag (Af ?_)
   refine Bo underlying26 Z sizeOf24 f Z λa f=>AA 0 0 m Bt f Z Z Z Z λa f=>A8 underlying24 f Z Z ac λa f=>Ab f Z λa f=>Aa ?_
   have⟨ai,aj,hd⟩:=bind_some hd
   refine AM (λa w=>∃q_91':Unit,ai= .inl q_91'∧∃(ak:GH),GLe ae ak∧Fr a 61 [(1,(pb ad))]∧Mem W ak w (ib ad 26 [aa]::H)) ?_ ?_
   ·refine Ak ?_
    refine AL (λal a w=>∃am:Int,am=al∧∃(an:GH),GLe ae an∧Fr a 61 [(1,(pb ad)),(3,(iv (ab.length:Int))),(20,aa),(21,(iv (ab.length:Int))),(22,(iv am))]∧Mem W an w (ib ad 26 [aa]::H)) aj ⟨_,Z,_,gr,f.k Z,m⟩ ?_
    clear aj f m
    rintro al ao ap aq a w ⟨am,rfl,an,ar,f,m⟩
    have ac:=rd2 ar ac
    refine Af ?_
    refine Ai f Z Z AR λa f=>Aa (Ag ?_)
    rcases Ae ap with⟨au,ap⟩|⟨au,ap⟩
    ·refine Al f Z au ?_
     refine Ap ?_
     refine Ag (Ak (Af ?_))
     refine Ab f Z λa f=> ?_
     have⟨av,aw,ap⟩:=bind_some ap
     refine Bu T24 f Z Z Z ac aw λax ay a az aA f=>AT m B3 f Z Z az λa f=>Ac f Z λa f=>Ac f Z λa f=>AB ?_
     refine Ab f Z λa f=>Ab f Z λa f=> ?_
     have⟨aB,aC,ap⟩:=bind_some ap
     refine Bc f Z call49 (Wk.T m aA aC) λaD w aE m a f=> ?_
     have aA:=rd1 aE aA
     refine l_o f (Bh (f.e Z)) λa f=>Ab f Z λa f=> ?_
     have⟨aF,aG,ap⟩:=bind_some ap
     refine Bz 4 (λa w=>∃aH,GLe aD aH∧Mem W aH w (ib ad 26 [aa]::H)∧Fr a 61 [(1,(pb ad)),(3,(iv (ab.length:Int))),(4,(iv am)),(5,ay),(20,aa),(21,(iv (ab.length:Int))),(22,(iv am)),(27,ay),(28,(iv (ab.length:Int))),(29,(.bool aB)),(30,(.bool (!aB))),(31,(.bool (!aB))),(35,(.bool aF))]) ?_ ?_
     ·rcases Ae aG with⟨aI,aG⟩|⟨aI,aG⟩
      ·refine AE f aI λa f=> ?_
       refine AE f aI λa f=>AE f aI λa f=>l_o f (AK (f.e Z) aI (f.e Z)) λa f=> ?_
       obtain rfl:=sj aG
       exact⟨_,gr,m,f.k Z⟩
      ·refine AC f aI ?_
       refine Ab f Z λa f=>AC f aI ?_
       refine Ab f Z λa f=>AC f aI ?_
       have⟨aJ,aK,aG⟩:=bind_some aG
       refine Bc f Z call50 (Wk.t m aA aK) λaL w aM m a f=>l_o f (AP (f.e Z) aI (f.e Z)) λa f=> ?_
       obtain rfl:=sj aG
       exact⟨_,aM,m,f.k Z⟩
     ·rintro a w ⟨aH,aN,m,f⟩
      refine Aa ?_
      rcases Ae ap with⟨aO,ap⟩|⟨aO,ap⟩
      ·refine Al f Z aO ?_
       refine Af ?_
       refine Ac f Z λa f=>Aa ?_
       refine Aq ?_
       have m:Mem W aH w H:=Mem.drop (H':=[ib ad 26 [aa]]) m
       obtain rfl:=sj ap
       obtain rfl:=aq _ rfl
       obtain rfl:=sj hd
       exact⟨[(.bool false)],f.g Z,f.d,_,[],(gt ag (gt ar (gt aE aN))),m,Z,Z⟩
      ·refine Aj f Z aO ?_
       refine Ap ?_
       refine Ao ?_
       refine Ai f Z Z Ax λa f=>Ab f Z λa f=>Aa ?_
       obtain rfl:=sj ap
       exact⟨_,Z,_,Z,_,(gt ar (gt aE aN)),f.k Z,m⟩
    ·refine Aj f Z au ?_
     refine AH Z ?_
     obtain rfl:=sj ap
     obtain rfl:=aq _ rfl
     exact⟨_,Z,_,ar,f.k Z,m⟩
   ·rintro a w ⟨_,rfl,ak,aP,f,m⟩
    have ac:=rd2 aP ac
    refine Ag (Af ?_)
    refine Bo underlying26 Z sizeOf24 f Z λa f=>AA 0 0 m Bt f Z Z Z Z λa f=>A8 underlying24 f Z Z ac λa f=>Ab f Z λa f=>Aa ?_
    have⟨aQ,aR,hd⟩:=bind_some hd
    refine AM (λa w=>∃q_394':Unit,aQ= .inl q_394'∧∃(aS:GH),GLe ak aS∧Fr a 61 []∧Mem W aS w (H)) ?_ ?_
    ·refine Ak ?_
     refine AL (λaT a w=>∃aU:Int,aU=aT∧∃(aV:GH),GLe ak aV∧Fr a 61 [(1,(pb ad)),(38,aa),(39,(iv (ab.length:Int))),(40,(iv aU))]∧Mem W aV w (ib ad 26 [aa]::H)) aR ⟨_,Z,_,gr,f.k Z,m⟩ ?_
     clear aR f m
     rintro aT aW aX aY a w ⟨aU,rfl,aV,aZ,f,m⟩
     have ac:=rd2 aZ ac
     refine Af ?_
     refine Ai f Z Z AR λa f=>Aa (Ag ?_)
     rcases Ae aX with⟨a0,aX⟩|⟨a0,aX⟩
     ·refine Al f Z a0 ?_
      refine Ap ?_
      refine Ag (Ak (Af ?_))
      refine Ab f Z λa f=> ?_
      have⟨a1,a2,aX⟩:=bind_some aX
      refine Bu T24 f Z Z Z ac a2 λa3 a4 a a5 a6 f=>AT m B3 f Z Z a5 λa f=>Ac f Z λa f=>Ac f Z λa f=>AB ?_
      refine Ab f Z λa f=>A8 underlying28 f Z Z a6 λa f=>Ab f Z λa f=>Aa ?_
      have⟨a7,a8,aX⟩:=bind_some aX
      refine AM (λa w=>∃q_560':Unit,a7= .inl q_560'∧∃(a9:GH),GLe aV a9∧Fr a 61 [(1,(pb ad)),(38,aa),(39,(iv (ab.length:Int))),(40,(iv aU))]∧Mem W a9 w (ib ad 26 [aa]::H)) ?_ ?_
      ·refine Ak ?_
       refine AL (λba a w=>∃bb:Int,bb=ba∧∃(bc:GH),GLe aV bc∧Fr a 61 [(1,(pb ad)),(6,(iv aU)),(38,aa),(39,(iv (ab.length:Int))),(40,(iv aU)),(45,a4),(46,(iv (a1.length:Int))),(47,(iv bb))]∧Mem W bc w (ib ad 26 [aa]::H)) a8 ⟨_,Z,_,gr,f.k Z,m⟩ ?_
       clear a8 f m
       rintro ba bd be bf a w ⟨bb,rfl,bc,bg,f,m⟩
       have ac:=rd2 bg ac
       have a6:=rd1 bg a6
       refine Af ?_
       refine Ai f Z Z AR λa f=>Aa (Ag ?_)
       rcases Ae be with⟨bh,be⟩|⟨bh,be⟩
       ·refine Al f Z bh ?_
        refine Ap ?_
        refine Ag (Ak (Af ?_))
        have⟨bi,bj,be⟩:=bind_some be
        refine Bu T28 f Z Z Z a6 bj λbk bl a bm bn f=> ?_
        subst bn
        refine AT m Pl2 f Z Z bm λa f=>Ac f Z λa f=>AB ?_
        refine Bo underlying26 Z sizeOf24 f Z λa f=>AA 0 0 m Bt f Z Z Z Z λa f=>Ab f Z λa f=> ?_
        have⟨bo,bp,be⟩:=bind_some be
        refine Bu T24 f Z Z Z ac bp λbq br a bs bt f=>AT m B3 f Z Z bs λa f=>Ab f Z λa f=> ?_
        have⟨bu,bv,be⟩:=bind_some be
        refine Bc f Z call50 (Wk.t m bt bv) λbw w bx m a f=>l_o f (Bh (f.e Z)) λa f=>Aa ?_
        rcases Ae be with⟨bz,be⟩|⟨bz,be⟩
        ·refine Al f Z bz ?_
         refine Af ?_
         refine Ac f Z λa f=>Aa ?_
         refine Aq ?_
         have m:Mem W bw w H:=Mem.drop (H':=[ib ad 26 [aa]]) m
         obtain rfl:=sj be
         obtain rfl:=bf _ rfl
         obtain rfl:=sj aX
         obtain rfl:=aY _ rfl
         obtain rfl:=sj hd
         exact⟨[(.bool false)],f.g Z,f.d,_,[],(gt ag (gt aP (gt aZ (gt bg bx)))),m,Z,Z⟩
        ·refine Aj f Z bz ?_
         refine Ap ?_
         refine Ao ?_
         refine Ai f Z Z Ax λa f=>Ab f Z λa f=>Aa ?_
         obtain rfl:=sj be
         exact⟨_,Z,_,Z,_,(gt bg bx),f.k Z,m⟩
       ·refine Aj f Z bh ?_
        refine AH Z ?_
        obtain rfl:=sj be
        obtain rfl:=bf _ rfl
        exact⟨_,Z,_,bg,f.k Z,m⟩
      ·rintro a w ⟨_,rfl,a9,bA,f,m⟩
       refine Ao ?_
       refine Ai f Z Z Ax λa f=>Ab f Z λa f=>Aa ?_
       obtain rfl:=sj aX
       exact⟨_,Z,_,Z,_,(gt aZ bA),f.k Z,m⟩
     ·refine Aj f Z a0 ?_
      refine AH Z ?_
      have m:Mem W aV w H:=Mem.drop (H':=[ib ad 26 [aa]]) m
      obtain rfl:=sj aX
      obtain rfl:=aY _ rfl
      exact⟨_,Z,_,aZ,f.weak trivial,m⟩
    ·rintro a w ⟨_,rfl,aS,bB,f,m⟩
     refine Af ?_
     refine Ac f Z λa f=>Aa ?_
     refine Aq ?_
     obtain rfl:=sj hd
     exact⟨[(.bool true)],f.g Z,f.d,_,[],(gt ag (gt aP bB)),m,Z,Z⟩
theorem Wk.a {x0:Int}(m:Mem W G w (H)){y:Int}(hd:D.a x0=some y):
  Calls prog 26 #[(iv x0)] w (Res W G H (λ_ Ho v=>Ho=[]∧v=(.int .u32 y))):=by
 refine Au (args:=[(iv x0)]) (N:=5) [.tmp 2] func26 Z Z (lb Z) Z λa f=> ?_
 unfold D.a at hd
 refine Af ?_
 refine Ac f Z λa f=>AB ?_
 refine Ab f Z λa f=> ?_
 obtain⟨aa,hd⟩:=Dc hd
 refine l_o f (r_shl (f.e Z) (f.e Z) aa) λa f=>Ac f Z λa f=>Aa ?_
 refine Aq ?_
 obtain rfl:=sj hd
 exact⟨[(.int .u32 (ishl .u32 1 x0))],f.g Z,f.d,_,[],gr,m,Z,Z⟩
theorem Wk.d0 {v0:Value}{x0:LI}(m:Mem W G w (H))(h0:R1 G v0 x0){y:Int}(hd:D.d0 x0=some y):
  Calls prog 40 #[v0] w (Res W G H (λ_ Ho v=>Ho=[]∧v=(.int .u32 y))):=by
 refine Au (args:=[v0]) (N:=18) [.tmp 2] func40 Z Z (lb Z) Z λa f=> ?_
 unfold D.d0 at hd
 refine Af ?_
 refine Ac f Z λa f=>AB ?_
 refine Ac f Z λa f=>Aa (Ag (Af ?_))
 refine Ab f Z λa f=>A8 underlying28 f Z Z h0 λa f=>Ab f Z λa f=>Aa ?_
 have⟨aa,ab,hd⟩:=bind_some hd
 refine AM (λa w=>∃ac:Int,ac=aa∧∃(ad:GH),GLe G ad∧Fr a 18 [(3,(.int .u32 ac))]∧Mem W ad w (H)) ?_ ?_
 ·refine Ak ?_
  refine AL (λae a w=>∃af:Int,∃ag:Int,(af,ag)=ae∧∃(ah:GH),GLe G ah∧Fr a 18 [(3,(.int .u32 af)),(6,v0),(7,(iv (x0.length:Int))),(8,(iv ag))]∧Mem W ah w (H)) ab ⟨_,_,Z,_,gr,f.k Z,m⟩ ?_
  clear ab f m
  rintro ae ai aj ak a w ⟨af,ag,rfl,ah,al,f,m⟩
  have h0:=rd1 al h0
  refine Af ?_
  refine Ai f Z Z AR λa f=>Aa (Ag ?_)
  rcases Ae aj with⟨am,aj⟩|⟨am,aj⟩
  ·refine Al f Z am ?_
   refine Ap ?_
   refine Ag (Ak (Af ?_))
   have⟨an,ao,aj⟩:=bind_some aj
   refine Bu T28 f Z Z Z h0 ao λap aq a ar au f=> ?_
   subst au
   refine AT m Pl2 f Z Z ar λa f=>Ac f Z λa f=>Aa (Ao ?_)
   refine Ab f Z λa f=>Ab f Z λa f=> ?_
   have⟨av,aw,aj⟩:=bind_some aj
   refine Bc f Z call26 (Wk.a m aw) λax w ay m a f=>Ai f Z Z Dj λa f=>Ac f Z λa f=>Aa (Ao ?_)
   refine Ai f Z Z Ax λa f=>Ab f Z λa f=>Aa ?_
   obtain rfl:=sj aj
   exact⟨_,Z,_,_,Z,_,(gt al ay),f.k Z,m⟩
  ·refine Aj f Z am ?_
   refine AH Z ?_
   obtain rfl:=sj aj
   obtain rfl:=ak _ rfl
   exact⟨_,Z,_,al,f.k Z,m⟩
 ·rintro a w ⟨ac,rfl,ad,az,f,m⟩
  refine Af ?_
  refine Ab f Z λa f=>Ac f Z λa f=>Aa ?_
  refine Aq ?_
  obtain rfl:=sj hd
  exact⟨[(.int .u32 ac)],f.g Z,f.d,_,[],az,m,Z,Z⟩
theorem Wk.j {aa:Value}{ab:LL}(m:Mem W G w (H))(ac:R2 G aa ab){y:(LI)}(hd:D.j ab=some y):
  Calls prog 20 #[(.agg #[aa])] w (Res W G H (λG' Ho v=>∃r0:Value,∃i0:Itm,Ho=[i0]∧r0=v∧Ow (RI .u32) 44 G' i0 r0 y)):=by
 refine Au (args:=[(.agg #[aa])]) (N:=21) [.tmp 2] func20 Z Z (lb Z) Z λa f=> ?_
 unfold D.j at hd
 refine Af ?_
 refine Bj (cs:=[aa]) m f Z Z Z λad w a m f=>Ac f Z λa f=>AB ?_
 refine A4 (R:=(RI .u32)) (xs:=([]:LI)) (RI.one _) m T41 f Z Z Z (by decide) (All2.nil _) λae af w a m ag f=>Ac f Z λa f=>Aa (Ag (Af ?_))
 refine Bo underlying26 Z sizeOf24 f Z λa f=>AA 1 0 m Bt f Z Z Z Z λa f=>A8 underlying24 f Z Z ac λa f=>Ab f Z λa f=>Aa ?_
 have⟨ah,ai,hd⟩:=bind_some hd
 refine AM (λa w=>∃aj:LI,aj=ah∧∃(ak:GH) (al:Value) (am:Itm),GLe G ak∧Fr a 21 [(3,al)]∧Mem W ak w (am::H)∧Ow (RI .u32) 44 ak am al aj) ?_ ?_
 ·refine Ak ?_
  have m:=m.eraseAt 1
  refine AL (λan a w=>∃ao:LI,∃ap:Int,(ao,ap)=an∧∃(aq:GH) (ar:Value) (au:Itm),GLe G aq∧Fr a 21 [(3,ar),(8,aa),(9,(iv (ab.length:Int))),(10,(iv ap))]∧Mem W aq w (au::H)∧Ow (RI .u32) 44 aq au ar ao) ai ⟨_,_,Z,_,af,ae,gr,f.k Z,m,ag⟩ ?_
  clear ai f m
  rintro an av aw ax a w ⟨ao,ap,rfl,aq,ar,au,ay,f,m,az⟩
  have ac:=rd2 ay ac
  refine Af ?_
  refine Ai f Z Z AR λa f=>Aa (Ag ?_)
  rcases Ae aw with⟨aA,aw⟩|⟨aA,aw⟩
  ·refine Al f Z aA ?_
   refine Ap ?_
   refine Ag (Ak (Af ?_))
   have⟨aB,aC,aw⟩:=bind_some aw
   refine Bu T24 f Z Z Z ac aC λaD aE a aF aG f=>AT m B3 f Z Z aF λa f=>Ac f Z λa f=>Aa (Ao ?_)
   refine Ab f Z λa f=>Ab f Z λa f=> ?_
   have⟨aH,aI,aw⟩:=bind_some aw
   refine Bc f Z call40 (Wk.d0 m aG aI) λaJ w aK m a f=> ?_
   have az:=od1 aK az
   refine A4 (R:=(RI .u32)) (xs:=([aH]:LI)) (RI.one _) m T41 f Z Z Z (by decide) (All2.cons Z (All2.nil _)) λaL aM w a m aN f=> ?_
   have⟨aO,aP,aw⟩:=bind_some aw
   refine A6 (RI.one _) 1 m az Z T41 Z (by decide) f Z Z Z (Ow.src (j:=0) aN m Z) aP λaQ aR w a m aS f=>Ac f Z λa f=>Aa (Ao ?_)
   refine Ai f Z Z Ax λa f=>Ab f Z λa f=>Aa ?_
   have m:=m.fr 1
   have m:=m.eraseAt 1
   obtain rfl:=sj aw
   exact⟨_,Z,_,_,Z,_,aR,aQ,(gt ay aK),f.k Z,m,aS⟩
  ·refine Aj f Z aA ?_
   refine AH Z ?_
   obtain rfl:=sj aw
   obtain rfl:=ax _ rfl
   exact⟨_,Z,_,ar,au,ay,f.k Z,m,az⟩
 ·rintro a w ⟨aj,rfl,ak,al,am,aT,f,m,aU⟩
  refine Af ?_
  refine Ab f Z λa f=>Ac f Z λa f=>Aa ?_
  refine Aq ?_
  obtain rfl:=sj hd
  exact⟨[al],f.g Z,f.d,_,[am],aT,m,_,_,Z,Z,aU⟩
theorem Wk.i1 {x0:Int}(m:Mem W G w (H)){y:Int}(hd:D.i1 x0=some y):
  Calls prog 51 #[(iv x0)] w (Res W G H (λ_ Ho v=>Ho=[]∧v=(.int .u32 y))):=by
 refine Au (args:=[(iv x0)]) (N:=6) [.tmp 2] func51 Z Z (lb Z) Z λa f=> ?_
 unfold D.i1 at hd
 refine Af ?_
 refine Ac f Z λa f=>AB ?_
 refine Ab f Z λa f=> ?_
 obtain⟨aa,hd⟩:=Dc hd
 refine l_o f (r_shl (f.e Z) (f.e Z) aa) λa f=>Ai f Z Z AS λa f=>Ac f Z λa f=>Aa ?_
 refine Aq ?_
 obtain rfl:=sj hd
 exact⟨[(.int .u32 (IntKind.u32.wrap ((ishl .u32 1 x0)-1)))],f.g Z,f.d,_,[],gr,m,Z,Z⟩
theorem Wk.u {v0:Value}{x0:LI}(m:Mem W G w (H))(h0:RSl (RI .u32) G v0 x0){y:Int}(hd:D.u x0=some y):
  Calls prog 25 #[v0] w (Res W G H (λ_ Ho v=>Ho=[]∧v=(.int .u32 y))):=by
 refine Au (args:=[v0]) (N:=6) [.tmp 2] func25 Z Z (lb Z) Z λa f=> ?_
 unfold D.u at hd
 refine Af ?_
 refine Ac f Z λa f=>AB ?_
 refine Ab f Z λa f=>A8 underlying41 f Z Z h0 λa f=> ?_
 have⟨aa,ab,hd⟩:=bind_some hd
 refine Bc f Z call51 (Wk.i1 m ab) λac w ad m a f=>Ac f Z λa f=>Aa ?_
 refine Aq ?_
 obtain rfl:=sj hd
 exact⟨[(.int .u32 aa)],f.g Z,f.d,_,[],ad,m,Z,Z⟩
end Go.Proofs.YtehkdflfnampdaaGreatDoor

set_option maxRecDepth 100000
namespace Go.Proofs.YtehkdflfnampdaaGreatDoor
open Go Go.Sx
open Go.Proofs.Tryz Go.Proofs.YtehkdflfnampdaaGreatDoor.Tryz IntKind
variable {W w : World} {G : GH} {H : List Itm}
theorem T38 :SlT prog 38 3 1 8 (iv 0):=⟨underlying38,Tryz.t3,by kernel_rfl,by kernel_rfl,by kernel_rfl,by kernel_rfl⟩
theorem Pl44 :BS prog 44:=isAgg44
theorem Wk.j0 {x0:Int}(hW:CF W)(m:Mem W G w (H)){y:Int}(hd:D.j0 x0=some y):
  Calls prog 70 #[(.int .u32 x0)] w (Res W G H (λ_ Ho v=>Ho=[]∧v=(iv y))):=by
 refine Au (args:=[(.int .u32 x0)]) (N:=5) [.tmp 2] func70 Z Z (lb Z) Z λa f=> ?_
 unfold D.j0 at hd
 refine Af ?_
 refine Ac f Z λa f=>AB ?_
 refine Ab f Z λa f=> ?_
 have⟨aa,ab,hd⟩:=bind_some hd
 refine Bc f Z call90 (Wk.k1 hW m ab) λac w ad m a f=>Ac f Z λa f=>Aa ?_
 refine Aq ?_
 obtain rfl:=sj hd
 exact⟨[(iv aa)],f.g Z,f.d,_,[],ad,m,Z,Z⟩
theorem Wk.h {x0:Int}(hW:CF W)(m:Mem W G w (H)){y:(LI)}(hd:D.h x0=some y):
  Calls prog 48 #[(.int .u32 x0)] w (Res W G H (λG' Ho v=>∃r0:Value,∃i0:Itm,Ho=[i0]∧r0=v∧Ow R0 3 G' i0 r0 y)):=by
 refine Au (args:=[(.int .u32 x0)]) (N:=17) [.tmp 2] func48 Z Z (lb Z) Z λa f=> ?_
 unfold D.h at hd
 refine Af ?_
 refine Ac f Z λa f=>AB ?_
 refine A4 (R:=R0) (xs:=([]:LI)) (RI.one _) m T38 f Z Z Z (by decide) (All2.nil _) λaa ab w a m ac f=>Ac f Z λa f=>Aa (Ag ?_)
 have⟨ad,ae,hd⟩:=bind_some hd
 refine AM (λa w=>∃af:LI,af=ad∧∃(ag:GH) (ah:Value) (ai:Itm),GLe G ag∧Fr a 17 [(3,ah)]∧Mem W ag w (ai::H)∧Ow R0 3 ag ai ah af) ?_ ?_
 ·refine Ak ?_
  refine AL (λaj a w=>∃ak:Int,∃al:LI,(ak,al)=aj∧∃(am:GH) (an:Value) (ao:Itm),GLe G am∧Fr a 17 [(0,(.int .u32 ak)),(3,an)]∧Mem W am w (ao::H)∧Ow R0 3 am ao an al) ae ⟨_,_,Z,_,ab,aa,gr,f.k Z,m,ac⟩ ?_
  clear ae f m
  rintro aj ap aq ar a w ⟨ak,al,rfl,am,an,ao,au,f,m,av⟩
  refine Ag (Af ?_)
  refine Ab f Z λa f=>Ai f Z Z DG λa f=>Aa ?_
  rcases Ae aq with⟨aw,aq⟩|⟨aw,aq⟩
  ·refine Al f Z aw ?_
   refine Ap ?_
   refine Ag (Ak (Ao ?_))
   refine Ab f Z λa f=>Ab f Z λa f=> ?_
   have⟨ax,ay,aq⟩:=bind_some aq
   refine Bc f Z call70 (Wk.j0 hW m ay) λaz w aA m a f=> ?_
   have av:=od1 aA av
   refine A4 (R:=R0) (xs:=([ax]:LI)) (RI.one _) m T38 f Z Z Z (by decide) (All2.cons Z (All2.nil _)) λaB aC w a m aD f=> ?_
   have⟨aE,aF,aq⟩:=bind_some aq
   refine A6 (RI.one _) 1 m av Z T38 Z (by decide) f Z Z Z (Ow.src (j:=0) aD m Z) aF λaG aH w a m aI f=>Ac f Z λa f=>Aa (Ao ?_)
   refine Ab f Z λa f=>Ab f Z λa f=>Ai f Z Z AS λa f=>Ai f Z Z CT λa f=>Ac f Z λa f=>Aa ?_
   have m:=m.fr 1
   have m:=m.eraseAt 1
   obtain rfl:=sj aq
   exact⟨_,Z,_,_,Z,_,aH,aG,(gt au aA),f.k Z,m,aI⟩
  ·refine Aj f Z aw ?_
   refine AH Z ?_
   obtain rfl:=sj aq
   obtain rfl:=ar _ rfl
   exact⟨_,Z,_,an,ao,au,f.k Z,m,av⟩
 ·rintro a w ⟨af,rfl,ag,ah,ai,aJ,f,m,aK⟩
  refine Af ?_
  refine Ab f Z λa f=>Ac f Z λa f=>Aa ?_
  refine Aq ?_
  obtain rfl:=sj hd
  exact⟨[ah],f.g Z,f.d,_,[ai],aJ,m,_,_,Z,Z,aK⟩
theorem Wk.h0 {x0:Int}(m:Mem W G w (H)){y:Int}(hd:D.h0 x0=some y):
  Calls prog 41 #[(.int .u32 x0)] w (Res W G H (λ_ Ho v=>Ho=[]∧v=(iv y))):=by
 refine Au (args:=[(.int .u32 x0)]) (N:=5) [.tmp 2] func41 Z Z (lb Z) Z λa f=> ?_
 unfold D.h0 at hd
 refine Af ?_
 refine Ac f Z λa f=>AB ?_
 refine Ab f Z λa f=> ?_
 have⟨aa,ab,hd⟩:=bind_some hd
 refine Bc f Z call60 (Wk.d1 m ab) λac w ad m a f=>Ac f Z λa f=>Aa ?_
 refine Aq ?_
 obtain rfl:=sj hd
 exact⟨[(iv aa)],f.g Z,f.d,_,[],ad,m,Z,Z⟩
theorem Wk.A {v0:Value}{x0:LI}{x1:Int}(hW:CF W)(m:Mem W G w (H))(h0:RSl (RI .u32) G v0 x0){y:Int}(hd:D.A x0 x1=some y):
  Calls prog 37 #[v0,(.int .u32 x1)] w (Res W G H (λ_ Ho v=>Ho=[]∧v=(iv y))):=by
 refine Au (args:=[v0,(.int .u32 x1)]) (N:=30) [.tmp 4] func37 Z Z (lb Z) Z λa f=> ?_
 unfold D.A at hd
 refine Af ?_
 refine Ac f Z λa f=>AB ?_
 refine Ac f Z λa f=>Aa (Ag (Af ?_))
 refine Ab f Z λa f=> ?_
 have⟨aa,ab,hd⟩:=bind_some hd
 refine AD f Z call48 (Wk.h hW m ab) λac ad ae w af m ag a f=> ?_
 obtain⟨ah,ai,rfl,rfl,aj⟩:=ag
 have h0:=rd1 af h0
 refine Bv 0 m aj Z underlying38 f Z Z λa f=>Ab f Z λa f=>Aa ?_
 have⟨ak,al,hd⟩:=bind_some hd
 refine AM (λa w=>∃am:Int,am=ak∧∃(an:GH),GLe ad an∧Fr a 30 [(5,(iv am))]∧Mem W an w (H)) ?_ ?_
 ·refine Ak ?_
  refine AL (λao a w=>∃ap:Int,∃aq:Int,(ap,aq)=ao∧∃(ar:GH),GLe ad ar∧Fr a 30 [(0,v0),(1,(.int .u32 x1)),(5,(iv ap)),(9,ah),(10,(iv (aa.length:Int))),(11,(iv aq))]∧Mem W ar w (ai::H)) al ⟨_,_,Z,_,gr,f.k Z,m⟩ ?_
  clear al f m
  rintro ao au av aw a w ⟨ap,aq,rfl,ar,ax,f,m⟩
  have h0:=rd1 ax h0
  have aj:=od1 ax aj
  refine Af ?_
  refine Ai f Z Z AR λa f=>Aa (Ag ?_)
  rcases Ae av with⟨ay,av⟩|⟨ay,av⟩
  ·refine Al f Z ay ?_
   refine Ap ?_
   refine Ag (Ak (Af ?_))
   have⟨az,aA,av⟩:=bind_some av
   refine A5 0 m aj Z T38 f Z Z Z aA λaB a aC f=>BB 0 m aj Z Pl3 f Z Z aC aA λaD a aE f=> ?_
   subst aE
   refine Ac f Z λa f=>Aa ?_
   refine A2 13 AG (by kernel_rfl) m ?_
   refine Ah 0 13 Z f Z λa f=>Ah 1 13 Z f Z λa f=>Ah 2 13 Z f Z λa f=>Ah 3 13 Z f Z λa f=> ?_
   have⟨aF,aG,av⟩:=bind_some av
   refine BF 4 13 T41 h0 aG Z f Z Z λaH aI a aJ aK f=> ?_
   subst aK
   refine BG 5 13 Pl44 aJ Z f Z λa f=>q_p 6 13 Z f (λ_=>AF (f.e Z) (f.e Z) B5) λa f=>Ah 7 13 Z f Z λa f=> ?_
   have⟨aL,aM,av⟩:=bind_some av
   refine AW (i:=8) 13 Z (by kernel_rfl) Z f Z Z Z call26 (λ_ _ w aN m=>Wk.a m aM) λa f=>q_p 9 13 Z f (λ_=>AF (f.e Z) (f.e Z) B5) λa f=> ?_
   have⟨aO,aP,av⟩:=bind_some av
   refine AW (i:=10) 13 Z (by kernel_rfl) Z f Z Z Z call41 (λ_ _ w aQ m=>Wk.h0 m aP) λa f=>q_p 11 13 Z f (λ_=>AF (f.e Z) (f.e Z) Ax) λa f=>q_p 12 13 Z f (λ_=>Ct (f.e Z)) λa f=>AJ λaR w aS m=>Aa (Ao ?_)
   refine Ai f Z Z Ax λa f=>Ab f Z λa f=>Aa ?_
   obtain rfl:=sj av
   exact⟨_,Z,_,_,Z,_,(gt ax aS),f.k Z,m⟩
  ·refine Aj f Z ay ?_
   refine AH Z ?_
   have m:Mem W ar w H:=Mem.drop (H':=[ai]) m
   obtain rfl:=sj av
   obtain rfl:=aw _ rfl
   exact⟨_,Z,_,ax,f.k Z,m⟩
 ·rintro a w ⟨am,rfl,an,aT,f,m⟩
  refine Af ?_
  refine Ab f Z λa f=>Ai f Z Z (D4 Z) λa f=>Ac f Z λa f=>Aa ?_
  refine Aq ?_
  obtain rfl:=sj hd
  exact⟨[(iv (i64.wrap (Int.tdiv am 2)))],f.g Z,f.d,_,[],(gt af aT),m,Z,Z⟩
theorem Wk.e0 {v0:Value}{x0:LI}(hW:CF W)(m:Mem W G w (H))(h0:RSl (RI .u32) G v0 x0){y:(LI)}(hd:D.e0 x0=some y):
  Calls prog 19 #[v0] w (Res W G H (λG' Ho v=>∃r0:Value,∃i0:Itm,Ho=[i0]∧r0=v∧Ow R0 3 G' i0 r0 y∧isNil r0=y.isEmpty)):=by
 refine Au (args:=[v0]) (N:=42) [.tmp 2] func19 Z Z (lb Z) Z λa f=> ?_
 unfold D.e0 at hd
 refine Af ?_
 refine Ac f Z λa f=>AB ?_
 refine A4 (R:=R0) (xs:=([]:LI)) (RI.one _) m T38 f Z Z Z (by decide) (All2.nil _) λaa ab w a m ac f=>Ac f Z λa f=>Aa (Ag (Af ?_))
 refine Ab f Z λa f=> ?_
 have⟨ad,ae,hd⟩:=bind_some hd
 refine Bc f Z call25 (Wk.u m h0 ae) λaf w ag m a f=> ?_
 have h0:=rd1 ag h0
 have ac:=od1 ag ac
 refine Ac f Z λa f=>Aa ?_
 have⟨ah,ai,hd⟩:=bind_some hd
 refine AM (λa w=>∃q_275':LI,ah= .inl q_275'∧∃aj:LI,aj=q_275'∧∃(ak:GH) (al:Value) (am:Itm),GLe af ak∧Fr a 42 [(3,al)]∧Mem W ak w (am::H)∧Ow R0 3 ak am al aj) ?_ ?_
 ·refine Ak ?_
  refine AL (λan a w=>∃ao:LI,∃ap:Int,(ao,ap)=an∧∃(aq:GH) (ar:Value) (au:Itm),GLe af aq∧Fr a 42 [(0,v0),(3,ar),(4,(.int .u32 ap))]∧Mem W aq w (au::H)∧Ow R0 3 aq au ar ao) ai ⟨_,_,Z,_,ab,aa,gr,f.k Z,m,ac⟩ ?_
  clear ai f m
  rintro an av aw ax a w ⟨ao,ap,rfl,aq,ar,au,ay,f,m,az⟩
  have h0:=rd1 ay h0
  refine Ag (Af ?_)
  refine Ab f Z λa f=>Ai f Z Z DG λa f=>Aa ?_
  rcases Ae aw with⟨aA,aw⟩|⟨aA,aw⟩
  ·refine Al f Z aA ?_
   refine Ap ?_
   refine Ak (Af ?_)
   refine Ac f Z λa f=>Aa (Ag (Af ?_))
   refine Ab f Z λa f=> ?_
   have⟨aB,aC,aw⟩:=bind_some aw
   refine AD f Z call48 (Wk.h hW m aC) λaD aE aF w aG m aH a f=> ?_
   obtain⟨aI,aJ,rfl,rfl,aK⟩:=aH
   have h0:=rd1 aG h0
   have az:=od1 aG az
   refine Bv 0 m aK Z underlying38 f Z Z λa f=>Ab f Z λa f=>Aa ?_
   have⟨aL,aM,aw⟩:=bind_some aw
   refine AM (λa w=>∃aN:Int,aN=aL∧∃(aO:GH),GLe aE aO∧Fr a 42 [(0,v0),(3,ar),(4,(.int .u32 ap)),(5,(iv aN))]∧Mem W aO w (au::H)) ?_ ?_
   ·refine Ak ?_
    have m:=m.fr 1
    refine AL (λaP a w=>∃aQ:Int,aQ=aP∧∃(aR:GH),GLe aE aR∧Fr a 42 [(0,v0),(3,ar),(4,(.int .u32 ap)),(5,(iv (-1))),(14,aI),(15,(iv (aB.length:Int))),(16,(iv aQ))]∧Mem W aR w (au::aJ::H)) aM ⟨_,Z,_,gr,f.k Z,m⟩ ?_
    clear aM f m
    rintro aP aS aT aU a w ⟨aQ,rfl,aR,aV,f,m⟩
    have h0:=rd1 aV h0
    have aK:=od1 aV aK
    refine Af ?_
    refine Ai f Z Z AR λa f=>Aa (Ag ?_)
    rcases Ae aT with⟨aW,aT⟩|⟨aW,aT⟩
    ·refine Al f Z aW ?_
     refine Ap ?_
     refine Ag (Ak (Af ?_))
     have⟨aX,aY,aT⟩:=bind_some aT
     refine A5 1 m aK Z T38 f Z Z Z aY λaZ a a0 f=>BB 1 m aK Z Pl3 f Z Z a0 aY λa1 a a2 f=> ?_
     subst a2
     refine Ac f Z λa f=>AB ?_
     refine Ab f Z λa f=>Ab f Z λa f=>Ab f Z λa f=> ?_
     have⟨a3,a4,aT⟩:=bind_some aT
     refine Bu T41 f Z Z Z h0 a4 λa5 a6 a a7 a8 f=> ?_
     subst a8
     refine AT m Pl44 f Z Z a7 λa f=>Ab f Z λa f=>Ai f Z Z CT λa f=> ?_
     have⟨a9,ba,aT⟩:=bind_some aT
     refine Bc f Z call37 (Wk.A hW m h0 ba) λbb w bc m a f=>Ai f Z Z By λa f=>Aa ?_
     rcases Ae aT with⟨bd,aT⟩|⟨bd,aT⟩
     ·refine Al f Z bd ?_
      refine Af ?_
      refine Ab f Z λa f=>Ac f Z λa f=>Aa ?_
      refine AH Z ?_
      have m:=m.eraseAt 1
      obtain rfl:=sj aT
      obtain rfl:=aU _ rfl
      exact⟨_,Z,_,(gt aV bc),f.k Z,m⟩
     ·refine Aj f Z bd ?_
      refine Ap ?_
      refine Ao ?_
      refine Ai f Z Z Ax λa f=>Ab f Z λa f=>Aa ?_
      obtain rfl:=sj aT
      exact⟨_,Z,_,Z,_,(gt aV bc),f.k Z,m⟩
    ·refine Aj f Z aW ?_
     refine AH Z ?_
     have m:=m.eraseAt 1
     obtain rfl:=sj aT
     obtain rfl:=aU _ rfl
     exact⟨_,Z,_,aV,f.k Z,m⟩
   ·rintro a w ⟨aN,rfl,aO,be,f,m⟩
    have az:=od1 be az
    refine Ag (Af ?_)
    refine Ab f Z λa f=>Ai f Z Z AR λa f=>Aa ?_
    rcases Ae aw with⟨bf,aw⟩|⟨bf,aw⟩
    ·refine Al f Z bf ?_
     refine Af ?_
     refine Ac f Z λa f=>Aa ?_
     refine Aq ?_
     obtain⟨bg,m,bh⟩:=Ow.nil R0 3 m
     have m:=m.eraseAt 1
     obtain rfl:=sj aw
     obtain rfl:=ax _ rfl
     obtain rfl:=sj hd
     exact⟨[sn],f.g Z,f.d,_,[bg],(gt ag (gt ay (gt aG be))),m,_,_,Z,Z,bh,Z⟩
    ·refine Aj f Z bf ?_
     refine Ap ?_
     refine Af ?_
     refine Ab f Z λa f=>Ab f Z λa f=> ?_
     have⟨bi,bj,aw⟩:=bind_some aw
     refine Bc f Z call26 (Wk.a m bj) λbk w bl m a f=> ?_
     have az:=od1 bl az
     refine Ai f Z Z B5 λa f=>Ac f Z λa f=>Aa (Ao ?_)
     refine Ab f Z λa f=>Ab f Z λa f=>A4 (R:=R0) (xs:=([aN]:LI)) (RI.one _) m T38 f Z Z Z (by decide) (All2.cons Z (All2.nil _)) λbm bn w a m bo f=> ?_
     have⟨bp,bq,aw⟩:=bind_some aw
     refine A6 (RI.one _) 1 m az Z T38 Z (by decide) f Z Z Z (Ow.src (j:=0) bo m Z) bq λbr bs w a m bt f=>Ac f Z λa f=>Aa ?_
     have m:=m.fr 1
     have m:=m.eraseAt 1
     obtain rfl:=sj aw
     exact⟨_,Z,_,_,Z,_,bs,br,(gt ay (gt aG (gt be bl))),f.k Z,m,bt⟩
  ·refine Aj f Z aA ?_
   refine AH Z ?_
   obtain rfl:=sj aw
   obtain rfl:=ax _ rfl
   exact⟨_,Z,_,Z,_,ar,au,ay,f.k Z,m,az⟩
 ·rintro a w ⟨_,rfl,aj,rfl,ak,al,am,bu,f,m,bv⟩
  refine Af ?_
  refine Ab f Z λa f=>Ac f Z λa f=>Aa ?_
  refine Aq ?_
  have⟨_,bw,hd⟩:=bind_some hd
  have hx_555':=Ow.notNil 0 m bv rfl bw
  obtain rfl:=sj hd
  exact⟨[al],f.g Z,f.d,_,[am],(gt ag bu),m,_,_,Z,Z,bv,hx_555'⟩
theorem Wk.s {aa:Value}{ab:LL}(hW:CF W)(m:Mem W G w (H))(ac:R2 G aa ab){y:Bool}(hd:D.s ab=some y):
  Calls prog 9 #[(.agg #[aa])] w (Res W G H (λ_ Ho v=>Ho=[]∧v=(.bool y))):=by
 refine Au (args:=[(.agg #[aa])]) (N:=11) [.tmp 2] func9 Z Z (lb Z) Z λa f=> ?_
 unfold D.s at hd
 refine Af ?_
 refine Bj (cs:=[aa]) m f Z Z Z λad w a m f=>Ac f Z λa f=>AB ?_
 refine Az 0 0 (ds:=[aa]) m AI f Z Z Z Z Z λa f=> ?_
 have⟨ae,af,hd⟩:=bind_some hd
 refine Bc f Z call21 (Wk.l m ac af) λag w ah m a f=> ?_
 have ac:=rd2 ah ac
 refine Ab f Z λa f=> ?_
 have⟨ai,aj,hd⟩:=bind_some hd
 refine Bz 5 (λa w=>∃ak,GLe ag ak∧Mem W ak w (ib ad 26 [aa]::H)∧Fr a 11 [(0,(.agg #[aa])),(1,(pb ad)),(3,(.agg #[aa])),(4,(.bool ae)),(5,(.bool ae)),(10,(.bool ai))]) ?_ ?_
 ·rcases Ae aj with⟨al,aj⟩|⟨al,aj⟩
  ·refine AC f al ?_
   refine Az 0 0 (ds:=[aa]) m AI f Z Z Z Z Z λa f=>AC f al ?_
   have⟨am,an,aj⟩:=bind_some aj
   refine AD f Z call20 (Wk.j m ac an) λao ap aq w ar m au a f=> ?_
   obtain⟨av,aw,rfl,rfl,ax⟩:=au
   refine AC f al ?_
   obtain⟨ay,az,m,aA⟩:=Ow.stamp (RI.mono _) ax m
   have⟨aB,aC,aj⟩:=bind_some aj
   refine AD f Z call19 (Wk.e0 hW m aA aC) λaD aE aF w aG m aH a f=> ?_
   obtain⟨aI,aJ,rfl,rfl,aK,aL⟩:=aH
   refine AC f al ?_
   refine l_o f (r_nil_neq (f.e Z) (f.e Z) (Ow.hdr 0 m aK Z) underlying38 aL) λa f=>l_o f (AK (f.e Z) al (f.e Z)) λa f=> ?_
   obtain rfl:=sj aj
   have m:=m.fr 1
   have m:=m.eraseAt 1
   exact⟨_,(gt ar (gt az aG)),m,f.k Z⟩
  ·refine AE f al λa f=> ?_
   refine AE f al λa f=>AE f al λa f=>AE f al λa f=>l_o f (AP (f.e Z) al (f.e Z)) λa f=> ?_
   obtain rfl:=sj aj
   exact⟨_,gr,m,f.k Z⟩
 ·rintro a w ⟨ak,aM,m,f⟩
  refine Ac f Z λa f=>Aa ?_
  refine Aq ?_
  have m:Mem W ak w H:=Mem.drop (H':=[ib ad 26 [aa]]) m
  obtain rfl:=sj hd
  exact⟨[(.bool ai)],f.g Z,f.d,_,[],(gt ah aM),m,Z,Z⟩
theorem Wk.z {v0:Value}{x0:LI}(m:Mem W G w (H))(h0:R1 G v0 x0){y:(LI)}(hd:D.z x0=some y):
  Calls prog 18 #[v0] w (Res W G H (λG' Ho v=>∃r0:Value,∃i0:Itm,Ho=[i0]∧r0=v∧Ow R0 2 G' i0 r0 y)):=by
 refine Au (args:=[v0]) (N:=21) [.tmp 2] func18 Z Z (lb Z) Z λa f=> ?_
 unfold D.z at hd
 refine Af ?_
 refine Ac f Z λa f=>AB ?_
 refine Ab f Z λa f=>A8 underlying38 f Z Z h0 λa f=> ?_
 have⟨aa,ab,hd⟩:=bind_some hd
 refine Dv (R:=R0) m T28 Z (by decide) Z f Z Z Z ab λac ad w a m ae f=>Ac f Z λa f=>Aa (Ag (Af ?_))
 refine Ab f Z λa f=>A8 underlying38 f Z Z h0 λa f=>Ab f Z λa f=>Aa ?_
 have⟨af,ag,hd⟩:=bind_some hd
 refine AM (λa w=>∃ah:LI,ah=af∧∃(ai:GH) (aj:Value) (ak:Itm),GLe G ai∧Fr a 21 [(3,aj)]∧Mem W ai w (ak::H)∧Ow R0 2 ai ak aj ah) ?_ ?_
 ·refine Ak ?_
  refine AL (λal a w=>∃am:LI,∃an:Int,(am,an)=al∧∃(ao:GH) (ap:Value) (aq:Itm),GLe G ao∧Fr a 21 [(3,ap),(9,v0),(10,(iv (x0.length:Int))),(11,(iv an))]∧Mem W ao w (aq::H)∧Ow R0 2 ao aq ap am) ag ⟨_,_,Z,_,ad,ac,gr,f.k Z,m,ae⟩ ?_
  clear ag f m
  rintro al ar au av a w ⟨am,an,rfl,ao,ap,aq,aw,f,m,ax⟩
  have h0:=rd1 aw h0
  refine Af ?_
  refine Ai f Z Z AR λa f=>Aa (Ag ?_)
  rcases Ae au with⟨ay,au⟩|⟨ay,au⟩
  ·refine Al f Z ay ?_
   refine Ap ?_
   refine Ag (Ak (Af ?_))
   have⟨az,aA,au⟩:=bind_some au
   refine Bu T38 f Z Z Z h0 aA λaB aC a aD aE f=> ?_
   subst aE
   refine AT m Pl3 f Z Z aD λa f=>Ac f Z λa f=>Aa (Ao ?_)
   refine Ab f Z λa f=>Ab f Z λa f=>A4 (R:=R0) (xs:=([az]:LI)) (RI.one _) m T28 f Z Z Z (by decide) (All2.cons Z (All2.nil _)) λaF aG w a m aH f=> ?_
   have⟨aI,aJ,au⟩:=bind_some au
   refine A6 (RI.one _) 1 m ax Z T28 Z (by decide) f Z Z Z (Ow.src (j:=0) aH m Z) aJ λaK aL w a m aM f=>Ac f Z λa f=>Aa (Ao ?_)
   refine Ai f Z Z Ax λa f=>Ab f Z λa f=>Aa ?_
   have m:=m.fr 1
   have m:=m.eraseAt 1
   obtain rfl:=sj au
   exact⟨_,Z,_,_,Z,_,aL,aK,aw,f.k Z,m,aM⟩
  ·refine Aj f Z ay ?_
   refine AH Z ?_
   obtain rfl:=sj au
   obtain rfl:=av _ rfl
   exact⟨_,Z,_,ap,aq,aw,f.k Z,m,ax⟩
 ·rintro a w ⟨ah,rfl,ai,aj,ak,aN,f,m,aO⟩
  refine Af ?_
  refine Ab f Z λa f=>Ac f Z λa f=>Aa ?_
  refine Aq ?_
  obtain rfl:=sj hd
  exact⟨[aj],f.g Z,f.d,_,[ak],aN,m,_,_,Z,Z,aO⟩
theorem Wk.J {aa:Value}{ab:LL}(hW:CF W)(m:Mem W G w (H))(ac:R2 G aa ab){y:(LI)×Bool}(hd:D.J ab=some y):
  Calls prog 6 #[(.agg #[aa])] w (Res W G H (λG' Ho v=>∃r0:Value,∃i0:Itm,Ho=[i0]∧v= .tuple #[r0,(.bool y.2)]∧Ow R0 2 G' i0 r0 y.1)):=by
 refine Au (args:=[(.agg #[aa])]) (N:=11) [.tmp 2,.tmp 3] func6 Z Z (lb Z) Z λa f=> ?_
 unfold D.J at hd
 refine Af ?_
 refine Bj (cs:=[aa]) m f Z Z Z λad w a m f=>Ac f Z λa f=>Ac f Z λa f=>Aa (Ag (Af ?_))
 refine Az 0 0 (ds:=[aa]) m AI f Z Z Z Z Z λa f=> ?_
 have⟨ae,af,hd⟩:=bind_some hd
 refine Bc f Z call9 (Wk.s hW m ac af) λag w ah m a f=> ?_
 have ac:=rd2 ah ac
 refine l_o f (Bh (f.e Z)) λa f=>Aa ?_
 rcases Ae hd with⟨ai,hd⟩|⟨ai,hd⟩
 ·refine Al f Z ai ?_
  refine Af ?_
  refine Ac f Z λa f=>Ac f Z λa f=>Aa ?_
  refine Aq ?_
  obtain⟨aj,m,ak⟩:=Ow.nil R0 2 m
  have m:=m.eraseAt 1
  obtain rfl:=sj hd
  exact⟨[sn,(.bool false)],⟨f.get _ _ Z,f.get _ _ Z,trivial⟩,f.d,_,[aj],ah,m,_,_,Z,Z,ak⟩
 ·refine Aj f Z ai ?_
  refine Ap ?_
  refine Af ?_
  refine Az 0 0 (ds:=[aa]) m AI f Z Z Z Z Z λa f=> ?_
  have⟨al,am,hd⟩:=bind_some hd
  refine AD f Z call20 (Wk.j m ac am) λan ao ap w aq m ar a f=> ?_
  obtain⟨au,av,rfl,rfl,aw⟩:=ar
  obtain⟨ax,ay,m,az⟩:=Ow.stamp (RI.mono _) aw m
  have⟨aA,aB,hd⟩:=bind_some hd
  refine AD f Z call19 (Wk.e0 hW m az aB) λaC aD aE w aF m aG a f=> ?_
  obtain⟨aH,aI,rfl,rfl,aJ,aK⟩:=aG
  have⟨aL,aM,hd⟩:=bind_some hd
  refine AD f Z call18 (Ow.lendCall (RI.mono _) 0 aJ m Z (λaN aO m aP=>Wk.z m aP aM) (λ_ G' _ _ ⟨a0,a1,e1,e2,o0⟩=>⟨a0,a1,e1,e2,Ow.free (RI.free _) G' o0⟩)) λaQ aR aS w aT m aU a f=> ?_
  obtain⟨aV,aW,rfl,rfl,aX⟩:=aU
  refine Ac f Z λa f=>Ac f Z λa f=>Aa ?_
  refine Aq ?_
  have m:=m.eraseAt 2
  have m:=m.eraseAt 1
  obtain rfl:=sj hd
  exact⟨[aV,(.bool true)],⟨f.get _ _ Z,f.get _ _ Z,trivial⟩,f.d,_,[aW],(gt ah (gt aq (gt ay (gt aF aT)))),m,_,_,Z,Z,aX⟩
theorem Wk.m {x0 x1:Int}(m:Mem W G w (H)){y:Bool}(hd:D.m x0 x1=some y):
  Calls prog 23 #[(.int .u32 x0),(iv x1)] w (Res W G H (λ_ Ho v=>Ho=[]∧v=(.bool y))):=by
 refine Au (args:=[(.int .u32 x0),(iv x1)]) (N:=10) [.tmp 4] func23 Z Z (lb Z) Z λa f=> ?_
 unfold D.m at hd
 refine Af ?_
 refine Ac f Z λa f=>AB ?_
 refine Ab f Z λa f=>Ab f Z λa f=> ?_
 obtain⟨aa,hd⟩:=Dc hd
 refine l_o f (DZ (f.e Z) (f.e Z) aa) λa f=>Ai f Z Z CT λa f=>Ai f Z Z By λa f=>Ac f Z λa f=>Aa ?_
 refine Aq ?_
 obtain rfl:=sj hd
 exact⟨[(.bool ((iand .u32 (BC .u32 x0 x1) 1)==1))],f.g Z,f.d,_,[],gr,m,Z,Z⟩
theorem Wk.m0 {v0:Value}{x0:LI}{x1 x2:Int}(hW:CF W)(m:Mem W G w (H))(h0:RSl (RI .u32) G v0 x0){y:(LI)}(hd:D.m0 x0 x1 x2=some y):
  Calls prog 24 #[v0,(iv x1),(.int .u32 x2)] w (Res W G H (λG' Ho v=>∃r0:Value,∃i0:Itm,Ho=[i0]∧r0=v∧Ow R0 3 G' i0 r0 y)):=by
 refine Au (args:=[v0,(iv x1),(.int .u32 x2)]) (N:=75) [.tmp 6] func24 Z Z (lb Z) Z λa f=> ?_
 unfold D.m0 at hd
 refine Af ?_
 refine Ac f Z λa f=>AB ?_
 refine Ab f Z λa f=>A8 underlying41 f Z Z h0 λa f=> ?_
 have⟨aa,ab,hd⟩:=bind_some hd
 refine Dv (R:=R0) m T38 Z (by decide) Z f Z Z Z ab λac ad w a m ae f=>Ac f Z λa f=>Aa (Ag (Af ?_))
 refine Ab f Z λa f=>Bv 0 m ae Z underlying38 f Z Z λa f=>Ab f Z λa f=>Aa ?_
 have⟨af,ag,hd⟩:=bind_some hd
 refine AM (λa w=>∃ah:LI,ah=af∧∃(ai:GH) (aj:Itm),GLe G ai∧Fr a 75 [(0,v0),(1,(iv x1)),(2,(.int .u32 x2)),(7,ad)]∧Mem W ai w (aj::H)∧Ow R0 3 ai aj ad ah) ?_ ?_
 ·refine Ak ?_
  refine AL (λak a w=>∃al:LI,∃am:Int,(al,am)=ak∧∃(an:GH) (ao:Itm),GLe G an∧Fr a 75 [(0,v0),(1,(iv x1)),(2,(.int .u32 x2)),(7,ad),(21,(iv (aa.length:Int))),(22,(iv am))]∧Mem W an w (ao::H)∧Ow R0 3 an ao ad al) ag ⟨_,_,Z,_,ac,gr,f.k Z,m,ae⟩ ?_
  clear ag f m
  rintro ak ap aq ar a w ⟨al,am,rfl,an,ao,au,f,m,av⟩
  refine Af ?_
  refine Ai f Z Z AR λa f=>Aa (Ag ?_)
  rcases Ae aq with⟨aw,aq⟩|⟨aw,aq⟩
  ·refine Al f Z aw ?_
   refine Ap ?_
   refine Ag (Ak (Af ?_))
   refine Ab f Z λa f=>Ac f Z λa f=>Aa (Ao ?_)
   refine Ab f Z λa f=>Ab f Z λa f=> ?_
   have⟨ax,ay,aq⟩:=bind_some aq
   refine A5 0 m av Z T38 f Z Z Z ay λaz a aA f=>AO 0 m av Z sizeOf3 f Z Z aA ay Z Z Z λaB w m aC=>Aa (Ao ?_)
   refine Ai f Z Z Ax λa f=>Ab f Z λa f=>Aa ?_
   obtain rfl:=sj aq
   exact⟨_,Z,_,_,Z,_,aB,au,f.k Z,m,aC⟩
  ·refine Aj f Z aw ?_
   refine AH Z ?_
   obtain rfl:=sj aq
   obtain rfl:=ar _ rfl
   exact⟨_,Z,_,ao,au,f.k Z,m,av⟩
 ·rintro a w ⟨ah,rfl,ai,aj,aD,f,m,aE⟩
  have h0:=rd1 aD h0
  refine Af ?_
  refine Ab f Z λa f=>Ab f Z λa f=> ?_
  have⟨aF,aG,hd⟩:=bind_some hd
  refine A5 0 m aE Z T38 f Z Z Z aG λaH a aI f=>AO 0 m aE Z sizeOf3 f Z Z aI aG Z Z Z λaJ w m aK=>Aa (Ag (Af ?_))
  refine Ab f Z λa f=> ?_
  have⟨aL,aM,hd⟩:=bind_some hd
  refine Bc f Z call26 (Wk.a m aM) λaN w aO m a f=> ?_
  have h0:=rd1 aO h0
  have aK:=od1 aO aK
  refine Ab f Z λa f=> ?_
  have⟨aP,aQ,hd⟩:=bind_some hd
  refine Bc f Z call26 (Wk.a m aQ) λaR w aS m a f=> ?_
  have h0:=rd1 aS h0
  have aK:=od1 aS aK
  refine Ac f Z λa f=>Ac f Z λa f=>Ac f Z λa f=>Aa ?_
  have⟨aT,aU,hd⟩:=bind_some hd
  refine AM (λa w=>∃aV:LI,aV=aT∧∃(aW:GH) (aX:Itm),GLe aR aW∧Fr a 75 [(7,ad)]∧Mem W aW w (aX::H)∧Ow R0 3 aW aX ad aV) ?_ ?_
  ·refine Ak ?_
   refine AL (λaY a w=>∃aZ:LI,∃a0:Int,∃a1:Int,∃a2:Int,(aZ,a0,a1,a2)=aY∧∃(a3:GH) (a4:Itm),GLe aR a3∧Fr a 75 [(0,v0),(2,(.int .u32 x2)),(7,ad),(9,(iv a0)),(10,(.int .u32 a1)),(11,(.int .u32 a2))]∧Mem W a3 w (a4::H)∧Ow R0 3 a3 a4 ad aZ) aU ⟨_,_,_,_,Z,_,aJ,gr,f.k Z,m,aK⟩ ?_
   clear aU f m
   rintro aY a5 a6 a7 a w ⟨aZ,a0,a1,a2,rfl,a3,a4,a8,f,m,a9⟩
   have h0:=rd1 a8 h0
   refine Ag (Af ?_)
   refine Ab f Z λa f=>Ai f Z Z DG λa f=>Aa ?_
   rcases Ae a6 with⟨ba,a6⟩|⟨ba,a6⟩
   ·refine Al f Z ba ?_
    refine Ap ?_
    refine Ag (Ak (Af ?_))
    refine Ac f Z λa f=>Aa (Ag (Af ?_))
    refine Ab f Z λa f=> ?_
    have⟨bb,bc,a6⟩:=bind_some a6
    refine AD f Z call48 (Wk.h hW m bc) λbd be bf w bg m bh a f=> ?_
    obtain⟨bi,bj,rfl,rfl,bk⟩:=bh
    have h0:=rd1 bg h0
    have a9:=od1 bg a9
    refine Bv 0 m bk Z underlying38 f Z Z λa f=>Ab f Z λa f=>Aa ?_
    have⟨bl,bm,a6⟩:=bind_some a6
    refine AM (λa w=>∃bn:Int,bn=bl∧∃(bo:GH),GLe be bo∧Fr a 75 [(0,v0),(2,(.int .u32 x2)),(7,ad),(9,(iv a0)),(11,(.int .u32 a2)),(12,(.int .u32 bn))]∧Mem W bo w (a4::H)) ?_ ?_
    ·refine Ak ?_
     have m:=m.fr 1
     refine AL (λbp a w=>∃bq:Int,∃br:Int,(bq,br)=bp∧∃(bs:GH),GLe be bs∧Fr a 75 [(0,v0),(2,(.int .u32 x2)),(7,ad),(9,(iv a0)),(11,(.int .u32 a2)),(12,(.int .u32 bq)),(41,bi),(42,(iv (bb.length:Int))),(43,(iv br))]∧Mem W bs w (a4::bj::H)) bm ⟨_,_,Z,_,gr,f.k Z,m⟩ ?_
     clear bm f m
     rintro bp bt bu bv a w ⟨bq,br,rfl,bs,bw,f,m⟩
     have h0:=rd1 bw h0
     have bk:=od1 bw bk
     refine Af ?_
     refine Ai f Z Z AR λa f=>Aa (Ag ?_)
     rcases Ae bu with⟨bx,bu⟩|⟨bx,bu⟩
     ·refine Al f Z bx ?_
      refine Ap ?_
      refine Ag (Ak (Af ?_))
      have⟨bz,bA,bu⟩:=bind_some bu
      refine A5 1 m bk Z T38 f Z Z Z bA λbB a bC f=>BB 1 m bk Z Pl3 f Z Z bC bA λbD a bE f=> ?_
      subst bE
      refine Ac f Z λa f=>Aa (Ao ?_)
      refine Ab f Z λa f=>Ab f Z λa f=>Ab f Z λa f=> ?_
      have⟨bF,bG,bu⟩:=bind_some bu
      refine Bu T41 f Z Z Z h0 bG λbH bI a bJ bK f=> ?_
      subst bK
      refine AT m Pl44 f Z Z bJ λa f=>Ai f Z Z Dj λa f=>Ac f Z λa f=>Aa (Ao ?_)
      refine Ai f Z Z Ax λa f=>Ab f Z λa f=>Aa ?_
      obtain rfl:=sj bu
      exact⟨_,Z,_,_,Z,_,bw,f.k Z,m⟩
     ·refine Aj f Z bx ?_
      refine AH Z ?_
      have m:=m.eraseAt 1
      obtain rfl:=sj bu
      obtain rfl:=bv _ rfl
      exact⟨_,Z,_,bw,f.k Z,m⟩
    ·rintro a w ⟨bn,rfl,bo,bL,f,m⟩
     have a9:=od1 bL a9
     refine Af ?_
     refine Ab f Z λa f=>Ab f Z λa f=>Ai f Z Z CT λa f=>Ab f Z λa f=>Ai f Z Z B5 λa f=>Ac f Z λa f=>AB ?_
     refine Ab f Z λa f=>Ab f Z λa f=>Ai f Z Z Dj λa f=>Ac f Z λa f=>AB ?_
     refine Ab f Z λa f=> ?_
     have⟨bM,bN,a6⟩:=bind_some a6
     refine AD f Z call48 (Wk.h hW m bN) λbO bP bQ w bR m bS a f=> ?_
     obtain⟨bT,bU,rfl,rfl,bV⟩:=bS
     have a9:=od1 bR a9
     refine Bv 0 m bV Z underlying38 f Z Z λa f=>Ab f Z λa f=>Aa ?_
     have⟨bW,bX,a6⟩:=bind_some a6
     refine AM (λa w=>∃bY:LI,bY=bW∧∃(bZ:GH) (b0:Itm),GLe bP bZ∧Fr a 75 [(0,v0),(2,(.int .u32 x2)),(7,ad),(9,(iv a0)),(10,(.int .u32 (iandNot .u32 (iand .u32 bn x2) a2))),(11,(.int .u32 (ior .u32 a2 (iandNot .u32 (iand .u32 bn x2) a2))))]∧Mem W bZ w (b0::H)∧Ow R0 3 bZ b0 ad bY) ?_ ?_
     ·refine Ak ?_
      have m:=m.fr 1
      refine AL (λb1 a w=>∃b2:LI,∃b3:Int,(b2,b3)=b1∧∃(b4:GH) (b5:Itm),GLe bP b4∧Fr a 75 [(0,v0),(2,(.int .u32 x2)),(7,ad),(9,(iv a0)),(10,(.int .u32 (iandNot .u32 (iand .u32 bn x2) a2))),(11,(.int .u32 (ior .u32 a2 (iandNot .u32 (iand .u32 bn x2) a2)))),(63,bT),(64,(iv (bM.length:Int))),(65,(iv b3))]∧Mem W b4 w (b5::bU::H)∧Ow R0 3 b4 b5 ad b2) bX ⟨_,_,Z,_,a4,gr,f.k Z,m,a9⟩ ?_
      clear bX f m
      rintro b1 b6 b7 b8 a w ⟨b2,b3,rfl,b4,b5,b9,f,m,ca⟩
      have bV:=od1 b9 bV
      refine Af ?_
      refine Ai f Z Z AR λa f=>Aa (Ag ?_)
      rcases Ae b7 with⟨cb,b7⟩|⟨cb,b7⟩
      ·refine Al f Z cb ?_
       refine Ap ?_
       refine Ag (Ak (Af ?_))
       have⟨cc,cd,b7⟩:=bind_some b7
       refine A5 1 m bV Z T38 f Z Z Z cd λce a cf f=>BB 1 m bV Z Pl3 f Z Z cf cd λcg a ch f=> ?_
       subst ch
       refine Ac f Z λa f=>Aa (Ao ?_)
       refine Ab f Z λa f=>Ab f Z λa f=>Ab f Z λa f=> ?_
       have⟨ci,cj,b7⟩:=bind_some b7
       refine A5 0 m ca Z T38 f Z Z Z cj λck a cl f=>AO 0 m ca Z sizeOf3 f Z Z cl cj Z Z Z λcm w m cn=>Aa (Ao ?_)
       refine Ai f Z Z Ax λa f=>Ab f Z λa f=>Aa ?_
       obtain rfl:=sj b7
       exact⟨_,Z,_,_,Z,_,cm,b9,f.k Z,m,cn⟩
      ·refine Aj f Z cb ?_
       refine AH Z ?_
       have m:=m.eraseAt 1
       obtain rfl:=sj b7
       obtain rfl:=b8 _ rfl
       exact⟨_,Z,_,b5,b9,f.k Z,m,ca⟩
     ·rintro a w ⟨bY,rfl,bZ,b0,co,f,m,cp⟩
      refine Ao ?_
      refine Ab f Z λa f=>Ai f Z Z Ax λa f=>Ac f Z λa f=>Aa ?_
      obtain rfl:=sj a6
      exact⟨_,Z,_,_,_,_,Z,_,b0,(gt a8 (gt bg (gt bL (gt bR co)))),f.k Z,m,cp⟩
   ·refine Aj f Z ba ?_
    refine AH Z ?_
    obtain rfl:=sj a6
    obtain rfl:=a7 _ rfl
    exact⟨_,Z,_,a4,a8,f.k Z,m,a9⟩
  ·rintro a w ⟨aV,rfl,aW,aX,cq,f,m,cr⟩
   refine Af ?_
   refine Ab f Z λa f=>Ac f Z λa f=>Aa ?_
   refine Aq ?_
   obtain rfl:=sj hd
   exact⟨[ad],f.g Z,f.d,_,[aX],(gt aD (gt aO (gt aS cq))),m,_,_,Z,Z,cr⟩
end Go.Proofs.YtehkdflfnampdaaGreatDoor
