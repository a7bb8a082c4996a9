/- Parts. -/
import Derived.Test.YthdcaieaajekcaaGreatDoorMo2
import Derived.Test.YthdcaieaajekcaaGreatDoorProg
import Derived.KernelRfl
set_option linter.unusedVariables false
set_option linter.unusedSimpArgs false
set_option linter.unusedSectionVars false
set_option maxRecDepth 100000
namespace Go.Proofs.YthdcaieaajekcaaGreatDoor
open Go Go.Sx
open Go.Proofs.Tryz Go.Proofs.YthdcaieaajekcaaGreatDoor.Tryz IntKind
variable {W w : World} {G : GH} {H : List Itm}
abbrev BF (b:Nat)(p0 p1:Int)(p2:Value):Itm:=ib b 47 [p2,iv p0,(.int .u64 p1)]
theorem T22 :SlT prog 22 5 1 1 (.int .u8 0):=⟨underlying22,Tryz.t5,by kernel_rfl,by kernel_rfl,by kernel_rfl,by kernel_rfl⟩
theorem Pl26 :Cf prog 26:=isAgg26
theorem Pl22 :Cf prog 22:=isAgg22
theorem T27 :SlT prog 27 39 1 24 sn:=⟨underlying27,Tryz.t39,by kernel_rfl,by kernel_rfl,by kernel_rfl,by kernel_rfl⟩
theorem BM :Cf prog 27:=isAgg27
theorem AU :Agg prog 29 1:=⟨isAgg29,sizeOf29⟩
theorem Bu :Cf prog 39:=isAgg39
theorem Wk.i1 {v0:Value}{x0:LI}(m:Mem W G w (H))(h0:RSl (RI .u8) G v0 x0){y:Bool}(hd:D.i1 x0=some y):
  Calls prog 4 #[v0] w (Res W G H (λ_ Ho v=>Ho=[]∧v=(.bool y))):=by
 refine Aw (args:=[v0]) (N:=6) [.tmp 2] func4 Z Z (lb Z) Z λa f=> ?_
 unfold D.i1 at hd
 refine Af (Ac f Z λa f=>Az (Ab f Z λa f=>AS underlying22 f Z Z h0 λa f=>Ah f Z Z BX λa f=>Ac f Z λa f=>Aa (Aq ?_)))
 obtain rfl:=sj hd
 exact⟨[(.bool (decide ((4096:Int)<(x0.length:Int))))],f.g Z,f.d,_,[],gr,m,Z,Z⟩
theorem Wk.y0 {v0:Value}{x0:LI}{x1:Int}(m:Mem W G w (H))(h0:RSl (RI .u8) G v0 x0){y:(LI)×Int×Int}(hd:D.y0 x0 x1=some y):
  Calls prog 5 #[v0,(.int .u64 x1)] w (Res W G H (λG' Ho v=>∃r0:Value,∃c1:Nat,Ho=[BF c1 y.2.1 y.2.2 r0]∧v=(pb c1)∧RSl (RI .u8) G' r0 y.1)):=by
 refine Aw (args:=[v0,(.int .u64 x1)]) (N:=38) [.tmp 4] func5 Z Z (lb Z) Z λa f=> ?_
 unfold D.y0 at hd
 refine Af (Ac f Z λa f=>Az (Ab f Z λa f=>Ab f Z λa f=>Ah f Z Z Dw λa f=>Ab f Z λa f=>AS underlying22 f Z Z h0 λa f=>l_o f (CU (f.e Z) ⟨_,underlying3⟩ underlying26) λa f=>Ah f Z Z Ax λa f=> ?_))
 have aa:∀w,(Instr.build 47 #[(0,v0),(2,(.int .u64 (IntKind.u64.wrap ((IntKind.u64.wrap (x1*7919))+(IntKind.u64.wrap (x0.length:Int))))))]).run prog w= .ok (.agg #[v0,iv 0,(.int .u64 (IntKind.u64.wrap ((IntKind.u64.wrap (x1*7919))+(IntKind.u64.wrap (x0.length:Int)))))]) w:=by intro w;simp[Instr.build,Instr.fill,h0.cells,B6,BT,BB,BO,Bx,B5,BV]
 refine Cr f Z Z aa λa f=>Bv (cs:=[v0,iv 0,(.int .u64 (IntKind.u64.wrap ((IntKind.u64.wrap (x1*7919))+(IntKind.u64.wrap (x0.length:Int)))))]) m f Z Z Z λab w a m f=>Ac f Z λa f=>Aa (Ag (Af (Ac f Z λa f=>Aa (Bd hd λac ad hd=> ?_))))
 refine AH (λa w=>∃ae:Int,ae=ac∧∃(af:GH),GLe G af∧Fr a 38 [(5,pb ab)]∧Mem W af w (ib ab 47 [v0,iv 0,(.int .u64 ae)]::H)) ?_ ?_
 ·refine Al (AE (λag a w=>∃ah:Int,∃ai:Int,(ah,ai)=ag∧∃(aj:GH),GLe G aj∧Fr a 38 [(0,v0),(5,pb ab),(6,iv ah)]∧Mem W aj w (ib ab 47 [v0,iv 0,(.int .u64 ai)]::H)) ad ⟨_,_,Z,_,gr,f.k Z,m⟩ ?_)
  clear ad f m
  rintro ag ak al am a w ⟨ah,ai,rfl,aj,an,f,m⟩
  refine have h0:=rd1 an h0;Ag (Af (Ab f Z λa f=>Ab f Z λa f=>AS underlying22 f Z Z h0 λa f=>Ah f Z Z AJ λa f=>Aa ?_))
  rcases Ae al with⟨ao,al⟩|⟨ao,al⟩
  ·refine An f Z ao (Ao (Ag (Al (A8 15 AR (by kernel_rfl) m (Am 0 15 Z f Z λa f=>Am 1 15 Z f Z λa f=>q_p 2 15 Z f (λ_=>Bm (f.e Z)) λa f=>Cd 3 15 underlying47 Z sizeOf26 Z f Z λa f=>B3 4 15 0 Pl26 Z Z Z f Z λa f=>q_p 5 15 Z f (λ_=>AP (f.e Z) (f.e Z) Dw) λa f=>Am 6 15 Z f Z λa f=>Am 7 15 Z f Z λa f=>Bd al λap aq al=>B1 8 15 T22 h0 aq Z f Z Z λar au a av aw f=> ?_)))))
   subst aw
   refine BR 9 15 Pl5 av Z f Z λa f=>q_p 10 15 Z f (λ_=>CU (f.e Z) ⟨_,underlying5⟩ underlying26) λa f=>q_p 11 15 Z f (λ_=>AP (f.e Z) (f.e Z) Ax) λa f=>q_p 12 15 Z f (λ_=>AP (f.e Z) (f.e Z) Ax) λa f=>q_p 13 15 Z f (λ_=>Bm (f.e Z)) λa f=>Cd 14 15 underlying47 Z sizeOf26 Z f Z λa f=>A4 λax w ay m=>AA 0 2 (ds:=[(.int .u64 (IntKind.u64.wrap ((IntKind.u64.wrap ((IntKind.u64.wrap (ai*1099511628211))+(IntKind.u64.wrap ap)))+3)))]) m sizeOf26 f Z Z Z (Ay Z AQ) Z (lb Z) Z λw m=>Aa (Ak (Ab f Z λa f=>Ah f Z Z Ax λa f=>Ac f Z λa f=>Aa ?_))
   obtain rfl:=sj al
   exact⟨_,Z,_,_,Z,_,(gt an ay),f.k Z,m⟩
  ·refine Ai f Z ao (AB Z ?_)
   obtain rfl:=sj al
   obtain rfl:=am _ rfl
   exact⟨_,Z,_,an,f.k Z,m⟩
 ·rintro a w ⟨ae,rfl,af,az,f,m⟩
  refine have h0:=rd1 az h0;Af (Ab f Z λa f=>Ac f Z λa f=>Aa (Aq ?_))
  obtain rfl:=sj hd
  exact⟨[pb ab],f.g Z,f.d,_,[ib ab 47 [v0,iv 0,(.int .u64 ae)]],az,m,_,_,Z,Z,h0⟩
theorem Wk.j {b0:Nat}{aa:Value}{ab:LI}{ac ad x1:Int}(m:Mem W G w (BF b0 ac ad aa::H))(ae:RSl (RI .u8) G aa ab){y:Int×(LI)×Int×Int}(hd:D.j ab ac ad x1=some y):
  Calls prog 7 #[pb b0,iv x1] w (Res W G H (λG' Ho v=>∃r0:Value,Ho=[BF b0 y.2.2.1 y.2.2.2 r0]∧v=(iv y.1)∧RSl (RI .u8) G' r0 y.2.1)):=by
 refine Aw (args:=[pb b0,iv x1]) (N:=56) [.tmp 4] func7 Z Z (lb Z) Z λa f=> ?_
 unfold D.j at hd
 refine Af (Ac f Z λa f=>Az (Ab f Z λa f=>Ab f Z λa f=>l_o f (Bm (f.e Z)) λa f=>Bn underlying47 Z sizeOf26 f Z λa f=>AI 0 2 m Pl26 f Z Z Z Z λa f=>Ah f Z Z Dw λa f=>Ah f Z Z Ax λa f=>l_o f (Bm (f.e Z)) λa f=>Bn underlying47 Z sizeOf26 f Z λa f=>AA 0 2 (ds:=[(.int .u64 (IntKind.u64.wrap ((IntKind.u64.wrap (ad*6364136223846793005))+1442695040888963407)))]) m sizeOf26 f Z Z Z (Ay Z AQ) Z (lb Z) Z λw m=>Az (Ab f Z λa f=>l_o f (Bm (f.e Z)) λa f=>Bn underlying47 Z sizeOf26 f Z λa f=>AI 0 2 m Pl26 f Z Z Z Z λa f=>l_o f (r_shr (f.e Z) (f.e Z) (by decide)) λa f=>Ah f Z Z CY λa f=>l_o f (CU (f.e Z) ⟨_,underlying26⟩ underlying2) λa f=>Ac f Z λa f=>Aa (Ag (Ag (A8 10 AR (by kernel_rfl) m (Am 0 10 Z f Z λa f=>q_p 1 10 Z f (λ_=>Bm (f.e Z)) λa f=> ?_)))))))
 refine Cd 2 10 underlying47 Z sizeOf3 Z f Z λa f=>B3 3 10 0 Pl3 Z Z Z f Z λa f=>Am 4 10 Z f Z λa f=>q_p 5 10 Z f (λ_=>Bm (f.e Z)) λa f=>Cd 6 10 underlying47 Z sizeOf22 Z f Z λa f=>B3 7 10 0 Pl22 Z Z Z f Z λa f=>DI (i:=8) 10 underlying22 ae Z (by kernel_rfl) Z f Z Z Z λa f=>q_p 9 10 Z f (λ_=>AP (f.e Z) (f.e Z) AJ) λa f=>A4 λaf w ag m=>have ae:=rd1 ag ae;Aa ?_
 rcases Ae hd with⟨ah,hd⟩|⟨ah,hd⟩
 ·refine An f Z ah (Ag (A8 14 AR (by kernel_rfl) m (Am 0 14 Z f Z λa f=>Am 1 14 Z f Z λa f=>q_p 2 14 Z f (λ_=>Bm (f.e Z)) λa f=>Cd 3 14 underlying47 Z sizeOf22 Z f Z λa f=>B3 4 14 0 Pl22 Z Z Z f Z λa f=>Am 5 14 Z f Z λa f=>q_p 6 14 Z f (λ_=>Bm (f.e Z)) λa f=>Cd 7 14 underlying47 Z sizeOf3 Z f Z λa f=>B3 8 14 0 Pl3 Z Z Z f Z λa f=>Bd hd λai aj hd=>B1 9 14 T22 ae aj Z f Z Z λak al a am an f=> ?_)))
  subst an
  refine BR 10 14 Pl5 am Z f Z λa f=>q_p 11 14 Z f (λ_=>CU (f.e Z) ⟨_,underlying5⟩ underlying2) λa f=>q_p 12 14 Z f (λ_=>AP (f.e Z) (f.e Z) Ax) λa f=>q_p 13 14 Z f (λ_=>Cy (f.e Z)) λa f=>A4 λao w ap m=>have ae:=rd1 ap ae;Aa (Ak (Ab f Z λa f=>Ab f Z λa f=>l_o f (Bm (f.e Z)) λa f=>Bn underlying47 Z sizeOf3 f Z λa f=>AI 0 1 m Pl3 f Z Z Z Z λa f=>Ah f Z Z Ax λa f=>l_o f (Bm (f.e Z)) λa f=>Bn underlying47 Z sizeOf3 f Z λa f=>AA 0 1 (ds:=[(iv (i64.wrap (ac+1)))]) m sizeOf3 f Z Z Z (Ay Z AQ) Z (lb Z) Z λw m=>Az (Ab f Z λa f=>Ab f Z λa f=> ?_)))
  obtain⟨aq,hd⟩:=CR hd
  refine Ah f Z Z (b_rem aq) λa f=>Ac f Z λa f=>Aa (Aq ?_)
  obtain rfl:=sj hd
  exact⟨[(iv (Int.tmod (i64.wrap ((i64.wrap (iand .u64 (BI .u64 (IntKind.u64.wrap ((IntKind.u64.wrap (ad*6364136223846793005))+1442695040888963407)) 33) 16777215))+(i64.wrap ai))) x1))],f.g Z,f.d,_,[ib b0 47 [aa,(iv (i64.wrap (ac+1))),(.int .u64 (IntKind.u64.wrap ((IntKind.u64.wrap (ad*6364136223846793005))+1442695040888963407)))]],(gt ag ap),m,_,Z,Z,ae⟩
 ·refine Ai f Z ah (Ao (Af (Ab f Z λa f=>Ab f Z λa f=> ?_)))
  obtain⟨ar,hd⟩:=CR hd
  refine Ah f Z Z (b_rem ar) λa f=>Ac f Z λa f=>Aa (Aq ?_)
  obtain rfl:=sj hd
  exact⟨[(iv (Int.tmod (i64.wrap (iand .u64 (BI .u64 (IntKind.u64.wrap ((IntKind.u64.wrap (ad*6364136223846793005))+1442695040888963407)) 33) 16777215)) x1))],f.g Z,f.d,_,[ib b0 47 [aa,iv ac,(.int .u64 (IntKind.u64.wrap ((IntKind.u64.wrap (ad*6364136223846793005))+1442695040888963407)))]],ag,m,_,Z,Z,ae⟩
theorem Wk.b {x0 x1 x2:Int}(m:Mem W G w (H)){y:Bool}(hd:D.b x0 x1 x2=some y):
  Calls prog 54 #[iv x0,iv x1,iv x2] w (Res W G H (λ_ Ho v=>Ho=[]∧v=(.bool y))):=by
 refine Aw (args:=[iv x0,iv x1,iv x2]) (N:=15) [.tmp 6] func54 Z Z (lb Z) Z λa f=> ?_
 unfold D.b at hd
 refine Af (Ac f Z λa f=>Az (Ab f Z λa f=>Ab f Z λa f=>Ah f Z Z Ck λa f=>Ab f Z λa f=> ?_))
 refine Bi 4 (λa w=>∃aa,GLe G aa∧Mem W aa w (H)∧Fr a 15 [(0,iv x0),(1,iv x1),(2,iv x2),(7,iv x0),(8,iv x1),(9,(.bool (decide (x1≤x0)))),(10,(.bool (decide (x1≤x0)))),(14,(.bool ((decide (x1≤x0))&&(decide (x0≤x2)))))]) ?_ ?_
 ·rcases Bool.eq_false_or_eq_true (decide (x1≤x0)) with ab|ab
  ·exact As f ab (Ab f Z λa f=>As f ab (Ab f Z λa f=>As f ab (Ah f Z Z CA λa f=>l_o f (AD (f.e Z) ab (f.e Z)) λa f=>⟨_,gr,m,f.weak ⟨Z,Z,Z,Z,Z,Z,Z,by rw[ab];rfl,trivial⟩⟩)))
  ·exact Au f ab λa f=>Au f ab λa f=>Au f ab λa f=>l_o f (AC (f.e Z) ab (f.e Z)) λa f=>⟨_,gr,m,f.weak ⟨Z,Z,Z,Z,Z,Z,Z,by rw[ab];rfl,trivial⟩⟩
 ·rintro a w ⟨aa,ac,m,f⟩
  refine Ac f Z λa f=>Aa (Aq ?_)
  obtain rfl:=sj hd
  exact⟨[(.bool ((decide (x1≤x0))&&(decide (x0≤x2))))],f.g Z,f.d,_,[],ac,m,Z,Z⟩
theorem Wk.k0 {x0:Int}(m:Mem W G w (H)){y:(LL)}(hd:D.k0 x0=some y):
  Calls prog 55 #[iv x0] w (Res W G H (λG' Ho v=>∃r0:Value,∃i0:Itm,Ho=[i0]∧v=(.agg #[r0])∧Ow R1 39 G' i0 r0 y)):=by
 refine Aw (args:=[iv x0]) (N:=18) [.cell 2 29] func55 Z Z (lb Z) Z λa f=> ?_
 unfold D.k0 at hd
 refine Af (Bj (cs:=[sn]) zeroValue29 m f Z Z λaa w a m f=>Az ?_)
 have ab:∀w,(Instr.build 29 #[]).run prog w= .ok (.agg #[sn]) w:=by intro w;simp[Instr.build,Instr.fill,B6,BT,BB,BO,Bx,B5,BV]
 refine Cr f Z Z ab λa f=>Bj (cs:=[sn]) zeroValue29 m f Z Z λac w a m f=>AA 0 0 (ds:=[sn]) m sizeOf29 f Z Z Z (Ay Z AQ) Z (lb Z) Z λw m=>Aa (Ag (Af (Ac f Z λa f=>Aa ?_)))
 obtain⟨ad,m,ae⟩:=Ow.nil R1 39 m
 have⟨af,ag,hd⟩:=bind_some hd
 refine AH (λa w=>∃ah:LL,ah=af∧∃(ai:GH) (aj:Value) (ak:Itm),GLe G ai∧Fr a 18 [(2,pb aa),(3,pb ac)]∧Mem W ai w (ib aa 29 [sn]::ib ac 29 [aj]::ak::H)∧Ow R1 39 ai ak aj ah) ?_ ?_
 ·refine Al (have m:=m.fr 1;have m:=m.fr 2;AE (λal a w=>∃am:Int,∃an:LL,(am,an)=al∧∃(ao:GH) (ap:Value) (aq:Itm),GLe G ao∧Fr a 18 [(0,iv x0),(2,pb aa),(3,pb ac),(4,iv am)]∧Mem W ao w (ib aa 29 [sn]::ib ac 29 [ap]::aq::H)∧Ow R1 39 ao aq ap an) ag ⟨_,_,Z,_,sn,ad,gr,f.k Z,m,ae⟩ ?_)
  clear ag f m
  rintro al ar au av a w ⟨am,an,rfl,ao,ap,aq,aw,f,m,ax⟩
  refine Ag (Af (Ab f Z λa f=>Ab f Z λa f=>Ah f Z Z AJ λa f=>Aa ?_))
  rcases Ae au with⟨ay,au⟩|⟨ay,au⟩
  ·refine An f Z ay (Ao (Ag (Al (Ak (Bn underlying29 Z sizeOf27 f Z λa f=>AI 1 0 m BM f Z Z Z Z λa f=>AX (R:=R0) (xs:=([]:LI)) (RI.one _) m T39 f Z Z Z (by decide) (All2.nil _) λaz aA w a m aB f=> ?_)))))
   obtain⟨aC,aD,m,aE⟩:=Ow.stamp (RI.mono _) aB m
   refine have ax:=od3 aD ax;AX (R:=R1) (xs:=([([]:LI)]:LL)) (RSl.one _) m T27 f Z Z Z (by decide) (All2.cons aE (All2.nil _)) λaF aG w a m aH f=>Bd au λaI aJ au=>Be (RSl.one _) 3 m ax Z T27 Z (by decide) f Z Z Z (Ow.src (j:=0) aH m Z) aJ λaK aL w a m aM f=>Bn underlying29 Z sizeOf27 f Z λa f=>AA 2 0 (ds:=[aL]) m sizeOf27 f Z Z (Ow.cells 3 m aM Z) (Ay (Ow.one1 3 m aM Z) AQ) Z (lb Z) Z λw m=>Aa (Ak (Ab f Z λa f=>Ah f Z Z Ax λa f=>Ac f Z λa f=>Aa (have m:=m.fr 3;have m:=m.fr 3;have m:=m.fr 3;have m:=m.eraseAt 3;?_)))
   obtain rfl:=sj au
   exact⟨_,Z,_,_,Z,_,aL,aK,(gt aw aD),f.k Z,m,aM⟩
  ·refine Ai f Z ay (AB Z ?_)
   obtain rfl:=sj au
   obtain rfl:=av _ rfl
   exact⟨_,Z,_,ap,aq,aw,f.k Z,m,ax⟩
 ·rintro a w ⟨ah,rfl,ai,aj,ak,aN,f,m,aO⟩
  refine Af (AN 1 0 (ds:=[aj]) m AU f Z Z Z Z Z λa f=>AA 0 0 (ds:=[aj]) m sizeOf29 f Z Z Z (Ay (Ow.one1 2 m aO Z) AQ) Z (lb Z) Z λw m=>Aa (Aq (have aP:=B8 (P:=prog) 0 m AU f (s:=2) rfl rfl rfl;have m:=m.fr 2;have m:=m.eraseAt 2;have m:=m.eraseAt 1;?_)))
  obtain rfl:=sj hd
  exact⟨[(.agg #[aj])],⟨aP,trivial⟩,f.d,_,[ak],aN,m,_,_,Z,Z,aO⟩
theorem Wk.B {v0:Value}{x0:LI}{x1:Int}(m:Mem W G w (H))(h0:R1 G v0 x0){y:Bool}(hd:D.B x0 x1=some y):
  Calls prog 56 #[v0,iv x1] w (Res W G H (λ_ Ho v=>Ho=[]∧v=(.bool y))):=by
 refine Aw (args:=[v0,iv x1]) (N:=40) [.tmp 4] func56 Z Z (lb Z) Z λa f=> ?_
 unfold D.B at hd
 refine Af (Ac f Z λa f=>Aa (Ag (Af (Ab f Z λa f=>AS underlying39 f Z Z h0 λa f=>Ab f Z λa f=>Ah f Z Z BX λa f=>Aa ?_))))
 rcases Ae hd with⟨aa,hd⟩|⟨aa,hd⟩
 ·refine An f Z aa (Af (Ac f Z λa f=>Aa (Aq ?_)))
  obtain rfl:=sj hd
  exact⟨[(.bool false)],f.g Z,f.d,_,[],gr,m,Z,Z⟩
 ·refine Ai f Z aa (Ao (Ag (Af (Ac f Z λa f=>Aa (Bd hd λab ac hd=> ?_)))))
  refine AH (λa w=>∃q_150':Unit,ab= .inl q_150'∧∃(ad:GH),GLe G ad∧Fr a 40 []∧Mem W ad w (H)) ?_ ?_
  ·refine Al (AE (λae a w=>∃af:Int,af=ae∧∃(ag:GH),GLe G ag∧Fr a 40 [(0,v0),(1,iv x1),(5,iv af)]∧Mem W ag w (H)) ac ⟨_,Z,_,gr,f.k Z,m⟩ ?_)
   clear ac f m
   rintro ae ah ai aj a w ⟨af,rfl,ag,ak,f,m⟩
   refine have h0:=rd1 ak h0;Ag (Af (Ab f Z λa f=>Ab f Z λa f=>AS underlying39 f Z Z h0 λa f=>Ah f Z Z AJ λa f=>Aa ?_))
   rcases Ae ai with⟨al,ai⟩|⟨al,ai⟩
   ·refine An f Z al (Ao (Ag (Al (Ag (A8 24 AR (by kernel_rfl) m (Am 0 24 Z f Z λa f=>Am 1 24 Z f Z λa f=>Bd ai λam an ai=>B1 2 24 T39 h0 an Z f Z Z λao ap a aq ar f=> ?_))))))
    subst ar
    refine BR 3 24 Pl2 aq Z f Z λa f=>Am 4 24 Z f Z λa f=>q_p 5 24 Z f (λ_=>AP (f.e Z) (f.e Z) AT) λa f=>Bd ai λau av ai=>BZ (i:=6) 24 Z (by kernel_rfl) Z f Z Z Z call54 (λ_ _ w aw m=>Wk.b m av) λa f=>q_p 7 24 Z f (λ_=>Bc (f.e Z)) λa f=>Am 8 24 Z f Z λa f=>Bd ai λax ay ai=>BQ (fuel':=0) (listed':= #[true,true,true,true,true,true,true,true,true,true,true,true,true,true,true,true,true,true,true,true,true,true,true,true]) (λa=>Fr a 40 [(0,v0),(1,iv x1),(5,iv af),(13,(.bool (decide (af<(x0.length:Int))))),(16,v0),(17,iv af),(18,ao),(19,iv am),(20,iv x1),(21,(iv (i64.wrap (x1-1)))),(22,(.bool au)),(23,(.bool (!au))),(24,(.bool (!au))),(39,(.bool ax))]) ?_ ?_
    ·intro a f
     refine A4 λaz w aA m=>Aa ?_
     rcases Ae ai with⟨aB,ai⟩|⟨aB,ai⟩
     ·refine An f Z aB (Af (Ac f Z λa f=>Aa (Aq ?_)))
      obtain rfl:=sj ai
      obtain rfl:=aj _ rfl
      obtain rfl:=sj hd
      exact⟨[(.bool false)],f.g Z,f.d,_,[],(gt ak aA),m,Z,Z⟩
     ·refine Ai f Z aB (Ao (Ak (Ab f Z λa f=>Ah f Z Z Ax λa f=>Ac f Z λa f=>Aa ?_)))
      obtain rfl:=sj ai
      exact⟨_,Z,_,Z,_,(gt ak aA),f.k Z,m⟩
    ·intro aC
     rcases Ae ay with⟨aD,ay⟩|⟨aD,ay⟩
     ·refine Ap 9 24 Z f aD λa f=>Ap 10 24 Z f aD λa f=>Ap 11 24 Z f aD λa f=>B7 12 24 Z f λa f=>B7 13 24 Z f λa f=>B7 14 24 Z f λa f=>B7 15 24 Z f λa f=>B7 16 24 Z f λa f=>B7 17 24 Z f λa f=>B7 18 24 Z f λa f=>B7 19 24 Z f λa f=>B7 20 24 Z f λa f=>B7 21 24 Z f λa f=>Ap 22 24 Z f aD λa f=>q_p 23 24 Z f (λ_=>AD (f.e Z) aD (f.e Z)) λa f=> ?_
      obtain rfl:=sj ay
      exact aC _ (f.k Z)
     ·refine Am (hw:=wo f aD) 9 24 Z f Z λa f=>q_p (hw:=wo f aD) 10 24 Z f (λ_=>AP (f.e Z) (f.e Z) BX) λa f=>Am (hw:=wo f aD) 11 24 Z f Z λa f=>Bd ay λaE aF ay=>BQ (fuel':=1) (listed':= #[true,true,true,true,true,true,true,true,true,true,true,true,true,true,true,true,true,true,true,true,true,true,true,false]) (λa=>Fr a 40 [(0,v0),(1,iv x1),(5,iv af),(13,(.bool (decide (af<(x0.length:Int))))),(16,v0),(17,iv af),(18,ao),(19,iv am),(20,iv x1),(21,(iv (i64.wrap (x1-1)))),(22,(.bool au)),(23,(.bool (!au))),(24,(.bool (!au))),(25,iv af),(26,(.bool (decide ((0:Int)<af)))),(27,(.bool (decide ((0:Int)<af)))),(38,(.bool aE))]) ?_ ?_
      ·intro a f
       refine q_p 23 24 Z f (λ_=>AC (f.e Z) aD (f.e Z)) λa f=> ?_
       obtain rfl:=sj ay
       exact aC _ (f.k Z)
      ·intro aG
       rcases Ae aF with⟨aH,aF⟩|⟨aH,aF⟩
       ·refine Am (hw:=wo f aH) 12 24 Z f Z λa f=>Am (hw:=wo f aH) 13 24 Z f Z λa f=>Bd aF λaI aJ aF=>B1 (hw:=wo f aH) 14 24 T39 h0 aJ Z f Z Z λaK aL a aM aN f=> ?_
        subst aN
        refine BR (hw:=wo f aH) 15 24 Pl2 aM Z f Z λa f=>Am (hw:=wo f aH) 16 24 Z f Z λa f=>Am (hw:=wo f aH) 17 24 Z f Z λa f=>q_p (hw:=wo f aH) 18 24 Z f (λ_=>AP (f.e Z) (f.e Z) AT) λa f=>Bd aF λaO aP aF=>B1 (hw:=wo f aH) 19 24 T39 h0 aP Z f Z Z λaQ aR a aS aT f=> ?_
        subst aT
        refine BR (hw:=wo f aH) 20 24 Pl2 aS Z f Z λa f=>q_p (hw:=wo f aH) 21 24 Z f (λ_=>AP (f.e Z) (f.e Z) CA) λa f=>q_p (hw:=wo f aD) 22 24 Z f (λ_=>AD (f.e Z) aH (f.e Z)) λa f=> ?_
        obtain rfl:=sj aF
        exact aG _ (f.k Z)
       ·refine Ap 12 24 Z f aH λa f=>Ap 13 24 Z f aH λa f=>Ap 14 24 Z f aH λa f=>Ap 15 24 Z f aH λa f=>Ap 16 24 Z f aH λa f=>Ap 17 24 Z f aH λa f=>Ap 18 24 Z f aH λa f=>Ap 19 24 Z f aH λa f=>Ap 20 24 Z f aH λa f=>Ap 21 24 Z f aH λa f=>q_p (hw:=wo f aD) 22 24 Z f (λ_=>AC (f.e Z) aH (f.e Z)) λa f=> ?_
        obtain rfl:=sj aF
        exact aG _ (f.k Z)
   ·refine Ai f Z al (AB Z ?_)
    obtain rfl:=sj ai
    obtain rfl:=aj _ rfl
    exact⟨_,Z,_,ak,f.weak trivial,m⟩
  ·rintro a w ⟨_,rfl,ad,aU,f,m⟩
   refine Af (Ac f Z λa f=>Aa (Aq ?_))
   obtain rfl:=sj hd
   exact⟨[(.bool true)],f.g Z,f.d,_,[],aU,m,Z,Z⟩
theorem Wk.h {v0:Value}{x0:LI}(m:Mem W G w (H))(h0:R1 G v0 x0){y:(LI)}(hd:D.h x0=some y):
  Calls prog 87 #[v0] w (Res W G H (λG' Ho v=>∃r0:Value,∃i0:Itm,Ho=[i0]∧r0=v∧Ow R0 2 G' i0 r0 y)):=by
 refine Aw (args:=[v0]) (N:=6) [.tmp 2] func87 Z Z (lb Z) Z λa f=> ?_
 unfold D.h at hd
 refine Af (Ac f Z λa f=>Az (AX (R:=R0) (xs:=([]:LI)) (RI.one _) m T39 f Z Z Z (by decide) (All2.nil _) λaa ab w a m ac f=>Ab f Z λa f=>Bd hd λad ae hd=>Be (RI.one _) 0 m ac Z T39 Z (by decide) f Z Z Z (h0.src m) ae λaf ag w a m ah f=>Ac f Z λa f=>Aa (Aq ?_)))
 obtain rfl:=sj hd
 exact⟨[ag],f.g Z,f.d,_,[af],gr,m,_,_,Z,Z,ah⟩
theorem Wk.g {v0:Value}{x0:LI}{x1:Int}(m:Mem W G w (H))(h0:R1 G v0 x0){y:(LI)}(hd:D.g x0 x1=some y):
  Calls prog 69 #[v0,iv x1] w (Res W G H (λG' Ho v=>∃r0:Value,Ho=[]∧r0=v∧R1 G' r0 y)):=by
 refine Aw (args:=[v0,iv x1]) (N:=46) [.tmp 4] func69 Z Z (lb Z) Z λa f=> ?_
 unfold D.g at hd
 refine Af (Ac f Z λa f=>Az (Ac f Z λa f=>Aa (Ag (Bd hd λaa ab hd=> ?_))))
 refine AH (λa w=>∃ac:Int,ac=aa∧∃(ad:GH),GLe G ad∧Fr a 46 [(0,v0),(1,iv x1),(5,iv ac)]∧Mem W ad w (H)) ?_ ?_
 ·refine Al (AE (λae a w=>∃af:Int,af=ae∧∃(ag:GH),GLe G ag∧Fr a 46 [(0,v0),(1,iv x1),(5,iv af)]∧Mem W ag w (H)) ab ⟨_,Z,_,gr,f.k Z,m⟩ ?_)
  clear ab f m
  rintro ae ah ai aj a w ⟨af,rfl,ag,ak,f,m⟩
  refine have h0:=rd1 ak h0;Ag (Af (Ab f Z λa f=>Ab f Z λa f=>AS underlying39 f Z Z h0 λa f=>Ah f Z Z AJ λa f=>Ab f Z λa f=>Bd ai λal am ai=> ?_))
  refine Bi 7 (λa w=>∃an,GLe ag an∧Mem W an w (H)∧Fr a 46 [(0,v0),(1,iv x1),(5,iv af),(7,iv af),(8,v0),(9,(iv (x0.length:Int))),(10,(.bool (decide (af<(x0.length:Int))))),(11,(.bool (decide (af<(x0.length:Int))))),(18,(.bool al))]) ?_ ?_
  ·rcases Ae am with⟨ao,am⟩|⟨ao,am⟩
   ·refine As f ao (Ab f Z λa f=>As f ao (Ab f Z λa f=>As f ao (Bd am λap aq am=>Bt T39 f Z Z Z h0 aq λar au a av aw f=> ?_)))
    subst aw
    refine As f ao (AL m Pl2 f Z Z av λa f=>As f ao (Ab f Z λa f=>As f ao (Ah f Z Z AJ λa f=>l_o f (AD (f.e Z) ao (f.e Z)) λa f=> ?_)))
    obtain rfl:=sj am
    exact⟨_,gr,m,f.k Z⟩
   ·refine Au f ao λa f=>Au f ao λa f=>Au f ao λa f=>Au f ao λa f=>Au f ao λa f=>Au f ao λa f=>l_o f (AC (f.e Z) ao (f.e Z)) λa f=> ?_
    obtain rfl:=sj am
    exact⟨_,gr,m,f.k Z⟩
  ·rintro a w ⟨an,ax,m,f⟩
   refine Aa ?_
   rcases Ae ai with⟨ay,ai⟩|⟨ay,ai⟩
   ·refine An f Z ay (Ao (Al (Ak (Ab f Z λa f=>Ah f Z Z Ax λa f=>Ac f Z λa f=>Aa ?_))))
    obtain rfl:=sj ai
    exact⟨_,Z,_,Z,_,(gt ak ax),f.k Z,m⟩
   ·refine Ai f Z ay (AB Z ?_)
    obtain rfl:=sj ai
    obtain rfl:=aj _ rfl
    exact⟨_,Z,_,(gt ak ax),f.k Z,m⟩
 ·rintro a w ⟨ac,rfl,ad,az,f,m⟩
  refine have h0:=rd1 az h0;Ag (Af (Ab f Z λa f=>Ab f Z λa f=>AS underlying39 f Z Z h0 λa f=>Ah f Z Z AJ λa f=>Ab f Z λa f=>Bd hd λaA aB hd=> ?_))
  refine Bi 7 (λa w=>∃aC,GLe ad aC∧Mem W aC w (H)∧Fr a 46 [(0,v0),(1,iv x1),(5,iv ac),(21,iv ac),(22,v0),(23,(iv (x0.length:Int))),(24,(.bool (decide (ac<(x0.length:Int))))),(25,(.bool (decide (ac<(x0.length:Int))))),(32,(.bool aA))]) ?_ ?_
  ·rcases Ae aB with⟨aD,aB⟩|⟨aD,aB⟩
   ·refine As f aD (Ab f Z λa f=>As f aD (Ab f Z λa f=>As f aD (Bd aB λaE aF aB=>Bt T39 f Z Z Z h0 aF λaG aH a aI aJ f=> ?_)))
    subst aJ
    refine As f aD (AL m Pl2 f Z Z aI λa f=>As f aD (Ab f Z λa f=>As f aD (Ah f Z Z Bf λa f=>l_o f (AD (f.e Z) aD (f.e Z)) λa f=> ?_)))
    obtain rfl:=sj aB
    exact⟨_,gr,m,f.k Z⟩
   ·refine Au f aD λa f=>Au f aD λa f=>Au f aD λa f=>Au f aD λa f=>Au f aD λa f=>Au f aD λa f=>l_o f (AC (f.e Z) aD (f.e Z)) λa f=> ?_
    obtain rfl:=sj aB
    exact⟨_,gr,m,f.k Z⟩
  ·rintro a w ⟨aC,aK,m,f⟩
   refine have h0:=rd1 aK h0;Aa ?_
   rcases Ae hd with⟨aL,hd⟩|⟨aL,hd⟩
   ·refine An f Z aL (Af (Ab f Z λa f=>Ac f Z λa f=>Aa (Aq ?_)))
    obtain rfl:=sj hd
    exact⟨[v0],f.g Z,f.d,_,[],(gt az aK),m,_,Z,Z,h0⟩
   ·refine Ai f Z aL (Ao (Af (Ab f Z λa f=>Ab f Z λa f=>Bd hd λaM aN hd=>Ei T39 f Z Z h0 (.inl ⟨Z,Z⟩) (.inr ⟨_,_,Z,Z⟩) aN λaO a aP f=>Bd hd λaQ aR hd=>BS f Z call87 (Wk.h m aP aR) λaS aT aU w aV m aW a f=>have h0:=rd1 aV h0;Ab f Z λa f=>AX (R:=R0) (xs:=([x1]:LI)) (RI.one _) m T39 f Z Z Z (by decide) (All2.cons Z (All2.nil _)) λaX aY w a m aZ f=>Bd hd λa0 a1 hd=>Be (RI.one _) 1 m aW Z T39 Z (by decide) f Z Z Z (Ow.src (j:=0) aZ m Z) a1 λa2 a3 w a m a4 f=>Ac f Z λa f=>Az (Ab f Z λa f=>Ab f Z λa f=>Ab f Z λa f=>Bd hd λa5 a6 hd=>Ei T39 f Z Z h0 (.inr ⟨_,_,Z,Z⟩) (.inl ⟨Z,Z⟩) a6 λa7 a a8 f=>Bd hd λa9 ba hd=>Be (RI.one _) 1 m a4 Z T39 Z (by decide) f Z Z Z (a8.src m) ba λbb bc w a m bd f=>Ac f Z λa f=>Aa (Aq (have m:=m.fr 1;?_))))))
    obtain⟨be,bf,m,bg⟩:=Ow.stamp (RI.mono _) bd m
    have m:=m.dp 1
    obtain rfl:=sj hd
    exact⟨[bc],f.g Z,f.d,_,[],(gt az (gt aK (gt aV bf))),m,_,Z,Z,bg⟩
theorem Wk.F {aa:Value}{ab:Itm}{ac:LL}{x1 x2:Int}(m:Mem W G w (ab::H))(ad:Ow R1 39 G ab aa ac){y:(LL)}(hd:D.F ac x1 x2=some y):
  Calls prog 57 #[(.agg #[aa]),iv x1,iv x2] w (Res W G H (λG' Ho v=>∃i0:Itm,Ho=[i0]∧v=(.agg #[aa])∧Ow R1 39 G' i0 aa y)):=by
 refine Aw (args:=[(.agg #[aa]),iv x1,iv x2]) (N:=30) [.cell 6 29] func57 Z Z (lb Z) Z λa f=> ?_
 unfold D.F at hd
 refine Af (Bv (cs:=[aa]) m f Z Z Z λae w a m f=>Bj (cs:=[sn]) zeroValue29 m f Z Z λaf w a m f=>Aa (Ag (A8 11 AR (by kernel_rfl) m (Cd 0 11 underlying29 Z sizeOf27 Z f Z λa f=>B3 1 11 1 BM Z Z Z f Z λa f=>Am 2 11 Z f Z λa f=>Cd 3 11 underlying29 Z sizeOf27 Z f Z λa f=>B3 4 11 1 BM Z Z Z f Z λa f=>Am 5 11 Z f Z λa f=>Bd hd λag ah hd=>A3 6 11 2 m ad T27 ah Z f Z Z λai a aj f=>Bg 7 11 2 ad Bu aj ah Z f Z λak a al f=>Am 8 11 Z f Z λa f=>CK 9 Z λam w an m ao ao=>have al:=rd1 an al;have ad:=od3 an ad;Bd hd λap aq hd=>AZ f Z call69 (Wk.g m al aq) λar au av w aw m ax a f=> ?_))))
 obtain⟨ay,rfl,rfl,az⟩:=ax
 refine have ad:=od3 aw ad;Aa (ao au [] _ _ aw m (Bd hd λaA aB hd=>A3 10 11 2 m ad T27 aB Z f Z Z λaC a aD f=>A4 λaE w aF m=>have az:=rd1 aF az;have ad:=od3 aF ad;AW 2 m ad Z sizeOf39 f Z Z aD aB az.cells az.one1 az λaG w m aH=>Aa (Ag (A8 11 AR (by kernel_rfl) m (Cd 0 11 underlying29 Z sizeOf27 Z f Z λa f=>B3 1 11 1 BM Z Z Z f Z λa f=>Am 2 11 Z f Z λa f=>Cd 3 11 underlying29 Z sizeOf27 Z f Z λa f=>B3 4 11 1 BM Z Z Z f Z λa f=>Am 5 11 Z f Z λa f=>Bd hd λaI aJ hd=>A3 6 11 2 m aH T27 aJ Z f Z Z λaK a aL f=>Bg 7 11 2 aH Bu aL aJ Z f Z λaM a aN f=>Am 8 11 Z f Z λa f=>CK 9 Z λaO w aP m aQ aQ=>have aN:=rd1 aP aN;have aH:=od3 aP aH;Bd hd λaR aS hd=>AZ f Z call69 (Wk.g m aN aS) λaT aU aV w aW m aX a f=> ?_)))))
 obtain⟨aY,rfl,rfl,aZ⟩:=aX
 refine have aH:=od3 aW aH;Aa (aQ aU [] _ _ aW m (Bd hd λa0 a1 hd=>A3 10 11 2 m aH T27 a1 Z f Z Z λa2 a a3 f=>A4 λa4 w a5 m=>have aZ:=rd1 a5 aZ;have aH:=od3 a5 aH;AW 2 m aH Z sizeOf39 f Z Z a3 a1 aZ.cells aZ.one1 aZ λa6 w m a7=>Az (AN 1 0 (ds:=[aa]) m AU f Z Z Z Z Z λa f=>AA 0 0 (ds:=[aa]) m sizeOf29 f Z Z Z (Ay (Ow.one1 2 m a7 Z) AQ) Z (lb Z) Z λw m=>Aa (Aq (have a8:=B8 (P:=prog) 0 m AU f (s:=6) rfl rfl rfl;have m:=m.fr 2;have m:=m.eraseAt 2;have m:=m.eraseAt 1;?_)))))
 obtain rfl:=sj hd
 exact⟨[(.agg #[aa])],⟨a8,trivial⟩,f.d,_,[a6],(gt an (gt aw (gt aF (gt aP (gt aW a5))))),m,_,Z,Z,a7⟩
theorem Wk.Q {v1:Value}{x0:Int}{x1:LL}(m:Mem W G w (H))(h1:R2 G v1 x1){y:(LL)×Bool}(hd:D.Q x0 x1=some y):
  Calls prog 19 #[iv x0,v1] w (Res W G H (λG' Ho v=>∃r0:Value,∃i0:Itm,Ho=[i0]∧v= .tuple #[(.agg #[r0]),(.bool y.2)]∧Ow R1 39 G' i0 r0 y.1)):=by
 refine Aw (args:=[iv x0,v1]) (N:=56) [.cell 4 29,.tmp 5] func19 Z Z (lb Z) Z λa f=> ?_
 unfold D.Q at hd
 refine Af (Bj (cs:=[sn]) zeroValue29 m f Z Z λaa w a m f=>Ac f Z λa f=>Aa (Ag (Af (Ab f Z λa f=>Bd hd λab ac hd=>A1 f Z call54 (Wk.b m ac) λad w ae m a f=>have h1:=rd2 ae h1;l_o f (Bc (f.e Z)) λa f=>Ab f Z λa f=> ?_))))
 refine Bi 4 (λa w=>∃af,GLe ad af∧Mem W af w (ib aa 29 [sn]::H)∧Fr a 56 [(0,iv x0),(1,v1),(4,pb aa),(8,iv x0),(9,(.bool ab)),(10,(.bool (!ab))),(11,(.bool (!ab))),(15,(.bool ((!ab)||(decide ((120:Int)<(x1.length:Int))))))]) ?_ ?_
 ·rcases Bool.eq_false_or_eq_true (!ab) with ag|ag
  ·exact Au f ag λa f=>Au f ag λa f=>Au f ag λa f=>l_o f (AD (f.e Z) ag (f.e Z)) λa f=>⟨_,gr,m,f.weak ⟨Z,Z,Z,Z,Z,Z,Z,by rw[ag];rfl,trivial⟩⟩
  ·exact As f ag (Ab f Z λa f=>As f ag (AS underlying27 f Z Z h1 λa f=>As f ag (Ah f Z Z BX λa f=>l_o f (AC (f.e Z) ag (f.e Z)) λa f=>⟨_,gr,m,f.weak ⟨Z,Z,Z,Z,Z,Z,Z,by rw[ag];rfl,trivial⟩⟩)))
 ·rintro a w ⟨af,ah,m,f⟩
  refine have h1:=rd2 ah h1;Aa ?_
  rcases Ae hd with⟨ai,hd⟩|⟨ai,hd⟩
  ·refine An f Z ai (Af ?_)
   have aj:∀w,(Instr.build 29 #[]).run prog w= .ok (.agg #[sn]) w:=by intro w;simp[Instr.build,Instr.fill,B6,BT,BB,BO,Bx,B5,BV]
   refine Cr f Z Z aj λa f=>AA 0 0 (ds:=[sn]) m sizeOf29 f Z Z Z (Ay Z AQ) Z (lb Z) Z λw m=>Ac f Z λa f=>Aa (Aq ?_)
   obtain⟨ak,m,al⟩:=Ow.nil R1 39 m
   refine have am:=B8 (P:=prog) 1 m AU f (s:=4) rfl rfl rfl;have m:=m.eraseAt 1;?_
   obtain rfl:=sj hd
   exact⟨[(.agg #[sn]),(.bool false)],⟨am,f.get _ _ Z,trivial⟩,f.d,_,[ak],(gt ae ah),m,_,_,Z,Z,al⟩
  ·refine Ai f Z ai (Ao (Af (Ab f Z λa f=>Bd hd λan ao hd=>AZ f Z call55 (Wk.k0 m ao) λap aq ar w au m av a f=> ?_)))
   obtain⟨aw,ax,rfl,rfl,ay⟩:=av
   refine have h1:=rd2 au h1;Bj (cs:=[sn]) zeroValue29 m f Z Z λaz w a m f=>AA 0 0 (ds:=[aw]) m sizeOf29 f Z Z Z (Ay (Ow.one1 1 m ay Z) AQ) Z (lb Z) Z λw m=>Aa (Ag (Af (Ac f Z λa f=>Aa (Bd hd λaA aB hd=> ?_))))
   refine AH (λa w=>∃q_213':LL,aA= .inl q_213'∧∃aC:LL,aC=q_213'∧∃(aD:GH) (aE:Itm),GLe aq aD∧Fr a 56 [(4,pb aa),(6,pb az)]∧Mem W aD w (ib aa 29 [sn]::ib az 29 [aw]::aE::H)∧Ow R1 39 aD aE aw aC) ?_ ?_
   ·refine Al (have m:=m.fr 2;AE (λaF a w=>∃aG:Int,∃aH:LL,(aG,aH)=aF∧∃(aI:GH) (aJ:Itm),GLe aq aI∧Fr a 56 [(0,iv x0),(1,v1),(4,pb aa),(6,pb az),(7,iv aG)]∧Mem W aI w (ib aa 29 [sn]::ib az 29 [aw]::aJ::H)∧Ow R1 39 aI aJ aw aH) aB ⟨_,_,Z,_,ax,gr,f.k Z,m,ay⟩ ?_)
    clear aB f m
    rintro aF aK aL aM a w ⟨aG,aH,rfl,aI,aJ,aN,f,m,aO⟩
    refine have h1:=rd2 aN h1;Ag (Af (Ab f Z λa f=>Ab f Z λa f=>AS underlying27 f Z Z h1 λa f=>Ah f Z Z AJ λa f=>Aa ?_))
    rcases Ae aL with⟨aP,aL⟩|⟨aP,aL⟩
    ·refine An f Z aP (Ao (Ag (Al (Ag (Af (Ab f Z λa f=>Ab f Z λa f=>Bd aL λaQ aR aL=>Bt T27 f Z Z Z h1 aR λaS aT a aU aV f=>AL m Bu f Z Z aU λa f=>AS underlying39 f Z Z aV λa f=>Ah f Z Z BN λa f=>Ab f Z λa f=>Bd aL λaW aX aL=> ?_))))))
     refine Bi 8 (λa w=>∃aY,GLe aI aY∧Mem W aY w (ib aa 29 [sn]::ib az 29 [aw]::aJ::H)∧Fr a 56 [(0,iv x0),(1,v1),(4,pb aa),(6,pb az),(7,iv aG),(22,(.bool (decide (aG<(x1.length:Int))))),(25,v1),(26,iv aG),(27,aS),(28,aT),(29,(iv (aQ.length:Int))),(30,(.bool ((aQ.length:Int) !=2))),(31,(.bool ((aQ.length:Int) !=2))),(39,(.bool aW))]) ?_ ?_
     ·rcases Ae aX with⟨aZ,aX⟩|⟨aZ,aX⟩
      ·refine Au f aZ λa f=>Au f aZ λa f=>Au f aZ λa f=>Au f aZ λa f=>Au f aZ λa f=>Au f aZ λa f=>Au f aZ λa f=>l_o f (AD (f.e Z) aZ (f.e Z)) λa f=> ?_
       obtain rfl:=sj aX
       exact⟨_,gr,m,f.k Z⟩
      ·refine As f aZ (Ab f Z λa f=>As f aZ (Ab f Z λa f=>As f aZ (Bd aX λa0 a1 aX=>Bt T27 f Z Z Z h1 a1 λa2 a3 a a4 a5 f=>As f aZ (AL m Bu f Z Z a4 λa f=>As f aZ (Ab f Z λa f=>As f aZ (Bd aX λa6 a7 aX=>A1 f Z call56 (Wk.B m a5 a7) λa8 w a9 m a f=>As f aZ (l_o f (Bc (f.e Z)) λa f=>l_o f (AC (f.e Z) aZ (f.e Z)) λa f=> ?_)))))))
       obtain rfl:=sj aX
       exact⟨_,a9,m,f.k Z⟩
     ·rintro a w ⟨aY,ba,m,f⟩
      refine have h1:=rd2 ba h1;have aO:=od3 ba aO;Aa ?_
      rcases Ae aL with⟨bb,aL⟩|⟨bb,aL⟩
      ·refine An f Z bb (Af ?_)
       have bc:∀w,(Instr.build 29 #[]).run prog w= .ok (.agg #[sn]) w:=by intro w;simp[Instr.build,Instr.fill,B6,BT,BB,BO,Bx,B5,BV]
       refine Cr f Z Z bc λa f=>AA 0 0 (ds:=[sn]) m sizeOf29 f Z Z Z (Ay Z AQ) Z (lb Z) Z λw m=>Ac f Z λa f=>Aa (Aq ?_)
       obtain⟨bd,m,be⟩:=Ow.nil R1 39 m
       refine have bf:=B8 (P:=prog) 1 m AU f (s:=4) rfl rfl rfl;have m:=m.fr 3;have m:=m.fr 1;have m:=m.eraseAt 3;have m:Mem W aY w (bd::aJ::H):=m.eraseAt 2;have m:=m.eraseAt 1;?_
       obtain rfl:=sj aL
       obtain rfl:=aM _ rfl
       obtain rfl:=sj hd
       exact⟨[(.agg #[sn]),(.bool false)],⟨bf,f.get _ _ Z,trivial⟩,f.d,_,[bd],(gt ae (gt ah (gt au (gt aN ba)))),m,_,_,Z,Z,be⟩
      ·refine Ai f Z bb (Ao (A8 13 AR (by kernel_rfl) m (By (i:=0) (ds:=[aw]) 13 1 AU Z Z Z Z (by kernel_rfl) Z f Z Z Z λa f=>Am 1 13 Z f Z λa f=>Am 2 13 Z f Z λa f=>Bd aL λbg bh aL=>B1 3 13 T27 h1 bh Z f Z Z λbi bj a bk bl f=>BR 4 13 Bu bk Z f Z λa f=>Bd aL λbm bn aL=>B1 5 13 T39 bl bn Z f Z Z λbo bp a bq br f=> ?_)))
       subst br
       refine BR 6 13 Pl2 bq Z f Z λa f=>Am 7 13 Z f Z λa f=>Am 8 13 Z f Z λa f=>Bd aL λbs bt aL=>B1 9 13 T27 h1 bt Z f Z Z λbu bv a bw bx f=>BR 10 13 Bu bw Z f Z λa f=>Bd aL λbz bA aL=>B1 11 13 T39 bx bA Z f Z Z λbB bC a bD bE f=> ?_
       subst bE
       refine BR 12 13 Pl2 bD Z f Z λa f=>A4 λbF w bG m=>have aO:=od3 bG aO;have m:=m.fr 2;Bd aL λbH bI aL=>AZ f Z call57 (Wk.F m aO bI) λbJ bK bL w bM m bN a f=> ?_
       obtain⟨bO,rfl,rfl,bP⟩:=bN
       refine AA 2 0 (ds:=[aw]) m sizeOf29 f Z Z Z (Ay (Ow.one1 0 m bP Z) AQ) Z (lb Z) Z λw m=>Aa (Ak (Ab f Z λa f=>Ah f Z Z Ax λa f=>Ac f Z λa f=>Aa (have m:=m.fr 2;have m:=m.fr 2;?_)))
       obtain rfl:=sj aL
       exact⟨_,Z,_,_,Z,_,bO,(gt aN (gt ba (gt bG bM))),f.k Z,m,bP⟩
    ·refine Ai f Z aP (AB Z ?_)
     obtain rfl:=sj aL
     obtain rfl:=aM _ rfl
     exact⟨_,Z,_,Z,_,aJ,aN,f.k Z,m,aO⟩
   ·rintro a w ⟨_,rfl,aC,rfl,aD,aE,bQ,f,m,bR⟩
    refine Af (AN 1 0 (ds:=[aw]) m AU f Z Z Z Z Z λa f=>AA 0 0 (ds:=[aw]) m sizeOf29 f Z Z Z (Ay (Ow.one1 2 m bR Z) AQ) Z (lb Z) Z λw m=>Ac f Z λa f=>Aa (Aq (have bS:=B8 (P:=prog) 0 m AU f (s:=4) rfl rfl rfl;have m:=m.fr 2;have m:=m.eraseAt 2;have m:=m.eraseAt 1;?_)))
    obtain rfl:=sj hd
    exact⟨[(.agg #[aw]),(.bool true)],⟨bS,f.get _ _ Z,trivial⟩,f.d,_,[aE],(gt ae (gt ah (gt au bQ))),m,_,_,Z,Z,bR⟩
theorem Wk.n0 {b0:Nat}{aa:Value}{ab:LI}{ac ad x1:Int}(m:Mem W G w (BF b0 ac ad aa::H))(ae:RSl (RI .u8) G aa ab){y:(LL)×(LI)×Int×Int}(hd:D.n0 ab ac ad x1=some y):
  Calls prog 6 #[pb b0,iv x1] w (Res W G H (λG' Ho v=>∃r0:Value,∃i0:Itm,∃r2:Value,Ho=[i0,BF b0 y.2.2.1 y.2.2.2 r2]∧v=(.agg #[r0])∧Ow R1 39 G' i0 r0 y.1∧RSl (RI .u8) G' r2 y.2.1)):=by
 refine Aw (args:=[pb b0,iv x1]) (N:=47) [.cell 4 29] func6 Z Z (lb Z) Z λa f=> ?_
 unfold D.n0 at hd
 refine Af (Bj (cs:=[sn]) zeroValue29 m f Z Z λaf w a m f=>Az (Ab f Z λa f=>Ab f Z λa f=>have m:=m.fr 1;Bd hd λag ah hd=>AZ f Z call7 (Wk.j m ae ah) λai aj ak w al m am a f=> ?_))
 obtain⟨an,rfl,rfl,ao⟩:=am
 refine Ah f Z Z Ax λa f=>Ac f Z λa f=>Az (Ab f Z λa f=>Bd hd λap aq hd=>AZ f Z call7 (Wk.j m ao aq) λar au av w aw m ax a f=> ?_)
 obtain⟨ay,rfl,rfl,az⟩:=ax
 refine Ah f Z Z Ax λa f=>Ac f Z λa f=>Az (AX (R:=R1) (xs:=([]:LL)) (RSl.one _) m T27 f Z Z Z (by decide) (All2.nil _) λaA aB w a m aC f=>Ac f Z λa f=>Aa (Ag (Af (Ac f Z λa f=>Aa (Bd hd λaD aE hd=> ?_)))))
 refine AH (λa w=>∃aF:LL,∃aG:LI,∃aH:Int,∃aI:Int,(aF,aG,aH,aI)=aD∧∃(aJ:GH) (aK:Value) (aL:Itm) (aM:Value),GLe au aJ∧Fr a 47 [(4,pb af),(5,(iv (i64.wrap (1+ag.1)))),(7,aK)]∧Mem W aJ w (ib af 29 [sn]::BF b0 aH aI aM::aL::H)∧Ow R1 39 aJ aL aK aF∧RSl (RI .u8) aJ aM aG) ?_ ?_
 ·refine Al (have m:=m.fr 2;have m:=m.fr 2;AE (λaN a w=>∃aO:LL,∃aP:Int,∃aQ:LI,∃aR:Int,∃aS:Int,(aO,aP,aQ,aR,aS)=aN∧∃(aT:GH) (aU:Value) (aV:Itm) (aW:Value),GLe au aT∧Fr a 47 [(0,pb b0),(4,pb af),(5,(iv (i64.wrap (1+ag.1)))),(6,(iv (i64.wrap (1+ap.1)))),(7,aU),(8,iv aP)]∧Mem W aT w (BF b0 aR aS aW::ib af 29 [sn]::aV::H)∧Ow R1 39 aT aV aU aO∧RSl (RI .u8) aT aW aQ) aE ⟨_,_,_,_,_,Z,_,aB,aA,ay,gr,f.k Z,m,aC,az⟩ ?_)
  clear aE f m
  rintro aN aX aY aZ a w ⟨aO,aP,aQ,aR,aS,rfl,aT,aU,aV,aW,a0,f,m,a1,a2⟩
  refine Ag (Af (Ab f Z λa f=>Ab f Z λa f=>Ah f Z Z AJ λa f=>Aa ?_))
  rcases Ae aY with⟨a3,aY⟩|⟨a3,aY⟩
  ·refine An f Z a3 (Ao (Ag (Al (Af (Ac f Z λa f=>Aa (Bd aY λa4 a5 aY=> ?_))))))
   refine AH (λa w=>∃a6:LL,∃a7:LI,∃a8:Int,∃a9:Int,(a6,a7,a8,a9)=a4∧∃(ba:GH) (bb:Value) (bc:Itm) (bd:Value),GLe aT ba∧Fr a 47 [(0,pb b0),(4,pb af),(5,(iv (i64.wrap (1+ag.1)))),(6,(iv (i64.wrap (1+ap.1)))),(7,bb),(8,iv aP)]∧Mem W ba w (BF b0 a8 a9 bd::ib af 29 [sn]::bc::H)∧Ow R1 39 ba bc bb a6∧RSl (RI .u8) ba bd a7) ?_ ?_
   ·refine Al (AE (λbe a w=>∃bf:LL,∃bg:Int,∃bh:LI,∃bi:Int,∃bj:Int,(bf,bg,bh,bi,bj)=be∧∃(bk:GH) (bl:Value) (bm:Itm) (bn:Value),GLe aT bk∧Fr a 47 [(0,pb b0),(4,pb af),(5,(iv (i64.wrap (1+ag.1)))),(6,(iv (i64.wrap (1+ap.1)))),(7,bl),(8,iv aP),(9,iv bg)]∧Mem W bk w (BF b0 bi bj bn::ib af 29 [sn]::bm::H)∧Ow R1 39 bk bm bl bf∧RSl (RI .u8) bk bn bh) a5 ⟨_,_,_,_,_,Z,_,aU,aV,aW,gr,f.k Z,m,a1,a2⟩ ?_)
    clear a5 f m
    rintro be bo bp bq a w ⟨bf,bg,bh,bi,bj,rfl,bk,bl,bm,bn,br,f,m,bs,bt⟩
    refine Ag (Af (Ab f Z λa f=>Ab f Z λa f=>Ah f Z Z AJ λa f=>Aa ?_))
    rcases Ae bp with⟨bu,bp⟩|⟨bu,bp⟩
    ·refine An f Z bu (Ao (Ag (Al (Af (Ab f Z λa f=>Bd bp λbv bw bp=>AZ f Z call7 (Wk.j m bt bw) λbx bz bA w bB m bC a f=> ?_)))))
     obtain⟨bD,rfl,rfl,bE⟩:=bC
     refine have bs:=od3 bB bs;Ab f Z λa f=>Ah f Z Z AJ λa f=>Aa ?_
     rcases Ae bp with⟨bF,bp⟩|⟨bF,bp⟩
     ·refine An f Z bF (Ak (Ab f Z λa f=>Ab f Z λa f=>Ab f Z λa f=>AX (R:=R0) (xs:=([bg,aP]:LI)) (RI.one _) m T39 f Z Z Z (by decide) (All2.cons Z (All2.cons Z (All2.nil _))) λbG bH w a m bI f=> ?_))
      obtain⟨bJ,bK,m,bL⟩:=Ow.stamp (RI.mono _) bI m
      refine have bE:=rd1 bK bE;have bs:=od3 bK bs;AX (R:=R1) (xs:=([([bg,aP]:LI)]:LL)) (RSl.one _) m T27 f Z Z Z (by decide) (All2.cons bL (All2.nil _)) λbM bN w a m bO f=>Bd bp λbP bQ bp=>Be (RSl.one _) 3 m bs Z T27 Z (by decide) f Z Z Z (Ow.src (j:=0) bO m Z) bQ λbR bS w a m bT f=>Ac f Z λa f=>Aa (Ak (Ab f Z λa f=>Ah f Z Z Ax λa f=>Ac f Z λa f=>Aa (have m:=m.fr 3;have m:=m.fr 3;have m:=m.fr 3;have m:=m.eraseAt 3;?_)))
      obtain rfl:=sj bp
      exact⟨_,Z,_,_,_,_,_,Z,_,bS,bR,bD,(gt br (gt bB bK)),f.k Z,m,bT,bE⟩
     ·refine Ai f Z bF (Ao (Ak (Ab f Z λa f=>Ah f Z Z Ax λa f=>Ac f Z λa f=>Aa ?_)))
      obtain rfl:=sj bp
      exact⟨_,Z,_,_,_,_,_,Z,_,bl,bm,bD,(gt br bB),f.k Z,m,bs,bE⟩
    ·refine Ai f Z bu (AB Z ?_)
     obtain rfl:=sj bp
     obtain rfl:=bq _ rfl
     exact⟨_,_,_,_,Z,_,bl,bm,bn,br,f.k Z,m,bs,bt⟩
   ·rintro a w ⟨a6,a7,a8,a9,rfl,ba,bb,bc,bd,bU,f,m,bV,bW⟩
    refine Ak (Ab f Z λa f=>Ah f Z Z Ax λa f=>Ac f Z λa f=>Aa ?_)
    obtain rfl:=sj aY
    exact⟨_,Z,_,_,_,_,_,Z,_,bb,bc,bd,(gt a0 bU),f.k Z,m,bV,bW⟩
  ·refine Ai f Z a3 (AB Z (have m:=m.fr 1;?_))
   obtain rfl:=sj aY
   obtain rfl:=aZ _ rfl
   exact⟨_,_,_,_,Z,_,aU,aV,aW,a0,f.k Z,m,a1,a2⟩
 ·rintro a w ⟨aF,aG,aH,aI,rfl,aJ,aK,aL,aM,bX,f,m,bY,bZ⟩
  refine Af (Ab f Z λa f=>Ab f Z λa f=>have m:=m.fr 2;?_)
  obtain⟨b1,b2,m,b3⟩:=Ow.stamp (RSl.mono (RI.mono _)) bY m
  refine have bZ:=rd1 b2 bZ;Bd hd λb4 b5 hd=>AZ f Z call19 (Wk.Q m b3 b5) λb6 b7 b8 w b9 m ca a f=> ?_
  obtain⟨cb,cc,rfl,rfl,cd⟩:=ca
  refine have bZ:=rd1 b9 bZ;Ab f Z λa f=>l_o f (A2 (f.e Z) Z) λa f=>l_o f (A2 (f.e Z) Z) λa f=>Bj (cs:=[sn]) zeroValue29 m f Z Z λce w a m f=>AA 0 0 (ds:=[cb]) m sizeOf29 f Z Z Z (Ay (Ow.one1 1 m cd Z) AQ) Z (lb Z) Z λw m=>Ac f Z λa f=>Az (AN 0 0 (ds:=[cb]) m AU f Z Z Z Z Z λa f=>AA 2 0 (ds:=[cb]) m sizeOf29 f Z Z Z (Ay (Ow.one1 1 m cd Z) AQ) Z (lb Z) Z λw m=>Aa (Aq (have cf:=B8 (P:=prog) 2 m AU f (s:=4) rfl rfl rfl;have m:=m.fr 3;have m:=m.fr 2;have m:=m.eraseAt 3;have m:=m.eraseAt 2;?_)))
  obtain rfl:=sj hd
  exact⟨[(.agg #[cb])],⟨cf,trivial⟩,f.d,_,[cc,BF b0 aH aI aM],(gt al (gt aw (gt bX (gt b2 b9)))),m,_,_,_,Z,Z,cd,bZ⟩
theorem Wk.N0 {v0:Value}{x0:LI}{x1:Int}(m:Mem W G w (H))(h0:R1 G v0 x0){y:(LI)}(hd:D.N0 x0 x1=some y):
  Calls prog 20 #[v0,iv x1] w (Res W G H (λG' Ho v=>∃r0:Value,∃i0:Itm,Ho=[i0]∧r0=v∧Ow R0 2 G' i0 r0 y)):=by
 refine Aw (args:=[v0,iv x1]) (N:=52) [.tmp 4] func20 Z Z (lb Z) Z λa f=> ?_
 unfold D.N0 at hd
 refine Af (Ac f Z λa f=>Az (AX (R:=R0) (xs:=([]:LI)) (RI.one _) m T39 f Z Z Z (by decide) (All2.nil _) λaa ab w a m ac f=>Ac f Z λa f=>Az (Ac f Z λa f=>Aa (Ag (Af (Ac f Z λa f=>Aa (Bd hd λad ae hd=> ?_)))))))
 refine AH (λa w=>∃af:LI,∃ag:Bool,(af,ag)=ad∧∃(ah:GH) (ai:Value) (aj:Itm),GLe G ah∧Fr a 52 [(1,iv x1),(5,ai),(6,(.bool ag))]∧Mem W ah w (aj::H)∧Ow R0 2 ah aj ai af) ?_ ?_
 ·refine Al (AE (λak a w=>∃al:LI,∃am:Bool,∃an:Int,(al,am,an)=ak∧∃(ao:GH) (ap:Value) (aq:Itm),GLe G ao∧Fr a 52 [(0,v0),(1,iv x1),(5,ap),(6,(.bool am)),(7,iv an)]∧Mem W ao w (aq::H)∧Ow R0 2 ao aq ap al) ae ⟨_,_,_,Z,_,ab,aa,gr,f.k Z,m,ac⟩ ?_)
  clear ae f m
  rintro ak ar au av a w ⟨al,am,an,rfl,ao,ap,aq,aw,f,m,ax⟩
  refine have h0:=rd1 aw h0;Ag (Af (Ab f Z λa f=>Ab f Z λa f=>AS underlying39 f Z Z h0 λa f=>Ah f Z Z AJ λa f=>Aa ?_))
  rcases Ae au with⟨ay,au⟩|⟨ay,au⟩
  ·refine An f Z ay (Ao (Ag (Al (Ag (Af (Ab f Z λa f=>l_o f (Bc (f.e Z)) λa f=>Ab f Z λa f=>Bd au λaz aA au=> ?_))))))
   refine Bi 7 (λa w=>∃aB,GLe ao aB∧Mem W aB w (aq::H)∧Fr a 52 [(0,v0),(1,iv x1),(5,ap),(6,(.bool am)),(7,iv an),(12,(.bool (decide (an<(x0.length:Int))))),(15,(.bool am)),(16,(.bool (!am))),(17,(.bool (!am))),(24,(.bool az))]) ?_ ?_
   ·rcases Ae aA with⟨aC,aA⟩|⟨aC,aA⟩
    ·refine As f aC (Ab f Z λa f=>As f aC (Ab f Z λa f=>As f aC (Bd aA λaD aE aA=>Bt T39 f Z Z Z h0 aE λaF aG a aH aI f=> ?_)))
     subst aI
     refine As f aC (AL m Pl2 f Z Z aH λa f=>As f aC (Ab f Z λa f=>As f aC (Ah f Z Z BX λa f=>l_o f (AD (f.e Z) aC (f.e Z)) λa f=> ?_)))
     obtain rfl:=sj aA
     exact⟨_,gr,m,f.k Z⟩
    ·refine Au f aC λa f=>Au f aC λa f=>Au f aC λa f=>Au f aC λa f=>Au f aC λa f=>Au f aC λa f=>l_o f (AC (f.e Z) aC (f.e Z)) λa f=> ?_
     obtain rfl:=sj aA
     exact⟨_,gr,m,f.k Z⟩
   ·rintro a w ⟨aB,aJ,m,f⟩
    refine have h0:=rd1 aJ h0;have ax:=od1 aJ ax;Aa (Bd au λaK aL au=> ?_)
    refine AH (λa w=>∃aM:LI,∃aN:Bool,(aM,aN)=aK∧∃(aO:GH) (aP:Value) (aQ:Itm),GLe aB aO∧Fr a 52 [(0,v0),(1,iv x1),(5,aP),(6,(.bool aN)),(7,iv an)]∧Mem W aO w (aQ::H)∧Ow R0 2 aO aQ aP aM) ?_ ?_
    ·rcases Ae aL with⟨aR,aL⟩|⟨aR,aL⟩
     ·refine An f Z aR (Af (Ab f Z λa f=>Ab f Z λa f=>AX (R:=R0) (xs:=([x1]:LI)) (RI.one _) m T39 f Z Z Z (by decide) (All2.cons Z (All2.nil _)) λaS aT w a m aU f=>Bd aL λaV aW aL=>Be (RI.one _) 1 m ax Z T39 Z (by decide) f Z Z Z (Ow.src (j:=0) aU m Z) aW λaX aY w a m aZ f=>Ac f Z λa f=>Aa (Ak (Ac f Z λa f=>Aa (have m:=m.fr 1;have m:=m.eraseAt 1;?_)))))
      obtain rfl:=sj aL
      exact⟨_,_,Z,_,aY,aX,gr,f.k Z,m,aZ⟩
     ·refine Ai f Z aR (Ao ?_)
      obtain rfl:=sj aL
      exact⟨_,_,Z,_,ap,aq,gr,f.k Z,m,ax⟩
    ·rintro a w ⟨aM,aN,rfl,aO,aP,aQ,a0,f,m,a1⟩
     refine have h0:=rd1 a0 h0;Af (Ab f Z λa f=>Ab f Z λa f=>Bd au λa2 a3 au=> ?_)
     refine Bi 7 (λa w=>∃a4,GLe aO a4∧Mem W a4 w (aQ::H)∧Fr a 52 [(0,v0),(1,iv x1),(5,aP),(6,(.bool aN)),(7,iv an),(29,(.bool aN)),(30,(.bool aN)),(37,(.bool a2))]) ?_ ?_
     ·rcases Ae a3 with⟨a5,a3⟩|⟨a5,a3⟩
      ·refine Au f a5 λa f=>Au f a5 λa f=>Au f a5 λa f=>Au f a5 λa f=>Au f a5 λa f=>Au f a5 λa f=>l_o f (AD (f.e Z) a5 (f.e Z)) λa f=> ?_
       obtain rfl:=sj a3
       exact⟨_,gr,m,f.k Z⟩
      ·refine As f a5 (Ab f Z λa f=>As f a5 (Ab f Z λa f=>As f a5 (Bd a3 λa6 a7 a3=>Bt T39 f Z Z Z h0 a7 λa8 a9 a ba bb f=> ?_)))
       subst bb
       refine As f a5 (AL m Pl2 f Z Z ba λa f=>As f a5 (Ab f Z λa f=>As f a5 (Ah f Z Z Bf λa f=>l_o f (AC (f.e Z) a5 (f.e Z)) λa f=> ?_)))
       obtain rfl:=sj a3
       exact⟨_,gr,m,f.k Z⟩
     ·rintro a w ⟨a4,bc,m,f⟩
      refine have h0:=rd1 bc h0;have a1:=od1 bc a1;Ac f Z λa f=>Aa (Ak (Ab f Z λa f=>Ab f Z λa f=>Ab f Z λa f=>Bd au λbd be au=>Bt T39 f Z Z Z h0 be λbf bg a bh bi f=> ?_))
      subst bi
      refine AL m Pl2 f Z Z bh λa f=>AX (R:=R0) (xs:=([bd]:LI)) (RI.one _) m T39 f Z Z Z (by decide) (All2.cons Z (All2.nil _)) λbj bk w a m bl f=>Bd au λbm bn au=>Be (RI.one _) 1 m a1 Z T39 Z (by decide) f Z Z Z (Ow.src (j:=0) bl m Z) bn λbo bp w a m bq f=>Ac f Z λa f=>Aa (Ak (Ab f Z λa f=>Ah f Z Z Ax λa f=>Ac f Z λa f=>Aa (have m:=m.fr 1;have m:=m.eraseAt 1;?_)))
      obtain rfl:=sj au
      exact⟨_,Z,_,_,_,Z,_,bp,bo,(gt aw (gt aJ (gt a0 bc))),f.k Z,m,bq⟩
  ·refine Ai f Z ay (AB Z ?_)
   obtain rfl:=sj au
   obtain rfl:=av _ rfl
   exact⟨_,_,Z,_,ap,aq,aw,f.k Z,m,ax⟩
 ·rintro a w ⟨af,ag,rfl,ah,ai,aj,br,f,m,bs⟩
  refine Ag (Af (Ab f Z λa f=>l_o f (Bc (f.e Z)) λa f=>Aa ?_))
  rcases Ae hd with⟨bt,hd⟩|⟨bt,hd⟩
  ·refine An f Z bt (Ak (Ab f Z λa f=>Ab f Z λa f=>AX (R:=R0) (xs:=([x1]:LI)) (RI.one _) m T39 f Z Z Z (by decide) (All2.cons Z (All2.nil _)) λbu bv w a m bw f=>Bd hd λbx bz hd=>Be (RI.one _) 1 m bs Z T39 Z (by decide) f Z Z Z (Ow.src (j:=0) bw m Z) bz λbA bB w a m bC f=>Ac f Z λa f=>Az (Ab f Z λa f=>Ac f Z λa f=>Aa (Aq (have m:=m.fr 1;have m:=m.eraseAt 1;?_)))))
   obtain rfl:=sj hd
   exact⟨[bB],f.g Z,f.d,_,[bA],br,m,_,_,Z,Z,bC⟩
  ·refine Ai f Z bt (Ao (Af (Ab f Z λa f=>Ac f Z λa f=>Aa (Aq ?_))))
   obtain rfl:=sj hd
   exact⟨[ai],f.g Z,f.d,_,[aj],br,m,_,_,Z,Z,bs⟩
theorem Wk.u {aa:Value}{ab:LL}(m:Mem W G w (H))(ac:R2 G aa ab){y:Int}(hd:D.u ab=some y):
  Calls prog 59 #[(.agg #[aa])] w (Res W G H (λ_ Ho v=>Ho=[]∧v=(iv y))):=by
 refine Aw (args:=[(.agg #[aa])]) (N:=6) [.tmp 2] func59 Z Z (lb Z) Z λa f=> ?_
 unfold D.u at hd
 refine Af (Bv (cs:=[aa]) m f Z Z Z λad w a m f=>Ac f Z λa f=>Az (Bn underlying29 Z sizeOf27 f Z λa f=>AI 0 0 m BM f Z Z Z Z λa f=>AS underlying27 f Z Z ac λa f=>Ac f Z λa f=>Aa (Aq (have m:=m.dp 1;?_))))
 obtain rfl:=sj hd
 exact⟨[(iv (ab.length:Int))],f.g Z,f.d,_,[],gr,m,Z,Z⟩
theorem Wk.d {v0:Value}{x0:LI}{x1:Int}(m:Mem W G w (H))(h0:R1 G v0 x0){y:Bool}(hd:D.d x0 x1=some y):
  Calls prog 74 #[v0,iv x1] w (Res W G H (λ_ Ho v=>Ho=[]∧v=(.bool y))):=by
 refine Aw (args:=[v0,iv x1]) (N:=18) [.tmp 4] func74 Z Z (lb Z) Z λa f=> ?_
 unfold D.d at hd
 refine Af (Ac f Z λa f=>Aa (Ag (Af (Ac f Z λa f=>Aa (Bd hd λaa ab hd=> ?_)))))
 refine AH (λa w=>∃q_19':Unit,aa= .inl q_19'∧∃(ac:GH),GLe G ac∧Fr a 18 []∧Mem W ac w (H)) ?_ ?_
 ·refine Al (AE (λad a w=>∃ae:Int,ae=ad∧∃(af:GH),GLe G af∧Fr a 18 [(0,v0),(1,iv x1),(5,iv ae)]∧Mem W af w (H)) ab ⟨_,Z,_,gr,f.k Z,m⟩ ?_)
  clear ab f m
  rintro ad ag ah ai a w ⟨ae,rfl,af,aj,f,m⟩
  refine have h0:=rd1 aj h0;Ag (Af (Ab f Z λa f=>Ab f Z λa f=>AS underlying39 f Z Z h0 λa f=>Ah f Z Z AJ λa f=>Aa ?_))
  rcases Ae ah with⟨ak,ah⟩|⟨ak,ah⟩
  ·refine An f Z ak (Ao (Ag (Al (Af (Ab f Z λa f=>Ab f Z λa f=>Bd ah λal am ah=>Bt T39 f Z Z Z h0 am λan ao a ap aq f=> ?_)))))
   subst aq
   refine AL m Pl2 f Z Z ap λa f=>Ab f Z λa f=>Ah f Z Z Bf λa f=>Aa ?_
   rcases Ae ah with⟨ar,ah⟩|⟨ar,ah⟩
   ·refine An f Z ar (Af (Ac f Z λa f=>Aa (Aq ?_)))
    obtain rfl:=sj ah
    obtain rfl:=ai _ rfl
    obtain rfl:=sj hd
    exact⟨[(.bool true)],f.g Z,f.d,_,[],aj,m,Z,Z⟩
   ·refine Ai f Z ar (Ao (Ak (Ab f Z λa f=>Ah f Z Z Ax λa f=>Ac f Z λa f=>Aa ?_)))
    obtain rfl:=sj ah
    exact⟨_,Z,_,Z,_,aj,f.k Z,m⟩
  ·refine Ai f Z ak (AB Z ?_)
   obtain rfl:=sj ah
   obtain rfl:=ai _ rfl
   exact⟨_,Z,_,aj,f.weak trivial,m⟩
 ·rintro a w ⟨_,rfl,ac,au,f,m⟩
  refine Af (Ac f Z λa f=>Aa (Aq ?_))
  obtain rfl:=sj hd
  exact⟨[(.bool false)],f.g Z,f.d,_,[],au,m,Z,Z⟩
theorem Wk.q {aa:Value}{ab:LL}(m:Mem W G w (H))(ac:R2 G aa ab){y:Bool}(hd:D.q ab=some y):
  Calls prog 32 #[(.agg #[aa])] w (Res W G H (λ_ Ho v=>Ho=[]∧v=(.bool y))):=by
 refine Aw (args:=[(.agg #[aa])]) (N:=64) [.tmp 2] func32 Z Z (lb Z) Z λa f=> ?_
 unfold D.q at hd
 refine Af (Bv (cs:=[aa]) m f Z Z Z λad w a m f=>Ac f Z λa f=>Az (AN 0 0 (ds:=[aa]) m AU f Z Z Z Z Z λa f=>Bd hd λae af hd=>A1 f Z call59 (Wk.u m ac af) λag w ah m a f=>have ac:=rd2 ah ac;Ac f Z λa f=>Aa (Ag (Af (Ab f Z λa f=>Bd hd λai aj hd=>A1 f Z call54 (Wk.b m aj) λak w al m a f=>have ac:=rd2 al ac;l_o f (Bc (f.e Z)) λa f=>Aa ?_)))))
 rcases Ae hd with⟨am,hd⟩|⟨am,hd⟩
 ·refine An f Z am (Af (Ac f Z λa f=>Aa (Aq (have m:=m.dp 1;?_))))
  obtain rfl:=sj hd
  exact⟨[(.bool false)],f.g Z,f.d,_,[],(gt ah al),m,Z,Z⟩
 ·refine Ai f Z am (Ao (Ag (Af (Ac f Z λa f=>Aa (Bd hd λan ao hd=> ?_)))))
  refine AH (λa w=>∃q_138':Unit,an= .inl q_138'∧∃(ap:GH),GLe ak ap∧Fr a 64 [(1,pb ad),(3,iv ae)]∧Mem W ap w (ib ad 29 [aa]::H)) ?_ ?_
  ·refine Al (AE (λaq a w=>∃ar:Int,ar=aq∧∃(au:GH),GLe ak au∧Fr a 64 [(1,pb ad),(3,iv ae),(4,iv ar)]∧Mem W au w (ib ad 29 [aa]::H)) ao ⟨_,Z,_,gr,f.k Z,m⟩ ?_)
   clear ao f m
   rintro aq av aw ax a w ⟨ar,rfl,au,ay,f,m⟩
   refine have ac:=rd2 ay ac;Ag (Af (Ab f Z λa f=>Ab f Z λa f=>Ah f Z Z AJ λa f=>Aa ?_))
   rcases Ae aw with⟨az,aw⟩|⟨az,aw⟩
   ·refine An f Z az (Ao (Ag (Al (Af (Bn underlying29 Z sizeOf27 f Z λa f=>AI 0 0 m BM f Z Z Z Z λa f=>Ab f Z λa f=>Bd aw λaA aB aw=>Bt T27 f Z Z Z ac aB λaC aD a aE aF f=>AL m Bu f Z Z aE λa f=>Ab f Z λa f=>Bd aw λaG aH aw=>A1 f Z call56 (Wk.B m aF aH) λaI w aJ m a f=>have ac:=rd2 aJ ac;l_o f (Bc (f.e Z)) λa f=>Ab f Z λa f=>Bd aw λaK aL aw=> ?_)))))
    refine Bi 8 (λa w=>∃aM,GLe aI aM∧Mem W aM w (ib ad 29 [aa]::H)∧Fr a 64 [(1,pb ad),(3,iv ae),(4,iv ar),(14,(.bool (decide (ar<ae)))),(17,pb ad),(18,aa),(19,iv ar),(20,aC),(21,aD),(22,iv ae),(23,(.bool aG)),(24,(.bool (!aG))),(25,(.bool (!aG))),(33,(.bool aK))]) ?_ ?_
    ·rcases Ae aL with⟨aN,aL⟩|⟨aN,aL⟩
     ·refine Au f aN λa f=>Au f aN λa f=>Au f aN λa f=>Au f aN λa f=>Au f aN λa f=>Au f aN λa f=>Au f aN λa f=>l_o f (AD (f.e Z) aN (f.e Z)) λa f=> ?_
      obtain rfl:=sj aL
      exact⟨_,gr,m,f.k Z⟩
     ·refine As f aN (Bn underlying29 Z sizeOf27 f Z λa f=>As f aN (AI 0 0 m BM f Z Z Z Z λa f=>As f aN (Ab f Z λa f=>As f aN (Bd aL λaO aP aL=>Bt T27 f Z Z Z ac aP λaQ aR a aS aT f=>As f aN (AL m Bu f Z Z aS λa f=>As f aN (Ab f Z λa f=>As f aN (Bd aL λaU aV aL=>A1 f Z call74 (Wk.d m aT aV) λaW w aX m a f=>l_o f (AC (f.e Z) aN (f.e Z)) λa f=> ?_)))))))
      obtain rfl:=sj aL
      exact⟨_,aX,m,f.k Z⟩
    ·rintro a w ⟨aM,aY,m,f⟩
     refine Aa ?_
     rcases Ae aw with⟨aZ,aw⟩|⟨aZ,aw⟩
     ·refine An f Z aZ (Af (Ac f Z λa f=>Aa (Aq (have m:=m.dp 1;?_))))
      obtain rfl:=sj aw
      obtain rfl:=ax _ rfl
      obtain rfl:=sj hd
      exact⟨[(.bool false)],f.g Z,f.d,_,[],(gt ah (gt al (gt ay (gt aJ aY)))),m,Z,Z⟩
     ·refine Ai f Z aZ (Ao (Ak (Ab f Z λa f=>Ah f Z Z Ax λa f=>Ac f Z λa f=>Aa ?_)))
      obtain rfl:=sj aw
      exact⟨_,Z,_,Z,_,(gt ay (gt aJ aY)),f.k Z,m⟩
   ·refine Ai f Z az (AB Z ?_)
    obtain rfl:=sj aw
    obtain rfl:=ax _ rfl
    exact⟨_,Z,_,ay,f.k Z,m⟩
  ·rintro a w ⟨_,rfl,ap,a0,f,m⟩
   refine have ac:=rd2 a0 ac;Ag (Af (Ac f Z λa f=>Aa (Bd hd λa1 a2 hd=> ?_)))
   refine AH (λa w=>∃q_545':Unit,a1= .inl q_545'∧∃(a3:GH),GLe ap a3∧Fr a 64 []∧Mem W a3 w (H)) ?_ ?_
   ·refine Al (AE (λa4 a w=>∃a5:Int,a5=a4∧∃(a6:GH),GLe ap a6∧Fr a 64 [(1,pb ad),(3,iv ae),(5,iv a5)]∧Mem W a6 w (ib ad 29 [aa]::H)) a2 ⟨_,Z,_,gr,f.k Z,m⟩ ?_)
    clear a2 f m
    rintro a4 a7 a8 a9 a w ⟨a5,rfl,a6,ba,f,m⟩
    refine have ac:=rd2 ba ac;Ag (Af (Ab f Z λa f=>Ab f Z λa f=>Ah f Z Z AJ λa f=>Aa ?_))
    rcases Ae a8 with⟨bb,a8⟩|⟨bb,a8⟩
    ·refine An f Z bb (Ao (Ag (Al (Af (Ac f Z λa f=>Aa (Bd a8 λbc bd a8=> ?_))))))
     refine AH (λa w=>∃q_759':Unit,bc= .inl q_759'∧∃(be:GH),GLe a6 be∧Fr a 64 [(1,pb ad),(3,iv ae),(5,iv a5)]∧Mem W be w (ib ad 29 [aa]::H)) ?_ ?_
     ·refine Al (AE (λbf a w=>∃bg:Int,bg=bf∧∃(bh:GH),GLe a6 bh∧Fr a 64 [(1,pb ad),(3,iv ae),(5,iv a5),(6,iv bg)]∧Mem W bh w (ib ad 29 [aa]::H)) bd ⟨_,Z,_,gr,f.k Z,m⟩ ?_)
      clear bd f m
      rintro bf bi bj bk a w ⟨bg,rfl,bh,bl,f,m⟩
      refine have ac:=rd2 bl ac;Ag (Af (Ab f Z λa f=>Bn underlying29 Z sizeOf27 f Z λa f=>AI 0 0 m BM f Z Z Z Z λa f=>Ab f Z λa f=>Bd bj λbm bn bj=>Bt T27 f Z Z Z ac bn λbo bp a bq br f=>AL m Bu f Z Z bq λa f=>AS underlying39 f Z Z br λa f=>Ah f Z Z AJ λa f=>Aa ?_))
      rcases Ae bj with⟨bs,bj⟩|⟨bs,bj⟩
      ·refine An f Z bs (Ao (Ag (Al (Ag (A8 15 AR (by kernel_rfl) m (Cd 0 15 underlying29 Z sizeOf27 Z f Z λa f=>B3 1 15 0 BM Z Z Z f Z λa f=>Cd 2 15 underlying29 Z sizeOf27 Z f Z λa f=>B3 3 15 0 BM Z Z Z f Z λa f=>Am 4 15 Z f Z λa f=>Bd bj λbt bu bj=>B1 5 15 T27 ac bu Z f Z Z λbv bw a bx bz f=>BR 6 15 Bu bx Z f Z λa f=>Am 7 15 Z f Z λa f=>Bd bj λbA bB bj=>B1 8 15 T39 bz bB Z f Z Z λbC bD a bE bF f=> ?_))))))
       subst bF
       refine BR 9 15 Pl2 bE Z f Z λa f=>Bd bj λbG bH bj=>B1 10 15 T27 ac bH Z f Z Z λbI bJ a bK bL f=>BR 11 15 Bu bK Z f Z λa f=>Am 12 15 Z f Z λa f=>Bd bj λbM bN bj=>BZ (i:=13) 15 Z (by kernel_rfl) Z f Z Z Z call74 (λ_ _ w bO m=>Wk.d m (rd1 bO bL) bN) λa f=>q_p 14 15 Z f (λ_=>Bc (f.e Z)) λa f=>A4 λbP w bQ m=>Aa ?_
       rcases Ae bj with⟨bR,bj⟩|⟨bR,bj⟩
       ·refine An f Z bR (Af (Ac f Z λa f=>Aa (Aq (have m:=m.dp 1;?_))))
        obtain rfl:=sj bj
        obtain rfl:=bk _ rfl
        obtain rfl:=sj a8
        obtain rfl:=a9 _ rfl
        obtain rfl:=sj hd
        exact⟨[(.bool false)],f.g Z,f.d,_,[],(gt ah (gt al (gt a0 (gt ba (gt bl bQ))))),m,Z,Z⟩
       ·refine Ai f Z bR (Ao (Ak (Ab f Z λa f=>Ah f Z Z Ax λa f=>Ac f Z λa f=>Aa ?_)))
        obtain rfl:=sj bj
        exact⟨_,Z,_,Z,_,(gt bl bQ),f.k Z,m⟩
      ·refine Ai f Z bs (AB Z ?_)
       obtain rfl:=sj bj
       obtain rfl:=bk _ rfl
       exact⟨_,Z,_,bl,f.k Z,m⟩
     ·rintro a w ⟨_,rfl,be,bS,f,m⟩
      refine Ak (Ab f Z λa f=>Ah f Z Z Ax λa f=>Ac f Z λa f=>Aa ?_)
      obtain rfl:=sj a8
      exact⟨_,Z,_,Z,_,(gt ba bS),f.k Z,m⟩
    ·refine Ai f Z bb (AB Z (have m:=m.dp 1;?_))
     obtain rfl:=sj a8
     obtain rfl:=a9 _ rfl
     exact⟨_,Z,_,ba,f.weak trivial,m⟩
   ·rintro a w ⟨_,rfl,a3,bT,f,m⟩
    refine Af (Ac f Z λa f=>Aa (Aq ?_))
    obtain rfl:=sj hd
    exact⟨[(.bool true)],f.g Z,f.d,_,[],(gt ah (gt al (gt a0 bT))),m,Z,Z⟩
theorem Wk.N {aa v1:Value}{ab:LL}{x1:LI}(m:Mem W G w (H))(ac:R2 G aa ab)(h1:R1 G v1 x1){y:Bool}(hd:D.N ab x1=some y):
  Calls prog 58 #[(.agg #[aa]),v1] w (Res W G H (λ_ Ho v=>Ho=[]∧v=(.bool y))):=by
 refine Aw (args:=[(.agg #[aa]),v1]) (N:=13) [.tmp 4] func58 Z Z (lb Z) Z λa f=> ?_
 unfold D.N at hd
 refine Af (Bv (cs:=[aa]) m f Z Z Z λad w a m f=>Ac f Z λa f=>Az (AN 0 0 (ds:=[aa]) m AU f Z Z Z Z Z λa f=>Bd hd λae af hd=>A1 f Z call32 (Wk.q m ac af) λag w ah m a f=>have ac:=rd2 ah ac;have h1:=rd1 ah h1;Ab f Z λa f=>Bd hd λai aj hd=> ?_))
 refine Bi 5 (λa w=>∃ak,GLe ag ak∧Mem W ak w (ib ad 29 [aa]::H)∧Fr a 13 [(0,(.agg #[aa])),(1,v1),(2,pb ad),(5,(.agg #[aa])),(6,(.bool ae)),(7,(.bool ae)),(12,(.bool ai))]) ?_ ?_
 ·rcases Ae aj with⟨al,aj⟩|⟨al,aj⟩
  ·refine As f al (Ab f Z λa f=>As f al (AN 0 0 (ds:=[aa]) m AU f Z Z Z Z Z λa f=>As f al (Bd aj λam an aj=>A1 f Z call59 (Wk.u m ac an) λao w ap m a f=>have h1:=rd1 ap h1;As f al (Bd aj λaq ar aj=>A1 f Z call56 (Wk.B m h1 ar) λau w av m a f=>l_o f (AD (f.e Z) al (f.e Z)) λa f=> ?_))))
   obtain rfl:=sj aj
   exact⟨_,(gt ap av),m,f.k Z⟩
  ·refine Au f al λa f=>Au f al λa f=>Au f al λa f=>Au f al λa f=>l_o f (AC (f.e Z) al (f.e Z)) λa f=> ?_
   obtain rfl:=sj aj
   exact⟨_,gr,m,f.k Z⟩
 ·rintro a w ⟨ak,aw,m,f⟩
  refine Ac f Z λa f=>Aa (Aq (have m:=m.dp 1;?_))
  obtain rfl:=sj hd
  exact⟨[(.bool ai)],f.g Z,f.d,_,[],(gt ah aw),m,Z,Z⟩
theorem Wk.I0 {aa:Value}{ab:LL}(m:Mem W G w (H))(ac:R2 G aa ab){y:(LL)}(hd:D.I0 ab=some y):
  Calls prog 60 #[(.agg #[aa])] w (Res W G H (λG' Ho v=>∃r0:Value,∃i0:Itm,Ho=[i0]∧v=(.agg #[r0])∧Ow R1 39 G' i0 r0 y)):=by
 refine Aw (args:=[(.agg #[aa])]) (N:=25) [.cell 2 29] func60 Z Z (lb Z) Z λa f=> ?_
 unfold D.I0 at hd
 refine Af (Bv (cs:=[aa]) m f Z Z Z λad w a m f=>Bj (cs:=[sn]) zeroValue29 m f Z Z λae w a m f=>Az ?_)
 have af:∀w,(Instr.build 29 #[]).run prog w= .ok (.agg #[sn]) w:=by intro w;simp[Instr.build,Instr.fill,B6,BT,BB,BO,Bx,B5,BV]
 refine Cr f Z Z af λa f=>Bj (cs:=[sn]) zeroValue29 m f Z Z λag w a m f=>AA 0 0 (ds:=[sn]) m sizeOf29 f Z Z Z (Ay Z AQ) Z (lb Z) Z λw m=>Aa (Ag (Af (Ac f Z λa f=>Aa ?_)))
 obtain⟨ah,m,ai⟩:=Ow.nil R1 39 m
 have⟨aj,ak,hd⟩:=bind_some hd
 refine AH (λa w=>∃al:LL,al=aj∧∃(am:GH) (an:Value) (ao:Itm),GLe G am∧Fr a 25 [(2,pb ae),(3,pb ag)]∧Mem W am w (ib ae 29 [sn]::ib ag 29 [an]::ao::H)∧Ow R1 39 am ao an al) ?_ ?_
 ·refine Al (have m:=m.fr 1;have m:=m.fr 2;have m:=m.fr 3;AE (λap a w=>∃aq:Int,∃ar:LL,(aq,ar)=ap∧∃(au:GH) (av:Value) (aw:Itm),GLe G au∧Fr a 25 [(1,pb ad),(2,pb ae),(3,pb ag),(4,iv aq)]∧Mem W au w (ib ad 29 [aa]::ib ae 29 [sn]::ib ag 29 [av]::aw::H)∧Ow R1 39 au aw av ar) ak ⟨_,_,Z,_,sn,ah,gr,f.k Z,m,ai⟩ ?_)
  clear ak f m
  rintro ap ax ay az a w ⟨aq,ar,rfl,au,av,aw,aA,f,m,aB⟩
  refine have ac:=rd2 aA ac;Ag (Af (Ab f Z λa f=>Bn underlying29 Z sizeOf27 f Z λa f=>AI 0 0 m BM f Z Z Z Z λa f=>AS underlying27 f Z Z ac λa f=>Ah f Z Z AJ λa f=>Aa ?_))
  rcases Ae ay with⟨aC,ay⟩|⟨aC,ay⟩
  ·refine An f Z aC (Ao (Ag (Al (A8 9 AR (by kernel_rfl) m (Cd 0 9 underlying29 Z sizeOf27 Z f Z λa f=>B3 1 9 2 BM Z Z Z f Z λa f=>Cd 2 9 underlying29 Z sizeOf27 Z f Z λa f=>B3 3 9 0 BM Z Z Z f Z λa f=>Am 4 9 Z f Z λa f=>Bd ay λaD aE ay=>B1 5 9 T27 ac aE Z f Z Z λaF aG a aH aI f=>BR 6 9 Bu aH Z f Z λa f=>CK 7 Z λaJ w aK m aL aL=>have aI:=rd1 aK aI;have aB:=od3 aK aB;Bd ay λaM aN ay=>BS f Z call87 (Wk.h m aI aN) λaO aP aQ w aR m aS a f=>have aB:=od3 aR aB;Aa (aL aQ [aP] _ _ aR m (CK 8 Z λaT w aU m aV aV=>have aS:=od1 aU aS;have aB:=od3 aU aB;?_)))))))
   obtain⟨aW,aX,m,aY⟩:=Ow.stamp (RI.mono _) aS m
   refine have aB:=od3 aX aB;AX (R:=R1) (xs:=([aM]:LL)) (RSl.one _) m T27 f Z Z Z (by decide) (All2.cons aY (All2.nil _)) λaZ a0 w a m a1 f=>Aa (aV aW [aZ] _ _ aX m (A4 λa2 w a3 m=>have a1:=od3 a3 a1;have aB:=od3 a3 aB;Bd ay λa4 a5 ay=>Be (RSl.one _) 4 m aB Z T27 Z (by decide) f Z Z Z (Ow.src (j:=0) a1 m Z) a5 λa6 a7 w a m a8 f=>Bn underlying29 Z sizeOf27 f Z λa f=>AA 3 0 (ds:=[a7]) m sizeOf27 f Z Z (Ow.cells 4 m a8 Z) (Ay (Ow.one1 4 m a8 Z) AQ) Z (lb Z) Z λw m=>Aa (Ak (Ab f Z λa f=>Ah f Z Z Ax λa f=>Ac f Z λa f=>Aa (have m:=m.fr 4;have m:=m.fr 4;have m:=m.fr 4;have m:Mem W a2 w (ib ad 29 [aa]::ib ae 29 [sn]::ib ag 29 [a7]::a6::aZ::H):=m.fr 4;have m:=m.eraseAt 4;?_)))))
   obtain rfl:=sj ay
   exact⟨_,Z,_,_,Z,_,a7,a6,(gt aA (gt aK (gt aR (gt aU (gt aX a3))))),f.k Z,m,a8⟩
  ·refine Ai f Z aC (AB Z (have m:=m.fr 3;have m:=m.fr 3;have m:=m.fr 3;have m:=m.eraseAt 3;?_))
   obtain rfl:=sj ay
   obtain rfl:=az _ rfl
   exact⟨_,Z,_,av,aw,aA,f.k Z,m,aB⟩
 ·rintro a w ⟨al,rfl,am,an,ao,a9,f,m,ba⟩
  refine Af (AN 1 0 (ds:=[an]) m AU f Z Z Z Z Z λa f=>AA 0 0 (ds:=[an]) m sizeOf29 f Z Z Z (Ay (Ow.one1 2 m ba Z) AQ) Z (lb Z) Z λw m=>Aa (Aq (have bb:=B8 (P:=prog) 0 m AU f (s:=2) rfl rfl rfl;have m:=m.fr 2;have m:=m.eraseAt 2;have m:=m.eraseAt 1;?_)))
  obtain rfl:=sj hd
  exact⟨[(.agg #[an])],⟨bb,trivial⟩,f.d,_,[ao],a9,m,_,_,Z,Z,ba⟩
theorem Wk.P {aa v1:Value}{ab:LL}{x1:LI}(m:Mem W G w (H))(ac:R2 G aa ab)(h1:R1 G v1 x1){y:(LL)×Bool}(hd:D.P ab x1=some y):
  Calls prog 21 #[(.agg #[aa]),v1] w (Res W G H (λG' Ho v=>∃r0:Value,∃i0:Itm,Ho=[i0]∧v= .tuple #[(.agg #[r0]),(.bool y.2)]∧Ow R1 39 G' i0 r0 y.1)):=by
 refine Aw (args:=[(.agg #[aa]),v1]) (N:=41) [.cell 4 29,.tmp 5] func21 Z Z (lb Z) Z λa f=> ?_
 unfold D.P at hd
 refine Af (Bv (cs:=[aa]) m f Z Z Z λad w a m f=>Bj (cs:=[sn]) zeroValue29 m f Z Z λae w a m f=>Ac f Z λa f=>Aa (Ag (Af (AN 1 0 (ds:=[aa]) m AU f Z Z Z Z Z λa f=>Ab f Z λa f=>Bd hd λaf ag hd=>A1 f Z call58 (Wk.N m ac h1 ag) λah w ai m a f=>have ac:=rd2 ai ac;have h1:=rd1 ai h1;l_o f (Bc (f.e Z)) λa f=>Ab f Z λa f=>Bd hd λaj ak hd=> ?_))))
 refine Bi 4 (λa w=>∃al,GLe ah al∧Mem W al w (ib ae 29 [sn]::ib ad 29 [aa]::H)∧Fr a 41 [(0,(.agg #[aa])),(1,v1),(2,pb ad),(4,pb ae),(8,(.agg #[aa])),(9,v1),(10,(.bool af)),(11,(.bool (!af))),(12,(.bool (!af))),(16,(.bool aj))]) ?_ ?_
 ·rcases Ae ak with⟨am,ak⟩|⟨am,ak⟩
  ·refine Au f am λa f=>Au f am λa f=>Au f am λa f=>l_o f (AD (f.e Z) am (f.e Z)) λa f=> ?_
   obtain rfl:=sj ak
   exact⟨_,gr,m,f.k Z⟩
  ·refine As f am (AN 1 0 (ds:=[aa]) m AU f Z Z Z Z Z λa f=>As f am (Bd ak λan ao ak=>A1 f Z call59 (Wk.u m ac ao) λap w aq m a f=>As f am (Ah f Z Z Bf λa f=>l_o f (AC (f.e Z) am (f.e Z)) λa f=> ?_)))
   obtain rfl:=sj ak
   exact⟨_,aq,m,f.k Z⟩
 ·rintro a w ⟨al,ar,m,f⟩
  refine have ac:=rd2 ar ac;have h1:=rd1 ar h1;Aa ?_
  rcases Ae hd with⟨au,hd⟩|⟨au,hd⟩
  ·refine An f Z au (Af ?_)
   have av:∀w,(Instr.build 29 #[]).run prog w= .ok (.agg #[sn]) w:=by intro w;simp[Instr.build,Instr.fill,B6,BT,BB,BO,Bx,B5,BV]
   refine Cr f Z Z av λa f=>AA 0 0 (ds:=[sn]) m sizeOf29 f Z Z Z (Ay Z AQ) Z (lb Z) Z λw m=>Ac f Z λa f=>Aa (Aq ?_)
   obtain⟨aw,m,ax⟩:=Ow.nil R1 39 m
   refine have ay:=B8 (P:=prog) 1 m AU f (s:=4) rfl rfl rfl;have m:=m.eraseAt 2;have m:=m.eraseAt 1;?_
   obtain rfl:=sj hd
   exact⟨[(.agg #[sn]),(.bool false)],⟨ay,f.get _ _ Z,trivial⟩,f.d,_,[aw],(gt ai ar),m,_,_,Z,Z,ax⟩
  ·refine Ai f Z au (Ao (Af (AN 1 0 (ds:=[aa]) m AU f Z Z Z Z Z λa f=>Bd hd λaz aA hd=>AZ f Z call60 (Wk.I0 m ac aA) λaB aC aD w aE m aF a f=> ?_)))
   obtain⟨aG,aH,rfl,rfl,aI⟩:=aF
   refine have ac:=rd2 aE ac;have h1:=rd1 aE h1;Bj (cs:=[sn]) zeroValue29 m f Z Z λaJ w a m f=>AA 0 0 (ds:=[aG]) m sizeOf29 f Z Z Z (Ay (Ow.one1 1 m aI Z) AQ) Z (lb Z) Z λw m=>Az (Bn underlying29 Z sizeOf27 f Z λa f=>AI 0 0 m BM f Z Z Z Z λa f=>AX (R:=R0) (xs:=([]:LI)) (RI.one _) m T39 f Z Z Z (by decide) (All2.nil _) λaK aL w a m aM f=> ?_)
   obtain⟨aN,aO,m,aP⟩:=Ow.stamp (RI.mono _) aM m
   refine have ac:=rd2 aO ac;have h1:=rd1 aO h1;have aI:=od3 aO aI;AX (R:=R1) (xs:=([([]:LI)]:LL)) (RSl.one _) m T27 f Z Z Z (by decide) (All2.cons aP (All2.nil _)) λaQ aR w a m aS f=>Bd hd λaT aU hd=>Be (RSl.one _) 2 m aI Z T27 Z (by decide) f Z Z Z (Ow.src (j:=0) aS m Z) aU λaV aW w a m aX f=>Bn underlying29 Z sizeOf27 f Z λa f=>AA 1 0 (ds:=[aW]) m sizeOf27 f Z Z (Ow.cells 2 m aX Z) (Ay (Ow.one1 2 m aX Z) AQ) Z (lb Z) Z λw m=>Aa (Ag (Af (Ac f Z λa f=>Aa (Bd hd λaY aZ hd=> ?_))))
   refine AH (λa w=>∃a0:LL,a0=aY∧∃(a1:GH) (a2:Itm),GLe aN a1∧Fr a 41 [(4,pb ae),(6,pb aJ)]∧Mem W a1 w (ib ae 29 [sn]::ib aJ 29 [aW]::a2::H)∧Ow R1 39 a1 a2 aW a0) ?_ ?_
   ·refine Al (have m:=m.fr 2;have m:=m.fr 2;have m:=m.fr 3;have m:Mem W aN w (ib ad 29 [aa]::ib ae 29 [sn]::ib aJ 29 [aW]::aV::aQ::H):=m.fr 4;have m:=m.eraseAt 4;AE (λa3 a w=>∃a4:Int,∃a5:LL,(a4,a5)=a3∧∃(a6:GH) (a7:Itm),GLe aN a6∧Fr a 41 [(1,v1),(2,pb ad),(4,pb ae),(6,pb aJ),(7,iv a4)]∧Mem W a6 w (ib ad 29 [aa]::ib ae 29 [sn]::ib aJ 29 [aW]::a7::H)∧Ow R1 39 a6 a7 aW a5) aZ ⟨_,_,Z,_,aV,gr,f.k Z,m,aX⟩ ?_)
    clear aZ f m
    rintro a3 a8 a9 ba a w ⟨a4,a5,rfl,a6,a7,bb,f,m,bc⟩
    refine have h1:=rd1 bb h1;have ac:=rd2 bb ac;Ag (Af (Ab f Z λa f=>Ab f Z λa f=>AS underlying39 f Z Z h1 λa f=>Ah f Z Z AJ λa f=>Aa ?_))
    rcases Ae a9 with⟨bd,a9⟩|⟨bd,a9⟩
    ·refine An f Z bd (Ao (Ag (Al (A8 7 AR (by kernel_rfl) m (By (i:=0) (ds:=[aW]) 7 2 AU Z Z Z Z (by kernel_rfl) Z f Z Z Z λa f=>Am 1 7 Z f Z λa f=>Am 2 7 Z f Z λa f=>Bd a9 λbe bf a9=>B1 3 7 T39 h1 bf Z f Z Z λbg bh a bi bj f=> ?_)))))
     subst bj
     refine BR 4 7 Pl2 bi Z f Z λa f=>By (i:=5) (ds:=[aa]) 7 0 AU Z Z Z Z (by kernel_rfl) Z f Z Z Z λa f=>Bd a9 λbk bl a9=>BZ (i:=6) 7 Z (by kernel_rfl) Z f Z Z Z call59 (λ_ _ w bm m=>Wk.u m (rd2 bm ac) bl) λa f=>A4 λbn w bo m=>have bc:=od3 bo bc;have m:=m.fr 3;Bd a9 λbp bq a9=>AZ f Z call57 (Wk.F m bc bq) λbr bs bt w bu m bv a f=> ?_
     obtain⟨bw,rfl,rfl,bx⟩:=bv
     refine AA 3 0 (ds:=[aW]) m sizeOf29 f Z Z Z (Ay (Ow.one1 0 m bx Z) AQ) Z (lb Z) Z λw m=>Aa (Ak (Ab f Z λa f=>Ah f Z Z Ax λa f=>Ac f Z λa f=>Aa (have m:=m.fr 3;have m:=m.fr 3;have m:=m.fr 3;?_)))
     obtain rfl:=sj a9
     exact⟨_,Z,_,_,Z,_,bw,(gt bb (gt bo bu)),f.k Z,m,bx⟩
    ·refine Ai f Z bd (AB Z (have m:=m.fr 3;have m:=m.fr 3;have m:=m.fr 3;have m:=m.eraseAt 3;?_))
     obtain rfl:=sj a9
     obtain rfl:=ba _ rfl
     exact⟨_,Z,_,a7,bb,f.k Z,m,bc⟩
   ·rintro a w ⟨a0,rfl,a1,a2,bz,f,m,bA⟩
    refine Af (AN 1 0 (ds:=[aW]) m AU f Z Z Z Z Z λa f=>AA 0 0 (ds:=[aW]) m sizeOf29 f Z Z Z (Ay (Ow.one1 2 m bA Z) AQ) Z (lb Z) Z λw m=>Ac f Z λa f=>Aa (Aq (have bB:=B8 (P:=prog) 0 m AU f (s:=4) rfl rfl rfl;have m:=m.fr 2;have m:=m.eraseAt 2;have m:=m.eraseAt 1;?_)))
    obtain rfl:=sj hd
    exact⟨[(.agg #[aW]),(.bool true)],⟨bB,f.get _ _ Z,trivial⟩,f.d,_,[a2],(gt ai (gt ar (gt aE (gt aO bz)))),m,_,_,Z,Z,bA⟩
theorem Wk.o0 {b0:Nat}{aa:Value}{ab:LI}{ac ad x1 x2:Int}(m:Mem W G w (BF b0 ac ad aa::H))(ae:RSl (RI .u8) G aa ab){y:(LL)×(LI)×Int×Int}(hd:D.o0 ab ac ad x1 x2=some y):
  Calls prog 8 #[pb b0,iv x1,iv x2] w (Res W G H (λG' Ho v=>∃r0:Value,∃i0:Itm,∃r2:Value,Ho=[i0,BF b0 y.2.2.1 y.2.2.2 r2]∧v=(.agg #[r0])∧Ow R1 39 G' i0 r0 y.1∧RSl (RI .u8) G' r2 y.2.1)):=by
 refine Aw (args:=[pb b0,iv x1,iv x2]) (N:=65) [.cell 6 29] func8 Z Z (lb Z) Z λa f=> ?_
 unfold D.o0 at hd
 refine Af (Bj (cs:=[sn]) zeroValue29 m f Z Z λaf w a m f=>Az (AX (R:=R1) (xs:=([]:LL)) (RSl.one _) m T27 f Z Z Z (by decide) (All2.nil _) λag ah w a m ai f=> ?_))
 obtain⟨aj,ak,m,al⟩:=Ow.stamp (RSl.mono (RI.mono _)) ai m
 refine have ae:=rd1 ak ae;Bd hd λam an hd=>AZ f Z call19 (Wk.Q m al an) λao ap aq w ar m au a f=> ?_
 obtain⟨av,aw,rfl,rfl,ax⟩:=au
 refine have ae:=rd1 ar ae;Ab f Z λa f=>l_o f (A2 (f.e Z) Z) λa f=>l_o f (A2 (f.e Z) Z) λa f=>Bj (cs:=[sn]) zeroValue29 m f Z Z λay w a m f=>AA 0 0 (ds:=[av]) m sizeOf29 f Z Z Z (Ay (Ow.one1 1 m ax Z) AQ) Z (lb Z) Z λw m=>Ac f Z λa f=>Aa (Ag (Af (Ab f Z λa f=>Ab f Z λa f=>have m:=m.fr 3;Bd hd λaz aA hd=>AZ f Z call7 (Wk.j m ae aA) λaB aC aD w aE m aF a f=> ?_)))
 obtain⟨aG,rfl,rfl,aH⟩:=aF
 refine have ax:=od3 aE ax;Ac f Z λa f=>Aa (Bd hd λaI aJ hd=> ?_)
 refine AH (λa w=>∃aK:LL,∃aL:LI,∃aM:Int,∃aN:Int,(aK,aL,aM,aN)=aI∧∃(aO:GH) (aP:Value) (aQ:Itm) (aR:Value),GLe aC aO∧Fr a 65 [(6,pb af),(7,pb ay)]∧Mem W aO w (ib af 29 [sn]::ib ay 29 [aP]::BF b0 aM aN aR::aQ::H)∧Ow R1 39 aO aQ aP aK∧RSl (RI .u8) aO aR aL) ?_ ?_
 ·refine Al (have m:=m.fr 3;have m:=m.fr 1;AE (λaS a w=>∃aT:Int,∃aU:LI,∃aV:Int,∃aW:Int,∃aX:LL,(aT,aU,aV,aW,aX)=aS∧∃(aY:GH) (aZ:Value) (a2:Value) (a3:Itm),GLe aC aY∧Fr a 65 [(0,pb b0),(2,iv x2),(6,pb af),(7,pb ay),(9,iv aT)]∧Mem W aY w (BF b0 aV aW aZ::ib af 29 [sn]::ib ay 29 [a2]::a3::H)∧RSl (RI .u8) aY aZ aU∧Ow R1 39 aY a3 a2 aX) aJ ⟨_,_,_,_,_,Z,_,aG,av,aw,gr,f.k Z,m,aH,ax⟩ ?_)
  clear aJ f m
  rintro aS a4 a5 a6 a w ⟨aT,aU,aV,aW,aX,rfl,aY,aZ,a2,a3,a7,f,m,a8,a9⟩
  refine Ag (Af (Ab f Z λa f=>Ah f Z Z BX λa f=>Aa ?_))
  rcases Ae a5 with⟨ba,a5⟩|⟨ba,a5⟩
  ·refine An f Z ba (Ao (Ag (Al (Af (Ab f Z λa f=>Bn underlying29 Z sizeOf27 f Z λa f=>AI 2 0 m BM f Z Z Z Z λa f=>Bz 3 m a9 Z underlying27 f Z Z λa f=>Bd a5 λbb bc a5=>AZ f Z call7 (Wk.j m a8 bc) λbd be bf w bg m bh a f=> ?_)))))
   obtain⟨bi,rfl,rfl,bj⟩:=bh
   refine have a9:=od3 bg a9;Ac f Z λa f=>Az (Ab f Z λa f=>AX (R:=R0) (xs:=([bb.1]:LI)) (RI.one _) m T39 f Z Z Z (by decide) (All2.cons Z (All2.nil _)) λbk bl w a m bm f=>Ac f Z λa f=>Az (Ab f Z λa f=>Ab f Z λa f=>Ab f Z λa f=>Ah f Z Z AT λa f=>have m:=m.fr 1;Bd a5 λbn bo a5=>AZ f Z call7 (Wk.j m bj bo) λbp bq br w bs m bt a f=> ?_))
   obtain⟨bu,rfl,rfl,bv⟩:=bt
   refine have bm:=od1 bs bm;have a9:=od3 bs a9;Ah f Z Z Ax λa f=>Ac f Z λa f=>Aa (Ag (Af (Ab f Z λa f=>Ah f Z Z BN λa f=>Aa (Bd a5 λbw bx a5=> ?_))))
   refine AH (λa w=>∃bz:LI,bz=bw∧∃(bA:GH) (bB:Value) (bC:Itm),GLe bq bA∧Fr a 65 [(0,pb b0),(2,iv x2),(6,pb af),(7,pb ay),(9,iv aT),(10,iv bb.1),(11,bB),(12,(iv (i64.wrap (x2+bn.1))))]∧Mem W bA w (BF b0 bn.2.2.1 bn.2.2.2 bu::ib af 29 [sn]::ib ay 29 [a2]::bC::a3::H)∧Ow R0 2 bA bC bB bz) ?_ ?_
   ·rcases Ae bx with⟨bD,bx⟩|⟨bD,bx⟩
    ·refine An f Z bD (Ak (AX (R:=R0) (xs:=([]:LI)) (RI.one _) m T39 f Z Z Z (by decide) (All2.nil _) λbE bF w a m bG f=>Bn underlying29 Z sizeOf27 f Z λa f=>AI 4 0 m BM f Z Z Z Z λa f=>Ab f Z λa f=>Bd bx λbH bI bx=>Bq 5 m a9 Z T27 f Z Z Z bI λbJ a bK f=>B2 5 m a9 Z Bu f Z Z bK bI λbL a bM f=>Bd bx λbN bO bx=>Be (RI.one _) 0 m bG Z T39 Z (by decide) f Z Z Z (bM.src m) bO λbP bQ w a m bR f=>Ac f Z λa f=>Aa (have m:=m.fr 5;have m:=m.fr 1;have m:=m.fr 5;have m:Mem W bq w (ib af 29 [sn]::ib ay 29 [a2]::bP::a3::BF b0 bn.2.2.1 bn.2.2.2 bu::bk::H):=m.fr 5;have m:=m.fr 4;have m:=m.eraseAt 5;?_)))
     obtain rfl:=sj bx
     exact⟨_,Z,_,bQ,bP,gr,f.k Z,m,bR⟩
    ·refine Ai f Z bD (Ao (have m:=m.fr 3;have m:=m.fr 3;have m:=m.fr 2;?_))
     obtain rfl:=sj bx
     exact⟨_,Z,_,bl,bk,gr,f.k Z,m,bm⟩
   ·rintro a w ⟨bz,rfl,bA,bB,bC,bS,f,m,bT⟩
    refine have bv:=rd1 bS bv;have a9:=od3 bS a9;Ag (Af (Ab f Z λa f=>Ah f Z Z Bf λa f=>Aa (Bd a5 λbU bV a5=> ?_)))
    refine AH (λa w=>∃bW:LI,bW=bU∧∃(bX:GH) (bY:Value) (bZ:Itm),GLe bA bX∧Fr a 65 [(0,pb b0),(2,iv x2),(6,pb af),(7,pb ay),(9,iv aT),(11,bY),(12,(iv (i64.wrap (x2+bn.1))))]∧Mem W bX w (BF b0 bn.2.2.1 bn.2.2.2 bu::ib af 29 [sn]::ib ay 29 [a2]::bZ::a3::H)∧Ow R0 2 bX bZ bY bW) ?_ ?_
    ·rcases Ae bV with⟨b1,bV⟩|⟨b1,bV⟩
     ·refine An f Z b1 (Ak (Ab f Z λa f=>Ab f Z λa f=>Bd bV λb2 b3 bV=>BS f Z call20 (Ow.lendCall (RI.mono _) 3 bT m Z (λb4 b5 m b6=>Wk.N0 m b6 b3) (λ_ G' _ _ ⟨a0,a1,e1,e2,o0⟩=>⟨a0,a1,e1,e2,Ow.free (RI.free _) G' o0⟩)) λb7 b8 b9 w ca m cb a f=>Ac f Z λa f=>Aa (have m:=m.fr 5;have m:=m.fr 1;have m:=m.fr 4;have m:Mem W b9 w (ib af 29 [sn]::ib ay 29 [a2]::b8::a3::BF b0 bn.2.2.1 bn.2.2.2 bu::bC::H):=m.fr 4;have m:=m.fr 4;have m:=m.eraseAt 5;?_)))
      obtain rfl:=sj bV
      exact⟨_,Z,_,b7,b8,ca,f.k Z,m,cb⟩
     ·refine Ai f Z b1 (Ao ?_)
      obtain rfl:=sj bV
      exact⟨_,Z,_,bB,bC,gr,f.k Z,m,bT⟩
    ·rintro a w ⟨bW,rfl,bX,bY,bZ,cc,f,m,cd⟩
     refine have bv:=rd1 cc bv;have a9:=od3 cc a9;Ag (Af (Ab f Z λa f=>Ah f Z Z Bf λa f=>Aa ?_))
     rcases Ae a5 with⟨ce,a5⟩|⟨ce,a5⟩
     ·refine An f Z ce (Ak (AX (R:=R0) (xs:=([]:LI)) (RI.one _) m T39 f Z Z Z (by decide) (All2.nil _) λcf cg w a m ch f=>Ac f Z λa f=>Az (AN 3 0 (ds:=[a2]) m AU f Z Z Z Z Z λa f=>Ab f Z λa f=>have m:=m.fr 5;?_)))
      obtain⟨ci,cj,m,ck⟩:=Ow.stamp (RSl.mono (RI.mono _)) a9 m
      refine have ch:=od1 cj ch;have bv:=rd1 cj bv;?_
      obtain⟨cl,cm,m,cn⟩:=Ow.stamp (RI.mono _) ch m
      refine have ck:=rd2 cm ck;have bv:=rd1 cm bv;Bd a5 λco cp a5=>AZ f Z call21 (Wk.P m ck cn cp) λcq cr ct w cu m cv a f=> ?_
      obtain⟨cw,cx,rfl,rfl,cy⟩:=cv
      refine have bv:=rd1 cu bv;Ab f Z λa f=>l_o f (A2 (f.e Z) Z) λa f=>l_o f (A2 (f.e Z) Z) λa f=>Bj (cs:=[sn]) zeroValue29 m f Z Z λcz w a m f=>AA 0 0 (ds:=[cw]) m sizeOf29 f Z Z Z (Ay (Ow.one1 1 m cy Z) AQ) Z (lb Z) Z λw m=>Ac f Z λa f=>Aa (Ak (AN 0 0 (ds:=[cw]) m AU f Z Z Z Z Z λa f=>AA 4 0 (ds:=[cw]) m sizeOf29 f Z Z Z (Ay (Ow.one1 1 m cy Z) AQ) Z (lb Z) Z λw m=>Aa (Ak (Ab f Z λa f=>Ah f Z Z AT λa f=>Ac f Z λa f=>Aa (have m:=m.fr 1;have m:=m.fr 4;have m:=m.fr 4;have m:Mem W cr w (BF b0 bn.2.2.1 bn.2.2.2 bu::ib af 29 [sn]::ib ay 29 [cw]::cx::ib cz 29 [cw]::bZ::H):=m.fr 4;have m:=m.fr 5;have m:=m.fr 4;have m:=m.fr 4;have m:Mem W cr w (ib af 29 [sn]::ib ay 29 [cw]::cx::bZ::BF b0 bn.2.2.1 bn.2.2.2 bu::ib cz 29 [cw]::H):=m.fr 4;have m:=m.fr 4;have m:=m.eraseAt 5;?_)))))
      have m:=m.eraseAt 4
      obtain rfl:=sj a5
      exact⟨_,Z,_,_,_,_,_,Z,_,bu,cw,cx,(gt a7 (gt bg (gt bs (gt bS (gt cc (gt cj (gt cm cu))))))),f.k Z,m,bv,cy⟩
     ·refine Ai f Z ce (Ao (Af (AN 2 0 (ds:=[a2]) m AU f Z Z Z Z Z λa f=>Ab f Z λa f=>have m:=m.fr 4;?_)))
      obtain⟨cA,cB,m,cC⟩:=Ow.stamp (RSl.mono (RI.mono _)) a9 m
      refine have bv:=rd1 cB bv;have cd:=od1 cB cd;have m:=m.fr 3;?_
      obtain⟨cD,cE,m,cF⟩:=Ow.stamp (RI.mono _) cd m
      refine have cC:=rd2 cE cC;have bv:=rd1 cE bv;Bd a5 λcG cH a5=>AZ f Z call21 (Wk.P m cC cF cH) λcI cJ cK w cL m cM a f=> ?_
      obtain⟨cN,cO,rfl,rfl,cP⟩:=cM
      refine have bv:=rd1 cL bv;Ab f Z λa f=>l_o f (A2 (f.e Z) Z) λa f=>l_o f (A2 (f.e Z) Z) λa f=>Bj (cs:=[sn]) zeroValue29 m f Z Z λcQ w a m f=>AA 0 0 (ds:=[cN]) m sizeOf29 f Z Z Z (Ay (Ow.one1 1 m cP Z) AQ) Z (lb Z) Z λw m=>Ac f Z λa f=>Aa (Ak (AN 0 0 (ds:=[cN]) m AU f Z Z Z Z Z λa f=>AA 4 0 (ds:=[cN]) m sizeOf29 f Z Z Z (Ay (Ow.one1 1 m cP Z) AQ) Z (lb Z) Z λw m=>Aa (Ak (Ab f Z λa f=>Ah f Z Z AT λa f=>Ac f Z λa f=>Aa (have m:=m.fr 1;have m:=m.fr 4;have m:=m.fr 4;have m:Mem W cJ w (BF b0 bn.2.2.1 bn.2.2.2 bu::ib af 29 [sn]::ib ay 29 [cN]::cO::ib cQ 29 [cN]::H):=m.fr 4;have m:=m.eraseAt 4;?_)))))
      obtain rfl:=sj a5
      exact⟨_,Z,_,_,_,_,_,Z,_,bu,cN,cO,(gt a7 (gt bg (gt bs (gt bS (gt cc (gt cB (gt cE cL))))))),f.k Z,m,bv,cP⟩
  ·refine Ai f Z ba (AB Z (have m:=m.fr 2;have m:=m.fr 2;?_))
   obtain rfl:=sj a5
   obtain rfl:=a6 _ rfl
   exact⟨_,_,_,_,Z,_,a2,a3,aZ,a7,f.k Z,m,a9,a8⟩
 ·rintro a w ⟨aK,aL,aM,aN,rfl,aO,aP,aQ,aR,cR,f,m,cS,cT⟩
  refine Af (AN 1 0 (ds:=[aP]) m AU f Z Z Z Z Z λa f=>AA 0 0 (ds:=[aP]) m sizeOf29 f Z Z Z (Ay (Ow.one1 3 m cS Z) AQ) Z (lb Z) Z λw m=>Aa (Aq (have cU:=B8 (P:=prog) 0 m AU f (s:=6) rfl rfl rfl;have m:=m.fr 2;have m:=m.fr 3;have m:=m.eraseAt 3;have m:=m.eraseAt 2;?_)))
  obtain rfl:=sj hd
  exact⟨[(.agg #[aP])],⟨cU,trivial⟩,f.d,_,[aQ,BF b0 aM aN aR],(gt ak (gt ar (gt aE cR))),m,_,_,_,Z,Z,cS,cT⟩
theorem Wk.y {x0 x1 x2:Int}(m:Mem W G w (H)){y:Bool}(hd:D.y x0 x1 x2=some y):
  Calls prog 45 #[iv x0,iv x1,iv x2] w (Res W G H (λ_ Ho v=>Ho=[]∧v=(.bool y))):=by
 refine Aw (args:=[iv x0,iv x1,iv x2]) (N:=15) [.tmp 6] func45 Z Z (lb Z) Z λa f=> ?_
 unfold D.y at hd
 refine Af (Ac f Z λa f=>Az (Ab f Z λa f=>Ab f Z λa f=>Ah f Z Z CA λa f=>Ab f Z λa f=> ?_))
 refine Bi 4 (λa w=>∃aa,GLe G aa∧Mem W aa w (H)∧Fr a 15 [(0,iv x0),(1,iv x1),(2,iv x2),(7,iv x1),(8,iv x0),(9,(.bool (decide (x1≤x0)))),(10,(.bool (decide (x1≤x0)))),(14,(.bool ((decide (x1≤x0))&&(decide (x0≤x2)))))]) ?_ ?_
 ·rcases Bool.eq_false_or_eq_true (decide (x1≤x0)) with ab|ab
  ·exact As f ab (Ab f Z λa f=>As f ab (Ab f Z λa f=>As f ab (Ah f Z Z CA λa f=>l_o f (AD (f.e Z) ab (f.e Z)) λa f=>⟨_,gr,m,f.weak ⟨Z,Z,Z,Z,Z,Z,Z,by rw[ab];rfl,trivial⟩⟩)))
  ·exact Au f ab λa f=>Au f ab λa f=>Au f ab λa f=>l_o f (AC (f.e Z) ab (f.e Z)) λa f=>⟨_,gr,m,f.weak ⟨Z,Z,Z,Z,Z,Z,Z,by rw[ab];rfl,trivial⟩⟩
 ·rintro a w ⟨aa,ac,m,f⟩
  refine Ac f Z λa f=>Aa (Aq ?_)
  obtain rfl:=sj hd
  exact⟨[(.bool ((decide (x1≤x0))&&(decide (x0≤x2))))],f.g Z,f.d,_,[],ac,m,Z,Z⟩
theorem Wk.g0 {v0:Value}{x0:LI}{x1:Int}(m:Mem W G w (H))(h0:R1 G v0 x0){y:Bool}(hd:D.g0 x0 x1=some y):
  Calls prog 61 #[v0,iv x1] w (Res W G H (λ_ Ho v=>Ho=[]∧v=(.bool y))):=by
 refine Aw (args:=[v0,iv x1]) (N:=33) [.tmp 4] func61 Z Z (lb Z) Z λa f=> ?_
 unfold D.g0 at hd
 refine Af (Ac f Z λa f=>Aa (Ag (Af (Ab f Z λa f=>AS underlying39 f Z Z h0 λa f=>Ab f Z λa f=>Aa (Bd hd λaa ab hd=> ?_)))))
 refine AH (λa w=>∃q_181':Unit,aa= .inl q_181'∧∃(ac:GH),GLe G ac∧Fr a 33 []∧Mem W ac w (H)) ?_ ?_
 ·refine Al (AE (λad a w=>∃ae:Int,ae=ad∧∃(af:GH),GLe G af∧Fr a 33 [(0,v0),(1,iv x1),(7,v0),(8,(iv (x0.length:Int))),(9,iv ae)]∧Mem W af w (H)) ab ⟨_,Z,_,gr,f.k Z,m⟩ ?_)
  clear ab f m
  rintro ad ag ah ai a w ⟨ae,rfl,af,aj,f,m⟩
  refine have h0:=rd1 aj h0;Af (Ah f Z Z AJ λa f=>Aa (Ag ?_))
  rcases Ae ah with⟨ak,ah⟩|⟨ak,ah⟩
  ·refine An f Z ak (Ao (Ag (Al (Af (Ab f Z λa f=>Bd ah λal am ah=>Bt T39 f Z Z Z h0 am λan ao a ap aq f=> ?_)))))
   subst aq
   refine AL m Pl2 f Z Z ap λa f=>Ac f Z λa f=>Ac f Z λa f=>Az (Ab f Z λa f=>Ab f Z λa f=>Ah f Z Z AT λa f=>Bd ah λar au ah=>A1 f Z call45 (Wk.y m au) λav w aw m a f=>have h0:=rd1 aw h0;l_o f (Bc (f.e Z)) λa f=>Ab f Z λa f=>Bd ah λax ay ah=> ?_)
   refine Bi 12 (λa w=>∃az,GLe av az∧Mem W az w (H)∧Fr a 33 [(0,v0),(1,iv x1),(5,iv ae),(6,iv al),(7,v0),(8,(iv (x0.length:Int))),(9,iv ae),(14,iv al),(15,iv x1),(16,(iv (i64.wrap (x1-1)))),(17,(.bool ar)),(18,(.bool (!ar))),(19,(.bool (!ar))),(31,(.bool ax))]) ?_ ?_
   ·rcases Ae ay with⟨aA,ay⟩|⟨aA,ay⟩
    ·refine Au f aA λa f=>Au f aA λa f=>Au f aA λa f=>DT f Z Z Z λa f=>DT f Z Z Z λa f=>DT f Z Z Z λa f=>DT f Z Z Z λa f=>DT f Z Z Z λa f=>DT f Z Z Z λa f=>DT f Z Z Z λa f=>Au f aA λa f=>l_o f (AD (f.e Z) aA (f.e Z)) λa f=> ?_
     obtain rfl:=sj ay
     exact⟨_,gr,m,f.k Z⟩
    ·refine As f aA (Ab f Z λa f=>As f aA (Ah f Z Z BX λa f=>As f aA (Ab f Z λa f=>Bd ay λaB aC ay=> ?_)))
     refine Bi 8 (λa w=>∃aD,GLe av aD∧Mem W aD w (H)∧Fr a 33 [(0,v0),(1,iv x1),(5,iv ae),(6,iv al),(7,v0),(8,(iv (x0.length:Int))),(9,iv ae),(14,iv al),(15,iv x1),(16,(iv (i64.wrap (x1-1)))),(17,(.bool ar)),(18,(.bool (!ar))),(19,(.bool (!ar))),(20,iv ae),(21,(.bool (decide ((0:Int)<ae)))),(22,(.bool (decide ((0:Int)<ae)))),(30,(.bool aB))]) ?_ ?_
     ·rcases Ae aC with⟨aE,aC⟩|⟨aE,aC⟩
      ·refine As f aE (Ab f Z λa f=>As f aE (Ab f Z λa f=>As f aE (Ah f Z Z AT λa f=>As f aE (Bd aC λaF aG aC=>Bt T39 f Z Z Z h0 aG λaH aI a aJ aK f=> ?_))))
       subst aK
       refine As f aE (AL m Pl2 f Z Z aJ λa f=>As f aE (Ab f Z λa f=>As f aE (Ah f Z Z Ck λa f=>As f aA (l_o f (AD (f.e Z) aE (f.e Z)) λa f=> ?_))))
       obtain rfl:=sj aC
       exact⟨_,gr,m,f.k Z⟩
      ·refine Au f aE λa f=>Au f aE λa f=>Au f aE λa f=>Au f aE λa f=>Au f aE λa f=>Au f aE λa f=>Au f aE λa f=>As f aA (l_o f (AC (f.e Z) aE (f.e Z)) λa f=> ?_)
       obtain rfl:=sj aC
       exact⟨_,gr,m,f.k Z⟩
     ·rintro a w ⟨aD,aL,m,f⟩
      refine l_o f (AC (f.e Z) aA (f.e Z)) λa f=> ?_
      obtain rfl:=sj ay
      exact⟨_,aL,m,f.k Z⟩
   ·rintro a w ⟨az,aM,m,f⟩
    refine Aa ?_
    rcases Ae ah with⟨aN,ah⟩|⟨aN,ah⟩
    ·refine An f Z aN (Af (Ac f Z λa f=>Aa (Aq ?_)))
     obtain rfl:=sj ah
     obtain rfl:=ai _ rfl
     obtain rfl:=sj hd
     exact⟨[(.bool false)],f.g Z,f.d,_,[],(gt aj (gt aw aM)),m,Z,Z⟩
    ·refine Ai f Z aN (Ao (Ak (Ah f Z Z Ax λa f=>Ab f Z λa f=>Aa ?_)))
     obtain rfl:=sj ah
     exact⟨_,Z,_,Z,_,(gt aj (gt aw aM)),f.k Z,m⟩
  ·refine Ai f Z ak (AB Z ?_)
   obtain rfl:=sj ah
   obtain rfl:=ai _ rfl
   exact⟨_,Z,_,aj,f.weak trivial,m⟩
 ·rintro a w ⟨_,rfl,ac,aO,f,m⟩
  refine Af (Ac f Z λa f=>Aa (Aq ?_))
  obtain rfl:=sj hd
  exact⟨[(.bool true)],f.g Z,f.d,_,[],aO,m,Z,Z⟩
theorem Wk.z {aa:Value}{ab:LL}(m:Mem W G w (H))(ac:R2 G aa ab){y:Bool}(hd:D.z ab=some y):
  Calls prog 22 #[(.agg #[aa])] w (Res W G H (λ_ Ho v=>Ho=[]∧v=(.bool y))):=by
 refine Aw (args:=[(.agg #[aa])]) (N:=61) [.tmp 2] func22 Z Z (lb Z) Z λa f=> ?_
 unfold D.z at hd
 refine Af (Bv (cs:=[aa]) m f Z Z Z λad w a m f=>Ac f Z λa f=>Az (Bn underlying29 Z sizeOf27 f Z λa f=>AI 0 0 m BM f Z Z Z Z λa f=>AS underlying27 f Z Z ac λa f=>Ac f Z λa f=>Aa (Ag (Af (Ab f Z λa f=>Ah f Z Z AJ λa f=>Ab f Z λa f=> ?_)))))
 refine Bi 3 (λa w=>∃ae,GLe G ae∧Mem W ae w (ib ad 29 [aa]::H)∧Fr a 61 [(0,(.agg #[aa])),(1,pb ad),(3,(iv (ab.length:Int))),(13,(iv (ab.length:Int))),(14,(.bool (decide ((ab.length:Int)<1)))),(15,(.bool (decide ((ab.length:Int)<1)))),(18,(.bool ((decide ((ab.length:Int)<1))||(decide ((16:Int)<(ab.length:Int))))))]) ?_ ?_
 ·rcases Bool.eq_false_or_eq_true (decide ((ab.length:Int)<1)) with af|af
  ·exact Au f af λa f=>Au f af λa f=>l_o f (AD (f.e Z) af (f.e Z)) λa f=>⟨_,gr,m,f.weak ⟨Z,Z,Z,Z,Z,Z,by rw[af];rfl,trivial⟩⟩
  ·exact As f af (Ab f Z λa f=>As f af (Ah f Z Z BX λa f=>l_o f (AC (f.e Z) af (f.e Z)) λa f=>⟨_,gr,m,f.weak ⟨Z,Z,Z,Z,Z,Z,by rw[af];rfl,trivial⟩⟩))
 ·rintro a w ⟨ae,ag,m,f⟩
  refine have ac:=rd2 ag ac;Aa ?_
  rcases Ae hd with⟨ah,hd⟩|⟨ah,hd⟩
  ·refine An f Z ah (Af (Ac f Z λa f=>Aa (Aq (have m:=m.dp 1;?_))))
   obtain rfl:=sj hd
   exact⟨[(.bool false)],f.g Z,f.d,_,[],ag,m,Z,Z⟩
  ·refine Ai f Z ah (Ao (Ag (Af (Bn underlying29 Z sizeOf27 f Z λa f=>AI 0 0 m BM f Z Z Z Z λa f=>AS underlying27 f Z Z ac λa f=>Ab f Z λa f=>Aa (Bd hd λai aj hd=> ?_)))))
   refine AH (λa w=>∃q_91':Unit,ai= .inl q_91'∧∃(ak:GH),GLe ae ak∧Fr a 61 [(1,pb ad)]∧Mem W ak w (ib ad 29 [aa]::H)) ?_ ?_
   ·refine Al (AE (λal a w=>∃am:Int,am=al∧∃(an:GH),GLe ae an∧Fr a 61 [(1,pb ad),(3,(iv (ab.length:Int))),(20,aa),(21,(iv (ab.length:Int))),(22,iv am)]∧Mem W an w (ib ad 29 [aa]::H)) aj ⟨_,Z,_,gr,f.k Z,m⟩ ?_)
    clear aj f m
    rintro al ao ap aq a w ⟨am,rfl,an,ar,f,m⟩
    refine have ac:=rd2 ar ac;Af (Ah f Z Z AJ λa f=>Aa (Ag ?_))
    rcases Ae ap with⟨au,ap⟩|⟨au,ap⟩
    ·refine An f Z au (Ao (Ag (Al (Af (Ab f Z λa f=>Bd ap λav aw ap=>Bt T27 f Z Z Z ac aw λax ay a az aA f=>AL m Bu f Z Z az λa f=>Ac f Z λa f=>Ac f Z λa f=>Az (Ab f Z λa f=>Ab f Z λa f=>Bd ap λaB aC ap=>A1 f Z call61 (Wk.g0 m aA aC) λaD w aE m a f=>have aA:=rd1 aE aA;l_o f (Bc (f.e Z)) λa f=>Ab f Z λa f=>Bd ap λaF aG ap=> ?_))))))
     refine Bi 4 (λa w=>∃aH,GLe aD aH∧Mem W aH w (ib ad 29 [aa]::H)∧Fr a 61 [(1,pb ad),(3,(iv (ab.length:Int))),(4,iv am),(5,ay),(20,aa),(21,(iv (ab.length:Int))),(22,iv am),(27,ay),(28,(iv (ab.length:Int))),(29,(.bool aB)),(30,(.bool (!aB))),(31,(.bool (!aB))),(35,(.bool aF))]) ?_ ?_
     ·rcases Ae aG with⟨aI,aG⟩|⟨aI,aG⟩
      ·refine Au f aI λa f=>Au f aI λa f=>Au f aI λa f=>l_o f (AD (f.e Z) aI (f.e Z)) λa f=> ?_
       obtain rfl:=sj aG
       exact⟨_,gr,m,f.k Z⟩
      ·refine As f aI (Ab f Z λa f=>As f aI (Ab f Z λa f=>As f aI (Bd aG λaJ aK aG=>A1 f Z call62 (Wk.c0 m aA aK) λaL w aM m a f=>l_o f (AC (f.e Z) aI (f.e Z)) λa f=> ?_)))
       obtain rfl:=sj aG
       exact⟨_,aM,m,f.k Z⟩
     ·rintro a w ⟨aH,aN,m,f⟩
      refine Aa ?_
      rcases Ae ap with⟨aO,ap⟩|⟨aO,ap⟩
      ·refine An f Z aO (Af (Ac f Z λa f=>Aa (Aq (have m:=m.dp 1;?_))))
       obtain rfl:=sj ap
       obtain rfl:=aq _ rfl
       obtain rfl:=sj hd
       exact⟨[(.bool false)],f.g Z,f.d,_,[],(gt ag (gt ar (gt aE aN))),m,Z,Z⟩
      ·refine Ai f Z aO (Ao (Ak (Ah f Z Z Ax λa f=>Ab f Z λa f=>Aa ?_)))
       obtain rfl:=sj ap
       exact⟨_,Z,_,Z,_,(gt ar (gt aE aN)),f.k Z,m⟩
    ·refine Ai f Z au (AB Z ?_)
     obtain rfl:=sj ap
     obtain rfl:=aq _ rfl
     exact⟨_,Z,_,ar,f.k Z,m⟩
   ·rintro a w ⟨_,rfl,ak,aP,f,m⟩
    refine have ac:=rd2 aP ac;Ag (Af (Bn underlying29 Z sizeOf27 f Z λa f=>AI 0 0 m BM f Z Z Z Z λa f=>AS underlying27 f Z Z ac λa f=>Ab f Z λa f=>Aa (Bd hd λaQ aR hd=> ?_)))
    refine AH (λa w=>∃q_394':Unit,aQ= .inl q_394'∧∃(aS:GH),GLe ak aS∧Fr a 61 []∧Mem W aS w (H)) ?_ ?_
    ·refine Al (AE (λaT a w=>∃aU:Int,aU=aT∧∃(aV:GH),GLe ak aV∧Fr a 61 [(1,pb ad),(38,aa),(39,(iv (ab.length:Int))),(40,iv aU)]∧Mem W aV w (ib ad 29 [aa]::H)) aR ⟨_,Z,_,gr,f.k Z,m⟩ ?_)
     clear aR f m
     rintro aT aW aX aY a w ⟨aU,rfl,aV,aZ,f,m⟩
     refine have ac:=rd2 aZ ac;Af (Ah f Z Z AJ λa f=>Aa (Ag ?_))
     rcases Ae aX with⟨a0,aX⟩|⟨a0,aX⟩
     ·refine An f Z a0 (Ao (Ag (Al (Af (Ab f Z λa f=>Bd aX λa1 a2 aX=>Bt T27 f Z Z Z ac a2 λa3 a4 a a5 a6 f=>AL m Bu f Z Z a5 λa f=>Ac f Z λa f=>Ac f Z λa f=>Az (Ab f Z λa f=>AS underlying39 f Z Z a6 λa f=>Ab f Z λa f=>Aa (Bd aX λa7 a8 aX=> ?_)))))))
      refine AH (λa w=>∃q_560':Unit,a7= .inl q_560'∧∃(a9:GH),GLe aV a9∧Fr a 61 [(1,pb ad),(38,aa),(39,(iv (ab.length:Int))),(40,iv aU)]∧Mem W a9 w (ib ad 29 [aa]::H)) ?_ ?_
      ·refine Al (AE (λba a w=>∃bb:Int,bb=ba∧∃(bc:GH),GLe aV bc∧Fr a 61 [(1,pb ad),(6,iv aU),(38,aa),(39,(iv (ab.length:Int))),(40,iv aU),(45,a4),(46,(iv (a1.length:Int))),(47,iv bb)]∧Mem W bc w (ib ad 29 [aa]::H)) a8 ⟨_,Z,_,gr,f.k Z,m⟩ ?_)
       clear a8 f m
       rintro ba bd be bf a w ⟨bb,rfl,bc,bg,f,m⟩
       refine have ac:=rd2 bg ac;have a6:=rd1 bg a6;Af (Ah f Z Z AJ λa f=>Aa (Ag ?_))
       rcases Ae be with⟨bh,be⟩|⟨bh,be⟩
       ·refine An f Z bh (Ao (Ag (Al (Af (Bd be λbi bj be=>Bt T39 f Z Z Z a6 bj λbk bl a bm bn f=> ?_)))))
        subst bn
        refine AL m Pl2 f Z Z bm λa f=>Ac f Z λa f=>Az (Bn underlying29 Z sizeOf27 f Z λa f=>AI 0 0 m BM f Z Z Z Z λa f=>Ab f Z λa f=>Bd be λbo bp be=>Bt T27 f Z Z Z ac bp λbq br a bs bt f=>AL m Bu f Z Z bs λa f=>Ab f Z λa f=>Bd be λbu bv be=>A1 f Z call62 (Wk.c0 m bt bv) λbw w bx m a f=>l_o f (Bc (f.e Z)) λa f=>Aa ?_)
        rcases Ae be with⟨bz,be⟩|⟨bz,be⟩
        ·refine An f Z bz (Af (Ac f Z λa f=>Aa (Aq (have m:=m.dp 1;?_))))
         obtain rfl:=sj be
         obtain rfl:=bf _ rfl
         obtain rfl:=sj aX
         obtain rfl:=aY _ rfl
         obtain rfl:=sj hd
         exact⟨[(.bool false)],f.g Z,f.d,_,[],(gt ag (gt aP (gt aZ (gt bg bx)))),m,Z,Z⟩
        ·refine Ai f Z bz (Ao (Ak (Ah f Z Z Ax λa f=>Ab f Z λa f=>Aa ?_)))
         obtain rfl:=sj be
         exact⟨_,Z,_,Z,_,(gt bg bx),f.k Z,m⟩
       ·refine Ai f Z bh (AB Z ?_)
        obtain rfl:=sj be
        obtain rfl:=bf _ rfl
        exact⟨_,Z,_,bg,f.k Z,m⟩
      ·rintro a w ⟨_,rfl,a9,bA,f,m⟩
       refine Ak (Ah f Z Z Ax λa f=>Ab f Z λa f=>Aa ?_)
       obtain rfl:=sj aX
       exact⟨_,Z,_,Z,_,(gt aZ bA),f.k Z,m⟩
     ·refine Ai f Z a0 (AB Z (have m:=m.dp 1;?_))
      obtain rfl:=sj aX
      obtain rfl:=aY _ rfl
      exact⟨_,Z,_,aZ,f.weak trivial,m⟩
    ·rintro a w ⟨_,rfl,aS,bB,f,m⟩
     refine Af (Ac f Z λa f=>Aa (Aq ?_))
     obtain rfl:=sj hd
     exact⟨[(.bool true)],f.g Z,f.d,_,[],(gt ag (gt aP bB)),m,Z,Z⟩
end Go.Proofs.YthdcaieaajekcaaGreatDoor

set_option maxRecDepth 100000
namespace Go.Proofs.YthdcaieaajekcaaGreatDoor
open Go Go.Sx
open Go.Proofs.Tryz Go.Proofs.YthdcaieaajekcaaGreatDoor.Tryz IntKind
variable {W w : World} {G : GH} {H : List Itm}
theorem T53 :SlT prog 53 58 1 4 (.int .u32 0):=⟨underlying53,Tryz.t58,by kernel_rfl,by kernel_rfl,by kernel_rfl,by kernel_rfl⟩
theorem A7 :Cf prog 58:=isAgg58
theorem Ag42 :Agg prog 42 3:=⟨isAgg42,sizeOf42⟩
theorem T52 :SlT prog 52 58 1 4 (.int .u32 0):=⟨underlying52,Tryz.t58,by kernel_rfl,by kernel_rfl,by kernel_rfl,by kernel_rfl⟩
theorem T33 :SlT prog 33 42 3 40 (.agg #[iv 0,iv 0,sn]):=⟨underlying33,Tryz.t42,by kernel_rfl,by kernel_rfl,by kernel_rfl,by kernel_rfl⟩
theorem Wk.c {x0:Int}(m:Mem W G w (H)){y:Int}(hd:D.c x0=some y):
  Calls prog 66 #[iv x0] w (Res W G H (λ_ Ho v=>Ho=[]∧v=(.int .u32 y))):=by
 refine Aw (args:=[iv x0]) (N:=5) [.tmp 2] func66 Z Z (lb Z) Z λa f=> ?_
 unfold D.c at hd
 refine Af (Ac f Z λa f=>Az (Ab f Z λa f=> ?_))
 obtain⟨aa,hd⟩:=CR hd
 refine l_o f (r_shl (f.e Z) (f.e Z) aa) λa f=>Ac f Z λa f=>Aa (Aq ?_)
 obtain rfl:=sj hd
 exact⟨[(.int .u32 (ishl .u32 1 x0))],f.g Z,f.d,_,[],gr,m,Z,Z⟩
theorem Wk.A {v0:Value}{x0:LI}(m:Mem W G w (H))(h0:R1 G v0 x0){y:Int}(hd:D.A x0=some y):
  Calls prog 40 #[v0] w (Res W G H (λ_ Ho v=>Ho=[]∧v=(.int .u32 y))):=by
 refine Aw (args:=[v0]) (N:=18) [.tmp 2] func40 Z Z (lb Z) Z λa f=> ?_
 unfold D.A at hd
 refine Af (Ac f Z λa f=>Az (Ac f Z λa f=>Aa (Ag (Af (Ab f Z λa f=>AS underlying39 f Z Z h0 λa f=>Ab f Z λa f=>Aa (Bd hd λaa ab hd=> ?_))))))
 refine AH (λa w=>∃ac:Int,ac=aa∧∃(ad:GH),GLe G ad∧Fr a 18 [(3,(.int .u32 ac))]∧Mem W ad w (H)) ?_ ?_
 ·refine Al (AE (λae a w=>∃af:Int,∃ag:Int,(af,ag)=ae∧∃(ah:GH),GLe G ah∧Fr a 18 [(3,(.int .u32 af)),(6,v0),(7,(iv (x0.length:Int))),(8,iv ag)]∧Mem W ah w (H)) ab ⟨_,_,Z,_,gr,f.k Z,m⟩ ?_)
  clear ab f m
  rintro ae ai aj ak a w ⟨af,ag,rfl,ah,al,f,m⟩
  refine have h0:=rd1 al h0;Af (Ah f Z Z AJ λa f=>Aa (Ag ?_))
  rcases Ae aj with⟨am,aj⟩|⟨am,aj⟩
  ·refine An f Z am (Ao (Ag (Al (Af (Bd aj λan ao aj=>Bt T39 f Z Z Z h0 ao λap aq a ar au f=> ?_)))))
   subst au
   refine AL m Pl2 f Z Z ar λa f=>Ac f Z λa f=>Aa (Ak (Ab f Z λa f=>Ab f Z λa f=>Bd aj λav aw aj=>A1 f Z call66 (Wk.c m aw) λax w ay m a f=>Ah f Z Z b_or λa f=>Ac f Z λa f=>Aa (Ak (Ah f Z Z Ax λa f=>Ab f Z λa f=>Aa ?_))))
   obtain rfl:=sj aj
   exact⟨_,Z,_,_,Z,_,(gt al ay),f.k Z,m⟩
  ·refine Ai f Z am (AB Z ?_)
   obtain rfl:=sj aj
   obtain rfl:=ak _ rfl
   exact⟨_,Z,_,al,f.k Z,m⟩
 ·rintro a w ⟨ac,rfl,ad,az,f,m⟩
  refine Af (Ab f Z λa f=>Ac f Z λa f=>Aa (Aq ?_))
  obtain rfl:=sj hd
  exact⟨[(.int .u32 ac)],f.g Z,f.d,_,[],az,m,Z,Z⟩
theorem Wk.v {aa:Value}{ab:LL}(m:Mem W G w (H))(ac:R2 G aa ab){y:(LI)}(hd:D.v ab=some y):
  Calls prog 23 #[(.agg #[aa])] w (Res W G H (λG' Ho v=>∃r0:Value,∃i0:Itm,Ho=[i0]∧r0=v∧Ow (RI .u32) 58 G' i0 r0 y)):=by
 refine Aw (args:=[(.agg #[aa])]) (N:=21) [.tmp 2] func23 Z Z (lb Z) Z λa f=> ?_
 unfold D.v at hd
 refine Af (Bv (cs:=[aa]) m f Z Z Z λad w a m f=>Ac f Z λa f=>Az (AX (R:=(RI .u32)) (xs:=([]:LI)) (RI.one _) m T53 f Z Z Z (by decide) (All2.nil _) λae af w a m ag f=>Ac f Z λa f=>Aa (Ag (Af (Bn underlying29 Z sizeOf27 f Z λa f=>AI 1 0 m BM f Z Z Z Z λa f=>AS underlying27 f Z Z ac λa f=>Ab f Z λa f=>Aa (Bd hd λah ai hd=> ?_))))))
 refine AH (λa w=>∃aj:LI,aj=ah∧∃(ak:GH) (al:Value) (am:Itm),GLe G ak∧Fr a 21 [(3,al)]∧Mem W ak w (am::H)∧Ow (RI .u32) 58 ak am al aj) ?_ ?_
 ·refine Al (have m:=m.eraseAt 1;AE (λan a w=>∃ao:LI,∃ap:Int,(ao,ap)=an∧∃(aq:GH) (ar:Value) (au:Itm),GLe G aq∧Fr a 21 [(3,ar),(8,aa),(9,(iv (ab.length:Int))),(10,iv ap)]∧Mem W aq w (au::H)∧Ow (RI .u32) 58 aq au ar ao) ai ⟨_,_,Z,_,af,ae,gr,f.k Z,m,ag⟩ ?_)
  clear ai f m
  rintro an av aw ax a w ⟨ao,ap,rfl,aq,ar,au,ay,f,m,az⟩
  refine have ac:=rd2 ay ac;Af (Ah f Z Z AJ λa f=>Aa (Ag ?_))
  rcases Ae aw with⟨aA,aw⟩|⟨aA,aw⟩
  ·refine An f Z aA (Ao (Ag (Al (Af (Bd aw λaB aC aw=>Bt T27 f Z Z Z ac aC λaD aE a aF aG f=>AL m Bu f Z Z aF λa f=>Ac f Z λa f=>Aa (Ak (Ab f Z λa f=>Ab f Z λa f=>Bd aw λaH aI aw=>A1 f Z call40 (Wk.A m aG aI) λaJ w aK m a f=>have az:=od1 aK az;AX (R:=(RI .u32)) (xs:=([aH]:LI)) (RI.one _) m T53 f Z Z Z (by decide) (All2.cons Z (All2.nil _)) λaL aM w a m aN f=>Bd aw λaO aP aw=>Be (RI.one _) 1 m az Z T53 Z (by decide) f Z Z Z (Ow.src (j:=0) aN m Z) aP λaQ aR w a m aS f=>Ac f Z λa f=>Aa (Ak (Ah f Z Z Ax λa f=>Ab f Z λa f=>Aa (have m:=m.fr 1;have m:=m.eraseAt 1;?_))))))))))
   obtain rfl:=sj aw
   exact⟨_,Z,_,_,Z,_,aR,aQ,(gt ay aK),f.k Z,m,aS⟩
  ·refine Ai f Z aA (AB Z ?_)
   obtain rfl:=sj aw
   obtain rfl:=ax _ rfl
   exact⟨_,Z,_,ar,au,ay,f.k Z,m,az⟩
 ·rintro a w ⟨aj,rfl,ak,al,am,aT,f,m,aU⟩
  refine Af (Ab f Z λa f=>Ac f Z λa f=>Aa (Aq ?_))
  obtain rfl:=sj hd
  exact⟨[al],f.g Z,f.d,_,[am],aT,m,_,_,Z,Z,aU⟩
theorem Wk.R {x0:Int}(m:Mem W G w (H)){y:Int}(hd:D.R x0=some y):
  Calls prog 67 #[iv x0] w (Res W G H (λ_ Ho v=>Ho=[]∧v=(.int .u32 y))):=by
 refine Aw (args:=[iv x0]) (N:=6) [.tmp 2] func67 Z Z (lb Z) Z λa f=> ?_
 unfold D.R at hd
 refine Af (Ac f Z λa f=>Az (Ab f Z λa f=> ?_))
 obtain⟨aa,hd⟩:=CR hd
 refine l_o f (r_shl (f.e Z) (f.e Z) aa) λa f=>Ah f Z Z AT λa f=>Ac f Z λa f=>Aa (Aq ?_)
 obtain rfl:=sj hd
 exact⟨[(.int .u32 (IntKind.u32.wrap ((ishl .u32 1 x0)-1)))],f.g Z,f.d,_,[],gr,m,Z,Z⟩
theorem Wk.r {v0:Value}{x0:LI}(m:Mem W G w (H))(h0:RSl (RI .u32) G v0 x0){y:Int}(hd:D.r x0=some y):
  Calls prog 26 #[v0] w (Res W G H (λ_ Ho v=>Ho=[]∧v=(.int .u32 y))):=by
 refine Aw (args:=[v0]) (N:=6) [.tmp 2] func26 Z Z (lb Z) Z λa f=> ?_
 unfold D.r at hd
 refine Af (Ac f Z λa f=>Az (Ab f Z λa f=>AS underlying53 f Z Z h0 λa f=>Bd hd λaa ab hd=>A1 f Z call67 (Wk.R m ab) λac w ad m a f=>Ac f Z λa f=>Aa (Aq ?_)))
 obtain rfl:=sj hd
 exact⟨[(.int .u32 aa)],f.g Z,f.d,_,[],ad,m,Z,Z⟩
theorem Wk.X {v0:Value}{x0:LI}(m:Mem W G w (H))(h0:RSl (RI .u32) G v0 x0){y:(LI)}(hd:D.X x0=some y):
  Calls prog 25 #[v0] w (Res W G H (λG' Ho v=>∃r0:Value,∃i0:Itm,Ho=[i0]∧r0=v∧Ow (RI .u32) 58 G' i0 r0 y)):=by
 refine Aw (args:=[v0]) (N:=26) [.tmp 2] func25 Z Z (lb Z) Z λa f=> ?_
 unfold D.X at hd
 refine Af (Ac f Z λa f=>Az (AX (R:=(RI .u32)) (xs:=([]:LI)) (RI.one _) m T53 f Z Z Z (by decide) (All2.nil _) λaa ab w a m ac f=>Ac f Z λa f=>Aa (Ag (Af (Ab f Z λa f=>AS underlying53 f Z Z h0 λa f=>Ab f Z λa f=>Aa (Bd hd λad ae hd=> ?_))))))
 refine AH (λa w=>∃af:LI,af=ad∧∃(ag:GH) (ah:Value) (ai:Itm),GLe G ag∧Fr a 26 [(3,ah)]∧Mem W ag w (ai::H)∧Ow (RI .u32) 58 ag ai ah af) ?_ ?_
 ·refine Al (AE (λaj a w=>∃ak:LI,∃al:Int,(ak,al)=aj∧∃(am:GH) (an:Value) (ao:Itm),GLe G am∧Fr a 26 [(0,v0),(3,an),(7,v0),(8,(iv (x0.length:Int))),(9,iv al)]∧Mem W am w (ao::H)∧Ow (RI .u32) 58 am ao an ak) ae ⟨_,_,Z,_,ab,aa,gr,f.k Z,m,ac⟩ ?_)
  clear ae f m
  rintro aj ap aq ar a w ⟨ak,al,rfl,am,an,ao,au,f,m,av⟩
  refine have h0:=rd1 au h0;Af (Ah f Z Z AJ λa f=>Aa (Ag ?_))
  rcases Ae aq with⟨aw,aq⟩|⟨aw,aq⟩
  ·refine An f Z aw (Ao (Ag (Al (Af (Ab f Z λa f=>Bd aq λax ay aq=>Bt T53 f Z Z Z h0 ay λaz aA a aB aC f=> ?_)))))
   subst aC
   refine AL m A7 f Z Z aB λa f=>Ac f Z λa f=>Ac f Z λa f=>Aa (Ak (Ab f Z λa f=>Ab f Z λa f=>Bd aq λaD aE aq=>A1 f Z call26 (Wk.r m h0 aE) λaF w aG m a f=>have av:=od1 aG av;Ab f Z λa f=>Ah f Z Z CS λa f=>Ab f Z λa f=>Bd aq λaH aI aq=>A1 f Z call66 (Wk.c m aI) λaJ w aK m a f=>have av:=od1 aK av;Ah f Z Z CS λa f=>AX (R:=(RI .u32)) (xs:=([(iandNot .u32 (iandNot .u32 aD ax) aH)]:LI)) (RI.one _) m T53 f Z Z Z (by decide) (All2.cons Z (All2.nil _)) λaL aM w a m aN f=>Bd aq λaO aP aq=>Be (RI.one _) 1 m av Z T53 Z (by decide) f Z Z Z (Ow.src (j:=0) aN m Z) aP λaQ aR w a m aS f=>Ac f Z λa f=>Aa (Ak (Ah f Z Z Ax λa f=>Ab f Z λa f=>Aa (have m:=m.fr 1;have m:=m.eraseAt 1;?_)))))
   obtain rfl:=sj aq
   exact⟨_,Z,_,_,Z,_,aR,aQ,(gt au (gt aG aK)),f.k Z,m,aS⟩
  ·refine Ai f Z aw (AB Z ?_)
   obtain rfl:=sj aq
   obtain rfl:=ar _ rfl
   exact⟨_,Z,_,an,ao,au,f.k Z,m,av⟩
 ·rintro a w ⟨af,rfl,ag,ah,ai,aT,f,m,aU⟩
  refine Af (Ab f Z λa f=>Ac f Z λa f=>Aa (Aq ?_))
  obtain rfl:=sj hd
  exact⟨[ah],f.g Z,f.d,_,[ai],aT,m,_,_,Z,Z,aU⟩
theorem Wk.k {x0:Int}(m:Mem W G w (H)){y:Int}(hd:D.k x0=some y):
  Calls prog 48 #[(.int .u32 x0)] w (Res W G H (λ_ Ho v=>Ho=[]∧v=(iv y))):=by
 refine Aw (args:=[(.int .u32 x0)]) (N:=5) [.tmp 2] func48 Z Z (lb Z) Z λa f=> ?_
 unfold D.k at hd
 refine Af (Ac f Z λa f=>Az (Ab f Z λa f=>Bd hd λaa ab hd=>A1 f Z call84 (Wk.a1 m ab) λac w ad m a f=>Ac f Z λa f=>Aa (Aq ?_)))
 obtain rfl:=sj hd
 exact⟨[iv aa],f.g Z,f.d,_,[],ad,m,Z,Z⟩
theorem Wk.e {x0:Int}(hW:BD W)(m:Mem W G w (H)){y:Int}(hd:D.e x0=some y):
  Calls prog 49 #[(.int .u32 x0)] w (Res W G H (λ_ Ho v=>Ho=[]∧v=(iv y))):=by
 refine Aw (args:=[(.int .u32 x0)]) (N:=5) [.tmp 2] func49 Z Z (lb Z) Z λa f=> ?_
 unfold D.e at hd
 refine Af (Ac f Z λa f=>Az (Ab f Z λa f=>Bd hd λaa ab hd=>A1 f Z call85 (Wk.o1 hW m ab) λac w ad m a f=>Ac f Z λa f=>Aa (Aq ?_)))
 obtain rfl:=sj hd
 exact⟨[iv aa],f.g Z,f.d,_,[],ad,m,Z,Z⟩
theorem Wk.q1 {x0:Int}(m:Mem W G w (H)){y:Int×Int×(LI)}(hd:D.q1 x0=some y):
  Calls prog 63 #[iv x0] w (Res W G H (λG' Ho v=>∃r0:Value,∃i0:Itm,Ho=[i0]∧v=(.agg #[iv y.1,iv y.2.1,r0])∧Ow R0 2 G' i0 r0 y.2.2)):=by
 refine Aw (args:=[iv x0]) (N:=5) [.cell 2 42] func63 Z Z (lb Z) Z λa f=> ?_
 unfold D.q1 at hd
 refine Af (Bj (cs:=[iv 0,iv 0,sn]) zeroValue42 m f Z Z λaa w a m f=>Az (Ab f Z λa f=> ?_))
 have ab:∀w,(Instr.build 42 #[(0,iv 1),(1,iv x0)]).run prog w= .ok (.agg #[iv 1,iv x0,sn]) w:=by intro w;simp[Instr.build,Instr.fill,B6,BT,BB,BO,Bx,B5,BV]
 refine Cr f Z Z ab λa f=>AA 0 0 (ds:=[iv 1,iv x0,sn]) m sizeOf42 f Z Z Z (Ay Z (Ay Z (Ay Z AQ))) Z (lb Z) Z λw m=>Aa (Aq ?_)
 obtain⟨ac,m,ad⟩:=Ow.nil R0 2 m
 refine have ae:=B8 (P:=prog) 1 m Ag42 f (s:=2) rfl rfl rfl;have m:=m.eraseAt 1;?_
 obtain rfl:=sj hd
 exact⟨[(.agg #[iv 1,iv x0,sn])],⟨ae,trivial⟩,f.d,_,[ac],gr,m,_,_,Z,Z,ad⟩
theorem Wk.i {x0:Int}(hW:BD W)(m:Mem W G w (H)){y:(LI)}(hd:D.i x0=some y):
  Calls prog 83 #[(.int .u32 x0)] w (Res W G H (λG' Ho v=>∃r0:Value,∃i0:Itm,Ho=[i0]∧r0=v∧Ow R0 3 G' i0 r0 y)):=by
 refine Aw (args:=[(.int .u32 x0)]) (N:=17) [.tmp 2] func83 Z Z (lb Z) Z λa f=> ?_
 unfold D.i at hd
 refine Af (Ac f Z λa f=>Az (AX (R:=R0) (xs:=([]:LI)) (RI.one _) m T75 f Z Z Z (by decide) (All2.nil _) λaa ab w a m ac f=>Ac f Z λa f=>Aa (Ag (Bd hd λad ae hd=> ?_))))
 refine AH (λa w=>∃af:LI,af=ad∧∃(ag:GH) (ah:Value) (ai:Itm),GLe G ag∧Fr a 17 [(3,ah)]∧Mem W ag w (ai::H)∧Ow R0 3 ag ai ah af) ?_ ?_
 ·refine Al (AE (λaj a w=>∃ak:Int,∃al:LI,(ak,al)=aj∧∃(am:GH) (an:Value) (ao:Itm),GLe G am∧Fr a 17 [(0,(.int .u32 ak)),(3,an)]∧Mem W am w (ao::H)∧Ow R0 3 am ao an al) ae ⟨_,_,Z,_,ab,aa,gr,f.k Z,m,ac⟩ ?_)
  clear ae f m
  rintro aj ap aq ar a w ⟨ak,al,rfl,am,an,ao,au,f,m,av⟩
  refine Ag (Af (Ab f Z λa f=>Ah f Z Z BN λa f=>Aa ?_))
  rcases Ae aq with⟨aw,aq⟩|⟨aw,aq⟩
  ·refine An f Z aw (Ao (Ag (Al (Ak (Ab f Z λa f=>Ab f Z λa f=>Bd aq λax ay aq=>A1 f Z call49 (Wk.e hW m ay) λaz w aA m a f=>have av:=od1 aA av;AX (R:=R0) (xs:=([ax]:LI)) (RI.one _) m T75 f Z Z Z (by decide) (All2.cons Z (All2.nil _)) λaB aC w a m aD f=>Bd aq λaE aF aq=>Be (RI.one _) 1 m av Z T75 Z (by decide) f Z Z Z (Ow.src (j:=0) aD m Z) aF λaG aH w a m aI f=>Ac f Z λa f=>Aa (Ak (Ab f Z λa f=>Ab f Z λa f=>Ah f Z Z AT λa f=>Ah f Z Z CY λa f=>Ac f Z λa f=>Aa (have m:=m.fr 1;have m:=m.eraseAt 1;?_))))))))
   obtain rfl:=sj aq
   exact⟨_,Z,_,_,Z,_,aH,aG,(gt au aA),f.k Z,m,aI⟩
  ·refine Ai f Z aw (AB Z ?_)
   obtain rfl:=sj aq
   obtain rfl:=ar _ rfl
   exact⟨_,Z,_,an,ao,au,f.k Z,m,av⟩
 ·rintro a w ⟨af,rfl,ag,ah,ai,aJ,f,m,aK⟩
  refine Af (Ab f Z λa f=>Ac f Z λa f=>Aa (Aq ?_))
  obtain rfl:=sj hd
  exact⟨[ah],f.g Z,f.d,_,[ai],aJ,m,_,_,Z,Z,aK⟩
theorem Wk.T {v0:Value}{x0:LI}{x1 x2:Int}(hW:BD W)(m:Mem W G w (H))(h0:RSl (RI .u32) G v0 x0){y:Int}(hd:D.T x0 x1 x2=some y):
  Calls prog 90 #[v0,iv x1,(.int .u32 x2)] w (Res W G H (λ_ Ho v=>Ho=[]∧v=(.int .u32 y))):=by
 refine Aw (args:=[v0,iv x1,(.int .u32 x2)]) (N:=35) [.tmp 6] func90 Z Z (lb Z) Z λa f=> ?_
 unfold D.T at hd
 refine Af (Ac f Z λa f=>Az (Ab f Z λa f=>Bd hd λaa ab hd=>A1 f Z call66 (Wk.c m ab) λac w ad m a f=>have h0:=rd1 ad h0;Ac f Z λa f=>Aa (Bd hd λae af hd=>Al (AE (λag a w=>∃ah:Int,ah=ag∧∃(ai:GH),GLe ac ai∧Fr a 35 [(0,v0),(2,(.int .u32 x2)),(7,(.int .u32 ah))]∧Mem W ai w (H)) af ⟨_,Z,_,gr,f.k Z,m⟩ ?_))))
 clear af f m
 rintro ag aj ak al a w ⟨ah,rfl,ai,am,f,m⟩
 refine have h0:=rd1 am h0;Al (Af (Ab f Z λa f=>Ac f Z λa f=>Aa (Ag (Af (Ab f Z λa f=>Bd ak λan ao ak=>BS f Z call83 (Wk.i hW m ao) λap aq ar w au m av a f=>have h0:=rd1 au h0;Bz 0 m av Z underlying75 f Z Z λa f=>Ab f Z λa f=>Aa (Bd ak λaw ax ak=> ?_))))))
 refine AH (λa w=>∃ay:Int,ay=aw∧∃(az:GH),GLe ar az∧Fr a 35 [(0,v0),(2,(.int .u32 x2)),(7,(.int .u32 ah)),(8,(.int .u32 ay))]∧Mem W az w (H)) ?_ ?_
 ·refine Al (AE (λaA a w=>∃aB:Int,∃aC:Int,(aB,aC)=aA∧∃(aD:GH),GLe ar aD∧Fr a 35 [(0,v0),(2,(.int .u32 x2)),(7,(.int .u32 ah)),(8,(.int .u32 aB)),(15,ap),(16,(iv (an.length:Int))),(17,iv aC)]∧Mem W aD w (aq::H)) ax ⟨_,_,Z,_,gr,f.k Z,m⟩ ?_)
  clear ax f m
  rintro aA aE aF aG a w ⟨aB,aC,rfl,aD,aH,f,m⟩
  refine have h0:=rd1 aH h0;have av:=od1 aH av;Af (Ah f Z Z AJ λa f=>Aa (Ag ?_))
  rcases Ae aF with⟨aI,aF⟩|⟨aI,aF⟩
  ·refine An f Z aI (Ao (Ag (Al (Af (Bd aF λaJ aK aF=>Bq 0 m av Z T75 f Z Z Z aK λaL a aM f=>B2 0 m av Z Pl3 f Z Z aM aK λaN a aO f=> ?_)))))
   subst aO
   refine Ac f Z λa f=>Aa (Ak (Ab f Z λa f=>Ab f Z λa f=>Ab f Z λa f=>Bd aF λaP aQ aF=>Bt T53 f Z Z Z h0 aQ λaR aS a aT aU f=> ?_))
   subst aU
   refine AL m A7 f Z Z aT λa f=>Ab f Z λa f=>Ah f Z Z CY λa f=>Ah f Z Z b_or λa f=>Ac f Z λa f=>Aa (Ak (Ah f Z Z Ax λa f=>Ab f Z λa f=>Aa ?_))
   obtain rfl:=sj aF
   exact⟨_,Z,_,_,Z,_,aH,f.k Z,m⟩
  ·refine Ai f Z aI (AB Z (have m:=m.dp 1;?_))
   obtain rfl:=sj aF
   obtain rfl:=aG _ rfl
   exact⟨_,Z,_,aH,f.k Z,m⟩
 ·rintro a w ⟨ay,rfl,az,aV,f,m⟩
  refine Ag (Af (Ab f Z λa f=>Ab f Z λa f=>Ah f Z Z Bf λa f=>Aa ?_))
  rcases Ae ak with⟨aW,ak⟩|⟨aW,ak⟩
  ·refine An f Z aW (Af (Ab f Z λa f=>Ac f Z λa f=>Aa (Aq ?_)))
   obtain rfl:=sj ak
   obtain rfl:=al _ rfl
   obtain rfl:=sj hd
   exact⟨[(.int .u32 ah)],f.g Z,f.d,_,[],(gt ad (gt am (gt au aV))),m,Z,Z⟩
  ·refine Ai f Z aW (Ao (Ak (Ab f Z λa f=>Ac f Z λa f=>Aa ?_)))
   obtain rfl:=sj ak
   exact⟨_,Z,_,Z,_,(gt am (gt au aV)),f.k Z,m⟩
theorem Wk.o {v0:Value}{x0:LI}{x1:Int}(hW:BD W)(m:Mem W G w (H))(h0:RSl (RI .u32) G v0 x0){y:(LI)}(hd:D.o x0 x1=some y):
  Calls prog 64 #[v0,(.int .u32 x1)] w (Res W G H (λG' Ho v=>∃r0:Value,∃i0:Itm,Ho=[i0]∧r0=v∧Ow (RI .u32) 58 G' i0 r0 y)):=by
 refine Aw (args:=[v0,(.int .u32 x1)]) (N:=23) [.tmp 4] func64 Z Z (lb Z) Z λa f=> ?_
 unfold D.o at hd
 refine Af (Ac f Z λa f=>Az (AX (R:=(RI .u32)) (xs:=([]:LI)) (RI.one _) m T52 f Z Z Z (by decide) (All2.nil _) λaa ab w a m ac f=>Ac f Z λa f=>Aa (Ag (Bd hd λad ae hd=> ?_))))
 refine AH (λa w=>∃af:LI,af=ad∧∃(ag:GH) (ah:Value) (ai:Itm),GLe G ag∧Fr a 23 [(5,ah)]∧Mem W ag w (ai::H)∧Ow (RI .u32) 58 ag ai ah af) ?_ ?_
 ·refine Al (AE (λaj a w=>∃ak:Int,∃al:LI,(ak,al)=aj∧∃(am:GH) (an:Value) (ao:Itm),GLe G am∧Fr a 23 [(0,v0),(1,(.int .u32 ak)),(5,an)]∧Mem W am w (ao::H)∧Ow (RI .u32) 58 am ao an al) ae ⟨_,_,Z,_,ab,aa,gr,f.k Z,m,ac⟩ ?_)
  clear ae f m
  rintro aj ap aq ar a w ⟨ak,al,rfl,am,an,ao,au,f,m,av⟩
  refine have h0:=rd1 au h0;Ag (Af (Ab f Z λa f=>Ah f Z Z BN λa f=>Aa ?_))
  rcases Ae aq with⟨aw,aq⟩|⟨aw,aq⟩
  ·refine An f Z aw (Ao (Al (Af (Ab f Z λa f=>Ab f Z λa f=>Bd aq λax ay aq=>A1 f Z call49 (Wk.e hW m ay) λaz w aA m a f=>have h0:=rd1 aA h0;have av:=od1 aA av;Ab f Z λa f=>Bd aq λaB aC aq=>A1 f Z call90 (Wk.T hW m h0 aC) λaD w aE m a f=>have av:=od1 aE av;Ac f Z λa f=>Az (Ab f Z λa f=>Ab f Z λa f=>AX (R:=(RI .u32)) (xs:=([aB]:LI)) (RI.one _) m T52 f Z Z Z (by decide) (All2.cons Z (All2.nil _)) λaF aG w a m aH f=>Bd aq λaI aJ aq=>Be (RI.one _) 1 m av Z T52 Z (by decide) f Z Z Z (Ow.src (j:=0) aH m Z) aJ λaK aL w a m aM f=>Ac f Z λa f=>Aa (Ak (Ab f Z λa f=>Ab f Z λa f=>Ah f Z Z CS λa f=>Ac f Z λa f=>Aa (have m:=m.fr 1;have m:=m.eraseAt 1;?_))))))))
   obtain rfl:=sj aq
   exact⟨_,Z,_,_,Z,_,aL,aK,(gt au (gt aA aE)),f.k Z,m,aM⟩
  ·refine Ai f Z aw (AB Z ?_)
   obtain rfl:=sj aq
   obtain rfl:=ar _ rfl
   exact⟨_,Z,_,an,ao,au,f.k Z,m,av⟩
 ·rintro a w ⟨af,rfl,ag,ah,ai,aN,f,m,aO⟩
  refine Af (Ab f Z λa f=>Ac f Z λa f=>Aa (Aq ?_))
  obtain rfl:=sj hd
  exact⟨[ah],f.g Z,f.d,_,[ai],aN,m,_,_,Z,Z,aO⟩
theorem Wk.C {v0:Value}{x0:LI}{x1 x2:Int}(hW:BD W)(m:Mem W G w (H))(h0:RSl (RI .u32) G v0 x0){y:Int}(hd:D.C x0 x1 x2=some y):
  Calls prog 77 #[v0,(.int .u32 x1),(.int .u32 x2)] w (Res W G H (λ_ Ho v=>Ho=[]∧v=(.int .u32 y))):=by
 refine Aw (args:=[v0,(.int .u32 x1),(.int .u32 x2)]) (N:=39) [.tmp 6] func77 Z Z (lb Z) Z λa f=> ?_
 unfold D.C at hd
 refine Af (Ac f Z λa f=>Az (Ac f Z λa f=>Aa (Ag (Af (Ab f Z λa f=>Ab f Z λa f=>Ah f Z Z CS λa f=>Bd hd λaa ab hd=>BS f Z call83 (Wk.i hW m ab) λac ad ae w af m ag a f=>have h0:=rd1 af h0;Bz 0 m ag Z underlying75 f Z Z λa f=>Ab f Z λa f=>Aa (Bd hd λah ai hd=> ?_))))))
 refine AH (λa w=>∃aj:Int,aj=ah∧∃(ak:GH),GLe ae ak∧Fr a 39 [(7,(.int .u32 aj))]∧Mem W ak w (H)) ?_ ?_
 ·refine Al (AE (λal a w=>∃am:Int,∃an:Int,(am,an)=al∧∃(ao:GH),GLe ae ao∧Fr a 39 [(0,v0),(2,(.int .u32 x2)),(7,(.int .u32 am)),(14,ac),(15,(iv (aa.length:Int))),(16,iv an)]∧Mem W ao w (ad::H)) ai ⟨_,_,Z,_,gr,f.k Z,m⟩ ?_)
  clear ai f m
  rintro al ap aq ar a w ⟨am,an,rfl,ao,au,f,m⟩
  refine have h0:=rd1 au h0;have ag:=od1 au ag;Af (Ah f Z Z AJ λa f=>Aa (Ag ?_))
  rcases Ae aq with⟨av,aq⟩|⟨av,aq⟩
  ·refine An f Z av (Ao (Ag (Al (Af (Bd aq λaw ax aq=>Bq 0 m ag Z T75 f Z Z Z ax λay a az f=>B2 0 m ag Z Pl3 f Z Z az ax λaA a aB f=> ?_)))))
   subst aB
   refine Ac f Z λa f=>Az (Ab f Z λa f=>Ab f Z λa f=>Bd aq λaC aD aq=>Bt T53 f Z Z Z h0 aD λaE aF a aG aH f=> ?_)
   subst aH
   refine AL m A7 f Z Z aG λa f=>Ab f Z λa f=>Ah f Z Z CY λa f=>Ac f Z λa f=>Az (Ab f Z λa f=>Ah f Z Z BN λa f=>Ab f Z λa f=> ?_)
   refine Bi 4 (λa w=>∃aI,GLe ao aI∧Mem W aI w (ad::H)∧Fr a 39 [(0,v0),(2,(.int .u32 x2)),(7,(.int .u32 am)),(9,iv aw),(10,(.int .u32 (iand .u32 aC x2))),(14,ac),(15,(iv (aa.length:Int))),(16,iv an),(26,(.int .u32 (iand .u32 aC x2))),(27,(.bool ((iand .u32 aC x2) !=0))),(28,(.bool ((iand .u32 aC x2) !=0))),(32,(.bool (((iand .u32 aC x2) !=0)&&((iand .u32 aC x2) !=x2))))]) ?_ ?_
   ·rcases Bool.eq_false_or_eq_true ((iand .u32 aC x2) !=0) with aJ|aJ
    ·exact As f aJ (Ab f Z λa f=>As f aJ (Ab f Z λa f=>As f aJ (Ah f Z Z BN λa f=>l_o f (AD (f.e Z) aJ (f.e Z)) λa f=>⟨_,gr,m,f.weak ⟨Z,Z,Z,Z,Z,Z,Z,Z,Z,Z,Z,by rw[aJ];rfl,trivial⟩⟩)))
    ·exact Au f aJ λa f=>Au f aJ λa f=>Au f aJ λa f=>l_o f (AC (f.e Z) aJ (f.e Z)) λa f=>⟨_,gr,m,f.weak ⟨Z,Z,Z,Z,Z,Z,Z,Z,Z,Z,Z,by rw[aJ];rfl,trivial⟩⟩
   ·rintro a w ⟨aI,aK,m,f⟩
    refine Aa ?_
    rcases Ae aq with⟨aL,aq⟩|⟨aL,aq⟩
    ·refine An f Z aL (Ak (Ab f Z λa f=>Ab f Z λa f=>Bd aq λaM aN aq=>A1 f Z call66 (Wk.c m aN) λaO w aP m a f=>Ah f Z Z b_or λa f=>Ac f Z λa f=>Aa (Ak (Ah f Z Z Ax λa f=>Ab f Z λa f=>Aa ?_))))
     obtain rfl:=sj aq
     exact⟨_,Z,_,_,Z,_,(gt au (gt aK aP)),f.k Z,m⟩
    ·refine Ai f Z aL (Ao (Ak (Ah f Z Z Ax λa f=>Ab f Z λa f=>Aa ?_)))
     obtain rfl:=sj aq
     exact⟨_,Z,_,_,Z,_,(gt au aK),f.k Z,m⟩
  ·refine Ai f Z av (AB Z (have m:=m.dp 1;?_))
   obtain rfl:=sj aq
   obtain rfl:=ar _ rfl
   exact⟨_,Z,_,au,f.k Z,m⟩
 ·rintro a w ⟨aj,rfl,ak,aQ,f,m⟩
  refine Af (Ab f Z λa f=>Ac f Z λa f=>Aa (Aq ?_))
  obtain rfl:=sj hd
  exact⟨[(.int .u32 aj)],f.g Z,f.d,_,[],(gt af aQ),m,Z,Z⟩
theorem Wk.p0 {v0:Value}{x0:LI}{x1 x2:Int}(hW:BD W)(m:Mem W G w (H))(h0:RSl (RI .u32) G v0 x0){y:Int}(hd:D.p0 x0 x1 x2=some y):
  Calls prog 91 #[v0,(.int .u32 x1),(.int .u32 x2)] w (Res W G H (λ_ Ho v=>Ho=[]∧v=(.int .u32 y))):=by
 refine Aw (args:=[v0,(.int .u32 x1),(.int .u32 x2)]) (N:=18) [.tmp 6] func91 Z Z (lb Z) Z λa f=> ?_
 unfold D.p0 at hd
 refine Af (Ac f Z λa f=>Aa (Bd hd λaa ab hd=>Al (AE (λac a w=>∃ad:Int,ad=ac∧∃(ae:GH),GLe G ae∧Fr a 18 [(0,v0),(1,(.int .u32 x1)),(2,(.int .u32 ad))]∧Mem W ae w (H)) ab ⟨_,Z,_,gr,f.k Z,m⟩ ?_)))
 clear ab f m
 rintro ac af ag ah a w ⟨ad,rfl,ae,ai,f,m⟩
 refine have h0:=rd1 ai h0;Al (Af (Ab f Z λa f=>Ab f Z λa f=>Ab f Z λa f=>Bd ag λaj ak ag=>A1 f Z call77 (Wk.C hW m h0 ak) λal w am m a f=>Ac f Z λa f=>Aa (Ag (Af (Ab f Z λa f=>Ah f Z Z Bf λa f=>Aa ?_)))))
 rcases Ae ag with⟨an,ag⟩|⟨an,ag⟩
 ·refine An f Z an (Af (Ab f Z λa f=>Ac f Z λa f=>Aa (Aq ?_)))
  obtain rfl:=sj ag
  obtain rfl:=ah _ rfl
  obtain rfl:=sj hd
  exact⟨[(.int .u32 ad)],f.g Z,f.d,_,[],(gt ai am),m,Z,Z⟩
 ·refine Ai f Z an (Ao (Ak (Ab f Z λa f=>Ab f Z λa f=>Ah f Z Z b_or λa f=>Ac f Z λa f=>Aa ?_)))
  obtain rfl:=sj ag
  exact⟨_,Z,_,Z,_,(gt ai am),f.k Z,m⟩
theorem Wk.i0 {v0:Value}{x0:LI}{x1:Int}(hW:BD W)(m:Mem W G w (H))(h0:RSl (RI .u32) G v0 x0){y:(LI)}(hd:D.i0 x0 x1=some y):
  Calls prog 65 #[v0,(.int .u32 x1)] w (Res W G H (λG' Ho v=>∃r0:Value,∃i0:Itm,Ho=[i0]∧r0=v∧Ow (RI .u32) 58 G' i0 r0 y)):=by
 refine Aw (args:=[v0,(.int .u32 x1)]) (N:=53) [.tmp 4] func65 Z Z (lb Z) Z λa f=> ?_
 unfold D.i0 at hd
 refine Af (Ac f Z λa f=>Az (AX (R:=(RI .u32)) (xs:=([]:LI)) (RI.one _) m T52 f Z Z Z (by decide) (All2.nil _) λaa ab w a m ac f=>Ac f Z λa f=>Aa (Ag (Af (Ab f Z λa f=>Ac f Z λa f=>Aa (Bd hd λad ae hd=> ?_))))))
 refine AH (λa w=>∃af:LI,af=ad∧∃(ag:GH) (ah:Value) (ai:Itm),GLe G ag∧Fr a 53 [(5,ah)]∧Mem W ag w (ai::H)∧Ow (RI .u32) 58 ag ai ah af) ?_ ?_
 ·refine Al (AE (λaj a w=>∃ak:LI,∃al:Int,(ak,al)=aj∧∃(am:GH) (an:Value) (ao:Itm),GLe G am∧Fr a 53 [(0,v0),(1,(.int .u32 x1)),(5,an),(6,(.int .u32 al))]∧Mem W am w (ao::H)∧Ow (RI .u32) 58 am ao an ak) ae ⟨_,_,Z,_,ab,aa,gr,f.k Z,m,ac⟩ ?_)
  clear ae f m
  rintro aj ap aq ar a w ⟨ak,al,rfl,am,an,ao,au,f,m,av⟩
  refine have h0:=rd1 au h0;Ag (Af (Ab f Z λa f=>Ah f Z Z BN λa f=>Aa ?_))
  rcases Ae aq with⟨aw,aq⟩|⟨aw,aq⟩
  ·refine An f Z aw (Ao (Al (Af (Ab f Z λa f=>Bd aq λax ay aq=>A1 f Z call49 (Wk.e hW m ay) λaz w aA m a f=>have h0:=rd1 aA h0;have av:=od1 aA av;Ac f Z λa f=>Az (Ab f Z λa f=>Bd aq λaB aC aq=>A1 f Z call66 (Wk.c m aC) λaD w aE m a f=>have h0:=rd1 aE h0;have av:=od1 aE av;Ac f Z λa f=>Aa (Ag (Af (Ab f Z λa f=>Ab f Z λa f=>Bd aq λaF aG aq=>A1 f Z call66 (Wk.c m aG) λaH w aI m a f=>have h0:=rd1 aI h0;have av:=od1 aI av;Ah f Z Z CS λa f=>Bd aq λaJ aK aq=>BS f Z call83 (Wk.i hW m aK) λaL aM aN w aO m aP a f=>have h0:=rd1 aO h0;have av:=od1 aO av;Bz 0 m aP Z underlying75 f Z Z λa f=>Ab f Z λa f=>Aa (Bd aq λaQ aR aq=> ?_)))))))))
   refine AH (λa w=>∃aS:Int,aS=aQ∧∃(aT:GH),GLe aN aT∧Fr a 53 [(0,v0),(1,(.int .u32 x1)),(5,an),(6,(.int .u32 al)),(8,(.int .u32 aS))]∧Mem W aT w (ao::H)) ?_ ?_
   ·refine Al (have m:=m.fr 1;AE (λaU a w=>∃aV:Int,∃aW:Int,(aV,aW)=aU∧∃(aX:GH),GLe aN aX∧Fr a 53 [(0,v0),(1,(.int .u32 x1)),(5,an),(6,(.int .u32 al)),(7,iv ax),(8,(.int .u32 aV)),(24,aL),(25,(iv (aJ.length:Int))),(26,iv aW)]∧Mem W aX w (ao::aM::H)) aR ⟨_,_,Z,_,gr,f.k Z,m⟩ ?_)
    clear aR f m
    rintro aU aY aZ a0 a w ⟨aV,aW,rfl,aX,a1,f,m⟩
    refine have h0:=rd1 a1 h0;have aP:=od1 a1 aP;Af (Ah f Z Z AJ λa f=>Aa (Ag ?_))
    rcases Ae aZ with⟨a2,aZ⟩|⟨a2,aZ⟩
    ·refine An f Z a2 (Ao (Ag (Al (Af (Bd aZ λa3 a4 aZ=>Bq 1 m aP Z T75 f Z Z Z a4 λa5 a a6 f=>B2 1 m aP Z Pl3 f Z Z a6 a4 λa7 a a8 f=> ?_)))))
     subst a8
     refine Ac f Z λa f=>Az (Ab f Z λa f=>Ab f Z λa f=>Ab f Z λa f=>Bd aZ λa9 ba aZ=>A1 f Z call66 (Wk.c m ba) λbb w bc m a f=>have h0:=rd1 bc h0;Ab f Z λa f=>Bd aZ λbd be aZ=>A1 f Z call66 (Wk.c m be) λbf w bg m a f=>have h0:=rd1 bg h0;Ah f Z Z b_or λa f=>Bd aZ λbh bi aZ=>A1 f Z call91 (Wk.p0 hW m h0 bi) λbj w bk m a f=>Ac f Z λa f=>Az (Ab f Z λa f=>Ab f Z λa f=>Ah f Z Z BN λa f=>Aa ?_))
     rcases Ae aZ with⟨bl,aZ⟩|⟨bl,aZ⟩
     ·refine An f Z bl (Ak (Ab f Z λa f=>Ab f Z λa f=>Ah f Z Z b_or λa f=>Ac f Z λa f=>Aa (Ak (Ah f Z Z Ax λa f=>Ab f Z λa f=>Aa ?_))))
      obtain rfl:=sj aZ
      exact⟨_,Z,_,_,Z,_,(gt a1 (gt bc (gt bg bk))),f.k Z,m⟩
     ·refine Ai f Z bl (Ao (Ak (Ah f Z Z Ax λa f=>Ab f Z λa f=>Aa ?_)))
      obtain rfl:=sj aZ
      exact⟨_,Z,_,_,Z,_,(gt a1 (gt bc (gt bg bk))),f.k Z,m⟩
    ·refine Ai f Z a2 (AB Z (have m:=m.eraseAt 1;?_))
     obtain rfl:=sj aZ
     obtain rfl:=a0 _ rfl
     exact⟨_,Z,_,a1,f.k Z,m⟩
   ·rintro a w ⟨aS,rfl,aT,bm,f,m⟩
    refine have av:=od1 bm av;Af (Ab f Z λa f=>Ab f Z λa f=>AX (R:=(RI .u32)) (xs:=([aS]:LI)) (RI.one _) m T52 f Z Z Z (by decide) (All2.cons Z (All2.nil _)) λbn bo w a m bp f=>Bd aq λbq br aq=>Be (RI.one _) 1 m av Z T52 Z (by decide) f Z Z Z (Ow.src (j:=0) bp m Z) br λbs bt w a m bu f=>Ac f Z λa f=>Aa (Ak (Ab f Z λa f=>Ab f Z λa f=>Ah f Z Z CS λa f=>Ac f Z λa f=>Aa (have m:=m.fr 1;have m:=m.eraseAt 1;?_))))
    obtain rfl:=sj aq
    exact⟨_,Z,_,_,Z,_,bt,bs,(gt au (gt aA (gt aE (gt aI (gt aO bm))))),f.k Z,m,bu⟩
  ·refine Ai f Z aw (AB Z ?_)
   obtain rfl:=sj aq
   obtain rfl:=ar _ rfl
   exact⟨_,Z,_,an,ao,au,f.k Z,m,av⟩
 ·rintro a w ⟨af,rfl,ag,ah,ai,bv,f,m,bw⟩
  refine Af (Ab f Z λa f=>Ac f Z λa f=>Aa (Aq ?_))
  obtain rfl:=sj hd
  exact⟨[ah],f.g Z,f.d,_,[ai],bv,m,_,_,Z,Z,bw⟩
theorem Wk.E {W:World}(hW:BD W)(n:Nat):∀{w:World} {G:GH} {H:List Itm} {v0 v1 v3:Value} {it3:Itm} {x0 x1:LI} {x2:Int} {x3:(List (Int×Int×LI))} (m:Mem W G w (it3::H)) (h0:RSl (RI .u32) G v0 x0) (h1:RSl (RI .u32) G v1 x1) (o3:OwPt 42 G it3 v3 x3) {y:((List (Int×Int×LI)))} (hd:D.E n x0 x1 x2 x3=some y),
  Calls prog 24 #[v0,v1,(.int .u32 x2),v3] w (Res W G H (λG' Ho v=>∃r0:Value,∃i0:Itm,Ho=[i0]∧r0=v∧OwPt 42 G' i0 r0 y)):=by
 induction n with
 |zero=>intros;rename_i hd;simp[D.E] at hd
 |succ fuel ih=>
  intro w G H v0 v1 v3 it3 x0 x1 x2 x3 m h0 h1 o3 y hd
  refine Aw (args:=[v0,v1,(.int .u32 x2),v3]) (N:=64) [.tmp 8] func24 Z Z (lb Z) Z λa f=> ?_
  unfold D.E at hd
  refine Af (Ac f Z λa f=>Aa (Ag (Af (Ab f Z λa f=>Bd hd λaa ab hd=>A1 f Z call48 (Wk.k m ab) λac w ad m a f=>have h0:=rd1 ad h0;have h1:=rd1 ad h1;have o3:=OwPt.mono ptT ad o3;Ah f Z Z Bf λa f=>Aa ?_))))
  rcases Ae hd with⟨ae,hd⟩|⟨ae,hd⟩
  ·refine An f Z ae (Af (Ab f Z λa f=>Ab f Z λa f=>Bd hd λaf ag hd=>A1 f Z call49 (Wk.e hW m ag) λah w ai m a f=>have o3:=OwPt.mono ptT ai o3;Bd hd λaj ak hd=>AZ f Z call63 (Wk.q1 m ak) λal am an w ao m ap a f=> ?_))
   obtain⟨aq,ar,rfl,rfl,au⟩:=ap
   have o3:=OwPt.mono ptT ao o3
   obtain⟨av,aw,m,ax⟩:=Ow.stamp (RI.mono _) au m
   refine have o3:=OwPt.mono ptT aw o3;E9 (y:=(aj.1,aj.2.1,aj.2.2)) m T33 f Z Z ax λay az w a m aA f=>Bd hd λaB aC hd=>D7 (z:=(.agg #[iv 0,iv 0,sn])) 1 0 m o3 Z aA Z (by simp) T33 Z (by decide) f Z Z Z aC λaD aE w a m aF f=>Ac f Z λa f=>Aa (Aq (have m:=m.fr 1;have m:=m.eraseAt 1;?_))
   obtain rfl:=sj hd
   exact⟨[aE],f.g Z,f.d,_,[aD],(gt ad (gt ai (gt ao aw))),m,_,_,Z,Z,aF⟩
  ·refine Ai f Z ae (Ao (Af (Ab f Z λa f=>Ab f Z λa f=>Bd hd λaG aH hd=>BS f Z call64 (Wk.o hW m h0 aH) λaI aJ aK w aL m aM a f=>have h0:=rd1 aL h0;have h1:=rd1 aL h1;have o3:=OwPt.mono ptT aL o3;Ac f Z λa f=>Ac f Z λa f=>Aa (Ag (Af (Ab f Z λa f=>Bz 0 m aM Z underlying52 f Z Z λa f=>Ah f Z Z Bf λa f=>Aa (Bd hd λaN aO hd=> ?_)))))))
   refine AH (λa w=>∃aP:Int,∃aQ:LI,(aP,aQ)=aN∧∃(aR:GH) (aS:Value) (aT:Itm),GLe aK aR∧Fr a 64 [(0,v0),(1,v1),(2,(.int .u32 x2)),(3,v3),(9,iv aP),(10,aS)]∧Mem W aR w (it3::aT::H)∧Ow (RI .u32) 58 aR aT aS aQ) ?_ ?_
   ·rcases Ae aO with⟨aU,aO⟩|⟨aU,aO⟩
    ·refine An f Z aU (Ak (Ab f Z λa f=>Ab f Z λa f=>Bd aO λaV aW aO=>BS f Z call64 (Wk.o hW m h1 aW) λaX aY aZ w a0 m a1 a f=>have o3:=OwPt.mono ptT a0 o3;Ac f Z λa f=>Ac f Z λa f=>Aa (have m:=m.fr 2;have m:=m.eraseAt 2;?_)))
     obtain rfl:=sj aO
     exact⟨_,_,Z,_,aX,aY,a0,f.k Z,m,a1⟩
    ·refine Ai f Z aU (Ao (have m:=m.fr 1;?_))
     obtain rfl:=sj aO
     exact⟨_,_,Z,_,aI,aJ,gr,f.k Z,m,aM⟩
   ·rintro a w ⟨aP,aQ,rfl,aR,aS,aT,a2,f,m,a3⟩
    refine have h0:=rd1 a2 h0;have h1:=rd1 a2 h1;have o3:=OwPt.mono ptT a2 o3;Ag (Af (Ab f Z λa f=>Bz 1 m a3 Z underlying52 f Z Z λa f=>Ah f Z Z Bf λa f=>Aa (Bd hd λa4 a5 hd=> ?_)))
    refine AH (λa w=>∃a6:Int,∃a7:LI,(a6,a7)=a4∧∃(a8:GH) (a9:Value) (ba:Itm),GLe aR a8∧Fr a 64 [(0,v0),(1,v1),(3,v3),(9,iv a6),(10,a9)]∧Mem W a8 w (it3::ba::H)∧Ow (RI .u32) 58 a8 ba a9 a7) ?_ ?_
    ·rcases Ae a5 with⟨bb,a5⟩|⟨bb,a5⟩
     ·refine An f Z bb (Ak (Ab f Z λa f=>Ab f Z λa f=>Bd a5 λbc bd a5=>BS f Z call65 (Wk.i0 hW m h0 bd) λbe bf bg w bh m bi a f=>have o3:=OwPt.mono ptT bh o3;Ac f Z λa f=>Ac f Z λa f=>Aa (have m:=m.fr 1;have m:=m.eraseAt 2;?_)))
      obtain rfl:=sj a5
      exact⟨_,_,Z,_,be,bf,bh,f.k Z,m,bi⟩
     ·refine Ai f Z bb (Ao ?_)
      obtain rfl:=sj a5
      exact⟨_,_,Z,_,aS,aT,gr,f.k Z,m,a3⟩
    ·rintro a w ⟨a6,a7,rfl,a8,a9,ba,bj,f,m,bk⟩
     refine have h0:=rd1 bj h0;have h1:=rd1 bj h1;have o3:=OwPt.mono ptT bj o3;Af (Ab f Z λa f=> ?_)
     have bl:∀w,(Instr.build 42 #[(0,iv a6)]).run prog w= .ok (.agg #[iv a6,iv 0,sn]) w:=by intro w;simp[Instr.build,Instr.fill,B6,BT,BB,BO,Bx,B5,BV]
     refine Cr f Z Z bl λa f=>Bj (cs:=[iv 0,iv 0,sn]) zeroValue42 m f Z Z λbm w a m f=>AA 0 0 (ds:=[iv a6,iv 0,sn]) m sizeOf42 f Z Z Z (Ay Z (Ay Z (Ay Z AQ))) Z (lb Z) Z λw m=>Aa (Ag (Af (Ab f Z λa f=>Bz 2 m bk Z underlying52 f Z Z λa f=>Ab f Z λa f=>Aa ?_)))
     obtain⟨bn,m,bo⟩:=Ow.nil R0 2 m
     have⟨bp,bq,hd⟩:=bind_some hd
     refine AH (λa w=>∃br:List (Int×Int×LI),∃bs:LI,(br,bs)=bp∧∃(bt:GH) (bu:Value) (bv:Itm) (bw:Value) (bx:Itm),GLe a8 bt∧Fr a 64 [(3,bu),(11,pb bm)]∧Mem W bt w (ib bm 42 [iv a6,iv 0,bw]::bv::bx::H)∧OwPt 42 bt bv bu br∧Ow R0 2 bt bx bw bs) ?_ ?_
     ·refine Al (have m:=m.fr 3;have m:=m.fr 3;have m:=m.fr 3;AE (λbz a w=>∃bA:List (Int×Int×LI),∃bB:Int,∃bC:LI,(bA,bB,bC)=bz∧∃(bD:GH) (bE:Value) (bF:Itm) (bG:Value) (bH:Itm),GLe a8 bD∧Fr a 64 [(0,v0),(1,v1),(3,bE),(11,pb bm),(40,a9),(41,(iv (a7.length:Int))),(42,iv bB)]∧Mem W bD w (ib bm 42 [iv a6,iv 0,bG]::bF::ba::bH::H)∧OwPt 42 bD bF bE bA∧Ow R0 2 bD bH bG bC) bq ⟨_,_,_,Z,_,v3,it3,sn,bn,gr,f.k Z,m,o3,bo⟩ ?_)
      clear bq f m
      rintro bz bI bJ bK a w ⟨bA,bB,bC,rfl,bD,bE,bF,bG,bH,bL,f,m,bM,bN⟩
      refine have h0:=rd1 bL h0;have h1:=rd1 bL h1;have bk:=od1 bL bk;Af (Ah f Z Z AJ λa f=>Aa (Ag ?_))
      rcases Ae bJ with⟨bO,bJ⟩|⟨bO,bJ⟩
      ·refine An f Z bO (Ao (Ag (Al (Af (Bd bJ λbP bQ bJ=>Bq 2 m bk Z T52 f Z Z Z bQ λbR a bS f=>B2 2 m bk Z A7 f Z Z bS bQ λbT a bU f=> ?_)))))
       subst bU
       refine Ac f Z λa f=>Az (Ab f Z λa f=>Ab f Z λa f=>Ab f Z λa f=>Ab f Z λa f=>have m:=m.fr 1;Bd bJ λbV bW bJ=>AZ f Z call24 (ih m h0 h1 bM bW) λbX bY bZ w b0 m b1 a f=> ?_)
       obtain⟨b2,b3,rfl,rfl,b4⟩:=b1
       refine have bN:=od1 b0 bN;Ac f Z λa f=>Aa (Ak (Bn underlying42 Z sizeOf39 f Z λa f=>AI 1 2 m Bu f Z Z Z Z λa f=>Ab f Z λa f=>l_ownP_len 0 m b4 Z underlying33 f Z Z λa f=>Ah f Z Z AT λa f=>AX (R:=R0) (xs:=([(i64.wrap ((bV.length:Int)-1))]:LI)) (RI.one _) m T39 f Z Z Z (by decide) (All2.cons Z (All2.nil _)) λb5 b6 w a m b7 f=>Bd bJ λb8 b9 bJ=>Be (RI.one _) 4 m bN Z T39 Z (by decide) f Z Z Z (Ow.src (j:=0) b7 m Z) b9 λca cb w a m cc f=>Bn underlying42 Z sizeOf39 f Z λa f=>AA 2 2 (ds:=[cb]) m sizeOf39 f Z Z (Ow.cells 4 m cc Z) (Ay (Ow.one1 4 m cc Z) AQ) Z (lb Z) Z λw m=>Aa (Ak (Ah f Z Z Ax λa f=>Ab f Z λa f=>Aa (have m:=m.fr 4;have m:=m.fr 4;have m:=m.fr 3;have m:Mem W bY w (ib bm 42 [iv a6,iv 0,cb]::b3::ba::ca::b5::H):=m.fr 4;have m:=m.eraseAt 4;?_)))))
       obtain rfl:=sj bJ
       exact⟨_,Z,_,_,_,Z,_,b2,b3,cb,ca,(gt bL b0),f.k Z,m,b4,cc⟩
      ·refine Ai f Z bO (AB Z (have m:=m.fr 3;have m:=m.fr 2;have m:=m.fr 2;have m:=m.eraseAt 3;?_))
       obtain rfl:=sj bJ
       obtain rfl:=bK _ rfl
       exact⟨_,_,Z,_,bE,bF,bG,bH,bL,f.k Z,m,bM,bN⟩
     ·rintro a w ⟨br,bs,rfl,bt,bu,bv,bw,bx,cd,f,m,ce,cf⟩
      refine Af (Ab f Z λa f=>AN 0 0 (ds:=[iv a6,iv 0,bw]) m Ag42 f Z Z Z Z Z λa f=>have m:=m.fr 2;?_)
      obtain⟨cg,ch,m,ci⟩:=Ow.stamp (RI.mono _) cf m
      refine have ce:=OwPt.mono ptT ch ce;E9 (y:=(a6,0,bs)) m T33 f Z Z ci λcj ck w a m cl f=>Bd hd λcm cn hd=>D7 (z:=(.agg #[iv 0,iv 0,sn])) 2 0 m ce Z cl Z (by simp) T33 Z (by decide) f Z Z Z cn λco cp w a m cq f=>Ac f Z λa f=>Aa (Aq (have m:=m.fr 2;have m:=m.eraseAt 2;have m:=m.eraseAt 1;?_))
      obtain rfl:=sj hd
      exact⟨[cp],f.g Z,f.d,_,[co],(gt ad (gt aL (gt a2 (gt bj (gt cd ch))))),m,_,_,Z,Z,cq⟩
theorem Wk.p {v0 v1 v3:Value}{it3:Itm}{x0 x1:LI}{x2:Int}{x3:(List (Int×Int×LI))}(hW:BD W)(m:Mem W G w (it3::H))(h0:RSl (RI .u32) G v0 x0)(h1:RSl (RI .u32) G v1 x1)(o3:OwPt 42 G it3 v3 x3){y:((List (Int×Int×LI)))}(hd:D.p x0 x1 x2 x3=some y):
  Calls prog 24 #[v0,v1,(.int .u32 x2),v3] w (Res W G H (λG' Ho v=>∃r0:Value,∃i0:Itm,Ho=[i0]∧r0=v∧OwPt 42 G' i0 r0 y)):=by
 exact Wk.E hW BP m h0 h1 o3 hd
theorem Wk.b0 {aa:Value}{ab:LL}(hW:BD W)(m:Mem W G w (H))(ac:R2 G aa ab){y:((List (Int×Int×LI)))×Bool}(hd:D.b0 ab=some y):
  Calls prog 9 #[(.agg #[aa])] w (Res W G H (λG' Ho v=>∃r0:Value,∃i0:Itm,Ho=[i0]∧v= .tuple #[r0,(.bool y.2)]∧OwPt 42 G' i0 r0 y.1)):=by
 refine Aw (args:=[(.agg #[aa])]) (N:=16) [.tmp 2,.tmp 3] func9 Z Z (lb Z) Z λa f=> ?_
 unfold D.b0 at hd
 refine Af (Bv (cs:=[aa]) m f Z Z Z λad w a m f=>Ac f Z λa f=>Ac f Z λa f=>Aa (Ag (Af (AN 0 0 (ds:=[aa]) m AU f Z Z Z Z Z λa f=>Bd hd λae af hd=>A1 f Z call22 (Wk.z m ac af) λag w ah m a f=>have ac:=rd2 ah ac;l_o f (Bc (f.e Z)) λa f=>Aa ?_))))
 rcases Ae hd with⟨ai,hd⟩|⟨ai,hd⟩
 ·refine An f Z ai (Af (Ac f Z λa f=>Ac f Z λa f=>Aa (Aq ?_)))
  obtain⟨aj,m,ak⟩:=OwPt.nil 42 m
  have m:=m.eraseAt 1
  obtain rfl:=sj hd
  exact⟨[sn,(.bool false)],⟨f.get _ _ Z,f.get _ _ Z,trivial⟩,f.d,_,[aj],ah,m,_,_,Z,Z,ak⟩
 ·refine Ai f Z ai (Ao (Af (AN 0 0 (ds:=[aa]) m AU f Z Z Z Z Z λa f=>Bd hd λal am hd=>BS f Z call23 (Wk.v m ac am) λan ao ap w aq m ar a f=>Ac f Z λa f=>Az (Ab f Z λa f=>Ab f Z λa f=>Bd hd λau av hd=>BS f Z call25 (Ow.lendCall (RI.mono _) 0 ar m Z (λaw ax m ay=>Wk.X m ay av) (λ_ G' _ _ ⟨a0,a1,e1,e2,o0⟩=>⟨a0,a1,e1,e2,Ow.free (RI.free _) G' o0⟩)) λaz aA aB w aC m aD a f=>have ar:=od1 aC ar;Ab f Z λa f=>Bd hd λaE aF hd=>AZ f Z call26 (Ow.lendCall (RI.mono _) 1 ar m Z (λaG aH m aI=>Wk.r m aI aF) (λ_ _ _ _ h=>h)) λaJ aK aL w aM m aN a f=> ?_))))
  obtain⟨rfl,rfl⟩:=aN
  refine have aD:=od1 aM aD;have ar:=od1 aM ar;have m:=m.fr 1;?_
  obtain⟨aO,aP,m,aQ⟩:=Ow.stamp (RI.mono _) ar m
  have aD:=od1 aP aD
  obtain⟨aR,aS,m,aT⟩:=Ow.stamp (RI.mono _) aD m
  have aQ:=rd1 aS aQ
  obtain⟨aU,m,aV⟩:=OwPt.nil 42 m
  refine Bd hd λaW aX hd=>BS f Z call24 (Wk.p hW m aQ aT aV aX) λaY aZ a2 w a3 m a4 a f=>Ac f Z λa f=>Ac f Z λa f=>Aa (Aq (have m:=m.eraseAt 1;?_))
  obtain rfl:=sj hd
  exact⟨[aY,(.bool true)],⟨f.get _ _ Z,f.get _ _ Z,trivial⟩,f.d,_,[aZ],(gt ah (gt aq (gt aC (gt aM (gt aP (gt aS a3)))))),m,_,_,Z,Z,a4⟩
theorem Wk.L {W:World}(n:Nat):∀{w:World} {G:GH} {H:List Itm} {v0:Value} {x0:(List (Int×Int×LI))} {x1:Int} (m:Mem W G w (H)) (h0:RPt G v0 x0) {y:Int} (hd:D.L n x0 x1=some y),
  Calls prog 92 #[v0,iv x1] w (Res W G H (λ_ Ho v=>Ho=[]∧v=(iv y))):=by
 induction n with
 |zero=>intros;rename_i hd;simp[D.L] at hd
 |succ fuel ih=>
  intro w G H v0 x0 x1 m h0 y hd
  refine Aw (args:=[v0,iv x1]) (N:=75) [.tmp 4] func92 Z Z (lb Z) Z λa f=> ?_
  unfold D.L at hd
  refine Af (Ac f Z λa f=>Az (Ab f Z λa f=>Ab f Z λa f=>Bd hd λaa ab hd=>Cz T33 f Z Z Z h0 ab λac ad a ae af f=>Er (E:=P3S) [iv aa.1,iv aa.2.1,(hdV ad)] m Ag42 f Z Z ae Z λa f=>Bj (cs:=[iv 0,iv 0,sn]) zeroValue42 m f Z Z λag w a m f=>AA 0 0 (ds:=[iv aa.1,iv aa.2.1,(hdV ad)]) m sizeOf42 f Z Z Z (Ay Z (Ay Z (Ay af.one1 AQ))) Z (lb Z) Z λw m=>Aa (Ag (Af (Bn underlying42 Z sizeOf2 f Z λa f=>AI 0 0 m Pl2 f Z Z Z Z λa f=>Ah f Z Z Bf λa f=>Aa ?_)))))
  rcases Ae hd with⟨ah,hd⟩|⟨ah,hd⟩
  ·refine An f Z ah (Ag (Af (Bn underlying42 Z sizeOf39 f Z λa f=>AI 0 2 m Bu f Z Z Z Z λa f=>AS underlying39 f Z Z af λa f=>Ah f Z Z BX λa f=>Ab f Z λa f=>Bd hd λai aj hd=> ?_)))
   refine Bi 5 (λa w=>∃ak,GLe G ak∧Mem W ak w (ib ag 42 [iv aa.1,iv aa.2.1,(hdV ad)]::H)∧Fr a 75 [(0,v0),(1,iv x1),(5,pb ag),(16,(.bool (aa.1==1))),(17,(.pointer (some ⟨ag,2,none⟩))),(18,(hdV ad)),(19,(iv (aa.2.2.length:Int))),(20,(.bool (decide ((0:Int)<(aa.2.2.length:Int))))),(21,(.bool (decide ((0:Int)<(aa.2.2.length:Int))))),(26,(.bool ai))]) ?_ ?_
   ·rcases Ae aj with⟨al,aj⟩|⟨al,aj⟩
    ·refine Au f al λa f=>Au f al λa f=>Au f al λa f=>Au f al λa f=>l_o f (AD (f.e Z) al (f.e Z)) λa f=> ?_
     obtain rfl:=sj aj
     exact⟨_,gr,m,f.k Z⟩
    ·refine As f al (Bn underlying42 Z sizeOf2 f Z λa f=>As f al (AI 0 1 m Pl2 f Z Z Z Z λa f=>As f al (Bd aj λam an aj=>A1 f Z call54 (Wk.b m an) λao w ap m a f=>have h0:=RPt.mono ptT _ _ _ _ ap h0;As f al (l_o f (Bc (f.e Z)) λa f=>l_o f (AC (f.e Z) al (f.e Z)) λa f=> ?_))))
     obtain rfl:=sj aj
     exact⟨_,ap,m,f.k Z⟩
   ·rintro a w ⟨ak,aq,m,f⟩
    refine have h0:=RPt.mono ptT _ _ _ _ aq h0;Aa ?_
    rcases Ae hd with⟨ar,hd⟩|⟨ar,hd⟩
    ·refine An f Z ar (Af (Ac f Z λa f=>Aa (Aq (have m:=m.dp 1;?_))))
     obtain rfl:=sj hd
     exact⟨[(iv (-1))],f.g Z,f.d,_,[],aq,m,Z,Z⟩
    ·refine Ai f Z ar (Ao (Af (Ac f Z λa f=>Aa (Aq (have m:=m.dp 1;?_)))))
     obtain rfl:=sj hd
     exact⟨[iv 1],f.g Z,f.d,_,[],aq,m,Z,Z⟩
  ·refine Ai f Z ah (Ao (Ag (Af (Bn underlying42 Z sizeOf2 f Z λa f=>AI 0 0 m Pl2 f Z Z Z Z λa f=>Bd hd λau av hd=>A1 f Z call54 (Wk.b m av) λaw w ax m a f=>have h0:=RPt.mono ptT _ _ _ _ ax h0;have af:=rd1 ax af;l_o f (Bc (f.e Z)) λa f=>Ab f Z λa f=> ?_))))
   refine Bi 4 (λa w=>∃ay,GLe aw ay∧Mem W ay w (ib ag 42 [iv aa.1,iv aa.2.1,(hdV ad)]::H)∧Fr a 75 [(0,v0),(1,iv x1),(5,pb ag),(16,(.bool (aa.1==1))),(27,pb ag),(28,iv aa.1),(29,(.bool au)),(30,(.bool (!au))),(31,(.bool (!au))),(35,(.bool ((!au)||(aa.2.1 !=0))))]) ?_ ?_
   ·rcases Bool.eq_false_or_eq_true (!au) with az|az
    ·exact Au f az λa f=>Au f az λa f=>Au f az λa f=>l_o f (AD (f.e Z) az (f.e Z)) λa f=>⟨_,gr,m,f.weak ⟨Z,Z,Z,Z,Z,Z,Z,Z,Z,by rw[az];rfl,trivial⟩⟩
    ·exact As f az (Bn underlying42 Z sizeOf2 f Z λa f=>As f az (AI 0 1 m Pl2 f Z Z Z Z λa f=>As f az (Ah f Z Z BN λa f=>l_o f (AC (f.e Z) az (f.e Z)) λa f=>⟨_,gr,m,f.weak ⟨Z,Z,Z,Z,Z,Z,Z,Z,Z,by rw[az];rfl,trivial⟩⟩)))
   ·rintro a w ⟨ay,aA,m,f⟩
    refine have h0:=RPt.mono ptT _ _ _ _ aA h0;have af:=rd1 aA af;Ab f Z λa f=> ?_
    refine Bi 5 (λa w=>∃aB,GLe ay aB∧Mem W aB w (ib ag 42 [iv aa.1,iv aa.2.1,(hdV ad)]::H)∧Fr a 75 [(0,v0),(1,iv x1),(5,pb ag),(16,(.bool (aa.1==1))),(27,pb ag),(28,iv aa.1),(29,(.bool au)),(30,(.bool (!au))),(31,(.bool (!au))),(35,(.bool ((!au)||(aa.2.1 !=0)))),(36,(.bool ((!au)||(aa.2.1 !=0)))),(41,(.bool (((!au)||(aa.2.1 !=0))||(decide ((aa.2.2.length:Int)<2)))))]) ?_ ?_
    ·rcases Bool.eq_false_or_eq_true ((!au)||(aa.2.1 !=0)) with aC|aC
     ·exact Au f aC λa f=>Au f aC λa f=>Au f aC λa f=>Au f aC λa f=>l_o f (AD (f.e Z) aC (f.e Z)) λa f=>⟨_,gr,m,f.weak ⟨Z,Z,Z,Z,Z,Z,Z,Z,Z,Z,Z,by rw[aC];rfl,trivial⟩⟩
     ·exact As f aC (Bn underlying42 Z sizeOf39 f Z λa f=>As f aC (AI 0 2 m Bu f Z Z Z Z λa f=>As f aC (AS underlying39 f Z Z af λa f=>As f aC (Ah f Z Z AJ λa f=>l_o f (AC (f.e Z) aC (f.e Z)) λa f=>⟨_,gr,m,f.weak ⟨Z,Z,Z,Z,Z,Z,Z,Z,Z,Z,Z,by rw[aC];rfl,trivial⟩⟩))))
    ·rintro a w ⟨aB,aD,m,f⟩
     refine have h0:=RPt.mono ptT _ _ _ _ aD h0;have af:=rd1 aD af;Aa ?_
     rcases Ae hd with⟨aE,hd⟩|⟨aE,hd⟩
     ·refine An f Z aE (Af (Ac f Z λa f=>Aa (Aq (have m:=m.dp 1;?_))))
      obtain rfl:=sj hd
      exact⟨[(iv (-1))],f.g Z,f.d,_,[],(gt ax (gt aA aD)),m,Z,Z⟩
     ·refine Ai f Z aE (Ao (Af (Ac f Z λa f=>Az (Ab f Z λa f=>Ah f Z Z AT λa f=>Ac f Z λa f=>Aa (Ag (Af (Bn underlying42 Z sizeOf39 f Z λa f=>AI 0 2 m Bu f Z Z Z Z λa f=>AS underlying39 f Z Z af λa f=>Ah f Z Z AT λa f=>Ac f Z λa f=>Aa (Bd hd λaF aG hd=> ?_))))))))
      refine AH (λa w=>∃q_121':Int,aF= .inl q_121'∧∃aH:Int,aH=q_121'∧∃(aI:GH),GLe aB aI∧Fr a 75 [(6,iv aH)]∧Mem W aI w (H)) ?_ ?_
      ·refine Al (AE (λaJ a w=>∃aK:Int,∃aL:Int,∃aM:Int,(aK,aL,aM)=aJ∧∃(aN:GH),GLe aB aN∧Fr a 75 [(0,v0),(5,pb ag),(6,iv aK),(7,iv aL),(8,iv aM)]∧Mem W aN w (ib ag 42 [iv aa.1,iv aa.2.1,(hdV ad)]::H)) aG ⟨_,_,_,Z,_,gr,f.k Z,m⟩ ?_)
       clear aG f m
       rintro aJ aO aP aQ a w ⟨aK,aL,aM,rfl,aN,aR,f,m⟩
       refine have h0:=RPt.mono ptT _ _ _ _ aR h0;have af:=rd1 aR af;Ag (Af (Ab f Z λa f=>Ah f Z Z Ck λa f=>Aa ?_))
       rcases Ae aP with⟨aS,aP⟩|⟨aS,aP⟩
       ·refine An f Z aS (Ao (Ag (Al (Ag (Af (Ab f Z λa f=>Ah f Z Z AJ λa f=>Ab f Z λa f=>Bd aP λaT aU aP=> ?_))))))
        refine Bi 8 (λa w=>∃aV,GLe aN aV∧Mem W aV w (ib ag 42 [iv aa.1,iv aa.2.1,(hdV ad)]::H)∧Fr a 75 [(0,v0),(5,pb ag),(6,iv aK),(7,iv aL),(8,iv aM),(49,(.bool (decide ((0:Int)≤aM)))),(52,iv aL),(53,(.bool (decide (aL<0)))),(54,(.bool (decide (aL<0)))),(62,(.bool aT))]) ?_ ?_
        ·rcases Ae aU with⟨aW,aU⟩|⟨aW,aU⟩
         ·refine Au f aW λa f=>Au f aW λa f=>Au f aW λa f=>Au f aW λa f=>Au f aW λa f=>Au f aW λa f=>Au f aW λa f=>l_o f (AD (f.e Z) aW (f.e Z)) λa f=> ?_
          obtain rfl:=sj aU
          exact⟨_,gr,m,f.k Z⟩
         ·refine As f aW (Bn underlying42 Z sizeOf39 f Z λa f=>As f aW (AI 0 2 m Bu f Z Z Z Z λa f=>As f aW (Ab f Z λa f=>As f aW (Bd aU λaX aY aU=>Bt T39 f Z Z Z af aY λaZ a0 a a1 a2 f=> ?_))))
          subst a2
          refine As f aW (AL m Pl2 f Z Z a1 λa f=>As f aW (Ab f Z λa f=>As f aW (Ah f Z Z BN λa f=>l_o f (AC (f.e Z) aW (f.e Z)) λa f=> ?_)))
          obtain rfl:=sj aU
          exact⟨_,gr,m,f.k Z⟩
        ·rintro a w ⟨aV,a3,m,f⟩
         refine have h0:=RPt.mono ptT _ _ _ _ a3 h0;Aa ?_
         rcases Ae aP with⟨a4,aP⟩|⟨a4,aP⟩
         ·refine An f Z a4 (Af (Ac f Z λa f=>Aa (Aq (have m:=m.dp 1;?_))))
          obtain rfl:=sj aP
          obtain rfl:=aQ _ rfl
          obtain rfl:=sj hd
          exact⟨[(iv (-1))],f.g Z,f.d,_,[],(gt ax (gt aA (gt aD (gt aR a3)))),m,Z,Z⟩
         ·refine Ai f Z a4 (Ao (Af (Ab f Z λa f=>Ab f Z λa f=>Bd aP λa5 a6 aP=>AZ f Z call92 (ih m h0 a6) λa7 a8 a9 w ba m bb a f=> ?_)))
          obtain⟨rfl,rfl⟩:=bb
          refine have h0:=RPt.mono ptT _ _ _ _ ba h0;Ac f Z λa f=>Aa (Ag (Af (Ab f Z λa f=>Ah f Z Z AJ λa f=>Aa ?_)))
          rcases Ae aP with⟨bc,aP⟩|⟨bc,aP⟩
          ·refine An f Z bc (Af (Ac f Z λa f=>Aa (Aq (have m:=m.dp 1;?_))))
           obtain rfl:=sj aP
           obtain rfl:=aQ _ rfl
           obtain rfl:=sj hd
           exact⟨[(iv (-1))],f.g Z,f.d,_,[],(gt ax (gt aA (gt aD (gt aR (gt a3 ba))))),m,Z,Z⟩
          ·refine Ai f Z bc (Ao (Af (Ab f Z λa f=>Ab f Z λa f=>Ah f Z Z Ax λa f=>Ac f Z λa f=>Aa (Ak (Ab f Z λa f=>Ab f Z λa f=>Ah f Z Z AT λa f=>Ac f Z λa f=>Aa (Ak (Ab f Z λa f=>Ah f Z Z AT λa f=>Ac f Z λa f=>Aa ?_)))))))
           obtain rfl:=sj aP
           exact⟨_,Z,_,_,_,Z,_,(gt aR (gt a3 ba)),f.k Z,m⟩
       ·refine Ai f Z aS (AB Z (have m:=m.dp 1;?_))
        obtain rfl:=sj aP
        obtain rfl:=aQ _ rfl
        exact⟨_,Z,_,Z,_,aR,f.k Z,m⟩
      ·rintro a w ⟨_,rfl,aH,rfl,aI,bd,f,m⟩
       refine Af (Ab f Z λa f=>Ac f Z λa f=>Aa (Aq ?_))
       obtain rfl:=sj hd
       exact⟨[iv aH],f.g Z,f.d,_,[],(gt ax (gt aA (gt aD bd))),m,Z,Z⟩
theorem Wk.m {v0:Value}{x0:(List (Int×Int×LI))}{x1:Int}(m:Mem W G w (H))(h0:RPt G v0 x0){y:Int}(hd:D.m x0 x1=some y):
  Calls prog 92 #[v0,iv x1] w (Res W G H (λ_ Ho v=>Ho=[]∧v=(iv y))):=by
 exact Wk.L BP m h0 hd
theorem Wk.e0 {W:World}(n:Nat):∀{w:World} {G:GH} {H:List Itm} {v0:Value} {x0:(List (Int×Int×LI))} {x1:Int} (m:Mem W G w (H)) (h0:RPt G v0 x0) {y:(LI)} (hd:D.e0 n x0 x1=some y),
  Calls prog 29 #[v0,iv x1] w (Res W G H (λG' Ho v=>∃r0:Value,Ho=[]∧r0=v∧R1 G' r0 y)):=by
 induction n with
 |zero=>intros;rename_i hd;simp[D.e0] at hd
 |succ fuel ih=>
  intro w G H v0 x0 x1 m h0 y hd
  refine Aw (args:=[v0,iv x1]) (N:=55) [.tmp 4] func29 Z Z (lb Z) Z λa f=> ?_
  unfold D.e0 at hd
  refine Af (Ac f Z λa f=>Aa (Ag (Af (Ab f Z λa f=>Ab f Z λa f=>Bd hd λaa ab hd=>Cz T33 f Z Z Z h0 ab λac ad a ae af f=>Ct (E:=P3S) (c:=(iv aa.1)) underlying42 Z sizeOf2 (by decide) f Z Z ae Z λag a ah f=>AL m Pl2 f Z Z ah λa f=>Ah f Z Z Bf λa f=>Aa ?_))))
  rcases Ae hd with⟨ai,hd⟩|⟨ai,hd⟩
  ·refine An f Z ai (Af (Ab f Z λa f=>Ab f Z λa f=>Bd hd λaj ak hd=>Cz T33 f Z Z Z h0 ak λal am a an ao f=>Ct (E:=P3S) (c:=(iv aj.2.1)) underlying42 Z sizeOf2 (by decide) f Z Z an Z λap a aq f=>AL m Pl2 f Z Z aq λa f=>AX (R:=R0) (xs:=([aj.2.1]:LI)) (RI.one _) m T39 f Z Z Z (by decide) (All2.cons Z (All2.nil _)) λar au w a m av f=>Ac f Z λa f=>Aa (Aq ?_)))
   obtain⟨aw,ax,m,ay⟩:=Ow.stamp (RI.mono _) av m
   have h0:=RPt.mono ptT _ _ _ _ ax h0
   obtain rfl:=sj hd
   exact⟨[au],f.g Z,f.d,_,[],ax,m,_,Z,Z,ay⟩
  ·refine Ai f Z ai (Ao (Af (AX (R:=R0) (xs:=([]:LI)) (RI.one _) m T39 f Z Z Z (by decide) (All2.nil _) λaz aA w a m aB f=>Ac f Z λa f=>Aa (Ag (Af (Ac f Z λa f=>Aa ?_))))))
   obtain⟨aC,aD,m,aE⟩:=Ow.stamp (RI.mono _) aB m
   refine have h0:=RPt.mono ptT _ _ _ _ aD h0;Bd hd λaF aG hd=> ?_
   refine AH (λa w=>∃aH:LI,aH=aF∧∃(aI:GH) (aJ:Value),GLe aC aI∧Fr a 55 [(5,aJ)]∧Mem W aI w (H)∧R1 aI aJ aH) ?_ ?_
   ·refine Al (AE (λaK a w=>∃aL:LI,∃aM:Int,(aL,aM)=aK∧∃(aN:GH) (aO:Value),GLe aC aN∧Fr a 55 [(0,v0),(1,iv x1),(5,aO),(6,iv aM)]∧Mem W aN w (H)∧R1 aN aO aL) aG ⟨_,_,Z,_,aA,gr,f.k Z,m,aE⟩ ?_)
    clear aG f m
    rintro aK aP aQ aR a w ⟨aL,aM,rfl,aN,aO,aS,f,m,aT⟩
    refine have h0:=RPt.mono ptT _ _ _ _ aS h0;Ag (Af (Ab f Z λa f=>Ab f Z λa f=>Ab f Z λa f=>Bd aQ λaU aV aQ=>Cz T33 f Z Z Z h0 aV λaW aX a aY aZ f=>Ct (E:=P3S) (c:=(hdV aX)) underlying42 Z sizeOf39 (by decide) f Z Z aY Z λa0 a a1 f=>AL m Bu f Z Z a1 λa f=>AS underlying39 f Z Z aZ λa f=>Ah f Z Z AJ λa f=>Aa ?_))
    rcases Ae aQ with⟨a2,aQ⟩|⟨a2,aQ⟩
    ·refine An f Z a2 (Ao (Ag (Al (Af (Ab f Z λa f=>Ab f Z λa f=>Ab f Z λa f=>Bd aQ λa3 a4 aQ=>Cz T33 f Z Z Z h0 a4 λa5 a6 a a7 a8 f=>Ct (E:=P3S) (c:=(hdV a6)) underlying42 Z sizeOf39 (by decide) f Z Z a7 Z λa9 a ba f=>AL m Bu f Z Z ba λa f=>Ab f Z λa f=>Bd aQ λbb bc aQ=>Bt T39 f Z Z Z a8 bc λbd be a bf bg f=> ?_)))))
     subst bg
     refine AL m Pl2 f Z Z bf λa f=>Bd aQ λbh bi aQ=>AZ f Z call29 (ih m h0 bi) λbj bk bl w bm m bn a f=> ?_
     obtain⟨bo,rfl,rfl,bp⟩:=bn
     refine have h0:=RPt.mono ptT _ _ _ _ bm h0;have aT:=rd1 bm aT;Ac f Z λa f=>Az (Ac f Z λa f=>Aa (Bd aQ λbq br aQ=> ?_))
     refine AH (λa w=>∃bs:LI,bs=bq∧∃(bt:GH) (bu:Value),GLe bk bt∧Fr a 55 [(0,v0),(1,iv x1),(5,bu),(6,iv aM)]∧Mem W bt w (H)∧R1 bt bu bs) ?_ ?_
     ·refine Al (AE (λbv a w=>∃bw:LI,∃bx:Int,(bw,bx)=bv∧∃(bz:GH) (bA:Value),GLe bk bz∧Fr a 55 [(0,v0),(1,iv x1),(5,bA),(6,iv aM),(7,bo),(8,iv bx)]∧Mem W bz w (H)∧R1 bz bA bw) br ⟨_,_,Z,_,aO,gr,f.k Z,m,aT⟩ ?_)
      clear br f m
      rintro bv bB bC bD a w ⟨bw,bx,rfl,bz,bA,bE,f,m,bF⟩
      refine have h0:=RPt.mono ptT _ _ _ _ bE h0;have bp:=rd1 bE bp;Ag (Af (Ab f Z λa f=>Ab f Z λa f=>AS underlying39 f Z Z bp λa f=>Ah f Z Z AJ λa f=>Aa ?_))
      rcases Ae bC with⟨bG,bC⟩|⟨bG,bC⟩
      ·refine An f Z bG (Ao (Ag (Al (Ak (Ab f Z λa f=>Ab f Z λa f=>Ab f Z λa f=>Bd bC λbH bI bC=>Bt T39 f Z Z Z bp bI λbJ bK a bL bM f=> ?_)))))
       subst bM
       refine AL m Pl2 f Z Z bL λa f=>Bd bC λbN bO bC=>AZ f Z call69 (Wk.g m bF bO) λbP bQ bR w bS m bT a f=> ?_
       obtain⟨bU,rfl,rfl,bV⟩:=bT
       refine have h0:=RPt.mono ptT _ _ _ _ bS h0;Ac f Z λa f=>Aa (Ak (Ab f Z λa f=>Ah f Z Z Ax λa f=>Ac f Z λa f=>Aa ?_))
       obtain rfl:=sj bC
       exact⟨_,Z,_,_,Z,_,bU,(gt bE bS),f.k Z,m,bV⟩
      ·refine Ai f Z bG (AB Z ?_)
       obtain rfl:=sj bC
       obtain rfl:=bD _ rfl
       exact⟨_,Z,_,bA,bE,f.k Z,m,bF⟩
     ·rintro a w ⟨bs,rfl,bt,bu,bW,f,m,bX⟩
      refine have h0:=RPt.mono ptT _ _ _ _ bW h0;Ak (Ab f Z λa f=>Ah f Z Z Ax λa f=>Ac f Z λa f=>Aa ?_)
      obtain rfl:=sj aQ
      exact⟨_,Z,_,_,Z,_,bu,(gt aS (gt bm bW)),f.k Z,m,bX⟩
    ·refine Ai f Z a2 (AB Z ?_)
     obtain rfl:=sj aQ
     obtain rfl:=aR _ rfl
     exact⟨_,Z,_,aO,aS,f.k Z,m,aT⟩
   ·rintro a w ⟨aH,rfl,aI,aJ,bY,f,m,bZ⟩
    refine Af (Ab f Z λa f=>Ac f Z λa f=>Aa (Aq ?_))
    obtain rfl:=sj hd
    exact⟨[aJ],f.g Z,f.d,_,[],(gt aD bY),m,_,Z,Z,bZ⟩
theorem Wk.f {v0:Value}{x0:(List (Int×Int×LI))}{x1:Int}(m:Mem W G w (H))(h0:RPt G v0 x0){y:(LI)}(hd:D.f x0 x1=some y):
  Calls prog 29 #[v0,iv x1] w (Res W G H (λG' Ho v=>∃r0:Value,Ho=[]∧r0=v∧R1 G' r0 y)):=by
 exact Wk.e0 BP m h0 hd
theorem Wk.M0 {v0:Value}{x0:(List (Int×Int×LI))}(m:Mem W G w (H))(h0:RPt G v0 x0){y:Bool}(hd:D.M0 x0=some y):
  Calls prog 68 #[v0] w (Res W G H (λ_ Ho v=>Ho=[]∧v=(.bool y))):=by
 refine Aw (args:=[v0]) (N:=80) [.tmp 2] func68 Z Z (lb Z) Z λa f=> ?_
 unfold D.M0 at hd
 refine Af (Ac f Z λa f=>Az (Ab f Z λa f=>Dl underlying33 f Z Z h0 λa f=>Ac f Z λa f=>Aa (Ag (Af (Ab f Z λa f=>Bd hd λaa ab hd=>A1 f Z call54 (Wk.b m ab) λac w ad m a f=>have h0:=RPt.mono ptT _ _ _ _ ad h0;l_o f (Bc (f.e Z)) λa f=>Ab f Z λa f=>Bd hd λae af hd=> ?_)))))
 refine Bi 7 (λa w=>∃ag,GLe ac ag∧Mem W ag w (H)∧Fr a 80 [(0,v0),(3,(iv (x0.length:Int))),(12,(iv (x0.length:Int))),(13,(.bool aa)),(14,(.bool (!aa))),(15,(.bool (!aa))),(22,(.bool ae))]) ?_ ?_
 ·rcases Ae af with⟨ah,af⟩|⟨ah,af⟩
  ·refine Au f ah λa f=>Au f ah λa f=>Au f ah λa f=>Au f ah λa f=>Au f ah λa f=>Au f ah λa f=>l_o f (AD (f.e Z) ah (f.e Z)) λa f=> ?_
   obtain rfl:=sj af
   exact⟨_,gr,m,f.k Z⟩
  ·refine As f ah (Ab f Z λa f=>As f ah (Ab f Z λa f=>As f ah (Ah f Z Z AT λa f=>As f ah (Bd af λai aj af=>A1 f Z call92 (Wk.m m h0 aj) λak w al m a f=>have h0:=RPt.mono ptT _ _ _ _ al h0;As f ah (Ab f Z λa f=>As f ah (Ah f Z Z BN λa f=>l_o f (AC (f.e Z) ah (f.e Z)) λa f=> ?_))))))
   obtain rfl:=sj af
   exact⟨_,al,m,f.k Z⟩
 ·rintro a w ⟨ag,am,m,f⟩
  refine have h0:=RPt.mono ptT _ _ _ _ am h0;Aa ?_
  rcases Ae hd with⟨an,hd⟩|⟨an,hd⟩
  ·refine An f Z an (Af (Ac f Z λa f=>Aa (Aq ?_)))
   obtain rfl:=sj hd
   exact⟨[(.bool false)],f.g Z,f.d,_,[],(gt ad am),m,Z,Z⟩
  ·refine Ai f Z an (Ao (Af (Ac f Z λa f=>Aa (Ag (Af (Ac f Z λa f=>Aa (Bd hd λao ap hd=> ?_)))))))
   refine AH (λa w=>∃q_412':Int,ao= .inl q_412'∧∃aq:Int,aq=q_412'∧∃(ar:GH),GLe ag ar∧Fr a 80 [(0,v0),(3,(iv (x0.length:Int))),(4,iv aq)]∧Mem W ar w (H)) ?_ ?_
   ·refine Al (AE (λau a w=>∃av:Int,∃aw:Int,(av,aw)=au∧∃(ax:GH),GLe ag ax∧Fr a 80 [(0,v0),(3,(iv (x0.length:Int))),(4,iv av),(5,iv aw)]∧Mem W ax w (H)) ap ⟨_,_,Z,_,gr,f.k Z,m⟩ ?_)
    clear ap f m
    rintro au ay az aA a w ⟨av,aw,rfl,ax,aB,f,m⟩
    refine have h0:=RPt.mono ptT _ _ _ _ aB h0;Ag (Af (Ab f Z λa f=>Ab f Z λa f=>Ah f Z Z AJ λa f=>Aa ?_))
    rcases Ae az with⟨aC,az⟩|⟨aC,az⟩
    ·refine An f Z aC (Ao (Ag (Al (Ag (Af (Ab f Z λa f=>Ab f Z λa f=>Bd az λaD aE az=>Cz T33 f Z Z Z h0 aE λaF aG a aH aI f=>Ct (E:=P3S) (c:=(iv aD.1)) underlying42 Z sizeOf2 (by decide) f Z Z aH Z λaJ a aK f=>AL m Pl2 f Z Z aK λa f=>Ah f Z Z Bf λa f=>Aa (Bd az λaL aM az=> ?_)))))))
     refine AH (λa w=>∃aN:Int,aN=aL∧∃(aO:GH),GLe ax aO∧Fr a 80 [(0,v0),(3,(iv (x0.length:Int))),(4,iv aN),(5,iv aw)]∧Mem W aO w (H)) ?_ ?_
     ·rcases Ae aM with⟨aP,aM⟩|⟨aP,aM⟩
      ·refine An f Z aP (Ak (Ab f Z λa f=>Ah f Z Z Ax λa f=>Ac f Z λa f=>Aa ?_))
       obtain rfl:=sj aM
       exact⟨_,Z,_,gr,f.k Z,m⟩
      ·refine Ai f Z aP (Ao ?_)
       obtain rfl:=sj aM
       exact⟨_,Z,_,gr,f.k Z,m⟩
     ·rintro a w ⟨aN,rfl,aO,aQ,f,m⟩
      refine have h0:=RPt.mono ptT _ _ _ _ aQ h0;Af (Ac f Z λa f=>Az (Ac f Z λa f=>Aa (Bd az λaR aS az=> ?_)))
      refine AH (λa w=>∃q_709':Unit,aR= .inl q_709'∧∃(aT:GH),GLe aO aT∧Fr a 80 [(0,v0),(3,(iv (x0.length:Int))),(4,iv aN),(5,iv aw)]∧Mem W aT w (H)) ?_ ?_
      ·refine Al (AE (λaU a w=>∃aV:Int,∃aW:Int,(aV,aW)=aU∧∃(aX:GH),GLe aO aX∧Fr a 80 [(0,v0),(3,(iv (x0.length:Int))),(4,iv aN),(5,iv aw),(6,iv aV),(7,iv aW)]∧Mem W aX w (H)) aS ⟨_,_,Z,_,gr,f.k Z,m⟩ ?_)
       clear aS f m
       rintro aU aY aZ a0 a w ⟨aV,aW,rfl,aX,a1,f,m⟩
       refine have h0:=RPt.mono ptT _ _ _ _ a1 h0;Ag (Af (Ab f Z λa f=>Ab f Z λa f=>Ab f Z λa f=>Bd aZ λa2 a3 aZ=>Cz T33 f Z Z Z h0 a3 λa4 a5 a a6 a7 f=>Ct (E:=P3S) (c:=(hdV a5)) underlying42 Z sizeOf39 (by decide) f Z Z a6 Z λa8 a a9 f=>AL m Bu f Z Z a9 λa f=>AS underlying39 f Z Z a7 λa f=>Ah f Z Z AJ λa f=>Aa ?_))
       rcases Ae aZ with⟨ba,aZ⟩|⟨ba,aZ⟩
       ·refine An f Z ba (Ao (Ag (Al (Af (Ab f Z λa f=>Ab f Z λa f=>Ab f Z λa f=>Bd aZ λbb bc aZ=>Cz T33 f Z Z Z h0 bc λbd be a bf bg f=>Ct (E:=P3S) (c:=(hdV be)) underlying42 Z sizeOf39 (by decide) f Z Z bf Z λbh a bi f=>AL m Bu f Z Z bi λa f=>Ab f Z λa f=>Bd aZ λbj bk aZ=>Bt T39 f Z Z Z bg bk λbl bm a bn bo f=> ?_)))))
        subst bo
        refine AL m Pl2 f Z Z bn λa f=>Bd aZ λbp bq aZ=>AZ f Z call29 (Wk.f m h0 bq) λbr bs bt w bu m bv a f=> ?_
        obtain⟨bw,rfl,rfl,bx⟩:=bv
        refine have h0:=RPt.mono ptT _ _ _ _ bu h0;Bd aZ λbz bA aZ=>Bt T39 f Z Z Z bx bA λbB bC a bD bE f=> ?_
        subst bE
        refine AL m Pl2 f Z Z bD λa f=>Ac f Z λa f=>Aa (Ag (Af (Ab f Z λa f=>Ab f Z λa f=>Ah f Z Z CA λa f=>Aa ?_)))
        rcases Ae aZ with⟨bF,aZ⟩|⟨bF,aZ⟩
        ·refine An f Z bF (Af (Ac f Z λa f=>Aa (Aq ?_)))
         obtain rfl:=sj aZ
         obtain rfl:=a0 _ rfl
         obtain rfl:=sj az
         obtain rfl:=aA _ rfl
         obtain rfl:=sj hd
         exact⟨[(.bool false)],f.g Z,f.d,_,[],(gt ad (gt am (gt aB (gt aQ (gt a1 bu))))),m,Z,Z⟩
        ·refine Ai f Z bF (Ao (Ak (Ab f Z λa f=>Ac f Z λa f=>Aa (Ak (Ab f Z λa f=>Ah f Z Z Ax λa f=>Ac f Z λa f=>Aa ?_)))))
         obtain rfl:=sj aZ
         exact⟨_,Z,_,_,Z,_,(gt a1 bu),f.k Z,m⟩
       ·refine Ai f Z ba (AB Z ?_)
        obtain rfl:=sj aZ
        obtain rfl:=a0 _ rfl
        exact⟨_,Z,_,a1,f.k Z,m⟩
      ·rintro a w ⟨_,rfl,aT,bG,f,m⟩
       refine have h0:=RPt.mono ptT _ _ _ _ bG h0;Ak (Ab f Z λa f=>Ah f Z Z Ax λa f=>Ac f Z λa f=>Aa ?_)
       obtain rfl:=sj az
       exact⟨_,Z,_,_,Z,_,(gt aB (gt aQ bG)),f.k Z,m⟩
    ·refine Ai f Z aC (AB Z ?_)
     obtain rfl:=sj az
     obtain rfl:=aA _ rfl
     exact⟨_,Z,_,Z,_,aB,f.k Z,m⟩
   ·rintro a w ⟨_,rfl,aq,rfl,ar,bH,f,m⟩
    refine have h0:=RPt.mono ptT _ _ _ _ bH h0;Af (Ab f Z λa f=>Ab f Z λa f=>Ah f Z Z AT λa f=>Bd hd λbI bJ hd=>AZ f Z call29 (Wk.f m h0 bJ) λbK bL bM w bN m bO a f=> ?_)
    obtain⟨bP,rfl,rfl,bQ⟩:=bO
    refine have h0:=RPt.mono ptT _ _ _ _ bN h0;Ac f Z λa f=>Az (Ab f Z λa f=>AS underlying39 f Z Z bQ λa f=>Ab f Z λa f=>Ah f Z Z Bf λa f=>Ab f Z λa f=>Bd hd λbR bS hd=> ?_)
    refine Bi 9 (λa w=>∃bT,GLe bL bT∧Mem W bT w (H)∧Fr a 80 [(0,v0),(3,(iv (x0.length:Int))),(4,iv aq),(9,bP),(66,bP),(67,(iv (bI.length:Int))),(68,iv aq),(69,(.bool ((bI.length:Int)==aq))),(70,(.bool ((bI.length:Int)==aq))),(79,(.bool bR))]) ?_ ?_
    ·rcases Ae bS with⟨bU,bS⟩|⟨bU,bS⟩
     ·refine As f bU (Ab f Z λa f=>As f bU (Ab f Z λa f=>As f bU (Ah f Z Z AT λa f=>As f bU (Bd bS λbV bW bS=>Bt T39 f Z Z Z bQ bW λbX bY a bZ b0 f=> ?_))))
      subst b0
      refine As f bU (AL m Pl2 f Z Z bZ λa f=>As f bU (Ab f Z λa f=>As f bU (Ah f Z Z AT λa f=>As f bU (Ah f Z Z Bf λa f=>l_o f (AD (f.e Z) bU (f.e Z)) λa f=> ?_))))
      obtain rfl:=sj bS
      exact⟨_,gr,m,f.k Z⟩
     ·refine Au f bU λa f=>Au f bU λa f=>Au f bU λa f=>Au f bU λa f=>Au f bU λa f=>Au f bU λa f=>Au f bU λa f=>Au f bU λa f=>l_o f (AC (f.e Z) bU (f.e Z)) λa f=> ?_
      obtain rfl:=sj bS
      exact⟨_,gr,m,f.k Z⟩
    ·rintro a w ⟨bT,b1,m,f⟩
     refine have h0:=RPt.mono ptT _ _ _ _ b1 h0;Ac f Z λa f=>Aa (Aq ?_)
     obtain rfl:=sj hd
     exact⟨[(.bool bR)],f.g Z,f.d,_,[],(gt ad (gt am (gt bH (gt bN b1)))),m,Z,Z⟩
theorem Wk.d1 {aa v1:Value}{ab:LL}{x1:(List (Int×Int×LI))}(m:Mem W G w (H))(ac:R2 G aa ab)(h1:RPt G v1 x1){y:Bool}(hd:D.d1 ab x1=some y):
  Calls prog 27 #[(.agg #[aa]),v1] w (Res W G H (λ_ Ho v=>Ho=[]∧v=(.bool y))):=by
 refine Aw (args:=[(.agg #[aa]),v1]) (N:=23) [.tmp 4] func27 Z Z (lb Z) Z λa f=> ?_
 unfold D.d1 at hd
 refine Af (Bv (cs:=[aa]) m f Z Z Z λad w a m f=>Ac f Z λa f=>Aa (Ag (A8 19 AR (by kernel_rfl) m (By (i:=0) (ds:=[aa]) 19 0 AU Z Z Z Z (by kernel_rfl) Z f Z Z Z λa f=>Bd hd λae af hd=>BZ (i:=1) 19 Z (by kernel_rfl) Z f Z Z Z call32 (λ_ _ w ag m=>Wk.q m (rd2 ag ac) af) λa f=>Am 2 19 Z f Z λa f=>Bd hd λah ai hd=>BQ (fuel':=13) (listed':= #[true,true,true,true,true,true,false,false,false,false,false,false,false,false,false,false,false,false,false]) (λa=>Fr a 23 [(0,(.agg #[aa])),(1,v1),(2,pb ad),(5,(.agg #[aa])),(6,(.bool ae)),(7,(.bool ae)),(10,(.bool ah))]) ?_ ?_))))
 ·intro a f
  refine Am 6 19 Z f Z λa f=> ?_
  rcases Ae hd with⟨aj,hd⟩|⟨aj,hd⟩
  ·refine Am (hw:=wo f aj) 7 19 Z f Z λa f=>Am (hw:=wo f aj) 8 19 Z f Z λa f=>q_lenP (i:=9) (listed':= #[true,true,true,true,true,true,true,true,true,true,false,false,false,false,false,false,false,false,false]) 19 underlying33 h1 Z (by kernel_rfl) Z f (AV f Z Z Z aj) Z Z λa f=>q_p (hw:=wo f aj) 10 19 Z f (λ_=>AP (f.e Z) (f.e Z) AT) λa f=>Cd (hw:=wo f aj) 13 19 underlying29 Z sizeOf27 Z f Z λa f=>B3 (hw:=wo f aj) 14 19 0 BM Z Z Z f Z λa f=>DI (i:=15) 19 underlying27 ac Z (by kernel_rfl) Z f (AV f Z Z Z aj) Z Z λa f=>CK 11 Z λak w al m am am=>have h1:=RPt.mono ptT _ _ _ _ al h1;As f aj (Bd hd λan ao hd=>AZ f Z call29 (Wk.f m h1 ao) λap aq ar w au m av a f=> ?_)
   obtain⟨aw,rfl,rfl,ax⟩:=av
   refine have h1:=RPt.mono ptT _ _ _ _ au h1;Aa (am aq [] _ _ au m (DI (i:=12) 19 underlying39 ax Z (by kernel_rfl) Z f (AV f Z Z Z aj) Z Z λa f=>q_p (hw:=wo f aj) 16 19 Z f (λ_=>AP (f.e Z) (f.e Z) Bf) λa f=>q_p 17 19 Z f (λ_=>AD (f.e Z) aj (f.e Z)) λa f=>q_p 18 19 Z f (λ_=>Cy (f.e Z)) λa f=>A4 λay w az m=>have h1:=RPt.mono ptT _ _ _ _ az h1;Aa (Aq (have m:=m.dp 1;?_))))
   obtain rfl:=sj hd
   exact⟨[(.bool ((an.length:Int)==(ab.length:Int)))],f.g Z,f.d,_,[],(gt al (gt au az)),m,Z,Z⟩
  ·refine Ap 7 19 Z f aj λa f=>Ap 8 19 Z f aj λa f=>Ap 9 19 Z f aj λa f=>Ap 10 19 Z f aj λa f=>Ap 11 19 Z f aj λa f=>Ap 12 19 Z f aj λa f=>Ap 13 19 Z f aj λa f=>Ap 14 19 Z f aj λa f=>Ap 15 19 Z f aj λa f=>Ap 16 19 Z f aj λa f=>q_p 17 19 Z f (λ_=>AC (f.e Z) aj (f.e Z)) λa f=>q_p 18 19 Z f (λ_=>Cy (f.e Z)) λa f=>A4 λaA w aB m=>have h1:=RPt.mono ptT _ _ _ _ aB h1;Aa (Aq (have m:=m.dp 1;?_))
   obtain rfl:=sj hd
   exact⟨[(.bool false)],f.g Z,f.d,_,[],aB,m,Z,Z⟩
 ·intro aC
  rcases Ae ai with⟨aD,ai⟩|⟨aD,ai⟩
  ·refine Am (hw:=wo f aD) 3 19 Z f Z λa f=>Bd ai λaE aF ai=>BZ (i:=4) 19 Z (by kernel_rfl) Z f (AV f Z Z Z aD) Z Z call68 (λ_ _ w aG m=>Wk.M0 m (RPt.mono ptT _ _ _ _ aG h1) aF) λa f=>q_p 5 19 Z f (λ_=>AD (f.e Z) aD (f.e Z)) λa f=> ?_
   obtain rfl:=sj ai
   exact aC _ (f.k Z)
  ·refine Ap 3 19 Z f aD λa f=>Ap 4 19 Z f aD λa f=>q_p 5 19 Z f (λ_=>AC (f.e Z) aD (f.e Z)) λa f=> ?_
   obtain rfl:=sj ai
   exact aC _ (f.k Z)
theorem Wk.t {aa:Value}{ab:LL}(m:Mem W G w (H))(ac:R2 G aa ab){y:(LI)}(hd:D.t ab=some y):
  Calls prog 36 #[(.agg #[aa])] w (Res W G H (λG' Ho v=>∃r0:Value,∃i0:Itm,Ho=[i0]∧r0=v∧Ow R0 2 G' i0 r0 y)):=by
 refine Aw (args:=[(.agg #[aa])]) (N:=18) [.tmp 2] func36 Z Z (lb Z) Z λa f=> ?_
 unfold D.t at hd
 refine Af (Bv (cs:=[aa]) m f Z Z Z λad w a m f=>Ac f Z λa f=>Az (AX (R:=R0) (xs:=([]:LI)) (RI.one _) m T39 f Z Z Z (by decide) (All2.nil _) λae af w a m ag f=>Ac f Z λa f=>Aa (Ag (Af (Ac f Z λa f=>Aa (Bd hd λah ai hd=> ?_))))))
 refine AH (λa w=>∃aj:LI,aj=ah∧∃(ak:GH) (al:Value) (am:Itm),GLe G ak∧Fr a 18 [(3,al)]∧Mem W ak w (am::H)∧Ow R0 2 ak am al aj) ?_ ?_
 ·refine Al (have m:=m.fr 1;AE (λan a w=>∃ao:LI,∃ap:Int,(ao,ap)=an∧∃(aq:GH) (ar:Value) (au:Itm),GLe G aq∧Fr a 18 [(1,pb ad),(3,ar),(4,iv ap)]∧Mem W aq w (ib ad 29 [aa]::au::H)∧Ow R0 2 aq au ar ao) ai ⟨_,_,Z,_,af,ae,gr,f.k Z,m,ag⟩ ?_)
  clear ai f m
  rintro an av aw ax a w ⟨ao,ap,rfl,aq,ar,au,ay,f,m,az⟩
  refine have ac:=rd2 ay ac;Ag (Af (Ab f Z λa f=>Bn underlying29 Z sizeOf27 f Z λa f=>AI 0 0 m BM f Z Z Z Z λa f=>AS underlying27 f Z Z ac λa f=>Ah f Z Z AJ λa f=>Aa ?_))
  rcases Ae aw with⟨aA,aw⟩|⟨aA,aw⟩
  ·refine An f Z aA (Ao (Ag (Al (Ak (Ab f Z λa f=>Ab f Z λa f=>AX (R:=R0) (xs:=([ap]:LI)) (RI.one _) m T39 f Z Z Z (by decide) (All2.cons Z (All2.nil _)) λaB aC w a m aD f=>Bd aw λaE aF aw=>Be (RI.one _) 2 m az Z T39 Z (by decide) f Z Z Z (Ow.src (j:=0) aD m Z) aF λaG aH w a m aI f=>Ac f Z λa f=>Aa (Ak (Ab f Z λa f=>Ah f Z Z Ax λa f=>Ac f Z λa f=>Aa (have m:=m.fr 2;have m:=m.fr 2;have m:=m.eraseAt 2;?_))))))))
   obtain rfl:=sj aw
   exact⟨_,Z,_,_,Z,_,aH,aG,ay,f.k Z,m,aI⟩
  ·refine Ai f Z aA (AB Z (have m:=m.fr 1;have m:=m.eraseAt 1;?_))
   obtain rfl:=sj aw
   obtain rfl:=ax _ rfl
   exact⟨_,Z,_,ar,au,ay,f.k Z,m,az⟩
 ·rintro a w ⟨aj,rfl,ak,al,am,aJ,f,m,aK⟩
  refine Af (Ab f Z λa f=>Ac f Z λa f=>Aa (Aq ?_))
  obtain rfl:=sj hd
  exact⟨[al],f.g Z,f.d,_,[am],aJ,m,_,_,Z,Z,aK⟩
end Go.Proofs.YthdcaieaajekcaaGreatDoor

set_option maxRecDepth 100000
namespace Go.Proofs.YthdcaieaajekcaaGreatDoor
open Go Go.Sx
open Go.Proofs.Tryz Go.Proofs.YthdcaieaajekcaaGreatDoor.Tryz IntKind
variable {W w : World} {G : GH} {H : List Itm}
theorem Wk.s0 {aa v1:Value}{ab:LL}{x1:LI}{x2:Int}(m:Mem W G w (H))(ac:R2 G aa ab)(h1:R1 G v1 x1){y:Bool}(hd:D.s0 ab x1 x2=some y):
  Calls prog 75 #[(.agg #[aa]),v1,iv x2] w (Res W G H (λ_ Ho v=>Ho=[]∧v=(.bool y))):=by
 refine Aw (args:=[(.agg #[aa]),v1,iv x2]) (N:=35) [.tmp 6] func75 Z Z (lb Z) Z λa f=> ?_
 unfold D.s0 at hd
 refine Af (Bv (cs:=[aa]) m f Z Z Z λad w a m f=>Ac f Z λa f=>Az (Ac f Z λa f=>Aa (Ag (Af (Ac f Z λa f=>Aa (Bd hd λae af hd=> ?_))))))
 refine AH (λa w=>∃ag:Int,ag=ae∧∃(ah:GH),GLe G ah∧Fr a 35 [(1,v1),(7,iv ag)]∧Mem W ah w (H)) ?_ ?_
 ·refine Al (AE (λai a w=>∃aj:Int,∃ak:Int,(aj,ak)=ai∧∃(al:GH),GLe G al∧Fr a 35 [(1,v1),(2,iv x2),(3,pb ad),(7,iv aj),(8,iv ak)]∧Mem W al w (ib ad 29 [aa]::H)) af ⟨_,_,Z,_,gr,f.k Z,m⟩ ?_)
  clear af f m
  rintro ai am an ao a w ⟨aj,ak,rfl,al,ap,f,m⟩
  refine have h1:=rd1 ap h1;have ac:=rd2 ap ac;Ag (Af (Ab f Z λa f=>Ab f Z λa f=>AS underlying39 f Z Z h1 λa f=>Ah f Z Z AJ λa f=>Aa ?_))
  rcases Ae an with⟨aq,an⟩|⟨aq,an⟩
  ·refine An f Z aq (Ao (Ag (Al (Ag (A8 10 AR (by kernel_rfl) m (Cd 0 10 underlying29 Z sizeOf27 Z f Z λa f=>B3 1 10 0 BM Z Z Z f Z λa f=>Am 2 10 Z f Z λa f=>Bd an λar au an=>B1 3 10 T27 ac au Z f Z Z λav aw a ax ay f=>BR 4 10 Bu ax Z f Z λa f=>Am 5 10 Z f Z λa f=>Am 6 10 Z f Z λa f=>Bd an λaz aA an=>B1 7 10 T39 h1 aA Z f Z Z λaB aC a aD aE f=> ?_))))))
   subst aE
   refine BR 8 10 Pl2 aD Z f Z λa f=>Bd an λaF aG an=>BZ (i:=9) 10 Z (by kernel_rfl) Z f Z Z Z call74 (λ_ _ w aH m=>Wk.d m (rd1 aH ay) aG) λa f=>A4 λaI w aJ m=>Aa ?_
   rcases Ae an with⟨aK,an⟩|⟨aK,an⟩
   ·refine An f Z aK (Ak (Ab f Z λa f=>Ah f Z Z Ax λa f=>Ac f Z λa f=>Aa (Ak (Ab f Z λa f=>Ah f Z Z Ax λa f=>Ac f Z λa f=>Aa ?_))))
    obtain rfl:=sj an
    exact⟨_,Z,_,_,Z,_,(gt ap aJ),f.k Z,m⟩
   ·refine Ai f Z aK (Ao (Ak (Ab f Z λa f=>Ah f Z Z Ax λa f=>Ac f Z λa f=>Aa ?_)))
    obtain rfl:=sj an
    exact⟨_,Z,_,_,Z,_,(gt ap aJ),f.k Z,m⟩
  ·refine Ai f Z aq (AB Z (have m:=m.dp 1;?_))
   obtain rfl:=sj an
   obtain rfl:=ao _ rfl
   exact⟨_,Z,_,ap,f.k Z,m⟩
 ·rintro a w ⟨ag,rfl,ah,aL,f,m⟩
  refine have h1:=rd1 aL h1;Af (Ab f Z λa f=>Ah f Z Z BX λa f=>Ab f Z λa f=> ?_)
  refine Bi 5 (λa w=>∃aM,GLe ah aM∧Mem W aM w (H)∧Fr a 35 [(1,v1),(7,iv ag),(27,iv ag),(28,(.bool (decide ((0:Int)<ag)))),(29,(.bool (decide ((0:Int)<ag)))),(34,(.bool ((decide ((0:Int)<ag))&&(decide (ag<(x1.length:Int))))))]) ?_ ?_
  ·rcases Bool.eq_false_or_eq_true (decide ((0:Int)<ag)) with aN|aN
   ·exact As f aN (Ab f Z λa f=>As f aN (Ab f Z λa f=>As f aN (AS underlying39 f Z Z h1 λa f=>As f aN (Ah f Z Z AJ λa f=>l_o f (AD (f.e Z) aN (f.e Z)) λa f=>⟨_,gr,m,f.weak ⟨Z,Z,Z,Z,Z,by rw[aN];rfl,trivial⟩⟩))))
   ·exact Au f aN λa f=>Au f aN λa f=>Au f aN λa f=>Au f aN λa f=>l_o f (AC (f.e Z) aN (f.e Z)) λa f=>⟨_,gr,m,f.weak ⟨Z,Z,Z,Z,Z,by rw[aN];rfl,trivial⟩⟩
  ·rintro a w ⟨aM,aO,m,f⟩
   refine Ac f Z λa f=>Aa (Aq ?_)
   obtain rfl:=sj hd
   exact⟨[(.bool ((decide ((0:Int)<ag))&&(decide (ag<(x1.length:Int)))))],f.g Z,f.d,_,[],(gt aL aO),m,Z,Z⟩
theorem Wk.K {aa v1 v2:Value}{ab:LL}{x1 x2:LI}(m:Mem W G w (H))(ac:R2 G aa ab)(h1:R1 G v1 x1)(h2:R1 G v2 x2){y:Int}(hd:D.K ab x1 x2=some y):
  Calls prog 35 #[(.agg #[aa]),v1,v2] w (Res W G H (λ_ Ho v=>Ho=[]∧v=(iv y))):=by
 refine Aw (args:=[(.agg #[aa]),v1,v2]) (N:=34) [.tmp 6] func35 Z Z (lb Z) Z λa f=> ?_
 unfold D.K at hd
 refine Af (Bv (cs:=[aa]) m f Z Z Z λad w a m f=>Ac f Z λa f=>Aa (Ag (Af (Ac f Z λa f=>Aa (Bd hd λae af hd=> ?_)))))
 refine AH (λa w=>∃q_87':Unit,ae= .inl q_87'∧∃(ag:GH),GLe G ag∧Fr a 34 []∧Mem W ag w (H)) ?_ ?_
 ·refine Al (AE (λah a w=>∃ai:Int,ai=ah∧∃(aj:GH),GLe G aj∧Fr a 34 [(1,v1),(2,v2),(3,pb ad),(7,iv ai)]∧Mem W aj w (ib ad 29 [aa]::H)) af ⟨_,Z,_,gr,f.k Z,m⟩ ?_)
  clear af f m
  rintro ah ak al am a w ⟨ai,rfl,aj,an,f,m⟩
  refine have h1:=rd1 an h1;have h2:=rd1 an h2;have ac:=rd2 an ac;Ag (Af (Ab f Z λa f=>Ab f Z λa f=>AS underlying39 f Z Z h1 λa f=>Ah f Z Z AJ λa f=>Aa ?_))
  rcases Ae al with⟨ao,al⟩|⟨ao,al⟩
  ·refine An f Z ao (Ao (Ag (Al (Ag (A8 16 AR (by kernel_rfl) m (Am 0 16 Z f Z λa f=>Am 1 16 Z f Z λa f=>Am 2 16 Z f Z λa f=>Bd al λap aq al=>B1 3 16 T39 h1 aq Z f Z Z λar au a av aw f=> ?_))))))
   subst aw
   refine BR 4 16 Pl2 av Z f Z λa f=>Bd al λax ay al=>BZ (i:=5) 16 Z (by kernel_rfl) Z f Z Z Z call74 (λ_ _ w az m=>Wk.d m (rd1 az h2) ay) λa f=>q_p 6 16 Z f (λ_=>Bc (f.e Z)) λa f=>Am 7 16 Z f Z λa f=>Bd al λaA aB al=>BQ (fuel':=0) (listed':= #[true,true,true,true,true,true,true,true,true,true,true,true,true,true,true,true]) (λa=>Fr a 34 [(1,v1),(2,v2),(3,pb ad),(7,iv ai),(11,(.bool (decide (ai<(x1.length:Int))))),(14,v2),(15,v1),(16,iv ai),(17,ar),(18,iv ap),(19,(.bool ax)),(20,(.bool (!ax))),(21,(.bool (!ax))),(29,(.bool aA))]) ?_ ?_
   ·intro a f
    refine A4 λaC w aD m=>have h1:=rd1 aD h1;Aa ?_
    rcases Ae al with⟨aE,al⟩|⟨aE,al⟩
    ·refine An f Z aE (Af (Ab f Z λa f=>Ab f Z λa f=>Bd al λaF aG al=>Bt T39 f Z Z Z h1 aG λaH aI a aJ aK f=> ?_))
     subst aK
     refine AL m Pl2 f Z Z aJ λa f=>Ac f Z λa f=>Aa (Aq (have m:=m.dp 1;?_))
     obtain rfl:=sj al
     obtain rfl:=am _ rfl
     obtain rfl:=sj hd
     exact⟨[iv aF],f.g Z,f.d,_,[],(gt an aD),m,Z,Z⟩
    ·refine Ai f Z aE (Ao (Ak (Ab f Z λa f=>Ah f Z Z Ax λa f=>Ac f Z λa f=>Aa ?_)))
     obtain rfl:=sj al
     exact⟨_,Z,_,Z,_,(gt an aD),f.k Z,m⟩
   ·intro aL
    rcases Ae aB with⟨aM,aB⟩|⟨aM,aB⟩
    ·refine By (i:=8) (ds:=[aa]) 16 0 AU Z Z Z Z (by kernel_rfl) Z f (AV f Z Z Z aM) Z Z λa f=>Am (hw:=wo f aM) 9 16 Z f Z λa f=>Am (hw:=wo f aM) 10 16 Z f Z λa f=>Am (hw:=wo f aM) 11 16 Z f Z λa f=>Bd aB λaN aO aB=>B1 (hw:=wo f aM) 12 16 T39 h1 aO Z f Z Z λaP aQ a aR aS f=> ?_
     subst aS
     refine BR (hw:=wo f aM) 13 16 Pl2 aR Z f Z λa f=>Bd aB λaT aU aB=>BZ (i:=14) 16 Z (by kernel_rfl) Z f (AV f Z Z Z aM) Z Z call75 (λ_ _ w aV m=>Wk.s0 m (rd2 aV ac) (rd1 aV h2) aU) λa f=>q_p 15 16 Z f (λ_=>AD (f.e Z) aM (f.e Z)) λa f=> ?_
     obtain rfl:=sj aB
     exact aL _ (f.k Z)
    ·refine Ap 8 16 Z f aM λa f=>Ap 9 16 Z f aM λa f=>Ap 10 16 Z f aM λa f=>Ap 11 16 Z f aM λa f=>Ap 12 16 Z f aM λa f=>Ap 13 16 Z f aM λa f=>Ap 14 16 Z f aM λa f=>q_p 15 16 Z f (λ_=>AC (f.e Z) aM (f.e Z)) λa f=> ?_
     obtain rfl:=sj aB
     exact aL _ (f.k Z)
  ·refine Ai f Z ao (AB Z (have m:=m.dp 1;?_))
   obtain rfl:=sj al
   obtain rfl:=am _ rfl
   exact⟨_,Z,_,an,f.weak trivial,m⟩
 ·rintro a w ⟨_,rfl,ag,aW,f,m⟩
  refine Af (Ac f Z λa f=>Aa (Aq ?_))
  obtain rfl:=sj hd
  exact⟨[(iv (-1))],f.g Z,f.d,_,[],aW,m,Z,Z⟩
theorem Wk.d0 {aa v1:Value}{ab:LL}{x1:LI}(m:Mem W G w (H))(ac:R2 G aa ab)(h1:R1 G v1 x1){y:Bool}(hd:D.d0 ab x1=some y):
  Calls prog 28 #[(.agg #[aa]),v1] w (Res W G H (λ_ Ho v=>Ho=[]∧v=(.bool y))):=by
 refine Aw (args:=[(.agg #[aa]),v1]) (N:=25) [.tmp 4] func28 Z Z (lb Z) Z λa f=> ?_
 unfold D.d0 at hd
 refine Af (Bv (cs:=[aa]) m f Z Z Z λad w a m f=>Ac f Z λa f=>Aa (Ag (A8 21 AR (by kernel_rfl) m (By (i:=0) (ds:=[aa]) 21 0 AU Z Z Z Z (by kernel_rfl) Z f Z Z Z λa f=>Bd hd λae af hd=>BZ (i:=1) 21 Z (by kernel_rfl) Z f Z Z Z call32 (λ_ _ w ag m=>Wk.q m (rd2 ag ac) af) λa f=>Am 2 21 Z f Z λa f=>Bd hd λah ai hd=>BQ (fuel':=14) (listed':= #[true,true,true,true,true,true,true,false,false,false,false,false,false,false,false,false,false,false,false,false,false]) (λa=>Fr a 25 [(0,(.agg #[aa])),(1,v1),(2,pb ad),(5,(.agg #[aa])),(6,(.bool ae)),(7,(.bool ae)),(11,(.bool ah))]) ?_ ?_))))
 ·intro a f
  refine Am 7 21 Z f Z λa f=>BQ (fuel':=9) (listed':= #[true,true,true,true,true,true,true,true,true,true,true,true,false,false,false,false,false,false,false,false,false]) (λa=>Fr a 25 [(0,(.agg #[aa])),(1,v1),(2,pb ad),(5,(.agg #[aa])),(6,(.bool ae)),(7,(.bool ae)),(11,(.bool ah)),(12,(.bool ah)),(16,(.bool (ah&&(decide ((0:Int)<(x1.length:Int))))))]) ?_ ?_
  ·intro a f
   refine Am 12 21 Z f Z λa f=> ?_
   rcases Ae hd with⟨aj,hd⟩|⟨aj,hd⟩
   ·refine By (i:=13) (ds:=[aa]) 21 0 AU Z Z Z Z (by kernel_rfl) Z f (AV f Z Z Z aj) Z Z λa f=>By (i:=14) (ds:=[aa]) 21 0 AU Z Z Z Z (by kernel_rfl) Z f (AV f Z Z Z aj) Z Z λa f=>Am (hw:=wo f aj) 16 21 Z f Z λa f=>CK 15 Z λak w al m am am=>have ac:=rd2 al ac;have h1:=rd1 al h1;As f aj (Bd hd λan ao hd=>BS f Z call36 (Wk.t m ac ao) λap aq ar w au m av a f=>have ac:=rd2 au ac;have h1:=rd1 au h1;Aa (am ar [aq] _ _ au m (CK 17 Z λaw w ax m ay ay=>have ac:=rd2 ax ac;have h1:=rd1 ax h1;have av:=od1 ax av;As f aj (Bd hd λaz aA hd=>AZ f Z call35 (Ow.lendCall (RI.mono _) 0 av m Z (λaB aC m aD=>Wk.K m (rd2 aC ac) aD (rd1 aC h1) aA) (λ_ _ _ _ h=>h)) λaE aF aG w aH m aI a f=> ?_))))
    obtain⟨rfl,rfl⟩:=aI
    refine Aa (ay aF [aq] _ _ aH m (q_p (hw:=wo f aj) 18 21 Z f (λ_=>AP (f.e Z) (f.e Z) AJ) λa f=>q_p 19 21 Z f (λ_=>AD (f.e Z) aj (f.e Z)) λa f=>q_p 20 21 Z f (λ_=>Cy (f.e Z)) λa f=>A4 λaJ w aK m=>Aa (Aq (have m:=m.dp 2;?_))))
    obtain rfl:=sj hd
    exact⟨[(.bool (decide (az<0)))],f.g Z,f.d,_,[],(gt al (gt au (gt ax (gt aH aK)))),m,Z,Z⟩
   ·refine Ap 13 21 Z f aj λa f=>Ap 14 21 Z f aj λa f=>Ap 15 21 Z f aj λa f=>Ap 16 21 Z f aj λa f=>Ap 17 21 Z f aj λa f=>Ap 18 21 Z f aj λa f=>q_p 19 21 Z f (λ_=>AC (f.e Z) aj (f.e Z)) λa f=>q_p 20 21 Z f (λ_=>Cy (f.e Z)) λa f=>A4 λaL w aM m=>Aa (Aq (have m:=m.dp 1;?_))
    obtain rfl:=sj hd
    exact⟨[(.bool false)],f.g Z,f.d,_,[],aM,m,Z,Z⟩
  ·intro aN
   rcases Bool.eq_false_or_eq_true ah with aO|aO
   ·exact Am (hw:=wo f aO) 8 21 Z f Z λa f=>DI (i:=9) 21 underlying39 h1 Z (by kernel_rfl) Z f (AV f Z Z Z aO) Z Z λa f=>q_p (hw:=wo f aO) 10 21 Z f (λ_=>AP (f.e Z) (f.e Z) BX) λa f=>q_p 11 21 Z f (λ_=>AD (f.e Z) aO (f.e Z)) λa f=>aN _ (f.weak ⟨Z,Z,Z,Z,Z,Z,Z,Z,by rw[aO];rfl,trivial⟩)
   ·exact Ap 8 21 Z f aO λa f=>Ap 9 21 Z f aO λa f=>Ap 10 21 Z f aO λa f=>q_p 11 21 Z f (λ_=>AC (f.e Z) aO (f.e Z)) λa f=>aN _ (f.weak ⟨Z,Z,Z,Z,Z,Z,Z,Z,by rw[aO];rfl,trivial⟩)
 ·intro aP
  rcases Ae ai with⟨aQ,ai⟩|⟨aQ,ai⟩
  ·refine By (i:=3) (ds:=[aa]) 21 0 AU Z Z Z Z (by kernel_rfl) Z f (AV f Z Z Z aQ) Z Z λa f=>Am (hw:=wo f aQ) 4 21 Z f Z λa f=>Bd ai λaR aS ai=>BZ (i:=5) 21 Z (by kernel_rfl) Z f (AV f Z Z Z aQ) Z Z call58 (λ_ _ w aT m=>Wk.N m (rd2 aT ac) (rd1 aT h1) aS) λa f=>q_p 6 21 Z f (λ_=>AD (f.e Z) aQ (f.e Z)) λa f=> ?_
   obtain rfl:=sj ai
   exact aP _ (f.k Z)
  ·refine Ap 3 21 Z f aQ λa f=>Ap 4 21 Z f aQ λa f=>Ap 5 21 Z f aQ λa f=>q_p 6 21 Z f (λ_=>AC (f.e Z) aQ (f.e Z)) λa f=> ?_
   obtain rfl:=sj ai
   exact aP _ (f.k Z)
theorem Wk.X0 {aa:Value}{ab:LL}{x1 x2:Int}(m:Mem W G w (H))(ac:R2 G aa ab){y:Bool}(hd:D.X0 ab x1 x2=some y):
  Calls prog 111 #[(.agg #[aa]),iv x1,iv x2] w (Res W G H (λ_ Ho v=>Ho=[]∧v=(.bool y))):=by
 refine Aw (args:=[(.agg #[aa]),iv x1,iv x2]) (N:=14) [.tmp 6] func111 Z Z (lb Z) Z λa f=> ?_
 unfold D.X0 at hd
 refine Af (Bv (cs:=[aa]) m f Z Z Z λad w a m f=>Ac f Z λa f=>Az (Bn underlying29 Z sizeOf27 f Z λa f=>AI 0 0 m BM f Z Z Z Z λa f=>Ab f Z λa f=>Bd hd λae af hd=>Bt T27 f Z Z Z ac af λag ah a ai aj f=>AL m Bu f Z Z ai λa f=>Ab f Z λa f=>Bd hd λak al hd=>A1 f Z call74 (Wk.d m aj al) λam w an m a f=>Ac f Z λa f=>Aa (Aq (have m:=m.dp 1;?_))))
 obtain rfl:=sj hd
 exact⟨[(.bool ak)],f.g Z,f.d,_,[],an,m,Z,Z⟩
theorem Wk.w0 {aa v1:Value}{ab:LL}{x1:LI}(m:Mem W G w (H))(ac:R2 G aa ab)(h1:R1 G v1 x1){y:(LL)}(hd:D.w0 ab x1=some y):
  Calls prog 98 #[(.agg #[aa]),v1] w (Res W G H (λG' Ho v=>∃r0:Value,∃i0:Itm,Ho=[i0]∧v=(.agg #[r0])∧Ow R1 39 G' i0 r0 y)):=by
 refine Aw (args:=[(.agg #[aa]),v1]) (N:=37) [.cell 4 29] func98 Z Z (lb Z) Z λa f=> ?_
 unfold D.w0 at hd
 refine Af (Bv (cs:=[aa]) m f Z Z Z λad w a m f=>Bj (cs:=[sn]) zeroValue29 m f Z Z λae w a m f=>Az (Ab f Z λa f=>AS underlying39 f Z Z h1 λa f=>Bd hd λaf ag hd=>AZ f Z call55 (Wk.k0 m ag) λah ai aj w ak m al a f=> ?_))
 obtain⟨am,an,rfl,rfl,ao⟩:=al
 refine have ac:=rd2 ak ac;have h1:=rd1 ak h1;Bj (cs:=[sn]) zeroValue29 m f Z Z λap w a m f=>AA 0 0 (ds:=[am]) m sizeOf29 f Z Z Z (Ay (Ow.one1 1 m ao Z) AQ) Z (lb Z) Z λw m=>Aa (Ag (Af (Ac f Z λa f=>Aa (Bd hd λaq ar hd=> ?_))))
 refine AH (λa w=>∃au:LL,au=aq∧∃(av:GH) (aw:Itm),GLe ai av∧Fr a 37 [(4,pb ae),(5,pb ap)]∧Mem W av w (ib ae 29 [sn]::ib ap 29 [am]::aw::H)∧Ow R1 39 av aw am au) ?_ ?_
 ·refine Al (have m:=m.fr 2;have m:=m.fr 3;AE (λax a w=>∃ay:Int,∃az:LL,(ay,az)=ax∧∃(aA:GH) (aB:Itm),GLe ai aA∧Fr a 37 [(1,v1),(2,pb ad),(4,pb ae),(5,pb ap),(6,iv ay)]∧Mem W aA w (ib ad 29 [aa]::ib ae 29 [sn]::ib ap 29 [am]::aB::H)∧Ow R1 39 aA aB am az) ar ⟨_,_,Z,_,an,gr,f.k Z,m,ao⟩ ?_)
  clear ar f m
  rintro ax aC aD aE a w ⟨ay,az,rfl,aA,aB,aF,f,m,aG⟩
  refine have h1:=rd1 aF h1;have ac:=rd2 aF ac;Ag (Af (Ab f Z λa f=>Ab f Z λa f=>AS underlying39 f Z Z h1 λa f=>Ah f Z Z AJ λa f=>Aa ?_))
  rcases Ae aD with⟨aH,aD⟩|⟨aH,aD⟩
  ·refine An f Z aH (Ao (Ag (Al (Af (Ac f Z λa f=>Aa (Bd aD λaI aJ aD=> ?_))))))
   refine AH (λa w=>∃aK:LL,aK=aI∧∃(aL:GH) (aM:Itm),GLe aA aL∧Fr a 37 [(1,v1),(2,pb ad),(4,pb ae),(5,pb ap),(6,iv ay)]∧Mem W aL w (ib ad 29 [aa]::ib ae 29 [sn]::ib ap 29 [am]::aM::H)∧Ow R1 39 aL aM am aK) ?_ ?_
   ·refine Al (AE (λaN a w=>∃aO:Int,∃aP:LL,(aO,aP)=aN∧∃(aQ:GH) (aR:Itm),GLe aA aQ∧Fr a 37 [(1,v1),(2,pb ad),(4,pb ae),(5,pb ap),(6,iv ay),(7,iv aO)]∧Mem W aQ w (ib ad 29 [aa]::ib ae 29 [sn]::ib ap 29 [am]::aR::H)∧Ow R1 39 aQ aR am aP) aJ ⟨_,_,Z,_,aB,gr,f.k Z,m,aG⟩ ?_)
    clear aJ f m
    rintro aN aS aT aU a w ⟨aO,aP,rfl,aQ,aR,aV,f,m,aW⟩
    refine have h1:=rd1 aV h1;have ac:=rd2 aV ac;Ag (Af (Ab f Z λa f=>Ab f Z λa f=>Ah f Z Z AJ λa f=>Aa ?_))
    rcases Ae aT with⟨aX,aT⟩|⟨aX,aT⟩
    ·refine An f Z aX (Ao (Ag (Al (Ag (A8 10 AR (by kernel_rfl) m (By (i:=0) (ds:=[aa]) 10 0 AU Z Z Z Z (by kernel_rfl) Z f Z Z Z λa f=>Am 1 10 Z f Z λa f=>Am 2 10 Z f Z λa f=>Bd aT λaY aZ aT=>B1 3 10 T39 h1 aZ Z f Z Z λa0 a1 a a2 a3 f=> ?_))))))
     subst a3
     refine BR 4 10 Pl2 a2 Z f Z λa f=>Am 5 10 Z f Z λa f=>Am 6 10 Z f Z λa f=>Bd aT λa4 a5 aT=>B1 7 10 T39 h1 a5 Z f Z Z λa6 a7 a a8 a9 f=> ?_
     subst a9
     refine BR 8 10 Pl2 a8 Z f Z λa f=>Bd aT λba bb aT=>BZ (i:=9) 10 Z (by kernel_rfl) Z f Z Z Z call111 (λ_ _ w bc m=>Wk.X0 m (rd2 bc ac) bb) λa f=>A4 λbd w be m=>have aW:=od3 be aW;Aa ?_
     rcases Ae aT with⟨bf,aT⟩|⟨bf,aT⟩
     ·refine An f Z bf (Ak (AN 2 0 (ds:=[am]) m AU f Z Z Z Z Z λa f=>Ab f Z λa f=>Ab f Z λa f=>have m:=m.fr 3;Bd aT λbg bh aT=>AZ f Z call57 (Wk.F m aW bh) λbi bj bk w bl m bm a f=> ?_))
      obtain⟨bn,rfl,rfl,bo⟩:=bm
      refine AA 3 0 (ds:=[am]) m sizeOf29 f Z Z Z (Ay (Ow.one1 0 m bo Z) AQ) Z (lb Z) Z λw m=>Aa (Ak (Ab f Z λa f=>Ah f Z Z Ax λa f=>Ac f Z λa f=>Aa (have m:=m.fr 3;have m:=m.fr 3;have m:=m.fr 3;?_)))
      obtain rfl:=sj aT
      exact⟨_,Z,_,_,Z,_,bn,(gt aV (gt be bl)),f.k Z,m,bo⟩
     ·refine Ai f Z bf (Ao (Ak (Ab f Z λa f=>Ah f Z Z Ax λa f=>Ac f Z λa f=>Aa ?_)))
      obtain rfl:=sj aT
      exact⟨_,Z,_,_,Z,_,aR,(gt aV be),f.k Z,m,aW⟩
    ·refine Ai f Z aX (AB Z ?_)
     obtain rfl:=sj aT
     obtain rfl:=aU _ rfl
     exact⟨_,Z,_,aR,aV,f.k Z,m,aW⟩
   ·rintro a w ⟨aK,rfl,aL,aM,bp,f,m,bq⟩
    refine Ak (Ab f Z λa f=>Ah f Z Z Ax λa f=>Ac f Z λa f=>Aa ?_)
    obtain rfl:=sj aD
    exact⟨_,Z,_,_,Z,_,aM,(gt aF bp),f.k Z,m,bq⟩
  ·refine Ai f Z aH (AB Z (have m:=m.fr 3;have m:=m.fr 3;have m:=m.fr 3;have m:=m.eraseAt 3;?_))
   obtain rfl:=sj aD
   obtain rfl:=aE _ rfl
   exact⟨_,Z,_,aB,aF,f.k Z,m,aG⟩
 ·rintro a w ⟨au,rfl,av,aw,br,f,m,bs⟩
  refine Af (AN 1 0 (ds:=[am]) m AU f Z Z Z Z Z λa f=>AA 0 0 (ds:=[am]) m sizeOf29 f Z Z Z (Ay (Ow.one1 2 m bs Z) AQ) Z (lb Z) Z λw m=>Aa (Aq (have bt:=B8 (P:=prog) 0 m AU f (s:=4) rfl rfl rfl;have m:=m.fr 2;have m:=m.eraseAt 2;have m:=m.eraseAt 1;?_)))
  obtain rfl:=sj hd
  exact⟨[(.agg #[am])],⟨bt,trivial⟩,f.d,_,[aw],(gt ak br),m,_,_,Z,Z,bs⟩
theorem Wk.s1 {aa v1:Value}{ab:LL}{x1:LI}(m:Mem W G w (H))(ac:R2 G aa ab)(h1:R1 G v1 x1){y:(LL)×Bool}(hd:D.s1 ab x1=some y):
  Calls prog 93 #[(.agg #[aa]),v1] w (Res W G H (λG' Ho v=>∃r0:Value,∃i0:Itm,Ho=[i0]∧v= .tuple #[(.agg #[r0]),(.bool y.2)]∧Ow R1 39 G' i0 r0 y.1)):=by
 refine Aw (args:=[(.agg #[aa]),v1]) (N:=19) [.cell 4 29,.tmp 5] func93 Z Z (lb Z) Z λa f=> ?_
 unfold D.s1 at hd
 refine Af (Bv (cs:=[aa]) m f Z Z Z λad w a m f=>Bj (cs:=[sn]) zeroValue29 m f Z Z λae w a m f=>Ac f Z λa f=>Aa (Ag (Af (AN 1 0 (ds:=[aa]) m AU f Z Z Z Z Z λa f=>Ab f Z λa f=>Bd hd λaf ag hd=>A1 f Z call58 (Wk.N m ac h1 ag) λah w ai m a f=>have ac:=rd2 ai ac;have h1:=rd1 ai h1;l_o f (Bc (f.e Z)) λa f=>Ab f Z λa f=> ?_))))
 refine Bi 4 (λa w=>∃aj,GLe ah aj∧Mem W aj w (ib ae 29 [sn]::ib ad 29 [aa]::H)∧Fr a 19 [(0,(.agg #[aa])),(1,v1),(2,pb ad),(4,pb ae),(6,(.agg #[aa])),(7,v1),(8,(.bool af)),(9,(.bool (!af))),(10,(.bool (!af))),(14,(.bool ((!af)||((x1.length:Int)==0))))]) ?_ ?_
 ·rcases Bool.eq_false_or_eq_true (!af) with ak|ak
  ·exact Au f ak λa f=>Au f ak λa f=>Au f ak λa f=>l_o f (AD (f.e Z) ak (f.e Z)) λa f=>⟨_,gr,m,f.weak ⟨Z,Z,Z,Z,Z,Z,Z,Z,Z,by rw[ak];rfl,trivial⟩⟩
  ·exact As f ak (Ab f Z λa f=>As f ak (AS underlying39 f Z Z h1 λa f=>As f ak (Ah f Z Z Bf λa f=>l_o f (AC (f.e Z) ak (f.e Z)) λa f=>⟨_,gr,m,f.weak ⟨Z,Z,Z,Z,Z,Z,Z,Z,Z,by rw[ak];rfl,trivial⟩⟩)))
 ·rintro a w ⟨aj,al,m,f⟩
  refine have ac:=rd2 al ac;have h1:=rd1 al h1;Aa ?_
  rcases Ae hd with⟨am,hd⟩|⟨am,hd⟩
  ·refine An f Z am (Af ?_)
   have an:∀w,(Instr.build 29 #[]).run prog w= .ok (.agg #[sn]) w:=by intro w;simp[Instr.build,Instr.fill,B6,BT,BB,BO,Bx,B5,BV]
   refine Cr f Z Z an λa f=>AA 0 0 (ds:=[sn]) m sizeOf29 f Z Z Z (Ay Z AQ) Z (lb Z) Z λw m=>Ac f Z λa f=>Aa (Aq ?_)
   obtain⟨ao,m,ap⟩:=Ow.nil R1 39 m
   refine have aq:=B8 (P:=prog) 1 m AU f (s:=4) rfl rfl rfl;have m:=m.eraseAt 2;have m:=m.eraseAt 1;?_
   obtain rfl:=sj hd
   exact⟨[(.agg #[sn]),(.bool false)],⟨aq,f.get _ _ Z,trivial⟩,f.d,_,[ao],(gt ai al),m,_,_,Z,Z,ap⟩
  ·refine Ai f Z am (Ao (Af (AN 1 0 (ds:=[aa]) m AU f Z Z Z Z Z λa f=>Ab f Z λa f=>Bd hd λar au hd=>AZ f Z call98 (Wk.w0 m ac h1 au) λav aw ax w ay m az a f=> ?_)))
   obtain⟨aA,aB,rfl,rfl,aC⟩:=az
   refine AA 1 0 (ds:=[aA]) m sizeOf29 f Z Z Z (Ay (Ow.one1 0 m aC Z) AQ) Z (lb Z) Z λw m=>Ac f Z λa f=>Aa (Aq (have aD:=B8 (P:=prog) 1 m AU f (s:=4) rfl rfl rfl;have m:=m.eraseAt 2;have m:=m.eraseAt 1;?_))
   obtain rfl:=sj hd
   exact⟨[(.agg #[aA]),(.bool true)],⟨aD,f.get _ _ Z,trivial⟩,f.d,_,[aB],(gt ai (gt al ay)),m,_,_,Z,Z,aC⟩
theorem Wk.T0 {aa v1:Value}{ab:LL}{x1:(List (Int×Int×LI))}{x2:Int}(m:Mem W G w (H))(ac:R2 G aa ab)(h1:RPt G v1 x1){y:(LL)}(hd:D.T0 ab x1 x2=some y):
  Calls prog 70 #[(.agg #[aa]),v1,iv x2] w (Res W G H (λG' Ho v=>∃r0:Value,∃i0:Itm,Ho=[i0]∧v=(.agg #[r0])∧Ow R1 39 G' i0 r0 y)):=by
 refine Aw (args:=[(.agg #[aa]),v1,iv x2]) (N:=44) [.cell 6 29] func70 Z Z (lb Z) Z λa f=> ?_
 unfold D.T0 at hd
 refine Af (Bv (cs:=[aa]) m f Z Z Z λad w a m f=>Bj (cs:=[sn]) zeroValue29 m f Z Z λae w a m f=>Az (AX (R:=R0) (xs:=([]:LI)) (RI.one _) m T39 f Z Z Z (by decide) (All2.nil _) λaf ag w a m ah f=>Ac f Z λa f=>Aa (Ag (Af (Ac f Z λa f=>Aa (Bd hd λai aj hd=> ?_))))))
 refine AH (λa w=>∃ak:LI,ak=ai∧∃(al:GH) (am:Value) (an:Itm),GLe G al∧Fr a 44 [(3,pb ad),(6,pb ae),(7,am)]∧Mem W al w (ib ad 29 [aa]::ib ae 29 [sn]::an::H)∧Ow R0 2 al an am ak) ?_ ?_
 ·refine Al (have m:=m.fr 1;have m:=m.fr 2;AE (λao a w=>∃ap:LI,∃aq:Int,(ap,aq)=ao∧∃(ar:GH) (au:Value) (av:Itm),GLe G ar∧Fr a 44 [(1,v1),(2,iv x2),(3,pb ad),(6,pb ae),(7,au),(8,iv aq)]∧Mem W ar w (ib ad 29 [aa]::ib ae 29 [sn]::av::H)∧Ow R0 2 ar av au ap) aj ⟨_,_,Z,_,ag,af,gr,f.k Z,m,ah⟩ ?_)
  clear aj f m
  rintro ao aw ax ay a w ⟨ap,aq,rfl,ar,au,av,az,f,m,aA⟩
  refine have h1:=RPt.mono ptT _ _ _ _ az h1;Ag (Af (Ab f Z λa f=>Ab f Z λa f=>Ab f Z λa f=>Bd ax λaB aC ax=>Cz T33 f Z Z Z h1 aC λaD aE a aF aG f=>Ct (E:=P3S) (c:=(hdV aE)) underlying42 Z sizeOf39 (by decide) f Z Z aF Z λaH a aI f=>AL m Bu f Z Z aI λa f=>AS underlying39 f Z Z aG λa f=>Ah f Z Z AJ λa f=>Aa ?_))
  rcases Ae ax with⟨aJ,ax⟩|⟨aJ,ax⟩
  ·refine An f Z aJ (Ao (Ag (Al (Ak (Ab f Z λa f=>Ab f Z λa f=>Ab f Z λa f=>Ab f Z λa f=>Bd ax λaK aL ax=>Cz T33 f Z Z Z h1 aL λaM aN a aO aP f=>Ct (E:=P3S) (c:=(hdV aN)) underlying42 Z sizeOf39 (by decide) f Z Z aO Z λaQ a aR f=>AL m Bu f Z Z aR λa f=>Ab f Z λa f=>Bd ax λaS aT ax=>Bt T39 f Z Z Z aP aT λaU aV a aW aX f=> ?_)))))
   subst aX
   refine AL m Pl2 f Z Z aW λa f=>Bd ax λaY aZ ax=>AZ f Z call29 (Wk.f m h1 aZ) λa0 a1 a2 w a3 m a4 a f=> ?_
   obtain⟨a5,rfl,rfl,a6⟩:=a4
   refine have h1:=RPt.mono ptT _ _ _ _ a3 h1;have aA:=od1 a3 aA;Bd ax λa7 a8 ax=>Bt T39 f Z Z Z a6 a8 λa9 ba a bb bc f=> ?_
   subst bc
   refine AL m Pl2 f Z Z bb λa f=>AX (R:=R0) (xs:=([a7]:LI)) (RI.one _) m T39 f Z Z Z (by decide) (All2.cons Z (All2.nil _)) λbd be w a m bf f=>Bd ax λbg bh ax=>Be (RI.one _) 3 m aA Z T39 Z (by decide) f Z Z Z (Ow.src (j:=0) bf m Z) bh λbi bj w a m bk f=>Ac f Z λa f=>Aa (Ak (Ab f Z λa f=>Ah f Z Z Ax λa f=>Ac f Z λa f=>Aa (have m:=m.fr 3;have m:=m.fr 3;have m:=m.fr 3;have m:=m.eraseAt 3;?_)))
   obtain rfl:=sj ax
   exact⟨_,Z,_,_,Z,_,bj,bi,(gt az a3),f.k Z,m,bk⟩
  ·refine Ai f Z aJ (AB Z ?_)
   obtain rfl:=sj ax
   obtain rfl:=ay _ rfl
   exact⟨_,Z,_,au,av,az,f.k Z,m,aA⟩
 ·rintro a w ⟨ak,rfl,al,am,an,bl,f,m,bm⟩
  refine have ac:=rd2 bl ac;Af (AN 0 0 (ds:=[aa]) m AU f Z Z Z Z Z λa f=>Ab f Z λa f=>have m:=m.fr 2;?_)
  obtain⟨bn,bo,m,bp⟩:=Ow.stamp (RI.mono _) bm m
  refine have ac:=rd2 bo ac;Bd hd λbq br hd=>AZ f Z call93 (Wk.s1 m ac bp br) λbs bt bu w bv m bw a f=> ?_
  obtain⟨bx,bz,rfl,rfl,bA⟩:=bw
  refine Ab f Z λa f=>l_o f (A2 (f.e Z) Z) λa f=>l_o f (A2 (f.e Z) Z) λa f=>Bj (cs:=[sn]) zeroValue29 m f Z Z λbB w a m f=>AA 0 0 (ds:=[bx]) m sizeOf29 f Z Z Z (Ay (Ow.one1 1 m bA Z) AQ) Z (lb Z) Z λw m=>Ac f Z λa f=>Az (AN 0 0 (ds:=[bx]) m AU f Z Z Z Z Z λa f=>AA 3 0 (ds:=[bx]) m sizeOf29 f Z Z Z (Ay (Ow.one1 1 m bA Z) AQ) Z (lb Z) Z λw m=>Aa (Aq (have bC:=B8 (P:=prog) 3 m AU f (s:=6) rfl rfl rfl;have m:=m.fr 1;have m:=m.eraseAt 3;have m:=m.eraseAt 2;have m:=m.eraseAt 1;?_)))
  obtain rfl:=sj hd
  exact⟨[(.agg #[bx])],⟨bC,trivial⟩,f.d,_,[bz],(gt bl (gt bo bv)),m,_,_,Z,Z,bA⟩
theorem Wk.x0 {aa v1 v2:Value}{ab:LL}{x1 x2:LI}(m:Mem W G w (H))(ac:R2 G aa ab)(h1:R1 G v1 x1)(h2:R1 G v2 x2){y:(LI)}(hd:D.x0 ab x1 x2=some y):
  Calls prog 52 #[(.agg #[aa]),v1,v2] w (Res W G H (λG' Ho v=>∃r0:Value,Ho=[]∧r0=v∧R1 G' r0 y)):=by
 refine Aw (args:=[(.agg #[aa]),v1,v2]) (N:=21) [.tmp 6] func52 Z Z (lb Z) Z λa f=> ?_
 unfold D.x0 at hd
 refine Af (Bv (cs:=[aa]) m f Z Z Z λad w a m f=>Ac f Z λa f=>Az (Ab f Z λa f=>Bd hd λae af hd=>BS f Z call87 (Wk.h m h2 af) λag ah ai w aj m ak a f=>have ac:=rd2 aj ac;have h1:=rd1 aj h1;Ac f Z λa f=>Aa ?_))
 obtain⟨al,am,m,an⟩:=Ow.stamp (RI.mono _) ak m
 refine have ac:=rd2 am ac;have h1:=rd1 am h1;Bd hd λao ap hd=>Al (AE (λaq a w=>∃ar:LI,ar=aq∧∃(au:GH) (av:Value),GLe al au∧Fr a 21 [(1,v1),(3,pb ad),(7,av)]∧Mem W au w (ib ad 29 [aa]::H)∧R1 au av ar) ap ⟨_,Z,_,ag,gr,f.k Z,m,an⟩ ?_)
 clear ap f m
 rintro aq aw ax ay a w ⟨ar,rfl,au,av,az,f,m,aA⟩
 refine have h1:=rd1 az h1;have ac:=rd2 az ac;Al (Af (AN 0 0 (ds:=[aa]) m AU f Z Z Z Z Z λa f=>Ab f Z λa f=>Ab f Z λa f=>Bd ax λaB aC ax=>A1 f Z call35 (Wk.K m ac h1 aA aC) λaD w aE m a f=>have aA:=rd1 aE aA;Ac f Z λa f=>Aa (Ag (Af (Ab f Z λa f=>Ah f Z Z AJ λa f=>Aa ?_)))))
 rcases Ae ax with⟨aF,ax⟩|⟨aF,ax⟩
 ·refine An f Z aF (Af (Ab f Z λa f=>Ac f Z λa f=>Aa (Aq (have m:=m.dp 1;?_))))
  obtain rfl:=sj ax
  obtain rfl:=ay _ rfl
  obtain rfl:=sj hd
  exact⟨[av],f.g Z,f.d,_,[],(gt aj (gt am (gt az aE))),m,_,Z,Z,aA⟩
 ·refine Ai f Z aF (Ao (Ak (Ab f Z λa f=>Ab f Z λa f=>Bd ax λaG aH ax=>AZ f Z call69 (Wk.g m aA aH) λaI aJ aK w aL m aM a f=> ?_)))
  obtain⟨aN,rfl,rfl,aO⟩:=aM
  refine Ac f Z λa f=>Aa ?_
  obtain rfl:=sj ax
  exact⟨_,Z,_,Z,_,aN,(gt az (gt aE aL)),f.k Z,m,aO⟩
theorem Wk.M {aa:Value}{ab:LL}(m:Mem W G w (H))(ac:R2 G aa ab){y:Bool}(hd:D.M ab=some y):
  Calls prog 17 #[(.agg #[aa])] w (Res W G H (λ_ Ho v=>Ho=[]∧v=(.bool y))):=by
 refine Aw (args:=[(.agg #[aa])]) (N:=38) [.tmp 2] func17 Z Z (lb Z) Z λa f=> ?_
 unfold D.M at hd
 refine Af (Bv (cs:=[aa]) m f Z Z Z λad w a m f=>Ac f Z λa f=>Aa (Ag (Af (AN 0 0 (ds:=[aa]) m AU f Z Z Z Z Z λa f=>Bd hd λae af hd=>A1 f Z call32 (Wk.q m ac af) λag w ah m a f=>have ac:=rd2 ah ac;l_o f (Bc (f.e Z)) λa f=>Ab f Z λa f=> ?_))))
 refine Bi 5 (λa w=>∃ai,GLe ag ai∧Mem W ai w (ib ad 29 [aa]::H)∧Fr a 38 [(0,(.agg #[aa])),(1,pb ad),(6,(.agg #[aa])),(7,(.bool ae)),(8,(.bool (!ae))),(9,(.bool (!ae))),(14,(.bool ((!ae)||(decide ((ab.length:Int)<4)))))]) ?_ ?_
 ·rcases Bool.eq_false_or_eq_true (!ae) with aj|aj
  ·exact Au f aj λa f=>Au f aj λa f=>Au f aj λa f=>Au f aj λa f=>l_o f (AD (f.e Z) aj (f.e Z)) λa f=>⟨_,gr,m,f.weak ⟨Z,Z,Z,Z,Z,Z,by rw[aj];rfl,trivial⟩⟩
  ·exact As f aj (Bn underlying29 Z sizeOf27 f Z λa f=>As f aj (AI 0 0 m BM f Z Z Z Z λa f=>As f aj (AS underlying27 f Z Z ac λa f=>As f aj (Ah f Z Z AJ λa f=>l_o f (AC (f.e Z) aj (f.e Z)) λa f=>⟨_,gr,m,f.weak ⟨Z,Z,Z,Z,Z,Z,by rw[aj];rfl,trivial⟩⟩))))
 ·rintro a w ⟨ai,ak,m,f⟩
  refine have ac:=rd2 ak ac;Aa ?_
  rcases Ae hd with⟨al,hd⟩|⟨al,hd⟩
  ·refine An f Z al (Af (Ac f Z λa f=>Aa (Aq (have m:=m.dp 1;?_))))
   obtain rfl:=sj hd
   exact⟨[(.bool false)],f.g Z,f.d,_,[],(gt ah ak),m,Z,Z⟩
  ·refine Ai f Z al (Ao (Af (AN 0 0 (ds:=[aa]) m AU f Z Z Z Z Z λa f=>Bd hd λam an hd=>BS f Z call36 (Wk.t m ac an) λao ap aq w ar m au a f=>have ac:=rd2 ar ac;Ac f Z λa f=>Aa (Ag (Af (Ac f Z λa f=>Aa ?_))))))
   obtain⟨av,aw,m,ax⟩:=Ow.stamp (RI.mono _) au m
   refine have ac:=rd2 aw ac;Bd hd λay az hd=> ?_
   refine AH (λa w=>∃q_217':Unit,ay= .inl q_217'∧∃(aA:GH),GLe av aA∧Fr a 38 []∧Mem W aA w (H)) ?_ ?_
   ·refine Al (AE (λaB a w=>∃aC:LI,∃aD:Int,(aC,aD)=aB∧∃(aE:GH) (aF:Value),GLe av aE∧Fr a 38 [(1,pb ad),(3,aF),(4,iv aD)]∧Mem W aE w (ib ad 29 [aa]::H)∧R1 aE aF aC) az ⟨_,_,Z,_,ao,gr,f.k Z,m,ax⟩ ?_)
    clear az f m
    rintro aB aG aH aI a w ⟨aC,aD,rfl,aE,aF,aJ,f,m,aK⟩
    refine have ac:=rd2 aJ ac;Ag (Af (Ab f Z λa f=>Ab f Z λa f=>AS underlying39 f Z Z aK λa f=>Ah f Z Z AJ λa f=>Aa ?_))
    rcases Ae aH with⟨aL,aH⟩|⟨aL,aH⟩
    ·refine An f Z aL (Ao (Ag (Al (Af (Ac f Z λa f=>Aa (Bd aH λaM aN aH=> ?_))))))
     refine AH (λa w=>∃q_359':Unit,aM= .inl q_359'∧∃(aO:GH),GLe aE aO∧Fr a 38 [(1,pb ad),(3,aF),(4,iv aD)]∧Mem W aO w (ib ad 29 [aa]::H)) ?_ ?_
     ·refine Al (AE (λaP a w=>∃aQ:Int,aQ=aP∧∃(aR:GH),GLe aE aR∧Fr a 38 [(1,pb ad),(3,aF),(4,iv aD),(5,iv aQ)]∧Mem W aR w (ib ad 29 [aa]::H)) aN ⟨_,Z,_,gr,f.k Z,m⟩ ?_)
      clear aN f m
      rintro aP aS aT aU a w ⟨aQ,rfl,aR,aV,f,m⟩
      refine have aK:=rd1 aV aK;have ac:=rd2 aV ac;Ag (Af (Ab f Z λa f=>Ab f Z λa f=>Ah f Z Z AJ λa f=>Aa ?_))
      rcases Ae aT with⟨aW,aT⟩|⟨aW,aT⟩
      ·refine An f Z aW (Ao (Ag (Al (Af (AN 0 0 (ds:=[aa]) m AU f Z Z Z Z Z λa f=>Ab f Z λa f=>Ab f Z λa f=>Ab f Z λa f=>AX (R:=R0) (xs:=([aQ,aD]:LI)) (RI.one _) m T39 f Z Z Z (by decide) (All2.cons Z (All2.cons Z (All2.nil _))) λaX aY w a m aZ f=> ?_)))))
       obtain⟨a0,a1,m,a2⟩:=Ow.stamp (RI.mono _) aZ m
       refine have aK:=rd1 a1 aK;have ac:=rd2 a1 ac;Bd aT λa3 a4 aT=>AZ f Z call52 (Wk.x0 m ac aK a2 a4) λa5 a6 a7 w a8 m a9 a f=> ?_
       obtain⟨ba,rfl,rfl,bb⟩:=a9
       refine have aK:=rd1 a8 aK;AS underlying39 f Z Z bb λa f=>Ab f Z λa f=>AS underlying39 f Z Z aK λa f=>Ah f Z Z AJ λa f=>Aa ?_
       rcases Ae aT with⟨bc,aT⟩|⟨bc,aT⟩
       ·refine An f Z bc (Af (Ac f Z λa f=>Aa (Aq (have m:=m.dp 1;?_))))
        obtain rfl:=sj aT
        obtain rfl:=aU _ rfl
        obtain rfl:=sj aH
        obtain rfl:=aI _ rfl
        obtain rfl:=sj hd
        exact⟨[(.bool false)],f.g Z,f.d,_,[],(gt ah (gt ak (gt ar (gt aw (gt aJ (gt aV (gt a1 a8))))))),m,Z,Z⟩
       ·refine Ai f Z bc (Ao (Ak (Ab f Z λa f=>Ah f Z Z Ax λa f=>Ac f Z λa f=>Aa ?_)))
        obtain rfl:=sj aT
        exact⟨_,Z,_,Z,_,(gt aV (gt a1 a8)),f.k Z,m⟩
      ·refine Ai f Z aW (AB Z ?_)
       obtain rfl:=sj aT
       obtain rfl:=aU _ rfl
       exact⟨_,Z,_,aV,f.k Z,m⟩
     ·rintro a w ⟨_,rfl,aO,bd,f,m⟩
      refine have aK:=rd1 bd aK;Ak (Ab f Z λa f=>Ah f Z Z Ax λa f=>Ac f Z λa f=>Aa ?_)
      obtain rfl:=sj aH
      exact⟨_,Z,_,_,Z,_,aF,(gt aJ bd),f.k Z,m,aK⟩
    ·refine Ai f Z aL (AB Z (have m:=m.dp 1;?_))
     obtain rfl:=sj aH
     obtain rfl:=aI _ rfl
     exact⟨_,Z,_,aJ,f.weak trivial,m⟩
   ·rintro a w ⟨_,rfl,aA,be,f,m⟩
    refine Af (Ac f Z λa f=>Aa (Aq ?_))
    obtain rfl:=sj hd
    exact⟨[(.bool true)],f.g Z,f.d,_,[],(gt ah (gt ak (gt ar (gt aw be)))),m,Z,Z⟩
theorem Wk.E0 {aa v1:Value}{ab:LL}{x1:(List (Int×Int×LI))}{x2:Int}(m:Mem W G w (H))(ac:R2 G aa ab)(h1:RPt G v1 x1){y:Bool}(hd:D.E0 ab x1 x2=some y):
  Calls prog 30 #[(.agg #[aa]),v1,iv x2] w (Res W G H (λ_ Ho v=>Ho=[]∧v=(.bool y))):=by
 refine Aw (args:=[(.agg #[aa]),v1,iv x2]) (N:=75) [.tmp 6] func30 Z Z (lb Z) Z λa f=> ?_
 unfold D.E0 at hd
 refine Af (Bv (cs:=[aa]) m f Z Z Z λad w a m f=>Ac f Z λa f=>Az (Ab f Z λa f=>Ab f Z λa f=>Bd hd λae af hd=>Cz T33 f Z Z Z h1 af λag ah a ai aj f=>Er (E:=P3S) [iv ae.1,iv ae.2.1,(hdV ah)] m Ag42 f Z Z ai Z λa f=>Bj (cs:=[iv 0,iv 0,sn]) zeroValue42 m f Z Z λak w a m f=>AA 0 0 (ds:=[iv ae.1,iv ae.2.1,(hdV ah)]) m sizeOf42 f Z Z Z (Ay Z (Ay Z (Ay aj.one1 AQ))) Z (lb Z) Z λw m=>Aa (Ag (Af (Bn underlying42 Z sizeOf2 f Z λa f=>AI 0 0 m Pl2 f Z Z Z Z λa f=>Ah f Z Z Bf λa f=>Aa ?_)))))
 rcases Ae hd with⟨al,hd⟩|⟨al,hd⟩
 ·refine An f Z al (Af (Ac f Z λa f=>Aa (Aq (have m:=m.dp 2;?_))))
  obtain rfl:=sj hd
  exact⟨[(.bool true)],f.g Z,f.d,_,[],gr,m,Z,Z⟩
 ·refine Ai f Z al (Ao (Af (AN 1 0 (ds:=[aa]) m AU f Z Z Z Z Z λa f=>Ab f Z λa f=>Ab f Z λa f=>Bd hd λam an hd=>AZ f Z call70 (Wk.T0 m ac h1 an) λao ap aq w ar m au a f=> ?_)))
  obtain⟨av,aw,rfl,rfl,ax⟩:=au
  refine have h1:=RPt.mono ptT _ _ _ _ ar h1;have aj:=rd1 ar aj;Bj (cs:=[sn]) zeroValue29 m f Z Z λay w a m f=>AA 0 0 (ds:=[av]) m sizeOf29 f Z Z Z (Ay (Ow.one1 1 m ax Z) AQ) Z (lb Z) Z λw m=>Aa (Ag (Af (Bn underlying42 Z sizeOf2 f Z λa f=>AI 2 0 m Pl2 f Z Z Z Z λa f=>Ah f Z Z Bf λa f=>Aa ?_)))
  rcases Ae hd with⟨az,hd⟩|⟨az,hd⟩
  ·refine An f Z az (Af (AN 0 0 (ds:=[av]) m AU f Z Z Z Z Z λa f=>Bd hd λaA aB hd=>AZ f Z call17 (Ow.lendCall (RSl.mono (RI.mono _)) 1 ax m Z (λaC aD m aE=>Wk.M m aE aB) (λ_ _ _ _ h=>h)) λaF aG aH w aI m aJ a f=> ?_))
   obtain⟨rfl,rfl⟩:=aJ
   refine have h1:=RPt.mono ptT _ _ _ _ aI h1;Ac f Z λa f=>Aa (Aq (have m:=m.dp 4;?_))
   obtain rfl:=sj hd
   exact⟨[(.bool aA)],f.g Z,f.d,_,[],(gt ar aI),m,Z,Z⟩
  ·refine Ai f Z az (Ao (Ag (Af (Ac f Z λa f=>Aa (Bd hd λaK aL hd=> ?_)))))
   refine AH (λa w=>∃q_136':Unit,aK= .inl q_136'∧∃(aM:GH),GLe ap aM∧Fr a 75 []∧Mem W aM w (H)) ?_ ?_
   ·refine Al (have m:=m.fr 2;have m:=m.eraseAt 3;AE (λaN a w=>∃aO:Int,aO=aN∧∃(aP:GH),GLe ap aP∧Fr a 75 [(1,v1),(7,pb ak),(8,pb ay),(9,iv aO)]∧Mem W aP w (ib ak 42 [iv ae.1,iv ae.2.1,(hdV ah)]::ib ay 29 [av]::aw::H)) aL ⟨_,Z,_,gr,f.k Z,m⟩ ?_)
    clear aL f m
    rintro aN aQ aR aS a w ⟨aO,rfl,aP,aT,f,m⟩
    refine have h1:=RPt.mono ptT _ _ _ _ aT h1;have aj:=rd1 aT aj;have ax:=od3 aT ax;Ag (Af (Ab f Z λa f=>Bn underlying42 Z sizeOf39 f Z λa f=>AI 0 2 m Bu f Z Z Z Z λa f=>AS underlying39 f Z Z aj λa f=>Ah f Z Z AJ λa f=>Aa ?_))
    rcases Ae aR with⟨aU,aR⟩|⟨aU,aR⟩
    ·refine An f Z aU (Ao (Ag (Al (Ag (Ag (A8 12 AR (by kernel_rfl) m (Am 0 12 Z f Z λa f=>Cd 1 12 underlying42 Z sizeOf39 Z f Z λa f=>B3 2 12 0 Bu Z Z Z f Z λa f=>Am 3 12 Z f Z λa f=>Bd aR λaV aW aR=>B1 4 12 T39 aj aW Z f Z Z λaX aY a aZ a0 f=> ?_)))))))
     subst a0
     refine BR 5 12 Pl2 aZ Z f Z λa f=>Bd aR λa1 a2 aR=>q_atP (i:=6) (listed':= #[true,true,true,true,true,true,true,false,false,false,false,false]) 12 T33 h1 a2 Z (by kernel_rfl) Z f Z Z Z Z λa3 a4 a a5 a6 f=>q_fieldR (i:=7) (listed':= #[true,true,true,true,true,true,true,true,false,false,false,false]) (C:=P3S) (c:=(iv a1.1)) 12 underlying42 Z sizeOf2 (by decide) a5 Z Z (by kernel_rfl) Z f Z Z Z λa7 a a8 f=>BR 8 12 Pl2 a8 Z f Z λa f=>Cd 9 12 underlying42 Z sizeOf2 Z f Z λa f=>B3 10 12 0 Pl2 Z Z Z f Z λa f=>q_p 11 12 Z f (λ_=>AP (f.e Z) (f.e Z) Bf) λa f=>A4 λa9 w ba m=>have h1:=RPt.mono ptT _ _ _ _ ba h1;have aj:=rd1 ba aj;have ax:=od3 ba ax;Aa ?_
     rcases Ae aR with⟨bb,aR⟩|⟨bb,aR⟩
     ·refine An f Z bb (Af (Ac f Z λa f=>Aa (Aq (have m:=m.dp 3;?_))))
      obtain rfl:=sj aR
      obtain rfl:=aS _ rfl
      obtain rfl:=sj hd
      exact⟨[(.bool false)],f.g Z,f.d,_,[],(gt ar (gt aT ba)),m,Z,Z⟩
     ·refine Ai f Z bb (Ao (Ag (A8 30 AR (by kernel_rfl) m (Cd 0 30 underlying29 Z sizeOf27 Z f Z λa f=>B3 1 30 1 BM Z Z Z f Z λa f=>Am 2 30 Z f Z λa f=>Bd aR λbc bd aR=>A3 3 30 2 m ax T27 bd Z f Z Z λbe a bf f=>Bg 4 30 2 ax Bu bf bd Z f Z λbg a bh f=>DI (i:=5) 30 underlying39 bh Z (by kernel_rfl) Z f Z Z Z λa f=>q_p 6 30 Z f (λ_=>AP (f.e Z) (f.e Z) BX) λa f=>Am 7 30 Z f Z λa f=> ?_))))
      refine BQ (fuel':=18) (listed':= #[true,true,true,true,true,true,true,true,true,true,true,true,false,false,false,false,false,false,false,false,false,false,false,false,false,false,false,false,false,false]) (λa=>Fr a 75 [(1,v1),(7,pb ak),(8,pb ay),(9,iv aO),(44,(.bool (a1.1==ae.1))),(45,pb ay),(46,av),(47,iv aO),(48,be),(49,bg),(50,(iv (bc.length:Int))),(51,(.bool (decide ((0:Int)<(bc.length:Int))))),(52,(.bool (decide ((0:Int)<(bc.length:Int))))),(56,(.bool ((decide ((0:Int)<(bc.length:Int)))&&(ae.1==2))))]) ?_ ?_
      ·intro a f
       refine Am 12 30 Z f Z λa f=>Bd aR λbi bj aR=>BQ (fuel':=0) (listed':= #[true,true,true,true,true,true,true,true,true,true,true,true,true,true,true,true,true,true,true,true,true,true,true,true,true,true,true,true,true,true]) (λa=>Fr a 75 [(1,v1),(7,pb ak),(8,pb ay),(9,iv aO),(44,(.bool (a1.1==ae.1))),(45,pb ay),(46,av),(47,iv aO),(48,be),(49,bg),(50,(iv (bc.length:Int))),(51,(.bool (decide ((0:Int)<(bc.length:Int))))),(52,(.bool (decide ((0:Int)<(bc.length:Int))))),(56,(.bool ((decide ((0:Int)<(bc.length:Int)))&&(ae.1==2)))),(57,(.bool ((decide ((0:Int)<(bc.length:Int)))&&(ae.1==2)))),(74,(.bool bi))]) ?_ ?_
       ·intro a f
        refine A4 λbk w bl m=>have h1:=RPt.mono ptT _ _ _ _ bl h1;Aa ?_
        rcases Ae aR with⟨bm,aR⟩|⟨bm,aR⟩
        ·refine An f Z bm (Af (Ac f Z λa f=>Aa (Aq (have m:=m.dp 3;?_))))
         obtain rfl:=sj aR
         obtain rfl:=aS _ rfl
         obtain rfl:=sj hd
         exact⟨[(.bool false)],f.g Z,f.d,_,[],(gt ar (gt aT (gt ba bl))),m,Z,Z⟩
        ·refine Ai f Z bm (Ao (Ak (Ab f Z λa f=>Ah f Z Z Ax λa f=>Ac f Z λa f=>Aa ?_)))
         obtain rfl:=sj aR
         exact⟨_,Z,_,Z,_,(gt aT (gt ba bl)),f.k Z,m⟩
       ·intro bn
        rcases Ae bj with⟨bo,bj⟩|⟨bo,bj⟩
        ·refine Ap 13 30 Z f bo λa f=>Ap 14 30 Z f bo λa f=>Ap 15 30 Z f bo λa f=>Ap 16 30 Z f bo λa f=>Ap 17 30 Z f bo λa f=>Ap 18 30 Z f bo λa f=>Ap 19 30 Z f bo λa f=>Ap 20 30 Z f bo λa f=>Ap 21 30 Z f bo λa f=>Ap 22 30 Z f bo λa f=>Ap 23 30 Z f bo λa f=>Ap 24 30 Z f bo λa f=>B7 25 30 Z f λa f=>B7 26 30 Z f λa f=>B7 27 30 Z f λa f=>Ap 28 30 Z f bo λa f=>q_p 29 30 Z f (λ_=>AD (f.e Z) bo (f.e Z)) λa f=> ?_
         obtain rfl:=sj bj
         exact bn _ (f.k Z)
        ·refine Cd (hw:=wo f bo) 13 30 underlying29 Z sizeOf27 Z f Z λa f=>B3 (hw:=wo f bo) 14 30 1 BM Z Z Z f Z λa f=>Am (hw:=wo f bo) 15 30 Z f Z λa f=>Bd bj λbp bq bj=>A3 (hw:=wo f bo) 16 30 2 m ax T27 bq Z f Z Z λbr a bs f=>Bg (hw:=wo f bo) 17 30 2 ax Bu bs bq Z f Z λbt a bu f=>DI (i:=18) 30 underlying39 bu Z (by kernel_rfl) Z f (AV f Z Z Z bo) Z Z λa f=>Cd (hw:=wo f bo) 19 30 underlying42 Z sizeOf39 Z f Z λa f=>B3 (hw:=wo f bo) 20 30 0 Bu Z Z Z f Z λa f=>DI (i:=21) 30 underlying39 aj Z (by kernel_rfl) Z f (AV f Z Z Z bo) Z Z λa f=>q_p (hw:=wo f bo) 22 30 Z f (λ_=>AP (f.e Z) (f.e Z) AT) λa f=>q_p (hw:=wo f bo) 23 30 Z f (λ_=>AP (f.e Z) (f.e Z) AJ) λa f=>Am (hw:=wo f bo) 24 30 Z f Z λa f=> ?_
         refine BQ (fuel':=1) (listed':= #[true,true,true,true,true,true,true,true,true,true,true,true,true,true,true,true,true,true,true,true,true,true,true,true,true,true,true,true,true,false]) (λa=>Fr a 75 [(1,v1),(7,pb ak),(8,pb ay),(9,iv aO),(44,(.bool (a1.1==ae.1))),(45,pb ay),(46,av),(47,iv aO),(48,be),(49,bg),(50,(iv (bc.length:Int))),(51,(.bool (decide ((0:Int)<(bc.length:Int))))),(52,(.bool (decide ((0:Int)<(bc.length:Int))))),(56,(.bool ((decide ((0:Int)<(bc.length:Int)))&&(ae.1==2)))),(57,(.bool ((decide ((0:Int)<(bc.length:Int)))&&(ae.1==2)))),(58,pb ay),(59,av),(60,iv aO),(61,br),(62,bt),(63,(iv (bp.length:Int))),(64,(.pointer (some ⟨ak,2,none⟩))),(65,(hdV ah)),(66,(iv (ae.2.2.length:Int))),(67,(iv (i64.wrap ((ae.2.2.length:Int)-1)))),(68,(.bool (decide ((bp.length:Int)<(i64.wrap ((ae.2.2.length:Int)-1)))))),(69,(.bool (decide ((bp.length:Int)<(i64.wrap ((ae.2.2.length:Int)-1)))))),(73,(.bool ((decide ((bp.length:Int)<(i64.wrap ((ae.2.2.length:Int)-1))))&&(ae.1==3))))]) ?_ ?_
         ·intro a f
          refine q_p 29 30 Z f (λ_=>AC (f.e Z) bo (f.e Z)) λa f=> ?_
          obtain rfl:=sj bj
          exact bn _ (f.k Z)
         ·intro bv
          rcases Bool.eq_false_or_eq_true (decide ((bp.length:Int)<(i64.wrap ((ae.2.2.length:Int)-1)))) with bw|bw
          ·exact Cd (hw:=wo f bw) 25 30 underlying42 Z sizeOf2 Z f Z λa f=>B3 (hw:=wo f bw) 26 30 0 Pl2 Z Z Z f Z λa f=>q_p (hw:=wo f bw) 27 30 Z f (λ_=>AP (f.e Z) (f.e Z) Bf) λa f=>q_p (hw:=wo f bo) 28 30 Z f (λ_=>AD (f.e Z) bw (f.e Z)) λa f=>bv _ (f.weak ⟨Z,Z,Z,Z,Z,Z,Z,Z,Z,Z,Z,Z,Z,Z,Z,Z,Z,Z,Z,Z,Z,Z,Z,Z,Z,Z,Z,by rw[bw];rfl,trivial⟩)
          ·exact Ap 25 30 Z f bw λa f=>Ap 26 30 Z f bw λa f=>Ap 27 30 Z f bw λa f=>q_p (hw:=wo f bo) 28 30 Z f (λ_=>AC (f.e Z) bw (f.e Z)) λa f=>bv _ (f.weak ⟨Z,Z,Z,Z,Z,Z,Z,Z,Z,Z,Z,Z,Z,Z,Z,Z,Z,Z,Z,Z,Z,Z,Z,Z,Z,Z,Z,by rw[bw];rfl,trivial⟩)
      ·intro bx
       rcases Bool.eq_false_or_eq_true (decide ((0:Int)<(bc.length:Int))) with bz|bz
       ·exact Cd (hw:=wo f bz) 8 30 underlying42 Z sizeOf2 Z f Z λa f=>B3 (hw:=wo f bz) 9 30 0 Pl2 Z Z Z f Z λa f=>q_p (hw:=wo f bz) 10 30 Z f (λ_=>AP (f.e Z) (f.e Z) Bf) λa f=>q_p 11 30 Z f (λ_=>AD (f.e Z) bz (f.e Z)) λa f=>bx _ (f.weak ⟨Z,Z,Z,Z,Z,Z,Z,Z,Z,Z,Z,Z,Z,by rw[bz];rfl,trivial⟩)
       ·exact Ap 8 30 Z f bz λa f=>Ap 9 30 Z f bz λa f=>Ap 10 30 Z f bz λa f=>q_p 11 30 Z f (λ_=>AC (f.e Z) bz (f.e Z)) λa f=>bx _ (f.weak ⟨Z,Z,Z,Z,Z,Z,Z,Z,Z,Z,Z,Z,Z,by rw[bz];rfl,trivial⟩)
    ·refine Ai f Z aU (AB Z (have m:=m.dp 3;?_))
     obtain rfl:=sj aR
     obtain rfl:=aS _ rfl
     exact⟨_,Z,_,aT,f.weak trivial,m⟩
   ·rintro a w ⟨_,rfl,aM,bA,f,m⟩
    refine Af (Ac f Z λa f=>Aa (Aq ?_))
    obtain rfl:=sj hd
    exact⟨[(.bool true)],f.g Z,f.d,_,[],(gt ar bA),m,Z,Z⟩
theorem Wk.u0 {aa v1:Value}{ab:LL}{x1:(List (Int×Int×LI))}(m:Mem W G w (H))(ac:R2 G aa ab)(h1:RPt G v1 x1){y:Bool}(hd:D.u0 ab x1=some y):
  Calls prog 10 #[(.agg #[aa]),v1] w (Res W G H (λ_ Ho v=>Ho=[]∧v=(.bool y))):=by
 refine Aw (args:=[(.agg #[aa]),v1]) (N:=29) [.tmp 4] func10 Z Z (lb Z) Z λa f=> ?_
 unfold D.u0 at hd
 refine Af (Bv (cs:=[aa]) m f Z Z Z λad w a m f=>Ac f Z λa f=>Aa (Ag (Af (AN 0 0 (ds:=[aa]) m AU f Z Z Z Z Z λa f=>Ab f Z λa f=>Bd hd λae af hd=>A1 f Z call27 (Wk.d1 m ac h1 af) λag w ah m a f=>have ac:=rd2 ah ac;have h1:=RPt.mono ptT _ _ _ _ ah h1;l_o f (Bc (f.e Z)) λa f=>Aa ?_))))
 rcases Ae hd with⟨ai,hd⟩|⟨ai,hd⟩
 ·refine An f Z ai (Af (Ac f Z λa f=>Aa (Aq (have m:=m.dp 1;?_))))
  obtain rfl:=sj hd
  exact⟨[(.bool false)],f.g Z,f.d,_,[],ah,m,Z,Z⟩
 ·refine Ai f Z ai (Ao (Ag (Af (Ac f Z λa f=>Aa (Bd hd λaj ak hd=> ?_)))))
  refine AH (λa w=>∃q_71':Unit,aj= .inl q_71'∧∃(al:GH),GLe ag al∧Fr a 29 []∧Mem W al w (H)) ?_ ?_
  ·refine Al (AE (λam a w=>∃an:Int,an=am∧∃(ao:GH),GLe ag ao∧Fr a 29 [(1,v1),(2,pb ad),(5,iv an)]∧Mem W ao w (ib ad 29 [aa]::H)) ak ⟨_,Z,_,gr,f.k Z,m⟩ ?_)
   clear ak f m
   rintro am ap aq ar a w ⟨an,rfl,ao,au,f,m⟩
   refine have h1:=RPt.mono ptT _ _ _ _ au h1;have ac:=rd2 au ac;Ag (Af (Ab f Z λa f=>Ab f Z λa f=>Dl underlying33 f Z Z h1 λa f=>Ah f Z Z AJ λa f=>Aa ?_))
   rcases Ae aq with⟨av,aq⟩|⟨av,aq⟩
   ·refine An f Z av (Ao (Ag (Al (Ag (A8 13 AR (by kernel_rfl) m (By (i:=0) (ds:=[aa]) 13 0 AU Z Z Z Z (by kernel_rfl) Z f Z Z Z λa f=>Am 1 13 Z f Z λa f=>Am 2 13 Z f Z λa f=>CK 3 Z λaw w ax m ay ay=>have h1:=RPt.mono ptT _ _ _ _ ax h1;have ac:=rd2 ax ac;Bd aq λaz aA aq=>AZ f Z call29 (Wk.f m h1 aA) λaB aC aD w aE m aF a f=> ?_))))))
    obtain⟨aG,rfl,rfl,aH⟩:=aF
    refine have h1:=RPt.mono ptT _ _ _ _ aE h1;have ac:=rd2 aE ac;Aa (ay aC [] _ _ aE m (Bd aq λaI aJ aq=>BZ (i:=4) 13 Z (by kernel_rfl) Z f Z Z Z call28 (λ_ _ w aK m=>Wk.d0 m (rd2 aK ac) (rd1 aK aH) aJ) λa f=>q_p 5 13 Z f (λ_=>Bc (f.e Z)) λa f=>Am 6 13 Z f Z λa f=>Bd aq λaL aM aq=>BQ (fuel':=0) (listed':= #[true,true,true,true,true,true,true,true,true,true,true,true,true]) (λa=>Fr a 29 [(1,v1),(2,pb ad),(5,iv an),(13,(.bool (decide (an<(x1.length:Int))))),(16,(.agg #[aa])),(17,v1),(18,iv an),(19,aG),(20,(.bool aI)),(21,(.bool (!aI))),(22,(.bool (!aI))),(28,(.bool aL))]) ?_ ?_))
    ·intro a f
     refine A4 λaN w aO m=>have h1:=RPt.mono ptT _ _ _ _ aO h1;Aa ?_
     rcases Ae aq with⟨aP,aq⟩|⟨aP,aq⟩
     ·refine An f Z aP (Af (Ac f Z λa f=>Aa (Aq (have m:=m.dp 1;?_))))
      obtain rfl:=sj aq
      obtain rfl:=ar _ rfl
      obtain rfl:=sj hd
      exact⟨[(.bool false)],f.g Z,f.d,_,[],(gt ah (gt au (gt ax (gt aE aO)))),m,Z,Z⟩
     ·refine Ai f Z aP (Ao (Ak (Ab f Z λa f=>Ah f Z Z Ax λa f=>Ac f Z λa f=>Aa ?_)))
      obtain rfl:=sj aq
      exact⟨_,Z,_,Z,_,(gt au (gt ax (gt aE aO))),f.k Z,m⟩
    ·intro aQ
     rcases Ae aM with⟨aR,aM⟩|⟨aR,aM⟩
     ·refine Ap 7 13 Z f aR λa f=>Ap 8 13 Z f aR λa f=>Ap 9 13 Z f aR λa f=>Ap 10 13 Z f aR λa f=>Ap 11 13 Z f aR λa f=>q_p 12 13 Z f (λ_=>AD (f.e Z) aR (f.e Z)) λa f=> ?_
      obtain rfl:=sj aM
      exact aQ _ (f.k Z)
     ·refine By (i:=7) (ds:=[aa]) 13 0 AU Z Z Z Z (by kernel_rfl) Z f (AV f Z Z Z aR) Z Z λa f=>Am (hw:=wo f aR) 8 13 Z f Z λa f=>Am (hw:=wo f aR) 9 13 Z f Z λa f=>Bd aM λaS aT aM=>BZ (i:=10) 13 Z (by kernel_rfl) Z f (AV f Z Z Z aR) Z Z call30 (λ_ _ w aU m=>Wk.E0 m (rd2 aU ac) (RPt.mono ptT _ _ _ _ aU h1) aT) λa f=>q_p (hw:=wo f aR) 11 13 Z f (λ_=>Bc (f.e Z)) λa f=>q_p 12 13 Z f (λ_=>AC (f.e Z) aR (f.e Z)) λa f=> ?_
      obtain rfl:=sj aM
      exact aQ _ (f.k Z)
   ·refine Ai f Z av (AB Z (have m:=m.dp 1;?_))
    obtain rfl:=sj aq
    obtain rfl:=ar _ rfl
    exact⟨_,Z,_,au,f.weak trivial,m⟩
  ·rintro a w ⟨_,rfl,al,aV,f,m⟩
   refine Af (Ac f Z λa f=>Aa (Aq ?_))
   obtain rfl:=sj hd
   exact⟨[(.bool true)],f.g Z,f.d,_,[],(gt ah aV),m,Z,Z⟩
theorem Wk.r1 {aa ab:Value}{ac ad:Int}{ae:LI}{af ag:Int}{ah:LI}(m:Mem W G w (H))(ai:R1 G aa ae)(aj:R1 G ab ah){y:Bool}(hd:D.r1 ac ad ae af ag ah=some y):
  Calls prog 72 #[(.agg #[iv ac,iv ad,aa]),(.agg #[iv af,iv ag,ab])] w (Res W G H (λ_ Ho v=>Ho=[]∧v=(.bool y))):=by
 refine Aw (args:=[(.agg #[iv ac,iv ad,aa]),(.agg #[iv af,iv ag,ab])]) (N:=24) [.tmp 4] func72 Z Z (lb Z) Z λa f=> ?_
 unfold D.r1 at hd
 refine Af (Bv (cs:=[iv ac,iv ad,aa]) m f Z Z Z λak w a m f=>Bv (cs:=[iv af,iv ag,ab]) m f Z Z Z λal w a m f=>Ac f Z λa f=>Az (Bn underlying42 Z sizeOf2 f Z λa f=>AI 1 0 m Pl2 f Z Z Z Z λa f=>Bn underlying42 Z sizeOf2 f Z λa f=>AI 0 0 m Pl2 f Z Z Z Z λa f=>Ah f Z Z Bf λa f=>Ab f Z λa f=> ?_))
 refine Bi 6 (λa w=>∃am,GLe G am∧Mem W am w (ib al 42 [iv af,iv ag,ab]::ib ak 42 [iv ac,iv ad,aa]::H)∧Fr a 24 [(0,(.agg #[iv ac,iv ad,aa])),(1,(.agg #[iv af,iv ag,ab])),(2,pb ak),(3,pb al),(5,pb ak),(6,iv ac),(7,pb al),(8,iv af),(9,(.bool (ac==af))),(10,(.bool (ac==af))),(16,(.bool ((ac==af)&&(ad==ag))))]) ?_ ?_
 ·rcases Bool.eq_false_or_eq_true (ac==af) with an|an
  ·exact As f an (Bn underlying42 Z sizeOf2 f Z λa f=>As f an (AI 1 1 m Pl2 f Z Z Z Z λa f=>As f an (Bn underlying42 Z sizeOf2 f Z λa f=>As f an (AI 0 1 m Pl2 f Z Z Z Z λa f=>As f an (Ah f Z Z Bf λa f=>l_o f (AD (f.e Z) an (f.e Z)) λa f=>⟨_,gr,m,f.weak ⟨Z,Z,Z,Z,Z,Z,Z,Z,Z,Z,by rw[an];rfl,trivial⟩⟩)))))
  ·exact Au f an λa f=>Au f an λa f=>Au f an λa f=>Au f an λa f=>Au f an λa f=>l_o f (AC (f.e Z) an (f.e Z)) λa f=>⟨_,gr,m,f.weak ⟨Z,Z,Z,Z,Z,Z,Z,Z,Z,Z,by rw[an];rfl,trivial⟩⟩
 ·rintro a w ⟨am,ao,m,f⟩
  refine have ai:=rd1 ao ai;have aj:=rd1 ao aj;Ab f Z λa f=>Bd hd λap aq hd=> ?_
  refine Bi 6 (λa w=>∃ar,GLe am ar∧Mem W ar w (ib al 42 [iv af,iv ag,ab]::ib ak 42 [iv ac,iv ad,aa]::H)∧Fr a 24 [(0,(.agg #[iv ac,iv ad,aa])),(1,(.agg #[iv af,iv ag,ab])),(2,pb ak),(3,pb al),(5,pb ak),(6,iv ac),(7,pb al),(8,iv af),(9,(.bool (ac==af))),(10,(.bool (ac==af))),(16,(.bool ((ac==af)&&(ad==ag)))),(17,(.bool ((ac==af)&&(ad==ag)))),(23,(.bool ap))]) ?_ ?_
  ·rcases Ae aq with⟨au,aq⟩|⟨au,aq⟩
   ·refine As f au (Bn underlying42 Z sizeOf39 f Z λa f=>As f au (AI 1 2 m Bu f Z Z Z Z λa f=>As f au (Bn underlying42 Z sizeOf39 f Z λa f=>As f au (AI 0 2 m Bu f Z Z Z Z λa f=>As f au (Bd aq λav aw aq=>A1 f Z call73 (Wk.U0 m ai aj aw) λax w ay m a f=>l_o f (AD (f.e Z) au (f.e Z)) λa f=> ?_)))))
    obtain rfl:=sj aq
    exact⟨_,ay,m,f.k Z⟩
   ·refine Au f au λa f=>Au f au λa f=>Au f au λa f=>Au f au λa f=>Au f au λa f=>l_o f (AC (f.e Z) au (f.e Z)) λa f=> ?_
    obtain rfl:=sj aq
    exact⟨_,gr,m,f.k Z⟩
  ·rintro a w ⟨ar,az,m,f⟩
   refine Ac f Z λa f=>Aa (Aq (have m:=m.dp 2;?_))
   obtain rfl:=sj hd
   exact⟨[(.bool ap)],f.g Z,f.d,_,[],(gt ao az),m,Z,Z⟩
theorem Wk.J0 {v0 v1:Value}{x0:(List (Int×Int×LI))}{x1:(List (Int×Int×LI))}(m:Mem W G w (H))(h0:RPt G v0 x0)(h1:RPt G v1 x1){y:Bool}(hd:D.J0 x0 x1=some y):
  Calls prog 71 #[v0,v1,Fv 72] w (Res W G H (λ_ Ho v=>Ho=[]∧v=(.bool y))):=by
 refine Aw (args:=[v0,v1,Fv 72]) (N:=32) [.tmp 6] func71 Z Z (lb Z) Z λa f=> ?_
 unfold D.J0 at hd
 refine Af (Ac f Z λa f=>Aa (Ag (Af (Ab f Z λa f=>Dl underlying33 f Z Z h0 λa f=>Ab f Z λa f=>Dl underlying33 f Z Z h1 λa f=>Ah f Z Z BN λa f=>Aa ?_))))
 rcases Ae hd with⟨aa,hd⟩|⟨aa,hd⟩
 ·refine An f Z aa (Af (Ac f Z λa f=>Aa (Aq ?_)))
  obtain rfl:=sj hd
  exact⟨[(.bool false)],f.g Z,f.d,_,[],gr,m,Z,Z⟩
 ·refine Ai f Z aa (Ao (Ag (Af (Ab f Z λa f=>Dl underlying33 f Z Z h0 λa f=>Ab f Z λa f=>Aa (Bd hd λab ac hd=> ?_)))))
  refine AH (λa w=>∃q_54':Unit,ab= .inl q_54'∧∃(ad:GH),GLe G ad∧Fr a 32 []∧Mem W ad w (H)) ?_ ?_
  ·refine Al (AE (λae a w=>∃af:Int,af=ae∧∃(ag:GH),GLe G ag∧Fr a 32 [(1,v1),(2,Fv 72),(15,v0),(16,(iv (x0.length:Int))),(17,iv af)]∧Mem W ag w (H)) ac ⟨_,Z,_,gr,f.k Z,m⟩ ?_)
   clear ac f m
   rintro ae ah ai aj a w ⟨af,rfl,ag,ak,f,m⟩
   refine have h1:=RPt.mono ptT _ _ _ _ ak h1;have h0:=RPt.mono ptT _ _ _ _ ak h0;Af (Ah f Z Z AJ λa f=>Aa (Ag ?_))
   rcases Ae ai with⟨al,ai⟩|⟨al,ai⟩
   ·refine An f Z al (Ao (Ag (Al (Af (Ab f Z λa f=>Bd ai λam an ai=>Cz T33 f Z Z Z h0 an λao ap a aq ar f=>Er (E:=P3S) [iv am.1,iv am.2.1,(hdV ap)] m Ag42 f Z Z aq Z λa f=>Bj (cs:=[iv 0,iv 0,sn]) zeroValue42 m f Z Z λau w a m f=>Ac f Z λa f=>AA 0 0 (ds:=[iv am.1,iv am.2.1,(hdV ap)]) m sizeOf42 f Z Z Z (Ay Z (Ay Z (Ay ar.one1 AQ))) Z (lb Z) Z λw m=>Az (Ab f Z λa f=>Ab f Z λa f=>Bd ai λav aw ai=>Cz T33 f Z Z Z h1 aw λax ay a az aA f=>Er (E:=P3S) [iv av.1,iv av.2.1,(hdV ay)] m Ag42 f Z Z az Z λa f=>Bj (cs:=[iv 0,iv 0,sn]) zeroValue42 m f Z Z λaB w a m f=>AA 0 0 (ds:=[iv av.1,iv av.2.1,(hdV ay)]) m sizeOf42 f Z Z Z (Ay Z (Ay Z (Ay aA.one1 AQ))) Z (lb Z) Z λw m=>Az (Ab f Z λa f=> ?_)))))))
    refine AN 1 0 (ds:=[iv am.1,iv am.2.1,(hdV ap)]) m Ag42 f Z Z Z Z Z λa f=>AN 0 0 (ds:=[iv av.1,iv av.2.1,(hdV ay)]) m Ag42 f Z Z Z Z Z λa f=>Bd ai λaC aD ai=>l_resv0 f Z Z Z call72 (Wk.r1 m ar aA aD) λaE aF aG w aH m aI a f=> ?_
    obtain⟨rfl,rfl⟩:=aI
    refine have h1:=RPt.mono ptT _ _ _ _ aH h1;have h0:=RPt.mono ptT _ _ _ _ aH h0;l_o f (Bc (f.e Z)) λa f=>Aa ?_
    rcases Ae ai with⟨aJ,ai⟩|⟨aJ,ai⟩
    ·refine An f Z aJ (Af (Ac f Z λa f=>Aa (Aq (have m:=m.dp 2;?_))))
     obtain rfl:=sj ai
     obtain rfl:=aj _ rfl
     obtain rfl:=sj hd
     exact⟨[(.bool false)],f.g Z,f.d,_,[],(gt ak aH),m,Z,Z⟩
    ·refine Ai f Z aJ (Ao (Ak (Ah f Z Z Ax λa f=>Ab f Z λa f=>Aa (have m:=m.dp 2;?_))))
     obtain rfl:=sj ai
     exact⟨_,Z,_,Z,_,(gt ak aH),f.k Z,m⟩
   ·refine Ai f Z al (AB Z ?_)
    obtain rfl:=sj ai
    obtain rfl:=aj _ rfl
    exact⟨_,Z,_,ak,f.weak trivial,m⟩
  ·rintro a w ⟨_,rfl,ad,aK,f,m⟩
   refine Af (Ac f Z λa f=>Aa (Aq ?_))
   obtain rfl:=sj hd
   exact⟨[(.bool true)],f.g Z,f.d,_,[],aK,m,Z,Z⟩
theorem Wk.x {v0 v1:Value}{x0:(List (Int×Int×LI))}{x1:(List (Int×Int×LI))}(m:Mem W G w (H))(h0:RPt G v0 x0)(h1:RPt G v1 x1){y:Bool}(hd:D.x x0 x1=some y):
  Calls prog 31 #[v0,v1] w (Res W G H (λ_ Ho v=>Ho=[]∧v=(.bool y))):=by
 refine Aw (args:=[v0,v1]) (N:=8) [.tmp 4] func31 Z Z (lb Z) Z λa f=> ?_
 unfold D.x at hd
 refine Af (Ac f Z λa f=>Az (Ab f Z λa f=>Ab f Z λa f=>Bd hd λaa ab hd=>A1 f Z call71 (Wk.J0 m h0 h1 ab) λac w ad m a f=>have h0:=RPt.mono ptT _ _ _ _ ad h0;have h1:=RPt.mono ptT _ _ _ _ ad h1;Ac f Z λa f=>Aa (Aq ?_)))
 obtain rfl:=sj hd
 exact⟨[(.bool aa)],f.g Z,f.d,_,[],ad,m,Z,Z⟩
theorem Wk.C0 {aa v1:Value}{ab:LL}{x1:(List (Int×Int×LI))}(hW:BD W)(m:Mem W G w (H))(ac:R2 G aa ab)(h1:RPt G v1 x1){y:Bool}(hd:D.C0 ab x1=some y):
  Calls prog 11 #[(.agg #[aa]),v1] w (Res W G H (λ_ Ho v=>Ho=[]∧v=(.bool y))):=by
 refine Aw (args:=[(.agg #[aa]),v1]) (N:=18) [.tmp 4] func11 Z Z (lb Z) Z λa f=> ?_
 unfold D.C0 at hd
 refine Af (Bv (cs:=[aa]) m f Z Z Z λad w a m f=>Ac f Z λa f=>Az (AN 0 0 (ds:=[aa]) m AU f Z Z Z Z Z λa f=>Bd hd λae af hd=>AZ f Z call9 (Wk.b0 hW m ac af) λag ah ai w aj m ak a f=> ?_))
 obtain⟨al,am,rfl,rfl,an⟩:=ak
 refine have h1:=RPt.mono ptT _ _ _ _ aj h1;Ab f Z λa f=>l_o f (A2 (f.e Z) Z) λa f=>l_o f (A2 (f.e Z) Z) λa f=>Ac f Z λa f=>Ac f Z λa f=>Az (Ab f Z λa f=>Ab f Z λa f=>Bd hd λao ap hd=> ?_)
 refine Bi 4 (λa w=>∃aq,GLe ah aq∧Mem W aq w (am::ib ad 29 [aa]::H)∧Fr a 18 [(0,(.agg #[aa])),(1,v1),(2,pb ad),(5,al),(6,(.bool ae.2)),(12,(.bool ae.2)),(13,(.bool ae.2)),(17,(.bool ao))]) ?_ ?_
 ·rcases Ae ap with⟨ar,ap⟩|⟨ar,ap⟩
  ·refine As f ar (Ab f Z λa f=>As f ar (Ab f Z λa f=>As f ar (Bd ap λau av ap=>AZ f Z call31 (OwPt.lendCall ptT 0 an m Z (λaw ax m ay=>Wk.x m (RPt.mono ptT _ _ _ _ ax h1) ay av) (λ_ _ _ _ h=>h)) λaz aA aB w aC m aD a f=> ?_)))
   obtain⟨rfl,rfl⟩:=aD
   refine have h1:=RPt.mono ptT _ _ _ _ aC h1;have an:=OwPt.mono ptT aC an;l_o f (AD (f.e Z) ar (f.e Z)) λa f=> ?_
   obtain rfl:=sj ap
   exact⟨_,aC,m,f.k Z⟩
  ·refine Au f ar λa f=>Au f ar λa f=>Au f ar λa f=>l_o f (AC (f.e Z) ar (f.e Z)) λa f=> ?_
   obtain rfl:=sj ap
   exact⟨_,gr,m,f.k Z⟩
 ·rintro a w ⟨aq,aE,m,f⟩
  refine have h1:=RPt.mono ptT _ _ _ _ aE h1;have an:=OwPt.mono ptT aE an;Ac f Z λa f=>Aa (Aq (have m:=m.dp 2;?_))
  obtain rfl:=sj hd
  exact⟨[(.bool ao)],f.g Z,f.d,_,[],(gt aj aE),m,Z,Z⟩
theorem Wk.J {x0:Int}(m:Mem W G w (H)){y:Int}(hd:D.J x0=some y):
  Calls prog 33 #[iv x0] w (Res W G H (λ_ Ho v=>Ho=[]∧v=(iv y))):=by
 refine Aw (args:=[iv x0]) (N:=6) [.tmp 2] func33 Z Z (lb Z) Z λa f=> ?_
 unfold D.J at hd
 refine Af (Ac f Z λa f=>Az (Ab f Z λa f=>l_o f (CU (f.e Z) ⟨_,underlying2⟩ underlying49) λa f=> ?_))
 obtain⟨aa,hd⟩:=CR hd
 refine l_o f (r_shl (f.e Z) (f.e Z) aa) λa f=>Ac f Z λa f=>Aa (Aq ?_)
 obtain rfl:=sj hd
 exact⟨[(iv (ishl .i64 1 (IntKind.u64.wrap x0)))],f.g Z,f.d,_,[],gr,m,Z,Z⟩
theorem Wk.f1 {x0:Int}(m:Mem W G w (H)){y:(LI)}(hd:D.f1 x0=some y):
  Calls prog 34 #[iv x0] w (Res W G H (λG' Ho v=>∃r0:Value,∃i0:Itm,Ho=[i0]∧r0=v∧Ow R0 2 G' i0 r0 y)):=by
 refine Aw (args:=[iv x0]) (N:=22) [.tmp 2] func34 Z Z (lb Z) Z λa f=> ?_
 unfold D.f1 at hd
 refine Af (Ac f Z λa f=>Az (AX (R:=R0) (xs:=([]:LI)) (RI.one _) m T39 f Z Z Z (by decide) (All2.nil _) λaa ab w a m ac f=>Ac f Z λa f=>Aa (Ag (Af (Ac f Z λa f=>Aa (Bd hd λad ae hd=> ?_))))))
 refine AH (λa w=>∃af:LI,af=ad∧∃(ag:GH) (ah:Value) (ai:Itm),GLe G ag∧Fr a 22 [(3,ah)]∧Mem W ag w (ai::H)∧Ow R0 2 ag ai ah af) ?_ ?_
 ·refine Al (AE (λaj a w=>∃ak:LI,∃al:Int,(ak,al)=aj∧∃(am:GH) (an:Value) (ao:Itm),GLe G am∧Fr a 22 [(0,iv x0),(3,an),(4,iv al)]∧Mem W am w (ao::H)∧Ow R0 2 am ao an ak) ae ⟨_,_,Z,_,ab,aa,gr,f.k Z,m,ac⟩ ?_)
  clear ae f m
  rintro aj ap aq ar a w ⟨ak,al,rfl,am,an,ao,au,f,m,av⟩
  refine Ag (Af (Ab f Z λa f=>Bd aq λaw ax aq=>A1 f Z call33 (Wk.J m ax) λay w az m a f=>have av:=od1 az av;Ab f Z λa f=>Ah f Z Z CA λa f=>Aa ?_))
  rcases Ae aq with⟨aA,aq⟩|⟨aA,aq⟩
  ·refine An f Z aA (Ao (Ag (Al (Af (Ab f Z λa f=>Ab f Z λa f=>Bd aq λaB aC aq=>A1 f Z call33 (Wk.J m aC) λaD w aE m a f=>have av:=od1 aE av;Ah f Z Z CY λa f=>Ah f Z Z BN λa f=>Aa ?_)))))
   rcases Ae aq with⟨aF,aq⟩|⟨aF,aq⟩
   ·refine An f Z aF (Ak (Ab f Z λa f=>Ab f Z λa f=>AX (R:=R0) (xs:=([al]:LI)) (RI.one _) m T39 f Z Z Z (by decide) (All2.cons Z (All2.nil _)) λaG aH w a m aI f=>Bd aq λaJ aK aq=>Be (RI.one _) 1 m av Z T39 Z (by decide) f Z Z Z (Ow.src (j:=0) aI m Z) aK λaL aM w a m aN f=>Ac f Z λa f=>Aa (Ak (Ab f Z λa f=>Ah f Z Z Ax λa f=>Ac f Z λa f=>Aa (have m:=m.fr 1;have m:=m.eraseAt 1;?_)))))
    obtain rfl:=sj aq
    exact⟨_,Z,_,_,Z,_,aM,aL,(gt au (gt az aE)),f.k Z,m,aN⟩
   ·refine Ai f Z aF (Ao (Ak (Ab f Z λa f=>Ah f Z Z Ax λa f=>Ac f Z λa f=>Aa ?_)))
    obtain rfl:=sj aq
    exact⟨_,Z,_,_,Z,_,an,ao,(gt au (gt az aE)),f.k Z,m,av⟩
  ·refine Ai f Z aA (AB Z ?_)
   obtain rfl:=sj aq
   obtain rfl:=ar _ rfl
   exact⟨_,Z,_,an,ao,(gt au az),f.k Z,m,av⟩
 ·rintro a w ⟨af,rfl,ag,ah,ai,aO,f,m,aP⟩
  refine Af (Ab f Z λa f=>Ac f Z λa f=>Aa (Aq ?_))
  obtain rfl:=sj hd
  exact⟨[ah],f.g Z,f.d,_,[ai],aO,m,_,_,Z,Z,aP⟩
theorem Wk.z0 {v0 v1:Value}{x0 x1:LI}(m:Mem W G w (H))(h0:R1 G v0 x0)(h1:R1 G v1 x1){y:Bool}(hd:D.z0 x0 x1=some y):
  Calls prog 37 #[v0,v1] w (Res W G H (λ_ Ho v=>Ho=[]∧v=(.bool y))):=by
 refine Aw (args:=[v0,v1]) (N:=40) [.tmp 4] func37 Z Z (lb Z) Z λa f=> ?_
 unfold D.z0 at hd
 refine Af (Ac f Z λa f=>Aa (Ag (Af (Ab f Z λa f=>AS underlying39 f Z Z h0 λa f=>Ab f Z λa f=>AS underlying39 f Z Z h1 λa f=>Ah f Z Z BN λa f=>Aa ?_))))
 rcases Ae hd with⟨aa,hd⟩|⟨aa,hd⟩
 ·refine An f Z aa (Af (Ab f Z λa f=>AS underlying39 f Z Z h0 λa f=>Ab f Z λa f=>AS underlying39 f Z Z h1 λa f=>Ah f Z Z AJ λa f=>Ac f Z λa f=>Aa (Aq ?_)))
  obtain rfl:=sj hd
  exact⟨[(.bool (decide ((x0.length:Int)<(x1.length:Int))))],f.g Z,f.d,_,[],gr,m,Z,Z⟩
 ·refine Ai f Z aa (Ao (Ag (Af (Ac f Z λa f=>Aa (Bd hd λab ac hd=> ?_)))))
  refine AH (λa w=>∃q_64':Unit,ab= .inl q_64'∧∃(ad:GH),GLe G ad∧Fr a 40 []∧Mem W ad w (H)) ?_ ?_
  ·refine Al (AE (λae a w=>∃af:Int,af=ae∧∃(ag:GH),GLe G ag∧Fr a 40 [(0,v0),(1,v1),(5,iv af)]∧Mem W ag w (H)) ac ⟨_,Z,_,gr,f.k Z,m⟩ ?_)
   clear ac f m
   rintro ae ah ai aj a w ⟨af,rfl,ag,ak,f,m⟩
   refine have h0:=rd1 ak h0;have h1:=rd1 ak h1;Ag (Af (Ab f Z λa f=>Ab f Z λa f=>AS underlying39 f Z Z h0 λa f=>Ah f Z Z AJ λa f=>Aa ?_))
   rcases Ae ai with⟨al,ai⟩|⟨al,ai⟩
   ·refine An f Z al (Ao (Ag (Al (Ag (A8 9 AR (by kernel_rfl) m (Am 0 9 Z f Z λa f=>Am 1 9 Z f Z λa f=>Bd ai λam an ai=>B1 2 9 T39 h0 an Z f Z Z λao ap a aq ar f=> ?_))))))
    subst ar
    refine BR 3 9 Pl2 aq Z f Z λa f=>Am 4 9 Z f Z λa f=>Am 5 9 Z f Z λa f=>Bd ai λau av ai=>B1 6 9 T39 h1 av Z f Z Z λaw ax a ay az f=> ?_
    subst az
    refine BR 7 9 Pl2 ay Z f Z λa f=>q_p 8 9 Z f (λ_=>AP (f.e Z) (f.e Z) BN) λa f=>A4 λaA w aB m=>have h0:=rd1 aB h0;have h1:=rd1 aB h1;Aa ?_
    rcases Ae ai with⟨aC,ai⟩|⟨aC,ai⟩
    ·refine An f Z aC (Ag (A8 10 AR (by kernel_rfl) m (Am 0 10 Z f Z λa f=>Am 1 10 Z f Z λa f=>Bd ai λaD aE ai=>B1 2 10 T39 h0 aE Z f Z Z λaF aG a aH aI f=> ?_)))
     subst aI
     refine BR 3 10 Pl2 aH Z f Z λa f=>Am 4 10 Z f Z λa f=>Am 5 10 Z f Z λa f=>Bd ai λaJ aK ai=>B1 6 10 T39 h1 aK Z f Z Z λaL aM a aN aO f=> ?_
     subst aO
     refine BR 7 10 Pl2 aN Z f Z λa f=>q_p 8 10 Z f (λ_=>AP (f.e Z) (f.e Z) AJ) λa f=>q_p 9 10 Z f (λ_=>Cy (f.e Z)) λa f=>A4 λaP w aQ m=>Aa (Aq ?_)
     obtain rfl:=sj ai
     obtain rfl:=aj _ rfl
     obtain rfl:=sj hd
     exact⟨[(.bool (decide (aD<aJ)))],f.g Z,f.d,_,[],(gt ak (gt aB aQ)),m,Z,Z⟩
    ·refine Ai f Z aC (Ao (Ak (Ab f Z λa f=>Ah f Z Z Ax λa f=>Ac f Z λa f=>Aa ?_)))
     obtain rfl:=sj ai
     exact⟨_,Z,_,Z,_,(gt ak aB),f.k Z,m⟩
   ·refine Ai f Z al (AB Z ?_)
    obtain rfl:=sj ai
    obtain rfl:=aj _ rfl
    exact⟨_,Z,_,ak,f.weak trivial,m⟩
  ·rintro a w ⟨_,rfl,ad,aR,f,m⟩
   refine Af (Ac f Z λa f=>Aa (Aq ?_))
   obtain rfl:=sj hd
   exact⟨[(.bool false)],f.g Z,f.d,_,[],aR,m,Z,Z⟩
theorem Wk.U {aa:Value}{ab:LL}(m:Mem W G w (H))(ac:R2 G aa ab){y:(LL)}(hd:D.U ab=some y):
  Calls prog 12 #[(.agg #[aa])] w (Res W G H (λG' Ho v=>∃r0:Value,∃i0:Itm,Ho=[i0]∧r0=v∧Ow R1 39 G' i0 r0 y)):=by
 refine Aw (args:=[(.agg #[aa])]) (N:=65) [.tmp 2] func12 Z Z (lb Z) Z λa f=> ?_
 unfold D.U at hd
 refine Af (Bv (cs:=[aa]) m f Z Z Z λad w a m f=>Ac f Z λa f=>Az (AX (R:=R1) (xs:=([]:LL)) (RSl.one _) m T27 f Z Z Z (by decide) (All2.nil _) λae af w a m ag f=>Ac f Z λa f=>Aa (Ag (Af (AN 1 0 (ds:=[aa]) m AU f Z Z Z Z Z λa f=>Bd hd λah ai hd=>A1 f Z call32 (Wk.q m ac ai) λaj w ak m a f=>have ac:=rd2 ak ac;have ag:=od3 ak ag;l_o f (Bc (f.e Z)) λa f=>Ab f Z λa f=> ?_)))))
 refine Bi 5 (λa w=>∃al,GLe aj al∧Mem W al w (ae::ib ad 29 [aa]::H)∧Fr a 65 [(0,(.agg #[aa])),(1,pb ad),(3,af),(9,(.agg #[aa])),(10,(.bool ah)),(11,(.bool (!ah))),(12,(.bool (!ah))),(17,(.bool ((!ah)||(decide ((8:Int)<(ab.length:Int))))))]) ?_ ?_
 ·rcases Bool.eq_false_or_eq_true (!ah) with am|am
  ·exact Au f am λa f=>Au f am λa f=>Au f am λa f=>Au f am λa f=>l_o f (AD (f.e Z) am (f.e Z)) λa f=>⟨_,gr,m,f.weak ⟨Z,Z,Z,Z,Z,Z,Z,by rw[am];rfl,trivial⟩⟩
  ·exact As f am (Bn underlying29 Z sizeOf27 f Z λa f=>As f am (AI 1 0 m BM f Z Z Z Z λa f=>As f am (AS underlying27 f Z Z ac λa f=>As f am (Ah f Z Z BX λa f=>l_o f (AC (f.e Z) am (f.e Z)) λa f=>⟨_,gr,m,f.weak ⟨Z,Z,Z,Z,Z,Z,Z,by rw[am];rfl,trivial⟩⟩))))
 ·rintro a w ⟨al,an,m,f⟩
  refine have ac:=rd2 an ac;have ag:=od3 an ag;Aa ?_
  rcases Ae hd with⟨ao,hd⟩|⟨ao,hd⟩
  ·refine An f Z ao (Af (Ab f Z λa f=>Ac f Z λa f=>Aa (Aq (have m:=m.eraseAt 1;?_))))
   obtain rfl:=sj hd
   exact⟨[af],f.g Z,f.d,_,[ae],(gt ak an),m,_,_,Z,Z,ag⟩
  ·refine Ai f Z ao (Ao (Ag (Af (Ac f Z λa f=>Aa (Bd hd λap aq hd=> ?_)))))
   refine AH (λa w=>∃ar:LL,ar=ap∧∃(au:GH) (av:Value) (aw:Itm),GLe al au∧Fr a 65 [(3,av)]∧Mem W au w (aw::H)∧Ow R1 39 au aw av ar) ?_ ?_
   ·refine Al (have m:=m.fr 1;AE (λax a w=>∃ay:LL,∃az:Int,(ay,az)=ax∧∃(aA:GH) (aB:Value) (aC:Itm),GLe al aA∧Fr a 65 [(1,pb ad),(3,aB),(4,iv az)]∧Mem W aA w (ib ad 29 [aa]::aC::H)∧Ow R1 39 aA aC aB ay) aq ⟨_,_,Z,_,af,ae,gr,f.k Z,m,ag⟩ ?_)
    clear aq f m
    rintro ax aD aE aF a w ⟨ay,az,rfl,aA,aB,aC,aG,f,m,aH⟩
    refine have ac:=rd2 aG ac;Ag (Af (Ab f Z λa f=>Bn underlying29 Z sizeOf27 f Z λa f=>AI 0 0 m BM f Z Z Z Z λa f=>AS underlying27 f Z Z ac λa f=>Bd aE λaI aJ aE=>A1 f Z call33 (Wk.J m aJ) λaK w aL m a f=>have ac:=rd2 aL ac;have aH:=od3 aL aH;Ah f Z Z AJ λa f=>Aa ?_))
    rcases Ae aE with⟨aM,aE⟩|⟨aM,aE⟩
    ·refine An f Z aM (Ao (Ag (Al (Af (Ab f Z λa f=>Bd aE λaN aO aE=>BS f Z call34 (Wk.f1 m aO) λaP aQ aR w aS m aT a f=>have ac:=rd2 aS ac;have aH:=od3 aS aH;Ac f Z λa f=>Aa (Ag (Ag (A8 6 AR (by kernel_rfl) m (By (i:=0) (ds:=[aa]) 6 1 AU Z Z Z Z (by kernel_rfl) Z f Z Z Z λa f=>By (i:=1) (ds:=[aa]) 6 1 AU Z Z Z Z (by kernel_rfl) Z f Z Z Z λa f=>Am 3 6 Z f Z λa f=>CK 2 Z λaU w aV m aW aW=>have ac:=rd2 aV ac;have aT:=od1 aV aT;have aH:=od3 aV aH;Bd aE λaX aY aE=>BS f Z call36 (Wk.t m ac aY) λaZ a0 a1 w a2 m a3 a f=>have ac:=rd2 a2 ac;have aT:=od1 a2 aT;have aH:=od3 a2 aH;Aa (aW a1 [a0] _ _ a2 m (CK 4 Z λa4 w a5 m a6 a6=>have ac:=rd2 a5 ac;have a3:=od1 a5 a3;have aT:=od1 a5 aT;have aH:=od3 a5 aH;Bd aE λa7 a8 aE=> ?_)))))))))))
     refine AZ f Z call35 (Ow.lendCall (RI.mono _) 0 a3 m Z (λa9 ba m bb=>(Ow.lendCall (RI.mono _) 0 (od1 ba aT) m Z (λbc bd m be=>Wk.K m (rd2 bd (rd2 ba ac)) (rd1 bd bb) be a8) (λ_ _ _ _ h=>h))) (λ_ _ _ _ h=>h)) λbf bg bh w bi m bj a f=> ?_
     obtain⟨rfl,rfl⟩:=bj
     refine have aT:=od1 bi aT;have aH:=od3 bi aH;Aa (a6 bg [a0] _ _ bi m (q_p 5 6 Z f (λ_=>AP (f.e Z) (f.e Z) Ck) λa f=>A4 λbk w bl m=>have aT:=od1 bl aT;have aH:=od3 bl aH;Aa ?_))
     rcases Ae aE with⟨bm,aE⟩|⟨bm,aE⟩
     ·refine An f Z bm (AB Z (Ak (Ab f Z λa f=>Ah f Z Z Ax λa f=>Ac f Z λa f=>Aa (have m:=m.fr 3;have m:=m.fr 3;have m:=m.eraseAt 3;have m:=m.eraseAt 2;?_))))
      obtain rfl:=sj aE
      exact⟨_,Z,_,_,Z,_,aB,aC,(gt aG (gt aL (gt aS (gt aV (gt a2 (gt a5 (gt bi bl))))))),f.k Z,m,aH⟩
     ·refine Ai f Z bm (Ao (Af (Ab f Z λa f=>Bz 3 m aH Z underlying27 f Z Z λa f=>Ac f Z λa f=>Aa (Ag (Bd aE λbn bo aE=> ?_)))))
      refine AH (λa w=>∃bp:Int,bp=bn∧∃(bq:GH),GLe bk bq∧Fr a 65 [(1,pb ad),(3,aB),(4,iv az),(5,aP),(6,iv bp)]∧Mem W bq w (ib ad 29 [aa]::aC::aQ::H)) ?_ ?_
      ·refine Al (have m:=m.fr 1;have m:=m.fr 3;have m:=m.fr 3;have m:=m.eraseAt 3;AE (λbr a w=>∃bs:Int,bs=br∧∃(bt:GH),GLe bk bt∧Fr a 65 [(1,pb ad),(3,aB),(4,iv az),(5,aP),(6,iv bs)]∧Mem W bt w (ib ad 29 [aa]::aC::aQ::H)) bo ⟨_,Z,_,gr,f.k Z,m⟩ ?_)
       clear bo f m
       rintro br bu bv bw a w ⟨bs,rfl,bt,bx,f,m⟩
       refine have aH:=od3 bx aH;have aT:=od1 bx aT;Ag (Af (Ab f Z λa f=>Ah f Z Z BX λa f=>Ab f Z λa f=>Bd bv λbz bA bv=> ?_))
       refine Bi 8 (λa w=>∃bB,GLe bt bB∧Mem W bB w (ib ad 29 [aa]::aC::aQ::H)∧Fr a 65 [(1,pb ad),(3,aB),(4,iv az),(5,aP),(6,iv bs),(37,iv bs),(38,(.bool (decide ((0:Int)<bs)))),(39,(.bool (decide ((0:Int)<bs)))),(47,(.bool bz))]) ?_ ?_
       ·rcases Ae bA with⟨bC,bA⟩|⟨bC,bA⟩
        ·refine As f bC (Ab f Z λa f=>As f bC (Ab f Z λa f=>As f bC (Ab f Z λa f=>As f bC (Ah f Z Z AT λa f=>As f bC (Bd bA λbD bE bA=>Bq 1 m aH Z T27 f Z Z Z bE λbF a bG f=>As f bC (B2 1 m aH Z Bu f Z Z bG bE λbH a bI f=>As f bC (Bd bA λbJ bK bA=>AZ f Z call37 (Ow.lendCall (RI.mono _) 2 aT m Z (λbL bM m bN=>Wk.z0 m bN (rd1 bM bI) bK) (λ_ _ _ _ h=>h)) λbO bP bQ w bR m bS a f=> ?_)))))))
         obtain⟨rfl,rfl⟩:=bS
         refine l_o f (AD (f.e Z) bC (f.e Z)) λa f=> ?_
         obtain rfl:=sj bA
         exact⟨_,bR,m,f.k Z⟩
        ·refine Au f bC λa f=>Au f bC λa f=>Au f bC λa f=>Au f bC λa f=>Au f bC λa f=>Au f bC λa f=>Au f bC λa f=>l_o f (AC (f.e Z) bC (f.e Z)) λa f=> ?_
         obtain rfl:=sj bA
         exact⟨_,gr,m,f.k Z⟩
       ·rintro a w ⟨bB,bT,m,f⟩
        refine Aa ?_
        rcases Ae bv with⟨bU,bv⟩|⟨bU,bv⟩
        ·refine An f Z bU (Ao (Al (Ak (Ab f Z λa f=>Ah f Z Z AT λa f=>Ac f Z λa f=>Aa ?_))))
         obtain rfl:=sj bv
         exact⟨_,Z,_,Z,_,(gt bx bT),f.k Z,m⟩
        ·refine Ai f Z bU (AB Z ?_)
         obtain rfl:=sj bv
         obtain rfl:=bw _ rfl
         exact⟨_,Z,_,(gt bx bT),f.k Z,m⟩
      ·rintro a w ⟨bp,rfl,bq,bV,f,m⟩
       refine have aH:=od3 bV aH;have aT:=od1 bV aT;Af (AX (R:=R1) (xs:=([]:LL)) (RSl.one _) m T27 f Z Z Z (by decide) (All2.nil _) λbW bX w a m bY f=>Ab f Z λa f=>Ab f Z λa f=>have m:=m.fr 2;?_)
       obtain⟨bZ,b0,m,b1⟩:=Ow.stamp (RSl.mono (RI.mono _)) aH m
       refine have bY:=od3 b0 bY;have aT:=od1 b0 aT;Bd aE λb2 b3 aE=>Ei T27 f Z Z b1 (.inl ⟨Z,Z⟩) (.inr ⟨_,_,Z,Z⟩) b3 λb4 a b5 f=>Bd aE λb6 b7 aE=>Be (RSl.one _) 0 m bY Z T27 Z (by decide) f Z Z Z (b5.src m) b7 λb8 b9 w a m ca f=>Ac f Z λa f=>Az (Ab f Z λa f=>Ab f Z λa f=>have m:=m.fr 2;?_)
       obtain⟨cb,cc,m,cd⟩:=Ow.stamp (RI.mono _) aT m
       refine have b1:=rd2 cc b1;have ca:=od3 cc ca;AX (R:=R1) (xs:=([aN]:LL)) (RSl.one _) m T27 f Z Z Z (by decide) (All2.cons cd (All2.nil _)) λce cf w a m cg f=>Bd aE λch ci aE=>Be (RSl.one _) 1 m ca Z T27 Z (by decide) f Z Z Z (Ow.src (j:=0) cg m Z) ci λcj ck w a m cl f=>Ac f Z λa f=>Aa (Ak (Ab f Z λa f=>Ab f Z λa f=>Ab f Z λa f=>Bd aE λcm cn aE=>Ei T27 f Z Z b1 (.inr ⟨_,_,Z,Z⟩) (.inl ⟨Z,Z⟩) cn λco a cp f=>Bd aE λcq cr aE=>Be (RSl.one _) 1 m cl Z T27 Z (by decide) f Z Z Z (cp.src m) cr λct cu w a m cv f=>Ac f Z λa f=>Aa (Ak (Ab f Z λa f=>Ah f Z Z Ax λa f=>Ac f Z λa f=>Aa (have m:=m.fr 1;have m:=m.fr 2;have m:=m.eraseAt 2;?_)))))
       obtain rfl:=sj aE
       exact⟨_,Z,_,_,Z,_,cu,ct,(gt aG (gt aL (gt aS (gt aV (gt a2 (gt a5 (gt bi (gt bl (gt bV (gt b0 cc)))))))))),f.k Z,m,cv⟩
    ·refine Ai f Z aM (AB Z (have m:=m.fr 1;have m:=m.eraseAt 1;?_))
     obtain rfl:=sj aE
     obtain rfl:=aF _ rfl
     exact⟨_,Z,_,aB,aC,(gt aG aL),f.k Z,m,aH⟩
   ·rintro a w ⟨ar,rfl,au,av,aw,cw,f,m,cx⟩
    refine Af (Ab f Z λa f=>Ac f Z λa f=>Aa (Aq ?_))
    obtain rfl:=sj hd
    exact⟨[av],f.g Z,f.d,_,[aw],(gt ak (gt an cw)),m,_,_,Z,Z,cx⟩
theorem Wk.e1 {aa:Value}{ab:LL}(m:Mem W G w (H))(ac:R2 G aa ab){y:Bool}(hd:D.e1 ab=some y):
  Calls prog 38 #[(.agg #[aa])] w (Res W G H (λ_ Ho v=>Ho=[]∧v=(.bool y))):=by
 refine Aw (args:=[(.agg #[aa])]) (N:=11) [.tmp 2] func38 Z Z (lb Z) Z λa f=> ?_
 unfold D.e1 at hd
 refine Af (Bv (cs:=[aa]) m f Z Z Z λad w a m f=>Ac f Z λa f=>Az (AN 0 0 (ds:=[aa]) m AU f Z Z Z Z Z λa f=>Bd hd λae af hd=>A1 f Z call22 (Wk.z m ac af) λag w ah m a f=>have ac:=rd2 ah ac;Ab f Z λa f=> ?_))
 refine Bi 5 (λa w=>∃ai,GLe ag ai∧Mem W ai w (ib ad 29 [aa]::H)∧Fr a 11 [(0,(.agg #[aa])),(1,pb ad),(3,(.agg #[aa])),(4,(.bool ae)),(5,(.bool ae)),(10,(.bool (ae&&(decide ((ab.length:Int)≤8)))))]) ?_ ?_
 ·rcases Bool.eq_false_or_eq_true ae with aj|aj
  ·exact As f aj (Bn underlying29 Z sizeOf27 f Z λa f=>As f aj (AI 0 0 m BM f Z Z Z Z λa f=>As f aj (AS underlying27 f Z Z ac λa f=>As f aj (Ah f Z Z CA λa f=>l_o f (AD (f.e Z) aj (f.e Z)) λa f=>⟨_,gr,m,f.weak ⟨Z,Z,Z,Z,Z,by rw[aj];rfl,trivial⟩⟩))))
  ·exact Au f aj λa f=>Au f aj λa f=>Au f aj λa f=>Au f aj λa f=>l_o f (AC (f.e Z) aj (f.e Z)) λa f=>⟨_,gr,m,f.weak ⟨Z,Z,Z,Z,Z,by rw[aj];rfl,trivial⟩⟩
 ·rintro a w ⟨ai,ak,m,f⟩
  refine Ac f Z λa f=>Aa (Aq (have m:=m.dp 1;?_))
  obtain rfl:=sj hd
  exact⟨[(.bool (ae&&(decide ((ab.length:Int)≤8))))],f.g Z,f.d,_,[],(gt ah ak),m,Z,Z⟩
theorem Wk.v0 {aa v1:Value}{ab:LL}{x1:LI}(m:Mem W G w (H))(ac:R2 G aa ab)(h1:R1 G v1 x1){y:Bool}(hd:D.v0 ab x1=some y):
  Calls prog 76 #[(.agg #[aa]),v1] w (Res W G H (λ_ Ho v=>Ho=[]∧v=(.bool y))):=by
 refine Aw (args:=[(.agg #[aa]),v1]) (N:=14) [.tmp 4] func76 Z Z (lb Z) Z λa f=> ?_
 unfold D.v0 at hd
 refine Af (Bv (cs:=[aa]) m f Z Z Z λad w a m f=>Ac f Z λa f=>Az (AN 0 0 (ds:=[aa]) m AU f Z Z Z Z Z λa f=>Bd hd λae af hd=>A1 f Z call22 (Wk.z m ac af) λag w ah m a f=>have ac:=rd2 ah ac;have h1:=rd1 ah h1;Ab f Z λa f=>Bd hd λai aj hd=> ?_))
 refine Bi 6 (λa w=>∃ak,GLe ag ak∧Mem W ak w (ib ad 29 [aa]::H)∧Fr a 14 [(0,(.agg #[aa])),(1,v1),(2,pb ad),(5,(.agg #[aa])),(6,(.bool ae)),(7,(.bool ae)),(13,(.bool ai))]) ?_ ?_
 ·rcases Ae aj with⟨al,aj⟩|⟨al,aj⟩
  ·refine As f al (Ab f Z λa f=>As f al (Bn underlying29 Z sizeOf27 f Z λa f=>As f al (AI 0 0 m BM f Z Z Z Z λa f=>As f al (AS underlying27 f Z Z ac λa f=>As f al (Bd aj λam an aj=>A1 f Z call61 (Wk.g0 m h1 an) λao w ap m a f=>l_o f (AD (f.e Z) al (f.e Z)) λa f=> ?_)))))
   obtain rfl:=sj aj
   exact⟨_,ap,m,f.k Z⟩
  ·refine Au f al λa f=>Au f al λa f=>Au f al λa f=>Au f al λa f=>Au f al λa f=>l_o f (AC (f.e Z) al (f.e Z)) λa f=> ?_
   obtain rfl:=sj aj
   exact⟨_,gr,m,f.k Z⟩
 ·rintro a w ⟨ak,aq,m,f⟩
  refine Ac f Z λa f=>Aa (Aq (have m:=m.dp 1;?_))
  obtain rfl:=sj hd
  exact⟨[(.bool ai)],f.g Z,f.d,_,[],(gt ah aq),m,Z,Z⟩
theorem Wk.D0 {aa v1:Value}{ab:LL}{x1:LI}(hW:BD W)(m:Mem W G w (H))(ac:R2 G aa ab)(h1:R1 G v1 x1){y:Bool}(hd:D.D0 ab x1=some y):
  Calls prog 39 #[(.agg #[aa]),v1] w (Res W G H (λ_ Ho v=>Ho=[]∧v=(.bool y))):=by
 refine Aw (args:=[(.agg #[aa]),v1]) (N:=24) [.tmp 4] func39 Z Z (lb Z) Z λa f=> ?_
 unfold D.D0 at hd
 refine Af (Bv (cs:=[aa]) m f Z Z Z λad w a m f=>Ac f Z λa f=>Aa (Ag (Af (AN 0 0 (ds:=[aa]) m AU f Z Z Z Z Z λa f=>Ab f Z λa f=>Bd hd λae af hd=>A1 f Z call76 (Wk.v0 m ac h1 af) λag w ah m a f=>have ac:=rd2 ah ac;have h1:=rd1 ah h1;l_o f (Bc (f.e Z)) λa f=>Ab f Z λa f=> ?_))))
 refine Bi 4 (λa w=>∃ai,GLe ag ai∧Mem W ai w (ib ad 29 [aa]::H)∧Fr a 24 [(0,(.agg #[aa])),(1,v1),(2,pb ad),(6,(.agg #[aa])),(7,v1),(8,(.bool ae)),(9,(.bool (!ae))),(10,(.bool (!ae))),(14,(.bool ((!ae)||((x1.length:Int)==0))))]) ?_ ?_
 ·rcases Bool.eq_false_or_eq_true (!ae) with aj|aj
  ·exact Au f aj λa f=>Au f aj λa f=>Au f aj λa f=>l_o f (AD (f.e Z) aj (f.e Z)) λa f=>⟨_,gr,m,f.weak ⟨Z,Z,Z,Z,Z,Z,Z,Z,by rw[aj];rfl,trivial⟩⟩
  ·exact As f aj (Ab f Z λa f=>As f aj (AS underlying39 f Z Z h1 λa f=>As f aj (Ah f Z Z Bf λa f=>l_o f (AC (f.e Z) aj (f.e Z)) λa f=>⟨_,gr,m,f.weak ⟨Z,Z,Z,Z,Z,Z,Z,Z,by rw[aj];rfl,trivial⟩⟩)))
 ·rintro a w ⟨ai,ak,m,f⟩
  refine have ac:=rd2 ak ac;have h1:=rd1 ak h1;Aa ?_
  rcases Ae hd with⟨al,hd⟩|⟨al,hd⟩
  ·refine An f Z al (Af (Ac f Z λa f=>Aa (Aq (have m:=m.dp 1;?_))))
   obtain rfl:=sj hd
   exact⟨[(.bool false)],f.g Z,f.d,_,[],(gt ah ak),m,Z,Z⟩
  ·refine Ai f Z al (Ao (Af (AN 0 0 (ds:=[aa]) m AU f Z Z Z Z Z λa f=>Bd hd λam an hd=>BS f Z call23 (Wk.v m ac an) λao ap aq w ar m au a f=>have h1:=rd1 ar h1;Ac f Z λa f=>Az (Ab f Z λa f=>Ab f Z λa f=>Bd hd λav aw hd=>AZ f Z call26 (Ow.lendCall (RI.mono _) 0 au m Z (λax ay m az=>Wk.r m az aw) (λ_ _ _ _ h=>h)) λaA aB aC w aD m aE a f=> ?_))))
   obtain⟨rfl,rfl⟩:=aE
   refine have h1:=rd1 aD h1;have au:=od1 aD au;Ab f Z λa f=>Bd hd λaF aG hd=>A1 f Z call40 (Wk.A m h1 aG) λaH w aI m a f=>have au:=od1 aI au;Bd hd λaJ aK hd=>AZ f Z call77 (Ow.lendCall (RI.mono _) 0 au m Z (λaL aM m aN=>Wk.C hW m aN aK) (λ_ _ _ _ h=>h)) λaO aP aQ w aR m aS a f=> ?_
   obtain⟨rfl,rfl⟩:=aS
   refine Ah f Z Z Bf λa f=>Ac f Z λa f=>Aa (Aq (have m:=m.dp 2;?_))
   obtain rfl:=sj hd
   exact⟨[(.bool (aJ==0))],f.g Z,f.d,_,[],(gt ah (gt ak (gt ar (gt aD (gt aI aR))))),m,Z,Z⟩
theorem Wk.H0 {x0 x1:Int}(hW:BD W)(m:Mem W G w (H)){y:Int}(hd:D.H0 x0 x1=some y):
  Calls prog 96 #[(.int .u32 x0),(.int .u32 x1)] w (Res W G H (λ_ Ho v=>Ho=[]∧v=(iv y))):=by
 refine Aw (args:=[(.int .u32 x0),(.int .u32 x1)]) (N:=10) [.tmp 4] func96 Z Z (lb Z) Z λa f=> ?_
 unfold D.H0 at hd
 refine Af (Ac f Z λa f=>Az (Ab f Z λa f=>Bd hd λaa ab hd=>BS f Z call83 (Wk.i hW m ab) λac ad ae w af m ag a f=>Ab f Z λa f=>Bd hd λah ai hd=>BS f Z call83 (Wk.i hW m ai) λaj ak al w am m an a f=>have ag:=od1 am ag;Bd hd λao ap hd=>AZ f Z call109 (Ow.lendCall (RI.mono _) 1 ag m Z (λaq ar m au=>(Ow.lendCall (RI.mono _) 0 (od1 ar an) m Z (λav aw m ax=>Wk.A0 m (rd1 aw au) ax ap) (λ_ _ _ _ h=>h))) (λ_ _ _ _ h=>h)) λay az aA w aB m aC a f=> ?_))
 obtain⟨rfl,rfl⟩:=aC
 refine Ac f Z λa f=>Aa (Aq (have m:=m.dp 2;?_))
 obtain rfl:=sj hd
 exact⟨[iv ao],f.g Z,f.d,_,[],(gt af (gt am aB)),m,Z,Z⟩
end Go.Proofs.YthdcaieaajekcaaGreatDoor
