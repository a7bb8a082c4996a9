/- Parts of the proof: WEW, WFW, QHandF, WGW, Qb, Pf, Pg, T1D, Qc, Qd, Qe, V1D, Ra, Rb, F1D. -/
import Derived.Test.YtkffjeaefgfnnaaGreatDoorWi4
import Derived.Test.YtkffjeaefgfnnaaGreatDoorProg
import Derived.KernelRfl
import Derived.Lib.TrailingZeros
set_option linter.unusedVariables false
set_option linter.unusedSimpArgs false
set_option linter.unusedSectionVars false
set_option maxRecDepth 100000
namespace Go.Proofs.YtkffjeaefgfnnaaGreatDoor
open Go Go.Sx
theorem Wk.Q {W:World}(n:Nat):∀{w:World} {G:GH} {H:List Itm} {v0_0:Value} {v1:Value} {it1:Itm} {v2:Value} {it2:Itm} {x0_0:(List (List Int))} {x1:(List Bool)} {x2:(List Int)} (m:Mem W G w (it1::it2::H)) (h0_0:RSl (RSl (RI .i64)) G v0_0 x0_0) (o1:Ow RB 4 G it1 v1 x1) (o2:Ow (RI .i64) 2 G it2 v2 x2) {y:Int×((List Bool))×((List Int))} (hd:D.Q n x0_0 x1 x2=some y),
  Calls Tryz.prog 43 #[(.agg #[v0_0]),v1,v2] w (Res W G H (fun G' Ho v=>∃i0:Itm,∃i1:Itm,Ho=[i0,i1]∧v=(.int .i64 y.1)∧Ow RB 4 G' i0 v1 y.2.1∧Ow (RI .i64) 2 G' i1 v2 y.2.2)):=by
 induction n with
 |zero=>intros;rename_i hd;simp[D.Q] at hd
 |succ fuel ih=>
  intro w G H v0_0 v1 it1 v2 it2 x0_0 x1 x2 m h0_0 o1 o2 y hd
  refine Ar (args:=[(.agg #[v0_0]),v1,v2]) (N:=66) [.tmp 6] Tryz.func43 Z Z (Nat.le_of_ble_eq_true Z) Z fun a f=> ?_
  unfold D.Q at hd
  refine Ac ?_
  refine Bn (cs:=[v0_0]) m f Z Z Z fun aa w a m f=>Ad f Z fun a f=>Aa (Ac ?_)
  refine Ab f Z fun a f=> ?_
  obtain⟨ab,ac,hd⟩:=bind_some hd
  refine AF f Z Tryz.call83 (Ow.lendCall RB.mono 1 o1 m Z (fun ad ae m af=>Wk.t0 m af ac) (fun _ _ _ _ h=>h)) fun ag ah ai w aj m ak a f=> ?_
  obtain⟨rfl,rfl⟩:=ak
  have h0_0:=rd2 aj h0_0
  have o1:=Ow.mono RB.mono aj o1
  have o2:=od1 aj o2
  refine Ad f Z fun a f=>Aa (Af (Ac ?_))
  refine Ab f Z fun a f=>Ab f Z fun a f=> ?_
  obtain⟨al,am,hd⟩:=bind_some hd
  refine AQ 2 m o2 Z T31 f Z Z Z am fun an a ao f=>Br 2 m o2 Z Pl2 f Z Z ao am fun ap a aq f=> ?_
  subst aq
  refine Ag f Z Z Ck fun a f=>Aa ?_
  rcases Ae hd with⟨ar,hd⟩|⟨ar,hd⟩
  ·refine Am f Z ar ?_
   refine Ac ?_
   refine Ab f Z fun a f=>Ab f Z fun a f=> ?_
   obtain⟨au,av,hd⟩:=bind_some hd
   refine AQ 2 m o2 Z T31 f Z Z Z av fun aw a ax f=>Br 2 m o2 Z Pl2 f Z Z ax av fun ay a az f=> ?_
   subst az
   refine Ad f Z fun a f=>Aa ?_
   refine Ap ?_
   have m:=m.front 2 rfl
   have m:=m.front 2 rfl
   have m:=m.eraseAt 2
   obtain rfl:=sj hd
   exact⟨[(.int .i64 au)],⟨f.get _ _ Z,trivial⟩,f.defers,_,[it1,it2],aj,m,_,_,Z,Z,o1,o2⟩
  ·refine Ah f Z ar ?_
   refine An ?_
   refine Ac ?_
   refine Ad f Z fun a f=>Aa (Af (Ac ?_))
   refine Ad f Z fun a f=>Aa ?_
   obtain⟨aA,aB,hd⟩:=bind_some hd
   refine AE (fun a w=>∃aC:List Int,∃aD:List Bool,∃aE:Int,(aC,aD,aE)=aA∧∃(aF:GH) (aG:Itm) (aH:Itm),GLe ah aF∧Fr a 66 [(2,v2),(7,(.int .i64 ab)),(8,(.int .i64 aE))]∧Mem W aF w (aG::aH::H)∧Ow (RI .i64) 2 aF aG v2 aC∧Ow RB 4 aF aH v1 aD) ?_ ?_
   ·refine Ai ?_
    have m:=m.front 2 rfl
    have m:=m.front 1 rfl
    refine AB (fun aI a w=>∃aJ:List Int,∃aK:List Bool,∃aL:Int,∃aM:Int,(aJ,aK,aL,aM)=aI∧∃(aN:GH) (aO:Itm) (aP:Itm),GLe ah aN∧Fr a 66 [(1,v1),(2,v2),(3,(.pointer (some ⟨aa,0,none⟩))),(7,(.int .i64 ab)),(8,(.int .i64 aL)),(9,(.int .i64 aM))]∧Mem W aN w (Itm.box aa 29 [v0_0]::aO::aP::H)∧Ow (RI .i64) 2 aN aO v2 aJ∧Ow RB 4 aN aP v1 aK) aB ⟨_,_,_,_,Z,_,it2,it1,gr,f.k Z,m,o2,o1⟩ ?_
    clear aB f m
    rintro aI aQ aR aS a w ⟨aJ,aK,aL,aM,rfl,aN,aO,aP,aT,f,m,aU,aV⟩
    have h0_0:=rd2 aT h0_0
    refine Af (Ac ?_)
    refine Ab f Z fun a f=>AA 0 0 (ds:=[v0_0]) m AW f Z Z Z Z Z fun a f=> ?_
    obtain⟨aW,aX,aR⟩:=bind_some aR
    refine AY f Z Tryz.call42 (Wk.a m h0_0 aX) fun aY w aZ m a f=> ?_
    have h0_0:=rd2 aZ h0_0
    have aU:=od1 aZ aU
    have aV:=Ow.mono RB.mono aZ aV
    refine Ag f Z Z AD fun a f=>Aa ?_
    rcases Ae aR with⟨a2,aR⟩|⟨a2,aR⟩
    ·refine Am f Z a2 ?_
     refine An ?_
     refine Af (Ai (Af (Ac ?_)))
     refine Ab f Z fun a f=>Ab f Z fun a f=> ?_
     obtain⟨a3,a4,aR⟩:=bind_some aR
     refine AQ 2 m aV Z T71 f Z Z Z a4 fun a5 a a6 f=>Br 2 m aV Z Pl4 f Z Z a6 a4 fun a7 a a8 f=> ?_
     subst a8
     refine Aa ?_
     rcases Ae aR with⟨a9,aR⟩|⟨a9,aR⟩
     ·refine Am f Z a9 ?_
      refine Ax Z ?_
      refine Aj ?_
      refine Ab f Z fun a f=>Ag f Z Z As fun a f=>Ad f Z fun a f=>Aa ?_
      obtain rfl:=sj aR
      exact⟨_,Z,_,_,_,_,Z,_,aO,aP,(gt aT aZ),f.k Z,m,aU,aV⟩
     ·refine Ah f Z a9 ?_
      refine An ?_
      refine Ac ?_
      refine AA 0 0 (ds:=[v0_0]) m AW f Z Z Z Z Z fun a f=>Ab f Z fun a f=>Ab f Z fun a f=> ?_
      obtain⟨ba,bb,aR⟩:=bind_some aR
      refine AF f Z Tryz.call44 (Ow.lendCall RB.mono 2 aV m Z (fun bc bd m be=>Wk.E m (rd2 bd h0_0) be bb) (fun _ G' _ _ ⟨a0,a1,e1,e2,o0⟩=>⟨a0,a1,e1,e2,Ow.free (RI.free _) G' o0⟩)) fun bf bg bh w bi m bj a f=> ?_
      obtain⟨bk,bl,rfl,rfl,bm⟩:=bj
      have h0_0:=rd2 bi h0_0
      have aU:=od1 bi aU
      have aV:=Ow.mono RB.mono bi aV
      refine Bl 0 m bm Z Tryz.underlying31 f Z Z fun a f=>Ad f Z fun a f=>Aa (Ac ?_)
      refine Ab f Z fun a f=>Ab f Z fun a f=> ?_
      obtain⟨bn,bo,aR⟩:=bind_some aR
      refine AQ 3 m aV Z T71 f Z Z Z bo fun bp a bq f=>AC 3 m aV Z Tryz.sizeOf4 f Z Z bq bo Z Z Z fun br w m bs=>Aa (Ac ?_)
      refine Ab f Z fun a f=>AA 1 0 (ds:=[v0_0]) m AW f Z Z Z Z Z fun a f=>Ab f Z fun a f=>Ab f Z fun a f=> ?_
      have m:=m.front 2 rfl
      have m:=m.front 3 rfl
      obtain⟨bt,bu,aR⟩:=bind_some aR
      refine AF f Z Tryz.call43 (ih m h0_0 bs aU bu) fun bv bw bx w bz m bA a f=> ?_
      obtain⟨bB,bC,rfl,rfl,bD,bE⟩:=bA
      have h0_0:=rd2 bz h0_0
      have bm:=od1 bz bm
      obtain⟨bF,bG,aR⟩:=bind_some aR
      refine AY f Z Tryz.call47 (Wk.m m bG) fun bH w bI m a f=> ?_
      have h0_0:=rd2 bI h0_0
      have bD:=Ow.mono RB.mono bI bD
      have bE:=od1 bI bE
      have bm:=od1 bI bm
      refine Ad f Z fun a f=>Aa (Ac ?_)
      refine Ab f Z fun a f=>Ab f Z fun a f=> ?_
      obtain⟨bJ,bK,aR⟩:=bind_some aR
      refine AQ 0 m bD Z T71 f Z Z Z bK fun bL a bM f=>AC 0 m bD Z Tryz.sizeOf4 f Z Z bM bK Z Z Z fun bN w m bO=>Aa (Ac ?_)
      refine Ab f Z fun a f=>Ag f Z Z AD fun a f=>Ab f Z fun a f=> ?_
      refine Bw 4 (fun a w=>∃bP,GLe bH bP∧Mem W bP w (bN::bC::bl::Itm.box aa 29 [v0_0]::H)∧Fr a 66 [(1,v1),(2,v2),(3,(.pointer (some ⟨aa,0,none⟩))),(7,(.int .i64 ab)),(8,(.int .i64 aL)),(9,(.int .i64 aM)),(10,(.int .i64 bF)),(49,(.int .i64 aL)),(50,(.bool (decide (aL<0)))),(51,(.bool (decide (aL<0)))),(55,(.bool ((decide (aL<0))||(decide (bF<aL)))))]) ?_ ?_
      ·rcases Bool.eq_false_or_eq_true (decide (aL<0)) with bQ|bQ
       ·refine Aw f bQ fun a f=> ?_
        refine Aw f bQ fun a f=>Aw f bQ fun a f=>l_o f (AN (f.eval Z) bQ (f.eval Z)) fun a f=> ?_
        exact⟨_,gr,m,f.weak ⟨Z,Z,Z,Z,Z,Z,Z,Z,Z,Z,by rw[bQ];rfl,trivial⟩⟩
       ·refine Av f bQ ?_
        refine Ab f Z fun a f=>Av f bQ ?_
        refine Ab f Z fun a f=>Av f bQ ?_
        refine Ag f Z Z AD fun a f=>l_o f (AO (f.eval Z) bQ (f.eval Z)) fun a f=> ?_
        exact⟨_,gr,m,f.weak ⟨Z,Z,Z,Z,Z,Z,Z,Z,Z,Z,by rw[bQ];rfl,trivial⟩⟩
      ·rintro a w ⟨bP,bR,m,f⟩
       have bO:=Ow.mono RB.mono bR bO
       have bE:=od1 bR bE
       have bm:=od1 bR bm
       have h0_0:=rd2 bR h0_0
       refine Aa ?_
       rcases Ae aR with⟨bS,aR⟩|⟨bS,aR⟩
       ·refine Am f Z bS ?_
        refine Aj ?_
        refine Ab f Z fun a f=>Ad f Z fun a f=>Aa (Aj ?_)
        refine Ab f Z fun a f=>Ag f Z Z As fun a f=>Ad f Z fun a f=>Aa ?_
        have m:=m.front 1 rfl
        have m:=m.front 3 rfl
        have m:=m.eraseAt 3
        obtain rfl:=sj aR
        exact⟨_,Z,_,_,_,_,Z,_,bC,bN,(gt aT (gt aZ (gt bi (gt bz (gt bI bR))))),f.k Z,m,bE,bO⟩
       ·refine Ah f Z bS ?_
        refine An ?_
        refine Aj ?_
        refine Ab f Z fun a f=>Ag f Z Z As fun a f=>Ad f Z fun a f=>Aa ?_
        have m:=m.front 1 rfl
        have m:=m.front 3 rfl
        have m:=m.eraseAt 3
        obtain rfl:=sj aR
        exact⟨_,Z,_,_,_,_,Z,_,bC,bN,(gt aT (gt aZ (gt bi (gt bz (gt bI bR))))),f.k Z,m,bE,bO⟩
    ·refine Ah f Z a2 ?_
     refine Ax Z ?_
     have m:=m.front 2 rfl
     have m:=m.front 2 rfl
     have m:=m.eraseAt 2
     obtain rfl:=sj aR
     obtain rfl:=aS _ rfl
     exact⟨_,_,_,Z,_,aO,aP,(gt aT aZ),f.k Z,m,aU,aV⟩
   ·rintro a w ⟨aC,aD,aE,rfl,aF,aG,aH,bT,f,m,bU,bV⟩
    refine Ac ?_
    refine Ab f Z fun a f=>Ab f Z fun a f=>Ab f Z fun a f=> ?_
    obtain⟨bW,bX,hd⟩:=bind_some hd
    refine AY f Z Tryz.call47 (Wk.m m bX) fun bY w bZ m a f=> ?_
    have bU:=od1 bZ bU
    have bV:=Ow.mono RB.mono bZ bV
    obtain⟨b0,b1,hd⟩:=bind_some hd
    refine AQ 0 m bU Z T31 f Z Z Z b1 fun b2 a b3 f=>AC 0 m bU Z Tryz.sizeOf2 f Z Z b3 b1 Z Z Z fun b4 w m b5=>Aa (Ac ?_)
    refine Ab f Z fun a f=>Ab f Z fun a f=> ?_
    obtain⟨b6,b7,hd⟩:=bind_some hd
    refine AQ 0 m b5 Z T31 f Z Z Z b7 fun b8 a b9 f=>Br 0 m b5 Z Pl2 f Z Z b9 b7 fun ca a cb f=> ?_
    subst cb
    refine Ad f Z fun a f=>Aa ?_
    refine Ap ?_
    have m:=m.front 1 rfl
    obtain rfl:=sj hd
    exact⟨[(.int .i64 b6)],⟨f.get _ _ Z,trivial⟩,f.defers,_,[aH,b4],(gt aj (gt bT bZ)),m,_,_,Z,Z,bV,b5⟩
theorem Wk.j {W w:World}{G:GH}{H:List Itm}{v0_0:Value}{v1:Value}{it1:Itm}{v2:Value}{it2:Itm}{x0_0:(List (List Int))}{x1:(List Bool)}{x2:(List Int)}(m:Mem W G w (it1::it2::H))(h0_0:RSl (RSl (RI .i64)) G v0_0 x0_0)(o1:Ow RB 4 G it1 v1 x1)(o2:Ow (RI .i64) 2 G it2 v2 x2){y:Int×((List Bool))×((List Int))}(hd:D.j x0_0 x1 x2=some y):
  Calls Tryz.prog 43 #[(.agg #[v0_0]),v1,v2] w (Res W G H (fun G' Ho v=>∃i0:Itm,∃i1:Itm,Ho=[i0,i1]∧v=(.int .i64 y.1)∧Ow RB 4 G' i0 v1 y.2.1∧Ow (RI .i64) 2 G' i1 v2 y.2.2)):=by
 exact Wk.Q Bs m h0_0 o1 o2 hd
theorem Wk.V0 {W w:World}{G:GH}{H:List Itm}{v0_0:Value}{v1:Value}{x0_0:(List (List Int))}{x1:(List Int)}(m:Mem W G w (H))(h0_0:RSl (RSl (RI .i64)) G v0_0 x0_0)(h1:RSl (RI .i64) G v1 x1){y:Int}(hd:D.V0 x0_0 x1=some y):
  Calls Tryz.prog 39 #[(.agg #[v0_0]),v1] w (Res W G H (fun _ Ho v=>Ho=[]∧v=(.int .i64 y))):=by
 refine Ar (args:=[(.agg #[v0_0]),v1]) (N:=22) [.tmp 4] Tryz.func39 Z Z (Nat.le_of_ble_eq_true Z) Z fun a f=> ?_
 unfold D.V0 at hd
 refine Ac ?_
 refine Bn (cs:=[v0_0]) m f Z Z Z fun aa w a m f=>Ad f Z fun a f=>Aa (Af (Ac ?_))
 refine AA 0 0 (ds:=[v0_0]) m AW f Z Z Z Z Z fun a f=> ?_
 obtain⟨ab,ac,hd⟩:=bind_some hd
 refine AY f Z Tryz.call40 (Wk.F m h0_0 ac) fun ad w ae m a f=> ?_
 have h0_0:=rd2 ae h0_0
 have h1:=rd1 ae h1
 refine l_o f (Bp (f.eval Z)) fun a f=>Ab f Z fun a f=> ?_
 obtain⟨af,ag,hd⟩:=bind_some hd
 refine Bw 6 (fun a w=>∃ah,GLe ad ah∧Mem W ah w (Itm.box aa 29 [v0_0]::H)∧Fr a 22 [(0,(.agg #[v0_0])),(1,v1),(2,(.pointer (some ⟨aa,0,none⟩))),(5,(.agg #[v0_0])),(6,(.bool ab)),(7,(.bool (!ab))),(8,(.bool (!ab))),(14,(.bool af))]) ?_ ?_
 ·rcases Ae ag with⟨ai,ag⟩|⟨ai,ag⟩
  ·refine Aw f ai fun a f=> ?_
   refine Aw f ai fun a f=>Aw f ai fun a f=>Aw f ai fun a f=>Aw f ai fun a f=>l_o f (AN (f.eval Z) ai (f.eval Z)) fun a f=> ?_
   obtain rfl:=sj ag
   exact⟨_,gr,m,f.k Z⟩
  ·refine Av f ai ?_
   refine Ab f Z fun a f=>Av f ai ?_
   refine AA 0 0 (ds:=[v0_0]) m AW f Z Z Z Z Z fun a f=>Av f ai ?_
   obtain⟨aj,ak,ag⟩:=bind_some ag
   refine AY f Z Tryz.call42 (Wk.a m h0_0 ak) fun al w am m a f=> ?_
   have h0_0:=rd2 am h0_0
   have h1:=rd1 am h1
   refine Av f ai ?_
   obtain⟨an,ao,ag⟩:=bind_some ag
   refine AY f Z Tryz.call50 (Wk.q m h1 ao) fun ap w aq m a f=> ?_
   have h0_0:=rd2 aq h0_0
   have h1:=rd1 aq h1
   refine Av f ai ?_
   refine l_o f (Bp (f.eval Z)) fun a f=>l_o f (AO (f.eval Z) ai (f.eval Z)) fun a f=> ?_
   obtain rfl:=sj ag
   exact⟨_,(gt am aq),m,f.k Z⟩
 ·rintro a w ⟨ah,ar,m,f⟩
  have h0_0:=rd2 ar h0_0
  have h1:=rd1 ar h1
  refine Aa ?_
  rcases Ae hd with⟨au,hd⟩|⟨au,hd⟩
  ·refine Am f Z au ?_
   refine Ac ?_
   refine Ad f Z fun a f=>Aa ?_
   refine Ap ?_
   have m:Mem W ah w H:=Mem.drop (H':=[Itm.box aa 29 [v0_0]]) m
   obtain rfl:=sj hd
   exact⟨[(.int .i64 (-1))],⟨f.get _ _ Z,trivial⟩,f.defers,_,[],(gt ae ar),m,Z,Z⟩
  ·refine Ah f Z au ?_
   refine An ?_
   refine Af ?_
   refine A7 6 AJ (by kernel_rfl) m ?_
   refine BC (i:=0) (ds:=[v0_0]) 6 0 AW Z Z Z Z (by kernel_rfl) Z f Z Z Z fun a f=>BC (i:=1) (ds:=[v0_0]) 6 0 AW Z Z Z Z (by kernel_rfl) Z f Z Z Z fun a f=>Ak 2 6 Z f Z fun a f=>BC (i:=4) (ds:=[v0_0]) 6 0 AW Z Z Z Z (by kernel_rfl) Z f Z Z Z fun a f=>BJ (i:=3) Z (by kernel_rfl) Z fun av w aw m ax ax=> ?_
   have h0_0:=rd2 aw h0_0
   have h1:=rd1 aw h1
   obtain⟨ay,az,hd⟩:=bind_some hd
   refine AF f Z Tryz.call82 (Wk.n1 m h0_0 h1 az) fun aA aB aC w aD m aE a f=> ?_
   obtain⟨aF,aG,rfl,rfl,aH⟩:=aE
   have h0_0:=rd2 aD h0_0
   have h1:=rd1 aD h1
   refine Aa ?_
   refine ax aB [aG] _ _ aD m ?_
   refine BJ (i:=5) Z (by kernel_rfl) Z fun aI w aJ m aK aK=> ?_
   have h0_0:=rd2 aJ h0_0
   have h1:=rd1 aJ h1
   have aH:=Ow.mono RB.mono aJ aH
   obtain⟨aL,aM,hd⟩:=bind_some hd
   refine AF f Z Tryz.call41 (Wk.W m h0_0 aM) fun aN aO aP w aQ m aR a f=> ?_
   obtain⟨aS,aT,rfl,rfl,aU⟩:=aR
   have h0_0:=rd2 aQ h0_0
   have h1:=rd1 aQ h1
   have aH:=Ow.mono RB.mono aQ aH
   refine Aa ?_
   refine aK aO [aT,aG] _ _ aQ m ?_
   refine AV fun aV w aW m=> ?_
   have h0_0:=rd2 aW h0_0
   have h1:=rd1 aW h1
   have aU:=od1 aW aU
   have aH:=Ow.mono RB.mono aW aH
   have m:=m.front 1 rfl
   obtain⟨aX,aY,hd⟩:=bind_some hd
   refine AF f Z Tryz.call43 (Wk.j m h0_0 aH aU aY) fun aZ a0 a1 w a2 m a3 a f=> ?_
   obtain⟨a4,a5,rfl,rfl,a6,a7⟩:=a3
   have h0_0:=rd2 a2 h0_0
   have h1:=rd1 a2 h1
   refine Ad f Z fun a f=>Aa ?_
   refine Ap ?_
   have m:Mem W a0 w H:=Mem.drop (H':=[a4,a5,Itm.box aa 29 [v0_0]]) m
   obtain rfl:=sj hd
   exact⟨[(.int .i64 aX.1)],⟨f.get _ _ Z,trivial⟩,f.defers,_,[],(gt ae (gt ar (gt aw (gt aD (gt aJ (gt aQ (gt aW a2))))))),m,Z,Z⟩
theorem Wk.n0 {W w:World}{G:GH}{H:List Itm}{v0_0:Value}{x0_0:(List (List Int))}(m:Mem W G w (H))(h0_0:RSl (RSl (RI .i64)) G v0_0 x0_0){y:Int}(hd:D.n0 x0_0=some y):
  Calls Tryz.prog 12 #[(.agg #[v0_0])] w (Res W G H (fun _ Ho v=>Ho=[]∧v=(.int .i64 y))):=by
 refine Ar (args:=[(.agg #[v0_0])]) (N:=6) [.tmp 2] Tryz.func12 Z Z (Nat.le_of_ble_eq_true Z) Z fun a f=> ?_
 unfold D.n0 at hd
 refine Ac ?_
 refine Bn (cs:=[v0_0]) m f Z Z Z fun aa w a m f=>Ad f Z fun a f=>Aa (Ac ?_)
 refine AA 0 0 (ds:=[v0_0]) m AW f Z Z Z Z Z fun a f=>A5 (R:=(RI .i64)) (xs:=([]:List Int)) (RI.one _) m T31 f Z Z Z (by decide) (All2.nil _) fun ab ac w a m ad f=> ?_
 obtain⟨ae,af,hd⟩:=bind_some hd
 refine AF f Z Tryz.call39 (Ow.lendCall (RI.mono _) 0 ad m Z (fun ag ah m ai=>Wk.V0 m (rd2 ah h0_0) ai af) (fun _ _ _ _ h=>h)) fun aj ak al w am m an a f=> ?_
 obtain⟨rfl,rfl⟩:=an
 have h0_0:=rd2 am h0_0
 have ad:=od1 am ad
 refine Ad f Z fun a f=>Aa ?_
 refine Ap ?_
 have m:Mem W ak w H:=Mem.drop (H':=[ab,Itm.box aa 29 [v0_0]]) m
 obtain rfl:=sj hd
 exact⟨[(.int .i64 ae)],⟨f.get _ _ Z,trivial⟩,f.defers,_,[],am,m,Z,Z⟩
theorem Wk.e0 {W w:World}{G:GH}{H:List Itm}{v0_0:Value}{x0_0:(List (List Int))}(m:Mem W G w (H))(h0_0:RSl (RSl (RI .i64)) G v0_0 x0_0){y:((List Int))}(hd:D.e0 x0_0=some y):
  Calls Tryz.prog 14 #[(.agg #[v0_0])] w (Res W G H (fun G' Ho v=>∃r0:Value,∃i0:Itm,Ho=[i0]∧r0=v∧Ow (RI .i64) 2 G' i0 r0 y)):=by
 refine Ar (args:=[(.agg #[v0_0])]) (N:=63) [.tmp 2] Tryz.func14 Z Z (Nat.le_of_ble_eq_true Z) Z fun a f=> ?_
 unfold D.e0 at hd
 refine Ac ?_
 refine Bn (cs:=[v0_0]) m f Z Z Z fun aa w a m f=>Ad f Z fun a f=>Aa (Ac ?_)
 refine A5 (R:=(RI .i64)) (xs:=([]:List Int)) (RI.one _) m T31 f Z Z Z (by decide) (All2.nil _) fun ab ac w a m ad f=>Ad f Z fun a f=>Aa (Af (Ac ?_))
 refine AA 1 0 (ds:=[v0_0]) m AW f Z Z Z Z Z fun a f=> ?_
 obtain⟨ae,af,hd⟩:=bind_some hd
 refine AY f Z Tryz.call40 (Wk.F m h0_0 af) fun ag w ah m a f=> ?_
 have h0_0:=rd2 ah h0_0
 have ad:=od1 ah ad
 refine l_o f (Bp (f.eval Z)) fun a f=>Aa ?_
 rcases Ae hd with⟨ai,hd⟩|⟨ai,hd⟩
 ·refine Am f Z ai ?_
  refine Ac ?_
  refine Ab f Z fun a f=>Ad f Z fun a f=>Aa ?_
  refine Ap ?_
  have m:=m.eraseAt 1
  obtain rfl:=sj hd
  exact⟨[ac],⟨f.get _ _ Z,trivial⟩,f.defers,_,[ab],ah,m,_,_,Z,Z,ad⟩
 ·refine Ah f Z ai ?_
  refine An ?_
  refine Ac ?_
  refine AA 1 0 (ds:=[v0_0]) m AW f Z Z Z Z Z fun a f=> ?_
  obtain⟨aj,ak,hd⟩:=bind_some hd
  refine AF f Z Tryz.call41 (Wk.W m h0_0 ak) fun al am an w ao m ap a f=> ?_
  obtain⟨aq,ar,rfl,rfl,au⟩:=ap
  have h0_0:=rd2 ao h0_0
  have ad:=od1 ao ad
  refine Ad f Z fun a f=>Aa (Ac ?_)
  refine AA 2 0 (ds:=[v0_0]) m AW f Z Z Z Z Z fun a f=> ?_
  obtain⟨av,aw,hd⟩:=bind_some hd
  refine AY f Z Tryz.call42 (Wk.a m h0_0 aw) fun ax w ay m a f=> ?_
  have h0_0:=rd2 ay h0_0
  have au:=od1 ay au
  have ad:=od1 ay ad
  obtain⟨az,aA,hd⟩:=bind_some hd
  refine CT (R:=RB) m T71 Z (by decide) Z f Z Z Z aA fun aB aC w a m aD f=>Ad f Z fun a f=>Aa (Ac ?_)
  refine AA 3 0 (ds:=[v0_0]) m AW f Z Z Z Z Z fun a f=>Ab f Z fun a f=>Ab f Z fun a f=> ?_
  obtain⟨aE,aF,hd⟩:=bind_some hd
  refine AF f Z Tryz.call43 (Wk.j m h0_0 aD au aF) fun aG aH aI w aJ m aK a f=> ?_
  obtain⟨aL,aM,rfl,rfl,aN,aO⟩:=aK
  have h0_0:=rd2 aJ h0_0
  have ad:=od1 aJ ad
  refine Ad f Z fun a f=>Aa (Af ?_)
  obtain⟨aP,aQ,hd⟩:=bind_some hd
  refine AE (fun a w=>∃aR:List Int,aR=aP∧∃(aS:GH) (aT:Value) (aU:Itm),GLe aH aS∧Fr a 63 [(3,aT)]∧Mem W aS w (aU::H)∧Ow (RI .i64) 2 aS aU aT aR) ?_ ?_
  ·refine Ai ?_
   have m:=m.front 1 rfl
   have m:=m.front 2 rfl
   have m:=m.front 3 rfl
   refine AB (fun aV a w=>∃aW:List Int,∃aX:List Int,∃aY:List Bool,(aW,aX,aY)=aV∧∃(aZ:GH) (a2:Value) (a3:Itm) (a4:Itm) (a5:Itm),GLe aH aZ∧Fr a 63 [(1,(.pointer (some ⟨aa,0,none⟩))),(3,a2),(4,aq),(5,aC),(6,(.int .i64 aE.1))]∧Mem W aZ w (Itm.box aa 29 [v0_0]::a3::a4::a5::H)∧Ow (RI .i64) 2 aZ a3 a2 aW∧Ow (RI .i64) 2 aZ a4 aq aX∧Ow RB 4 aZ a5 aC aY) aQ ⟨_,_,_,Z,_,ac,ab,aM,aL,gr,f.k Z,m,ad,aO,aN⟩ ?_
   clear aQ f m
   rintro aV a6 a7 a8 a w ⟨aW,aX,aY,rfl,aZ,a2,a3,a4,a5,a9,f,m,ba,bb,bc⟩
   have h0_0:=rd2 a9 h0_0
   refine Af (Ac ?_)
   refine Ab f Z fun a f=>Bl 1 m ba Z Tryz.underlying31 f Z Z fun a f=>AA 0 0 (ds:=[v0_0]) m AW f Z Z Z Z Z fun a f=> ?_
   obtain⟨bd,be,a7⟩:=bind_some a7
   refine AY f Z Tryz.call42 (Wk.a m h0_0 be) fun bf w bg m a f=> ?_
   have h0_0:=rd2 bg h0_0
   have ba:=od1 bg ba
   have bb:=od1 bg bb
   have bc:=Ow.mono RB.mono bg bc
   refine Ag f Z Z AD fun a f=>Aa ?_
   rcases Ae a7 with⟨bh,a7⟩|⟨bh,a7⟩
   ·refine Am f Z bh ?_
    refine An ?_
    refine Ai (Ac ?_)
    refine Ad f Z fun a f=>Aa ?_
    obtain⟨bi,bj,a7⟩:=bind_some a7
    refine AE (fun a w=>∃bk:List Int,∃bl:List Int,∃bm:List Bool,(bk,bl,bm)=bi∧∃(bn:GH) (bo:Value) (bp:Itm) (bq:Itm) (br:Itm),GLe bf bn∧Fr a 63 [(1,(.pointer (some ⟨aa,0,none⟩))),(3,bo),(4,aq),(5,aC),(6,(.int .i64 aE.1))]∧Mem W bn w (Itm.box aa 29 [v0_0]::bp::bq::br::H)∧Ow (RI .i64) 2 bn bp bo bk∧Ow (RI .i64) 2 bn bq aq bl∧Ow RB 4 bn br aC bm) ?_ ?_
    ·refine Ai ?_
     refine AB (fun bs a w=>∃bt:List Int,∃bu:List Bool,∃bv:Int,(bt,bu,bv)=bs∧∃(bw:GH) (bx:Itm) (bz:Itm),GLe bf bw∧Fr a 63 [(1,(.pointer (some ⟨aa,0,none⟩))),(3,a2),(4,aq),(5,aC),(6,(.int .i64 aE.1)),(7,(.int .i64 bv))]∧Mem W bw w (Itm.box aa 29 [v0_0]::a3::bx::bz::H)∧Ow (RI .i64) 2 bw bx aq bt∧Ow RB 4 bw bz aC bu) bj ⟨_,_,_,Z,_,a4,a5,gr,f.k Z,m,bb,bc⟩ ?_
     clear bj f m
     rintro bs bA bB bC a w ⟨bt,bu,bv,rfl,bw,bx,bz,bD,f,m,bE,bF⟩
     have h0_0:=rd2 bD h0_0
     have ba:=od1 bD ba
     refine Af (Ac ?_)
     refine Ab f Z fun a f=>AA 0 0 (ds:=[v0_0]) m AW f Z Z Z Z Z fun a f=> ?_
     obtain⟨bG,bH,bB⟩:=bind_some bB
     refine AY f Z Tryz.call42 (Wk.a m h0_0 bH) fun bI w bJ m a f=> ?_
     have h0_0:=rd2 bJ h0_0
     have ba:=od1 bJ ba
     have bE:=od1 bJ bE
     have bF:=Ow.mono RB.mono bJ bF
     refine Ag f Z Z AD fun a f=>Aa ?_
     rcases Ae bB with⟨bK,bB⟩|⟨bK,bB⟩
     ·refine Am f Z bK ?_
      refine An ?_
      refine Af (Ai (Af (Ac ?_)))
      refine Ab f Z fun a f=>Ab f Z fun a f=> ?_
      obtain⟨bL,bM,bB⟩:=bind_some bB
      refine AQ 3 m bF Z T71 f Z Z Z bM fun bN a bO f=>Br 3 m bF Z Pl4 f Z Z bO bM fun bP a bQ f=> ?_
      subst bQ
      refine Ab f Z fun a f=> ?_
      obtain⟨bR,bS,bB⟩:=bind_some bB
      refine Bw 8 (fun a w=>∃bT,GLe bI bT∧Mem W bT w (Itm.box aa 29 [v0_0]::a3::bx::bz::H)∧Fr a 63 [(1,(.pointer (some ⟨aa,0,none⟩))),(3,a2),(4,aq),(5,aC),(6,(.int .i64 aE.1)),(7,(.int .i64 bv)),(30,(.bool (decide (bv<bG)))),(33,aC),(34,(.int .i64 bv)),(35,bN),(36,(.bool bL)),(37,(.bool bL)),(45,(.bool bR))]) ?_ ?_
      ·rcases Ae bS with⟨bU,bS⟩|⟨bU,bS⟩
       ·refine Aw f bU fun a f=> ?_
        refine Aw f bU fun a f=>Aw f bU fun a f=>Aw f bU fun a f=>Aw f bU fun a f=>Aw f bU fun a f=>Aw f bU fun a f=>l_o f (AN (f.eval Z) bU (f.eval Z)) fun a f=> ?_
        obtain rfl:=sj bS
        exact⟨_,gr,m,f.k Z⟩
       ·refine Av f bU ?_
        refine AA 0 0 (ds:=[v0_0]) m AW f Z Z Z Z Z fun a f=>Av f bU ?_
        refine Ab f Z fun a f=>Av f bU ?_
        refine Ab f Z fun a f=>Av f bU ?_
        obtain⟨bV,bW,bS⟩:=bind_some bS
        refine AF f Z Tryz.call44 (Ow.lendCall RB.mono 3 bF m Z (fun bX bY m bZ=>Wk.E m (rd2 bY h0_0) bZ bW) (fun _ G' _ _ ⟨a0,a1,e1,e2,o0⟩=>⟨a0,a1,e1,e2,Ow.free (RI.free _) G' o0⟩)) fun b0 b1 b2 w b3 m b4 a f=> ?_
        obtain⟨b5,b6,rfl,rfl,b7⟩:=b4
        have h0_0:=rd2 b3 h0_0
        have ba:=od1 b3 ba
        have bE:=od1 b3 bE
        have bF:=Ow.mono RB.mono b3 bF
        refine Av f bU ?_
        refine Bl 0 m b7 Z Tryz.underlying31 f Z Z fun a f=>Av f bU ?_
        refine Ab f Z fun a f=>Av f bU ?_
        refine Ag f Z Z Cc fun a f=>l_o f (AO (f.eval Z) bU (f.eval Z)) fun a f=> ?_
        obtain rfl:=sj bS
        have m:=m.front 4 rfl
        have m:=m.front 4 rfl
        have m:Mem W b1 w (a3::bx::bz::b6::Itm.box aa 29 [v0_0]::H):=m.front 4 rfl
        have m:=m.front 4 rfl
        have m:=m.eraseAt 4
        exact⟨_,b3,m,f.k Z⟩
      ·rintro a w ⟨bT,b8,m,f⟩
       have h0_0:=rd2 b8 h0_0
       have ba:=od1 b8 ba
       have bE:=od1 b8 bE
       have bF:=Ow.mono RB.mono b8 bF
       refine Aa ?_
       rcases Ae bB with⟨b9,bB⟩|⟨b9,bB⟩
       ·refine Am f Z b9 ?_
        refine Ax Z ?_
        refine Aj ?_
        refine Ab f Z fun a f=>Ag f Z Z As fun a f=>Ad f Z fun a f=>Aa ?_
        obtain rfl:=sj bB
        exact⟨_,Z,_,_,_,Z,_,bx,bz,(gt bD (gt bJ b8)),f.k Z,m,bE,bF⟩
       ·refine Ah f Z b9 ?_
        refine An ?_
        refine Ac ?_
        refine Ab f Z fun a f=>Ab f Z fun a f=> ?_
        obtain⟨ca,cb,bB⟩:=bind_some bB
        refine AQ 3 m bF Z T71 f Z Z Z cb fun cc a cd f=>AC 3 m bF Z Tryz.sizeOf4 f Z Z cd cb Z Z Z fun ce w m cf=>Aa (Af (Ac ?_))
        refine AA 0 0 (ds:=[v0_0]) m AW f Z Z Z Z Z fun a f=>Ab f Z fun a f=>Ab f Z fun a f=> ?_
        have m:=m.front 2 rfl
        have m:=m.front 3 rfl
        obtain⟨cg,ch,bB⟩:=bind_some bB
        refine AF f Z Tryz.call43 (Wk.j m h0_0 cf bE ch) fun ci cj ck w cl m cm a f=> ?_
        obtain⟨cn,co,rfl,rfl,cp,cq⟩:=cm
        have h0_0:=rd2 cl h0_0
        have ba:=od1 cl ba
        refine Ab f Z fun a f=>Ag f Z Z Cm fun a f=>Aa ?_
        rcases Ae bB with⟨cr,bB⟩|⟨cr,bB⟩
        ·refine Am f Z cr ?_
         refine Ac ?_
         refine Ab f Z fun a f=>Ab f Z fun a f=>A5 (R:=(RI .i64)) (xs:=([bv]:List Int)) (RI.one _) m T31 f Z Z Z (by decide) (All2.cons Z (All2.nil _)) fun ct cu w a m cv f=> ?_
         obtain⟨cw,cx,bB⟩:=bind_some bB
         refine Bj (RI.one _) 4 m ba Z T31 Z (by decide) f Z Z Z (Ow.src (j:=0) cv m Z) cx fun cy cz w a m cA f=>Ad f Z fun a f=>Aa ?_
         refine Ax Z ?_
         have m:=m.front 1 rfl
         have m:=m.front 2 rfl
         have m:Mem W cj w (cy::co::cn::ct::Itm.box aa 29 [v0_0]::H):=m.front 4 rfl
         have m:=m.front 4 rfl
         have m:=m.eraseAt 4
         obtain rfl:=sj bB
         obtain rfl:=bC _ rfl
         exact⟨_,_,_,Z,_,cz,cy,co,cn,(gt bD (gt bJ (gt b8 cl))),f.k Z,m,cA,cq,cp⟩
        ·refine Ah f Z cr ?_
         refine An ?_
         refine Aj ?_
         refine Ab f Z fun a f=>Ab f Z fun a f=> ?_
         obtain⟨cB,cC,bB⟩:=bind_some bB
         refine AQ 0 m cp Z T71 f Z Z Z cC fun cD a cE f=>AC 0 m cp Z Tryz.sizeOf4 f Z Z cE cC Z Z Z fun cF w m cG=>Aa (Aj ?_)
         refine Ab f Z fun a f=>Ag f Z Z As fun a f=>Ad f Z fun a f=>Aa ?_
         have m:=m.front 1 rfl
         have m:=m.front 3 rfl
         have m:=m.front 3 rfl
         obtain rfl:=sj bB
         exact⟨_,Z,_,_,_,Z,_,co,cF,(gt bD (gt bJ (gt b8 cl))),f.k Z,m,cq,cG⟩
     ·refine Ah f Z bK ?_
      refine Ax Z ?_
      obtain rfl:=sj bB
      obtain rfl:=bC _ rfl
      exact⟨_,_,_,Z,_,a2,a3,bx,bz,(gt bD bJ),f.k Z,m,ba,bE,bF⟩
    ·rintro a w ⟨bk,bl,bm,rfl,bn,bo,bp,bq,br,cH,f,m,cI,cJ,cK⟩
     have h0_0:=rd2 cH h0_0
     obtain rfl:=sj a7
     exact⟨_,Z,_,_,_,Z,_,bo,bp,bq,br,(gt a9 (gt bg cH)),f.k Z,m,cI,cJ,cK⟩
   ·refine Ah f Z bh ?_
    refine Ax Z ?_
    have m:=m.front 1 rfl
    have m:=m.eraseAt 3
    have m:Mem W bf w (a3::Itm.box aa 29 [v0_0]::H):=m.eraseAt 2
    have m:=m.eraseAt 1
    obtain rfl:=sj a7
    obtain rfl:=a8 _ rfl
    exact⟨_,Z,_,a2,a3,(gt a9 bg),f.k Z,m,ba⟩
  ·rintro a w ⟨aR,rfl,aS,aT,aU,cL,f,m,cM⟩
   refine Ac ?_
   refine Ab f Z fun a f=>Ad f Z fun a f=>Aa ?_
   refine Ap ?_
   obtain rfl:=sj hd
   exact⟨[aT],⟨f.get _ _ Z,trivial⟩,f.defers,_,[aU],(gt ah (gt ao (gt ay (gt aJ cL)))),m,_,_,Z,Z,cM⟩
theorem Wk.v0 {W w:World}{G:GH}{H:List Itm}{v0:Value}{v1:Value}{x0:(List Int)}{x1:(List Int)}(m:Mem W G w (H))(h0:RSl (RI .i64) G v0 x0)(h1:RSl (RI .i64) G v1 x1){y:Bool}(hd:D.v0 x0 x1=some y):
  Calls Tryz.prog 13 #[v0,v1] w (Res W G H (fun _ Ho v=>Ho=[]∧v=(.bool y))):=by
 refine Ar (args:=[v0,v1]) (N:=26) [.tmp 4] Tryz.func13 Z Z (Nat.le_of_ble_eq_true Z) Z fun a f=> ?_
 unfold D.v0 at hd
 refine Ac ?_
 refine Ad f Z fun a f=>Aa (Af (Ac ?_))
 refine Ab f Z fun a f=>AX Tryz.underlying31 f Z Z h0 fun a f=>Ab f Z fun a f=>AX Tryz.underlying31 f Z Z h1 fun a f=>Ag f Z Z CS fun a f=>Aa ?_
 rcases Ae hd with⟨aa,hd⟩|⟨aa,hd⟩
 ·refine Am f Z aa ?_
  refine Ac ?_
  refine Ad f Z fun a f=>Aa ?_
  refine Ap ?_
  obtain rfl:=sj hd
  exact⟨[(.bool false)],⟨f.get _ _ Z,trivial⟩,f.defers,_,[],gr,m,Z,Z⟩
 ·refine Ah f Z aa ?_
  refine An ?_
  refine Af (Ac ?_)
  refine Ad f Z fun a f=>Aa ?_
  obtain⟨ab,ac,hd⟩:=bind_some hd
  refine AE (fun a w=>∃q_36':Unit,ab= .inl q_36'∧∃(ad:GH),GLe G ad∧Fr a 26 []∧Mem W ad w (H)) ?_ ?_
  ·refine Ai ?_
   refine AB (fun ae a w=>∃af:Int,af=ae∧∃(ag:GH),GLe G ag∧Fr a 26 [(0,v0),(1,v1),(5,(.int .i64 af))]∧Mem W ag w (H)) ac ⟨_,Z,_,gr,f.k Z,m⟩ ?_
   clear ac f m
   rintro ae ah ai aj a w ⟨af,rfl,ag,ak,f,m⟩
   have h0:=rd1 ak h0
   have h1:=rd1 ak h1
   refine Af (Ac ?_)
   refine Ab f Z fun a f=>Ab f Z fun a f=>AX Tryz.underlying31 f Z Z h0 fun a f=>Ag f Z Z AD fun a f=>Aa ?_
   rcases Ae ai with⟨al,ai⟩|⟨al,ai⟩
   ·refine Am f Z al ?_
    refine An ?_
    refine Af (Ai (Af ?_))
    refine A7 9 AJ (by kernel_rfl) m ?_
    refine Ak 0 9 Z f Z fun a f=>Ak 1 9 Z f Z fun a f=> ?_
    obtain⟨am,an,ai⟩:=bind_some ai
    refine BZ 2 9 T31 h0 an Z f Z Z fun ao ap a aq ar f=> ?_
    subst ar
    refine B2 3 9 Pl2 aq Z f Z fun a f=>Ak 4 9 Z f Z fun a f=>Ak 5 9 Z f Z fun a f=> ?_
    obtain⟨au,av,ai⟩:=bind_some ai
    refine BZ 6 9 T31 h1 av Z f Z Z fun aw ax a ay az f=> ?_
    subst az
    refine B2 7 9 Pl2 ay Z f Z fun a f=>q_p 8 9 Z f (fun _=>AL (f.eval Z) (f.eval Z) CS) fun a f=>AV fun aA w aB m=> ?_
    have h0:=rd1 aB h0
    have h1:=rd1 aB h1
    have aq:=At.mono aB aq
    have ay:=At.mono aB ay
    refine Aa ?_
    rcases Ae ai with⟨aC,ai⟩|⟨aC,ai⟩
    ·refine Am f Z aC ?_
     refine Ac ?_
     refine Ad f Z fun a f=>Aa ?_
     refine Ap ?_
     obtain rfl:=sj ai
     obtain rfl:=aj _ rfl
     obtain rfl:=sj hd
     exact⟨[(.bool false)],⟨f.get _ _ Z,trivial⟩,f.defers,_,[],(gt ak aB),m,Z,Z⟩
    ·refine Ah f Z aC ?_
     refine An ?_
     refine Aj ?_
     refine Ab f Z fun a f=>Ag f Z Z As fun a f=>Ad f Z fun a f=>Aa ?_
     obtain rfl:=sj ai
     exact⟨_,Z,_,Z,_,(gt ak aB),f.k Z,m⟩
   ·refine Ah f Z al ?_
    refine Ax Z ?_
    obtain rfl:=sj ai
    obtain rfl:=aj _ rfl
    exact⟨_,Z,_,ak,f.weak trivial,m⟩
  ·rintro a w ⟨_,rfl,ad,aD,f,m⟩
   refine Ac ?_
   refine Ad f Z fun a f=>Aa ?_
   refine Ap ?_
   obtain rfl:=sj hd
   exact⟨[(.bool true)],⟨f.get _ _ Z,trivial⟩,f.defers,_,[],aD,m,Z,Z⟩
theorem Wk.R0 {W w:World}{G:GH}{H:List Itm}{v0_0:Value}{x0_0:(List (List Int))}{x1:Int}(m:Mem W G w (H))(h0_0:RSl (RSl (RI .i64)) G v0_0 x0_0){y:Bool}(hd:D.R0 x0_0 x1=some y):
  Calls Tryz.prog 115 #[(.agg #[v0_0]),(.int .i64 x1)] w (Res W G H (fun _ Ho v=>Ho=[]∧v=(.bool y))):=by
 refine Ar (args:=[(.agg #[v0_0]),(.int .i64 x1)]) (N:=10) [.tmp 4] Tryz.func115 Z Z (Nat.le_of_ble_eq_true Z) Z fun a f=> ?_
 unfold D.R0 at hd
 refine Ac ?_
 refine Bn (cs:=[v0_0]) m f Z Z Z fun aa w a m f=>Ad f Z fun a f=>Aa (Ac ?_)
 refine Ab f Z fun a f=>AA 0 0 (ds:=[v0_0]) m AW f Z Z Z Z Z fun a f=> ?_
 obtain⟨ab,ac,hd⟩:=bind_some hd
 refine AY f Z Tryz.call42 (Wk.a m h0_0 ac) fun ad w ae m a f=> ?_
 have h0_0:=rd2 ae h0_0
 refine Ag f Z Z A3 fun a f=> ?_
 obtain⟨af,ag,hd⟩:=bind_some hd
 refine AY f Z Tryz.call66 (Wk.c m ag) fun ah w ai m a f=> ?_
 have h0_0:=rd2 ai h0_0
 refine Ad f Z fun a f=>Aa ?_
 refine Ap ?_
 have m:Mem W ah w H:=Mem.drop (H':=[Itm.box aa 29 [v0_0]]) m
 obtain rfl:=sj hd
 exact⟨[(.bool af)],⟨f.get _ _ Z,trivial⟩,f.defers,_,[],(gt ae ai),m,Z,Z⟩
theorem Wk.g1 {W w:World}{G:GH}{H:List Itm}{v0_0:Value}{v1:Value}{x0_0:(List (List Int))}{x1:(List Int)}(m:Mem W G w (H))(h0_0:RSl (RSl (RI .i64)) G v0_0 x0_0)(h1:RSl (RI .i64) G v1 x1){y:Bool}(hd:D.g1 x0_0 x1=some y):
  Calls Tryz.prog 86 #[(.agg #[v0_0]),v1] w (Res W G H (fun _ Ho v=>Ho=[]∧v=(.bool y))):=by
 refine Ar (args:=[(.agg #[v0_0]),v1]) (N:=34) [.tmp 4] Tryz.func86 Z Z (Nat.le_of_ble_eq_true Z) Z fun a f=> ?_
 unfold D.g1 at hd
 refine Ac ?_
 refine Bn (cs:=[v0_0]) m f Z Z Z fun aa w a m f=>Ad f Z fun a f=>Aa (Af (Ac ?_))
 refine Ab f Z fun a f=>AX Tryz.underlying31 f Z Z h1 fun a f=>AA 0 0 (ds:=[v0_0]) m AW f Z Z Z Z Z fun a f=> ?_
 obtain⟨ab,ac,hd⟩:=bind_some hd
 refine AY f Z Tryz.call42 (Wk.a m h0_0 ac) fun ad w ae m a f=> ?_
 have h0_0:=rd2 ae h0_0
 have h1:=rd1 ae h1
 refine Ag f Z Z CS fun a f=>Aa ?_
 rcases Ae hd with⟨af,hd⟩|⟨af,hd⟩
 ·refine Am f Z af ?_
  refine Ac ?_
  refine Ad f Z fun a f=>Aa ?_
  refine Ap ?_
  have m:Mem W ad w H:=Mem.drop (H':=[Itm.box aa 29 [v0_0]]) m
  obtain rfl:=sj hd
  exact⟨[(.bool false)],⟨f.get _ _ Z,trivial⟩,f.defers,_,[],ae,m,Z,Z⟩
 ·refine Ah f Z af ?_
  refine An ?_
  refine Af (Ac ?_)
  refine Ad f Z fun a f=>Aa ?_
  obtain⟨ag,ah,hd⟩:=bind_some hd
  refine AE (fun a w=>∃q_99':Unit,ag= .inl q_99'∧∃(ai:GH),GLe ad ai∧Fr a 34 []∧Mem W ai w (H)) ?_ ?_
  ·refine Ai ?_
   refine AB (fun aj a w=>∃ak:Int,ak=aj∧∃(al:GH),GLe ad al∧Fr a 34 [(1,v1),(2,(.pointer (some ⟨aa,0,none⟩))),(5,(.int .i64 ak))]∧Mem W al w (Itm.box aa 29 [v0_0]::H)) ah ⟨_,Z,_,gr,f.k Z,m⟩ ?_
   clear ah f m
   rintro aj am an ao a w ⟨ak,rfl,al,ap,f,m⟩
   have h1:=rd1 ap h1
   have h0_0:=rd2 ap h0_0
   refine Af (Ac ?_)
   refine Ab f Z fun a f=>Ab f Z fun a f=>AX Tryz.underlying31 f Z Z h1 fun a f=>Ag f Z Z AD fun a f=>Aa ?_
   rcases Ae an with⟨aq,an⟩|⟨aq,an⟩
   ·refine Am f Z aq ?_
    refine An ?_
    refine Af (Ai (Af ?_))
    refine A7 17 AJ (by kernel_rfl) m ?_
    refine BC (i:=0) (ds:=[v0_0]) 17 0 AW Z Z Z Z (by kernel_rfl) Z f Z Z Z fun a f=>Ak 1 17 Z f Z fun a f=>Ak 2 17 Z f Z fun a f=> ?_
    obtain⟨ar,au,an⟩:=bind_some an
    refine BZ 3 17 T31 h1 au Z f Z Z fun av aw a ax ay f=> ?_
    subst ay
    refine B2 4 17 Pl2 ax Z f Z fun a f=> ?_
    obtain⟨az,aA,an⟩:=bind_some an
    refine Ca (i:=5) 17 Z (by kernel_rfl) Z f Z Z Z Tryz.call115 (fun _ _ w aB m=>Wk.R0 m (rd2 aB h0_0) aA) fun a f=>q_p 6 17 Z f (fun _=>Bp (f.eval Z)) fun a f=>Ak 7 17 Z f Z fun a f=> ?_
    obtain⟨aC,aD,an⟩:=bind_some an
    refine Ci (fuel':=0) (listed':= #[true,true,true,true,true,true,true,true,true,true,true,true,true,true,true,true,true]) (fun a=>Fr a 34 [(1,v1),(2,(.pointer (some ⟨aa,0,none⟩))),(5,(.int .i64 ak)),(14,(.bool (decide (ak<(x1.length:Int))))),(17,(.agg #[v0_0])),(18,v1),(19,(.int .i64 ak)),(20,av),(21,(.int .i64 ar)),(22,(.bool az)),(23,(.bool (!az))),(24,(.bool (!az))),(33,(.bool aC))]) ?_ ?_
    ·intro a f
     refine AV fun aE w aF m=> ?_
     have h1:=rd1 aF h1
     have h0_0:=rd2 aF h0_0
     have ax:=At.mono aF ax
     refine Aa ?_
     rcases Ae an with⟨aG,an⟩|⟨aG,an⟩
     ·refine Am f Z aG ?_
      refine Ac ?_
      refine Ad f Z fun a f=>Aa ?_
      refine Ap ?_
      have m:Mem W aE w H:=Mem.drop (H':=[Itm.box aa 29 [v0_0]]) m
      obtain rfl:=sj an
      obtain rfl:=ao _ rfl
      obtain rfl:=sj hd
      exact⟨[(.bool false)],⟨f.get _ _ Z,trivial⟩,f.defers,_,[],(gt ae (gt ap aF)),m,Z,Z⟩
     ·refine Ah f Z aG ?_
      refine An ?_
      refine Aj ?_
      refine Ab f Z fun a f=>Ag f Z Z As fun a f=>Ad f Z fun a f=>Aa ?_
      obtain rfl:=sj an
      exact⟨_,Z,_,Z,_,(gt ap aF),f.k Z,m⟩
    ·intro aH
     rcases Ae aD with⟨aI,aD⟩|⟨aI,aD⟩
     ·refine Aq 8 17 Z f aI fun a f=> ?_
      refine Aq 9 17 Z f aI fun a f=>Aq 10 17 Z f aI fun a f=>Aq 11 17 Z f aI fun a f=>Aq 12 17 Z f aI fun a f=>Aq 13 17 Z f aI fun a f=>Aq 14 17 Z f aI fun a f=>Aq 15 17 Z f aI fun a f=>q_p 16 17 Z f (fun _=>AN (f.eval Z) aI (f.eval Z)) fun a f=> ?_
      obtain rfl:=sj aD
      exact aH _ (f.k Z)
     ·refine Ak (hw:=wo f aI) 8 17 Z f Z fun a f=> ?_
      refine Ak (hw:=wo f aI) 9 17 Z f Z fun a f=> ?_
      obtain⟨aJ,aK,aD⟩:=bind_some aD
      refine q_slice (i:=10) 17 T31 h1 aK Z (by kernel_rfl) Z f (Bg f Z Z Z aI) Z Z (.inl ⟨Z,Z⟩) (.inr ⟨_,_,Z,Z⟩) fun aL a aM f=>Ak (hw:=wo f aI) 11 17 Z f Z fun a f=>Ak (hw:=wo f aI) 12 17 Z f Z fun a f=> ?_
      obtain⟨aN,aO,aD⟩:=bind_some aD
      refine BZ (hw:=wo f aI) 13 17 T31 h1 aO Z f Z Z fun aP aQ a aR aS f=> ?_
      subst aS
      refine B2 (hw:=wo f aI) 14 17 Pl2 aR Z f Z fun a f=> ?_
      obtain⟨aT,aU,aD⟩:=bind_some aD
      refine Ca (i:=15) 17 Z (by kernel_rfl) Z f (Bg f Z Z Z aI) Z Z Tryz.call84 (fun _ _ w aV m=>Wk.f m (rd1 aV aM) aU) fun a f=>q_p 16 17 Z f (fun _=>AO (f.eval Z) aI (f.eval Z)) fun a f=> ?_
      obtain rfl:=sj aD
      exact aH _ (f.k Z)
   ·refine Ah f Z aq ?_
    refine Ax Z ?_
    have m:Mem W al w H:=Mem.drop (H':=[Itm.box aa 29 [v0_0]]) m
    obtain rfl:=sj an
    obtain rfl:=ao _ rfl
    exact⟨_,Z,_,ap,f.weak trivial,m⟩
  ·rintro a w ⟨_,rfl,ai,aW,f,m⟩
   refine Ac ?_
   refine Ad f Z fun a f=>Aa ?_
   refine Ap ?_
   obtain rfl:=sj hd
   exact⟨[(.bool true)],⟨f.get _ _ Z,trivial⟩,f.defers,_,[],(gt ae aW),m,Z,Z⟩
theorem Wk.f0 {W w:World}{G:GH}{H:List Itm}{v0_0:Value}{v1:Value}{x0_0:(List (List Int))}{x1:(List Int)}(m:Mem W G w (H))(h0_0:RSl (RSl (RI .i64)) G v0_0 x0_0)(h1:RSl (RI .i64) G v1 x1){y:Bool}(hd:D.f0 x0_0 x1=some y):
  Calls Tryz.prog 45 #[(.agg #[v0_0]),v1] w (Res W G H (fun _ Ho v=>Ho=[]∧v=(.bool y))):=by
 refine Ar (args:=[(.agg #[v0_0]),v1]) (N:=12) [.tmp 4] Tryz.func45 Z Z (Nat.le_of_ble_eq_true Z) Z fun a f=> ?_
 unfold D.f0 at hd
 refine Ac ?_
 refine Bn (cs:=[v0_0]) m f Z Z Z fun aa w a m f=>Ad f Z fun a f=>Aa (Ac ?_)
 refine AA 0 0 (ds:=[v0_0]) m AW f Z Z Z Z Z fun a f=> ?_
 obtain⟨ab,ac,hd⟩:=bind_some hd
 refine AY f Z Tryz.call48 (Wk.u m h0_0 ac) fun ad w ae m a f=> ?_
 have h0_0:=rd2 ae h0_0
 have h1:=rd1 ae h1
 refine Ab f Z fun a f=> ?_
 obtain⟨af,ag,hd⟩:=bind_some hd
 refine Bw 4 (fun a w=>∃ah,GLe ad ah∧Mem W ah w (Itm.box aa 29 [v0_0]::H)∧Fr a 12 [(0,(.agg #[v0_0])),(1,v1),(2,(.pointer (some ⟨aa,0,none⟩))),(5,(.agg #[v0_0])),(6,(.bool ab)),(7,(.bool ab)),(11,(.bool af))]) ?_ ?_
 ·rcases Ae ag with⟨ai,ag⟩|⟨ai,ag⟩
  ·refine Av f ai ?_
   refine AA 0 0 (ds:=[v0_0]) m AW f Z Z Z Z Z fun a f=>Av f ai ?_
   refine Ab f Z fun a f=>Av f ai ?_
   obtain⟨aj,ak,ag⟩:=bind_some ag
   refine AY f Z Tryz.call86 (Wk.g1 m h0_0 h1 ak) fun al w am m a f=> ?_
   have h0_0:=rd2 am h0_0
   have h1:=rd1 am h1
   refine l_o f (AN (f.eval Z) ai (f.eval Z)) fun a f=> ?_
   obtain rfl:=sj ag
   exact⟨_,am,m,f.k Z⟩
  ·refine Aw f ai fun a f=> ?_
   refine Aw f ai fun a f=>Aw f ai fun a f=>l_o f (AO (f.eval Z) ai (f.eval Z)) fun a f=> ?_
   obtain rfl:=sj ag
   exact⟨_,gr,m,f.k Z⟩
 ·rintro a w ⟨ah,an,m,f⟩
  have h0_0:=rd2 an h0_0
  have h1:=rd1 an h1
  refine Ad f Z fun a f=>Aa ?_
  refine Ap ?_
  have m:Mem W ah w H:=Mem.drop (H':=[Itm.box aa 29 [v0_0]]) m
  obtain rfl:=sj hd
  exact⟨[(.bool af)],⟨f.get _ _ Z,trivial⟩,f.defers,_,[],(gt ae an),m,Z,Z⟩
theorem Wk.L0 {W w:World}{G:GH}{H:List Itm}{v0_0:Value}{x0_0:(List (List Int))}(m:Mem W G w (H))(h0_0:RSl (RSl (RI .i64)) G v0_0 x0_0){y:((List (List Int)))}(hd:D.L0 x0_0=some y):
  Calls Tryz.prog 116 #[(.agg #[v0_0])] w (Res W G H (fun G' Ho v=>∃r0:Value,∃i0:Itm,Ho=[i0]∧v=(.agg #[r0])∧Ow (RSl (RI .i64)) 31 G' i0 r0 y)):=by
 refine Ar (args:=[(.agg #[v0_0])]) (N:=25) [.cell 2 29] Tryz.func116 Z Z (Nat.le_of_ble_eq_true Z) Z fun a f=> ?_
 unfold D.L0 at hd
 refine Ac ?_
 refine Bn (cs:=[v0_0]) m f Z Z Z fun aa w a m f=>BF (cs:=[(.slice none 0 0)]) Tryz.zeroValue29 m f Z Z fun ab w a m f=>Aa (Ac ?_)
 have ac:∀w,(Instr.build 29 #[]).run Tryz.prog w= .ok (.agg #[(.slice none 0 0)]) w:=by intro w;simp[Instr.build,Instr.fill,CM,Cx,B9,Cn,BY,Cu]
 refine Dc f Z Z ac fun a f=>BF (cs:=[(.slice none 0 0)]) Tryz.zeroValue29 m f Z Z fun ad w a m f=>AR 0 0 (ds:=[(.slice none 0 0)]) m Tryz.sizeOf29 f Z Z Z (AM Z A6) Z (Nat.le_of_ble_eq_true Z) Z fun w m=>Aa (Af (Ac ?_))
 refine Ad f Z fun a f=>Aa ?_
 obtain⟨ae,m,af⟩:=Ow.nil (RSl (RI .i64)) 31 m
 obtain⟨ag,ah,hd⟩:=bind_some hd
 refine AE (fun a w=>∃ai:List (List Int),ai=ag∧∃(aj:GH) (ak:Value) (al:Itm),GLe G aj∧Fr a 25 [(2,(.pointer (some ⟨ab,0,none⟩))),(3,(.pointer (some ⟨ad,0,none⟩)))]∧Mem W aj w (Itm.box ab 29 [(.slice none 0 0)]::Itm.box ad 29 [ak]::al::H)∧Ow (RSl (RI .i64)) 31 aj al ak ai) ?_ ?_
 ·refine Ai ?_
  have m:=m.front 1 rfl
  have m:=m.front 2 rfl
  have m:Mem W G w (Itm.box aa 29 [v0_0]::Itm.box ab 29 [(.slice none 0 0)]::Itm.box ad 29 [(.slice none 0 0)]::ae::H):=m.front 3 rfl
  refine AB (fun am a w=>∃an:Int,∃ao:List (List Int),(an,ao)=am∧∃(ap:GH) (aq:Value) (ar:Itm),GLe G ap∧Fr a 25 [(1,(.pointer (some ⟨aa,0,none⟩))),(2,(.pointer (some ⟨ab,0,none⟩))),(3,(.pointer (some ⟨ad,0,none⟩))),(4,(.int .i64 an))]∧Mem W ap w (Itm.box aa 29 [v0_0]::Itm.box ab 29 [(.slice none 0 0)]::Itm.box ad 29 [aq]::ar::H)∧Ow (RSl (RI .i64)) 31 ap ar aq ao) ah ⟨_,_,Z,_,(.slice none 0 0),ae,gr,f.k Z,m,af⟩ ?_
  clear ah f m
  rintro am au av aw a w ⟨an,ao,rfl,ap,aq,ar,ax,f,m,ay⟩
  have h0_0:=rd2 ax h0_0
  refine Af (Ac ?_)
  refine Ab f Z fun a f=>Bo Tryz.underlying29 Z Tryz.sizeOf27 f Z fun a f=>AG 0 0 m Bk f Z Z Z Z fun a f=>AX Tryz.underlying27 f Z Z h0_0 fun a f=>Ag f Z Z AD fun a f=>Aa ?_
  rcases Ae av with⟨az,av⟩|⟨az,av⟩
  ·refine Am f Z az ?_
   refine An ?_
   refine Af (Ai ?_)
   refine A7 9 AJ (by kernel_rfl) m ?_
   refine Cg 0 9 Tryz.underlying29 Z Tryz.sizeOf27 Z f Z fun a f=>BS 1 9 2 Bk Z Z Z f Z fun a f=>Cg 2 9 Tryz.underlying29 Z Tryz.sizeOf27 Z f Z fun a f=>BS 3 9 0 Bk Z Z Z f Z fun a f=>Ak 4 9 Z f Z fun a f=> ?_
   obtain⟨aA,aB,av⟩:=bind_some av
   refine BZ 5 9 T27 h0_0 aB Z f Z Z fun aC aD a aE aF f=>B2 6 9 AS aE Z f Z fun a f=>BJ (i:=7) Z (by kernel_rfl) Z fun aG w aH m aI aI=> ?_
   have h0_0:=rd2 aH h0_0
   have aE:=At.mono aH aE
   have aF:=rd1 aH aF
   have ay:=Ow.mono (RSl.mono (RI.mono _)) aH ay
   obtain⟨aJ,aK,av⟩:=bind_some av
   refine AF f Z Tryz.call95 (Wk.g m aF aK) fun aL aM aN w aO m aP a f=> ?_
   obtain⟨aQ,aR,rfl,rfl,aS⟩:=aP
   have h0_0:=rd2 aO h0_0
   have aE:=At.mono aO aE
   have aF:=rd1 aO aF
   have ay:=Ow.mono (RSl.mono (RI.mono _)) aO ay
   refine Aa ?_
   refine aI aM [aR] _ _ aO m ?_
   refine BJ (i:=8) Z (by kernel_rfl) Z fun aT w aU m aV aV=> ?_
   have h0_0:=rd2 aU h0_0
   have aE:=At.mono aU aE
   have aF:=rd1 aU aF
   have aS:=od1 aU aS
   have ay:=Ow.mono (RSl.mono (RI.mono _)) aU ay
   obtain⟨aW,aX,m,aY⟩:=Ow.stamp (RI.mono _) aS m
   have h0_0:=rd2 aX h0_0
   have aE:=At.mono aX aE
   have aF:=rd1 aX aF
   have ay:=Ow.mono (RSl.mono (RI.mono _)) aX ay
   refine A5 (R:=(RSl (RI .i64))) (xs:=([aJ]:List (List Int))) (RSl.one _) m T27 f Z Z Z (by decide) (All2.cons aY (All2.nil _)) fun aZ a0 w a m a1 f=>Aa ?_
   refine aV aW [aZ] _ _ aX m ?_
   refine AV fun a2 w a3 m=> ?_
   have h0_0:=rd2 a3 h0_0
   have aE:=At.mono a3 aE
   have aF:=rd1 a3 aF
   have aY:=rd1 a3 aY
   have a1:=Ow.mono (RSl.mono (RI.mono _)) a3 a1
   have ay:=Ow.mono (RSl.mono (RI.mono _)) a3 ay
   obtain⟨a4,a5,av⟩:=bind_some av
   refine Bj (RSl.one _) 4 m ay Z T27 Z (by decide) f Z Z Z (Ow.src (j:=0) a1 m Z) a5 fun a6 a7 w a m a8 f=>Bo Tryz.underlying29 Z Tryz.sizeOf27 f Z fun a f=>AR 3 0 (ds:=[a7]) m Tryz.sizeOf27 f Z Z (Ow.cells 4 m a8 Z) (AM (Ow.one1 4 m a8 Z) A6) Z (Nat.le_of_ble_eq_true Z) Z fun w m=>Aa (Aj ?_)
   refine Ab f Z fun a f=>Ag f Z Z As fun a f=>Ad f Z fun a f=>Aa ?_
   have m:=m.front 4 rfl
   have m:=m.front 4 rfl
   have m:Mem W a2 w (Itm.box ab 29 [(.slice none 0 0)]::Itm.box ad 29 [a7]::a6::aZ::Itm.box aa 29 [v0_0]::H):=m.front 4 rfl
   have m:=m.front 4 rfl
   have m:Mem W a2 w (Itm.box aa 29 [v0_0]::Itm.box ab 29 [(.slice none 0 0)]::Itm.box ad 29 [a7]::a6::H):=m.eraseAt 4
   obtain rfl:=sj av
   exact⟨_,Z,_,_,Z,_,a7,a6,(gt ax (gt aH (gt aO (gt aU (gt aX a3))))),f.k Z,m,a8⟩
  ·refine Ah f Z az ?_
   refine Ax Z ?_
   have m:=m.front 3 rfl
   have m:=m.front 3 rfl
   have m:Mem W ap w (Itm.box ab 29 [(.slice none 0 0)]::Itm.box ad 29 [aq]::ar::Itm.box aa 29 [v0_0]::H):=m.front 3 rfl
   have m:=m.eraseAt 3
   obtain rfl:=sj av
   obtain rfl:=aw _ rfl
   exact⟨_,Z,_,aq,ar,ax,f.k Z,m,ay⟩
 ·rintro a w ⟨ai,rfl,aj,ak,al,a9,f,m,ba⟩
  refine Ac ?_
  refine AA 1 0 (ds:=[ak]) m AW f Z Z Z Z Z fun a f=>AR 0 0 (ds:=[ak]) m Tryz.sizeOf29 f Z Z Z (AM (Ow.one1 2 m ba Z) A6) Z (Nat.le_of_ble_eq_true Z) Z fun w m=>Aa ?_
  refine Ap ?_
  have bb:=CL (P:=Tryz.prog) 0 m AW f (s:=2) rfl rfl rfl
  have m:=m.front 2 rfl
  have m:=m.eraseAt 2
  have m:=m.eraseAt 1
  obtain rfl:=sj hd
  exact⟨[(.agg #[ak])],⟨bb,trivial⟩,f.defers,_,[al],a9,m,_,_,Z,Z,ba⟩
theorem Wk.s {W w:World}{G:GH}{H:List Itm}{v0_0:Value}{v2:Value}{x0_0:(List (List Int))}{x1:Int}{x2:(List Bool)}(m:Mem W G w (H))(h0_0:RSl (RSl (RI .i64)) G v0_0 x0_0)(h2:RSl RB G v2 x2){y:((List Int))}(hd:D.s x0_0 x1 x2=some y):
  Calls Tryz.prog 58 #[(.agg #[v0_0]),(.int .i64 x1),v2] w (Res W G H (fun G' Ho v=>∃r0:Value,∃i0:Itm,Ho=[i0]∧r0=v∧Ow (RI .i64) 2 G' i0 r0 y)):=by
 refine Ar (args:=[(.agg #[v0_0]),(.int .i64 x1),v2]) (N:=44) [.tmp 6] Tryz.func58 Z Z (Nat.le_of_ble_eq_true Z) Z fun a f=> ?_
 unfold D.s at hd
 refine Ac ?_
 refine Bn (cs:=[v0_0]) m f Z Z Z fun aa w a m f=>Ad f Z fun a f=>Aa (Ac ?_)
 refine A5 (R:=(RI .i64)) (xs:=([]:List Int)) (RI.one _) m T31 f Z Z Z (by decide) (All2.nil _) fun ab ac w a m ad f=>Ad f Z fun a f=>Aa (Af (Ac ?_))
 refine Ad f Z fun a f=>Aa ?_
 obtain⟨ae,af,hd⟩:=bind_some hd
 refine AE (fun a w=>∃ag:List Int,ag=ae∧∃(ah:GH) (ai:Value) (aj:Itm),GLe G ah∧Fr a 44 [(7,ai)]∧Mem W ah w (aj::H)∧Ow (RI .i64) 2 ah aj ai ag) ?_ ?_
 ·refine Ai ?_
  have m:=m.front 1 rfl
  refine AB (fun ak a w=>∃al:List Int,∃am:Int,(al,am)=ak∧∃(an:GH) (ao:Value) (ap:Itm),GLe G an∧Fr a 44 [(1,(.int .i64 x1)),(2,v2),(3,(.pointer (some ⟨aa,0,none⟩))),(7,ao),(8,(.int .i64 am))]∧Mem W an w (Itm.box aa 29 [v0_0]::ap::H)∧Ow (RI .i64) 2 an ap ao al) af ⟨_,_,Z,_,ac,ab,gr,f.k Z,m,ad⟩ ?_
  clear af f m
  rintro ak aq ar au a w ⟨al,am,rfl,an,ao,ap,av,f,m,aw⟩
  have h2:=RSl.mono RB.mono _ _ _ _ av h2
  have h0_0:=rd2 av h0_0
  refine Af (Ac ?_)
  refine Ab f Z fun a f=>Bo Tryz.underlying29 Z Tryz.sizeOf27 f Z fun a f=>AG 0 0 m Bk f Z Z Z Z fun a f=>Ab f Z fun a f=> ?_
  obtain⟨ax,ay,ar⟩:=bind_some ar
  refine Bb T27 f Z Z Z h0_0 ay fun az aA a aB aC f=>Az m AS f Z Z aB fun a f=>AX Tryz.underlying31 f Z Z aC fun a f=>Ag f Z Z AD fun a f=>Aa ?_
  rcases Ae ar with⟨aD,ar⟩|⟨aD,ar⟩
  ·refine Am f Z aD ?_
   refine An ?_
   refine Af (Ai (Ac ?_))
   refine Ab f Z fun a f=>Bo Tryz.underlying29 Z Tryz.sizeOf27 f Z fun a f=>AG 0 0 m Bk f Z Z Z Z fun a f=>Ab f Z fun a f=> ?_
   obtain⟨aE,aF,ar⟩:=bind_some ar
   refine Bb T27 f Z Z Z h0_0 aF fun aG aH a aI aJ f=>Az m AS f Z Z aI fun a f=>Ab f Z fun a f=> ?_
   obtain⟨aK,aL,ar⟩:=bind_some ar
   refine Bb T31 f Z Z Z aJ aL fun aM aN a aO aP f=> ?_
   subst aP
   refine Az m Pl2 f Z Z aO fun a f=> ?_
   obtain⟨aQ,aR,ar⟩:=bind_some ar
   refine Bb T71 f Z Z Z h2 aR fun aS aT a aU aV f=> ?_
   subst aV
   refine Az m Pl4 f Z Z aU fun a f=>l_o f (Bp (f.eval Z)) fun a f=>Aa ?_
   rcases Ae ar with⟨aW,ar⟩|⟨aW,ar⟩
   ·refine Am f Z aW ?_
    refine Aj ?_
    refine Ab f Z fun a f=>Bo Tryz.underlying29 Z Tryz.sizeOf27 f Z fun a f=>AG 0 0 m Bk f Z Z Z Z fun a f=>Ab f Z fun a f=> ?_
    obtain⟨aX,aY,ar⟩:=bind_some ar
    refine Bb T27 f Z Z Z h0_0 aY fun aZ a0 a a1 a2 f=>Az m AS f Z Z a1 fun a f=>Ab f Z fun a f=> ?_
    obtain⟨a3,a4,ar⟩:=bind_some ar
    refine Bb T31 f Z Z Z a2 a4 fun a5 a6 a a7 a8 f=> ?_
    subst a8
    refine Az m Pl2 f Z Z a7 fun a f=>A5 (R:=(RI .i64)) (xs:=([a3]:List Int)) (RI.one _) m T31 f Z Z Z (by decide) (All2.cons Z (All2.nil _)) fun a9 ba w a m bb f=> ?_
    obtain⟨bc,bd,ar⟩:=bind_some ar
    refine Bj (RI.one _) 2 m aw Z T31 Z (by decide) f Z Z Z (Ow.src (j:=0) bb m Z) bd fun be bf w a m bg f=>Ad f Z fun a f=>Aa (Aj ?_)
    refine Ab f Z fun a f=>Ag f Z Z As fun a f=>Ad f Z fun a f=>Aa ?_
    have m:=m.front 2 rfl
    have m:=m.front 2 rfl
    have m:=m.eraseAt 2
    obtain rfl:=sj ar
    exact⟨_,Z,_,_,Z,_,bf,be,av,f.k Z,m,bg⟩
   ·refine Ah f Z aW ?_
    refine An ?_
    refine Aj ?_
    refine Ab f Z fun a f=>Ag f Z Z As fun a f=>Ad f Z fun a f=>Aa ?_
    obtain rfl:=sj ar
    exact⟨_,Z,_,_,Z,_,ao,ap,av,f.k Z,m,aw⟩
  ·refine Ah f Z aD ?_
   refine Ax Z ?_
   have m:=m.front 1 rfl
   have m:=m.eraseAt 1
   obtain rfl:=sj ar
   obtain rfl:=au _ rfl
   exact⟨_,Z,_,ao,ap,av,f.k Z,m,aw⟩
 ·rintro a w ⟨ag,rfl,ah,ai,aj,bh,f,m,bi⟩
  refine Ac ?_
  refine Ab f Z fun a f=>Ad f Z fun a f=>Aa ?_
  refine Ap ?_
  obtain rfl:=sj hd
  exact⟨[ai],⟨f.get _ _ Z,trivial⟩,f.defers,_,[aj],bh,m,_,_,Z,Z,bi⟩
theorem Wk.c0 {W w:World}{G:GH}{H:List Itm}{v0_0:Value}{it0_0:Itm}{v1:Value}{x0_0:(List (List Int))}{x1:(List Int)}(m:Mem W G w (it0_0::H))(o0_0:Ow (RSl (RI .i64)) 31 G it0_0 v0_0 x0_0)(h1:RSl (RI .i64) G v1 x1){y:((List (List Int)))}(hd:D.c0 x0_0 x1=some y):
  Calls Tryz.prog 117 #[(.agg #[v0_0]),v1] w (Res W G H (fun G' Ho v=>∃i0:Itm,Ho=[i0]∧v=(.agg #[v0_0])∧Ow (RSl (RI .i64)) 31 G' i0 v0_0 y)):=by
 refine Ar (args:=[(.agg #[v0_0]),v1]) (N:=29) [.cell 4 29] Tryz.func117 Z Z (Nat.le_of_ble_eq_true Z) Z fun a f=> ?_
 unfold D.c0 at hd
 refine Ac ?_
 refine Bn (cs:=[v0_0]) m f Z Z Z fun aa w a m f=>BF (cs:=[(.slice none 0 0)]) Tryz.zeroValue29 m f Z Z fun ab w a m f=>Aa (Af (Ac ?_))
 refine Ad f Z fun a f=>Aa ?_
 obtain⟨ac,ad,hd⟩:=bind_some hd
 refine AE (fun a w=>∃ae:List (List Int),ae=ac∧∃(af:GH) (ag:Itm),GLe G af∧Fr a 29 [(2,(.pointer (some ⟨aa,0,none⟩))),(4,(.pointer (some ⟨ab,0,none⟩)))]∧Mem W af w (Itm.box aa 29 [v0_0]::Itm.box ab 29 [(.slice none 0 0)]::ag::H)∧Ow (RSl (RI .i64)) 31 af ag v0_0 ae) ?_ ?_
 ·refine Ai ?_
  have m:=m.front 1 rfl
  refine AB (fun ah a w=>∃ai:List (List Int),∃aj:Int,(ai,aj)=ah∧∃(ak:GH) (al:Itm),GLe G ak∧Fr a 29 [(1,v1),(2,(.pointer (some ⟨aa,0,none⟩))),(4,(.pointer (some ⟨ab,0,none⟩))),(5,(.int .i64 aj))]∧Mem W ak w (Itm.box aa 29 [v0_0]::Itm.box ab 29 [(.slice none 0 0)]::al::H)∧Ow (RSl (RI .i64)) 31 ak al v0_0 ai) ad ⟨_,_,Z,_,it0_0,gr,f.k Z,m,o0_0⟩ ?_
  clear ad f m
  rintro ah am an ao a w ⟨ai,aj,rfl,ak,al,ap,f,m,aq⟩
  have h1:=rd1 ap h1
  refine Af (Ac ?_)
  refine Ab f Z fun a f=>Ab f Z fun a f=>AX Tryz.underlying31 f Z Z h1 fun a f=>Ag f Z Z AD fun a f=>Aa ?_
  rcases Ae an with⟨ar,an⟩|⟨ar,an⟩
  ·refine Am f Z ar ?_
   refine An ?_
   refine Af (Ai (Ac ?_))
   refine Ad f Z fun a f=>Aa ?_
   obtain⟨au,av,an⟩:=bind_some an
   refine AE (fun a w=>∃aw:List (List Int),aw=au∧∃(ax:GH) (ay:Itm),GLe ak ax∧Fr a 29 [(1,v1),(2,(.pointer (some ⟨aa,0,none⟩))),(4,(.pointer (some ⟨ab,0,none⟩))),(5,(.int .i64 aj))]∧Mem W ax w (Itm.box aa 29 [v0_0]::Itm.box ab 29 [(.slice none 0 0)]::ay::H)∧Ow (RSl (RI .i64)) 31 ax ay v0_0 aw) ?_ ?_
   ·refine Ai ?_
    refine AB (fun az a w=>∃aA:List (List Int),∃aB:Int,(aA,aB)=az∧∃(aC:GH) (aD:Itm),GLe ak aC∧Fr a 29 [(1,v1),(2,(.pointer (some ⟨aa,0,none⟩))),(4,(.pointer (some ⟨ab,0,none⟩))),(5,(.int .i64 aj)),(6,(.int .i64 aB))]∧Mem W aC w (Itm.box aa 29 [v0_0]::Itm.box ab 29 [(.slice none 0 0)]::aD::H)∧Ow (RSl (RI .i64)) 31 aC aD v0_0 aA) av ⟨_,_,Z,_,al,gr,f.k Z,m,aq⟩ ?_
    clear av f m
    rintro az aE aF aG a w ⟨aA,aB,rfl,aC,aD,aH,f,m,aI⟩
    have h1:=rd1 aH h1
    refine Af (Ac ?_)
    refine Ab f Z fun a f=>Ab f Z fun a f=>Ag f Z Z AD fun a f=>Aa ?_
    rcases Ae aF with⟨aJ,aF⟩|⟨aJ,aF⟩
    ·refine Am f Z aJ ?_
     refine An ?_
     refine Af (Ai ?_)
     refine A7 9 AJ (by kernel_rfl) m ?_
     refine BC (i:=0) (ds:=[v0_0]) 9 0 AW Z Z Z Z (by kernel_rfl) Z f Z Z Z fun a f=>Ak 1 9 Z f Z fun a f=>Ak 2 9 Z f Z fun a f=> ?_
     obtain⟨aK,aL,aF⟩:=bind_some aF
     refine BZ 3 9 T31 h1 aL Z f Z Z fun aM aN a aO aP f=> ?_
     subst aP
     refine B2 4 9 Pl2 aO Z f Z fun a f=>Ak 5 9 Z f Z fun a f=>Ak 6 9 Z f Z fun a f=> ?_
     obtain⟨aQ,aR,aF⟩:=bind_some aF
     refine BZ 7 9 T31 h1 aR Z f Z Z fun aS aT a aU aV f=> ?_
     subst aV
     refine B2 8 9 Pl2 aU Z f Z fun a f=>AV fun aW w aX m=> ?_
     have h1:=rd1 aX h1
     have aO:=At.mono aX aO
     have aU:=At.mono aX aU
     have aI:=Ow.mono (RSl.mono (RI.mono _)) aX aI
     have m:=m.front 2 rfl
     obtain⟨aY,aZ,aF⟩:=bind_some aF
     refine AF f Z Tryz.call68 (Wk.G m aI aZ) fun a0 a1 a2 w a3 m a4 a f=> ?_
     obtain⟨a5,rfl,rfl,a6⟩:=a4
     have h1:=rd1 a3 h1
     have aO:=At.mono a3 aO
     have aU:=At.mono a3 aU
     refine AR 1 0 (ds:=[v0_0]) m Tryz.sizeOf29 f Z Z Z (AM (Ow.one1 0 m a6 Z) A6) Z (Nat.le_of_ble_eq_true Z) Z fun w m=>Aa (Aj ?_)
     refine Ab f Z fun a f=>Ag f Z Z As fun a f=>Ad f Z fun a f=>Aa ?_
     have m:=m.front 2 rfl
     have m:=m.front 2 rfl
     obtain rfl:=sj aF
     exact⟨_,Z,_,_,Z,_,a5,(gt aH (gt aX a3)),f.k Z,m,a6⟩
    ·refine Ah f Z aJ ?_
     refine Ax Z ?_
     obtain rfl:=sj aF
     obtain rfl:=aG _ rfl
     exact⟨_,Z,_,aD,aH,f.k Z,m,aI⟩
   ·rintro a w ⟨aw,rfl,ax,ay,a7,f,m,a8⟩
    have h1:=rd1 a7 h1
    refine Aj ?_
    refine Ab f Z fun a f=>Ag f Z Z As fun a f=>Ad f Z fun a f=>Aa ?_
    obtain rfl:=sj an
    exact⟨_,Z,_,_,Z,_,ay,(gt ap a7),f.k Z,m,a8⟩
  ·refine Ah f Z ar ?_
   refine Ax Z ?_
   obtain rfl:=sj an
   obtain rfl:=ao _ rfl
   exact⟨_,Z,_,al,ap,f.k Z,m,aq⟩
 ·rintro a w ⟨ae,rfl,af,ag,a9,f,m,ba⟩
  refine Ac ?_
  refine AA 0 0 (ds:=[v0_0]) m AW f Z Z Z Z Z fun a f=>AR 1 0 (ds:=[v0_0]) m Tryz.sizeOf29 f Z Z Z (AM (Ow.one1 2 m ba Z) A6) Z (Nat.le_of_ble_eq_true Z) Z fun w m=>Aa ?_
  refine Ap ?_
  have bb:=CL (P:=Tryz.prog) 1 m AW f (s:=4) rfl rfl rfl
  have m:=m.front 2 rfl
  have m:=m.eraseAt 2
  have m:=m.eraseAt 1
  obtain rfl:=sj hd
  exact⟨[(.agg #[v0_0])],⟨bb,trivial⟩,f.defers,_,[ag],a9,m,_,Z,Z,ba⟩
theorem Wk.O0 {W w:World}{G:GH}{H:List Itm}{v0_0:Value}{v1:Value}{x0_0:(List (List Int))}{x1:(List Int)}(m:Mem W G w (H))(h0_0:RSl (RSl (RI .i64)) G v0_0 x0_0)(h1:RSl (RI .i64) G v1 x1){y:((List (List Int)))}(hd:D.O0 x0_0 x1=some y):
  Calls Tryz.prog 87 #[(.agg #[v0_0]),v1] w (Res W G H (fun G' Ho v=>∃r0:Value,∃i0:Itm,Ho=[i0]∧v=(.agg #[r0])∧Ow (RSl (RI .i64)) 31 G' i0 r0 y)):=by
 refine Ar (args:=[(.agg #[v0_0]),v1]) (N:=35) [.cell 4 29] Tryz.func87 Z Z (Nat.le_of_ble_eq_true Z) Z fun a f=> ?_
 unfold D.O0 at hd
 refine Ac ?_
 refine Bn (cs:=[v0_0]) m f Z Z Z fun aa w a m f=>BF (cs:=[(.slice none 0 0)]) Tryz.zeroValue29 m f Z Z fun ab w a m f=>Aa (Ac ?_)
 refine AA 1 0 (ds:=[v0_0]) m AW f Z Z Z Z Z fun a f=> ?_
 obtain⟨ac,ad,hd⟩:=bind_some hd
 refine AF f Z Tryz.call116 (Wk.L0 m h0_0 ad) fun ae af ag w ah m ai a f=> ?_
 obtain⟨aj,ak,rfl,rfl,al⟩:=ai
 have h0_0:=rd2 ah h0_0
 have h1:=rd1 ah h1
 refine BF (cs:=[(.slice none 0 0)]) Tryz.zeroValue29 m f Z Z fun am w a m f=>AR 0 0 (ds:=[aj]) m Tryz.sizeOf29 f Z Z Z (AM (Ow.one1 1 m al Z) A6) Z (Nat.le_of_ble_eq_true Z) Z fun w m=>Aa (Ac ?_)
 refine AA 3 0 (ds:=[v0_0]) m AW f Z Z Z Z Z fun a f=> ?_
 obtain⟨an,ao,hd⟩:=bind_some hd
 refine AY f Z Tryz.call42 (Wk.a m h0_0 ao) fun ap w aq m a f=> ?_
 have h0_0:=rd2 aq h0_0
 have h1:=rd1 aq h1
 have al:=Ow.mono (RSl.mono (RI.mono _)) aq al
 obtain⟨ar,au,hd⟩:=bind_some hd
 refine CT (R:=RB) m T71 Z (by decide) Z f Z Z Z au fun av aw w a m ax f=>Ad f Z fun a f=>Aa (Af (Ac ?_))
 refine Ad f Z fun a f=>Aa ?_
 obtain⟨ay,az,hd⟩:=bind_some hd
 refine AE (fun a w=>∃aA:List (List Int),aA=ay∧∃(aB:GH) (aC:Itm),GLe ap aB∧Fr a 35 [(4,(.pointer (some ⟨ab,0,none⟩))),(5,(.pointer (some ⟨am,0,none⟩)))]∧Mem W aB w (Itm.box ab 29 [(.slice none 0 0)]::Itm.box am 29 [aj]::aC::H)∧Ow (RSl (RI .i64)) 31 aB aC aj aA) ?_ ?_
 ·refine Ai ?_
  have m:=m.front 1 rfl
  have m:=m.front 3 rfl
  have m:=m.eraseAt 4
  refine AB (fun aD a w=>∃aE:List Bool,∃aF:Int,∃aG:List (List Int),(aE,aF,aG)=aD∧∃(aH:GH) (aI:Itm) (aJ:Itm),GLe ap aH∧Fr a 35 [(1,v1),(4,(.pointer (some ⟨ab,0,none⟩))),(5,(.pointer (some ⟨am,0,none⟩))),(6,aw),(7,(.int .i64 aF))]∧Mem W aH w (Itm.box ab 29 [(.slice none 0 0)]::Itm.box am 29 [aj]::aI::aJ::H)∧Ow RB 4 aH aI aw aE∧Ow (RSl (RI .i64)) 31 aH aJ aj aG) az ⟨_,_,_,Z,_,av,ak,gr,f.k Z,m,ax,al⟩ ?_
  clear az f m
  rintro aD aK aL aM a w ⟨aE,aF,aG,rfl,aH,aI,aJ,aN,f,m,aO,aP⟩
  have h1:=rd1 aN h1
  refine Af (Ac ?_)
  refine Ab f Z fun a f=>Ab f Z fun a f=>AX Tryz.underlying31 f Z Z h1 fun a f=>Ag f Z Z AD fun a f=>Aa ?_
  rcases Ae aL with⟨aQ,aL⟩|⟨aQ,aL⟩
  ·refine Am f Z aQ ?_
   refine An ?_
   refine Af (Ai (Ac ?_))
   refine Ab f Z fun a f=>Ab f Z fun a f=>Ab f Z fun a f=> ?_
   obtain⟨aR,aS,aL⟩:=bind_some aL
   refine Bb T31 f Z Z Z h1 aS fun aT aU a aV aW f=> ?_
   subst aW
   refine Az m Pl2 f Z Z aV fun a f=> ?_
   obtain⟨aX,aY,aL⟩:=bind_some aL
   refine AQ 2 m aO Z T71 f Z Z Z aY fun aZ a a2 f=>AC 2 m aO Z Tryz.sizeOf4 f Z Z a2 aY Z Z Z fun a3 w m a4=>Aa ?_
   refine A7 8 AJ (by kernel_rfl) m ?_
   refine BC (i:=0) (ds:=[aj]) 8 1 AW Z Z Z Z (by kernel_rfl) Z f Z Z Z fun a f=>BC (i:=1) (ds:=[aj]) 8 1 AW Z Z Z Z (by kernel_rfl) Z f Z Z Z fun a f=>Ak 2 8 Z f Z fun a f=>Ak 3 8 Z f Z fun a f=> ?_
   obtain⟨a5,a6,aL⟩:=bind_some aL
   refine BZ 4 8 T31 h1 a6 Z f Z Z fun a7 a8 a a9 ba f=> ?_
   subst ba
   refine B2 5 8 Pl2 a9 Z f Z fun a f=>Ak 6 8 Z f Z fun a f=>BJ (i:=7) Z (by kernel_rfl) Z fun bb w bc m bd bd=> ?_
   have h1:=rd1 bc h1
   have a9:=At.mono bc a9
   have a4:=Ow.mono RB.mono bc a4
   have aP:=Ow.mono (RSl.mono (RI.mono _)) bc aP
   obtain⟨be,bf,aL⟩:=bind_some aL
   refine AF f Z Tryz.call58 (Ow.lendCall (RSl.mono (RI.mono _)) 3 aP m Z (fun bg bh m bi=>(Ow.lendCall RB.mono 2 (Ow.mono RB.mono bh a4) m Z (fun bj bk m bl=>Wk.s m (rd2 bk bi) bl bf) (fun _ G' _ _ ⟨a0,a1,e1,e2,o0⟩=>⟨a0,a1,e1,e2,Ow.free (RI.free _) G' o0⟩))) (fun _ G' _ _ ⟨a0,a1,e1,e2,o0⟩=>⟨a0,a1,e1,e2,Ow.free (RI.free _) G' o0⟩)) fun bm bn bo w bp m bq a f=> ?_
   obtain⟨br,bs,rfl,rfl,bt⟩:=bq
   have h1:=rd1 bp h1
   have a9:=At.mono bp a9
   have a4:=Ow.mono RB.mono bp a4
   have aP:=Ow.mono (RSl.mono (RI.mono _)) bp aP
   refine Aa ?_
   refine bd bn [bs] _ _ bp m ?_
   refine AV fun bu w bv m=> ?_
   have h1:=rd1 bv h1
   have a9:=At.mono bv a9
   have bt:=od1 bv bt
   have a4:=Ow.mono RB.mono bv a4
   have aP:=Ow.mono (RSl.mono (RI.mono _)) bv aP
   obtain⟨bw,bx,m,bz⟩:=Ow.stamp (RI.mono _) bt m
   have h1:=rd1 bx h1
   have a9:=At.mono bx a9
   have a4:=Ow.mono RB.mono bx a4
   have aP:=Ow.mono (RSl.mono (RI.mono _)) bx aP
   have m:Mem W bw w (aJ::Itm.box ab 29 [(.slice none 0 0)]::Itm.box am 29 [aj]::a3::H):=m.front 3 rfl
   obtain⟨bA,bB,aL⟩:=bind_some aL
   refine AF f Z Tryz.call117 (Wk.c0 m aP bz bB) fun bC bD bE w bF m bG a f=> ?_
   obtain⟨bH,rfl,rfl,bI⟩:=bG
   have h1:=rd1 bF h1
   have a9:=At.mono bF a9
   have bz:=rd1 bF bz
   have a4:=Ow.mono RB.mono bF a4
   refine AR 2 0 (ds:=[aj]) m Tryz.sizeOf29 f Z Z Z (AM (Ow.one1 0 m bI Z) A6) Z (Nat.le_of_ble_eq_true Z) Z fun w m=>Aa (Aj ?_)
   refine Ab f Z fun a f=>Ag f Z Z As fun a f=>Ad f Z fun a f=>Aa ?_
   have m:=m.front 3 rfl
   have m:=m.front 3 rfl
   have m:Mem W bD w (Itm.box ab 29 [(.slice none 0 0)]::Itm.box am 29 [aj]::a3::bH::H):=m.front 3 rfl
   obtain rfl:=sj aL
   exact⟨_,Z,_,_,_,Z,_,a3,bH,(gt aN (gt bc (gt bp (gt bv (gt bx bF))))),f.k Z,m,a4,bI⟩
  ·refine Ah f Z aQ ?_
   refine Ax Z ?_
   have m:=m.front 3 rfl
   have m:=m.front 2 rfl
   have m:Mem W aH w (Itm.box ab 29 [(.slice none 0 0)]::Itm.box am 29 [aj]::aJ::aI::H):=m.front 2 rfl
   have m:=m.eraseAt 3
   obtain rfl:=sj aL
   obtain rfl:=aM _ rfl
   exact⟨_,Z,_,aJ,aN,f.k Z,m,aP⟩
 ·rintro a w ⟨aA,rfl,aB,aC,bJ,f,m,bK⟩
  refine Ac ?_
  refine AA 1 0 (ds:=[aj]) m AW f Z Z Z Z Z fun a f=>AR 0 0 (ds:=[aj]) m Tryz.sizeOf29 f Z Z Z (AM (Ow.one1 2 m bK Z) A6) Z (Nat.le_of_ble_eq_true Z) Z fun w m=>Aa ?_
  refine Ap ?_
  have bL:=CL (P:=Tryz.prog) 0 m AW f (s:=4) rfl rfl rfl
  have m:=m.front 2 rfl
  have m:=m.eraseAt 2
  have m:=m.eraseAt 1
  obtain rfl:=sj hd
  exact⟨[(.agg #[aj])],⟨bL,trivial⟩,f.defers,_,[aC],(gt ah (gt aq bJ)),m,_,_,Z,Z,bK⟩
theorem Wk.k0 {W w:World}{G:GH}{H:List Itm}{v0_0:Value}{v1:Value}{x0_0:(List (List Int))}{x1:(List Int)}(m:Mem W G w (H))(h0_0:RSl (RSl (RI .i64)) G v0_0 x0_0)(h1:RSl (RI .i64) G v1 x1){y:((List (List Int)))}(hd:D.k0 x0_0 x1=some y):
  Calls Tryz.prog 46 #[(.agg #[v0_0]),v1] w (Res W G H (fun G' Ho v=>∃r0:Value,∃i0:Itm,Ho=[i0]∧r0=v∧Ow (RSl (RI .i64)) 31 G' i0 r0 y)):=by
 refine Ar (args:=[(.agg #[v0_0]),v1]) (N:=44) [.tmp 4] Tryz.func46 Z Z (Nat.le_of_ble_eq_true Z) Z fun a f=> ?_
 unfold D.k0 at hd
 refine Ac ?_
 refine Bn (cs:=[v0_0]) m f Z Z Z fun aa w a m f=>Ad f Z fun a f=>Aa (Ac ?_)
 refine AA 0 0 (ds:=[v0_0]) m AW f Z Z Z Z Z fun a f=>Ab f Z fun a f=> ?_
 obtain⟨ab,ac,hd⟩:=bind_some hd
 refine AF f Z Tryz.call87 (Wk.O0 m h0_0 h1 ac) fun ad ae af w ag m ah a f=> ?_
 obtain⟨ai,aj,rfl,rfl,ak⟩:=ah
 have h0_0:=rd2 ag h0_0
 have h1:=rd1 ag h1
 refine BF (cs:=[(.slice none 0 0)]) Tryz.zeroValue29 m f Z Z fun al w a m f=>AR 0 0 (ds:=[ai]) m Tryz.sizeOf29 f Z Z Z (AM (Ow.one1 1 m ak Z) A6) Z (Nat.le_of_ble_eq_true Z) Z fun w m=>Aa (Ac ?_)
 refine AA 2 0 (ds:=[v0_0]) m AW f Z Z Z Z Z fun a f=> ?_
 obtain⟨am,an,hd⟩:=bind_some hd
 refine AY f Z Tryz.call42 (Wk.a m h0_0 an) fun ao w ap m a f=> ?_
 have h0_0:=rd2 ap h0_0
 have h1:=rd1 ap h1
 have ak:=Ow.mono (RSl.mono (RI.mono _)) ap ak
 obtain⟨aq,ar,hd⟩:=bind_some hd
 refine CT (R:=RB) m T71 Z (by decide) Z f Z Z Z ar fun au av w a m aw f=>Ad f Z fun a f=>Aa (Ac ?_)
 refine AA 3 0 (ds:=[v0_0]) m AW f Z Z Z Z Z fun a f=> ?_
 obtain⟨ax,ay,hd⟩:=bind_some hd
 refine AY f Z Tryz.call42 (Wk.a m h0_0 ay) fun az w aA m a f=> ?_
 have h0_0:=rd2 aA h0_0
 have h1:=rd1 aA h1
 have aw:=Ow.mono RB.mono aA aw
 have ak:=Ow.mono (RSl.mono (RI.mono _)) aA ak
 obtain⟨aB,aC,hd⟩:=bind_some hd
 refine CT (R:=(RSl (RI .i64))) m T27 Z (by decide) (RSl.nil (RI .i64) az) f Z Z Z aC fun aD aE w a m aF f=>Ad f Z fun a f=>Aa (Af (Ac ?_))
 refine Ad f Z fun a f=>Aa ?_
 obtain⟨aG,aH,hd⟩:=bind_some hd
 refine AE (fun a w=>∃aI:List (List Int),aI=aG∧∃(aJ:GH) (aK:Itm),GLe az aJ∧Fr a 44 [(7,aE)]∧Mem W aJ w (aK::H)∧Ow (RSl (RI .i64)) 31 aJ aK aE aI) ?_ ?_
 ·refine Ai ?_
  have m:=m.front 1 rfl
  have m:=m.front 2 rfl
  have m:=m.eraseAt 4
  refine AB (fun aL a w=>∃aM:List Bool,∃aN:List (List Int),∃aO:Int,(aM,aN,aO)=aL∧∃(aP:GH) (aQ:Itm) (aR:Itm),GLe az aP∧Fr a 44 [(1,v1),(5,(.pointer (some ⟨al,0,none⟩))),(6,av),(7,aE),(8,(.int .i64 aO))]∧Mem W aP w (Itm.box al 29 [ai]::aQ::aR::aj::H)∧Ow RB 4 aP aQ av aM∧Ow (RSl (RI .i64)) 31 aP aR aE aN) aH ⟨_,_,_,Z,_,au,aD,gr,f.k Z,m,aw,aF⟩ ?_
  clear aH f m
  rintro aL aS aT aU a w ⟨aM,aN,aO,rfl,aP,aQ,aR,aV,f,m,aW,aX⟩
  have h1:=rd1 aV h1
  have ak:=Ow.mono (RSl.mono (RI.mono _)) aV ak
  refine Af (Ac ?_)
  refine Ab f Z fun a f=>Ab f Z fun a f=>AX Tryz.underlying31 f Z Z h1 fun a f=>Ag f Z Z AD fun a f=>Aa ?_
  rcases Ae aT with⟨aY,aT⟩|⟨aY,aT⟩
  ·refine Am f Z aY ?_
   refine An ?_
   refine Af (Ai (Ac ?_))
   refine Ab f Z fun a f=>Ab f Z fun a f=>Ab f Z fun a f=> ?_
   obtain⟨aZ,a2,aT⟩:=bind_some aT
   refine Bb T31 f Z Z Z h1 a2 fun a3 a4 a a5 a6 f=> ?_
   subst a6
   refine Az m Pl2 f Z Z a5 fun a f=> ?_
   obtain⟨a7,a8,aT⟩:=bind_some aT
   refine AQ 1 m aW Z T71 f Z Z Z a8 fun a9 a ba f=>AC 1 m aW Z Tryz.sizeOf4 f Z Z ba a8 Z Z Z fun bb w m bc=>Aa ?_
   refine A7 13 AJ (by kernel_rfl) m ?_
   refine Ak 0 13 Z f Z fun a f=>Ak 1 13 Z f Z fun a f=>Ak 2 13 Z f Z fun a f=> ?_
   obtain⟨bd,be,aT⟩:=bind_some aT
   refine BZ 3 13 T31 h1 be Z f Z Z fun bf bg a bh bi f=> ?_
   subst bi
   refine B2 4 13 Pl2 bh Z f Z fun a f=>BC (i:=5) (ds:=[ai]) 13 0 AW Z Z Z Z (by kernel_rfl) Z f Z Z Z fun a f=>Ak 6 13 Z f Z fun a f=>Ak 7 13 Z f Z fun a f=> ?_
   obtain⟨bj,bk,aT⟩:=bind_some aT
   refine BZ 8 13 T31 h1 bk Z f Z Z fun bl bm a bn bo f=> ?_
   subst bo
   refine B2 9 13 Pl2 bn Z f Z fun a f=>Ak 10 13 Z f Z fun a f=>BJ (i:=11) Z (by kernel_rfl) Z fun bp w bq m br br=> ?_
   have h1:=rd1 bq h1
   have bh:=At.mono bq bh
   have bn:=At.mono bq bn
   have bc:=Ow.mono RB.mono bq bc
   have aX:=Ow.mono (RSl.mono (RI.mono _)) bq aX
   have ak:=Ow.mono (RSl.mono (RI.mono _)) bq ak
   obtain⟨bs,bt,aT⟩:=bind_some aT
   refine AF f Z Tryz.call58 (Ow.lendCall (RSl.mono (RI.mono _)) 3 ak m Z (fun bu bv m bw=>(Ow.lendCall RB.mono 1 (Ow.mono RB.mono bv bc) m Z (fun bx bz m bA=>Wk.s m (rd2 bz bw) bA bt) (fun _ G' _ _ ⟨a0,a1,e1,e2,o0⟩=>⟨a0,a1,e1,e2,Ow.free (RI.free _) G' o0⟩))) (fun _ G' _ _ ⟨a0,a1,e1,e2,o0⟩=>⟨a0,a1,e1,e2,Ow.free (RI.free _) G' o0⟩)) fun bB bC bD w bE m bF a f=> ?_
   obtain⟨bG,bH,rfl,rfl,bI⟩:=bF
   have h1:=rd1 bE h1
   have bh:=At.mono bE bh
   have bn:=At.mono bE bn
   have bc:=Ow.mono RB.mono bE bc
   have aX:=Ow.mono (RSl.mono (RI.mono _)) bE aX
   have ak:=Ow.mono (RSl.mono (RI.mono _)) bE ak
   refine Aa ?_
   refine br bC [bH] _ _ bE m ?_
   obtain⟨bJ,bK,aT⟩:=bind_some aT
   refine AT 12 13 3 m aX T27 bK Z f Z Z fun bL a bM f=>AV fun bN w bO m=> ?_
   have h1:=rd1 bO h1
   have bh:=At.mono bO bh
   have bn:=At.mono bO bn
   have bI:=od1 bO bI
   have bc:=Ow.mono RB.mono bO bc
   have aX:=Ow.mono (RSl.mono (RI.mono _)) bO aX
   have ak:=Ow.mono (RSl.mono (RI.mono _)) bO ak
   obtain⟨bP,bQ,m,bR⟩:=Ow.stamp (RI.mono _) bI m
   have h1:=rd1 bQ h1
   have bh:=At.mono bQ bh
   have bn:=At.mono bQ bn
   have bc:=Ow.mono RB.mono bQ bc
   have aX:=Ow.mono (RSl.mono (RI.mono _)) bQ aX
   have ak:=Ow.mono (RSl.mono (RI.mono _)) bQ ak
   refine AC 2 m aX Z Tryz.sizeOf31 f Z Z bM bK bR.cells bR.one1 bR fun bS w m bT=>Aa (Aj ?_)
   refine Ab f Z fun a f=>Ag f Z Z As fun a f=>Ad f Z fun a f=>Aa ?_
   obtain rfl:=sj aT
   exact⟨_,Z,_,_,_,Z,_,bb,bS,(gt aV (gt bq (gt bE (gt bO bQ)))),f.k Z,m,bc,bT⟩
  ·refine Ah f Z aY ?_
   refine Ax Z ?_
   have m:=m.front 2 rfl
   have m:=m.front 3 rfl
   have m:Mem W aP w (aQ::aj::aR::Itm.box al 29 [ai]::H):=m.front 3 rfl
   have m:=m.front 2 rfl
   have m:=m.eraseAt 3
   have m:Mem W aP w (aR::aQ::H):=m.eraseAt 2
   have m:=m.eraseAt 1
   obtain rfl:=sj aT
   obtain rfl:=aU _ rfl
   exact⟨_,Z,_,aR,aV,f.k Z,m,aX⟩
 ·rintro a w ⟨aI,rfl,aJ,aK,bU,f,m,bV⟩
  refine Ac ?_
  refine Ab f Z fun a f=>Ad f Z fun a f=>Aa ?_
  refine Ap ?_
  obtain rfl:=sj hd
  exact⟨[aE],⟨f.get _ _ Z,trivial⟩,f.defers,_,[aK],(gt ag (gt ap (gt aA bU))),m,_,_,Z,Z,bV⟩
theorem Wk.b0 {W w:World}{G:GH}{H:List Itm}{v0_0:Value}{v1:Value}{x0_0:(List (List Int))}{x1:(List Int)}(m:Mem W G w (H))(h0_0:RSl (RSl (RI .i64)) G v0_0 x0_0)(h1:RSl (RI .i64) G v1 x1){y:Int}(hd:D.b0 x0_0 x1=some y):
  Calls Tryz.prog 15 #[(.agg #[v0_0]),v1] w (Res W G H (fun _ Ho v=>Ho=[]∧v=(.int .i64 y))):=by
 refine Ar (args:=[(.agg #[v0_0]),v1]) (N:=29) [.tmp 4] Tryz.func15 Z Z (Nat.le_of_ble_eq_true Z) Z fun a f=> ?_
 unfold D.b0 at hd
 refine Ac ?_
 refine Bn (cs:=[v0_0]) m f Z Z Z fun aa w a m f=>Ad f Z fun a f=>Aa (Af (Ac ?_))
 refine AA 0 0 (ds:=[v0_0]) m AW f Z Z Z Z Z fun a f=>Ab f Z fun a f=> ?_
 obtain⟨ab,ac,hd⟩:=bind_some hd
 refine AY f Z Tryz.call45 (Wk.f0 m h0_0 h1 ac) fun ad w ae m a f=> ?_
 have h0_0:=rd2 ae h0_0
 have h1:=rd1 ae h1
 refine l_o f (Bp (f.eval Z)) fun a f=>Aa ?_
 rcases Ae hd with⟨af,hd⟩|⟨af,hd⟩
 ·refine Am f Z af ?_
  refine Ac ?_
  refine Ad f Z fun a f=>Aa ?_
  refine Ap ?_
  have m:Mem W ad w H:=Mem.drop (H':=[Itm.box aa 29 [v0_0]]) m
  obtain rfl:=sj hd
  exact⟨[(.int .i64 (-1))],⟨f.get _ _ Z,trivial⟩,f.defers,_,[],ae,m,Z,Z⟩
 ·refine Ah f Z af ?_
  refine An ?_
  refine Ac ?_
  refine AA 0 0 (ds:=[v0_0]) m AW f Z Z Z Z Z fun a f=>Ab f Z fun a f=> ?_
  obtain⟨ag,ah,hd⟩:=bind_some hd
  refine AF f Z Tryz.call46 (Wk.k0 m h0_0 h1 ah) fun ai aj ak w al m am a f=> ?_
  obtain⟨an,ao,rfl,rfl,ap⟩:=am
  have h0_0:=rd2 al h0_0
  have h1:=rd1 al h1
  refine Ad f Z fun a f=>Aa (Ac ?_)
  refine Ad f Z fun a f=>Aa (Af (Ac ?_))
  refine Ad f Z fun a f=>Aa ?_
  obtain⟨aq,ar,hd⟩:=bind_some hd
  refine AE (fun a w=>∃au:Int,au=aq∧∃(av:GH),GLe aj av∧Fr a 29 [(6,(.int .i64 au))]∧Mem W av w (H)) ?_ ?_
  ·refine Ai ?_
   have m:=m.eraseAt 1
   refine AB (fun aw a w=>∃ax:Int,∃ay:Int,(ax,ay)=aw∧∃(az:GH),GLe aj az∧Fr a 29 [(5,an),(6,(.int .i64 ax)),(7,(.int .i64 ay))]∧Mem W az w (ao::H)) ar ⟨_,_,Z,_,gr,f.k Z,m⟩ ?_
   clear ar f m
   rintro aw aA aB aC a w ⟨ax,ay,rfl,az,aD,f,m⟩
   have ap:=Ow.mono (RSl.mono (RI.mono _)) aD ap
   refine Af (Ac ?_)
   refine Ab f Z fun a f=>Ab f Z fun a f=>Bl 0 m ap Z Tryz.underlying27 f Z Z fun a f=>Ag f Z Z AD fun a f=>Aa ?_
   rcases Ae aB with⟨aE,aB⟩|⟨aE,aB⟩
   ·refine Am f Z aE ?_
    refine An ?_
    refine Af (Ai (Aj ?_))
    refine Ab f Z fun a f=>Ab f Z fun a f=>Ab f Z fun a f=> ?_
    obtain⟨aF,aG,aB⟩:=bind_some aB
    refine AQ 0 m ap Z T27 f Z Z Z aG fun aH a aI f=>Br 0 m ap Z AS f Z Z aI aG fun aJ a aK f=>AX Tryz.underlying31 f Z Z aK fun a f=> ?_
    obtain⟨aL,aM,aB⟩:=bind_some aB
    refine AY f Z Tryz.call47 (Wk.m m aM) fun aN w aO m a f=> ?_
    have aK:=rd1 aO aK
    have ap:=Ow.mono (RSl.mono (RI.mono _)) aO ap
    refine Ad f Z fun a f=>Aa (Aj ?_)
    refine Ab f Z fun a f=>Ag f Z Z As fun a f=>Ad f Z fun a f=>Aa ?_
    obtain rfl:=sj aB
    exact⟨_,Z,_,_,Z,_,(gt aD aO),f.k Z,m⟩
   ·refine Ah f Z aE ?_
    refine Ax Z ?_
    have m:Mem W az w H:=Mem.drop (H':=[ao]) m
    obtain rfl:=sj aB
    obtain rfl:=aC _ rfl
    exact⟨_,Z,_,aD,f.k Z,m⟩
  ·rintro a w ⟨au,rfl,av,aP,f,m⟩
   refine Ac ?_
   refine Ab f Z fun a f=>Ad f Z fun a f=>Aa ?_
   refine Ap ?_
   obtain rfl:=sj hd
   exact⟨[(.int .i64 au)],⟨f.get _ _ Z,trivial⟩,f.defers,_,[],(gt ae (gt al aP)),m,Z,Z⟩
theorem Wk.M0 {W w:World}{G:GH}{H:List Itm}{v0_0:Value}{v0_1:Value}{x0_0:(List (List Int))}{x0_1:(List (List Int))}(m:Mem W G w (H))(h0_0:RSl (RSl (RI .i64)) G v0_0 x0_0)(h0_1:RSl (RSl (RI .i64)) G v0_1 x0_1){y:Bool}(hd:D.M0 x0_0 x0_1=some y):
  Calls Tryz.prog 88 #[(.agg #[v0_0,v0_1])] w (Res W G H (fun _ Ho v=>Ho=[]∧v=(.bool y))):=by
 refine Ar (args:=[(.agg #[v0_0,v0_1])]) (N:=41) [.tmp 2] Tryz.func88 Z Z (Nat.le_of_ble_eq_true Z) Z fun a f=> ?_
 unfold D.M0 at hd
 refine Ac ?_
 refine Bn (cs:=[v0_0,v0_1]) m f Z Z Z fun aa w a m f=>Ad f Z fun a f=>Aa (Ac ?_)
 refine Bo Tryz.underlying36 Z Tryz.sizeOf27 f Z fun a f=>AG 0 0 m Bk f Z Z Z Z fun a f=>AX Tryz.underlying27 f Z Z h0_0 fun a f=>Ad f Z fun a f=>Aa (Af (Ac ?_))
 refine Ab f Z fun a f=> ?_
 obtain⟨ab,ac,hd⟩:=bind_some hd
 refine AY f Z Tryz.call66 (Wk.c m ac) fun ad w ae m a f=> ?_
 have h0_0:=rd2 ae h0_0
 have h0_1:=rd2 ae h0_1
 refine l_o f (Bp (f.eval Z)) fun a f=>Ab f Z fun a f=> ?_
 refine Bw 5 (fun a w=>∃af,GLe ad af∧Mem W af w (Itm.box aa 36 [v0_0,v0_1]::H)∧Fr a 41 [(0,(.agg #[v0_0,v0_1])),(1,(.pointer (some ⟨aa,0,none⟩))),(3,(.int .i64 (x0_0.length:Int))),(8,(.int .i64 (x0_0.length:Int))),(9,(.bool ab)),(10,(.bool (!ab))),(11,(.bool (!ab))),(16,(.bool ((!ab)||(decide ((16:Int)<(x0_1.length:Int))))))]) ?_ ?_
 ·rcases Bool.eq_false_or_eq_true (!ab) with ag|ag
  ·refine Aw f ag fun a f=> ?_
   refine Aw f ag fun a f=>Aw f ag fun a f=>Aw f ag fun a f=>l_o f (AN (f.eval Z) ag (f.eval Z)) fun a f=> ?_
   exact⟨_,gr,m,f.weak ⟨Z,Z,Z,Z,Z,Z,Z,by rw[ag];rfl,trivial⟩⟩
  ·refine Av f ag ?_
   refine Bo Tryz.underlying36 Z Tryz.sizeOf27 f Z fun a f=>Av f ag ?_
   refine AG 0 1 m Bk f Z Z Z Z fun a f=>Av f ag ?_
   refine AX Tryz.underlying27 f Z Z h0_1 fun a f=>Av f ag ?_
   refine Ag f Z Z Cc fun a f=>l_o f (AO (f.eval Z) ag (f.eval Z)) fun a f=> ?_
   exact⟨_,gr,m,f.weak ⟨Z,Z,Z,Z,Z,Z,Z,by rw[ag];rfl,trivial⟩⟩
 ·rintro a w ⟨af,ah,m,f⟩
  have h0_0:=rd2 ah h0_0
  have h0_1:=rd2 ah h0_1
  refine Aa ?_
  rcases Ae hd with⟨ai,hd⟩|⟨ai,hd⟩
  ·refine Am f Z ai ?_
   refine Ac ?_
   refine Ad f Z fun a f=>Aa ?_
   refine Ap ?_
   have m:Mem W af w H:=Mem.drop (H':=[Itm.box aa 36 [v0_0,v0_1]]) m
   obtain rfl:=sj hd
   exact⟨[(.bool false)],⟨f.get _ _ Z,trivial⟩,f.defers,_,[],(gt ae ah),m,Z,Z⟩
  ·refine Ah f Z ai ?_
   refine An ?_
   refine Af (Ac ?_)
   refine Ad f Z fun a f=>Aa ?_
   obtain⟨aj,ak,hd⟩:=bind_some hd
   refine AE (fun a w=>∃q_120':Unit,aj= .inl q_120'∧∃(al:GH),GLe af al∧Fr a 41 []∧Mem W al w (H)) ?_ ?_
   ·refine Ai ?_
    refine AB (fun am a w=>∃an:Int,an=am∧∃(ao:GH),GLe af ao∧Fr a 41 [(1,(.pointer (some ⟨aa,0,none⟩))),(3,(.int .i64 (x0_0.length:Int))),(4,(.int .i64 an))]∧Mem W ao w (Itm.box aa 36 [v0_0,v0_1]::H)) ak ⟨_,Z,_,gr,f.k Z,m⟩ ?_
    clear ak f m
    rintro am ap aq ar a w ⟨an,rfl,ao,au,f,m⟩
    have h0_0:=rd2 au h0_0
    have h0_1:=rd2 au h0_1
    refine Af (Ac ?_)
    refine Ab f Z fun a f=>Bo Tryz.underlying36 Z Tryz.sizeOf27 f Z fun a f=>AG 0 1 m Bk f Z Z Z Z fun a f=>AX Tryz.underlying27 f Z Z h0_1 fun a f=>Ag f Z Z AD fun a f=>Aa ?_
    rcases Ae aq with⟨av,aq⟩|⟨av,aq⟩
    ·refine Am f Z av ?_
     refine An ?_
     refine Af (Ai (Ac ?_))
     refine Bo Tryz.underlying36 Z Tryz.sizeOf27 f Z fun a f=>AG 0 1 m Bk f Z Z Z Z fun a f=>Ab f Z fun a f=> ?_
     obtain⟨aw,ax,aq⟩:=bind_some aq
     refine Bb T27 f Z Z Z h0_1 ax fun ay az a aA aB f=>Az m AS f Z Z aA fun a f=>AX Tryz.underlying31 f Z Z aB fun a f=>Ag f Z Z CS fun a f=>Ab f Z fun a f=> ?_
     obtain⟨aC,aD,aq⟩:=bind_some aq
     refine Bw 9 (fun a w=>∃aE,GLe ao aE∧Mem W aE w (Itm.box aa 36 [v0_0,v0_1]::H)∧Fr a 41 [(1,(.pointer (some ⟨aa,0,none⟩))),(3,(.int .i64 (x0_0.length:Int))),(4,(.int .i64 an)),(21,(.bool (decide (an<(x0_1.length:Int))))),(24,(.pointer (some ⟨aa,1,none⟩))),(25,v0_1),(26,(.int .i64 an)),(27,ay),(28,az),(29,(.int .i64 (aw.length:Int))),(30,(.bool ((aw.length:Int) !=2))),(31,(.bool ((aw.length:Int) !=2))),(40,(.bool aC))]) ?_ ?_
     ·rcases Ae aD with⟨aF,aD⟩|⟨aF,aD⟩
      ·refine Aw f aF fun a f=> ?_
       refine Aw f aF fun a f=>Aw f aF fun a f=>Aw f aF fun a f=>Aw f aF fun a f=>Aw f aF fun a f=>Aw f aF fun a f=>Aw f aF fun a f=>l_o f (AN (f.eval Z) aF (f.eval Z)) fun a f=> ?_
       obtain rfl:=sj aD
       exact⟨_,gr,m,f.k Z⟩
      ·refine Av f aF ?_
       refine Bo Tryz.underlying36 Z Tryz.sizeOf27 f Z fun a f=>Av f aF ?_
       refine AG 0 1 m Bk f Z Z Z Z fun a f=>Av f aF ?_
       refine Ab f Z fun a f=>Av f aF ?_
       obtain⟨aG,aH,aD⟩:=bind_some aD
       refine Bb T27 f Z Z Z h0_1 aH fun aI aJ a aK aL f=>Av f aF ?_
       refine Az m AS f Z Z aK fun a f=>Av f aF ?_
       refine Ab f Z fun a f=>Av f aF ?_
       obtain⟨aM,aN,aD⟩:=bind_some aD
       refine AY f Z Tryz.call50 (Wk.q m aL aN) fun aO w aP m a f=> ?_
       have h0_1:=rd2 aP h0_1
       have aA:=At.mono aP aA
       have aB:=rd1 aP aB
       have aK:=At.mono aP aK
       have aL:=rd1 aP aL
       have h0_0:=rd2 aP h0_0
       refine Av f aF ?_
       refine l_o f (Bp (f.eval Z)) fun a f=>l_o f (AO (f.eval Z) aF (f.eval Z)) fun a f=> ?_
       obtain rfl:=sj aD
       exact⟨_,aP,m,f.k Z⟩
     ·rintro a w ⟨aE,aQ,m,f⟩
      have h0_1:=rd2 aQ h0_1
      have aA:=At.mono aQ aA
      have aB:=rd1 aQ aB
      have h0_0:=rd2 aQ h0_0
      refine Aa ?_
      rcases Ae aq with⟨aR,aq⟩|⟨aR,aq⟩
      ·refine Am f Z aR ?_
       refine Ac ?_
       refine Ad f Z fun a f=>Aa ?_
       refine Ap ?_
       have m:Mem W aE w H:=Mem.drop (H':=[Itm.box aa 36 [v0_0,v0_1]]) m
       obtain rfl:=sj aq
       obtain rfl:=ar _ rfl
       obtain rfl:=sj hd
       exact⟨[(.bool false)],⟨f.get _ _ Z,trivial⟩,f.defers,_,[],(gt ae (gt ah (gt au aQ))),m,Z,Z⟩
      ·refine Ah f Z aR ?_
       refine An ?_
       refine Aj ?_
       refine Ab f Z fun a f=>Ag f Z Z As fun a f=>Ad f Z fun a f=>Aa ?_
       obtain rfl:=sj aq
       exact⟨_,Z,_,Z,_,(gt au aQ),f.k Z,m⟩
    ·refine Ah f Z av ?_
     refine Ax Z ?_
     have m:Mem W ao w H:=Mem.drop (H':=[Itm.box aa 36 [v0_0,v0_1]]) m
     obtain rfl:=sj aq
     obtain rfl:=ar _ rfl
     exact⟨_,Z,_,au,f.weak trivial,m⟩
   ·rintro a w ⟨_,rfl,al,aS,f,m⟩
    refine Ac ?_
    refine Ad f Z fun a f=>Aa ?_
    refine Ap ?_
    obtain rfl:=sj hd
    exact⟨[(.bool true)],⟨f.get _ _ Z,trivial⟩,f.defers,_,[],(gt ae (gt ah aS)),m,Z,Z⟩
theorem Wk.D0 {W w:World}{G:GH}{H:List Itm}{x0:Int}(m:Mem W G w (H)){y:((List Int))}(hd:D.D0 x0=some y):
  Calls Tryz.prog 89 #[(.int .i64 x0)] w (Res W G H (fun G' Ho v=>∃r0:Value,∃i0:Itm,Ho=[i0]∧r0=v∧Ow (RI .i64) 2 G' i0 r0 y)):=by
 refine Ar (args:=[(.int .i64 x0)]) (N:=16) [.tmp 2] Tryz.func89 Z Z (Nat.le_of_ble_eq_true Z) Z fun a f=> ?_
 unfold D.D0 at hd
 refine Ac ?_
 refine Ad f Z fun a f=>Aa (Ac ?_)
 refine A5 (R:=(RI .i64)) (xs:=([]:List Int)) (RI.one _) m T31 f Z Z Z (by decide) (All2.nil _) fun aa ab w a m ac f=>Ad f Z fun a f=>Aa (Af (Ac ?_))
 refine Ad f Z fun a f=>Aa ?_
 obtain⟨ad,ae,hd⟩:=bind_some hd
 refine AE (fun a w=>∃af:List Int,af=ad∧∃(ag:GH) (ah:Value) (ai:Itm),GLe G ag∧Fr a 16 [(3,ah)]∧Mem W ag w (ai::H)∧Ow (RI .i64) 2 ag ai ah af) ?_ ?_
 ·refine Ai ?_
  refine AB (fun aj a w=>∃ak:List Int,∃al:Int,(ak,al)=aj∧∃(am:GH) (an:Value) (ao:Itm),GLe G am∧Fr a 16 [(0,(.int .i64 x0)),(3,an),(4,(.int .i64 al))]∧Mem W am w (ao::H)∧Ow (RI .i64) 2 am ao an ak) ae ⟨_,_,Z,_,ab,aa,gr,f.k Z,m,ac⟩ ?_
  clear ae f m
  rintro aj ap aq ar a w ⟨ak,al,rfl,am,an,ao,au,f,m,av⟩
  refine Af (Ac ?_)
  refine Ab f Z fun a f=>Ab f Z fun a f=>Ag f Z Z AD fun a f=>Aa ?_
  rcases Ae aq with⟨aw,aq⟩|⟨aw,aq⟩
  ·refine Am f Z aw ?_
   refine An ?_
   refine Af (Ai (Aj ?_))
   refine Ab f Z fun a f=>Ab f Z fun a f=>A5 (R:=(RI .i64)) (xs:=([al]:List Int)) (RI.one _) m T31 f Z Z Z (by decide) (All2.cons Z (All2.nil _)) fun ax ay w a m az f=> ?_
   obtain⟨aA,aB,aq⟩:=bind_some aq
   refine Bj (RI.one _) 1 m av Z T31 Z (by decide) f Z Z Z (Ow.src (j:=0) az m Z) aB fun aC aD w a m aE f=>Ad f Z fun a f=>Aa (Aj ?_)
   refine Ab f Z fun a f=>Ag f Z Z As fun a f=>Ad f Z fun a f=>Aa ?_
   have m:=m.front 1 rfl
   have m:=m.eraseAt 1
   obtain rfl:=sj aq
   exact⟨_,Z,_,_,Z,_,aD,aC,au,f.k Z,m,aE⟩
  ·refine Ah f Z aw ?_
   refine Ax Z ?_
   obtain rfl:=sj aq
   obtain rfl:=ar _ rfl
   exact⟨_,Z,_,an,ao,au,f.k Z,m,av⟩
 ·rintro a w ⟨af,rfl,ag,ah,ai,aF,f,m,aG⟩
  refine Ac ?_
  refine Ab f Z fun a f=>Ad f Z fun a f=>Aa ?_
  refine Ap ?_
  obtain rfl:=sj hd
  exact⟨[ah],⟨f.get _ _ Z,trivial⟩,f.defers,_,[ai],aF,m,_,_,Z,Z,aG⟩
theorem Wk.s0 {W w:World}{G:GH}{H:List Itm}{v0_0:Value}{v0_1:Value}{x0_0:(List (List Int))}{x0_1:(List (List Int))}{x1:Int}(m:Mem W G w (H))(h0_0:RSl (RSl (RI .i64)) G v0_0 x0_0)(h0_1:RSl (RSl (RI .i64)) G v0_1 x0_1){y:((List Int))}(hd:D.s0 x0_0 x0_1 x1=some y):
  Calls Tryz.prog 91 #[(.agg #[v0_0,v0_1]),(.int .i64 x1)] w (Res W G H (fun G' Ho v=>∃r0:Value,Ho=[]∧r0=v∧RSl (RI .i64) G' r0 y)):=by
 refine Ar (args:=[(.agg #[v0_0,v0_1]),(.int .i64 x1)]) (N:=52) [.tmp 4] Tryz.func91 Z Z (Nat.le_of_ble_eq_true Z) Z fun a f=> ?_
 unfold D.s0 at hd
 refine Ac ?_
 refine Bn (cs:=[v0_0,v0_1]) m f Z Z Z fun aa w a m f=>Ad f Z fun a f=>Aa (Ac ?_)
 refine A5 (R:=(RI .i64)) (xs:=([]:List Int)) (RI.one _) m T31 f Z Z Z (by decide) (All2.nil _) fun ab ac w a m ad f=>Ad f Z fun a f=>Aa (Af (Ac ?_))
 refine Ad f Z fun a f=>Aa ?_
 obtain⟨ae,af,m,ag⟩:=Ow.stamp (RI.mono _) ad m
 have h0_0:=rd2 af h0_0
 have h0_1:=rd2 af h0_1
 obtain⟨ah,ai,hd⟩:=bind_some hd
 refine AE (fun a w=>∃aj:List Int,aj=ah∧∃(ak:GH) (al:Value),GLe ae ak∧Fr a 52 [(5,al)]∧Mem W ak w (H)∧RSl (RI .i64) ak al aj) ?_ ?_
 ·refine Ai ?_
  refine AB (fun am a w=>∃an:List Int,∃ao:Int,(an,ao)=am∧∃(ap:GH) (aq:Value),GLe ae ap∧Fr a 52 [(1,(.int .i64 x1)),(2,(.pointer (some ⟨aa,0,none⟩))),(5,aq),(6,(.int .i64 ao))]∧Mem W ap w (Itm.box aa 36 [v0_0,v0_1]::H)∧RSl (RI .i64) ap aq an) ai ⟨_,_,Z,_,ac,gr,f.k Z,m,ag⟩ ?_
  clear ai f m
  rintro am ar au av a w ⟨an,ao,rfl,ap,aq,aw,f,m,ax⟩
  have h0_0:=rd2 aw h0_0
  have h0_1:=rd2 aw h0_1
  refine Af (Ac ?_)
  refine Ab f Z fun a f=>Bo Tryz.underlying36 Z Tryz.sizeOf27 f Z fun a f=>AG 0 1 m Bk f Z Z Z Z fun a f=>AX Tryz.underlying27 f Z Z h0_1 fun a f=>Ag f Z Z AD fun a f=>Aa ?_
  rcases Ae au with⟨ay,au⟩|⟨ay,au⟩
  ·refine Am f Z ay ?_
   refine An ?_
   refine Af (Ai (Af (Ac ?_)))
   refine Bo Tryz.underlying36 Z Tryz.sizeOf27 f Z fun a f=>AG 0 1 m Bk f Z Z Z Z fun a f=>Ab f Z fun a f=> ?_
   obtain⟨az,aA,au⟩:=bind_some au
   refine Bb T27 f Z Z Z h0_1 aA fun aB aC a aD aE f=>Az m AS f Z Z aD fun a f=> ?_
   obtain⟨aF,aG,au⟩:=bind_some au
   refine Bb T31 f Z Z Z aE aG fun aH aI a aJ aK f=> ?_
   subst aK
   refine Az m Pl2 f Z Z aJ fun a f=>Ab f Z fun a f=>Ag f Z Z BG fun a f=>Aa ?_
   obtain⟨aL,aM,au⟩:=bind_some au
   refine AE (fun a w=>∃aN:List Int,aN=aL∧∃(aO:GH) (aP:Value),GLe ap aO∧Fr a 52 [(1,(.int .i64 x1)),(2,(.pointer (some ⟨aa,0,none⟩))),(5,aP),(6,(.int .i64 ao))]∧Mem W aO w (Itm.box aa 36 [v0_0,v0_1]::H)∧RSl (RI .i64) aO aP aN) ?_ ?_
   ·rcases Ae aM with⟨aQ,aM⟩|⟨aQ,aM⟩
    ·refine Am f Z aQ ?_
     refine Aj ?_
     refine Ab f Z fun a f=>Bo Tryz.underlying36 Z Tryz.sizeOf27 f Z fun a f=>AG 0 1 m Bk f Z Z Z Z fun a f=>Ab f Z fun a f=> ?_
     obtain⟨aR,aS,aM⟩:=bind_some aM
     refine Bb T27 f Z Z Z h0_1 aS fun aT aU a aV aW f=>Az m AS f Z Z aV fun a f=> ?_
     obtain⟨aX,aY,aM⟩:=bind_some aM
     refine Bb T31 f Z Z Z aW aY fun aZ a0 a a1 a2 f=> ?_
     subst a2
     refine Az m Pl2 f Z Z a1 fun a f=> ?_
     obtain⟨a3,a4,aM⟩:=bind_some aM
     refine AF f Z Tryz.call85 (Wk.i m ax a4) fun a5 a6 a7 w a8 m a9 a f=> ?_
     obtain⟨ba,rfl,rfl,bb⟩:=a9
     have ax:=rd1 a8 ax
     have h0_1:=rd2 a8 h0_1
     have aV:=At.mono a8 aV
     have aW:=rd1 a8 aW
     have a1:=At.mono a8 a1
     have h0_0:=rd2 a8 h0_0
     refine Ad f Z fun a f=>Aa ?_
     obtain rfl:=sj aM
     exact⟨_,Z,_,ba,a8,f.k Z,m,bb⟩
    ·refine Ah f Z aQ ?_
     refine An ?_
     obtain rfl:=sj aM
     exact⟨_,Z,_,aq,gr,f.k Z,m,ax⟩
   ·rintro a w ⟨aN,rfl,aO,aP,bc,f,m,bd⟩
    have h0_0:=rd2 bc h0_0
    have h0_1:=rd2 bc h0_1
    refine Ac ?_
    refine Bo Tryz.underlying36 Z Tryz.sizeOf27 f Z fun a f=>AG 0 1 m Bk f Z Z Z Z fun a f=>Ab f Z fun a f=> ?_
    obtain⟨be,bf,au⟩:=bind_some au
    refine Bb T27 f Z Z Z h0_1 bf fun bg bh a bi bj f=>Az m AS f Z Z bi fun a f=> ?_
    obtain⟨bk,bl,au⟩:=bind_some au
    refine Bb T31 f Z Z Z bj bl fun bm bn a bo bp f=> ?_
    subst bp
    refine Az m Pl2 f Z Z bo fun a f=>Ab f Z fun a f=>Ag f Z Z BG fun a f=>Aa ?_
    rcases Ae au with⟨bq,au⟩|⟨bq,au⟩
    ·refine Am f Z bq ?_
     refine Aj ?_
     refine Ab f Z fun a f=>Bo Tryz.underlying36 Z Tryz.sizeOf27 f Z fun a f=>AG 0 1 m Bk f Z Z Z Z fun a f=>Ab f Z fun a f=> ?_
     obtain⟨br,bs,au⟩:=bind_some au
     refine Bb T27 f Z Z Z h0_1 bs fun bt bu a bv bw f=>Az m AS f Z Z bv fun a f=> ?_
     obtain⟨bx,bz,au⟩:=bind_some au
     refine Bb T31 f Z Z Z bw bz fun bA bB a bC bD f=> ?_
     subst bD
     refine Az m Pl2 f Z Z bC fun a f=> ?_
     obtain⟨bE,bF,au⟩:=bind_some au
     refine AF f Z Tryz.call85 (Wk.i m bd bF) fun bG bH bI w bJ m bK a f=> ?_
     obtain⟨bL,rfl,rfl,bM⟩:=bK
     have bd:=rd1 bJ bd
     have h0_1:=rd2 bJ h0_1
     have bv:=At.mono bJ bv
     have bw:=rd1 bJ bw
     have bC:=At.mono bJ bC
     have h0_0:=rd2 bJ h0_0
     refine Ad f Z fun a f=>Aa (Aj ?_)
     refine Ab f Z fun a f=>Ag f Z Z As fun a f=>Ad f Z fun a f=>Aa ?_
     obtain rfl:=sj au
     exact⟨_,Z,_,_,Z,_,bL,(gt aw (gt bc bJ)),f.k Z,m,bM⟩
    ·refine Ah f Z bq ?_
     refine An ?_
     refine Aj ?_
     refine Ab f Z fun a f=>Ag f Z Z As fun a f=>Ad f Z fun a f=>Aa ?_
     obtain rfl:=sj au
     exact⟨_,Z,_,_,Z,_,aP,(gt aw bc),f.k Z,m,bd⟩
  ·refine Ah f Z ay ?_
   refine Ax Z ?_
   have m:Mem W ap w H:=Mem.drop (H':=[Itm.box aa 36 [v0_0,v0_1]]) m
   obtain rfl:=sj au
   obtain rfl:=av _ rfl
   exact⟨_,Z,_,aq,aw,f.k Z,m,ax⟩
 ·rintro a w ⟨aj,rfl,ak,al,bN,f,m,bO⟩
  refine Ac ?_
  refine Ab f Z fun a f=>Ad f Z fun a f=>Aa ?_
  refine Ap ?_
  obtain rfl:=sj hd
  exact⟨[al],⟨f.get _ _ Z,trivial⟩,f.defers,_,[],(gt af bN),m,_,Z,Z,bO⟩
theorem Wk.D {W w:World}{G:GH}{H:List Itm}{v0_0:Value}{v0_1:Value}{v1:Value}{x0_0:(List (List Int))}{x0_1:(List (List Int))}{x1:(List Int)}(m:Mem W G w (H))(h0_0:RSl (RSl (RI .i64)) G v0_0 x0_0)(h0_1:RSl (RSl (RI .i64)) G v0_1 x0_1)(h1:RSl (RI .i64) G v1 x1){y:Int}(hd:D.D x0_0 x0_1 x1=some y):
  Calls Tryz.prog 54 #[(.agg #[v0_0,v0_1]),v1] w (Res W G H (fun _ Ho v=>Ho=[]∧v=(.int .i64 y))):=by
 refine Ar (args:=[(.agg #[v0_0,v0_1]),v1]) (N:=58) [.tmp 4] Tryz.func54 Z Z (Nat.le_of_ble_eq_true Z) Z fun a f=> ?_
 unfold D.D at hd
 refine Ac ?_
 refine Bn (cs:=[v0_0,v0_1]) m f Z Z Z fun aa w a m f=>Ad f Z fun a f=>Aa (Af (Ac ?_))
 refine Ab f Z fun a f=>AX Tryz.underlying31 f Z Z h1 fun a f=>Ag f Z Z BG fun a f=>Aa ?_
 rcases Ae hd with⟨ab,hd⟩|⟨ab,hd⟩
 ·refine Am f Z ab ?_
  refine Ac ?_
  refine Ad f Z fun a f=>Aa ?_
  refine Ap ?_
  have m:Mem W G w H:=Mem.drop (H':=[Itm.box aa 36 [v0_0,v0_1]]) m
  obtain rfl:=sj hd
  exact⟨[(.int .i64 0)],⟨f.get _ _ Z,trivial⟩,f.defers,_,[],gr,m,Z,Z⟩
 ·refine Ah f Z ab ?_
  refine An ?_
  refine Ac ?_
  refine Ab f Z fun a f=> ?_
  obtain⟨ac,ad,hd⟩:=bind_some hd
  refine Bb T31 f Z Z Z h1 ad fun ae af a ag ah f=> ?_
  subst ah
  refine Az m Pl2 f Z Z ag fun a f=>A5 (R:=(RI .i64)) (xs:=([ac]:List Int)) (RI.one _) m T31 f Z Z Z (by decide) (All2.cons Z (All2.nil _)) fun ai aj w a m ak f=>Ad f Z fun a f=>Aa (Af (Ac ?_))
  refine Ad f Z fun a f=>Aa ?_
  obtain⟨al,am,hd⟩:=bind_some hd
  refine AE (fun a w=>∃an:List Int,an=al∧∃(ao:GH) (ap:Value) (aq:Itm),GLe G ao∧Fr a 58 [(5,ap)]∧Mem W ao w (aq::H)∧Ow (RI .i64) 2 ao aq ap an) ?_ ?_
  ·refine Ai ?_
   have m:=m.front 1 rfl
   refine AB (fun ar a w=>∃au:List Int,∃av:Int,(au,av)=ar∧∃(aw:GH) (ax:Value) (ay:Itm),GLe G aw∧Fr a 58 [(1,v1),(2,(.pointer (some ⟨aa,0,none⟩))),(5,ax),(6,(.int .i64 av))]∧Mem W aw w (Itm.box aa 36 [v0_0,v0_1]::ay::H)∧Ow (RI .i64) 2 aw ay ax au) am ⟨_,_,Z,_,aj,ai,gr,f.k Z,m,ak⟩ ?_
   clear am f m
   rintro ar az aA aB a w ⟨au,av,rfl,aw,ax,ay,aC,f,m,aD⟩
   have h1:=rd1 aC h1
   have h0_0:=rd2 aC h0_0
   have h0_1:=rd2 aC h0_1
   refine Af (Ac ?_)
   refine Ab f Z fun a f=>Ab f Z fun a f=>Bl 1 m aD Z Tryz.underlying31 f Z Z fun a f=>Ag f Z Z AD fun a f=>Aa ?_
   rcases Ae aA with⟨aE,aA⟩|⟨aE,aA⟩
   ·refine Am f Z aE ?_
    refine An ?_
    refine Af (Ai (Af ?_))
    refine A7 7 AJ (by kernel_rfl) m ?_
    refine BC (i:=0) (ds:=[v0_0,v0_1]) 7 0 Dq Z Z Z Z (by kernel_rfl) Z f Z Z Z fun a f=>Ak 1 7 Z f Z fun a f=>Ak 2 7 Z f Z fun a f=> ?_
    obtain⟨aF,aG,aA⟩:=bind_some aA
    refine AT 3 7 1 m aD T31 aG Z f Z Z fun aH a aI f=>Ba 4 7 1 aD Pl2 aI aG Z f Z fun aJ a aK f=> ?_
    subst aK
    refine BJ (i:=5) Z (by kernel_rfl) Z fun aL w aM m aN aN=> ?_
    have h1:=rd1 aM h1
    have h0_0:=rd2 aM h0_0
    have h0_1:=rd2 aM h0_1
    have aD:=od1 aM aD
    obtain⟨aO,aP,aA⟩:=bind_some aA
    refine AF f Z Tryz.call91 (Wk.s0 m h0_0 h0_1 aP) fun aQ aR aS w aT m aU a f=> ?_
    obtain⟨aV,rfl,rfl,aW⟩:=aU
    have h1:=rd1 aT h1
    have h0_0:=rd2 aT h0_0
    have h0_1:=rd2 aT h0_1
    have aD:=od1 aT aD
    refine Aa ?_
    refine aN aR [] _ _ aT m ?_
    refine q_p 6 7 Z f (fun _=>BD (f.eval Z)) fun a f=>AV fun aX w aY m=> ?_
    have h1:=rd1 aY h1
    have aW:=rd1 aY aW
    have h0_0:=rd2 aY h0_0
    have h0_1:=rd2 aY h0_1
    have aD:=od1 aY aD
    refine Aa (Ac ?_)
    refine Ad f Z fun a f=>Aa ?_
    obtain⟨aZ,a0,aA⟩:=bind_some aA
    refine AE (fun a w=>∃a1:List Int,a1=aZ∧∃(a2:GH) (a3:Value) (a4:Itm),GLe aX a2∧Fr a 58 [(1,v1),(2,(.pointer (some ⟨aa,0,none⟩))),(5,a3),(6,(.int .i64 av))]∧Mem W a2 w (Itm.box aa 36 [v0_0,v0_1]::a4::H)∧Ow (RI .i64) 2 a2 a4 a3 a1) ?_ ?_
    ·refine Ai ?_
     refine AB (fun a5 a w=>∃a6:List Int,∃a7:Int,(a6,a7)=a5∧∃(a8:GH) (a9:Value) (ba:Itm),GLe aX a8∧Fr a 58 [(1,v1),(2,(.pointer (some ⟨aa,0,none⟩))),(5,a9),(6,(.int .i64 av)),(7,aV),(8,(.int .i64 a7))]∧Mem W a8 w (Itm.box aa 36 [v0_0,v0_1]::ba::H)∧Ow (RI .i64) 2 a8 ba a9 a6) a0 ⟨_,_,Z,_,ax,ay,gr,f.k Z,m,aD⟩ ?_
     clear a0 f m
     rintro a5 bb bc bd a w ⟨a6,a7,rfl,a8,a9,ba,be,f,m,bf⟩
     have h1:=rd1 be h1
     have aW:=rd1 be aW
     have h0_0:=rd2 be h0_0
     have h0_1:=rd2 be h0_1
     refine Af (Ac ?_)
     refine Ab f Z fun a f=>Ab f Z fun a f=>AX Tryz.underlying31 f Z Z aW fun a f=>Ag f Z Z AD fun a f=>Aa ?_
     rcases Ae bc with⟨bg,bc⟩|⟨bg,bc⟩
     ·refine Am f Z bg ?_
      refine An ?_
      refine Af (Ai (Ac ?_))
      refine Ab f Z fun a f=>Ab f Z fun a f=>Ab f Z fun a f=> ?_
      obtain⟨bh,bi,bc⟩:=bind_some bc
      refine Bb T31 f Z Z Z aW bi fun bj bk a bl bm f=> ?_
      subst bm
      refine Az m Pl2 f Z Z bl fun a f=> ?_
      obtain⟨bn,bo,bc⟩:=bind_some bc
      refine AY f Z Tryz.call84 (Wk.f m h1 bo) fun bp w bq m a f=> ?_
      have h1:=rd1 bq h1
      have aW:=rd1 bq aW
      have bl:=At.mono bq bl
      have h0_0:=rd2 bq h0_0
      have h0_1:=rd2 bq h0_1
      have bf:=od1 bq bf
      refine Ab f Z fun a f=> ?_
      obtain⟨br,bs,bc⟩:=bind_some bc
      refine Bw 8 (fun a w=>∃bt,GLe bp bt∧Mem W bt w (Itm.box aa 36 [v0_0,v0_1]::ba::H)∧Fr a 58 [(1,v1),(2,(.pointer (some ⟨aa,0,none⟩))),(5,a9),(6,(.int .i64 av)),(7,aV),(8,(.int .i64 a7)),(31,(.bool (decide (a7<(aO.length:Int))))),(34,v1),(35,aV),(36,(.int .i64 a7)),(37,bj),(38,(.int .i64 bh)),(39,(.bool bn)),(40,(.bool bn)),(48,(.bool br))]) ?_ ?_
      ·rcases Ae bs with⟨bu,bs⟩|⟨bu,bs⟩
       ·refine Av f bu ?_
        refine Ab f Z fun a f=>Av f bu ?_
        refine Ab f Z fun a f=>Av f bu ?_
        refine Ab f Z fun a f=>Av f bu ?_
        obtain⟨bv,bw,bs⟩:=bind_some bs
        refine Bb T31 f Z Z Z aW bw fun bx bz a bA bB f=> ?_
        subst bB
        refine Av f bu ?_
        refine Az m Pl2 f Z Z bA fun a f=>Av f bu ?_
        obtain⟨bC,bD,bs⟩:=bind_some bs
        refine AF f Z Tryz.call84 (Ow.lendCall (RI.mono _) 1 bf m Z (fun bE bF m bG=>Wk.f m bG bD) (fun _ _ _ _ h=>h)) fun bH bI bJ w bK m bL a f=> ?_
        obtain⟨rfl,rfl⟩:=bL
        have h1:=rd1 bK h1
        have aW:=rd1 bK aW
        have bl:=At.mono bK bl
        have bA:=At.mono bK bA
        have h0_0:=rd2 bK h0_0
        have h0_1:=rd2 bK h0_1
        have bf:=od1 bK bf
        refine Av f bu ?_
        refine l_o f (Bp (f.eval Z)) fun a f=>l_o f (AN (f.eval Z) bu (f.eval Z)) fun a f=> ?_
        obtain rfl:=sj bs
        exact⟨_,bK,m,f.k Z⟩
       ·refine Aw f bu fun a f=> ?_
        refine Aw f bu fun a f=>Aw f bu fun a f=>Aw f bu fun a f=>Aw f bu fun a f=>Aw f bu fun a f=>Aw f bu fun a f=>l_o f (AO (f.eval Z) bu (f.eval Z)) fun a f=> ?_
        obtain rfl:=sj bs
        exact⟨_,gr,m,f.k Z⟩
      ·rintro a w ⟨bt,bM,m,f⟩
       have h1:=rd1 bM h1
       have aW:=rd1 bM aW
       have bl:=At.mono bM bl
       have h0_0:=rd2 bM h0_0
       have h0_1:=rd2 bM h0_1
       have bf:=od1 bM bf
       refine Aa ?_
       rcases Ae bc with⟨bN,bc⟩|⟨bN,bc⟩
       ·refine Am f Z bN ?_
        refine Aj ?_
        refine Ab f Z fun a f=>Ab f Z fun a f=>Ab f Z fun a f=> ?_
        obtain⟨bO,bP,bc⟩:=bind_some bc
        refine Bb T31 f Z Z Z aW bP fun bQ bR a bS bT f=> ?_
        subst bT
        refine Az m Pl2 f Z Z bS fun a f=>A5 (R:=(RI .i64)) (xs:=([bO]:List Int)) (RI.one _) m T31 f Z Z Z (by decide) (All2.cons Z (All2.nil _)) fun bU bV w a m bW f=> ?_
        obtain⟨bX,bY,bc⟩:=bind_some bc
        refine Bj (RI.one _) 2 m bf Z T31 Z (by decide) f Z Z Z (Ow.src (j:=0) bW m Z) bY fun bZ b0 w a m b1 f=>Ad f Z fun a f=>Aa (Aj ?_)
        refine Ab f Z fun a f=>Ag f Z Z As fun a f=>Ad f Z fun a f=>Aa ?_
        have m:=m.front 2 rfl
        have m:=m.front 2 rfl
        have m:=m.eraseAt 2
        obtain rfl:=sj bc
        exact⟨_,Z,_,_,Z,_,b0,bZ,(gt be (gt bq bM)),f.k Z,m,b1⟩
       ·refine Ah f Z bN ?_
        refine An ?_
        refine Aj ?_
        refine Ab f Z fun a f=>Ag f Z Z As fun a f=>Ad f Z fun a f=>Aa ?_
        obtain rfl:=sj bc
        exact⟨_,Z,_,_,Z,_,a9,ba,(gt be (gt bq bM)),f.k Z,m,bf⟩
     ·refine Ah f Z bg ?_
      refine Ax Z ?_
      obtain rfl:=sj bc
      obtain rfl:=bd _ rfl
      exact⟨_,Z,_,a9,ba,be,f.k Z,m,bf⟩
    ·rintro a w ⟨a1,rfl,a2,a3,a4,b2,f,m,b3⟩
     have h1:=rd1 b2 h1
     have h0_0:=rd2 b2 h0_0
     have h0_1:=rd2 b2 h0_1
     refine Aj ?_
     refine Ab f Z fun a f=>Ag f Z Z As fun a f=>Ad f Z fun a f=>Aa ?_
     obtain rfl:=sj aA
     exact⟨_,Z,_,_,Z,_,a3,a4,(gt aC (gt aM (gt aT (gt aY b2)))),f.k Z,m,b3⟩
   ·refine Ah f Z aE ?_
    refine Ax Z ?_
    have m:=m.front 1 rfl
    have m:=m.eraseAt 1
    obtain rfl:=sj aA
    obtain rfl:=aB _ rfl
    exact⟨_,Z,_,ax,ay,aC,f.k Z,m,aD⟩
  ·rintro a w ⟨an,rfl,ao,ap,aq,b4,f,m,b5⟩
   refine Ac ?_
   refine Ab f Z fun a f=>Bl 0 m b5 Z Tryz.underlying31 f Z Z fun a f=>Ad f Z fun a f=>Aa ?_
   refine Ap ?_
   have m:Mem W ao w H:=Mem.drop (H':=[aq]) m
   obtain rfl:=sj hd
   exact⟨[(.int .i64 (an.length:Int))],⟨f.get _ _ Z,trivial⟩,f.defers,_,[],b4,m,Z,Z⟩
theorem Wk.l1 {W w:World}{G:GH}{H:List Itm}{v0_0:Value}{v0_1:Value}{x0_0:(List (List Int))}{x0_1:(List (List Int))}(m:Mem W G w (H))(h0_0:RSl (RSl (RI .i64)) G v0_0 x0_0)(h0_1:RSl (RSl (RI .i64)) G v0_1 x0_1){y:Bool}(hd:D.l1 x0_0 x0_1=some y):
  Calls Tryz.prog 49 #[(.agg #[v0_0,v0_1])] w (Res W G H (fun _ Ho v=>Ho=[]∧v=(.bool y))):=by
 refine Ar (args:=[(.agg #[v0_0,v0_1])]) (N:=27) [.tmp 2] Tryz.func49 Z Z (Nat.le_of_ble_eq_true Z) Z fun a f=> ?_
 unfold D.l1 at hd
 refine Ac ?_
 refine Bn (cs:=[v0_0,v0_1]) m f Z Z Z fun aa w a m f=>Ad f Z fun a f=>Aa (Af ?_)
 refine A7 25 AJ (by kernel_rfl) m ?_
 refine BC (i:=0) (ds:=[v0_0,v0_1]) 25 0 Dq Z Z Z Z (by kernel_rfl) Z f Z Z Z fun a f=> ?_
 obtain⟨ab,ac,hd⟩:=bind_some hd
 refine Ca (i:=1) 25 Z (by kernel_rfl) Z f Z Z Z Tryz.call88 (fun _ _ w ad m=>Wk.M0 m (rd2 ad h0_0) (rd2 ad h0_1) ac) fun a f=>Ak 2 25 Z f Z fun a f=>Ci (fuel':=13) (listed':= #[true,true,true,true,true,true,true,true,true,true,true,true,false,false,false,false,false,false,false,false,false,false,false,false,false]) (fun a=>Fr a 27 [(0,(.agg #[v0_0,v0_1])),(1,(.pointer (some ⟨aa,0,none⟩))),(3,(.agg #[v0_0,v0_1])),(4,(.bool ab)),(5,(.bool ab)),(14,(.bool (ab&&((x0_1.length:Int)==(IntKind.i64.wrap ((x0_0.length:Int)-1))))))]) ?_ ?_
 ·intro a f
  refine Ak 12 25 Z f Z fun a f=> ?_
  rcases Ae hd with⟨ae,hd⟩|⟨ae,hd⟩
  ·refine BC (i:=13) (ds:=[v0_0,v0_1]) 25 0 Dq Z Z Z Z (by kernel_rfl) Z f (Bg f Z Z Z ae) Z Z fun a f=> ?_
   refine Cg (hw:=wo f ae) 14 25 Tryz.underlying36 Z Tryz.sizeOf27 Z f Z fun a f=>BS (hw:=wo f ae) 15 25 0 Bk Z Z Z f Z fun a f=>q_len (i:=16) 25 Tryz.underlying27 h0_0 Z (by kernel_rfl) Z f (Bg f Z Z Z ae) Z Z fun a f=>Cg (hw:=wo f ae) 19 25 Tryz.underlying36 Z Tryz.sizeOf27 Z f Z fun a f=>BS (hw:=wo f ae) 20 25 0 Bk Z Z Z f Z fun a f=>q_len (i:=21) 25 Tryz.underlying27 h0_0 Z (by kernel_rfl) Z f (Bg f Z Z Z ae) Z Z fun a f=>BJ (i:=17) Z (by kernel_rfl) Z fun af w ag m ah ah=> ?_
   have h0_0:=rd2 ag h0_0
   have h0_1:=rd2 ag h0_1
   refine Av f ae ?_
   obtain⟨ai,aj,hd⟩:=bind_some hd
   refine AF f Z Tryz.call89 (Wk.D0 m aj) fun ak al am w an m ao a f=> ?_
   obtain⟨ap,aq,rfl,rfl,ar⟩:=ao
   have h0_0:=rd2 an h0_0
   have h0_1:=rd2 an h0_1
   refine Aa ?_
   refine ah al [aq] _ _ an m ?_
   refine BJ (i:=18) Z (by kernel_rfl) Z fun au w av m aw aw=> ?_
   have h0_0:=rd2 av h0_0
   have h0_1:=rd2 av h0_1
   have ar:=od1 av ar
   refine Av f ae ?_
   obtain⟨ax,ay,hd⟩:=bind_some hd
   refine AF f Z Tryz.call54 (Ow.lendCall (RI.mono _) 0 ar m Z (fun az aA m aB=>Wk.D m (rd2 aA h0_0) (rd2 aA h0_1) aB ay) (fun _ _ _ _ h=>h)) fun aC aD aE w aF m aG a f=> ?_
   obtain⟨rfl,rfl⟩:=aG
   have h0_0:=rd2 aF h0_0
   have h0_1:=rd2 aF h0_1
   have ar:=od1 aF ar
   refine Aa ?_
   refine aw aD [aq] _ _ aF m ?_
   refine q_p (hw:=wo f ae) 22 25 Z f (fun _=>AL (f.eval Z) (f.eval Z) BG) fun a f=>q_p 23 25 Z f (fun _=>AN (f.eval Z) ae (f.eval Z)) fun a f=>q_p 24 25 Z f (fun _=>BD (f.eval Z)) fun a f=>AV fun aH w aI m=> ?_
   have h0_0:=rd2 aI h0_0
   have h0_1:=rd2 aI h0_1
   have ar:=od1 aI ar
   refine Aa ?_
   refine Ap ?_
   have m:Mem W aH w H:=Mem.drop (H':=[aq,Itm.box aa 36 [v0_0,v0_1]]) m
   obtain rfl:=sj hd
   exact⟨[(.bool (ax==(x0_0.length:Int)))],⟨f.get _ _ Z,trivial⟩,f.defers,_,[],(gt ag (gt an (gt av (gt aF aI)))),m,Z,Z⟩
  ·refine Aq 13 25 Z f ae fun a f=> ?_
   refine Aq 14 25 Z f ae fun a f=>Aq 15 25 Z f ae fun a f=>Aq 16 25 Z f ae fun a f=>Aq 17 25 Z f ae fun a f=>Aq 18 25 Z f ae fun a f=>Aq 19 25 Z f ae fun a f=>Aq 20 25 Z f ae fun a f=>Aq 21 25 Z f ae fun a f=>Aq 22 25 Z f ae fun a f=>q_p 23 25 Z f (fun _=>AO (f.eval Z) ae (f.eval Z)) fun a f=>q_p 24 25 Z f (fun _=>BD (f.eval Z)) fun a f=>AV fun aJ w aK m=> ?_
   have h0_0:=rd2 aK h0_0
   have h0_1:=rd2 aK h0_1
   refine Aa ?_
   refine Ap ?_
   have m:Mem W aJ w H:=Mem.drop (H':=[Itm.box aa 36 [v0_0,v0_1]]) m
   obtain rfl:=sj hd
   exact⟨[(.bool false)],⟨f.get _ _ Z,trivial⟩,f.defers,_,[],aK,m,Z,Z⟩
 ·intro aL
  rcases Bool.eq_false_or_eq_true ab with aM|aM
  ·refine Cg (hw:=wo f aM) 3 25 Tryz.underlying36 Z Tryz.sizeOf27 Z f Z fun a f=> ?_
   refine BS (hw:=wo f aM) 4 25 0 Bk Z Z Z f Z fun a f=>q_len (i:=5) 25 Tryz.underlying27 h0_1 Z (by kernel_rfl) Z f (Bg f Z Z Z aM) Z Z fun a f=>Cg (hw:=wo f aM) 6 25 Tryz.underlying36 Z Tryz.sizeOf27 Z f Z fun a f=>BS (hw:=wo f aM) 7 25 0 Bk Z Z Z f Z fun a f=>q_len (i:=8) 25 Tryz.underlying27 h0_0 Z (by kernel_rfl) Z f (Bg f Z Z Z aM) Z Z fun a f=>q_p (hw:=wo f aM) 9 25 Z f (fun _=>AL (f.eval Z) (f.eval Z) A3) fun a f=>q_p (hw:=wo f aM) 10 25 Z f (fun _=>AL (f.eval Z) (f.eval Z) BG) fun a f=>q_p 11 25 Z f (fun _=>AN (f.eval Z) aM (f.eval Z)) fun a f=> ?_
   exact aL _ (f.weak ⟨Z,Z,Z,Z,Z,by rw[aM];rfl,trivial⟩)
  ·refine Aq 3 25 Z f aM fun a f=> ?_
   refine Aq 4 25 Z f aM fun a f=>Aq 5 25 Z f aM fun a f=>Aq 6 25 Z f aM fun a f=>Aq 7 25 Z f aM fun a f=>Aq 8 25 Z f aM fun a f=>Aq 9 25 Z f aM fun a f=>Aq 10 25 Z f aM fun a f=>q_p 11 25 Z f (fun _=>AO (f.eval Z) aM (f.eval Z)) fun a f=> ?_
   exact aL _ (f.weak ⟨Z,Z,Z,Z,Z,by rw[aM];rfl,trivial⟩)
theorem Wk.L {W w:World}{G:GH}{H:List Itm}{v0_0:Value}{x0_0:(List (List Int))}(m:Mem W G w (H))(h0_0:RSl (RSl (RI .i64)) G v0_0 x0_0){y:((List (List Int)))}(hd:D.L x0_0=some y):
  Calls Tryz.prog 51 #[(.agg #[v0_0])] w (Res W G H (fun G' Ho v=>∃r0:Value,∃i0:Itm,Ho=[i0]∧r0=v∧Ow (RSl (RI .i64)) 31 G' i0 r0 y)):=by
 refine Ar (args:=[(.agg #[v0_0])]) (N:=47) [.tmp 2] Tryz.func51 Z Z (Nat.le_of_ble_eq_true Z) Z fun a f=> ?_
 unfold D.L at hd
 refine Ac ?_
 refine Bn (cs:=[v0_0]) m f Z Z Z fun aa w a m f=>Ad f Z fun a f=>Aa (Ac ?_)
 refine A5 (R:=(RSl (RI .i64))) (xs:=([]:List (List Int))) (RSl.one _) m T27 f Z Z Z (by decide) (All2.nil _) fun ab ac w a m ad f=>Ad f Z fun a f=>Aa (Af (Ac ?_))
 refine Ad f Z fun a f=>Aa ?_
 obtain⟨ae,af,hd⟩:=bind_some hd
 refine AE (fun a w=>∃ag:List (List Int),ag=ae∧∃(ah:GH) (ai:Value) (aj:Itm),GLe G ah∧Fr a 47 [(3,ai)]∧Mem W ah w (aj::H)∧Ow (RSl (RI .i64)) 31 ah aj ai ag) ?_ ?_
 ·refine Ai ?_
  have m:=m.front 1 rfl
  refine AB (fun ak a w=>∃al:List (List Int),∃am:Int,(al,am)=ak∧∃(an:GH) (ao:Value) (ap:Itm),GLe G an∧Fr a 47 [(1,(.pointer (some ⟨aa,0,none⟩))),(3,ao),(4,(.int .i64 am))]∧Mem W an w (Itm.box aa 29 [v0_0]::ap::H)∧Ow (RSl (RI .i64)) 31 an ap ao al) af ⟨_,_,Z,_,ac,ab,gr,f.k Z,m,ad⟩ ?_
  clear af f m
  rintro ak aq ar au a w ⟨al,am,rfl,an,ao,ap,av,f,m,aw⟩
  have h0_0:=rd2 av h0_0
  refine Af (Ac ?_)
  refine Ab f Z fun a f=>AA 0 0 (ds:=[v0_0]) m AW f Z Z Z Z Z fun a f=> ?_
  obtain⟨ax,ay,ar⟩:=bind_some ar
  refine AY f Z Tryz.call42 (Wk.a m h0_0 ay) fun az w aA m a f=> ?_
  have h0_0:=rd2 aA h0_0
  have aw:=Ow.mono (RSl.mono (RI.mono _)) aA aw
  refine Ag f Z Z AD fun a f=>Aa ?_
  rcases Ae ar with⟨aB,ar⟩|⟨aB,ar⟩
  ·refine Am f Z aB ?_
   refine An ?_
   refine Af (Ai (Ac ?_))
   refine Ad f Z fun a f=>Aa ?_
   obtain⟨aC,aD,ar⟩:=bind_some ar
   refine AE (fun a w=>∃aE:List (List Int),aE=aC∧∃(aF:GH) (aG:Value) (aH:Itm),GLe az aF∧Fr a 47 [(1,(.pointer (some ⟨aa,0,none⟩))),(3,aG),(4,(.int .i64 am))]∧Mem W aF w (Itm.box aa 29 [v0_0]::aH::H)∧Ow (RSl (RI .i64)) 31 aF aH aG aE) ?_ ?_
   ·refine Ai ?_
    refine AB (fun aI a w=>∃aJ:List (List Int),∃aK:Int,(aJ,aK)=aI∧∃(aL:GH) (aM:Value) (aN:Itm),GLe az aL∧Fr a 47 [(1,(.pointer (some ⟨aa,0,none⟩))),(3,aM),(4,(.int .i64 am)),(5,(.int .i64 aK))]∧Mem W aL w (Itm.box aa 29 [v0_0]::aN::H)∧Ow (RSl (RI .i64)) 31 aL aN aM aJ) aD ⟨_,_,Z,_,ao,ap,gr,f.k Z,m,aw⟩ ?_
    clear aD f m
    rintro aI aO aP aQ a w ⟨aJ,aK,rfl,aL,aM,aN,aR,f,m,aS⟩
    have h0_0:=rd2 aR h0_0
    refine Af (Ac ?_)
    refine Ab f Z fun a f=>Bo Tryz.underlying29 Z Tryz.sizeOf27 f Z fun a f=>AG 0 0 m Bk f Z Z Z Z fun a f=>Ab f Z fun a f=> ?_
    obtain⟨aT,aU,aP⟩:=bind_some aP
    refine Bb T27 f Z Z Z h0_0 aU fun aV aW a aX aY f=>Az m AS f Z Z aX fun a f=>AX Tryz.underlying31 f Z Z aY fun a f=>Ag f Z Z AD fun a f=>Aa ?_
    rcases Ae aP with⟨aZ,aP⟩|⟨aZ,aP⟩
    ·refine Am f Z aZ ?_
     refine An ?_
     refine Af (Ai (Ac ?_))
     refine Bo Tryz.underlying29 Z Tryz.sizeOf27 f Z fun a f=>AG 0 0 m Bk f Z Z Z Z fun a f=>Ab f Z fun a f=> ?_
     obtain⟨a0,a1,aP⟩:=bind_some aP
     refine Bb T27 f Z Z Z h0_0 a1 fun a2 a3 a a4 a5 f=>Az m AS f Z Z a4 fun a f=>Ab f Z fun a f=> ?_
     obtain⟨a6,a7,aP⟩:=bind_some aP
     refine Bb T31 f Z Z Z a5 a7 fun a8 a9 a ba bb f=> ?_
     subst bb
     refine Az m Pl2 f Z Z ba fun a f=>Ab f Z fun a f=>Ag f Z Z Cc fun a f=>Aa ?_
     rcases Ae aP with⟨bc,aP⟩|⟨bc,aP⟩
     ·refine Am f Z bc ?_
      refine Aj ?_
      refine Ab f Z fun a f=>Ab f Z fun a f=>Bo Tryz.underlying29 Z Tryz.sizeOf27 f Z fun a f=>AG 0 0 m Bk f Z Z Z Z fun a f=>Ab f Z fun a f=> ?_
      obtain⟨bd,be,aP⟩:=bind_some aP
      refine Bb T27 f Z Z Z h0_0 be fun bf bg a bh bi f=>Az m AS f Z Z bh fun a f=>Ab f Z fun a f=> ?_
      obtain⟨bj,bk,aP⟩:=bind_some aP
      refine Bb T31 f Z Z Z bi bk fun bl bm a bn bo f=> ?_
      subst bo
      refine Az m Pl2 f Z Z bn fun a f=>A5 (R:=(RI .i64)) (xs:=([am,bj]:List Int)) (RI.one _) m T31 f Z Z Z (by decide) (All2.cons Z (All2.cons Z (All2.nil _))) fun bp bq w a m br f=> ?_
      obtain⟨bs,bt,m,bu⟩:=Ow.stamp (RI.mono _) br m
      have h0_0:=rd2 bt h0_0
      have bh:=At.mono bt bh
      have bi:=rd1 bt bi
      have bn:=At.mono bt bn
      have aS:=Ow.mono (RSl.mono (RI.mono _)) bt aS
      refine A5 (R:=(RSl (RI .i64))) (xs:=([([am,bj]:List Int)]:List (List Int))) (RSl.one _) m T27 f Z Z Z (by decide) (All2.cons bu (All2.nil _)) fun bv bw w a m bx f=> ?_
      obtain⟨bz,bA,aP⟩:=bind_some aP
      refine Bj (RSl.one _) 2 m aS Z T27 Z (by decide) f Z Z Z (Ow.src (j:=0) bx m Z) bA fun bB bC w a m bD f=>Ad f Z fun a f=>Aa (Aj ?_)
      refine Ab f Z fun a f=>Ag f Z Z As fun a f=>Ad f Z fun a f=>Aa ?_
      have m:=m.front 2 rfl
      have m:=m.front 2 rfl
      have m:=m.eraseAt 2
      obtain rfl:=sj aP
      exact⟨_,Z,_,_,Z,_,bC,bB,(gt aR bt),f.k Z,m,bD⟩
     ·refine Ah f Z bc ?_
      refine An ?_
      refine Aj ?_
      refine Ab f Z fun a f=>Ag f Z Z As fun a f=>Ad f Z fun a f=>Aa ?_
      obtain rfl:=sj aP
      exact⟨_,Z,_,_,Z,_,aM,aN,aR,f.k Z,m,aS⟩
    ·refine Ah f Z aZ ?_
     refine Ax Z ?_
     obtain rfl:=sj aP
     obtain rfl:=aQ _ rfl
     exact⟨_,Z,_,aM,aN,aR,f.k Z,m,aS⟩
   ·rintro a w ⟨aE,rfl,aF,aG,aH,bE,f,m,bF⟩
    have h0_0:=rd2 bE h0_0
    refine Aj ?_
    refine Ab f Z fun a f=>Ag f Z Z As fun a f=>Ad f Z fun a f=>Aa ?_
    obtain rfl:=sj ar
    exact⟨_,Z,_,_,Z,_,aG,aH,(gt av (gt aA bE)),f.k Z,m,bF⟩
  ·refine Ah f Z aB ?_
   refine Ax Z ?_
   have m:=m.front 1 rfl
   have m:=m.eraseAt 1
   obtain rfl:=sj ar
   obtain rfl:=au _ rfl
   exact⟨_,Z,_,ao,ap,(gt av aA),f.k Z,m,aw⟩
 ·rintro a w ⟨ag,rfl,ah,ai,aj,bG,f,m,bH⟩
  refine Ac ?_
  refine Ab f Z fun a f=>Ad f Z fun a f=>Aa ?_
  refine Ap ?_
  obtain rfl:=sj hd
  exact⟨[ai],⟨f.get _ _ Z,trivial⟩,f.defers,_,[aj],bG,m,_,_,Z,Z,bH⟩
theorem Wk.o0 {W w:World}{G:GH}{H:List Itm}{v0:Value}{v1:Value}{x0:(List Int)}{x1:(List Int)}(m:Mem W G w (H))(h0:RSl (RI .i64) G v0 x0)(h1:RSl (RI .i64) G v1 x1){y:((List Int))}(hd:D.o0 x0 x1=some y):
  Calls Tryz.prog 118 #[v0,v1] w (Res W G H (fun G' Ho v=>∃r0:Value,∃i0:Itm,Ho=[i0]∧r0=v∧Ow (RI .i64) 2 G' i0 r0 y)):=by
 refine Ar (args:=[v0,v1]) (N:=28) [.tmp 4] Tryz.func118 Z Z (Nat.le_of_ble_eq_true Z) Z fun a f=> ?_
 unfold D.o0 at hd
 refine Ac ?_
 refine Ad f Z fun a f=>Aa (Ac ?_)
 refine A5 (R:=(RI .i64)) (xs:=([]:List Int)) (RI.one _) m T31 f Z Z Z (by decide) (All2.nil _) fun aa ab w a m ac f=>Ad f Z fun a f=>Aa (Af (Ac ?_))
 refine Ad f Z fun a f=>Aa ?_
 obtain⟨ad,ae,hd⟩:=bind_some hd
 refine AE (fun a w=>∃af:List Int,af=ad∧∃(ag:GH) (ah:Value) (ai:Itm),GLe G ag∧Fr a 28 [(5,ah)]∧Mem W ag w (ai::H)∧Ow (RI .i64) 2 ag ai ah af) ?_ ?_
 ·refine Ai ?_
  refine AB (fun aj a w=>∃ak:List Int,∃al:Int,(ak,al)=aj∧∃(am:GH) (an:Value) (ao:Itm),GLe G am∧Fr a 28 [(0,v0),(1,v1),(5,an),(6,(.int .i64 al))]∧Mem W am w (ao::H)∧Ow (RI .i64) 2 am ao an ak) ae ⟨_,_,Z,_,ab,aa,gr,f.k Z,m,ac⟩ ?_
  clear ae f m
  rintro aj ap aq ar a w ⟨ak,al,rfl,am,an,ao,au,f,m,av⟩
  have h0:=rd1 au h0
  have h1:=rd1 au h1
  refine Af (Ac ?_)
  refine Ab f Z fun a f=>Ab f Z fun a f=>AX Tryz.underlying31 f Z Z h0 fun a f=>Ag f Z Z AD fun a f=>Aa ?_
  rcases Ae aq with⟨aw,aq⟩|⟨aw,aq⟩
  ·refine Am f Z aw ?_
   refine An ?_
   refine Af (Ai (Ac ?_))
   refine Ab f Z fun a f=>Ab f Z fun a f=>Ab f Z fun a f=> ?_
   obtain⟨ax,ay,aq⟩:=bind_some aq
   refine Bb T31 f Z Z Z h0 ay fun az aA a aB aC f=> ?_
   subst aC
   refine Az m Pl2 f Z Z aB fun a f=> ?_
   obtain⟨aD,aE,aq⟩:=bind_some aq
   refine AY f Z Tryz.call84 (Wk.f m h1 aE) fun aF w aG m a f=> ?_
   have h0:=rd1 aG h0
   have h1:=rd1 aG h1
   have aB:=At.mono aG aB
   have av:=od1 aG av
   refine Aa ?_
   rcases Ae aq with⟨aH,aq⟩|⟨aH,aq⟩
   ·refine Am f Z aH ?_
    refine Aj ?_
    refine Ab f Z fun a f=>Ab f Z fun a f=>Ab f Z fun a f=> ?_
    obtain⟨aI,aJ,aq⟩:=bind_some aq
    refine Bb T31 f Z Z Z h0 aJ fun aK aL a aM aN f=> ?_
    subst aN
    refine Az m Pl2 f Z Z aM fun a f=>A5 (R:=(RI .i64)) (xs:=([aI]:List Int)) (RI.one _) m T31 f Z Z Z (by decide) (All2.cons Z (All2.nil _)) fun aO aP w a m aQ f=> ?_
    obtain⟨aR,aS,aq⟩:=bind_some aq
    refine Bj (RI.one _) 1 m av Z T31 Z (by decide) f Z Z Z (Ow.src (j:=0) aQ m Z) aS fun aT aU w a m aV f=>Ad f Z fun a f=>Aa (Aj ?_)
    refine Ab f Z fun a f=>Ag f Z Z As fun a f=>Ad f Z fun a f=>Aa ?_
    have m:=m.front 1 rfl
    have m:=m.eraseAt 1
    obtain rfl:=sj aq
    exact⟨_,Z,_,_,Z,_,aU,aT,(gt au aG),f.k Z,m,aV⟩
   ·refine Ah f Z aH ?_
    refine An ?_
    refine Aj ?_
    refine Ab f Z fun a f=>Ag f Z Z As fun a f=>Ad f Z fun a f=>Aa ?_
    obtain rfl:=sj aq
    exact⟨_,Z,_,_,Z,_,an,ao,(gt au aG),f.k Z,m,av⟩
  ·refine Ah f Z aw ?_
   refine Ax Z ?_
   obtain rfl:=sj aq
   obtain rfl:=ar _ rfl
   exact⟨_,Z,_,an,ao,au,f.k Z,m,av⟩
 ·rintro a w ⟨af,rfl,ag,ah,ai,aW,f,m,aX⟩
  refine Ac ?_
  refine Ab f Z fun a f=>Ad f Z fun a f=>Aa ?_
  refine Ap ?_
  obtain rfl:=sj hd
  exact⟨[ah],⟨f.get _ _ Z,trivial⟩,f.defers,_,[ai],aW,m,_,_,Z,Z,aX⟩
theorem Wk.x {W w:World}{G:GH}{H:List Itm}{v0:Value}{v1:Value}{x0:(List Int)}{x1:(List Int)}(m:Mem W G w (H))(h0:RSl (RI .i64) G v0 x0)(h1:RSl (RI .i64) G v1 x1){y:Bool}(hd:D.x x0 x1=some y):
  Calls Tryz.prog 90 #[v0,v1] w (Res W G H (fun _ Ho v=>Ho=[]∧v=(.bool y))):=by
 refine Ar (args:=[v0,v1]) (N:=12) [.tmp 4] Tryz.func90 Z Z (Nat.le_of_ble_eq_true Z) Z fun a f=> ?_
 unfold D.x at hd
 refine Ac ?_
 refine Ad f Z fun a f=>Aa (Ac ?_)
 refine Ab f Z fun a f=>Ab f Z fun a f=> ?_
 obtain⟨aa,ab,hd⟩:=bind_some hd
 refine AF f Z Tryz.call118 (Wk.o0 m h0 h1 ab) fun ac ad ae w af m ag a f=> ?_
 obtain⟨ah,ai,rfl,rfl,aj⟩:=ag
 have h0:=rd1 af h0
 have h1:=rd1 af h1
 refine Bl 0 m aj Z Tryz.underlying31 f Z Z fun a f=>Ab f Z fun a f=>AX Tryz.underlying31 f Z Z h0 fun a f=>Ag f Z Z BG fun a f=>Ad f Z fun a f=>Aa ?_
 refine Ap ?_
 have m:Mem W ad w H:=Mem.drop (H':=[ai]) m
 obtain rfl:=sj hd
 exact⟨[(.bool ((aa.length:Int)==(x0.length:Int)))],⟨f.get _ _ Z,trivial⟩,f.defers,_,[],af,m,Z,Z⟩
end Go.Proofs.YtkffjeaefgfnnaaGreatDoor

set_option maxRecDepth 100000
namespace Go.Proofs.YtkffjeaefgfnnaaGreatDoor
open Go Go.Sx
theorem Wk.Q0 {W w:World}{G:GH}{H:List Itm}{v0_0:Value}{v0_1:Value}{v1:Value}{x0_0:(List (List Int))}{x0_1:(List (List Int))}{x1:(List Int)}(m:Mem W G w (H))(h0_0:RSl (RSl (RI .i64)) G v0_0 x0_0)(h0_1:RSl (RSl (RI .i64)) G v0_1 x0_1)(h1:RSl (RI .i64) G v1 x1){y:Bool}(hd:D.Q0 x0_0 x0_1 x1=some y):
  Calls Tryz.prog 52 #[(.agg #[v0_0,v0_1]),v1] w (Res W G H (fun _ Ho v=>Ho=[]∧v=(.bool y))):=by
 refine Ar (args:=[(.agg #[v0_0,v0_1]),v1]) (N:=20) [.tmp 4] Tryz.func52 Z Z (Nat.le_of_ble_eq_true Z) Z fun a f=> ?_
 unfold D.Q0 at hd
 refine Ac ?_
 refine Bn (cs:=[v0_0,v0_1]) m f Z Z Z fun aa w a m f=>Ad f Z fun a f=>Aa (Af (Ac ?_))
 refine Ad f Z fun a f=>Aa ?_
 obtain⟨ab,ac,hd⟩:=bind_some hd
 refine AE (fun a w=>∃q_35':Unit,ab= .inl q_35'∧∃(ad:GH),GLe G ad∧Fr a 20 []∧Mem W ad w (H)) ?_ ?_
 ·refine Ai ?_
  refine AB (fun ae a w=>∃af:Int,af=ae∧∃(ag:GH),GLe G ag∧Fr a 20 [(1,v1),(2,(.pointer (some ⟨aa,0,none⟩))),(5,(.int .i64 af))]∧Mem W ag w (Itm.box aa 36 [v0_0,v0_1]::H)) ac ⟨_,Z,_,gr,f.k Z,m⟩ ?_
  clear ac f m
  rintro ae ah ai aj a w ⟨af,rfl,ag,ak,f,m⟩
  have h1:=rd1 ak h1
  have h0_0:=rd2 ak h0_0
  have h0_1:=rd2 ak h0_1
  refine Af (Ac ?_)
  refine Ab f Z fun a f=>Bo Tryz.underlying36 Z Tryz.sizeOf27 f Z fun a f=>AG 0 0 m Bk f Z Z Z Z fun a f=>AX Tryz.underlying27 f Z Z h0_0 fun a f=>Ag f Z Z AD fun a f=>Aa ?_
  rcases Ae ai with⟨al,ai⟩|⟨al,ai⟩
  ·refine Am f Z al ?_
   refine An ?_
   refine Af (Ai (Ac ?_))
   refine Ab f Z fun a f=>Bo Tryz.underlying36 Z Tryz.sizeOf27 f Z fun a f=>AG 0 0 m Bk f Z Z Z Z fun a f=>Ab f Z fun a f=> ?_
   obtain⟨am,an,ai⟩:=bind_some ai
   refine Bb T27 f Z Z Z h0_0 an fun ao ap a aq ar f=>Az m AS f Z Z aq fun a f=> ?_
   obtain⟨au,av,ai⟩:=bind_some ai
   refine AY f Z Tryz.call90 (Wk.x m h1 ar av) fun aw w ax m a f=> ?_
   have h1:=rd1 ax h1
   have h0_0:=rd2 ax h0_0
   have aq:=At.mono ax aq
   have ar:=rd1 ax ar
   have h0_1:=rd2 ax h0_1
   refine Aa ?_
   rcases Ae ai with⟨ay,ai⟩|⟨ay,ai⟩
   ·refine Am f Z ay ?_
    refine Ac ?_
    refine Ad f Z fun a f=>Aa ?_
    refine Ap ?_
    have m:Mem W aw w H:=Mem.drop (H':=[Itm.box aa 36 [v0_0,v0_1]]) m
    obtain rfl:=sj ai
    obtain rfl:=aj _ rfl
    obtain rfl:=sj hd
    exact⟨[(.bool true)],⟨f.get _ _ Z,trivial⟩,f.defers,_,[],(gt ak ax),m,Z,Z⟩
   ·refine Ah f Z ay ?_
    refine An ?_
    refine Aj ?_
    refine Ab f Z fun a f=>Ag f Z Z As fun a f=>Ad f Z fun a f=>Aa ?_
    obtain rfl:=sj ai
    exact⟨_,Z,_,Z,_,(gt ak ax),f.k Z,m⟩
  ·refine Ah f Z al ?_
   refine Ax Z ?_
   have m:Mem W ag w H:=Mem.drop (H':=[Itm.box aa 36 [v0_0,v0_1]]) m
   obtain rfl:=sj ai
   obtain rfl:=aj _ rfl
   exact⟨_,Z,_,ak,f.weak trivial,m⟩
 ·rintro a w ⟨_,rfl,ad,az,f,m⟩
  refine Ac ?_
  refine Ad f Z fun a f=>Aa ?_
  refine Ap ?_
  obtain rfl:=sj hd
  exact⟨[(.bool false)],⟨f.get _ _ Z,trivial⟩,f.defers,_,[],az,m,Z,Z⟩
theorem Wk.w0 {W w:World}{G:GH}{H:List Itm}{v0_0:Value}{v0_1:Value}{x0_0:(List (List Int))}{x0_1:(List (List Int))}{x1:Int}(m:Mem W G w (H))(h0_0:RSl (RSl (RI .i64)) G v0_0 x0_0)(h0_1:RSl (RSl (RI .i64)) G v0_1 x0_1){y:((List Int))}(hd:D.w0 x0_0 x0_1 x1=some y):
  Calls Tryz.prog 53 #[(.agg #[v0_0,v0_1]),(.int .i64 x1)] w (Res W G H (fun G' Ho v=>∃r0:Value,∃i0:Itm,Ho=[i0]∧r0=v∧Ow (RI .i64) 2 G' i0 r0 y)):=by
 refine Ar (args:=[(.agg #[v0_0,v0_1]),(.int .i64 x1)]) (N:=27) [.tmp 4] Tryz.func53 Z Z (Nat.le_of_ble_eq_true Z) Z fun a f=> ?_
 unfold D.w0 at hd
 refine Ac ?_
 refine Bn (cs:=[v0_0,v0_1]) m f Z Z Z fun aa w a m f=>Ad f Z fun a f=>Aa (Ac ?_)
 refine A5 (R:=(RI .i64)) (xs:=([]:List Int)) (RI.one _) m T31 f Z Z Z (by decide) (All2.nil _) fun ab ac w a m ad f=>Ad f Z fun a f=>Aa (Af (Ac ?_))
 refine Ad f Z fun a f=>Aa ?_
 obtain⟨ae,af,hd⟩:=bind_some hd
 refine AE (fun a w=>∃ag:List Int,ag=ae∧∃(ah:GH) (ai:Value) (aj:Itm),GLe G ah∧Fr a 27 [(5,ai)]∧Mem W ah w (aj::H)∧Ow (RI .i64) 2 ah aj ai ag) ?_ ?_
 ·refine Ai ?_
  have m:=m.front 1 rfl
  refine AB (fun ak a w=>∃al:List Int,∃am:Int,(al,am)=ak∧∃(an:GH) (ao:Value) (ap:Itm),GLe G an∧Fr a 27 [(1,(.int .i64 x1)),(2,(.pointer (some ⟨aa,0,none⟩))),(5,ao),(6,(.int .i64 am))]∧Mem W an w (Itm.box aa 36 [v0_0,v0_1]::ap::H)∧Ow (RI .i64) 2 an ap ao al) af ⟨_,_,Z,_,ac,ab,gr,f.k Z,m,ad⟩ ?_
  clear af f m
  rintro ak aq ar au a w ⟨al,am,rfl,an,ao,ap,av,f,m,aw⟩
  have h0_0:=rd2 av h0_0
  have h0_1:=rd2 av h0_1
  refine Af (Ac ?_)
  refine Ab f Z fun a f=>Bo Tryz.underlying36 Z Tryz.sizeOf27 f Z fun a f=>AG 0 0 m Bk f Z Z Z Z fun a f=>AX Tryz.underlying27 f Z Z h0_0 fun a f=>Ag f Z Z AD fun a f=>Aa ?_
  rcases Ae ar with⟨ax,ar⟩|⟨ax,ar⟩
  ·refine Am f Z ax ?_
   refine An ?_
   refine Af (Ai (Ac ?_))
   refine Bo Tryz.underlying36 Z Tryz.sizeOf27 f Z fun a f=>AG 0 0 m Bk f Z Z Z Z fun a f=>Ab f Z fun a f=> ?_
   obtain⟨ay,az,ar⟩:=bind_some ar
   refine Bb T27 f Z Z Z h0_0 az fun aA aB a aC aD f=>Az m AS f Z Z aC fun a f=>Ab f Z fun a f=> ?_
   obtain⟨aE,aF,ar⟩:=bind_some ar
   refine AY f Z Tryz.call84 (Wk.f m aD aF) fun aG w aH m a f=> ?_
   have h0_0:=rd2 aH h0_0
   have aC:=At.mono aH aC
   have aD:=rd1 aH aD
   have h0_1:=rd2 aH h0_1
   have aw:=od1 aH aw
   refine Aa ?_
   rcases Ae ar with⟨aI,ar⟩|⟨aI,ar⟩
   ·refine Am f Z aI ?_
    refine Aj ?_
    refine Ab f Z fun a f=>Ab f Z fun a f=>A5 (R:=(RI .i64)) (xs:=([am]:List Int)) (RI.one _) m T31 f Z Z Z (by decide) (All2.cons Z (All2.nil _)) fun aJ aK w a m aL f=> ?_
    obtain⟨aM,aN,ar⟩:=bind_some ar
    refine Bj (RI.one _) 2 m aw Z T31 Z (by decide) f Z Z Z (Ow.src (j:=0) aL m Z) aN fun aO aP w a m aQ f=>Ad f Z fun a f=>Aa (Aj ?_)
    refine Ab f Z fun a f=>Ag f Z Z As fun a f=>Ad f Z fun a f=>Aa ?_
    have m:=m.front 2 rfl
    have m:=m.front 2 rfl
    have m:=m.eraseAt 2
    obtain rfl:=sj ar
    exact⟨_,Z,_,_,Z,_,aP,aO,(gt av aH),f.k Z,m,aQ⟩
   ·refine Ah f Z aI ?_
    refine An ?_
    refine Aj ?_
    refine Ab f Z fun a f=>Ag f Z Z As fun a f=>Ad f Z fun a f=>Aa ?_
    obtain rfl:=sj ar
    exact⟨_,Z,_,_,Z,_,ao,ap,(gt av aH),f.k Z,m,aw⟩
  ·refine Ah f Z ax ?_
   refine Ax Z ?_
   have m:=m.front 1 rfl
   have m:=m.eraseAt 1
   obtain rfl:=sj ar
   obtain rfl:=au _ rfl
   exact⟨_,Z,_,ao,ap,av,f.k Z,m,aw⟩
 ·rintro a w ⟨ag,rfl,ah,ai,aj,aR,f,m,aS⟩
  refine Ac ?_
  refine Ab f Z fun a f=>Ad f Z fun a f=>Aa ?_
  refine Ap ?_
  obtain rfl:=sj hd
  exact⟨[ai],⟨f.get _ _ Z,trivial⟩,f.defers,_,[aj],aR,m,_,_,Z,Z,aS⟩
theorem Wk.j0 {W w:World}{G:GH}{H:List Itm}{v0_0:Value}{v1_0:Value}{v1_1:Value}{x0_0:(List (List Int))}{x1_0:(List (List Int))}{x1_1:(List (List Int))}(m:Mem W G w (H))(h0_0:RSl (RSl (RI .i64)) G v0_0 x0_0)(h1_0:RSl (RSl (RI .i64)) G v1_0 x1_0)(h1_1:RSl (RSl (RI .i64)) G v1_1 x1_1){y:Bool}(hd:D.j0 x0_0 x1_0 x1_1=some y):
  Calls Tryz.prog 16 #[(.agg #[v0_0]),(.agg #[v1_0,v1_1])] w (Res W G H (fun _ Ho v=>Ho=[]∧v=(.bool y))):=by
 refine Ar (args:=[(.agg #[v0_0]),(.agg #[v1_0,v1_1])]) (N:=69) [.tmp 4] Tryz.func16 Z Z (Nat.le_of_ble_eq_true Z) Z fun a f=> ?_
 unfold D.j0 at hd
 refine Ac ?_
 refine Bn (cs:=[v0_0]) m f Z Z Z fun aa w a m f=>Bn (cs:=[v1_0,v1_1]) m f Z Z Z fun ab w a m f=>Ad f Z fun a f=>Aa (Af (Ac ?_))
 refine AA 1 0 (ds:=[v0_0]) m AW f Z Z Z Z Z fun a f=> ?_
 obtain⟨ac,ad,hd⟩:=bind_some hd
 refine AY f Z Tryz.call48 (Wk.u m h0_0 ad) fun ae w af m a f=> ?_
 have h0_0:=rd2 af h0_0
 have h1_0:=rd2 af h1_0
 have h1_1:=rd2 af h1_1
 refine l_o f (Bp (f.eval Z)) fun a f=>Ab f Z fun a f=> ?_
 obtain⟨ag,ah,hd⟩:=bind_some hd
 refine Bw 4 (fun a w=>∃ai,GLe ae ai∧Mem W ai w (Itm.box ab 36 [v1_0,v1_1]::Itm.box aa 29 [v0_0]::H)∧Fr a 69 [(0,(.agg #[v0_0])),(1,(.agg #[v1_0,v1_1])),(2,(.pointer (some ⟨aa,0,none⟩))),(3,(.pointer (some ⟨ab,0,none⟩))),(10,(.agg #[v0_0])),(11,(.bool ac)),(12,(.bool (!ac))),(13,(.bool (!ac))),(17,(.bool ag))]) ?_ ?_
 ·rcases Ae ah with⟨aj,ah⟩|⟨aj,ah⟩
  ·refine Aw f aj fun a f=> ?_
   refine Aw f aj fun a f=>Aw f aj fun a f=>l_o f (AN (f.eval Z) aj (f.eval Z)) fun a f=> ?_
   obtain rfl:=sj ah
   exact⟨_,gr,m,f.k Z⟩
  ·refine Av f aj ?_
   refine AA 0 0 (ds:=[v1_0,v1_1]) m Dq f Z Z Z Z Z fun a f=>Av f aj ?_
   obtain⟨ak,al,ah⟩:=bind_some ah
   refine AY f Z Tryz.call49 (Wk.l1 m h1_0 h1_1 al) fun am w an m a f=> ?_
   have h0_0:=rd2 an h0_0
   have h1_0:=rd2 an h1_0
   have h1_1:=rd2 an h1_1
   refine Av f aj ?_
   refine l_o f (Bp (f.eval Z)) fun a f=>l_o f (AO (f.eval Z) aj (f.eval Z)) fun a f=> ?_
   obtain rfl:=sj ah
   exact⟨_,an,m,f.k Z⟩
 ·rintro a w ⟨ai,ao,m,f⟩
  have h0_0:=rd2 ao h0_0
  have h1_0:=rd2 ao h1_0
  have h1_1:=rd2 ao h1_1
  refine Aa ?_
  rcases Ae hd with⟨ap,hd⟩|⟨ap,hd⟩
  ·refine Am f Z ap ?_
   refine Ac ?_
   refine Ad f Z fun a f=>Aa ?_
   refine Ap ?_
   have m:Mem W ai w H:=Mem.drop (H':=[Itm.box ab 36 [v1_0,v1_1],Itm.box aa 29 [v0_0]]) m
   obtain rfl:=sj hd
   exact⟨[(.bool false)],⟨f.get _ _ Z,trivial⟩,f.defers,_,[],(gt af ao),m,Z,Z⟩
  ·refine Ah f Z ap ?_
   refine An ?_
   refine Af (Ac ?_)
   refine Ad f Z fun a f=>Aa ?_
   obtain⟨aq,ar,hd⟩:=bind_some hd
   refine AE (fun a w=>∃q_73':Unit,aq= .inl q_73'∧∃(au:GH),GLe ai au∧Fr a 69 [(2,(.pointer (some ⟨aa,0,none⟩))),(3,(.pointer (some ⟨ab,0,none⟩)))]∧Mem W au w (Itm.box aa 29 [v0_0]::Itm.box ab 36 [v1_0,v1_1]::H)) ?_ ?_
   ·refine Ai ?_
    have m:=m.front 1 rfl
    refine AB (fun av a w=>∃aw:Int,aw=av∧∃(ax:GH),GLe ai ax∧Fr a 69 [(2,(.pointer (some ⟨aa,0,none⟩))),(3,(.pointer (some ⟨ab,0,none⟩))),(5,(.int .i64 aw))]∧Mem W ax w (Itm.box aa 29 [v0_0]::Itm.box ab 36 [v1_0,v1_1]::H)) ar ⟨_,Z,_,gr,f.k Z,m⟩ ?_
    clear ar f m
    rintro av ay az aA a w ⟨aw,rfl,ax,aB,f,m⟩
    have h0_0:=rd2 aB h0_0
    have h1_0:=rd2 aB h1_0
    have h1_1:=rd2 aB h1_1
    refine Af (Ac ?_)
    refine Ab f Z fun a f=>Bo Tryz.underlying36 Z Tryz.sizeOf27 f Z fun a f=>AG 1 0 m Bk f Z Z Z Z fun a f=>AX Tryz.underlying27 f Z Z h1_0 fun a f=>Ag f Z Z AD fun a f=>Aa ?_
    rcases Ae az with⟨aC,az⟩|⟨aC,az⟩
    ·refine Am f Z aC ?_
     refine An ?_
     refine Af (Ai (Af ?_))
     refine A7 9 AJ (by kernel_rfl) m ?_
     refine Cg 0 9 Tryz.underlying36 Z Tryz.sizeOf27 Z f Z fun a f=>BS 1 9 1 Bk Z Z Z f Z fun a f=>Ak 2 9 Z f Z fun a f=> ?_
     obtain⟨aD,aE,az⟩:=bind_some az
     refine BZ 3 9 T27 h1_0 aE Z f Z Z fun aF aG a aH aI f=>B2 4 9 AS aH Z f Z fun a f=>BC (i:=5) (ds:=[v0_0]) 9 0 AW Z Z Z Z (by kernel_rfl) Z f Z Z Z fun a f=> ?_
     obtain⟨aJ,aK,az⟩:=bind_some az
     refine Ca (i:=6) 9 Z (by kernel_rfl) Z f Z Z Z Tryz.call42 (fun _ _ w aL m=>Wk.a m (rd2 aL h0_0) aK) fun a f=> ?_
     obtain⟨aM,aN,az⟩:=bind_some az
     refine Ca (i:=7) 9 Z (by kernel_rfl) Z f Z Z Z Tryz.call50 (fun _ _ w aO m=>Wk.q m (rd1 aO aI) aN) fun a f=>q_p 8 9 Z f (fun _=>Bp (f.eval Z)) fun a f=>AV fun aP w aQ m=> ?_
     have h1_0:=rd2 aQ h1_0
     have aH:=At.mono aQ aH
     have aI:=rd1 aQ aI
     have h0_0:=rd2 aQ h0_0
     have h1_1:=rd2 aQ h1_1
     refine Aa ?_
     rcases Ae az with⟨aR,az⟩|⟨aR,az⟩
     ·refine Am f Z aR ?_
      refine Ac ?_
      refine Ad f Z fun a f=>Aa ?_
      refine Ap ?_
      have m:Mem W aP w H:=Mem.drop (H':=[Itm.box aa 29 [v0_0],Itm.box ab 36 [v1_0,v1_1]]) m
      obtain rfl:=sj az
      obtain rfl:=aA _ rfl
      obtain rfl:=sj hd
      exact⟨[(.bool false)],⟨f.get _ _ Z,trivial⟩,f.defers,_,[],(gt af (gt ao (gt aB aQ))),m,Z,Z⟩
     ·refine Ah f Z aR ?_
      refine An ?_
      refine Aj ?_
      refine Ab f Z fun a f=>Ag f Z Z As fun a f=>Ad f Z fun a f=>Aa ?_
      obtain rfl:=sj az
      exact⟨_,Z,_,Z,_,(gt aB aQ),f.k Z,m⟩
    ·refine Ah f Z aC ?_
     refine Ax Z ?_
     obtain rfl:=sj az
     obtain rfl:=aA _ rfl
     exact⟨_,Z,_,aB,f.k Z,m⟩
   ·rintro a w ⟨_,rfl,au,aS,f,m⟩
    have h0_0:=rd2 aS h0_0
    have h1_0:=rd2 aS h1_0
    have h1_1:=rd2 aS h1_1
    refine Ac ?_
    refine AA 0 0 (ds:=[v0_0]) m AW f Z Z Z Z Z fun a f=> ?_
    obtain⟨aT,aU,hd⟩:=bind_some hd
    refine AF f Z Tryz.call51 (Wk.L m h0_0 aU) fun aV aW aX w aY m aZ a f=> ?_
    obtain⟨a0,a1,rfl,rfl,a2⟩:=aZ
    have h0_0:=rd2 aY h0_0
    have h1_0:=rd2 aY h1_0
    have h1_1:=rd2 aY h1_1
    refine Ad f Z fun a f=>Aa (Af (Ac ?_))
    refine Ad f Z fun a f=>Aa ?_
    obtain⟨a3,a4,hd⟩:=bind_some hd
    refine AE (fun a w=>∃q_155':Unit,a3= .inl q_155'∧∃(a5:GH),GLe aW a5∧Fr a 69 [(2,(.pointer (some ⟨aa,0,none⟩))),(3,(.pointer (some ⟨ab,0,none⟩)))]∧Mem W a5 w (Itm.box aa 29 [v0_0]::Itm.box ab 36 [v1_0,v1_1]::H)) ?_ ?_
    ·refine Ai ?_
     have m:=m.front 2 rfl
     have m:=m.front 2 rfl
     refine AB (fun a6 a w=>∃a7:Int,a7=a6∧∃(a8:GH),GLe aW a8∧Fr a 69 [(2,(.pointer (some ⟨aa,0,none⟩))),(3,(.pointer (some ⟨ab,0,none⟩))),(6,a0),(7,(.int .i64 a7))]∧Mem W a8 w (Itm.box aa 29 [v0_0]::Itm.box ab 36 [v1_0,v1_1]::a1::H)) a4 ⟨_,Z,_,gr,f.k Z,m⟩ ?_
     clear a4 f m
     rintro a6 a9 ba bb a w ⟨a7,rfl,a8,bc,f,m⟩
     have h0_0:=rd2 bc h0_0
     have h1_0:=rd2 bc h1_0
     have h1_1:=rd2 bc h1_1
     have a2:=Ow.mono (RSl.mono (RI.mono _)) bc a2
     refine Af (Ac ?_)
     refine Ab f Z fun a f=>Ab f Z fun a f=>Bl 2 m a2 Z Tryz.underlying27 f Z Z fun a f=>Ag f Z Z AD fun a f=>Aa ?_
     rcases Ae ba with⟨bd,ba⟩|⟨bd,ba⟩
     ·refine Am f Z bd ?_
      refine An ?_
      refine Af (Ai (Af ?_))
      refine A7 7 AJ (by kernel_rfl) m ?_
      refine BC (i:=0) (ds:=[v1_0,v1_1]) 7 1 Dq Z Z Z Z (by kernel_rfl) Z f Z Z Z fun a f=>Ak 1 7 Z f Z fun a f=>Ak 2 7 Z f Z fun a f=> ?_
      obtain⟨be,bf,ba⟩:=bind_some ba
      refine AT 3 7 2 m a2 T27 bf Z f Z Z fun bg a bh f=>Ba 4 7 2 a2 AS bh bf Z f Z fun bi a bj f=> ?_
      obtain⟨bk,bl,ba⟩:=bind_some ba
      refine Ca (i:=5) 7 Z (by kernel_rfl) Z f Z Z Z Tryz.call52 (fun _ _ w bm m=>Wk.Q0 m (rd2 bm h1_0) (rd2 bm h1_1) (rd1 bm bj) bl) fun a f=>q_p 6 7 Z f (fun _=>Bp (f.eval Z)) fun a f=>AV fun bn w bo m=> ?_
      have h1_0:=rd2 bo h1_0
      have h1_1:=rd2 bo h1_1
      have bj:=rd1 bo bj
      have h0_0:=rd2 bo h0_0
      have a2:=Ow.mono (RSl.mono (RI.mono _)) bo a2
      refine Aa ?_
      rcases Ae ba with⟨bp,ba⟩|⟨bp,ba⟩
      ·refine Am f Z bp ?_
       refine Ac ?_
       refine Ad f Z fun a f=>Aa ?_
       refine Ap ?_
       have m:Mem W bn w H:=Mem.drop (H':=[Itm.box aa 29 [v0_0],Itm.box ab 36 [v1_0,v1_1],a1]) m
       obtain rfl:=sj ba
       obtain rfl:=bb _ rfl
       obtain rfl:=sj hd
       exact⟨[(.bool false)],⟨f.get _ _ Z,trivial⟩,f.defers,_,[],(gt af (gt ao (gt aS (gt aY (gt bc bo))))),m,Z,Z⟩
      ·refine Ah f Z bp ?_
       refine An ?_
       refine Aj ?_
       refine Ab f Z fun a f=>Ag f Z Z As fun a f=>Ad f Z fun a f=>Aa ?_
       obtain rfl:=sj ba
       exact⟨_,Z,_,Z,_,(gt bc bo),f.k Z,m⟩
     ·refine Ah f Z bd ?_
      refine Ax Z ?_
      have m:=m.eraseAt 2
      obtain rfl:=sj ba
      obtain rfl:=bb _ rfl
      exact⟨_,Z,_,bc,f.k Z,m⟩
    ·rintro a w ⟨_,rfl,a5,bq,f,m⟩
     have h0_0:=rd2 bq h0_0
     have h1_0:=rd2 bq h1_0
     have h1_1:=rd2 bq h1_1
     refine Af (Ac ?_)
     refine Ad f Z fun a f=>Aa ?_
     obtain⟨br,bs,hd⟩:=bind_some hd
     refine AE (fun a w=>∃q_304':Unit,br= .inl q_304'∧∃(bt:GH),GLe a5 bt∧Fr a 69 []∧Mem W bt w (H)) ?_ ?_
     ·refine Ai ?_
      refine AB (fun bu a w=>∃bv:Int,bv=bu∧∃(bw:GH),GLe a5 bw∧Fr a 69 [(2,(.pointer (some ⟨aa,0,none⟩))),(3,(.pointer (some ⟨ab,0,none⟩))),(8,(.int .i64 bv))]∧Mem W bw w (Itm.box aa 29 [v0_0]::Itm.box ab 36 [v1_0,v1_1]::H)) bs ⟨_,Z,_,gr,f.k Z,m⟩ ?_
      clear bs f m
      rintro bu bx bz bA a w ⟨bv,rfl,bw,bB,f,m⟩
      have h0_0:=rd2 bB h0_0
      have h1_0:=rd2 bB h1_0
      have h1_1:=rd2 bB h1_1
      refine Af (Ac ?_)
      refine Ab f Z fun a f=>AA 0 0 (ds:=[v0_0]) m AW f Z Z Z Z Z fun a f=> ?_
      obtain⟨bC,bD,bz⟩:=bind_some bz
      refine AY f Z Tryz.call42 (Wk.a m h0_0 bD) fun bE w bF m a f=> ?_
      have h0_0:=rd2 bF h0_0
      have h1_0:=rd2 bF h1_0
      have h1_1:=rd2 bF h1_1
      refine Ag f Z Z AD fun a f=>Aa ?_
      rcases Ae bz with⟨bG,bz⟩|⟨bG,bz⟩
      ·refine Am f Z bG ?_
       refine An ?_
       refine Af (Ai (Ac ?_))
       refine AA 1 0 (ds:=[v1_0,v1_1]) m Dq f Z Z Z Z Z fun a f=>Ab f Z fun a f=> ?_
       obtain⟨bH,bI,bz⟩:=bind_some bz
       refine AF f Z Tryz.call53 (Wk.w0 m h1_0 h1_1 bI) fun bJ bK bL w bM m bN a f=> ?_
       obtain⟨bO,bP,rfl,rfl,bQ⟩:=bN
       have h1_0:=rd2 bM h1_0
       have h1_1:=rd2 bM h1_1
       have h0_0:=rd2 bM h0_0
       refine Ad f Z fun a f=>Aa (Ac ?_)
       refine Ab f Z fun a f=>Bl 0 m bQ Z Tryz.underlying31 f Z Z fun a f=>Ag f Z Z BG fun a f=>Ab f Z fun a f=> ?_
       obtain⟨bR,bS,bz⟩:=bind_some bz
       refine Bw 7 (fun a w=>∃bT,GLe bK bT∧Mem W bT w (bP::Itm.box aa 29 [v0_0]::Itm.box ab 36 [v1_0,v1_1]::H)∧Fr a 69 [(2,(.pointer (some ⟨aa,0,none⟩))),(3,(.pointer (some ⟨ab,0,none⟩))),(8,(.int .i64 bv)),(9,bO),(58,bO),(59,(.int .i64 (bH.length:Int))),(60,(.bool ((bH.length:Int)==0))),(61,(.bool ((bH.length:Int)==0))),(68,(.bool bR))]) ?_ ?_
       ·rcases Ae bS with⟨bU,bS⟩|⟨bU,bS⟩
        ·refine Aw f bU fun a f=> ?_
         refine Aw f bU fun a f=>Aw f bU fun a f=>Aw f bU fun a f=>Aw f bU fun a f=>Aw f bU fun a f=>l_o f (AN (f.eval Z) bU (f.eval Z)) fun a f=> ?_
         obtain rfl:=sj bS
         exact⟨_,gr,m,f.k Z⟩
        ·refine Av f bU ?_
         refine AA 2 0 (ds:=[v1_0,v1_1]) m Dq f Z Z Z Z Z fun a f=>Av f bU ?_
         refine Ab f Z fun a f=>Av f bU ?_
         obtain⟨bV,bW,bS⟩:=bind_some bS
         refine AF f Z Tryz.call54 (Ow.lendCall (RI.mono _) 0 bQ m Z (fun bX bY m bZ=>Wk.D m (rd2 bY h1_0) (rd2 bY h1_1) bZ bW) (fun _ _ _ _ h=>h)) fun b0 b1 b2 w b3 m b4 a f=> ?_
         obtain⟨rfl,rfl⟩:=b4
         have h1_0:=rd2 b3 h1_0
         have h1_1:=rd2 b3 h1_1
         have bQ:=od1 b3 bQ
         have h0_0:=rd2 b3 h0_0
         refine Av f bU ?_
         refine Ab f Z fun a f=>Av f bU ?_
         refine Bl 0 m bQ Z Tryz.underlying31 f Z Z fun a f=>Av f bU ?_
         refine Ag f Z Z CS fun a f=>l_o f (AO (f.eval Z) bU (f.eval Z)) fun a f=> ?_
         obtain rfl:=sj bS
         exact⟨_,b3,m,f.k Z⟩
       ·rintro a w ⟨bT,b5,m,f⟩
        have bQ:=od1 b5 bQ
        have h0_0:=rd2 b5 h0_0
        have h1_0:=rd2 b5 h1_0
        have h1_1:=rd2 b5 h1_1
        refine Aa ?_
        rcases Ae bz with⟨b6,bz⟩|⟨b6,bz⟩
        ·refine Am f Z b6 ?_
         refine Ac ?_
         refine Ad f Z fun a f=>Aa ?_
         refine Ap ?_
         have m:Mem W bT w H:=Mem.drop (H':=[bP,Itm.box aa 29 [v0_0],Itm.box ab 36 [v1_0,v1_1]]) m
         obtain rfl:=sj bz
         obtain rfl:=bA _ rfl
         obtain rfl:=sj hd
         exact⟨[(.bool false)],⟨f.get _ _ Z,trivial⟩,f.defers,_,[],(gt af (gt ao (gt aS (gt aY (gt bq (gt bB (gt bF (gt bM b5)))))))),m,Z,Z⟩
        ·refine Ah f Z b6 ?_
         refine An ?_
         refine Aj ?_
         refine Ab f Z fun a f=>Ag f Z Z As fun a f=>Ad f Z fun a f=>Aa ?_
         have m:=m.front 2 rfl
         have m:=m.front 2 rfl
         have m:=m.eraseAt 2
         obtain rfl:=sj bz
         exact⟨_,Z,_,Z,_,(gt bB (gt bF (gt bM b5))),f.k Z,m⟩
      ·refine Ah f Z bG ?_
       refine Ax Z ?_
       have m:Mem W bE w H:=Mem.drop (H':=[Itm.box aa 29 [v0_0],Itm.box ab 36 [v1_0,v1_1]]) m
       obtain rfl:=sj bz
       obtain rfl:=bA _ rfl
       exact⟨_,Z,_,(gt bB bF),f.weak trivial,m⟩
     ·rintro a w ⟨_,rfl,bt,b7,f,m⟩
      refine Ac ?_
      refine Ad f Z fun a f=>Aa ?_
      refine Ap ?_
      obtain rfl:=sj hd
      exact⟨[(.bool true)],⟨f.get _ _ Z,trivial⟩,f.defers,_,[],(gt af (gt ao (gt aS (gt aY (gt bq b7))))),m,Z,Z⟩
theorem Wk.F0 {W w:World}{G:GH}{H:List Itm}{v0_0:Value}{v0_1:Value}{x0_0:(List (List Int))}{x0_1:(List (List Int))}(m:Mem W G w (H))(h0_0:RSl (RSl (RI .i64)) G v0_0 x0_0)(h0_1:RSl (RSl (RI .i64)) G v0_1 x0_1){y:Int}(hd:D.F0 x0_0 x0_1=some y):
  Calls Tryz.prog 17 #[(.agg #[v0_0,v0_1])] w (Res W G H (fun _ Ho v=>Ho=[]∧v=(.int .i64 y))):=by
 refine Ar (args:=[(.agg #[v0_0,v0_1])]) (N:=28) [.tmp 2] Tryz.func17 Z Z (Nat.le_of_ble_eq_true Z) Z fun a f=> ?_
 unfold D.F0 at hd
 refine Ac ?_
 refine Bn (cs:=[v0_0,v0_1]) m f Z Z Z fun aa w a m f=>Ad f Z fun a f=>Aa (Ac ?_)
 refine Ad f Z fun a f=>Aa (Af (Ac ?_))
 refine Ad f Z fun a f=>Aa ?_
 obtain⟨ab,ac,hd⟩:=bind_some hd
 refine AE (fun a w=>∃ad:Int,ad=ab∧∃(ae:GH),GLe G ae∧Fr a 28 [(3,(.int .i64 ad))]∧Mem W ae w (H)) ?_ ?_
 ·refine Ai ?_
  refine AB (fun af a w=>∃ag:Int,∃ah:Int,(ag,ah)=af∧∃(ai:GH),GLe G ai∧Fr a 28 [(1,(.pointer (some ⟨aa,0,none⟩))),(3,(.int .i64 ag)),(4,(.int .i64 ah))]∧Mem W ai w (Itm.box aa 36 [v0_0,v0_1]::H)) ac ⟨_,_,Z,_,gr,f.k Z,m⟩ ?_
  clear ac f m
  rintro af aj ak al a w ⟨ag,ah,rfl,ai,am,f,m⟩
  have h0_0:=rd2 am h0_0
  have h0_1:=rd2 am h0_1
  refine Af (Ac ?_)
  refine Ab f Z fun a f=>Bo Tryz.underlying36 Z Tryz.sizeOf27 f Z fun a f=>AG 0 0 m Bk f Z Z Z Z fun a f=>AX Tryz.underlying27 f Z Z h0_0 fun a f=>Ag f Z Z AD fun a f=>Ab f Z fun a f=> ?_
  refine Bw 5 (fun a w=>∃an,GLe ai an∧Mem W an w (Itm.box aa 36 [v0_0,v0_1]::H)∧Fr a 28 [(1,(.pointer (some ⟨aa,0,none⟩))),(3,(.int .i64 ag)),(4,(.int .i64 ah)),(5,(.int .i64 ah)),(6,(.pointer (some ⟨aa,0,none⟩))),(7,v0_0),(8,(.int .i64 (x0_0.length:Int))),(9,(.bool (decide (ah<(x0_0.length:Int))))),(10,(.bool (decide (ah<(x0_0.length:Int))))),(15,(.bool ((decide (ah<(x0_0.length:Int)))&&(decide ((x0_0.length:Int)≤16)))))]) ?_ ?_
  ·rcases Bool.eq_false_or_eq_true (decide (ah<(x0_0.length:Int))) with ao|ao
   ·refine Av f ao ?_
    refine Bo Tryz.underlying36 Z Tryz.sizeOf27 f Z fun a f=>Av f ao ?_
    refine AG 0 0 m Bk f Z Z Z Z fun a f=>Av f ao ?_
    refine AX Tryz.underlying27 f Z Z h0_0 fun a f=>Av f ao ?_
    refine Ag f Z Z Cm fun a f=>l_o f (AN (f.eval Z) ao (f.eval Z)) fun a f=> ?_
    exact⟨_,gr,m,f.weak ⟨Z,Z,Z,Z,Z,Z,Z,Z,Z,by rw[ao];rfl,trivial⟩⟩
   ·refine Aw f ao fun a f=> ?_
    refine Aw f ao fun a f=>Aw f ao fun a f=>Aw f ao fun a f=>l_o f (AO (f.eval Z) ao (f.eval Z)) fun a f=> ?_
    exact⟨_,gr,m,f.weak ⟨Z,Z,Z,Z,Z,Z,Z,Z,Z,by rw[ao];rfl,trivial⟩⟩
  ·rintro a w ⟨an,ap,m,f⟩
   have h0_0:=rd2 ap h0_0
   have h0_1:=rd2 ap h0_1
   refine Aa ?_
   rcases Ae ak with⟨aq,ak⟩|⟨aq,ak⟩
   ·refine Am f Z aq ?_
    refine An ?_
    refine Af (Ai (Aj ?_))
    refine Ab f Z fun a f=>Bo Tryz.underlying36 Z Tryz.sizeOf27 f Z fun a f=>AG 0 0 m Bk f Z Z Z Z fun a f=>Ab f Z fun a f=> ?_
    obtain⟨ar,au,ak⟩:=bind_some ak
    refine Bb T27 f Z Z Z h0_0 au fun av aw a ax ay f=>Az m AS f Z Z ax fun a f=>AX Tryz.underlying31 f Z Z ay fun a f=>Ag f Z Z A3 fun a f=> ?_
    obtain⟨az,aA,ak⟩:=bind_some ak
    refine AY f Z Tryz.call47 (Wk.m m aA) fun aB w aC m a f=> ?_
    have h0_0:=rd2 aC h0_0
    have ax:=At.mono aC ax
    have ay:=rd1 aC ay
    have h0_1:=rd2 aC h0_1
    refine Ad f Z fun a f=>Aa (Aj ?_)
    refine Ab f Z fun a f=>Ag f Z Z As fun a f=>Ad f Z fun a f=>Aa ?_
    obtain rfl:=sj ak
    exact⟨_,Z,_,_,Z,_,(gt am (gt ap aC)),f.k Z,m⟩
   ·refine Ah f Z aq ?_
    refine Ax Z ?_
    have m:Mem W an w H:=Mem.drop (H':=[Itm.box aa 36 [v0_0,v0_1]]) m
    obtain rfl:=sj ak
    obtain rfl:=al _ rfl
    exact⟨_,Z,_,(gt am ap),f.k Z,m⟩
 ·rintro a w ⟨ad,rfl,ae,aD,f,m⟩
  refine Ac ?_
  refine Ab f Z fun a f=>Ad f Z fun a f=>Aa ?_
  refine Ap ?_
  obtain rfl:=sj hd
  exact⟨[(.int .i64 ad)],⟨f.get _ _ Z,trivial⟩,f.defers,_,[],aD,m,Z,Z⟩
end Go.Proofs.YtkffjeaefgfnnaaGreatDoor

set_option maxRecDepth 100000
namespace Go.Proofs.YtkffjeaefgfnnaaGreatDoor
open Go Go.Sx
set_option maxHeartbeats 2000000 in
theorem Wk.z0 {W w:World}{G:GH}{H:List Itm}{v0_0:Value}{x0_0:List (List Int)}(hW:Cs W)(m:Mem W G w H)(h0_0:RSl (RSl (RI .i64)) G v0_0 x0_0){y:List Int}(hd:D.z0 x0_0=some y):
  Calls Tryz.prog 18 #[(.agg #[v0_0])] w (Res W G H (fun G' Ho v=>∃r0:Value,∃i0:Itm,Ho=[i0]∧r0=v∧Ow (RI .i64) 2 G' i0 r0 y)):=by
 refine Ar (args:=[(.agg #[v0_0])]) (N:=33) [.tmp 2] Tryz.func18 Z Z (Nat.le_of_ble_eq_true Z) Z fun a f=> ?_
 unfold D.z0 at hd
 obtain⟨b,hb,hd⟩:=bind_some hd
 refine Ac ?_
 refine Bn (cs:=[v0_0]) m f Z Z Z fun aa w a m f=>Ad f Z fun a f=>Aa (Af (Ac ?_))
 refine AA 0 0 (ds:=[v0_0]) m AW f Z Z Z Z Z fun a f=>AY f Z Tryz.call31 (Wk.t m h0_0 hb) fun G1 w hl1 m a f=> ?_
 have h0_0:=rd2 hl1 h0_0
 refine l_o f (Bp (f.eval Z)) fun a f=>Aa ?_
 rcases Ae hd with⟨hc1,hd⟩|⟨hc1,hd⟩
 ·refine Am f Z hc1 ?_
  refine Ac ?_
  refine Ad f Z fun a f=>Aa ?_
  refine Ap ?_
  have m:Mem W G1 w H:=m.eraseAt 0
  obtain⟨it2,m,o2⟩:=Ow.nil (RI .i64) 2 m
  obtain rfl:=sj hd
  exact⟨[.slice none 0 0],⟨f.get _ _ Z,trivial⟩,f.defers,G1,[it2],hl1,m,_,_,Z,Z,o2⟩
 ·refine Ah f Z hc1 ?_
  refine An ?_
  obtain⟨F,hF,hd⟩:=bind_some hd
  obtain⟨q,hq,hd⟩:=bind_some hd
  refine Ac ?_
  refine AA 0 0 (ds:=[v0_0]) m AW f Z Z Z Z Z fun a f=>AF f Z Tryz.call33 (Wk.r m h0_0 hF) fun v2 G2 Ho2 w hl2 m hQ2 a f=> ?_
  obtain⟨vn,itn,rfl,rfl,on⟩:=hQ2
  obtain⟨G3,hl3,m,hn⟩:=on.stamp (RI.mono _) m
  refine AF f Z Tryz.call32 (Wk.T1 m hn) fun v4 G4 Ho4 w hl4 m hQ4 a f=> ?_
  obtain⟨bx,vm,itM,rfl,rfl,oM⟩:=hQ4
  have hn:=rd1 hl4 hn
  refine Ad f Z fun a f=>Ad f Z fun a f=>Aa (Af (Ac ?_))
  refine Ab f Z fun a f=>l_o f (A9 (f.eval Z)) fun a f=>Bo Tryz.underlying85 Z Tryz.sizeOf61 f Z fun a f=>AG 0 0 m hP61 f Z Z Z Z fun a f=>AX Tryz.underlying61 f Z Z hn fun a f=>Ab f Z fun a f=>Aa ?_
  have hle4:GLe G G4:=gt hl1 (gt hl2 (gt hl3 hl4))
  refine AE (fun a w=>∃(G':GH) (it':Itm),GLe G4 G'∧Fr a 33 [(4,(.int .u32 q))]∧Mem W G' w (CB bx vn vm::it'::Itm.box aa 29 [v0_0]::H)) ?_ ?_
  ·refine Ai ?_
   refine AB (fun(s:Int×Int) a w=>∃(G':GH) (it':Itm) (M':List (Int×Int)),GLe G4 G'∧Fr a 33 [(3,D2 bx),(4,(.int .u32 s.1)),(16,(.int .i64 (F.length:Int))),(17,(.int .i64 s.2))]∧Mem W G' w (CB bx vn vm::it'::Itm.box aa 29 [v0_0]::H)∧OwMp .u32 (Value.int .i64) it' vm M'∧DB F M') hq ⟨_,_,_,gr,f.k Z,m,oM,fun kv h=>by simp at h⟩ ?_
   clear hd f m oM hq
   rintro⟨out,i⟩ o hs hqq a w ⟨G5,itM,M,hl5,f,m,oM,hc⟩
   dsimp only at f
   have hn:=rd1 hl5 hn
   unfold D.z1 at hs
   dsimp only at hs
   refine Ac ?_
   refine Ag f Z Z AD fun a f=>Aa (Af ?_)
   rcases Ae hs with⟨hc2,hs⟩|⟨hc2,hs⟩
   ·refine Am f Z hc2 ?_
    refine An ?_
    obtain⟨z,hz,hs⟩:=bind_some hs
    obtain⟨t,ht,hs⟩:=bind_some hs
    refine Af (Ai (Ac ?_))
    refine Ab f Z fun a f=>Ad f Z fun a f=>Aa (Ac ?_)
    refine Ab f Z fun a f=>Ab f Z fun a f=>AF f Z Tryz.call55 (Wk.I1 hW (Wk.f1 hW Bs) m hn oM hc hz) fun v6 G6 Ho6 w hl6 m hQ6 a f=> ?_
    obtain⟨itM,M,rfl,rfl,oM,hc⟩:=hQ6
    have hn:=rd1 hl6 hn
    refine Ab f Z fun a f=>AF f Z Tryz.call34 ((Wk.f1 hW Bs).go m hn oM hc ht) fun v7 G7 Ho7 w hl7 m hQ7 a f=> ?_
    obtain⟨itM,M,rfl,rfl,oM,hc⟩:=hQ7
    have hn:=rd1 hl7 hn
    refine Ag f Z Z BG fun a f=>Aa ?_
    rcases Ae hs with⟨hc3,hs⟩|⟨hc3,hs⟩
    ·obtain⟨o1,ho1,hs⟩:=bind_some hs
     obtain rfl:=sj hs
     refine Am f Z hc3 ?_
     refine Aj ?_
     refine Ab f Z fun a f=>Ab f Z fun a f=>AY f Z Tryz.call56 (Wk.d m ho1) fun G8 w hl8 m a f=>Ag f Z Z b_or fun a f=>Ad f Z fun a f=>Aa (Aj ?_)
     refine Ag f Z Z As fun a f=>Ab f Z fun a f=>Aa ?_
     exact⟨_,Z,G8,_,_,gt hl5 (gt hl6 (gt hl7 hl8)),f.k Z,m,oM,hc⟩
    ·obtain rfl:=sj hs
     refine Ah f Z hc3 ?_
     refine An ?_
     refine Aj ?_
     refine Ag f Z Z As fun a f=>Ab f Z fun a f=>Aa ?_
     exact⟨_,Z,G7,_,_,gt hl5 (gt hl6 hl7),f.k Z,m,oM,hc⟩
   ·refine Ah f Z hc2 ?_
    refine Ax Z ?_
    obtain rfl:=sj hs
    obtain rfl:=hqq _ rfl
    exact⟨G5,_,hl5,f.k Z,m⟩
  ·clear hq f m oM
   rintro a w ⟨G5,itM,hl5,f,m⟩
   refine Ac ?_
   refine Ab f Z fun a f=>AF f Z Tryz.call57 (Wk.y hW m hd) fun v6 G6 Ho6 w hl6 m hQ6 a f=> ?_
   obtain⟨vr,itr,rfl,rfl,our⟩:=hQ6
   refine Ad f Z fun a f=>Aa ?_
   refine Ap ?_
   have m:=m.eraseAt 3
   have m:=m.eraseAt 2
   have m:=m.eraseAt 1
   exact⟨[vr],⟨f.get _ _ Z,trivial⟩,f.defers,G6,[itr],gt hle4 (gt hl5 hl6),m,_,_,Z,Z,our⟩
end Go.Proofs.YtkffjeaefgfnnaaGreatDoor

set_option maxRecDepth 100000
namespace Go.Proofs.YtkffjeaefgfnnaaGreatDoor
open Go Go.Sx
theorem Wk.A0 {W w:World}{G:GH}{H:List Itm}{v0_0:Value}{x0_0:(List (List Int))}(m:Mem W G w (H))(h0_0:RSl (RSl (RI .i64)) G v0_0 x0_0){y:Int}(hd:D.A0 x0_0=some y):
  Calls Tryz.prog 19 #[(.agg #[v0_0])] w (Res W G H (fun _ Ho v=>Ho=[]∧v=(.int .i64 y))):=by
 refine Ar (args:=[(.agg #[v0_0])]) (N:=60) [.tmp 2] Tryz.func19 Z Z (Nat.le_of_ble_eq_true Z) Z fun a f=> ?_
 unfold D.A0 at hd
 refine Ac ?_
 refine Bn (cs:=[v0_0]) m f Z Z Z fun aa w a m f=>Ad f Z fun a f=>Aa (Af (Ac ?_))
 refine AA 0 0 (ds:=[v0_0]) m AW f Z Z Z Z Z fun a f=> ?_
 obtain⟨ab,ac,hd⟩:=bind_some hd
 refine AY f Z Tryz.call48 (Wk.u m h0_0 ac) fun ad w ae m a f=> ?_
 have h0_0:=rd2 ae h0_0
 refine l_o f (Bp (f.eval Z)) fun a f=>Aa ?_
 rcases Ae hd with⟨af,hd⟩|⟨af,hd⟩
 ·refine Am f Z af ?_
  refine Ac ?_
  refine Ad f Z fun a f=>Aa ?_
  refine Ap ?_
  have m:Mem W ad w H:=Mem.drop (H':=[Itm.box aa 29 [v0_0]]) m
  obtain rfl:=sj hd
  exact⟨[(.int .i64 (-1))],⟨f.get _ _ Z,trivial⟩,f.defers,_,[],ae,m,Z,Z⟩
 ·refine Ah f Z af ?_
  refine An ?_
  refine Ac ?_
  refine AA 0 0 (ds:=[v0_0]) m AW f Z Z Z Z Z fun a f=> ?_
  obtain⟨ag,ah,hd⟩:=bind_some hd
  refine AY f Z Tryz.call42 (Wk.a m h0_0 ah) fun ai w aj m a f=> ?_
  have h0_0:=rd2 aj h0_0
  obtain⟨ak,al,hd⟩:=bind_some hd
  refine CT (R:=RB) m T71 Z (by decide) Z f Z Z Z al fun am an w a m ao f=>Ad f Z fun a f=>Aa (Ac ?_)
  refine Ad f Z fun a f=>Aa (Af (Ac ?_))
  refine Ad f Z fun a f=>Aa ?_
  obtain⟨ap,aq,hd⟩:=bind_some hd
  refine AE (fun a w=>∃ar:Int,ar=ap∧∃(au:GH),GLe ai au∧Fr a 60 [(4,(.int .i64 ar))]∧Mem W au w (H)) ?_ ?_
  ·refine Ai ?_
   have m:=m.front 1 rfl
   refine AB (fun av a w=>∃aw:List Bool,∃ax:Int,∃ay:Int,(aw,ax,ay)=av∧∃(az:GH) (aA:Itm),GLe ai az∧Fr a 60 [(1,(.pointer (some ⟨aa,0,none⟩))),(3,an),(4,(.int .i64 ax)),(5,(.int .i64 ay))]∧Mem W az w (Itm.box aa 29 [v0_0]::aA::H)∧Ow RB 4 az aA an aw) aq ⟨_,_,_,Z,_,am,gr,f.k Z,m,ao⟩ ?_
   clear aq f m
   rintro av aB aC aD a w ⟨aw,ax,ay,rfl,az,aA,aE,f,m,aF⟩
   have h0_0:=rd2 aE h0_0
   refine Af (Ac ?_)
   refine Ab f Z fun a f=>AA 0 0 (ds:=[v0_0]) m AW f Z Z Z Z Z fun a f=> ?_
   obtain⟨aG,aH,aC⟩:=bind_some aC
   refine AY f Z Tryz.call42 (Wk.a m h0_0 aH) fun aI w aJ m a f=> ?_
   have h0_0:=rd2 aJ h0_0
   have aF:=Ow.mono RB.mono aJ aF
   refine Ag f Z Z AD fun a f=>Aa ?_
   rcases Ae aC with⟨aK,aC⟩|⟨aK,aC⟩
   ·refine Am f Z aK ?_
    refine An ?_
    refine Af (Ai (Ac ?_))
    refine Ad f Z fun a f=>Aa (Af (Ac ?_))
    refine Ad f Z fun a f=>Aa ?_
    obtain⟨aL,aM,aC⟩:=bind_some aC
    refine AE (fun a w=>∃aN:Int,aN=aL∧∃(aO:GH),GLe aI aO∧Fr a 60 [(1,(.pointer (some ⟨aa,0,none⟩))),(3,an),(4,(.int .i64 ax)),(5,(.int .i64 ay)),(6,(.int .i64 aN))]∧Mem W aO w (Itm.box aa 29 [v0_0]::aA::H)) ?_ ?_
    ·refine Ai ?_
     refine AB (fun aP a w=>∃aQ:Int,∃aR:Int,(aQ,aR)=aP∧∃(aS:GH),GLe aI aS∧Fr a 60 [(1,(.pointer (some ⟨aa,0,none⟩))),(3,an),(4,(.int .i64 ax)),(5,(.int .i64 ay)),(6,(.int .i64 aQ)),(7,(.int .i64 aR))]∧Mem W aS w (Itm.box aa 29 [v0_0]::aA::H)) aM ⟨_,_,Z,_,gr,f.k Z,m⟩ ?_
     clear aM f m
     rintro aP aT aU aV a w ⟨aQ,aR,rfl,aS,aW,f,m⟩
     have h0_0:=rd2 aW h0_0
     have aF:=Ow.mono RB.mono aW aF
     refine Af (Ac ?_)
     refine Ab f Z fun a f=>AA 0 0 (ds:=[v0_0]) m AW f Z Z Z Z Z fun a f=> ?_
     obtain⟨aX,aY,aU⟩:=bind_some aU
     refine AY f Z Tryz.call42 (Wk.a m h0_0 aY) fun aZ w a2 m a f=> ?_
     have h0_0:=rd2 a2 h0_0
     have aF:=Ow.mono RB.mono a2 aF
     refine Ag f Z Z AD fun a f=>Aa ?_
     rcases Ae aU with⟨a3,aU⟩|⟨a3,aU⟩
     ·refine Am f Z a3 ?_
      refine An ?_
      refine Af (Ai (Af ?_))
      refine A7 22 AJ (by kernel_rfl) m ?_
      refine Ak 0 22 Z f Z fun a f=>Ak 1 22 Z f Z fun a f=> ?_
      obtain⟨a4,a5,aU⟩:=bind_some aU
      refine AT 2 22 1 m aF T71 a5 Z f Z Z fun a6 a a7 f=>Ba 3 22 1 aF Pl4 a7 a5 Z f Z fun a8 a a9 f=> ?_
      subst a9
      refine q_p 4 22 Z f (fun _=>Bp (f.eval Z)) fun a f=>Ak 5 22 Z f Z fun a f=> ?_
      rcases Ae aU with⟨ba,aU⟩|⟨ba,aU⟩
      ·refine Ak (hw:=wo f ba) 6 22 Z f Z fun a f=> ?_
       refine q_p (hw:=wo f ba) 7 22 Z f (fun _=>AL (f.eval Z) (f.eval Z) AD) fun a f=>Ak (hw:=wo f ba) 8 22 Z f Z fun a f=> ?_
       rcases Ae aU with⟨bb,aU⟩|⟨bb,aU⟩
       ·refine Aq 9 22 Z f bb fun a f=> ?_
        refine Aq 10 22 Z f bb fun a f=>Aq 11 22 Z f bb fun a f=>Aq 12 22 Z f bb fun a f=>Aq 13 22 Z f bb fun a f=>Aq 14 22 Z f bb fun a f=>Aq 15 22 Z f bb fun a f=>Aq 16 22 Z f bb fun a f=>Aq 17 22 Z f bb fun a f=>Aq 18 22 Z f bb fun a f=>Aq 19 22 Z f bb fun a f=>q_p (hw:=wo f ba) 20 22 Z f (fun _=>AN (f.eval Z) bb (f.eval Z)) fun a f=>q_p 21 22 Z f (fun _=>AN (f.eval Z) ba (f.eval Z)) fun a f=>AV fun bc w bd m=> ?_
        have h0_0:=rd2 bd h0_0
        have aF:=Ow.mono RB.mono bd aF
        refine Aa ?_
        refine Am f Z Z ?_
        refine Aj ?_
        refine Ab f Z fun a f=>Ad f Z fun a f=>Aa (Aj ?_)
        refine Ab f Z fun a f=>Ag f Z Z As fun a f=>Ad f Z fun a f=>Aa ?_
        obtain rfl:=sj aU
        exact⟨_,Z,_,_,Z,_,(gt aW (gt a2 bd)),f.k Z,m⟩
       ·refine BC (i:=9) (ds:=[v0_0]) 22 0 AW Z Z Z Z (by kernel_rfl) Z f (Bg f Z Z Z bb) Z Z fun a f=> ?_
        refine Ak (hw:=wo f bb) 10 22 Z f Z fun a f=>Ak (hw:=wo f bb) 11 22 Z f Z fun a f=>BC (i:=14) (ds:=[v0_0]) 22 0 AW Z Z Z Z (by kernel_rfl) Z f (Bg f Z Z Z bb) Z Z fun a f=>Ak (hw:=wo f bb) 15 22 Z f Z fun a f=>Ak (hw:=wo f bb) 16 22 Z f Z fun a f=>BJ (i:=12) Z (by kernel_rfl) Z fun be w bf m bg bg=> ?_
        have h0_0:=rd2 bf h0_0
        have aF:=Ow.mono RB.mono bf aF
        refine Av f bb ?_
        obtain⟨bh,bi,aU⟩:=bind_some aU
        refine AF f Z Tryz.call58 (Ow.lendCall RB.mono 1 aF m Z (fun bj bk m bl=>Wk.s m (rd2 bk h0_0) bl bi) (fun _ G' _ _ ⟨a0,a1,e1,e2,o0⟩=>⟨a0,a1,e1,e2,Ow.free (RI.free _) G' o0⟩)) fun bm bn bo w bp m bq a f=> ?_
        obtain⟨br,bs,rfl,rfl,bt⟩:=bq
        have h0_0:=rd2 bp h0_0
        have aF:=Ow.mono RB.mono bp aF
        refine Aa ?_
        refine bg bn [bs] _ _ bp m ?_
        refine Fl (i:=13) 22 0 m bt Z Tryz.underlying31 Z (by kernel_rfl) Z f (Bg f Z Z Z bb) Z Z fun a f=>BJ (i:=17) Z (by kernel_rfl) Z fun bu w bv m bw bw=> ?_
        have h0_0:=rd2 bv h0_0
        have bt:=od1 bv bt
        have aF:=Ow.mono RB.mono bv aF
        refine Av f bb ?_
        obtain⟨bx,bz,aU⟩:=bind_some aU
        refine AF f Z Tryz.call58 (Ow.lendCall RB.mono 2 aF m Z (fun bA bB m bC=>Wk.s m (rd2 bB h0_0) bC bz) (fun _ G' _ _ ⟨a0,a1,e1,e2,o0⟩=>⟨a0,a1,e1,e2,Ow.free (RI.free _) G' o0⟩)) fun bD bE bF w bG m bH a f=> ?_
        obtain⟨bI,bJ,rfl,rfl,bK⟩:=bH
        have h0_0:=rd2 bG h0_0
        have bt:=od1 bG bt
        have aF:=Ow.mono RB.mono bG aF
        refine Aa ?_
        refine bw bE [bJ,bs] _ _ bG m ?_
        refine Fl (i:=18) 22 0 m bK Z Tryz.underlying31 Z (by kernel_rfl) Z f (Bg f Z Z Z bb) Z Z fun a f=>q_p (hw:=wo f bb) 19 22 Z f (fun _=>AL (f.eval Z) (f.eval Z) AD) fun a f=>q_p (hw:=wo f ba) 20 22 Z f (fun _=>AO (f.eval Z) bb (f.eval Z)) fun a f=>q_p 21 22 Z f (fun _=>AN (f.eval Z) ba (f.eval Z)) fun a f=>AV fun bL w bM m=> ?_
        have h0_0:=rd2 bM h0_0
        have bK:=od1 bM bK
        have bt:=od1 bM bt
        have aF:=Ow.mono RB.mono bM aF
        refine Aa ?_
        rcases Ae aU with⟨bN,aU⟩|⟨bN,aU⟩
        ·refine Am f Z bN ?_
         refine Aj ?_
         refine Ab f Z fun a f=>Ad f Z fun a f=>Aa (Aj ?_)
         refine Ab f Z fun a f=>Ag f Z Z As fun a f=>Ad f Z fun a f=>Aa ?_
         have m:=m.front 3 rfl
         have m:=m.front 3 rfl
         have m:Mem W bL w (Itm.box aa 29 [v0_0]::aA::bJ::H):=m.eraseAt 3
         have m:=m.eraseAt 2
         obtain rfl:=sj aU
         exact⟨_,Z,_,_,Z,_,(gt aW (gt a2 (gt bf (gt bp (gt bv (gt bG bM)))))),f.k Z,m⟩
        ·refine Ah f Z bN ?_
         refine An ?_
         refine Aj ?_
         refine Ab f Z fun a f=>Ag f Z Z As fun a f=>Ad f Z fun a f=>Aa ?_
         have m:=m.front 3 rfl
         have m:=m.front 3 rfl
         have m:Mem W bL w (Itm.box aa 29 [v0_0]::aA::bJ::H):=m.eraseAt 3
         have m:=m.eraseAt 2
         obtain rfl:=sj aU
         exact⟨_,Z,_,_,Z,_,(gt aW (gt a2 (gt bf (gt bp (gt bv (gt bG bM)))))),f.k Z,m⟩
      ·refine Aq 6 22 Z f ba fun a f=> ?_
       refine Aq 7 22 Z f ba fun a f=>Aq 8 22 Z f ba fun a f=>Cz 9 22 Z f fun a f=>Cz 10 22 Z f fun a f=>Cz 11 22 Z f fun a f=>Cz 12 22 Z f fun a f=>Cz 13 22 Z f fun a f=>Cz 14 22 Z f fun a f=>Cz 15 22 Z f fun a f=>Cz 16 22 Z f fun a f=>Cz 17 22 Z f fun a f=>Cz 18 22 Z f fun a f=>Cz 19 22 Z f fun a f=>Aq 20 22 Z f ba fun a f=>q_p 21 22 Z f (fun _=>AO (f.eval Z) ba (f.eval Z)) fun a f=>AV fun bO w bP m=> ?_
       have h0_0:=rd2 bP h0_0
       have aF:=Ow.mono RB.mono bP aF
       refine Aa ?_
       refine Ah f Z Z ?_
       refine An ?_
       refine Aj ?_
       refine Ab f Z fun a f=>Ag f Z Z As fun a f=>Ad f Z fun a f=>Aa ?_
       obtain rfl:=sj aU
       exact⟨_,Z,_,_,Z,_,(gt aW (gt a2 bP)),f.k Z,m⟩
     ·refine Ah f Z a3 ?_
      refine Ax Z ?_
      obtain rfl:=sj aU
      obtain rfl:=aV _ rfl
      exact⟨_,Z,_,(gt aW a2),f.k Z,m⟩
    ·rintro a w ⟨aN,rfl,aO,bQ,f,m⟩
     have h0_0:=rd2 bQ h0_0
     have aF:=Ow.mono RB.mono bQ aF
     refine Ac ?_
     refine Ab f Z fun a f=>AA 0 0 (ds:=[v0_0]) m AW f Z Z Z Z Z fun a f=>Ab f Z fun a f=>Ab f Z fun a f=> ?_
     obtain⟨bR,bS,aC⟩:=bind_some aC
     refine AF f Z Tryz.call58 (Ow.lendCall RB.mono 1 aF m Z (fun bT bU m bV=>Wk.s m (rd2 bU h0_0) bV bS) (fun _ G' _ _ ⟨a0,a1,e1,e2,o0⟩=>⟨a0,a1,e1,e2,Ow.free (RI.free _) G' o0⟩)) fun bW bX bY w bZ m b0 a f=> ?_
     obtain⟨b1,b2,rfl,rfl,b3⟩:=b0
     have h0_0:=rd2 bZ h0_0
     have aF:=Ow.mono RB.mono bZ aF
     refine Bl 0 m b3 Z Tryz.underlying31 f Z Z fun a f=> ?_
     obtain⟨b4,b5,aC⟩:=bind_some aC
     refine AY f Z Tryz.call47 (Wk.m m b5) fun b6 w b7 m a f=> ?_
     have h0_0:=rd2 b7 h0_0
     have b3:=od1 b7 b3
     have aF:=Ow.mono RB.mono b7 aF
     refine Ad f Z fun a f=>Aa (Aj ?_)
     refine Ab f Z fun a f=>Ab f Z fun a f=> ?_
     obtain⟨b8,b9,aC⟩:=bind_some aC
     refine AQ 2 m aF Z T71 f Z Z Z b9 fun ca a cb f=>AC 2 m aF Z Tryz.sizeOf4 f Z Z cb b9 Z Z Z fun cc w m cd=>Aa (Aj ?_)
     refine Ab f Z fun a f=>Ag f Z Z As fun a f=>Ad f Z fun a f=>Aa ?_
     have m:=m.front 2 rfl
     have m:=m.front 2 rfl
     have m:=m.eraseAt 2
     obtain rfl:=sj aC
     exact⟨_,Z,_,_,_,Z,_,cc,(gt aE (gt aJ (gt bQ (gt bZ b7)))),f.k Z,m,cd⟩
   ·refine Ah f Z aK ?_
    refine Ax Z ?_
    have m:Mem W aI w H:=Mem.drop (H':=[Itm.box aa 29 [v0_0],aA]) m
    obtain rfl:=sj aC
    obtain rfl:=aD _ rfl
    exact⟨_,Z,_,(gt aE aJ),f.k Z,m⟩
  ·rintro a w ⟨ar,rfl,au,ce,f,m⟩
   refine Ac ?_
   refine Ab f Z fun a f=>Ad f Z fun a f=>Aa ?_
   refine Ap ?_
   obtain rfl:=sj hd
   exact⟨[(.int .i64 ar)],⟨f.get _ _ Z,trivial⟩,f.defers,_,[],(gt ae (gt aj ce)),m,Z,Z⟩
theorem Wk.J {W w:World}{G:GH}{H:List Itm}{v0_0:Value}{x0_0:(List (List Int))}{x1:Int}(hW:Cs W)(m:Mem W G w (H))(h0_0:RSl (RSl (RI .i64)) G v0_0 x0_0){y:Bool}(hd:D.J x0_0 x1=some y):
  Calls Tryz.prog 20 #[(.agg #[v0_0]),(.int .i64 x1)] w (Res W G H (fun _ Ho v=>Ho=[]∧v=(.bool y))):=by
 refine Ar (args:=[(.agg #[v0_0]),(.int .i64 x1)]) (N:=13) [.tmp 4] Tryz.func20 Z Z (Nat.le_of_ble_eq_true Z) Z fun a f=> ?_
 unfold D.J at hd
 refine Ac ?_
 refine Bn (cs:=[v0_0]) m f Z Z Z fun aa w a m f=>Ad f Z fun a f=>Aa (Ac ?_)
 refine AA 0 0 (ds:=[v0_0]) m AW f Z Z Z Z Z fun a f=> ?_
 obtain⟨ab,ac,hd⟩:=bind_some hd
 refine AY f Z Tryz.call31 (Wk.t m h0_0 ac) fun ad w ae m a f=> ?_
 have h0_0:=rd2 ae h0_0
 refine Ab f Z fun a f=> ?_
 obtain⟨af,ag,hd⟩:=bind_some hd
 refine Bw 5 (fun a w=>∃ah,GLe ad ah∧Mem W ah w (Itm.box aa 29 [v0_0]::H)∧Fr a 13 [(0,(.agg #[v0_0])),(1,(.int .i64 x1)),(2,(.pointer (some ⟨aa,0,none⟩))),(5,(.agg #[v0_0])),(6,(.bool ab)),(7,(.bool ab)),(12,(.bool af))]) ?_ ?_
 ·rcases Ae ag with⟨ai,ag⟩|⟨ai,ag⟩
  ·refine Av f ai ?_
   refine AA 0 0 (ds:=[v0_0]) m AW f Z Z Z Z Z fun a f=>Av f ai ?_
   obtain⟨aj,ak,ag⟩:=bind_some ag
   refine AF f Z Tryz.call9 (Wk.S hW m h0_0 ak) fun al am an w ao m ap a f=> ?_
   obtain⟨rfl,rfl⟩:=ap
   have h0_0:=rd2 ao h0_0
   refine Av f ai ?_
   refine Ab f Z fun a f=>Av f ai ?_
   refine Ag f Z Z Cm fun a f=>l_o f (AN (f.eval Z) ai (f.eval Z)) fun a f=> ?_
   obtain rfl:=sj ag
   exact⟨_,ao,m,f.k Z⟩
  ·refine Aw f ai fun a f=> ?_
   refine Aw f ai fun a f=>Aw f ai fun a f=>Aw f ai fun a f=>l_o f (AO (f.eval Z) ai (f.eval Z)) fun a f=> ?_
   obtain rfl:=sj ag
   exact⟨_,gr,m,f.k Z⟩
 ·rintro a w ⟨ah,aq,m,f⟩
  have h0_0:=rd2 aq h0_0
  refine Ad f Z fun a f=>Aa ?_
  refine Ap ?_
  have m:Mem W ah w H:=Mem.drop (H':=[Itm.box aa 29 [v0_0]]) m
  obtain rfl:=sj hd
  exact⟨[(.bool af)],⟨f.get _ _ Z,trivial⟩,f.defers,_,[],(gt ae aq),m,Z,Z⟩
set_option maxHeartbeats 1000000 in
theorem Wk.o1 {W w:World}{G:GH}{H:List Itm}{v0:Value}{x0:(List Int)}(hW:Cs W)(m:Mem W G w (H))(h0:RSl (RI .u8) G v0 x0){y:Bool}(hd:D.o1 x0=some y):
  Calls Tryz.prog 3 #[v0] w (Res W G H (fun _ Ho v=>Ho=[]∧v=(.bool y))):=by
 refine Ar (args:=[v0]) (N:=106) [.tmp 2] Tryz.func3 Z Z (Nat.le_of_ble_eq_true Z) Z fun a f=> ?_
 unfold D.o1 at hd
 refine Ac ?_
 refine Ad f Z fun a f=>Aa (Af (Ac ?_))
 refine Ab f Z fun a f=> ?_
 obtain⟨aa,ab,hd⟩:=bind_some hd
 refine AY f Z Tryz.call5 (Wk.U0 m h0 ab) fun ac w ad m a f=> ?_
 have h0:=rd1 ad h0
 refine Aa ?_
 rcases Ae hd with⟨ae,hd⟩|⟨ae,hd⟩
 ·refine Am f Z ae ?_
  refine Ac ?_
  refine Ad f Z fun a f=>Aa ?_
  refine Ap ?_
  obtain rfl:=sj hd
  exact⟨[(.bool true)],⟨f.get _ _ Z,trivial⟩,f.defers,_,[],ad,m,Z,Z⟩
 ·refine Ah f Z ae ?_
  refine An ?_
  refine Ac ?_
  refine Ab f Z fun a f=> ?_
  obtain⟨af,ag,hd⟩:=bind_some hd
  refine AF f Z Tryz.call6 (Wk.E0 m h0 ag) fun ah ai aj w ak m al a f=> ?_
  obtain⟨am,an,rfl,rfl,ao⟩:=al
  have h0:=rd1 ak h0
  refine Ad f Z fun a f=>Aa (Ac ?_)
  refine Ab f Z fun a f=> ?_
  obtain⟨ap,aq,hd⟩:=bind_some hd
  refine AF f Z Tryz.call7 (Wk.P0 m ao aq) fun ar au av w aw m ax a f=> ?_
  obtain⟨ay,az,aA,rfl,rfl,aB,aC⟩:=ax
  have h0:=rd1 aw h0
  refine BF (cs:=[(.slice none 0 0)]) Tryz.zeroValue29 m f Z Z fun aD w a m f=>AR 0 0 (ds:=[ay]) m Tryz.sizeOf29 f Z Z Z (AM (Ow.one1 1 m aB Z) A6) Z (Nat.le_of_ble_eq_true Z) Z fun w m=>Aa (Ac ?_)
  refine Bo Tryz.underlying29 Z Tryz.sizeOf27 f Z fun a f=>AG 0 0 m Bk f Z Z Z Z fun a f=>Bl 1 m aB Z Tryz.underlying27 f Z Z fun a f=>Ad f Z fun a f=>Aa (Ac ?_)
  refine Ab f Z fun a f=>Ab f Z fun a f=> ?_
  have m:Mem W au w (Itm.box an 53 [aA,(.int .i64 ap.2.2.1),(.int .u64 ap.2.2.2)]::Itm.box aD 29 [ay]::az::H):=m.front 2 rfl
  obtain⟨aE,aF,hd⟩:=bind_some hd
  refine AF f Z Tryz.call8 (Wk.C0 m aC aF) fun aG aH aI w aJ m aK a f=> ?_
  obtain⟨aL,aM,aN,rfl,rfl,aO,aP⟩:=aK
  have h0:=rd1 aJ h0
  have aB:=Ow.mono (RSl.mono (RI.mono _)) aJ aB
  refine Ad f Z fun a f=>Aa (Ac ?_)
  refine AA 2 0 (ds:=[ay]) m AW f Z Z Z Z Z fun a f=> ?_
  obtain⟨aQ,aR,hd⟩:=bind_some hd
  refine AF f Z Tryz.call9 (Ow.lendCall (RSl.mono (RI.mono _)) 3 aB m Z (fun aS aT m aU=>Wk.S hW m aU aR) (fun _ _ _ _ h=>h)) fun aV aW aX w aY m aZ a f=> ?_
  obtain⟨rfl,rfl⟩:=aZ
  have h0:=rd1 aY h0
  have aO:=od1 aY aO
  have aP:=rd1 aY aP
  have aB:=Ow.mono (RSl.mono (RI.mono _)) aY aB
  refine Ad f Z fun a f=>Aa (Ac ?_)
  refine AA 2 0 (ds:=[ay]) m AW f Z Z Z Z Z fun a f=> ?_
  obtain⟨a4,a5,hd⟩:=bind_some hd
  refine AF f Z Tryz.call10 (Ow.lendCall (RSl.mono (RI.mono _)) 3 aB m Z (fun a6 a7 m a8=>Wk.G0 hW m a8 a5) (fun _ G' _ _ ⟨a0,a1,e1,e2,o0⟩=>⟨a0,a1,e1,e2,Ow.free (RI.free _) G' o0⟩)) fun a9 ba bb w bc m bd a f=> ?_
  obtain⟨be,bf,rfl,rfl,bg⟩:=bd
  have h0:=rd1 bc h0
  have aO:=od1 bc aO
  have aP:=rd1 bc aP
  have aB:=Ow.mono (RSl.mono (RI.mono _)) bc aB
  refine Ad f Z fun a f=>Aa (Ac ?_)
  refine AA 3 0 (ds:=[ay]) m AW f Z Z Z Z Z fun a f=> ?_
  obtain⟨bh,bi,hd⟩:=bind_some hd
  refine AF f Z Tryz.call11 (Ow.lendCall (RSl.mono (RI.mono _)) 4 aB m Z (fun bj bk m bl=>Wk.m0 hW m bl bi) (fun _ G' _ _ ⟨a0,a1,a2,a3,e1,e2,o0,o1⟩=>⟨a0,a1,a2,a3,e1,e2,Ow2.free (RI.free _) G' o0,Ow2.free (RI.free _) G' o1⟩)) fun bm bn bo w bp m bq a f=> ?_
  obtain⟨br,bs,bt,bu,rfl,rfl,bv,bw⟩:=bq
  have h0:=rd1 bp h0
  have bg:=od1 bp bg
  have aO:=od1 bp aO
  have aP:=rd1 bp aP
  have aB:=Ow.mono (RSl.mono (RI.mono _)) bp aB
  refine Ab f Z fun a f=>l_o f (Bt (f.eval Z) Z) fun a f=>l_o f (Bt (f.eval Z) Z) fun a f=>BF (cs:=[(.slice none 0 0),(.slice none 0 0)]) Tryz.zeroValue36 m f Z Z fun bx w a m f=>AR 0 0 (ds:=[br,bt]) m Tryz.sizeOf36 f Z Z Z (AM (Ow2.one1 1 m bv Z) (AM (Ow2.one1 2 m bw Z) A6)) Z (Nat.le_of_ble_eq_true Z) Z fun w m=>Ad f Z fun a f=>Aa (Af (Ac ?_))
  refine Ab f Z fun a f=>AA 6 0 (ds:=[ay]) m AW f Z Z Z Z Z fun a f=> ?_
  obtain⟨bz,bA,hd⟩:=bind_some hd
  refine AF f Z Tryz.call12 (Ow.lendCall (RSl.mono (RI.mono _)) 7 aB m Z (fun bB bC m bD=>Wk.n0 m bD bA) (fun _ _ _ _ h=>h)) fun bE bF bG w bH m bI a f=> ?_
  obtain⟨rfl,rfl⟩:=bI
  have h0:=rd1 bH h0
  have bv:=od2 bH bv
  have bw:=od2 bH bw
  have bg:=od1 bH bg
  have aO:=od1 bH aO
  have aP:=rd1 bH aP
  have aB:=Ow.mono (RSl.mono (RI.mono _)) bH aB
  refine Ag f Z Z CS fun a f=>Ab f Z fun a f=> ?_
  obtain⟨bJ,bK,hd⟩:=bind_some hd
  refine Bw 6 (fun a w=>∃bL,GLe bF bL∧Mem W bL w (Itm.box bx 36 [br,bt]::bs::bu::bf::aM::Itm.box an 53 [aN,(.int .i64 aE.2.2.1),(.int .u64 aE.2.2.2)]::Itm.box aD 29 [ay]::az::H)∧Fr a 106 [(0,v0),(3,(.pointer (some ⟨an,0,none⟩))),(4,(.pointer (some ⟨aD,0,none⟩))),(5,(.int .i64 (ap.1.length:Int))),(6,aL),(7,(.int .i64 aQ)),(8,be),(9,(.pointer (some ⟨bx,0,none⟩))),(10,(.bool bh.2.2)),(33,(.int .i64 aQ)),(34,(.agg #[ay])),(35,(.int .i64 bz)),(36,(.bool (aQ !=bz))),(37,(.bool (aQ !=bz))),(43,(.bool bJ))]) ?_ ?_
  ·rcases Ae bK with⟨bM,bK⟩|⟨bM,bK⟩
   ·refine Aw f bM fun a f=> ?_
    refine Aw f bM fun a f=>Aw f bM fun a f=>Aw f bM fun a f=>Aw f bM fun a f=>l_o f (AN (f.eval Z) bM (f.eval Z)) fun a f=> ?_
    obtain rfl:=sj bK
    exact⟨_,gr,m,f.k Z⟩
   ·refine Av f bM ?_
    refine Ab f Z fun a f=>Av f bM ?_
    refine AA 6 0 (ds:=[ay]) m AW f Z Z Z Z Z fun a f=>Av f bM ?_
    obtain⟨bN,bO,bK⟩:=bind_some bK
    refine AF f Z Tryz.call14 (Ow.lendCall (RSl.mono (RI.mono _)) 7 aB m Z (fun bP bQ m bR=>Wk.e0 m bR bO) (fun _ G' _ _ ⟨a0,a1,e1,e2,o0⟩=>⟨a0,a1,e1,e2,Ow.free (RI.free _) G' o0⟩)) fun bS bT bU w bV m bW a f=> ?_
    obtain⟨bX,bY,rfl,rfl,bZ⟩:=bW
    have h0:=rd1 bV h0
    have bv:=od2 bV bv
    have bw:=od2 bV bw
    have bg:=od1 bV bg
    have aO:=od1 bV aO
    have aP:=rd1 bV aP
    have aB:=Ow.mono (RSl.mono (RI.mono _)) bV aB
    refine Av f bM ?_
    obtain⟨b0,b1,bK⟩:=bind_some bK
    refine AF f Z Tryz.call13 (Ow.lendCall (RI.mono _) 4 bg m Z (fun b2 b3 m b4=>(Ow.lendCall (RI.mono _) 0 (od1 b3 bZ) m Z (fun b5 b6 m b7=>Wk.v0 m (rd1 b6 b4) b7 b1) (fun _ _ _ _ h=>h))) (fun _ _ _ _ h=>h)) fun b8 b9 ca w cb m cc a f=> ?_
    obtain⟨rfl,rfl⟩:=cc
    have h0:=rd1 cb h0
    have bZ:=od1 cb bZ
    have bv:=od2 cb bv
    have bw:=od2 cb bw
    have bg:=od1 cb bg
    have aO:=od1 cb aO
    have aP:=rd1 cb aP
    have aB:=Ow.mono (RSl.mono (RI.mono _)) cb aB
    refine Av f bM ?_
    refine l_o f (Bp (f.eval Z)) fun a f=>l_o f (AO (f.eval Z) bM (f.eval Z)) fun a f=> ?_
    obtain rfl:=sj bK
    have m:=m.front 8 rfl
    have m:=m.front 8 rfl
    have m:Mem W b9 w (Itm.box an 53 [aN,(.int .i64 aE.2.2.1),(.int .u64 aE.2.2.2)]::Itm.box aD 29 [ay]::az::bY::Itm.box bx 36 [br,bt]::bs::bu::bf::aM::H):=m.front 8 rfl
    have m:=m.front 8 rfl
    have m:=m.front 8 rfl
    have m:Mem W b9 w (bu::bf::aM::Itm.box an 53 [aN,(.int .i64 aE.2.2.1),(.int .u64 aE.2.2.2)]::Itm.box aD 29 [ay]::az::bY::Itm.box bx 36 [br,bt]::bs::H):=m.front 8 rfl
    have m:=m.front 8 rfl
    have m:=m.front 8 rfl
    have m:Mem W b9 w (Itm.box bx 36 [br,bt]::bs::bu::bf::aM::Itm.box an 53 [aN,(.int .i64 aE.2.2.1),(.int .u64 aE.2.2.2)]::Itm.box aD 29 [ay]::az::H):=m.eraseAt 8
    exact⟨_,(gt bV cb),m,f.k Z⟩
  ·rintro a w ⟨bL,cd,m,f⟩
   have h0:=rd1 cd h0
   have bv:=od2 cd bv
   have bw:=od2 cd bw
   have bg:=od1 cd bg
   have aO:=od1 cd aO
   have aP:=rd1 cd aP
   have aB:=Ow.mono (RSl.mono (RI.mono _)) cd aB
   refine Ab f Z fun a f=> ?_
   obtain⟨ce,cf,hd⟩:=bind_some hd
   refine Bw 6 (fun a w=>∃cg,GLe bL cg∧Mem W cg w (Itm.box bx 36 [br,bt]::bs::bu::bf::aM::Itm.box an 53 [aN,(.int .i64 aE.2.2.1),(.int .u64 aE.2.2.2)]::Itm.box aD 29 [ay]::az::H)∧Fr a 106 [(0,v0),(3,(.pointer (some ⟨an,0,none⟩))),(4,(.pointer (some ⟨aD,0,none⟩))),(5,(.int .i64 (ap.1.length:Int))),(6,aL),(7,(.int .i64 aQ)),(8,be),(9,(.pointer (some ⟨bx,0,none⟩))),(10,(.bool bh.2.2)),(33,(.int .i64 aQ)),(34,(.agg #[ay])),(35,(.int .i64 bz)),(36,(.bool (aQ !=bz))),(37,(.bool (aQ !=bz))),(43,(.bool bJ)),(44,(.bool bJ)),(50,(.bool ce))]) ?_ ?_
   ·rcases Ae cf with⟨ch,cf⟩|⟨ch,cf⟩
    ·refine Aw f ch fun a f=> ?_
     refine Aw f ch fun a f=>Aw f ch fun a f=>Aw f ch fun a f=>Aw f ch fun a f=>l_o f (AN (f.eval Z) ch (f.eval Z)) fun a f=> ?_
     obtain rfl:=sj cf
     exact⟨_,gr,m,f.k Z⟩
    ·refine Av f ch ?_
     refine AA 6 0 (ds:=[ay]) m AW f Z Z Z Z Z fun a f=>Av f ch ?_
     refine Ab f Z fun a f=>Av f ch ?_
     obtain⟨ci,cj,cf⟩:=bind_some cf
     refine AF f Z Tryz.call15 (Ow.lendCall (RSl.mono (RI.mono _)) 7 aB m Z (fun ck cl m cm=>(Ow.lendCall (RI.mono _) 3 (od1 cl bg) m Z (fun cn co m cp=>Wk.b0 m (rd2 co cm) cp cj) (fun _ _ _ _ h=>h))) (fun _ _ _ _ h=>h)) fun cq cr ct w cu m cv a f=> ?_
     obtain⟨rfl,rfl⟩:=cv
     have h0:=rd1 cu h0
     have bv:=od2 cu bv
     have bw:=od2 cu bw
     have bg:=od1 cu bg
     have aO:=od1 cu aO
     have aP:=rd1 cu aP
     have aB:=Ow.mono (RSl.mono (RI.mono _)) cu aB
     refine Av f ch ?_
     refine Ab f Z fun a f=>Av f ch ?_
     refine Ag f Z Z CS fun a f=>l_o f (AO (f.eval Z) ch (f.eval Z)) fun a f=> ?_
     obtain rfl:=sj cf
     exact⟨_,cu,m,f.k Z⟩
   ·rintro a w ⟨cg,cw,m,f⟩
    have h0:=rd1 cw h0
    have bv:=od2 cw bv
    have bw:=od2 cw bw
    have bg:=od1 cw bg
    have aO:=od1 cw aO
    have aP:=rd1 cw aP
    have aB:=Ow.mono (RSl.mono (RI.mono _)) cw aB
    refine Ab f Z fun a f=> ?_
    refine Bw 3 (fun a w=>∃cx,GLe cg cx∧Mem W cx w (Itm.box bx 36 [br,bt]::bs::bu::bf::aM::Itm.box an 53 [aN,(.int .i64 aE.2.2.1),(.int .u64 aE.2.2.2)]::Itm.box aD 29 [ay]::az::H)∧Fr a 106 [(0,v0),(3,(.pointer (some ⟨an,0,none⟩))),(4,(.pointer (some ⟨aD,0,none⟩))),(5,(.int .i64 (ap.1.length:Int))),(6,aL),(7,(.int .i64 aQ)),(8,be),(9,(.pointer (some ⟨bx,0,none⟩))),(10,(.bool bh.2.2)),(33,(.int .i64 aQ)),(34,(.agg #[ay])),(35,(.int .i64 bz)),(36,(.bool (aQ !=bz))),(37,(.bool (aQ !=bz))),(43,(.bool bJ)),(44,(.bool bJ)),(50,(.bool ce)),(51,(.bool ce)),(54,(.bool (ce||(!bh.2.2))))]) ?_ ?_
    ·rcases Bool.eq_false_or_eq_true ce with cy|cy
     ·refine Aw f cy fun a f=> ?_
      refine Aw f cy fun a f=>l_o f (AN (f.eval Z) cy (f.eval Z)) fun a f=> ?_
      exact⟨_,gr,m,f.weak ⟨Z,Z,Z,Z,Z,Z,Z,Z,Z,Z,Z,Z,Z,Z,Z,Z,Z,Z,by rw[cy];rfl,trivial⟩⟩
     ·refine Av f cy ?_
      refine Ab f Z fun a f=>Av f cy ?_
      refine l_o f (Bp (f.eval Z)) fun a f=>l_o f (AO (f.eval Z) cy (f.eval Z)) fun a f=> ?_
      exact⟨_,gr,m,f.weak ⟨Z,Z,Z,Z,Z,Z,Z,Z,Z,Z,Z,Z,Z,Z,Z,Z,Z,Z,by rw[cy];rfl,trivial⟩⟩
    ·rintro a w ⟨cx,cz,m,f⟩
     have h0:=rd1 cz h0
     have bv:=od2 cz bv
     have bw:=od2 cz bw
     have bg:=od1 cz bg
     have aO:=od1 cz aO
     have aP:=rd1 cz aP
     have aB:=Ow.mono (RSl.mono (RI.mono _)) cz aB
     refine Ab f Z fun a f=> ?_
     obtain⟨cA,cB,hd⟩:=bind_some hd
     refine Bw 5 (fun a w=>∃cC,GLe cx cC∧Mem W cC w (Itm.box bx 36 [br,bt]::bs::bu::bf::aM::Itm.box an 53 [aN,(.int .i64 aE.2.2.1),(.int .u64 aE.2.2.2)]::Itm.box aD 29 [ay]::az::H)∧Fr a 106 [(0,v0),(3,(.pointer (some ⟨an,0,none⟩))),(4,(.pointer (some ⟨aD,0,none⟩))),(5,(.int .i64 (ap.1.length:Int))),(6,aL),(7,(.int .i64 aQ)),(8,be),(9,(.pointer (some ⟨bx,0,none⟩))),(10,(.bool bh.2.2)),(33,(.int .i64 aQ)),(34,(.agg #[ay])),(35,(.int .i64 bz)),(36,(.bool (aQ !=bz))),(37,(.bool (aQ !=bz))),(43,(.bool bJ)),(44,(.bool bJ)),(50,(.bool ce)),(51,(.bool ce)),(54,(.bool (ce||(!bh.2.2)))),(55,(.bool (ce||(!bh.2.2)))),(60,(.bool cA))]) ?_ ?_
     ·rcases Ae cB with⟨cD,cB⟩|⟨cD,cB⟩
      ·refine Aw f cD fun a f=> ?_
       refine Aw f cD fun a f=>Aw f cD fun a f=>Aw f cD fun a f=>l_o f (AN (f.eval Z) cD (f.eval Z)) fun a f=> ?_
       obtain rfl:=sj cB
       exact⟨_,gr,m,f.k Z⟩
      ·refine Av f cD ?_
       refine AA 6 0 (ds:=[ay]) m AW f Z Z Z Z Z fun a f=>Av f cD ?_
       refine AA 0 0 (ds:=[br,bt]) m Dq f Z Z Z Z Z fun a f=>Av f cD ?_
       obtain⟨cE,cF,cB⟩:=bind_some cB
       refine AF f Z Tryz.call16 (Ow.lendCall (RSl.mono (RI.mono _)) 7 aB m Z (fun cG cH m cI=>(Ow2.lendCall (RI.mono _) 1 (od2 cH bv) m Z (fun cJ cK m cL=>(Ow2.lendCall (RI.mono _) 1 (od2 cK (od2 cH bw)) m Z (fun cM cN m cO=>Wk.j0 m (rd2 cN (rd2 cK cI)) (rd2 cN cL) cO cF) (fun _ _ _ _ h=>h))) (fun _ _ _ _ h=>h))) (fun _ _ _ _ h=>h)) fun cP cQ cR w cS m cT a f=> ?_
       obtain⟨rfl,rfl⟩:=cT
       have h0:=rd1 cS h0
       have bv:=od2 cS bv
       have bw:=od2 cS bw
       have bg:=od1 cS bg
       have aO:=od1 cS aO
       have aP:=rd1 cS aP
       have aB:=Ow.mono (RSl.mono (RI.mono _)) cS aB
       refine Av f cD ?_
       refine l_o f (Bp (f.eval Z)) fun a f=>l_o f (AO (f.eval Z) cD (f.eval Z)) fun a f=> ?_
       obtain rfl:=sj cB
       exact⟨_,cS,m,f.k Z⟩
     ·rintro a w ⟨cC,cU,m,f⟩
      have h0:=rd1 cU h0
      have bv:=od2 cU bv
      have bw:=od2 cU bw
      have bg:=od1 cU bg
      have aO:=od1 cU aO
      have aP:=rd1 cU aP
      have aB:=Ow.mono (RSl.mono (RI.mono _)) cU aB
      refine Ab f Z fun a f=> ?_
      obtain⟨cV,cW,hd⟩:=bind_some hd
      refine Bw 5 (fun a w=>∃cX,GLe cC cX∧Mem W cX w (Itm.box bx 36 [br,bt]::bs::bu::bf::aM::Itm.box an 53 [aN,(.int .i64 aE.2.2.1),(.int .u64 aE.2.2.2)]::Itm.box aD 29 [ay]::az::H)∧Fr a 106 [(0,v0),(3,(.pointer (some ⟨an,0,none⟩))),(4,(.pointer (some ⟨aD,0,none⟩))),(5,(.int .i64 (ap.1.length:Int))),(6,aL),(7,(.int .i64 aQ)),(8,be),(9,(.pointer (some ⟨bx,0,none⟩))),(10,(.bool bh.2.2)),(33,(.int .i64 aQ)),(34,(.agg #[ay])),(35,(.int .i64 bz)),(36,(.bool (aQ !=bz))),(37,(.bool (aQ !=bz))),(43,(.bool bJ)),(44,(.bool bJ)),(50,(.bool ce)),(51,(.bool ce)),(54,(.bool (ce||(!bh.2.2)))),(55,(.bool (ce||(!bh.2.2)))),(60,(.bool cA)),(61,(.bool cA)),(66,(.bool cV))]) ?_ ?_
      ·rcases Ae cW with⟨cY,cW⟩|⟨cY,cW⟩
       ·refine Aw f cY fun a f=> ?_
        refine Aw f cY fun a f=>Aw f cY fun a f=>Aw f cY fun a f=>l_o f (AN (f.eval Z) cY (f.eval Z)) fun a f=> ?_
        obtain rfl:=sj cW
        exact⟨_,gr,m,f.k Z⟩
       ·refine Av f cY ?_
        refine AA 0 0 (ds:=[br,bt]) m Dq f Z Z Z Z Z fun a f=>Av f cY ?_
        obtain⟨cZ,c0,cW⟩:=bind_some cW
        refine AF f Z Tryz.call17 (Ow2.lendCall (RI.mono _) 1 bv m Z (fun c1 c2 m c3=>(Ow2.lendCall (RI.mono _) 1 (od2 c2 bw) m Z (fun c4 c5 m c6=>Wk.F0 m (rd2 c5 c3) c6 c0) (fun _ _ _ _ h=>h))) (fun _ _ _ _ h=>h)) fun c7 c8 c9 w da m db a f=> ?_
        obtain⟨rfl,rfl⟩:=db
        have h0:=rd1 da h0
        have bv:=od2 da bv
        have bw:=od2 da bw
        have bg:=od1 da bg
        have aO:=od1 da aO
        have aP:=rd1 da aP
        have aB:=Ow.mono (RSl.mono (RI.mono _)) da aB
        refine Av f cY ?_
        refine Ab f Z fun a f=>Av f cY ?_
        refine Ag f Z Z CS fun a f=>l_o f (AO (f.eval Z) cY (f.eval Z)) fun a f=> ?_
        obtain rfl:=sj cW
        exact⟨_,da,m,f.k Z⟩
      ·rintro a w ⟨cX,dc,m,f⟩
       have h0:=rd1 dc h0
       have bv:=od2 dc bv
       have bw:=od2 dc bw
       have bg:=od1 dc bg
       have aO:=od1 dc aO
       have aP:=rd1 dc aP
       have aB:=Ow.mono (RSl.mono (RI.mono _)) dc aB
       refine Aa ?_
       rcases Ae hd with⟨dd,hd⟩|⟨dd,hd⟩
       ·refine Am f Z dd ?_
        refine Ac ?_
        refine Ad f Z fun a f=>Aa ?_
        refine Ap ?_
        have m:Mem W cX w H:=Mem.drop (H':=[Itm.box bx 36 [br,bt],bs,bu,bf,aM,Itm.box an 53 [aN,(.int .i64 aE.2.2.1),(.int .u64 aE.2.2.2)],Itm.box aD 29 [ay],az]) m
        obtain rfl:=sj hd
        exact⟨[(.bool false)],⟨f.get _ _ Z,trivial⟩,f.defers,_,[],(gt ad (gt ak (gt aw (gt aJ (gt aY (gt bc (gt bp (gt bH (gt cd (gt cw (gt cz (gt cU dc)))))))))))),m,Z,Z⟩
       ·refine Ah f Z dd ?_
        refine An ?_
        refine Ac ?_
        refine AA 6 0 (ds:=[ay]) m AW f Z Z Z Z Z fun a f=> ?_
        obtain⟨de,df,hd⟩:=bind_some hd
        refine AF f Z Tryz.call18 (Ow.lendCall (RSl.mono (RI.mono _)) 7 aB m Z (fun dg dh m di=>Wk.z0 hW m di df) (fun _ G' _ _ ⟨r0,i0,h1,h2,h3⟩=>⟨r0,i0,h1,h2,Ow.free (RI.free _) G' h3⟩)) fun dj dk dl w dm m dn a f=> ?_
        obtain⟨dp,dq,rfl,rfl,dr⟩:=dn
        have h0:=rd1 dm h0
        have bv:=od2 dm bv
        have bw:=od2 dm bw
        have bg:=od1 dm bg
        have aO:=od1 dm aO
        have aP:=rd1 dm aP
        have aB:=Ow.mono (RSl.mono (RI.mono _)) dm aB
        refine Ad f Z fun a f=>Aa (Af ?_)
        refine A7 38 AJ (by kernel_rfl) m ?_
        refine BC (i:=0) (ds:=[ay]) 38 7 AW Z Z Z Z (by kernel_rfl) Z f Z Z Z fun a f=>Ak 1 38 Z f Z fun a f=> ?_
        obtain⟨dt,du,hd⟩:=bind_some hd
        refine Ca (i:=2) 38 Z (by kernel_rfl) Z f Z Z Z Tryz.call15 (fun _ _ w dv m=>(Ow.lendCallR (RSl.mono (RI.mono _)) 8 (Ow.mono (RSl.mono (RI.mono _)) dv aB) m Z (fun dw dx m dy=>(Ow.lendCallR (RI.mono _) 5 (od1 dx (od1 dv aO)) m Z (fun dz dA m dB=>Wk.b0 m (rd2 dA dy) dB du) (fun _ _ _ _ h=>h))) (fun _ _ _ _ h=>h))) fun a f=>Ak 3 38 Z f Z fun a f=>q_p 4 38 Z f (fun _=>AL (f.eval Z) (f.eval Z) Ck) fun a f=>Ak 5 38 Z f Z fun a f=> ?_
        obtain⟨dC,dD,hd⟩:=bind_some hd
        refine Ci (fuel':=27) (listed':= #[true,true,true,true,true,true,true,true,true,true,true,false,false,false,false,false,false,false,false,false,false,false,false,false,false,false,false,false,false,false,false,false,false,false,false,false,false,false]) (fun a=>Fr a 106 [(0,v0),(3,(.pointer (some ⟨an,0,none⟩))),(4,(.pointer (some ⟨aD,0,none⟩))),(5,(.int .i64 (ap.1.length:Int))),(6,aL),(7,(.int .i64 aQ)),(8,be),(9,(.pointer (some ⟨bx,0,none⟩))),(10,(.bool bh.2.2)),(11,dp),(69,(.agg #[ay])),(70,aL),(71,(.int .i64 dt)),(72,(.int .i64 aQ)),(73,(.bool (decide (aQ≤dt)))),(74,(.bool (decide (aQ≤dt)))),(79,(.bool dC))]) ?_ ?_
        ·intro a f
         refine Ak 11 38 Z f Z fun a f=> ?_
         obtain⟨dE,dF,hd⟩:=bind_some hd
         refine Ci (fuel':=22) (listed':= #[true,true,true,true,true,true,true,true,true,true,true,true,true,true,true,true,false,false,false,false,false,false,false,false,false,false,false,false,false,false,false,false,false,false,false,false,false,false]) (fun a=>Fr a 106 [(0,v0),(3,(.pointer (some ⟨an,0,none⟩))),(4,(.pointer (some ⟨aD,0,none⟩))),(5,(.int .i64 (ap.1.length:Int))),(6,aL),(7,(.int .i64 aQ)),(8,be),(9,(.pointer (some ⟨bx,0,none⟩))),(10,(.bool bh.2.2)),(11,dp),(69,(.agg #[ay])),(70,aL),(71,(.int .i64 dt)),(72,(.int .i64 aQ)),(73,(.bool (decide (aQ≤dt)))),(74,(.bool (decide (aQ≤dt)))),(79,(.bool dC)),(80,(.bool dC)),(84,(.bool dE))]) ?_ ?_
         ·intro a f
          refine Ak 16 38 Z f Z fun a f=> ?_
          obtain⟨dG,dH,hd⟩:=bind_some hd
          refine Ci (fuel':=15) (listed':= #[true,true,true,true,true,true,true,true,true,true,true,true,true,true,true,true,true,true,true,true,true,true,true,false,false,false,false,false,false,false,false,false,false,false,false,false,false,false]) (fun a=>Fr a 106 [(0,v0),(3,(.pointer (some ⟨an,0,none⟩))),(4,(.pointer (some ⟨aD,0,none⟩))),(5,(.int .i64 (ap.1.length:Int))),(6,aL),(7,(.int .i64 aQ)),(8,be),(9,(.pointer (some ⟨bx,0,none⟩))),(10,(.bool bh.2.2)),(11,dp),(69,(.agg #[ay])),(70,aL),(71,(.int .i64 dt)),(72,(.int .i64 aQ)),(73,(.bool (decide (aQ≤dt)))),(74,(.bool (decide (aQ≤dt)))),(79,(.bool dC)),(80,(.bool dC)),(84,(.bool dE)),(85,(.bool dE)),(91,(.bool dG))]) ?_ ?_
          ·intro a f
           refine Ak 23 38 Z f Z fun a f=>Ci (fuel':=10) (listed':= #[true,true,true,true,true,true,true,true,true,true,true,true,true,true,true,true,true,true,true,true,true,true,true,true,true,true,true,true,false,false,false,false,false,false,false,false,false,false]) (fun a=>Fr a 106 [(0,v0),(3,(.pointer (some ⟨an,0,none⟩))),(4,(.pointer (some ⟨aD,0,none⟩))),(5,(.int .i64 (ap.1.length:Int))),(6,aL),(7,(.int .i64 aQ)),(8,be),(9,(.pointer (some ⟨bx,0,none⟩))),(10,(.bool bh.2.2)),(11,dp),(69,(.agg #[ay])),(70,aL),(71,(.int .i64 dt)),(72,(.int .i64 aQ)),(73,(.bool (decide (aQ≤dt)))),(74,(.bool (decide (aQ≤dt)))),(79,(.bool dC)),(80,(.bool dC)),(84,(.bool dE)),(85,(.bool dE)),(91,(.bool dG)),(92,(.bool dG)),(96,(.bool (dG&&(decide ((0:Int)<(de.length:Int))))))]) ?_ ?_
           ·intro a f
            refine Ak 28 38 Z f Z fun a f=> ?_
            obtain⟨dI,dJ,hd⟩:=bind_some hd
            refine Ci (fuel':=1) (listed':= #[true,true,true,true,true,true,true,true,true,true,true,true,true,true,true,true,true,true,true,true,true,true,true,true,true,true,true,true,true,true,true,true,true,true,true,true,true,false]) (fun a=>Fr a 106 [(0,v0),(3,(.pointer (some ⟨an,0,none⟩))),(4,(.pointer (some ⟨aD,0,none⟩))),(5,(.int .i64 (ap.1.length:Int))),(6,aL),(7,(.int .i64 aQ)),(8,be),(9,(.pointer (some ⟨bx,0,none⟩))),(10,(.bool bh.2.2)),(11,dp),(69,(.agg #[ay])),(70,aL),(71,(.int .i64 dt)),(72,(.int .i64 aQ)),(73,(.bool (decide (aQ≤dt)))),(74,(.bool (decide (aQ≤dt)))),(79,(.bool dC)),(80,(.bool dC)),(84,(.bool dE)),(85,(.bool dE)),(91,(.bool dG)),(92,(.bool dG)),(96,(.bool (dG&&(decide ((0:Int)<(de.length:Int)))))),(97,(.bool (dG&&(decide ((0:Int)<(de.length:Int)))))),(105,(.bool dI))]) ?_ ?_
            ·intro a f
             refine q_p 37 38 Z f (fun _=>BD (f.eval Z)) fun a f=>AV fun dK w dL m=> ?_
             have h0:=rd1 dL h0
             have dr:=od1 dL dr
             have bv:=od2 dL bv
             have bw:=od2 dL bw
             have bg:=od1 dL bg
             have aO:=od1 dL aO
             have aP:=rd1 dL aP
             have aB:=Ow.mono (RSl.mono (RI.mono _)) dL aB
             refine Aa ?_
             refine Ap ?_
             have m:Mem W dK w H:=Mem.drop (H':=[dq,Itm.box bx 36 [br,bt],bs,bu,bf,aM,Itm.box an 53 [aN,(.int .i64 aE.2.2.1),(.int .u64 aE.2.2.2)],Itm.box aD 29 [ay],az]) m
             obtain rfl:=sj hd
             exact⟨[(.bool dI)],⟨f.get _ _ Z,trivial⟩,f.defers,_,[],(gt ad (gt ak (gt aw (gt aJ (gt aY (gt bc (gt bp (gt bH (gt cd (gt cw (gt cz (gt cU (gt dc (gt dm dL)))))))))))))),m,Z,Z⟩
            ·intro dM
             rcases Ae dJ with⟨dN,dJ⟩|⟨dN,dJ⟩
             ·refine Ak (hw:=wo f dN) 29 38 Z f Z fun a f=> ?_
              obtain⟨dO,dP,dJ⟩:=bind_some dJ
              refine AT (hw:=wo f dN) 30 38 0 m dr T31 dP Z f Z Z fun dQ a dR f=>Ba (hw:=wo f dN) 31 38 0 dr Pl2 dR dP Z f Z fun dS a dT f=> ?_
              subst dT
              refine Ak (hw:=wo f dN) 32 38 Z f Z fun a f=> ?_
              obtain⟨dU,dV,dJ⟩:=bind_some dJ
              refine AT (hw:=wo f dN) 33 38 4 m bg T31 dV Z f Z Z fun dW a dX f=>Ba (hw:=wo f dN) 34 38 4 bg Pl2 dX dV Z f Z fun dY a dZ f=> ?_
              subst dZ
              refine q_p (hw:=wo f dN) 35 38 Z f (fun _=>AL (f.eval Z) (f.eval Z) BG) fun a f=>q_p 36 38 Z f (fun _=>AN (f.eval Z) dN (f.eval Z)) fun a f=> ?_
              obtain rfl:=sj dJ
              exact dM _ (f.k Z)
             ·refine Aq 29 38 Z f dN fun a f=> ?_
              refine Aq 30 38 Z f dN fun a f=>Aq 31 38 Z f dN fun a f=>Aq 32 38 Z f dN fun a f=>Aq 33 38 Z f dN fun a f=>Aq 34 38 Z f dN fun a f=>Aq 35 38 Z f dN fun a f=>q_p 36 38 Z f (fun _=>AO (f.eval Z) dN (f.eval Z)) fun a f=> ?_
              obtain rfl:=sj dJ
              exact dM _ (f.k Z)
           ·intro d0
            rcases Bool.eq_false_or_eq_true dG with d1|d1
            ·refine Ak (hw:=wo f d1) 24 38 Z f Z fun a f=> ?_
             refine Fl (i:=25) 38 0 m dr Z Tryz.underlying31 Z (by kernel_rfl) Z f (Bg f Z Z Z d1) Z Z fun a f=>q_p (hw:=wo f d1) 26 38 Z f (fun _=>AL (f.eval Z) (f.eval Z) Cc) fun a f=>q_p 27 38 Z f (fun _=>AN (f.eval Z) d1 (f.eval Z)) fun a f=> ?_
             exact d0 _ (f.weak ⟨Z,Z,Z,Z,Z,Z,Z,Z,Z,Z,Z,Z,Z,Z,Z,Z,Z,Z,Z,Z,Z,Z,by rw[d1];rfl,trivial⟩)
            ·refine Aq 24 38 Z f d1 fun a f=> ?_
             refine Aq 25 38 Z f d1 fun a f=>Aq 26 38 Z f d1 fun a f=>q_p 27 38 Z f (fun _=>AO (f.eval Z) d1 (f.eval Z)) fun a f=> ?_
             exact d0 _ (f.weak ⟨Z,Z,Z,Z,Z,Z,Z,Z,Z,Z,Z,Z,Z,Z,Z,Z,Z,Z,Z,Z,Z,Z,by rw[d1];rfl,trivial⟩)
          ·intro d2
           rcases Ae dH with⟨d3,dH⟩|⟨d3,dH⟩
           ·refine BC (i:=17) (ds:=[ay]) 38 7 AW Z Z Z Z (by kernel_rfl) Z f (Bg f Z Z Z d3) Z Z fun a f=> ?_
            refine Ak (hw:=wo f d3) 18 38 Z f Z fun a f=>q_p (hw:=wo f d3) 19 38 Z f (fun _=>AL (f.eval Z) (f.eval Z) A3) fun a f=> ?_
            obtain⟨d4,d5,dH⟩:=bind_some dH
            refine Ca (i:=20) 38 Z (by kernel_rfl) Z f (Bg f Z Z Z d3) Z Z Tryz.call20 (fun _ _ w d6 m=>(Ow.lendCallR (RSl.mono (RI.mono _)) 8 (Ow.mono (RSl.mono (RI.mono _)) d6 aB) m Z (fun d7 d8 m d9=>Wk.J hW m d9 d5) (fun _ _ _ _ h=>h))) fun a f=>q_p (hw:=wo f d3) 21 38 Z f (fun _=>Bp (f.eval Z)) fun a f=>q_p 22 38 Z f (fun _=>AN (f.eval Z) d3 (f.eval Z)) fun a f=> ?_
            obtain rfl:=sj dH
            exact d2 _ (f.k Z)
           ·refine Aq 17 38 Z f d3 fun a f=> ?_
            refine Aq 18 38 Z f d3 fun a f=>Aq 19 38 Z f d3 fun a f=>Aq 20 38 Z f d3 fun a f=>Aq 21 38 Z f d3 fun a f=>q_p 22 38 Z f (fun _=>AO (f.eval Z) d3 (f.eval Z)) fun a f=> ?_
            obtain rfl:=sj dH
            exact d2 _ (f.k Z)
         ·intro ea
          rcases Ae dF with⟨eb,dF⟩|⟨eb,dF⟩
          ·refine BC (i:=12) (ds:=[ay]) 38 7 AW Z Z Z Z (by kernel_rfl) Z f (Bg f Z Z Z eb) Z Z fun a f=> ?_
           refine Ak (hw:=wo f eb) 13 38 Z f Z fun a f=> ?_
           obtain⟨ec,ed,dF⟩:=bind_some dF
           refine Ca (i:=14) 38 Z (by kernel_rfl) Z f (Bg f Z Z Z eb) Z Z Tryz.call20 (fun _ _ w ee m=>(Ow.lendCallR (RSl.mono (RI.mono _)) 8 (Ow.mono (RSl.mono (RI.mono _)) ee aB) m Z (fun ef eg m eh=>Wk.J hW m eh ed) (fun _ _ _ _ h=>h))) fun a f=>q_p 15 38 Z f (fun _=>AN (f.eval Z) eb (f.eval Z)) fun a f=> ?_
           obtain rfl:=sj dF
           exact ea _ (f.k Z)
          ·refine Aq 12 38 Z f eb fun a f=> ?_
           refine Aq 13 38 Z f eb fun a f=>Aq 14 38 Z f eb fun a f=>q_p 15 38 Z f (fun _=>AO (f.eval Z) eb (f.eval Z)) fun a f=> ?_
           obtain rfl:=sj dF
           exact ea _ (f.k Z)
        ·intro ei
         rcases Ae dD with⟨ej,dD⟩|⟨ej,dD⟩
         ·refine BC (i:=6) (ds:=[ay]) 38 7 AW Z Z Z Z (by kernel_rfl) Z f (Bg f Z Z Z ej) Z Z fun a f=> ?_
          obtain⟨ek,el,dD⟩:=bind_some dD
          refine Ca (i:=7) 38 Z (by kernel_rfl) Z f (Bg f Z Z Z ej) Z Z Tryz.call19 (fun _ _ w em m=>(Ow.lendCallR (RSl.mono (RI.mono _)) 8 (Ow.mono (RSl.mono (RI.mono _)) em aB) m Z (fun en eo m ep=>Wk.A0 m ep el) (fun _ _ _ _ h=>h))) fun a f=>Ak (hw:=wo f ej) 8 38 Z f Z fun a f=>q_p (hw:=wo f ej) 9 38 Z f (fun _=>AL (f.eval Z) (f.eval Z) Cm) fun a f=>q_p 10 38 Z f (fun _=>AN (f.eval Z) ej (f.eval Z)) fun a f=> ?_
          obtain rfl:=sj dD
          exact ei _ (f.k Z)
         ·refine Aq 6 38 Z f ej fun a f=> ?_
          refine Aq 7 38 Z f ej fun a f=>Aq 8 38 Z f ej fun a f=>Aq 9 38 Z f ej fun a f=>q_p 10 38 Z f (fun _=>AO (f.eval Z) ej (f.eval Z)) fun a f=> ?_
          obtain rfl:=sj dD
          exact ei _ (f.k Z)
end Go.Proofs.YtkffjeaefgfnnaaGreatDoor

namespace Go.Sx
theorem Ex (n:Int):IntKind.u32.wrap n=n%4294967296:=by simp[IntKind.wrap,IntKind.signed,IntKind.bits]
def VS (s:Int):Prop:=0≤s∧s<4294967296
def has (s:Int)(v:Nat):Bool:=s.toNat.testBit v
theorem VS.nat {s:Int}(h:VS s):∃n:Nat,s=n∧n<4294967296:=⟨s.toNat,by have:=h.1;omega,by have:=h.1;have:=h.2;omega⟩
theorem VS.zero :VS 0:=⟨by omega,by omega⟩
theorem VS.wrap (n:Int):VS (IntKind.u32.wrap n):=by rw[Ex];exact⟨by omega,by omega⟩
theorem VS.ofNat {n:Nat}(h:n<4294967296):VS (n:Int):=⟨by omega,by omega⟩
theorem Ce (n v:Nat):has (n:Int) v=n.testBit v:=by simp[has]
theorem BQ (v:Nat):has 0 v=false:=by simp[has]
theorem Dr (n:Nat)(h:n<4294967296):(BitVec.ofInt 32 (n:Int)).toNat=n:=by
 rw[BitVec.toNat_ofInt]
 omega
theorem ior_nat {a b:Nat}(ha:a<4294967296)(hb:b<4294967296):ior .u32 (a:Int) (b:Int)=((a|||b:Nat):Int):=by
 have hw:a|||b<4294967296:=Nat.or_lt_two_pow (n:=32) ha hb
 show IntKind.u32.wrap (((BitVec.ofInt 32 (a:Int)|||BitVec.ofInt 32 (b:Int)).toNat:Nat):Int)=_
 rw[BitVec.toNat_or,Dr a ha,Dr b hb,Ex];omega
theorem Fa {a b:Nat}(ha:a<4294967296)(hb:b<4294967296):iand .u32 (a:Int) (b:Int)=((a&&&b:Nat):Int):=by
 have hw:a&&&b<4294967296:=Nat.and_lt_two_pow (n:=32) _ hb
 show IntKind.u32.wrap (((BitVec.ofInt 32 (a:Int)&&&BitVec.ofInt 32 (b:Int)).toNat:Nat):Int)=_
 rw[BitVec.toNat_and,Dr a ha,Dr b hb,Ex];omega
theorem VS.ior (a b:Int):VS (ior .u32 a b):=VS.wrap _
theorem VS.iand (a b:Int):VS (iand .u32 a b):=VS.wrap _
theorem VS.iandNot (a b:Int):VS (iandNot .u32 a b):=VS.wrap _
theorem VS.ishl (a b:Int):VS (ishl .u32 a b):=VS.wrap _
theorem CG {a b:Int}(ha:VS a)(hb:VS b)(v:Nat):has (ior .u32 a b) v=(has a v||has b v):=by
 obtain⟨m,rfl,hm⟩:=ha.nat;obtain⟨n,rfl,hn⟩:=hb.nat
 rw[ior_nat hm hn];simp only[Ce,Nat.testBit_or]
theorem BU {a b:Int}(ha:VS a)(hb:VS b)(v:Nat):has (iand .u32 a b) v=(has a v&&has b v):=by
 obtain⟨m,rfl,hm⟩:=ha.nat;obtain⟨n,rfl,hn⟩:=hb.nat
 rw[Fa hm hn];simp only[Ce,Nat.testBit_and]
theorem Bc {a b:Int}(ha:VS a)(hb:VS b)(v:Nat):has (iandNot .u32 a b) v=(has a v&& !has b v):=by
 obtain⟨m,rfl,hm⟩:=ha.nat;obtain⟨n,rfl,hn⟩:=hb.nat
 have e:iandNot .u32 (m:Int) (n:Int)=(((BitVec.ofInt 32 (m:Int)&&& ~~~(BitVec.ofInt 32 (n:Int))).toNat:Nat):Int):=by
  have hw:=(BitVec.ofInt 32 (m:Int)&&& ~~~(BitVec.ofInt 32 (n:Int))).isLt
  show IntKind.u32.wrap (((BitVec.ofInt 32 (m:Int)&&& ~~~(BitVec.ofInt 32 (n:Int))).toNat:Nat):Int)=_
  rw[Ex];omega
 rw[e,Ce,Ce,Ce]
 have h1:∀i,(BitVec.ofInt 32 (m:Int)).getLsbD i=m.testBit i:=fun i=>by rw[BitVec.getLsbD,Dr m hm]
 have h2:∀i,(BitVec.ofInt 32 (n:Int)).getLsbD i=n.testBit i:=fun i=>by rw[BitVec.getLsbD,Dr n hn]
 rw[←BitVec.getLsbD,BitVec.getLsbD_and,BitVec.getLsbD_not,h1,h2]
 by_cases hv:v<32
 ·simp[hv]
 ·have:m.testBit v=false:=Nat.testBit_lt_two_pow (Nat.lt_of_lt_of_le hm (Nat.pow_le_pow_right (n:=2) (by omega) (show 32≤v by omega)))
  simp[this]
theorem Ek {a:Int}(ha:VS a){v:Nat}(hv:32≤v):has a v=false:=by
 obtain⟨m,rfl,hm⟩:=ha.nat
 rw[Ce]
 exact Nat.testBit_lt_two_pow (Nat.lt_of_lt_of_le hm (Nat.pow_le_pow_right (n:=2) (by omega) hv))
theorem VS.ext {a b:Int}(ha:VS a)(hb:VS b)(h:∀v,v<32→has a v=has b v):a=b:=by
 have:∀v,has a v=has b v:=fun v=>by
  by_cases hv:v<32
  ·exact h v hv
  ·rw[Ek ha (by omega),Ek hb (by omega)]
 obtain⟨m,rfl,hm⟩:=ha.nat;obtain⟨n,rfl,hn⟩:=hb.nat
 congr 1
 apply Nat.eq_of_testBit_eq
 intro v
 have:=this v
 rwa [Ce,Ce] at this
theorem VS.eq_zero {a:Int}(ha:VS a):a=0↔∀v,v<32→has a v=false:=
 ⟨fun h v _=>by rw[h,BQ],fun h=>ha.ext VS.zero (fun v hv=>by rw[h v hv,BQ])⟩
theorem one_eq {v:Nat}(hv:v<32):ishl .u32 1 (v:Int)=((2^v:Nat):Int):=by
 have h:(2:Nat)^v<2^32:=Nat.pow_lt_pow_right (by omega) hv
 have h':(2:Nat)^32=4294967296:=by decide
 rw[h'] at h
 show IntKind.u32.wrap (1*2^(min ((v:Int)).toNat 32))=_
 rw[Ex,show min ((v:Int)).toNat 32=v by simp;omega,Int.one_mul]
 have e:((2^v:Nat):Int)=(2:Int)^v:=by simp
 rw[←e]
 generalize 2^v=p at h ⊢
 omega
theorem BI {v:Nat}(hv:v<32)(u:Nat):has (ishl .u32 1 (v:Int)) u=decide (u=v):=by
 rw[one_eq hv,Ce,Nat.testBit_two_pow]
 simp[eq_comm]
theorem shr_eq (s:Int)(v:Nat)(h:VS s)(hv:v<32):Bz .u32 s (v:Int)=((s.toNat>>>v:Nat):Int):=by
 obtain⟨m,rfl,hm⟩:=h.nat
 show Int.fdiv (m:Int) (2^(min ((v:Int)).toNat 32))=_
 rw[show min ((v:Int)).toNat 32=v by simp;omega]
 have e:((2^v:Nat):Int)=(2:Int)^v:=by simp
 rw[←e,Int.fdiv_eq_ediv_of_nonneg _ (Int.natCast_nonneg _),Nat.shiftRight_eq_div_pow]
 simp
def Al (s:Int):List Int:=((List.range 32).filter (has s)).map Int.ofNat
theorem mem_elems {s:Int}{x:Int}:x∈Al s↔∃v:Nat,v<32∧has s v=true∧x=v:=by
 unfold Al
 rw[List.mem_map]
 constructor
 ·rintro⟨v,hv,rfl⟩
  rw[List.mem_filter,List.mem_range] at hv
  exact⟨v,hv.1,hv.2,rfl⟩
 ·rintro⟨v,h1,h2,rfl⟩
  exact⟨v,List.mem_filter.2 ⟨List.mem_range.2 h1,h2⟩,rfl⟩
theorem AZ {s:Int}(h:VS s){v:Nat}:(v:Int)∈Al s↔has s v=true:=by
 rw[mem_elems]
 constructor
 ·rintro⟨u,_,h2,h3⟩;obtain rfl:v=u:=by omega
  exact h2
 ·intro h2
  refine⟨v,?_,h2,rfl⟩
  by_cases hv:v<32
  ·exact hv
  ·rw[Ek h (by omega)] at h2;cases h2
theorem BR (s:Int):(Al s).length≤32:=by
 unfold Al
 rw[List.length_map]
 exact Nat.le_trans (List.length_filter_le _ _) (by simp)
def Inc (l:List Int):Prop:=l.Pairwise (·<·)
theorem Bv (s:Int):Inc (Al s):=by
 unfold Al Inc
 rw[List.pairwise_map]
 refine List.Pairwise.filter _ ?_
 refine List.Pairwise.imp ?_ (List.pairwise_lt_range (n:=32))
 intro a b h
 show (a:Int)<(b:Int)
 omega
theorem Inc.ext :∀{l l':List Int},Inc l→Inc l'→(∀x,x∈l↔x∈l')→l=l'
 |[],[],_,_,_=>rfl
 |[],y::l',_,_,h=>by have:=(h y).2 (by simp);simp at this
 |x::l,[],_,_,h=>by have:=(h x).1 (by simp);simp at this
 |x::l,y::l',h1,h2,h=>by
  have h1':=List.pairwise_cons.1 h1;have h2':=List.pairwise_cons.1 h2
  have e:x=y:=by
   rcases List.mem_cons.1 ((h x).1 (by simp)) with e|e
   ·exact e
   ·rcases List.mem_cons.1 ((h y).2 (by simp)) with e'|e'
    ·exact e'.symm
    ·have:=h2'.1 x e;have:=h1'.1 y e';omega
  subst e
  have:l=l':=by
   refine Inc.ext h1'.2 h2'.2 (fun z=> ?_)
   constructor
   ·intro hz
    rcases List.mem_cons.1 ((h z).1 (List.mem_cons_of_mem _ hz)) with e|e
    ·have:=h1'.1 z hz;omega
    ·exact e
   ·intro hz
    rcases List.mem_cons.1 ((h z).2 (List.mem_cons_of_mem _ hz)) with e|e
    ·have:=h2'.1 z hz;omega
    ·exact e
  rw[this]
theorem least_spec {s:Int}(h:VS s)(h0:s≠0):∃k:Nat,k<32∧has s k=true∧(∀v,v<k→has s v=false)∧
  iand .u32 s (IntKind.u32.wrap (0-s))=((2^k:Nat):Int)∧(∀v,has (iand .u32 s (IntKind.u32.wrap (s-1))) v=(has s v&& !decide (v=k))):=by
 obtain⟨m,rfl,hm⟩:=h.nat
 have hm0:m≠0:=by omega
 obtain⟨q,hq,hk⟩:=Lib.ctzFrom_spec 32 m (by omega) hm
 have hc:Lib.ctz 32 m=Lib.ctzFrom 32 m:=by unfold Lib.ctz;rw[if_neg hm0]
 obtain⟨hl,_⟩:=Lib.lowest_bit 32 m hm0 hm
 rw[hc] at hl
 generalize Lib.ctzFrom 32 m=k at*
 have hpos:0<2^k:=Nat.pow_pos (by omega)
 have hb:∀v,m.testBit v=(decide (v≥k)&&(2*q+1).testBit (v-k)):=fun v=>by rw[hq,Nat.mul_comm,Nat.testBit_mul_two_pow,Bool.and_comm]
 refine⟨k,hk,?_,fun v hv=> ?_,?_,fun v=> ?_⟩
 ·rw[Ce,hb];simp
 ·rw[Ce,hb];simp;intro hc;omega
 ·have e:IntKind.u32.wrap (0-(m:Int))=((4294967296-m:Nat):Int):=by rw[Ex];omega
  rw[e,Fa hm (by omega)]
  rw[←hl]
 ·have e:IntKind.u32.wrap ((m:Int)-1)=((m-1:Nat):Int):=by rw[Ex];omega
  rw[e,Fa hm (by omega),Ce,Ce,Nat.testBit_and]
  have hm1:m-1=2^k*(2*q)+(2^k-1):=by rw[hq,Nat.mul_add];omega
  have hb1:(m-1).testBit v=if v<k then true else(2*q).testBit (v-k):=by
   rw[hm1,Nat.testBit_two_pow_mul_add _ (by omega)]
   split
   ·rename_i hv;rw[Nat.testBit_two_pow_sub_one];simp[hv]
   ·rfl
  rw[hb1,hb]
  by_cases hv:v<k
  ·simp[hv];intro hc;omega
  ·rw[if_neg hv]
   by_cases hvk:v=k
   ·subst hvk;simp
   ·obtain⟨t,ht⟩:∃t,v-k=t+1:=⟨v-k-1,by omega⟩
    rw[ht,Nat.testBit_succ,Nat.testBit_succ]
    have e1:(2*q+1)/2=q:=by omega
    have e2:2*q/2=q:=by omega
    rw[e1,e2]
    simp[hvk]
theorem elems_least {s t:Int}{k:Nat}(hk:k<32)(h1:has s k=true)(h2:∀v,v<k→has s v=false)(h3:∀v,has t v=(has s v&& !decide (v=k))):
  Al s=(k:Int)::Al t:=by
 refine Inc.ext (Bv s) ?_ (fun x=> ?_)
 ·refine List.pairwise_cons.2 ⟨fun x hx=> ?_,Bv t⟩
  obtain⟨v,hv,h4,rfl⟩:=mem_elems.1 hx
  rw[h3] at h4
  simp at h4
  by_cases hc:v<k
  ·rw[h2 v hc] at h4;simp at h4
  ·omega
 ·rw[List.mem_cons,mem_elems,mem_elems]
  constructor
  ·rintro⟨v,hv,h4,rfl⟩
   by_cases e:v=k
   ·left;omega
   ·right;exact⟨v,hv,by rw[h3,h4];simp[e],rfl⟩
  ·rintro(rfl|⟨v,hv,h4,rfl⟩)
   ·exact⟨k,hk,h1,rfl⟩
   ·rw[h3] at h4;simp at h4
    exact⟨v,hv,h4.1,rfl⟩
theorem Eg :Al 0=[]:=by
 unfold Al
 rw[List.filter_eq_nil_iff.2 (fun v _=>by simp[BQ])];rfl
theorem tz_table :∀k:Nat,k<32→idx tab32 (Bz .u32 (IntKind.u32.wrap (((2^k:Nat):Int)*125613361)) 27)=some (k:Int):=by decide+kernel
end Go.Sx

namespace Go.Sx
def Out (l:List Int)(a0 b0 a b:Int):Prop:=∀i j,a0≤i→i<j→j<b0→¬(a≤i∧j<b)→at' l i≤at' l j
theorem Out.keep {a0 a b b0:Int}{l l':List Int}(h:Rg a b l l')(h0:0≤a0)(ha:a0≤a)(hb:b≤b0)(c:Out l a0 b0 a b):Out l' a0 b0 a b:=by
 intro i j h1 h2 h3 h4
 by_cases hi:a≤i∧i<b
 ·rw[h.out j (by omega) (by omega)]
  exact h.all (fun x=>x≤at' l j) (fun k k1 k2=>c k j (by omega) (by omega) h3 (by omega)) i hi.1 hi.2
 ·rw[h.out i (by omega) (by omega)]
  by_cases hj:a≤j∧j<b
  ·exact h.all (fun x=>at' l i≤x) (fun k k1 k2=>c i k (by omega) (by omega) (by omega) (by omega)) j hj.1 hj.2
  ·rw[h.out j (by omega) (by omega)];exact c i j h1 h2 h3 h4
theorem Em :∀(n:Nat) (l0:List Int) (a0 b0 lim:Int),0≤a0→a0≤b0→b0≤l0.length→l0.length≤1000000→b0-a0≤16→b0-a0≤12+lim→0≤lim→lim≤64→
  (0<a0→∀k,a0≤k→k<b0→at' l0 (a0-1)≤at' l0 k)→b0-a0<n→∃l',D.p1 n l0 a0 b0 lim=some l'∧Rg a0 b0 l0 l'∧Srt l' a0 b0:=by
 intro n
 induction n with
 |zero=>intro l0 a0 b0 lim h1 h2 h3 h4 h5 h6 h7 h8 h9 h10;omega
 |succ n ih=>
  intro l0 a0 b0 lim h1 h2 h3 h4 h5 h6 h7 h8 h9 h10
  unfold D.p1
  refine AH (fun s=>Rg a0 b0 l0 s.1∧Out s.1 a0 b0 s.2.1 s.2.2.1∧a0≤s.2.1∧s.2.1≤s.2.2.1∧s.2.2.1≤b0∧s.2.2.1-s.2.1≤12+s.2.2.2.1∧0≤s.2.2.2.1∧s.2.2.2.1≤64∧(0<s.2.1→∀k,s.2.1≤k→k<s.2.2.1→at' s.1 (s.2.1-1)≤at' s.1 k))
   (fun s=>(s.2.2.1-s.2.1).toNat) (fun r=>Rg a0 b0 l0 r∧Srt r a0 b0) ?_ ?_ ?_
  ·rintro⟨l,a,b,lm,bal,par⟩ ⟨hR,hO,g1,g2,g3,g4,g5,g6,g7⟩
   dsimp only at hR hO g1 g2 g3 g4 g5 g6 g7 ⊢
   have hll:=hR.len
   have fin:∀l',Rg a b l l'→Srt l' a b→Rg a0 b0 l0 l'∧Srt l' a0 b0:=fun l' hr hs=>
    ⟨hR.trans (hr.widen g1 g3 h1),fun i j k1 k2 k3=>by
     by_cases hc:a≤i∧j<b
     ·exact hs i j hc.1 k2 hc.2
     ·exact(hO.keep hr h1 g1 g3) i j k1 k2 k3 hc⟩
   rw[w64 (show-9223372036854775808≤b-a by omega) (by omega)]
   by_cases hs:b-a≤12
   ·obtain⟨l',e,r1,r2⟩:=C7 l a b (by omega) g2 (by omega) (by omega)
    refine⟨.inr l',?_,fin l' r1 r2⟩
    simp only[hs,decide_true,cond_true,e,Option.bind_some]
   ·have hl0:(lm==0)=false:=by simp;omega
    simp only[hs,decide_false,cond_false,hl0]
    refine BA (fun q:List Int×Int=>Rg a b l q.1∧b-a≤13+q.2∧0≤q.2∧q.2≤64) ?_ ?_
    ·cases bal
     ·obtain⟨l1,e,r1⟩:=C2 l a b (by omega) (by omega) (by omega) (by omega) (by omega)
      refine⟨(l1,lm-1),?_,r1,by dsimp only;omega,by dsimp only;omega,by dsimp only;omega⟩
      simp only[Bool.not_false,cond_true,e,Option.bind_some]
      rw[w64 (by omega) (by omega)]
     ·exact⟨(l,lm),rfl,Rg.refl _ _ _,by dsimp only;omega,by dsimp only;omega,by dsimp only;omega⟩
    rintro⟨l1,lm1⟩ ⟨hr1,k1,k2,k3⟩
    dsimp only at hr1 k1 k2 k3 ⊢
    have hl1:=hr1.len
    obtain⟨y,ey,c1,c2,c3⟩:=Dn l1 a b (by omega) (by omega) (by omega) (by omega) (by omega)
    rw[ey,Option.bind_some]
    refine BA (fun q:List Int×Int×Int=>Rg a b l q.1∧a≤q.2.1∧q.2.1<b) ?_ ?_
    ·cases (y.2.1==2)
     ·exact⟨_,rfl,by dsimp only;rw[c1];exact hr1,c2,c3⟩
     ·obtain⟨l2,e2,r2⟩:=Df l1 a b (by omega) (by omega) (by omega) (by omega)
      rw[c1]
      simp only[cond_true,e2,Option.bind_some]
      rw[w64 (show-9223372036854775808≤b-1 by omega) (by omega),w64 (show-9223372036854775808≤y.1-a by omega) (by omega),w64 (show-9223372036854775808≤b-1-(y.1-a) by omega) (by omega)]
      exact⟨_,rfl,hr1.trans r2,by dsimp only;omega,by dsimp only;omega⟩
    rintro⟨l2,p,hint⟩ ⟨hr2,p1,p2⟩
    dsimp only at hr2 p1 p2 ⊢
    have hl2:=hr2.len
    refine BA (fun q:List Int ⊕ List Int=>match q with| .inl q=>q=l2| .inr q=>q=l2∧Srt l2 a b) ?_ ?_
    ·cases ((bal&&par)&&(hint==1))
     ·exact⟨.inl l2,rfl,rfl⟩
     ·obtain⟨y2,e2,d1,d2⟩:=CI l2 a b (by omega) (by omega) (by omega) (by omega) (by omega)
      simp only[cond_true,e2,Option.bind_some,d1]
      cases hy:y2.1
      ·exact⟨.inl l2,rfl,rfl⟩
      ·exact⟨.inr l2,rfl,rfl,d2 hy⟩
    rintro(q|q) hq
    case inr=>
     obtain⟨rfl,hq⟩:=hq
     exact⟨.inr q,rfl,fin q hr2 hq⟩
    dsimp only at hq ⊢
    subst hq
    have hO2:=hO.keep hr2 h1 g1 g3
    have g7':0<a→∀k,a≤k→k<b→at' q (a-1)≤at' q k:=fun ha k m1 m2=>by
     rw[hr2.out (a-1) (by omega) (.inl (by omega))]
     exact hr2.all (fun x=>at' l (a-1)≤x) (g7 ha) k m1 m2
    refine BA (fun c:Bool=>c=true→0<a∧at' q p≤at' q (a-1)) ?_ ?_
    ·by_cases ha:0<a
     ·have r1:idx q (a-1)=some (at' q (a-1)):=AI (by omega) (by omega)
      have r2:idx q p=some (at' q p):=AI (by omega) (by omega)
      rw[w64 (show-9223372036854775808≤a-1 by omega) (by omega)]
      simp only[ha,decide_true,cond_true,r1,r2,Cb,Option.bind_some]
      exact⟨_,rfl,fun h=>⟨by trivial,by simpa using h⟩⟩
     ·simp only[ha,decide_false,cond_false]
      exact⟨_,rfl,fun h=>by cases h⟩
    intro c hc
    cases c
    ·
     simp only[cond_false]
     obtain⟨⟨mid,par',l3⟩,e3,P⟩:=DM q a b p (by omega) (by omega) (by omega) p1 p2
     rw[e3,Option.bind_some]
     obtain⟨hr3,m1,m2,m3,m4⟩:=P
     dsimp only at hr3 m1 m2 m3 m4 ⊢
     have hl3:=hr3.len
     have hO3:=hO2.keep hr3 h1 g1 g3
     have g7'':0<a→∀k,a≤k→k<b→at' l3 (a-1)≤at' l3 k:=fun ha k n1 n2=>by
      rw[hr3.out (a-1) (by omega) (.inl (by omega))]
      exact hr3.all (fun x=>at' q (a-1)≤x) (g7' ha) k n1 n2
     have hR3:Rg a0 b0 l0 l3:=hR.trans ((hr2.trans hr3).widen g1 g3 h1)
     rw[w64 (show-9223372036854775808≤mid-a by omega) (by omega),w64 (show-9223372036854775808≤b-mid by omega) (by omega),w64 (show-9223372036854775808≤mid+1 by omega) (by omega)]
     by_cases hside:mid-a<b-mid
     ·simp only[hside,decide_true,cond_true]
      obtain⟨l4,e4,r4,s4⟩:=ih l3 a mid lm1 (by omega) m1 (by omega) (by omega) (by omega) (by omega) k2 k3 (fun ha k n1 n2=>g7'' ha k n1 (by omega)) (by omega)
      rw[e4,Option.bind_some]
      have hl4:=r4.len
      have em:∀k,mid≤k→at' l4 k=at' l3 k:=fun k hk=>r4.out k (by omega) (.inr hk)
      have lf:∀k,a≤k→k<mid→at' l4 k≤at' l4 mid:=fun k n1 n2=>by
       rw[em mid (Int.le_refl _)];exact r4.all (fun x=>x≤at' l3 mid) m3 k n1 n2
      refine⟨.inl _,rfl,⟨hR3.trans (r4.widen g1 (by omega) h1),?_,by dsimp only;omega,by dsimp only;omega,g3,by dsimp only;omega,k2,k3,?_⟩,by dsimp only;omega⟩
      ·have hO4:=hO3.keep (r4.widen (Int.le_refl a) (by omega) (by omega)) h1 g1 g3
       intro i j n1 n2 n3 n4
       dsimp only at n4 ⊢
       by_cases hin:a≤i∧j<b
       ·by_cases hj:j<mid
        ·exact s4 i j hin.1 n2 hj
        ·have hi:i≤mid:=by omega
         have e1:at' l4 i≤at' l4 mid:=by
          by_cases e:i=mid
          ·rw[e];exact Int.le_refl _
          ·exact lf i hin.1 (by omega)
         have e2:at' l4 mid≤at' l4 j:=by
          by_cases e:j=mid
          ·rw[e];exact Int.le_refl _
          ·rw[em mid (Int.le_refl _),em j (by omega)];exact m4 j (by omega) hin.2
         omega
       ·exact hO4 i j n1 n2 n3 hin
      ·intro _ k n1 n2
       dsimp only at n1 n2 ⊢
       rw[show mid+1-1=mid by omega,em mid (Int.le_refl _),em k (by omega)]
       exact m4 k (by omega) n2
     ·simp only[hside,decide_false,cond_false]
      obtain⟨l4,e4,r4,s4⟩:=ih l3 (mid+1) b lm1 (by omega) (by omega) (by omega) (by omega) (by omega) (by omega) k2 k3 (fun _ k n1 n2=>by rw[show mid+1-1=mid by omega];exact m4 k (by omega) n2) (by omega)
      rw[e4,Option.bind_some]
      have hl4:=r4.len
      have em:∀k,0≤k→k≤mid→at' l4 k=at' l3 k:=fun k h0 hk=>r4.out k h0 (.inl (by omega))
      have rt:∀k,mid<k→k<b→at' l4 mid≤at' l4 k:=fun k n1 n2=>by
       rw[em mid (by omega) (Int.le_refl _)];exact r4.all (fun x=>at' l3 mid≤x) (fun k q1 q2=>m4 k (by omega) q2) k (by omega) n2
      refine⟨.inl _,rfl,⟨hR3.trans (r4.widen (by omega) g3 h1),?_,g1,m1,by dsimp only;omega,by dsimp only;omega,k2,k3,?_⟩,by dsimp only;omega⟩
      ·have hO4:=hO3.keep (r4.widen (by omega) (Int.le_refl b) (by omega)) h1 g1 g3
       intro i j n1 n2 n3 n4
       dsimp only at n4 ⊢
       by_cases hin:a≤i∧j<b
       ·by_cases hi:mid<i
        ·exact s4 i j (by omega) n2 hin.2
        ·have hj:mid≤j:=by omega
         have e1:at' l4 i≤at' l4 mid:=by
          by_cases e:i=mid
          ·rw[e];exact Int.le_refl _
          ·rw[em i (by omega) (by omega),em mid (by omega) (Int.le_refl _)];exact m3 i hin.1 (by omega)
         have e2:at' l4 mid≤at' l4 j:=by
          by_cases e:j=mid
          ·rw[e];exact Int.le_refl _
          ·exact rt j (by omega) hin.2
         omega
       ·exact hO4 i j n1 n2 n3 hin
      ·intro ha k n1 n2
       dsimp only at ha n1 n2 ⊢
       rw[em (a-1) (by omega) (by omega),em k (by omega) (by omega)]
       exact g7'' ha k n1 (by omega)
    ·
     simp only[cond_true]
     obtain⟨hc1,hc2⟩:=hc rfl
     obtain⟨⟨mid,l3⟩,e3,hr3,m1,m2,m3,m4⟩:=CX q a b p (by omega) (by omega) (by omega) p1 p2
     rw[e3,Option.bind_some]
     dsimp only at hr3 m1 m2 m3 m4 ⊢
     have hl3:=hr3.len
     have hO3:=hO2.keep hr3 h1 g1 g3
     have lw:∀k,a≤k→k<b→at' q p≤at' l3 k:=fun k n1 n2=>
      hr3.all (fun x=>at' q p≤x) (fun k q1 q2=>Int.le_trans hc2 (g7' hc1 k q1 q2)) k n1 n2
     refine⟨.inl _,rfl,⟨hR.trans ((hr2.trans hr3).widen g1 g3 h1),?_,by dsimp only;omega,m2,g3,by dsimp only;omega,k2,k3,?_⟩,by dsimp only;omega⟩
     ·intro i j n1 n2 n3 n4
      dsimp only at n4 ⊢
      by_cases hin:a≤i∧j<b
      ·have:=m3 i hin.1 (by omega)
       have:=lw j (by omega) hin.2
       omega
      ·exact hO3 i j n1 n2 n3 hin
     ·intro _ k n1 n2
      dsimp only at n1 n2 ⊢
      have:=m3 (mid-1) (by omega) (by omega)
      have:=m4 k n1 n2
      omega
  ·exact⟨Rg.refl _ _ _,fun i j n1 n2 n3 n4=>by dsimp only at n4;omega,Int.le_refl _,h2,Int.le_refl _,h6,h7,h8,h9⟩
  ·rintro r hr
   exact⟨r,rfl,hr⟩
end Go.Sx

namespace Go.Sx
theorem sorted_spec (l:List Int)(hl:l.length≤16):∃y,D.F1 l=some y∧List.Perm y l∧Srt y 0 y.length:=by
 unfold D.F1 D.Y1 D.c2 D.b2 D.d0 D.v
 rw[if_pos (show l.length≤1000000 by omega)]
 simp only[Option.bind_some]
 rw[wu64 (by omega) (by omega),if_pos (by omega)]
 simp only[Option.bind_some]
 have hk:∀k:Nat,k≤16→k≤12+Lib.bitLen k∧Lib.bitLen k≤64:=by decide
 obtain⟨k1,k2⟩:=hk l.length hl
 have e:((l.length:Int)).toNat=l.length:=by omega
 have hb:=EL
 obtain⟨y,hy,hr,hs⟩:=Em Bs l 0 l.length (Lib.bitLen l.length:Nat) (by omega) (by omega) (by omega) (by omega) (by omega) (by omega) (by omega) (by omega) (fun h=>absurd h (by omega)) (by omega)
 rw[e,hy]
 refine⟨y,rfl,hr.perm,?_⟩
 rw[hr.len];exact hs
end Go.Sx



namespace Go.Sx
def Sh {α:Type}(xs:List α):Prop:=xs.length≤4294967296
theorem EX (a b c:Int):D.c a b c=some (decide (b≤a)&&decide (a≤c)):=rfl
theorem inRange_eq (a b c:Int):D.c1 a b c=some (decide (b≤a)&&decide (a≤c)):=rfl
theorem any_beq (xs:List Int)(n:Int):xs.any (fun x=>x==n)=decide (n∈xs):=by
 rw[Bool.eq_iff_iff,List.any_eq_true];simp
theorem CD (xs:List Int)(n:Int)(h:Sh xs):D.f xs n=some (decide (n∈xs)):=by
 unfold Sh at h
 unfold D.f
 refine(loop_anyb xs.length (fun i=>xs.getD i 0==n) true (fun i hi=> ?_) ?_ rfl rfl).trans ?_
 ·simp only[dlt hi,cond_true,Au hi,Option.bind_some,wi' hi (by omega),Ay hi]
  cases xs[i]==n<;>rfl
 ·simp only[A4,cond_false]
 ·rw[EZ xs (fun x=>x==n) _ (fun i hi=>by rw[Ay hi]),any_beq]
theorem FT (xs:List Int)(n:Int)(h:Sh xs):D.O xs n=some (decide (n∈xs)):=by
 unfold Sh at h
 unfold D.O D.h1
 have e:Ao (σ:=Int) (ρ:=(Unit) ⊕ (Int)) (fun(x_26:Int)=>cond (decide (x_26<(xs.length:Int))) ((idx xs x_26).bind fun e_39=>cond (n==e_39) (some (.inr (.inr x_26))) (some (.inl (IntKind.i64.wrap (x_26+1))))) (some (.inr (.inl ())))) 0=
   some (((List.range xs.length).findSome? (fun i=>if xs.getD i 0==n then some (Sum.inr (i:Int)) else none)).getD (.inl ())):=by
  refine Dt xs.length _ _ (fun i hi=> ?_) ?_
  ·simp only[dlt hi,cond_true,Au hi,Option.bind_some,wi' hi (by omega),Ay hi]
   rw[show (n==xs[i])=(xs[i]==n) from Bool.beq_comm ..]
   cases xs[i]==n<;>rfl
  ·simp only[A4,cond_false]
 rw[e,Option.bind_some]
 cases hf:(List.range xs.length).findSome? (fun i=>if xs.getD i 0==n then some (Sum.inr (i:Int):Unit ⊕ Int) else none) with
 |none=>
  have:n∉xs:=fun hm=>by
   obtain⟨i,hi,e⟩:=List.getElem_of_mem hm
   have:=(List.findSome?_eq_none_iff.1 hf) i (List.mem_range.2 hi)
   rw[Ay hi,e] at this
   simp at this
  simp[this]
 |some r=>
  obtain⟨i,hi,hr⟩:=List.exists_of_findSome?_eq_some hf
  have hi':=List.mem_range.1 hi
  rw[Ay hi'] at hr
  split at hr
  ·rename_i hc
   cases hr
   have:n∈xs:=by rw[←(beq_iff_eq.1 hc)];exact List.getElem_mem _
   simp[this]
  ·cases hr
def SetOf (xs:List Int)(n:Int):Prop:=Inc xs∧∀x∈xs,0≤x∧x<n
theorem SetOf.len :∀{xs:List Int} {n a:Int},Inc xs→(∀x∈xs,a≤x∧x<n)→xs=[]∨(xs.length:Int)≤n-a
 |[],_,_,_,_=> .inl rfl
 |x::xs,n,a,h,hr=>by
  right
  have h':=List.pairwise_cons.1 h
  have hx:=hr x (by simp)
  rcases SetOf.len (a:=x+1) (n:=n) h'.2 (fun y hy=>⟨by have:=h'.1 y hy;omega,(hr y (by simp[hy])).2⟩) with e|e
  ·subst e;simp;omega
  ·simp;omega
theorem SetOf.length_le {xs:List Int}{n:Int}(h:SetOf xs n)(hn:0≤n):(xs.length:Int)≤n:=by
 rcases SetOf.len h.1 h.2 with e|e
 ·subst e;simpa using hn
 ·omega
theorem inc_iff (xs:List Int):Inc xs↔∀i (hi:i+1<xs.length),xs[i]<xs[i+1]:=by
 unfold Inc
 constructor
 ·intro h i hi
  exact List.pairwise_iff_getElem.1 h i (i+1) (by omega) hi (by omega)
 ·intro h
  rw[List.pairwise_iff_getElem]
  intro i j hi hj hij
  have key:∀k,∀hk:i+k+1<xs.length,xs[i]<xs[i+k+1]:=by
   intro k
   induction k with
   |zero=>intro hk;exact h i hk
   |succ k ih=>intro hk;have:=ih (by omega);have:=h (i+k+1) hk;exact Int.lt_trans (ih (by omega)) this
  obtain⟨k,rfl⟩:∃k,j=i+k+1:=⟨j-i-1,by omega⟩
  exact key k hj
def Cr (xs:List Int)(n:Int):Bool:=(List.range xs.length).all fun i=>(decide (0≤xs.getD i 0)&&decide (xs.getD i 0≤n-1))&& !(decide (0<i)&&decide (xs.getD i 0≤xs.getD (i-1) 0))
theorem CO (xs:List Int)(n:Int):Cr xs n=true↔SetOf xs n:=by
 unfold Cr SetOf
 rw[Dz,inc_iff]
 constructor
 ·intro h
  refine⟨fun i hi=> ?_,fun x hx=> ?_⟩
  ·have:=h (i+1) hi
   simp[hi,show i<xs.length by omega] at this
   omega
  ·obtain⟨i,hi,rfl⟩:=List.getElem_of_mem hx
   have:=h i hi
   simp[hi] at this
   omega
 ·rintro⟨h1,h2⟩ i hi
  have h3:=h2 _ (List.getElem_mem hi)
  simp[hi]
  refine⟨by omega,?_⟩
  rcases Nat.eq_zero_or_pos i with h0|h0
  ·exact .inl h0
  ·right
   have:=h1 (i-1) (by omega)
   have e:i-1+1=i:=by omega
   simp only[e] at this
   have e2:xs[i-1]?.getD 0=xs[i-1]:=by rw[List.getElem?_eq_getElem (by omega)];rfl
   rw[e2];exact this
theorem Fi (xs:List Int)(n:Int)(h:Sh xs)(h0:0≤n)(hn:n≤4294967296):D.g0 xs n=some (Cr xs n):=by
 unfold Sh at h
 unfold D.g0
 refine C6 xs.length _ false (fun i hi=> ?_) ?_ rfl rfl
 ·simp only[dlt hi,cond_true,Au hi,Option.bind_some,wi' hi (by omega),Ay hi,inRange_eq]
  rw[w64 (x:=n-1) (by omega) (by omega)]
  cases (decide (0≤xs[i])&&decide (xs[i]≤n-1))
  ·simp
  ·by_cases h0:0<i
   ·have e1:IntKind.i64.wrap ((i:Int)-1)=((i-1:Nat):Int):=by rw[w64 (by omega) (by omega)];omega
    have hd:decide ((0:Int)<(i:Int))=true:=by simp;omega
    simp only[Bool.not_true,cond_false,hd,cond_true,e1,Au (show i-1<xs.length by omega),Option.bind_some,Ay (show i-1<xs.length by omega),h0,decide_true,Bool.true_and]
    cases decide (xs[i]≤xs[i-1])<;>rfl
   ·have hd:decide ((0:Int)<(i:Int))=false:=by simp;omega
    simp only[Bool.not_true,cond_false,hd,Option.bind_some,h0,decide_false,Bool.false_and,Bool.not_false,Bool.and_true,if_true]
 ·simp only[A4,cond_false]
theorem Es (xs:List Int)(n:Int)(h:Sh xs)(h0:0≤n)(hn:n≤4294967296):D.q xs n=some (Cr xs n):=by
 have hh:=h
 unfold Sh at h
 unfold D.q
 by_cases hl:n<xs.length
 ·have:Cr xs n=false:=by
   cases hb:Cr xs n
   ·rfl
   ·have:=((CO xs n).1 hb).length_le h0;omega
  simp[hl,this]
 ·simp only[hl,decide_false,cond_false]
  refine C6 xs.length _ false (fun i hi=> ?_) ?_ rfl rfl
  ·simp only[dlt hi,cond_true,Au hi,Option.bind_some,wi' hi (by omega),Ay hi,EX]
   rw[w64 (x:=n-1) (by omega) (by omega)]
   cases (decide (0≤xs[i])&&decide (xs[i]≤n-1))
   ·simp
   ·by_cases h0:0<i
    ·have e1:IntKind.i64.wrap ((i:Int)-1)=((i-1:Nat):Int):=by rw[w64 (by omega) (by omega)];omega
     have hd:decide ((0:Int)<(i:Int))=true:=by simp;omega
     simp only[Bool.not_true,cond_false,hd,cond_true,e1,Au (show i-1<xs.length by omega),Option.bind_some,Ay (show i-1<xs.length by omega),h0,decide_true,Bool.true_and]
     cases decide (xs[i]≤xs[i-1])<;>rfl
    ·have hd:decide ((0:Int)<(i:Int))=false:=by simp;omega
     simp only[Bool.not_true,cond_false,hd,Option.bind_some,h0,decide_false,Bool.false_and,Bool.not_false,Bool.and_true,if_true]
  ·simp only[A4,cond_false]
def row (g:List (List Int))(v:Nat):List Int:=g.getD v []
theorem row_eq {g:List (List Int)}{v:Nat}(h:v<g.length):row g v=g[v]:=Ay h _
def adj (g:List (List Int))(u v:Nat):Prop:=(v:Int)∈row g u
structure GOk (g:List (List Int)):Prop where
 n1:1≤g.length
 n16:g.length≤16
 rows:∀v,v<g.length→SetOf (row g v) g.length
 irr:∀v,v<g.length→¬adj g v v
 sym:∀u v,u<g.length→adj g u v→adj g v u
theorem GOk.mem {g:List (List Int)}(h:GOk g){u:Nat}(hu:u<g.length){x:Int}(hx:x∈row g u):∃v:Nat,x=v∧v<g.length∧adj g u v:=by
 have:=(h.rows u hu).2 x hx
 refine⟨x.toNat,by omega,by omega,?_⟩
 unfold adj
 rw[show ((x.toNat:Nat):Int)=x by omega];exact hx
theorem GOk.row_len {g:List (List Int)}(h:GOk g){u:Nat}(hu:u<g.length):(row g u).length≤16:=by
 have:=(h.rows u hu).length_le (by omega)
 have:=h.n16
 omega
theorem GOk.lt {g:List (List Int)}(h:GOk g){u v:Nat}(hu:u<g.length)(ha:adj g u v):v<g.length:=by
 obtain⟨w,h1,h2,_⟩:=h.mem hu ha
 omega
def Sh2 (g:List (List Int)):Prop:=Sh g∧∀r∈g,Sh r
theorem Sh2.row {g:List (List Int)}(h:Sh2 g){v:Nat}(hv:v<g.length):Sh (row g v):=by
 rw[row_eq hv];exact h.2 _ (List.getElem_mem hv)
theorem BX {g:List (List Int)}{v:Nat}(h:v<g.length):idx g (v:Int)=some (row g v):=by rw[row_eq h,Au h]
def gB1 (g:List (List Int)):Bool:=(List.range g.length).all fun v=>Cr (row g v) g.length&& !decide ((v:Int)∈row g v)
def gB2 (g:List (List Int)):Bool:=(List.range g.length).all fun v=>(row g v).all fun x=>decide ((v:Int)∈row g x.toNat)
def gB (g:List (List Int)):Bool:=decide (1≤g.length)&&decide (g.length≤16)&&gB1 g&&gB2 g
theorem CU (g:List (List Int)):gB g=true↔GOk g:=by
 unfold gB gB1 gB2
 simp only[Bool.and_eq_true,decide_eq_true_eq,CO,Bool.not_eq_true',decide_eq_false_iff_not,List.all_eq_true,List.mem_range]
 constructor
 ·rintro⟨⟨⟨h1,h2⟩,h3⟩,h4⟩
  refine⟨h1,h2,fun v hv=>(h3 v hv).1,fun v hv=>(h3 v hv).2,fun u v hu ha=> ?_⟩
  have:=h4 u hu v ha
  unfold adj
  simpa using this
 ·intro h
  refine⟨⟨⟨h.n1,h.n16⟩,fun v hv=>⟨h.rows v hv,h.irr v hv⟩⟩,fun v hv x hx=> ?_⟩
  obtain⟨u,rfl,hu,ha⟩:=h.mem hv hx
  have:=h.sym v u hv ha
  simpa [adj] using this
theorem CY (g:List (List Int))(h:Sh2 g):D.u g=some (gB g):=by
 have hl:g.length≤4294967296:=h.1
 unfold D.u D.a
 simp only[Option.bind_some,EX]
 by_cases hn:1≤g.length∧g.length≤16
 ·have e:(decide ((1:Int)≤(g.length:Int))&&decide ((g.length:Int)≤16))=true:=by simp;omega
  simp only[e,Bool.not_true,cond_false]
  refine(Eh g.length (fun v=>Cr (row g v) g.length&& !decide ((v:Int)∈row g v)) (.inl ()) (.inr false) (fun v hv=> ?_) ?_).trans ?_
  rotate_left
  ·simp only[A4,cond_false]
  ·show cond (gB1 g) _ _=_
   have e4:gB g=(gB1 g&&gB2 g):=by unfold gB;simp[hn.1,hn.2]
   rw[e4]
   cases hc:gB1 g with
   |false=>rfl
   |true=>
    rw[cond_true,Bool.true_and]
    refine C6 g.length _ false (fun v hv=> ?_) ?_ rfl rfl
    ·have hset:SetOf (row g v) g.length:=by
      have:=(Dz _ _).1 hc v hv
      simp only[Bool.and_eq_true] at this
      exact(CO _ _).1 this.1
     simp only[dlt hv,cond_true]
     refine(Eh (row g v).length (fun i=>decide ((v:Int)∈row g ((row g v).getD i 0).toNat)) (.inl ()) (.inr false) (fun i hi=> ?_) ?_).trans ?_
     ·have hx:=hset.2 _ (List.getElem_mem hi)
      have e5:idx g (row g v)[i]=some (row g ((row g v)[i]).toNat):=by
       have:=BX (g:=g) (v:=((row g v)[i]).toNat) (by omega)
       rwa [show ((((row g v)[i]).toNat:Nat):Int)=(row g v)[i] by omega] at this
      have hs:=h.row (v:=((row g v)[i]).toNat) (by omega)
      simp only[BX hv,Option.bind_some,dlt hi,cond_true,Au hi,e5,CD _ _ hs,wi (show i<4611686018427387904 by have:=h.row hv;unfold Sh at this;omega),Ay hi]
      cases decide ((v:Int)∈row g ((row g v)[i]).toNat)<;>rfl
     ·simp only[BX hv,Option.bind_some,A4,cond_false]
     ·rw[CH (row g v) (fun x=>decide ((v:Int)∈row g x.toNat)) _ (fun i hi=>by rw[Ay hi]),wi' hv (by omega)]
      cases (row g v).all fun x=>decide ((v:Int)∈row g x.toNat)<;>rfl
    ·simp only[A4,cond_false]
  ·simp only[dlt hv,cond_true,BX hv,Option.bind_some,Es _ _ (h.row hv) (show (0:Int)≤(g.length:Int) by omega) (by omega),CD _ _ (h.row hv),wi' hv (by omega)]
   cases Cr (row g v) g.length
   ·rfl
   ·cases decide ((v:Int)∈row g v)<;>rfl
 ·have e:(decide ((1:Int)≤(g.length:Int))&&decide ((g.length:Int)≤16))=false:=by
   rw[Bool.eq_false_iff];simp;omega
  simp only[e,Bool.not_false,cond_true]
  unfold gB
  congr 1
  symm
  rw[Bool.eq_false_iff]
  simp
  omega
theorem DE (g:List (List Int))(h:Sh2 g):D.U g=some (gB g):=by
 have hl:g.length≤4294967296:=h.1
 unfold D.U
 by_cases hn:1≤g.length∧g.length≤16
 ·have e:(decide ((g.length:Int)<(1:Int))||decide ((16:Int)<(g.length:Int)))=false:=by simp;omega
  simp only[e,cond_false]
  refine(Eh g.length (fun v=>Cr (row g v) g.length&& !decide ((v:Int)∈row g v)) (.inl ()) (.inr false) (fun v hv=> ?_) ?_).trans ?_
  rotate_left
  ·simp only[A4,cond_false]
  ·show cond (gB1 g) _ _=_
   have e4:gB g=(gB1 g&&gB2 g):=by unfold gB;simp[hn.1,hn.2]
   rw[e4]
   cases hc:gB1 g with
   |false=>rfl
   |true=>
    rw[cond_true,Bool.true_and]
    refine C6 g.length _ false (fun v hv=> ?_) ?_ rfl rfl
    ·have hset:SetOf (row g v) g.length:=by
      have:=(Dz _ _).1 hc v hv
      simp only[Bool.and_eq_true] at this
      exact(CO _ _).1 this.1
     simp only[dlt hv,cond_true,BX hv,Option.bind_some]
     refine(Eh (row g v).length (fun i=>decide ((v:Int)∈row g ((row g v).getD i 0).toNat)) (.inl ()) (.inr false) (fun i hi=> ?_) ?_).trans ?_
     ·have hx:=hset.2 _ (List.getElem_mem hi)
      have e5:idx g (row g v)[i]=some (row g ((row g v)[i]).toNat):=by
       have:=BX (g:=g) (v:=((row g v)[i]).toNat) (by omega)
       rwa [show ((((row g v)[i]).toNat:Nat):Int)=(row g v)[i] by omega] at this
      have hs:=h.row (v:=((row g v)[i]).toNat) (by omega)
      simp only[Option.bind_some,dlt hi,cond_true,Au hi,e5,FT _ _ hs,wi (show i<4611686018427387904 by have:=h.row hv;unfold Sh at this;omega),Ay hi]
      cases decide ((v:Int)∈row g ((row g v)[i]).toNat)<;>rfl
     ·simp only[A4,cond_false]
     ·rw[CH (row g v) (fun x=>decide ((v:Int)∈row g x.toNat)) _ (fun i hi=>by rw[Ay hi]),wi' hv (by omega)]
      cases (row g v).all fun x=>decide ((v:Int)∈row g x.toNat)<;>rfl
    ·simp only[A4,cond_false]
  ·simp only[dlt hv,cond_true,BX hv,Option.bind_some,Fi _ _ (h.row hv) (show (0:Int)≤(g.length:Int) by omega) (by omega),FT _ _ (h.row hv),wi' hv (by omega)]
   cases Cr (row g v) g.length
   ·rfl
   ·cases decide ((v:Int)∈row g v)<;>rfl
 ·have e:(decide ((g.length:Int)<(1:Int))||decide ((16:Int)<(g.length:Int)))=true:=by
   simp;omega
  simp only[e,cond_true]
  unfold gB
  congr 1
  symm
  rw[Bool.eq_false_iff]
  simp
  omega
end Go.Sx

namespace Go.Sx
structure OOk (g:List (List Int))(o:List Int):Prop where
 len:o.length=g.length
 rng:∀x∈o,0≤x∧x<g.length
 nd:o.Nodup
def oB (g:List (List Int))(o:List Int):Bool:=(List.range o.length).all fun i=>(decide (0≤o.getD i 0)&&decide (o.getD i 0≤(g.length:Int)-1))&& !decide (o.getD i 0∈o.take i)
theorem mem_take_iff {α:Type}{l:List α}{i:Nat}{x:α}:x∈l.take i↔∃j,∃h:j<l.length,j<i∧l[j]=x:=by
 rw[List.mem_take_iff_getElem]
 constructor
 ·rintro⟨j,h,e⟩;exact⟨j,by omega,by omega,e⟩
 ·rintro⟨j,h,h2,e⟩;exact⟨j,by omega,e⟩
theorem nodup_iff {l:List Int}:l.Nodup↔∀i (hi:i<l.length),l[i]∉l.take i:=by
 constructor
 ·intro h i hi hm
  obtain⟨j,hj,hji,e⟩:=mem_take_iff.1 hm
  have:=(List.pairwise_iff_getElem.1 h) j i hj hi hji
  exact this e
 ·intro h
  refine List.pairwise_iff_getElem.2 (fun i j hi hj hij e=>h j hj (mem_take_iff.2 ⟨i,hi,hij,e⟩))
theorem oB_iff (g:List (List Int))(o:List Int)(hl:o.length=g.length):oB g o=true↔OOk g o:=by
 unfold oB
 rw[Dz]
 constructor
 ·intro h
  refine⟨hl,fun x hx=> ?_,nodup_iff.2 fun i hi=> ?_⟩
  ·obtain⟨i,hi,rfl⟩:=List.getElem_of_mem hx
   have:=h i hi
   rw[Ay hi] at this
   simp at this;omega
  ·have:=h i hi
   rw[Ay hi] at this
   simp at this;exact this.2
 ·intro h i hi
  have h1:=h.rng _ (List.getElem_mem hi)
  have h2:=nodup_iff.1 h.nd i hi
  rw[Ay hi]
  simp[h2];omega
def ordB (g:List (List Int))(o:List Int):Bool:=decide (o.length=g.length)&&oB g o
theorem ordB_iff (g:List (List Int))(o:List Int):ordB g o=true↔OOk g o:=by
 unfold ordB
 by_cases hl:o.length=g.length
 ·simp[hl,oB_iff g o hl]
 ·simp[hl];intro h;exact hl h.len
theorem EI (g:List (List Int))(o:List Int)(h:Sh2 g)(ho:Sh o):D.f0 g o=some (gB g&&ordB g o):=by
 have hl:g.length≤4294967296:=h.1
 have hol:o.length≤4294967296:=ho
 unfold D.f0
 rw[CY g h,Option.bind_some]
 cases hg:gB g
 ·rfl
 ·have hg':=(CU g).1 hg
  simp only[cond_true]
  unfold D.g1 D.a ordB
  simp only[Option.bind_some]
  by_cases hl:o.length=g.length
  ·have e:((o.length:Int) !=(g.length:Int))=false:=by simp[hl]
   simp only[e,cond_false]
   simp only[Option.bind_fun_some,hl,decide_true,Bool.true_and]
   unfold oB
   rw[←hl]
   refine C6 o.length _ false (fun i hi=> ?_) ?_ rfl rfl
   ·have hsh:Sh (o.take i):=by unfold Sh;rw[List.length_take];omega
    simp only[dlt hi,cond_true,Au hi,Option.bind_some,wi' hi (by omega),Ay hi,←hl,D.R0,D.a,EX,sliceD_pre (show i≤o.length by omega),CD _ _ hsh]
    rw[w64 (x:=(o.length:Int)-1) (by omega) (by omega)]
    cases (decide (0≤o[i])&&decide (o[i]≤(o.length:Int)-1))
    ·rfl
    ·cases decide (o[i]∈o.take i)<;>rfl
   ·simp only[A4,cond_false]
  ·have e:((o.length:Int) !=(g.length:Int))=true:=by simp;omega
   simp[e,hl]
theorem sorted_inc {y:List Int}(hs:Srt y 0 y.length)(hn:y.Nodup):Inc y:=by
 unfold Inc
 rw[List.pairwise_iff_getElem]
 intro i j hi hj hij
 have h1:=hs i j (by omega) (by omega) (by omega)
 have h2:=(List.pairwise_iff_getElem.1 hn) i j hi hj hij
 simp[at',hi,hj] at h1
 have:y[i]≠y[j]:=h2
 omega
theorem F9 (g:List (List Int))(o:List Int)(h:Sh2 g)(ho:Sh o):D.v1 g o=some (gB g&&ordB g o):=by
 unfold D.v1
 rw[DE g h,Option.bind_some]
 cases hg:gB g
 ·rfl
 ·have hg':=(CU g).1 hg
  by_cases hl:o.length=g.length
  ·have e:((o.length:Int) !=(g.length:Int))=false:=by simp[hl]
   have h16:=hg'.n16
   obtain⟨y,h1,h2,h3⟩:=sorted_spec o (by omega)
   have hyl:=h2.length_eq
   simp only[Bool.not_true,e,Bool.or_false,cond_false,h1,Option.bind_some,Bool.true_and]
   rw[Fi y _ (by unfold Sh;omega) (by omega) (by omega),Option.bind_some]
   congr 1
   unfold ordB
   simp only[hl,decide_true,Bool.true_and]
   rw[Bool.eq_iff_iff,CO,oB_iff g o hl]
   constructor
   ·rintro⟨k1,k2⟩
    refine⟨hl,fun x hx=>k2 x (h2.mem_iff.2 hx),h2.nodup_iff.1 ?_⟩
    exact List.Pairwise.imp (fun h e=>by omega) k1
   ·intro k
    exact⟨sorted_inc h3 (h2.nodup_iff.2 k.nd),fun x hx=>k.rng x (h2.mem_iff.1 hx)⟩
  ·have e:((o.length:Int) !=(g.length:Int))=true:=by simp;omega
   simp[e,ordB,hl]
theorem BH (v:Nat):D.d (v:Int)=some (ishl .u32 1 (v:Int)):=by
 unfold D.d
 have:decide ((v:Int)<0)=false:=by simp
 rw[this];rfl
theorem impl_one_eq' {x:Int}(h:0≤x):D.d x=some (ishl .u32 1 x):=by
 have:=BH x.toNat
 rwa [show ((x.toNat:Nat):Int)=x by omega] at this
def mk (xs:List Int):Int:=xs.foldl (fun s v=>ior .u32 s (ishl .u32 1 v)) 0
theorem maskOf_eq (xs:List Int)(h:Sh xs)(h0:∀x∈xs,0≤x):D.V xs=some (mk xs):=by
 unfold Sh at h
 unfold D.V
 refine(D9 xs (fun s i=>(s,i)) (fun s v=>ior .u32 s (ishl .u32 1 v)) (fun s=>s) (fun _=>True) 0 trivial (fun s i hi _=>⟨?_,trivial⟩) (fun s _=> ?_)).trans rfl
 ·simp only[dlt hi,cond_true,Au hi,Option.bind_some,wi' hi (by omega),impl_one_eq' (h0 _ (List.getElem_mem hi))]
 ·simp only[A4,cond_false]
theorem Fk :∀(xs:List Int) (s:Int),VS s→VS (xs.foldl (fun s v=>ior .u32 s (ishl .u32 1 v)) s)
 |[],s,h=>h
 |x::xs,s,_=>Fk xs _ (VS.ior _ _)
theorem VS.mk (xs:List Int):VS (mk xs):=Fk xs 0 VS.zero
theorem Fg (u:Nat):∀(xs:List Int) (s:Int),VS s→(∀x∈xs,0≤x∧x<32)→has (xs.foldl (fun s v=>ior .u32 s (ishl .u32 1 v)) s) u=(has s u||decide ((u:Int)∈xs))
 |[],s,_,_=>by simp
 |x::xs,s,hs,h=>by
  have hx:=h x (by simp)
  rw[List.foldl_cons,Fg u xs _ (VS.ior _ _) (fun y hy=>h y (by simp[hy])),CG hs (VS.ishl _ _)]
  obtain⟨k,rfl⟩:∃k:Nat,x=k:=⟨x.toNat,by omega⟩
  rw[BI (by omega)]
  by_cases hu:u=k
  ·subst hu;simp
  ·have:¬(u:Int)=(k:Int):=by omega
   simp[hu,this]
theorem DT {xs:List Int}(h:∀x∈xs,0≤x∧x<32)(u:Nat):has (mk xs) u=decide ((u:Int)∈xs):=by
 unfold mk;rw[Fg u xs 0 VS.zero h,BQ,Bool.false_or]
theorem GOk.mem0 {g:List (List Int)}(hg:GOk g){r:List Int}(hr:r∈g):r.length≤16∧∀x∈r,0≤x∧x<g.length:=by
 obtain⟨v,hv,rfl⟩:=List.getElem_of_mem hr
 rw[←row_eq hv]
 exact⟨hg.row_len hv,(hg.rows v hv).2⟩
theorem C5 (g:List (List Int))(hg:GOk g):D.r g=some (g.map mk):=by
 have h16:=hg.n16
 unfold D.r
 refine(Do g (fun s i=>(s,i)) mk (by omega) (fun s i hi _=> ?_) (fun s=> ?_)).trans rfl
 ·obtain⟨h1,h2⟩:=hg.mem0 (List.getElem_mem hi)
  simp only[dlt hi,cond_true,Au hi,Option.bind_some,wi' hi (by omega),maskOf_eq g[i] (by unfold Sh;omega) (fun x hx=>(h2 x hx).1)]
 ·simp only[A4,cond_false]
theorem FG (xs:List Int)(h:Sh xs):D.B1 xs=some xs:=by
 unfold Sh at h
 unfold D.B1
 rw[makeD_zero (by omega) (by omega),Option.bind_some]
 refine(Do xs (fun s i=>(s,i)) (fun x=>x) h (fun s i hi _=> ?_) (fun s=> ?_)).trans (by simp)
 ·simp only[dlt hi,cond_true,Au hi,Option.bind_some,wi' hi (by omega)]
 ·simp only[A4,cond_false]
theorem wide_eq (xs:List Int)(h:Sh xs):D.K xs=some xs:=by
 unfold Sh at h
 unfold D.K
 rw[makeD_zero (by omega) (by omega),Option.bind_some]
 refine(Do xs (fun s i=>(s,i)) (fun x=>x) h (fun s i hi _=> ?_) (fun s=> ?_)).trans (by simp)
 ·simp only[dlt hi,cond_true,Au hi,Option.bind_some,wi' hi (by omega)]
 ·simp only[A4,cond_false]
theorem least_eq {s:Int}(h:VS s)(h0:s≠0):∃k:Nat,k<32∧D.l0 s=some (k:Int)∧has s k=true∧(∀v,v<k→has s v=false)∧
  (∀v,has (iand .u32 s (IntKind.u32.wrap (s-1))) v=(has s v&& !decide (v=k))):=by
 obtain⟨k,h1,h2,h3,h4,h5⟩:=least_spec h h0
 refine⟨k,h1,?_,h2,h3,h5⟩
 unfold D.l0 D.k1
 have e:(s==0)=false:=by simpa using h0
 simp only[e,cond_false,h4,tz_table k h1,Option.bind_some]
 rw[w64 (by omega) (by omega)]
theorem C9 (s:Int)(h:VS s):D.k s=some (Al s):=by
 unfold D.k
 have key:∀(n:Nat) (x:Int) (l:List Int),VS x→(Al x).length=n→l.length+n≤32→
   Ao (σ:=Int×(List Int)) (ρ:=((List Int))) (fun(s_52:Int×(List Int))=>match s_52 with|(x_55,l_56)=>cond (x_55 !=0) ((D.l0 x_55).bind fun y_88=>(AK l_56 ([y_88]:List Int)).bind fun l_99=>some (.inl ((iand .u32 x_55 (IntKind.u32.wrap (x_55-1))),l_99))) (some (.inr l_56))) (x,l)=some (l++Al x):=by
  intro n
  induction n with
  |zero=>
   intro x l hx hn _
   have e:Al x=[]:=List.eq_nil_of_length_eq_zero hn
   have e0:x=0:=hx.eq_zero.2 fun v hv=>by
    cases hc:has x v
    ·rfl
    ·have:=mem_elems.2 ⟨v,hv,hc,rfl⟩;rw[e] at this;simp at this
   rw[e]
   refine Be ?_
   have:(x !=0)=false:=by simp[e0]
   simp only[this,cond_false,List.append_nil]
  |succ n ih=>
   intro x l hx hn hl
   have h0:x≠0:=by rintro rfl;rw[Eg] at hn;simp at hn
   obtain⟨k,h1,h2,h3,h4,h5⟩:=least_eq hx h0
   have e:=elems_least h1 h3 h4 h5
   have en:(Al (iand .u32 x (IntKind.u32.wrap (x-1)))).length=n:=by rw[e] at hn;simpa using hn
   have hstep:=ih (iand .u32 x (IntKind.u32.wrap (x-1))) (l++[(k:Int)]) (VS.iand _ _) en (by simp;omega)
   have e1:(x !=0)=true:=by simpa using h0
   rw[Bu (s':=(iand .u32 x (IntKind.u32.wrap (x-1)),l++[(k:Int)]))]
   ·rw[hstep,e];simp
   ·simp only[e1,cond_true,h2,Option.bind_some,AU (xs:=l) (ys:=[(k:Int)]) (by simp;omega)]
 have:=key (Al s).length s [] h rfl (by simpa using BR s)
 rw[this];simp
theorem elems_sh (s:Int):Sh (Al s):=by have:=BR s;unfold Sh;omega
theorem DD (s:Int)(h:VS s):D.y s=some (Al s):=by
 unfold D.y
 rw[C9 s h,Option.bind_some,wide_eq _ (elems_sh s)];rfl
theorem results_eq (xs:List Int)(h:Sh xs)(hv:∀s∈xs,VS s):D.N0 xs=some (xs.map Al):=by
 unfold Sh at h
 unfold D.N0
 refine(Do xs (fun s i=>(s,i)) Al h (fun s i hi _=> ?_) (fun s=> ?_)).trans rfl
 ·simp only[dlt hi,cond_true,Au hi,Option.bind_some,wi' hi (by omega),DD _ (hv _ (List.getElem_mem hi))]
 ·simp only[A4,cond_false]
theorem DU (xs:List Int)(h:Sh xs):D.g xs=some xs:=by
 unfold Sh at h
 unfold D.g
 rw[AU (by simpa using h)];rfl
def into (xs:List Int)(n:Int):List Int:=if n∈xs then xs else xs.takeWhile (fun x=>decide (x<n))++n::xs.dropWhile (fun x=>decide (x<n))
theorem mem_into {xs:List Int}{n x:Int}:x∈into xs n↔x=n∨x∈xs:=by
 unfold into
 split
 ·constructor
  ·intro h;exact .inr h
  ·rintro(rfl|h)
   ·assumption
   ·exact h
 ·have e:x∈xs↔x∈xs.takeWhile (fun x=>decide (x<n))++xs.dropWhile (fun x=>decide (x<n)):=by rw[List.takeWhile_append_dropWhile]
  rw[e];simp only[List.mem_append,List.mem_cons]
  constructor
  ·rintro(h|h|h)<;>simp[h]
  ·rintro(h|h|h)<;>simp[h]
theorem Ff {xs:List Int}{n:Int}(h:Inc xs):∀y∈xs.dropWhile (fun x=>decide (x<n)),n≤y:=by
 induction xs with
 |nil=>simp
 |cons x xs ih=>
  have h':=List.pairwise_cons.1 h
  intro y hy
  rw[List.dropWhile_cons] at hy
  split at hy
  ·exact ih h'.2 y hy
  ·rename_i hc
   simp at hc
   rcases List.mem_cons.1 hy with rfl|hy
   ·exact hc
   ·have:=h'.1 y hy;omega
theorem inc_takeWhile {xs:List Int}{n:Int}:∀y∈xs.takeWhile (fun x=>decide (x<n)),y<n:=by
 intro y hy
 induction xs with
 |nil=>simp at hy
 |cons x xs ih=>
  rw[List.takeWhile_cons] at hy
  split at hy
  ·rename_i hc
   rcases List.mem_cons.1 hy with rfl|hy
   ·simpa using hc
   ·exact ih hy
  ·simp at hy
theorem Inc.into {xs:List Int}(h:Inc xs)(n:Int):Inc (into xs n):=by
 unfold Sx.into
 split
 ·exact h
 ·rename_i hn
  unfold Inc
  rw[List.pairwise_append]
  refine⟨List.Pairwise.sublist (List.takeWhile_sublist _) h,List.pairwise_cons.2 ⟨fun y hy=> ?_,List.Pairwise.sublist (List.dropWhile_sublist _) h⟩,fun a ha b hb=> ?_⟩
  ·have h1:=Ff h y hy
   have h2:y≠n:=fun e=>hn (e▸(List.dropWhile_sublist _).mem hy)
   omega
  ·have h1:=inc_takeWhile a ha
   rcases List.mem_cons.1 hb with rfl|hb
   ·exact h1
   ·have:=Ff h b hb;omega
end Go.Sx

namespace Go.Sx
theorem into_len (xs:List Int)(n:Int):(into xs n).length≤xs.length+1:=by
 unfold into
 split
 ·omega
 ·have:(xs.takeWhile (fun x=>decide (x<n))++xs.dropWhile (fun x=>decide (x<n))).length=xs.length:=by rw[List.takeWhile_append_dropWhile]
  simp only[List.length_append,List.length_cons] at this ⊢;omega
theorem De {α:Type}(p:α→Bool):∀(xs:List α),xs.takeWhile p=xs.take (xs.takeWhile p).length∧xs.dropWhile p=xs.drop (xs.takeWhile p).length
 |[]=>by simp
 |x::xs=>by
  rw[List.takeWhile_cons,List.dropWhile_cons]
  cases p x
  ·simp
  ·have:=De p xs
   simp only[if_true,List.length_cons,List.take_succ_cons,List.drop_succ_cons,←this.1,←this.2,and_self]
theorem Dk {α:Type}(p:α→Bool):∀(xs:List α) (i:Nat) (h:i<(xs.takeWhile p).length) (h':i<xs.length),p xs[i]=true
 |x::xs,i,h,h'=>by
  rw[List.takeWhile_cons] at h
  cases hp:p x
  ·rw[hp] at h;simp at h
  ·rw[hp] at h
   cases i with
   |zero=>simpa using hp
   |succ i=>simp only[if_true,List.length_cons] at h;simpa using Dk p xs i (by omega) (by simpa using h')
theorem DI {α:Type}(p:α→Bool):∀(xs:List α) (h:(xs.takeWhile p).length<xs.length),p (xs[(xs.takeWhile p).length])=false
 |x::xs,h=>by
  cases hp:p x
  ·simp[List.takeWhile_cons,hp]
  ·have h2:(xs.takeWhile p).length<xs.length:=by simpa [List.takeWhile_cons,hp] using h
   simpa [List.takeWhile_cons,hp] using DI p xs h2
theorem F3 {α:Type}(p:α→Bool)(xs:List α):(xs.takeWhile p).length≤xs.length:=(List.takeWhile_sublist _).length_le
theorem Ds (xs:List Int)(n:Int)(h:Inc xs)(hl:xs.length≤4294967295):D.i xs n=some (into xs n):=by
 unfold D.i
 generalize hk:(xs.takeWhile (fun x=>decide (x<n))).length=k
 have hkl:k≤xs.length:=by rw[←hk];exact F3 _ _
 have htk:xs.takeWhile (fun x=>decide (x<n))=xs.take k:=by rw[←hk];exact(De _ xs).1
 have hdk:xs.dropWhile (fun x=>decide (x<n))=xs.drop k:=by rw[←hk];exact(De _ xs).2
 refine(Bx (fun i=>((i:Nat):Int)) k (k:Int) rfl (fun i hi=> ?_) ?_).trans ?_
 ·have hi':i<xs.length:=by omega
  have hp:decide (xs[i]<n)=true:=Dk (fun x=>decide (x<n)) xs i (by omega) hi'
  simp only[dlt hi',cond_true,Au hi',Option.bind_some,hp,wi (show i<4611686018427387904 by omega)]
 ·by_cases hlt:k<xs.length
  ·have hp:decide (xs[k]<n)=false:=by
    have:=DI (fun x=>decide (x<n)) xs (by omega)
    simp only[hk] at this;exact this
   simp only[dlt hlt,cond_true,Au hlt,Option.bind_some,hp,cond_false]
  ·obtain rfl:k=xs.length:=by omega
   simp only[A4,cond_false,Option.bind_some]
 ·have hS1:Sh (xs.take k):=by unfold Sh;rw[List.length_take];omega
  have hrest:((Ch xs 0 (k:Int)).bind fun l_135=>(D.g l_135).bind fun y_139=>(AK y_139 ([n]:List Int)).bind fun l_154=>(Ch xs (k:Int) (xs.length:Int)).bind fun l_160=>(AK l_154 l_160).bind fun l_164=>some l_164)=some (xs.take k++n::xs.drop k):=by
   simp only[sliceD_pre hkl,sliceD_post hkl,Option.bind_some,DU _ hS1]
   rw[AU (by simp;omega),Option.bind_some,AU (by simp;omega),Option.bind_some]
   simp
  by_cases hlt:k<xs.length
  ·simp only[dlt hlt,cond_true,Au hlt,Option.bind_some]
   by_cases he:xs[k]=n
   ·have hm:n∈xs:=by rw[←he];exact List.getElem_mem _
    have:(xs[k]==n)=true:=by simp[he]
    simp only[this,cond_true]
    unfold into;rw[if_pos hm]
   ·have:(xs[k]==n)=false:=by simpa using he
    simp only[this,cond_false,hrest]
    unfold into
    rw[htk,hdk,if_neg]
    intro hm
    obtain⟨j,hj,e⟩:=List.getElem_of_mem hm
    have hst:decide (xs[k]<n)=false:=by
     have:=DI (fun x=>decide (x<n)) xs (by omega)
     simp only[hk] at this;exact this
    simp at hst
    rcases Nat.lt_trichotomy j k with h1|h1|h1
    ·have:=Dk (fun x=>decide (x<n)) xs j (by omega) hj
     simp at this;omega
    ·subst h1;exact he e
    ·have:=(List.pairwise_iff_getElem.1 h) k j hlt hj h1
     omega
  ·obtain rfl:k=xs.length:=by omega
   simp only[A4,cond_false,Option.bind_some,hrest]
   unfold into
   rw[htk,hdk,if_neg]
   intro hm
   obtain⟨j,hj,e⟩:=List.getElem_of_mem hm
   have:=Dk (fun x=>decide (x<n)) xs j (by omega) hj
   simp at this;omega
theorem Inc.short {s:List Int}{n:Nat}(h:Inc s)(hr:∀x∈s,0≤x∧x<n):s.length≤n:=by
 rcases SetOf.len h hr with e|e
 ·subst e;simp
 ·omega
end Go.Sx



namespace Go.Sx
structure DK (b:List Int)(i:Int):Prop where
 byte:∀x∈b,0≤x∧x≤255
 len:b.length≤4096
 i0:0≤i
 i1:i≤b.length
theorem iand_u64_le (a:Int)(n:Nat)(hn:n<18446744073709551616):0≤iand .u64 a (n:Int)∧iand .u64 a (n:Int)≤n:=by
 have e:(BitVec.ofInt 64 (n:Int)).toNat=n:=by rw[BitVec.toNat_ofInt];omega
 have h:(BitVec.ofInt 64 a&&&BitVec.ofInt 64 (n:Int)).toNat≤n:=by
  rw[BitVec.toNat_and,e];exact Nat.and_le_right
 have w:∀m:Nat,m<18446744073709551616→IntKind.u64.wrap (m:Int)=m:=fun m hm=>by
  simp[IntKind.wrap,IntKind.signed,IntKind.bits];omega
 have e2:iand .u64 a (n:Int)=(((BitVec.ofInt 64 a&&&BitVec.ofInt 64 (n:Int)).toNat:Nat):Int):=by
  show IntKind.u64.wrap (((BitVec.ofInt 64 a&&&BitVec.ofInt 64 (n:Int)).toNat:Nat):Int)=_
  exact w _ (by omega)
 rw[e2];omega
theorem tmod_rng {x n:Int}(hx:0≤x)(hn:0<n):0≤Int.tmod x n∧Int.tmod x n<n:=
 ⟨Int.tmod_nonneg _ hx,Int.tmod_lt_of_pos _ hn⟩
theorem below_ok {b:List Int}{i:Int}(h:DK b i)(z n:Int)(hn:0<n):∃r i' z',D.o b i z n=some (r,b,i',z')∧0≤r∧r<n∧DK b i':=by
 obtain⟨h1,h2,h3,h4⟩:=h
 unfold D.o
 have hn0:(n==0)=false:=by simp;omega
 have hc:∀y:Int,0≤iand .u64 y 16777215∧iand .u64 y 16777215≤16777215:=fun y=>iand_u64_le y 16777215 (by omega)
 by_cases hi:i<b.length
 ·have hb:=h1 _ (List.getElem_mem (show i.toNat<b.length by omega))
  simp only[hi,decide_true,cond_true,idx_int h3 hi,Option.bind_some,hn0,cond_false]
  have hy:=hc (Bz .u64 (IntKind.u64.wrap ((IntKind.u64.wrap (z*6364136223846793005))+1442695040888963407)) 33)
  generalize iand .u64 (Bz .u64 (IntKind.u64.wrap ((IntKind.u64.wrap (z*6364136223846793005))+1442695040888963407)) 33) 16777215=y at hy ⊢
  rw[w64 (x:=y) (by omega) (by omega),w64 (x:=b[i.toNat]) (by omega) (by omega),w64 (x:=y+b[i.toNat]) (by omega) (by omega),w64 (x:=i+1) (by omega) (by omega)]
  have hr:=tmod_rng (x:=y+b[i.toNat]) (n:=n) (by omega) hn
  exact⟨_,_,_,rfl,hr.1,hr.2,h1,h2,by omega,by omega⟩
 ·simp only[hi,decide_false,cond_false,hn0]
  have hy:=hc (Bz .u64 (IntKind.u64.wrap ((IntKind.u64.wrap (z*6364136223846793005))+1442695040888963407)) 33)
  generalize iand .u64 (Bz .u64 (IntKind.u64.wrap ((IntKind.u64.wrap (z*6364136223846793005))+1442695040888963407)) 33) 16777215=y at hy ⊢
  rw[w64 (x:=y) (by omega) (by omega)]
  have hr:=tmod_rng (x:=y) (n:=n) (by omega) hn
  exact⟨_,_,_,rfl,hr.1,hr.2,h1,h2,h3,h4⟩
theorem Ef {b:List Int}{i:Int}(h:DK b i)(z n:Int)(hn:0<n):∃y,D.o b i z n=some y∧(0≤y.1∧y.1<n∧y.2.1=b∧DK b y.2.2.1):=by
 obtain⟨r,i',z',e,h1,h2,h3⟩:=below_ok h z n hn
 exact⟨_,e,h1,h2,rfl,h3⟩
theorem roll_ok (code:List Int)(seed:Int)(h:∀x∈code,0≤x∧x≤255)(hl:code.length≤4096):∃z,D.E0 code seed=some (code,0,z)∧DK code 0:=by
 unfold D.E0
 refine⟨_,(D9 code (fun s i=>(i,s)) (fun s e=>IntKind.u64.wrap ((IntKind.u64.wrap ((IntKind.u64.wrap (s*1099511628211))+(IntKind.u64.wrap e)))+3)) (fun s=>s) (fun _=>True) _ trivial (fun s i hi _=>⟨?_,trivial⟩) (fun s _=> ?_)).trans rfl,h,hl,by omega,by omega⟩
 ·simp only[dlt hi,cond_true,Au hi,Option.bind_some,wi (show i<4611686018427387904 by omega)]
 ·simp only[A4,cond_false]
theorem l1Empty_eq (n:Nat)(hn:n≤16):D.K0 (n:Int)=some (List.replicate n []):=by
 unfold D.K0
 refine(Bx (fun i=>((i:Int),List.replicate i [])) n (List.replicate n []) (by simp) (fun i hi=> ?_) ?_).trans rfl
 ·simp only[dlt hi,cond_true,wi (show i<4611686018427387904 by omega)]
  rw[AU (by simp;omega),Option.bind_some,←List.replicate_succ']
 ·simp only[A4,cond_false]
theorem row_set {g:List (List Int)}{u v:Nat}{r:List Int}(hu:u<g.length):row (g.set u r) v=if v=u then r else row g v:=by
 unfold row
 by_cases h:v=u
 ·subst h;simp[hu]
 ·rw[if_neg h,List.getD_eq_getElem?_getD,List.getElem?_set_ne (fun e=>h e.symm),←List.getD_eq_getElem?_getD]
theorem l1Link_ok {g:List (List Int)}(hg:GOk g){u v:Nat}(hu:u<g.length)(hv:v<g.length)(huv:u≠v):
  ∃g',D.G g (u:Int) (v:Int)=some g'∧GOk g'∧g'.length=g.length∧∀a b,adj g' a b↔adj g a b∨(a=u∧b=v)∨(a=v∧b=u):=by
 have h16:=hg.n16
 have hru:=hg.rows u hu;have hrv:=hg.rows v hv
 have hlu:=hg.row_len hu;have hlv:=hg.row_len hv
 refine⟨(g.set u (into (row g u) v)).set v (into (row g v) u),?_,?_⟩
 ·unfold D.G
  have e1:row (g.set u (into (row g u) v)) v=row g v:=by rw[row_set hu,if_neg (Ne.symm huv)]
  simp only[BX hu,Option.bind_some,Ds _ _ hru.1 (show (row g u).length≤4294967295 by omega),Int.toNat_natCast]
  rw[BX (show v<(g.set u (into (row g u) v)).length by simpa using hv),e1]
  simp only[Option.bind_some,Ds _ _ hrv.1 (show (row g v).length≤4294967295 by omega)]
 ·have hrow:∀w,row ((g.set u (into (row g u) v)).set v (into (row g v) u)) w=if w=v then into (row g v) u else if w=u then into (row g u) v else row g w:=by
   intro w
   rw[row_set (by simpa using hv),row_set hu]
  have hadj:∀a b,adj ((g.set u (into (row g u) v)).set v (into (row g v) u)) a b↔adj g a b∨(a=u∧b=v)∨(a=v∧b=u):=by
   intro a b
   unfold adj
   rw[hrow]
   by_cases ha:a=v
   ·subst ha
    rw[if_pos rfl,mem_into]
    constructor
    ·rintro(h|h)
     ·exact .inr (.inr ⟨rfl,by omega⟩)
     ·exact .inl h
    ·rintro(h|⟨h,_⟩|⟨_,h⟩)
     ·exact .inr h
     ·exact absurd h.symm huv
     ·exact .inl (by omega)
   ·rw[if_neg ha]
    by_cases ha':a=u
    ·subst ha'
     rw[if_pos rfl,mem_into]
     constructor
     ·rintro(h|h)
      ·exact .inr (.inl ⟨rfl,by omega⟩)
      ·exact .inl h
     ·rintro(h|⟨_,h⟩|⟨h,_⟩)
      ·exact .inr h
      ·exact .inl (by omega)
      ·exact absurd h ha
    ·rw[if_neg ha']
     constructor
     ·exact .inl
     ·rintro(h|⟨h,_⟩|⟨h,_⟩)
      ·exact h
      ·exact absurd h ha'
      ·exact absurd h ha
  refine⟨⟨by simpa using hg.n1,by simpa using h16,fun w hw=> ?_,fun w hw=> ?_,fun a b ha hab=> ?_⟩,by simp,hadj⟩
  ·simp only[List.length_set] at hw ⊢
   rw[hrow]
   split
   ·refine⟨hrv.1.into _,fun x hx=> ?_⟩
    rcases mem_into.1 hx with rfl|hx
    ·omega
    ·exact hrv.2 x hx
   ·split
    ·refine⟨hru.1.into _,fun x hx=> ?_⟩
     rcases mem_into.1 hx with rfl|hx
     ·omega
     ·exact hru.2 x hx
    ·exact hg.rows w hw
  ·simp only[List.length_set] at hw
   rw[hadj]
   rintro(h|⟨h1,h2⟩|⟨h1,h2⟩)
   ·exact hg.irr w hw h
   ·omega
   ·omega
  ·simp only[List.length_set] at ha
   rw[hadj] at hab ⊢
   rcases hab with h|h|h
   ·exact .inl (hg.sym a b ha h)
   ·exact .inr (.inr ⟨h.2,h.1⟩)
   ·exact .inr (.inl ⟨h.2,h.1⟩)
theorem GOk.empty {n:Nat}(h1:1≤n)(h16:n≤16):GOk (List.replicate n []):=by
 have hr:∀v,row (List.replicate n []) v=[]:=fun v=>by
  unfold row
  rw[List.getD_eq_getElem?_getD,List.getElem?_replicate];split<;>rfl
 refine⟨by simpa using h1,by simpa using h16,fun v _=> ?_,fun v _=> ?_,fun u v _ h=> ?_⟩
 ·rw[hr];exact⟨by simp[Inc],by simp⟩
 ·unfold adj;rw[hr];simp
 ·unfold adj at h;rw[hr] at h;simp at h
def EdgeIn (n:Nat)(e:List Int):Prop:=∃a b:Nat,e=[(a:Int),(b:Int)]∧a<b∧b<n
theorem setB_edge {n:Nat}{a b:Nat}(h:a<b)(hb:b<n):Cr [(a:Int),(b:Int)] n=true:=by
 rw[CO]
 refine⟨by simp[Inc];omega,fun x hx=> ?_⟩
 simp at hx
 rcases hx with rfl|rfl<;>omega
theorem GraphOf_ok (n:Nat)(edges:List (List Int))(h1:1≤n)(h16:n≤16)(he:edges.length≤120)(hE:∀e∈edges,EdgeIn n e):
  ∃g,D.h0 (n:Int) edges=some (g,true)∧GOk g∧g.length=n∧∀a b:Nat,adj g a b↔([(a:Int),(b:Int)]∈edges∧a<b)∨([(b:Int),(a:Int)]∈edges∧b<a):=by
 unfold D.h0
 rw[EX]
 have e1:(decide ((1:Int)≤(n:Int))&&decide ((n:Int)≤16))=true:=by simp;omega
 have e2:decide ((120:Int)<(edges.length:Int))=false:=by simp;omega
 simp only[Option.bind_some,e1,e2,Bool.not_true,Bool.or_false,cond_false,l1Empty_eq n h16]
 have key:∀(k i:Nat) (g:List (List Int)),i+k=edges.length→GOk g→g.length=n→(∀a b:Nat,adj g a b↔([(a:Int),(b:Int)]∈edges.take i∧a<b)∨([(b:Int),(a:Int)]∈edges.take i∧b<a))→
   ∃g',Ao (σ:=Int×(List (List Int))) (ρ:=((List (List Int))) ⊕ (((List (List Int)))×Bool)) (fun(s_217:Int×(List (List Int)))=>match s_217 with|(x_220,l_221)=>cond (decide (x_220<(edges.length:Int))) ((idx edges x_220).bind fun e_319=>(cond ((e_319.length:Int) !=2) (some true) ((idx edges x_220).bind fun e_356=>(D.q e_356 (n:Int)).bind fun y_362=>some (!y_362))).bind fun b_354=>cond b_354 (some (.inr (.inr (([]:List (List Int)),false)))) ((idx edges x_220).bind fun e_375=>(idx e_375 0).bind fun e_381=>(idx edges x_220).bind fun e_387=>(idx e_387 1).bind fun e_393=>(D.G l_221 e_381 e_393).bind fun y_401=>some (.inl ((IntKind.i64.wrap (x_220+1)),y_401)))) (some (.inr (.inl l_221)))) ((i:Int),g)=some (.inl g')∧GOk g'∧g'.length=n∧(∀a b:Nat,adj g' a b↔([(a:Int),(b:Int)]∈edges∧a<b)∨([(b:Int),(a:Int)]∈edges∧b<a)):=by
  intro k
  induction k with
  |zero=>
   intro i g hi hg hl ha
   obtain rfl:i=edges.length:=by omega
   rw[List.take_length] at ha
   exact⟨g,Be (by simp only[A4,cond_false]),hg,hl,ha⟩
  |succ k ih=>
   intro i g hi hg hl ha
   have hil:i<edges.length:=by omega
   obtain⟨a,b,eab,hab,hbn⟩:=hE _ (List.getElem_mem hil)
   obtain⟨g',k1,k2,k3,k4⟩:=l1Link_ok hg (u:=a) (v:=b) (by omega) (by omega) (by omega)
   obtain⟨g'',m1,m2⟩:=ih (i+1) g' (by omega) k2 (by omega) (fun c d=>by
    rw[k4,ha,List.take_succ_eq_append_getElem hil]
    simp only[List.mem_append,List.mem_singleton,eab,List.cons.injEq,and_true]
    constructor
    ·rintro((⟨h,h'⟩|⟨h,h'⟩)|⟨rfl,rfl⟩|⟨rfl,rfl⟩)
     ·exact .inl ⟨.inl h,h'⟩
     ·exact .inr ⟨.inl h,h'⟩
     ·exact .inl ⟨.inr ⟨rfl,rfl⟩,hab⟩
     ·exact .inr ⟨.inr ⟨rfl,rfl⟩,hab⟩
    ·rintro(⟨h|⟨h,h2⟩,h'⟩|⟨h|⟨h,h2⟩,h'⟩)
     ·exact .inl (.inl ⟨h,h'⟩)
     ·exact .inr (.inl ⟨by omega,by omega⟩)
     ·exact .inl (.inr ⟨h,h'⟩)
     ·exact .inr (.inr ⟨by omega,by omega⟩))
   refine⟨g'',?_,m2⟩
   rw[Bu (s':=(((i+1:Nat):Int),g'))]
   ·exact m1
   ·have h0:idx [(a:Int),(b:Int)] 0=some (a:Int):=rfl
    have h1':idx [(a:Int),(b:Int)] 1=some (b:Int):=rfl
    have hlen:((([(a:Int),(b:Int)]).length:Int) !=2)=false:=rfl
    simp only[dlt hil,cond_true,Au hil,eab,Option.bind_some,hlen,cond_false,Es [(a:Int),(b:Int)] n (by simp[Sh]) (by omega) (by omega),setB_edge hab hbn,Bool.not_true,h0,h1',k1,wi (show i<4611686018427387904 by omega)]
 obtain⟨g',m1,m2,m3,m4⟩:=key edges.length 0 (List.replicate n []) (by omega) (GOk.empty h1 h16) (by simp) (fun a b=>by
  unfold adj row
  rw[List.getD_eq_getElem?_getD,List.getElem?_replicate]
  split<;>simp)
 refine⟨g',?_,m2,m3,m4⟩
 rw[show ((0:Nat):Int)=0 from rfl] at m1
 rw[m1];rfl
end Go.Sx

namespace Go.Sx
theorem w9Graph_ok {b:List Int}{i:Int}(h:DK b i)(z:Int)(most:Nat)(h1:1≤most)(h8:most≤8):
  ∃y,D.J1 b i z (most:Int)=some y∧(GOk y.1∧y.1.length≤most∧y.2.1=b∧DK b y.2.2.1):=by
 unfold D.J1
 refine BA _ (Ef h z most (by omega)) ?_
 rintro⟨r,b1,i1,z1⟩ ⟨r0,r1,rfl,k1⟩
 dsimp only at r0 r1 k1 ⊢
 refine BA _ (Ef k1 z1 3 (by omega)) ?_
 rintro⟨q,b2,i2,z2⟩ ⟨q0,q1,rfl,k2⟩
 dsimp only at q0 q1 k2 ⊢
 obtain⟨n,en,en'⟩:∃n:Nat,IntKind.i64.wrap (1+r)=(n:Int)∧(n:Int)=1+r:=⟨(1+r).toNat,by rw[w64 (by omega) (by omega)];omega,by omega⟩
 rw[en]
 refine AH (fun s=>∃v:Nat,s.2.1=(v:Int)∧1≤v∧v≤n∧s.2.2.1=b2∧DK b2 s.2.2.2.1∧s.1.length≤8*v+v∧∀e∈s.1,EdgeIn n e) (fun s=>n-s.2.1.toNat)
  (fun r=>r.2.1=b2∧DK b2 r.2.2.1∧r.1.length≤120∧∀e∈r.1,EdgeIn n e) ?_ ?_ ?_
 ·rintro⟨l,_,b2,i,z⟩ ⟨v,rfl,g1,g2,rfl,hk,hl,hE⟩
  dsimp only at hk hl hE ⊢
  by_cases hv:v<n
  ·simp only[dlt hv,cond_true]
   refine AH (fun s=>∃u:Nat,s.2.1=(u:Int)∧u≤v∧s.2.2.1=b2∧DK b2 s.2.2.2.1∧s.1.length≤8*v+v+u∧∀e∈s.1,EdgeIn n e) (fun s=>v-s.2.1.toNat)
    (fun r=>r.2.1=b2∧DK b2 r.2.2.1∧r.1.length≤8*v+v+v∧∀e∈r.1,EdgeIn n e) ?_ ⟨0,rfl,by omega,rfl,hk,by dsimp only;omega,hE⟩ ?_
   ·rintro⟨l,_,b2,i,z⟩ ⟨u,rfl,g3,rfl,hk,hl,hE⟩
    dsimp only at hk hl hE ⊢
    by_cases hu:u<v
    ·simp only[dlt hu,cond_true]
     refine BA _ (Ef hk z 4 (by omega)) ?_
     rintro⟨t,b2,i3,z3⟩ ⟨t0,t1,rfl,hk'⟩
     dsimp only at t0 t1 hk' ⊢
     by_cases hc:t<IntKind.i64.wrap (1+q)
     ·simp only[hc,decide_true,cond_true,wi (show u<4611686018427387904 by omega)]
      rw[AU (by simp;omega),Option.bind_some]
      refine⟨_,rfl,⟨u+1,rfl,by omega,rfl,hk',by simp;omega,fun e he=> ?_⟩,by dsimp only;omega⟩
      rcases List.mem_append.1 he with he|he
      ·exact hE e he
      ·simp at he;subst he;exact⟨u,v,rfl,hu,hv⟩
     ·simp only[hc,decide_false,cond_false,wi (show u<4611686018427387904 by omega)]
      exact⟨_,rfl,⟨u+1,rfl,by omega,rfl,hk',by dsimp only;omega,hE⟩,by dsimp only;omega⟩
    ·obtain rfl:u=v:=by omega
     simp only[A4,cond_false]
     exact⟨_,rfl,rfl,hk,by dsimp only;omega,hE⟩
   ·rintro⟨l,b2,i3,z3⟩ ⟨rfl,hk',hl',hE'⟩
    dsimp only at hk' hl' hE' ⊢
    simp only[wi (show v<4611686018427387904 by omega)]
    exact⟨_,rfl,⟨v+1,rfl,by omega,by omega,rfl,hk',by dsimp only;omega,hE'⟩,by dsimp only;omega⟩
  ·obtain rfl:v=n:=by omega
   simp only[A4,cond_false]
   exact⟨_,rfl,rfl,hk,by dsimp only;omega,hE⟩
 ·exact⟨1,rfl,by omega,by omega,rfl,k2,by simp,by simp⟩
 ·rintro⟨l,b2,i3,z3⟩ ⟨rfl,hk,hl,hE⟩
  dsimp only at hk hl hE ⊢
  obtain⟨g,m1,m2,m3,_⟩:=GraphOf_ok n l (by omega) (by omega) hl hE
  rw[m1,Option.bind_some]
  exact⟨_,rfl,m2,by dsimp only;omega,rfl,hk⟩
theorem insert_perm (o:List Int)(c:Nat)(v:Int):(o.take c++[v]++o.drop c).Perm (v::o):=by
 rw[List.append_assoc]
 have h1:(o.take c++([v]++o.drop c)).Perm (v::(o.take c++o.drop c)):=List.perm_middle
 rwa [List.take_append_drop] at h1
end Go.Sx


