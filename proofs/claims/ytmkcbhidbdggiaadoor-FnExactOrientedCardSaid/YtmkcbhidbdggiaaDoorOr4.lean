/- Parts. -/
import Derived.Test.YtmkcbhidbdggiaaDoorOr3
import Derived.Test.YtmkcbhidbdggiaaDoorProg
import Derived.KernelRfl
set_option linter.unusedVariables false
set_option linter.unusedSimpArgs false
set_option linter.unusedSectionVars false
set_option maxRecDepth 100000
namespace Go.Proofs.YtmkcbhidbdggiaaDoor
open Go Go.Sx
open Go.Proofs.Tryd Go.Proofs.YtmkcbhidbdggiaaDoor.Tryd IntKind
variable {W w : World} {G : GH} {H : List Itm}
theorem kPK :∃f0 f1,PrK prog 99 3 f0 f1:=⟨_,_,⟨underlying99,rfl,rfl,rfl,rfl,by decide,by decide,underlying3,isAgg3,Tryd.stoodInHeld99⟩⟩
theorem kT :SlT prog 107 99 2 16 (.agg #[(iv 0),(iv 0)]):=⟨underlying107,Tryd.t99,by kernel_rfl,by kernel_rfl,by kernel_rfl,by kernel_rfl⟩
theorem kA :Agg prog 99 2:=⟨isAgg99,sizeOf99⟩
abbrev kBx (b:Nat)(x:Int×Int):Itm:=ib b 99 [.int .i64 x.1,.int .i64 x.2]
theorem OwMa.cells {it:Itm}{v:Value}{M:ArM}(h:OwMa it v M):v.cells= #[v]:=by
 obtain⟨b,es,clock,rfl,rfl,_⟩:=h;rfl
set_option maxHeartbeats 2000000 in
theorem Wk.N {v0:Value}{x0:LI}{x:Int×Int}(hW:C9 W)(m:Mem W G w H)(h0:RSl (RI .u32) G v0 x0){y:ArM}(hd:D.N x0 x=some y):
  Calls prog 141 #[v0,kyV x] w (Res W G H (λ_ Ho v=>∃i0:Itm,Ho=[i0]∧OwMa i0 v y)):=by
 refine Ay (args:=[v0,kyV x]) (N:=57) [.tmp 4] func141 Z Z (lb Z) Z λa f=> ?_
 unfold D.N at hd
 obtain⟨f0,f1,kpk⟩:=kPK
 have hmp:=underlying128
 have hz:=zeroValue3
 refine Af ?_
 refine BO (cs:=[.int .i64 x.1,.int .i64 x.2]) m f Z Z Z λbx w a m f=>Ac f Z λa f=>Aa (Ag ?_)
 refine AL (λa w=>∃(G':GH) (itM itL:Itm) (vM vL:Value),GLe G G'∧Fr a 57 [(0,v0),(5,vM),(6,vL)]∧Mem W G' w (itM::itL::kBx bx x::H)∧OwMa itM vM [(x,0)]∧OwR P2 99 G' itL vL [x]) ?_ ?_
 ·skip
  refine A9 7 AN (by kernel_rfl) m ?_
  refine CW (i:=1) (ds:=[.int .i64 x.1,.int .i64 x.2]) 7 0 kA Z Z Z Z (by kernel_rfl) Z f Z Z Z λa f=>CW (i:=4) (ds:=[.int .i64 x.1,.int .i64 x.2]) 7 0 kA Z Z Z Z (by kernel_rfl) Z f Z Z Z λa f=>q_two (i:=0) (j:=5) (l1:= #[true,true,false,false,true,false,false,false]) (l2:= #[false,true,false,false,true,true,false,false]) Z Z (by kernel_rfl) Z Z (λG1 w hl1 m K K=> ?_) λG1 w hl1 m K K=> ?_
  ·skip
   refine l_makeMa m f Z λitM vM w a m oM f=>Aa ?_
   refine K G1 [itM] _ _ gr m ?_
   refine q_two (i:=2) (j:=5) (l1:= #[true,true,true,false,true,false,false,false]) (l2:= #[true,true,false,false,true,true,false,false]) Z Z (by kernel_rfl) Z Z (λG2 w hl2 m K K=> ?_) λG2 w hl2 m K K=> ?_
   ·skip
    refine l_insMa kpk 0 m oM Z hmp f Z Z Z Z λitM w m oM=>Aa ?_
    refine K G2 [itM] _ _ gr m ?_
    refine Ah 3 7 Z f Z λa f=>q_p 6 7 Z f (λ_=>Ce (f.e Z)) λa f=>CG 5 Z λG3 w hl3 m K K=>Dv (E:=P2) (y:=x) (cs:=[.int .i64 x.1,.int .i64 x.2]) m kT f Z Z Z (lb Z) λitL vL w a m oL f=>Aa ?_
    refine K G3 [itL,itM] _ _ gr m ?_
    refine AY λG4 w hl4 m=> ?_
    have oL:=OwR.mono trivial hl4 oL
    refine Ac f Z λa f=>Aa ?_
    have m:=m.fr 1
    exact⟨G4,itM,itL,vM,vL,(gt hl1 (gt hl2 (gt hl3 hl4))),f.k Z,m,oM,oL⟩
   ·skip
    refine Dv (E:=P2) (y:=x) (cs:=[.int .i64 x.1,.int .i64 x.2]) m kT f Z Z Z (lb Z) λitL vL w a m oL f=>Aa ?_
    refine K G2 [itL,itM] _ _ gr m ?_
    refine CG 2 Z λG5 w hl5 m K K=> ?_
    have oL:=OwR.mono trivial hl5 oL
    refine l_insMa kpk 1 m oM Z hmp f Z Z Z Z λitM w m oM=>Aa ?_
    refine K G5 [itL,itM] _ _ gr m ?_
    refine Ah 3 7 Z f Z λa f=>q_p 6 7 Z f (λ_=>Ce (f.e Z)) λa f=>AY λG6 w hl6 m=> ?_
    have oL:=OwR.mono trivial hl6 oL
    refine Ac f Z λa f=>Aa ?_
    have m:=m.fr 1
    exact⟨G6,itM,itL,vM,vL,(gt hl1 (gt hl2 (gt hl5 hl6))),f.k Z,m,oM,oL⟩
  ·skip
   refine Dv (E:=P2) (y:=x) (cs:=[.int .i64 x.1,.int .i64 x.2]) m kT f Z Z Z (lb Z) λitL vL w a m oL f=>Aa ?_
   refine K G1 [itL] _ _ gr m ?_
   refine CG 0 Z λG7 w hl7 m K K=> ?_
   have oL:=OwR.mono trivial hl7 oL
   refine l_makeMa m f Z λitM vM w a m oM f=>Aa ?_
   refine K G7 [itM,itL] _ _ gr m ?_
   refine CG 2 Z λG8 w hl8 m K K=> ?_
   have oL:=OwR.mono trivial hl8 oL
   refine l_insMa kpk 0 m oM Z hmp f Z Z Z Z λitM w m oM=>Aa ?_
   refine K G8 [itM,itL] _ _ gr m ?_
   refine Ah 3 7 Z f Z λa f=>q_p 6 7 Z f (λ_=>Ce (f.e Z)) λa f=>AY λG9 w hl9 m=> ?_
   have oL:=OwR.mono trivial hl9 oL
   refine Ac f Z λa f=>Aa ?_
   exact⟨G9,itM,itL,vM,vL,(gt hl1 (gt hl7 (gt hl8 hl9))),f.k Z,m,oM,oL⟩
 ·skip
  clear f m
  rintro a w ⟨G1,itM,itL,vM,vL,hl1,f,m,oM,oL⟩
  refine Ag (Af ?_)
  refine Ac f Z λa f=>Aa ?_
  refine AL (λa w=>∃(G':GH) (itM itL:Itm) (vM vL:Value),GLe G G'∧Fr a 57 [(5,vM)]∧Mem W G' w (itM::itL::kBx bx x::H)∧OwMa itM vM y) ?_ ?_
  ·skip
   refine Ak ?_
   refine AK (fun(s:ArM×ArL×Int) a w=>∃(G':GH) (itM itL:Itm) (vM vL:Value),GLe G G'∧Fr a 57 [(0,v0),(5,vM),(6,vL),(7,.int .i64 s.2.2)]∧Mem W G' w (itM::itL::kBx bx x::H)∧OwMa itM vM s.1∧OwR P2 99 G' itL vL s.2.1) hd ⟨G1,itM,itL,vM,vL,hl1,f.k Z,m,oM,oL⟩ ?_
   clear hd f m oM oL
   rintro⟨M,L,i⟩ ro hs hq a w ⟨G2,itM,itL,vM,vL,hl2,f,m,oM,oL⟩
   have h0:=rd1 hl2 h0
   unfold D.S0 at hs
   dsimp only at hs oM oL f
   refine Ag (Af ?_)
   refine Ab f Z λa f=>Ab f Z λa f=>D6 1 m oL Z underlying107 f Z Z λa f=>Ai f Z Z AI λa f=>Aa ?_
   rcases Ae hs with⟨hc,hs⟩|⟨hc,hs⟩
   ·skip
    refine Am f Z hc ?_
    refine An ?_
    have⟨xi,hxi,hs⟩:=bind_some hs
    have⟨ys,hys,hs⟩:=bind_some hs
    have⟨qq,hqq,hs⟩:=bind_some hs
    obtain rfl:=sj hs
    refine Ag (Ak (Af ?_))
    refine Ab f Z λa f=>Ab f Z λa f=>Ab f Z λa f=>Bl 1 m oL Z kT f Z Z Z hxi λp a ha f=>EJ (C:=P2) [.int .i64 xi.1,.int .i64 xi.2] 1 m oL Z kA f Z Z ha hxi Z λa f=>A1 f Z call110 (Wk.U hW m h0 hys) λv3 G3 Ho3 w hl3 m hQ3 a f=> ?_
    obtain⟨vY,itY,rfl,rfl,oY⟩:=hQ3
    have oL:=OwR.mono trivial hl3 oL
    refine D6 0 m oY Z underlying107 f Z Z λa f=>Ab f Z λa f=>Aa ?_
    refine AL (λa w=>∃(G':GH) (itM itL:Itm) (vM vL:Value),GLe G G'∧Fr a 57 [(0,v0),(5,vM),(6,vL),(7,.int .i64 i)]∧Mem W G' w (itM::itL::kBx bx x::H)∧OwMa itM vM qq.1∧OwR P2 99 G' itL vL qq.2) ?_ ?_
    ·skip
     refine Ak ?_
     have m:=m.fr 2
     have m:=m.fr 2
     refine AK (fun(s:ArM×ArL×Int) a w=>∃(G':GH) (itM itL:Itm) (vM vL:Value),GLe G3 G'∧Fr a 57 [(0,v0),(5,vM),(6,vL),(7,.int .i64 i),(28,vY),(29,.int .i64 (ys.length:Int)),(30,.int .i64 s.2.2)]∧Mem W G' w (itM::itL::itY::kBx bx x::H)∧OwMa itM vM s.1∧OwR P2 99 G' itL vL s.2.1) hqq ⟨G3,itM,itL,vM,vL,gr,f.k Z,m,oM,oL⟩ ?_
     clear hqq f m oM oL ha hxi
     rintro⟨M,L,j⟩ ro hs hqi a w ⟨G4,itM,itL,vM,vL,hl4,f,m,oM,oL⟩
     have oY:=OwR.mono trivial hl4 oY
     unfold D.M0 at hs
     dsimp only at hs oM oL f
     refine Af ?_
     refine Ai f Z Z AI λa f=>Aa (Ag ?_)
     rcases Ae hs with⟨hc,hs⟩|⟨hc,hs⟩
     ·skip
      refine Am f Z hc ?_
      refine An ?_
      have⟨yj,hyj,hs⟩:=bind_some hs
      refine Ag (Ak (Af ?_))
      refine Bl 2 m oY Z kT f Z Z Z hyj λp a ha f=>EJ (C:=P2) [.int .i64 yj.1,.int .i64 yj.2] 2 m oY Z kA f Z Z ha hyj Z λa f=>BT (cs:=[(iv 0),(iv 0)]) zeroValue99 m f Z Z λb9 w a m f=>Bb 0 0 (ds:=[.int .i64 yj.1,.int .i64 yj.2]) m sizeOf99 f Z Z Z (Ap Z (Ap Z AG)) Z (lb Z) Z λw m=>AC ?_
      refine Ab f Z λa f=>Bp 0 0 (ds:=[.int .i64 yj.1,.int .i64 yj.2]) m kA f Z Z Z Z Z λa f=>D4 kpk 1 m oM Z hmp hz f Z Z Z λa f=>Ab f Z λa f=>l_o f (A3 (f.e Z) Z) λa f=>l_o f (A3 (f.e Z) Z) λa f=>Ac f Z λa f=>Ac f Z λa f=>AC ?_
      refine Ab f Z λa f=>l_o f (Bt (f.e Z)) λa f=>Aa ?_
      rcases Ae hs with⟨hc2,hs⟩|⟨hc2,hs⟩
      ·skip
       refine Am f Z hc2 ?_
       have⟨z,hz2,hs⟩:=bind_some hs
       have⟨l',hl',hs⟩:=bind_some hs
       obtain rfl:=sj hs
       have hno:Bi M yj=none:=by
        cases hh:Bi M yj with
        |none=>rfl
        |some _=>rw[hh] at hc2;cases hc2
       refine Ag ?_
       refine AL (λa w=>∃(G':GH) (itM:Itm),GLe G4 G'∧Fr a 57 [(0,v0),(5,vM),(6,vL),(7,.int .i64 i),(9,.pointer (some ⟨b9,0,none⟩)),(28,vY),(29,.int .i64 (ys.length:Int)),(30,.int .i64 j)]∧Mem W G' w (kBx b9 yj::itM::itL::itY::kBx bx x::H)∧OwMa itM vM (M++[(yj,i64.wrap ((Bi M z).getD 0+1))])) ?_ ?_
       ·skip
        refine A9 9 AN (by kernel_rfl) m ?_
        refine Ah 0 9 Z f Z λa f=>CW (i:=1) (ds:=[.int .i64 yj.1,.int .i64 yj.2]) 9 0 kA Z Z Z Z (by kernel_rfl) Z f Z Z Z λa f=>Ah 2 9 Z f Z λa f=>Ah 3 9 Z f Z λa f=>Ah 4 9 Z f Z λa f=>Aq (i:=5) (listed':= #[true,true,true,true,true,true,false,false,false,false]) (C:=P2) 9 2 m oL Z kT hz2 Z (by kernel_rfl) Z f Z Z Z Z λp a ha f=>Ar (i:=6) (listed':= #[true,true,true,true,true,true,true,false,false,false]) (C:=P2) [.int .i64 z.1,.int .i64 z.2] 9 2 oL Z kA ha hz2 Z Z (by kernel_rfl) Z f Z Z Z λa f=>q_lookupMa (i:=7) (listed':= #[true,true,true,true,true,true,true,true,false,false]) 9 kpk 1 oM Z hmp hz Z (by kernel_rfl) Z f Z Z Z Z λa f=>q_p 8 9 Z f (λ_=>AR (f.e Z) (f.e Z) Az) λa f=>AY λG5 w hl5 m=>l_putMa kpk 1 m oM Z hmp f Z Z Z hno λitM' w m oM'=> ?_
        refine Aa ?_
        exact⟨G5,itM',hl5,f.k Z,m,oM'⟩
       ·skip
        clear f m oM
        rintro a w ⟨G5,itM,hl5,f,m,oM⟩
        have oL:=OwR.mono trivial hl5 oL
        refine Ao ?_
        refine Ab f Z λa f=>Bp 0 0 (ds:=[.int .i64 yj.1,.int .i64 yj.2]) m kA f Z Z Z Z Z λa f=>Dv (E:=P2) (y:=yj) (cs:=[.int .i64 yj.1,.int .i64 yj.2]) m kT f Z Z Z (lb Z) λitN vN w a m oN f=>Et (E:=P2) (z:= .agg #[(iv 0),(iv 0)]) 3 0 m oL Z oN Z (by simp) kT Z (by decide) f Z Z Z hl' λitL vL w a m oL f=>Ac f Z λa f=>Aa (Ao ?_)
        refine Ai f Z Z Az λa f=>Ab f Z λa f=>Aa ?_
        exact⟨_,Z,G5,itM,itL,vM,vL,gt hl4 hl5,f.k Z,m.tail.tail,oM,oL⟩
      ·skip
       refine Aj f Z hc2 ?_
       refine An ?_
       obtain rfl:=sj hs
       refine Ao ?_
       refine Ai f Z Z Az λa f=>Ab f Z λa f=>Aa ?_
       exact⟨_,Z,G4,itM,itL,vM,vL,hl4,f.k Z,m.tail,oM,oL⟩
     ·skip
      refine Aj f Z hc ?_
      refine AE Z ?_
      obtain rfl:=sj hs
      obtain rfl:=hqi _ rfl
      have m:=m.eraseAt 2
      exact⟨G4,itM,itL,vM,vL,gt hl2 (gt hl3 hl4),f.k Z,m,oM,oL⟩
    ·skip
     clear f m oM oL oY ha
     rintro a w ⟨G4,itM,itL,vM,vL,hl4,f,m,oM,oL⟩
     refine Ao ?_
     refine Ab f Z λa f=>Ai f Z Z Az λa f=>Ac f Z λa f=>Aa ?_
     exact⟨_,Z,G4,itM,itL,vM,vL,hl4,f.k Z,m,oM,oL⟩
   ·skip
    refine Aj f Z hc ?_
    refine AE Z ?_
    obtain rfl:=sj hs
    obtain rfl:=hq _ rfl
    exact⟨G2,itM,itL,vM,vL,hl2,f.k Z,m,oM⟩
  ·skip
   clear f m oM oL
   rintro a w ⟨G2,itM,itL,vM,vL,hl2,f,m,oM⟩
   refine Af ?_
   refine Ab f Z λa f=>Ac f Z λa f=>Aa ?_
   refine As ?_
   have m:Mem W G2 w (itM::H):=(m.eraseAt 1).eraseAt 1
   exact⟨[vM],f.g Z,f.d,G2,[itM],hl2,m,itM,Z,oM⟩
end Go.Proofs.YtmkcbhidbdggiaaDoor

set_option maxRecDepth 100000
namespace Go.Proofs.YtmkcbhidbdggiaaDoor
open Go Go.Sx
open Go.Proofs.Tryd Go.Proofs.YtmkcbhidbdggiaaDoor.Tryd IntKind
variable {W w : World} {G : GH} {H : List Itm}
theorem Wk.H0 {aa ab:Int}(m:Mem W G w (H)){y:Int×Int}(hd:D.H0 aa ab=some y):
  Calls prog 111 #[(.agg #[(iv aa),(iv ab)])] w (Res W G H (λ_ Ho v=>Ho=[]∧v=(.agg #[(iv y.1),(iv y.2)]))):=by
 refine Ay (args:=[(.agg #[(iv aa),(iv ab)])]) (N:=8) [.cell 2 99] func111 Z Z (lb Z) Z λa f=> ?_
 unfold D.H0 at hd
 refine Af ?_
 refine BO (cs:=[(iv aa),(iv ab)]) m f Z Z Z λac w a m f=>BT (cs:=[(iv 0),(iv 0)]) zeroValue99 m f Z Z λad w a m f=>AC ?_
 refine Bk underlying99 Z sizeOf3 f Z λa f=>AO 1 1 m Pl3 f Z Z Z Z λa f=>Bk underlying99 Z sizeOf3 f Z λa f=>AO 1 0 m Pl3 f Z Z Z Z λa f=> ?_
 have ae:∀w,(Instr.build 99 #[(0,(iv ab)),(1,(iv aa))]).run prog w= .ok (.agg #[(iv ab),(iv aa)]) w:=by intro w;simp[Instr.build,Instr.fill,Dk,C5,Cs,CH,Cg,Dm]
 refine DQ f Z Z ae λa f=>Bb 0 0 (ds:=[(iv ab),(iv aa)]) m sizeOf99 f Z Z Z (Ap Z (Ap Z AG)) Z (lb Z) Z λw m=>Aa ?_
 refine As ?_
 have af:=rr_agg (P:=prog) 0 m A6 f (s:=2) rfl rfl rfl
 have m:Mem W G w H:=Mem.drop (H':=[ib ad 99 [(iv ab),(iv aa)],ib ac 99 [(iv aa),(iv ab)]]) m
 obtain rfl:=sj hd
 exact⟨[(.agg #[(iv ab),(iv aa)])],⟨af,trivial⟩,f.d,_,[],gr,m,Z,Z⟩
theorem Wk.l0 {v0:Value}{it0:Itm}{x0:LI}{x1 x2:Int}(m:Mem W G w (it0::H))(o0:Ow (RI .u32) 63 G it0 v0 x0){y:(LI)}(hd:D.l0 x0 x1 x2=some y):
  Calls prog 142 #[v0,(iv x1),(iv x2)] w (Res W G H (λG' Ho _=>∃i0:Itm,Ho=[i0]∧Ow (RI .u32) 63 G' i0 v0 y)):=by
 refine Ay (args:=[v0,(iv x1),(iv x2)]) (N:=22) [] func142 Z Z (lb Z) Z λa f=> ?_
 unfold D.l0 at hd
 refine Ag ?_
 refine A9 8 AN (by kernel_rfl) m ?_
 refine Ah 0 8 Z f Z λa f=>Ah 1 8 Z f Z λa f=> ?_
 have⟨aa,ab,hd⟩:=bind_some hd
 refine q_oa 2 8 0 m o0 T60 ab Z f Z Z λac a ad f=>q_ol 3 8 0 o0 Pl63 ad ab Z f Z λae a af f=> ?_
 subst af
 refine Ah 4 8 Z f Z λa f=> ?_
 have⟨ag,ah,hd⟩:=bind_some hd
 refine C2 (i:=5) 8 Z (by kernel_rfl) Z f Z Z Z call74 (λ_ _ w ai m=>Wk.b m ah) λa f=>q_p 6 8 Z f (λ_=>AR (f.e Z) (f.e Z) De) λa f=> ?_
 have⟨aj,ak,hd⟩:=bind_some hd
 refine q_oa 7 8 0 m o0 T60 ak Z f Z Z λal a am f=>AY λan w ao m=> ?_
 have o0:=od1 ao o0
 refine B2 0 m o0 Z sizeOf63 f Z Z am ak Z Z Z λap w m aq=>Aa ?_
 refine A9 8 AN (by kernel_rfl) m ?_
 refine Ah 0 8 Z f Z λa f=>Ah 1 8 Z f Z λa f=> ?_
 have⟨ar,au,hd⟩:=bind_some hd
 refine q_oa 2 8 0 m aq T60 au Z f Z Z λav a aw f=>q_ol 3 8 0 aq Pl63 aw au Z f Z λax a ay f=> ?_
 subst ay
 refine Ah 4 8 Z f Z λa f=> ?_
 have⟨az,aA,hd⟩:=bind_some hd
 refine C2 (i:=5) 8 Z (by kernel_rfl) Z f Z Z Z call74 (λ_ _ w aB m=>Wk.b m aA) λa f=>q_p 6 8 Z f (λ_=>AR (f.e Z) (f.e Z) De) λa f=> ?_
 have⟨aC,aD,hd⟩:=bind_some hd
 refine q_oa 7 8 0 m aq T60 aD Z f Z Z λaE a aF f=>AY λaG w aH m=> ?_
 have aq:=od1 aH aq
 refine B2 0 m aq Z sizeOf63 f Z Z aF aD Z Z Z λaI w m aJ=>Aa ?_
 obtain rfl:=sj hd
 exact⟨[],trivial,f.d,_,[aI],(gt ao aH),m,_,Z,aJ⟩
end Go.Proofs.YtmkcbhidbdggiaaDoor

set_option maxRecDepth 100000
namespace Go.Proofs.YtmkcbhidbdggiaaDoor
open Go Go.Sx
open Go.Proofs.Tryd Go.Proofs.YtmkcbhidbdggiaaDoor.Tryd IntKind
variable {W w : World} {G : GH} {H : List Itm}
theorem oT :SlT prog 60 63 1 4 (.int .u32 0):=⟨underlying60,Tryd.t63,by kernel_rfl,by kernel_rfl,by kernel_rfl,by kernel_rfl⟩
theorem oPl :BM prog 63:=isAgg63
theorem oPi :BM prog 3:=isAgg3
set_option maxHeartbeats 4000000 in
theorem Wk.r0 {v0:Value}{x0:LI}(hW:C9 W)(m:Mem W G w H)(h0:RSl (RI .u32) G v0 x0){y:LI}(hd:D.r0 x0=some y):
  Calls prog 93 #[v0] w (Res W G H (λG' Ho v=>∃r0:Value,∃i0:Itm,Ho=[i0]∧r0=v∧Ow (RI .u32) 63 G' i0 r0 y∧Dr r0=y.isEmpty)):=by
 refine Ay (args:=[v0]) (N:=73) [.tmp 2] func93 Z Z (lb Z) Z λa f=> ?_
 unfold D.r0 at hd
 have⟨left,hleft,hd⟩:=bind_some hd
 have⟨heads,hheads,hd⟩:=bind_some hd
 have⟨res,hres,hd⟩:=bind_some hd
 obtain⟨f0,f1,kpk⟩:=kPK
 have hmp:=underlying128
 have hz:=zeroValue3
 refine Af ?_
 refine Ac f Z λa f=>Aa (Ag ?_)
 refine AL (λa w=>∃(G':GH) (itL itH:Itm) (vL vH:Value),GLe G G'∧Fr a 73 [(3,vL),(4,vH)]∧Mem W G' w (itL::itH::H)∧Ow (RI .u32) 63 G' itL vL left∧Ow (RI .u32) 63 G' itH vH heads) ?_ ?_
 ·skip
  refine A9 6 AN (by kernel_rfl) m ?_
  refine Ah 0 6 Z f Z λa f=>Ah 2 6 Z f Z λa f=>q_len (i:=3) 6 underlying60 h0 Z (by kernel_rfl) Z f Z Z Z λa f=>q_two (i:=1) (j:=4) (l1:= #[true,true,true,true,false,false,false]) (l2:= #[true,false,true,true,true,false,false]) Z Z (by kernel_rfl) Z Z (λG1 w hl1 m K K=> ?_) λG1 w hl1 m K K=> ?_
  ·skip
   have h0:=rd1 hl1 h0
   refine A1 f Z call140 (Wk.Q m h0 hleft) λv9 G9 Ho9 w hl9 m hQ9 a f=> ?_
   obtain⟨vL,itL,rfl,rfl,oL⟩:=hQ9
   refine Aa ?_
   refine K G9 [itL] _ _ hl9 m ?_
   refine q_p 5 6 Z f (λ_=>Ce (f.e Z)) λa f=>CG 4 Z λG2 w hl2 m K K=> ?_
   have oL:=od1 hl2 oL
   refine DS (R:=(RI .u32)) m oT Z (by decide) Z f Z Z Z hheads λitH vH w a m oH f=>Aa ?_
   refine K G2 [itH,itL] _ _ gr m ?_
   refine AY λG3 w hl3 m=> ?_
   have oL:=od1 hl3 oL
   have oH:=od1 hl3 oH
   refine Ac f Z λa f=>Aa ?_
   have m:=m.fr 1
   exact⟨G3,itL,itH,vL,vH,gt hl1 (gt hl9 (gt hl2 hl3)),f.k Z,m,oL,oH⟩
  ·skip
   refine DS (R:=(RI .u32)) m oT Z (by decide) Z f Z Z Z hheads λitH vH w a m oH f=>Aa ?_
   refine K G1 [itH] _ _ gr m ?_
   refine CG 1 Z λG2 w hl2 m K K=> ?_
   have oH:=od1 hl2 oH
   have h0:=rd1 (gt hl1 hl2) h0
   refine A1 f Z call140 (Wk.Q m h0 hleft) λv9 G9 Ho9 w hl9 m hQ9 a f=> ?_
   obtain⟨vL,itL,rfl,rfl,oL⟩:=hQ9
   have oH:=od1 hl9 oH
   refine Aa ?_
   refine K G9 [itL,itH] _ _ hl9 m ?_
   refine q_p 5 6 Z f (λ_=>Ce (f.e Z)) λa f=>AY λG3 w hl3 m=> ?_
   have oL:=od1 hl3 oL
   have oH:=od1 hl3 oH
   refine Ac f Z λa f=>Aa ?_
   exact⟨G3,itL,itH,vL,vH,gt hl1 (gt hl2 (gt hl9 hl3)),f.k Z,m,oL,oH⟩
 ·skip
  clear f m
  rintro a w ⟨G1,itL,itH,vL,vH,hl1,f,m,oL,oH⟩
  refine Ag (Af ?_)
  refine Ab f Z λa f=>l_own_len 0 m oL Z underlying60 f Z Z λa f=>Ab f Z λa f=>Aa ?_
  refine AL (λa w=>∃(G':GH) (itL itH:Itm) (vL vH:Value) (hs:LI),res=some hs∧GLe G G'∧Fr a 73 [(4,vH)]∧Mem W G' w (itL::itH::H)∧Ow (RI .u32) 63 G' itH vH hs) ?_ ?_
  ·skip
   refine Ak ?_
   refine AK (fun(s:(LI×LI)×Int) a w=>∃(G':GH) (itL itH:Itm) (vL vH:Value),GLe G G'∧Fr a 73 [(3,vL),(4,vH),(17,.int .i64 (left.length:Int)),(18,.int .i64 s.2)]∧Mem W G' w (itL::itH::H)∧Ow (RI .u32) 63 G' itL vL s.1.1∧Ow (RI .u32) 63 G' itH vH s.1.2) hres ⟨G1,itL,itH,vL,vH,hl1,f.k Z,m,oL,oH⟩ ?_
   clear hres f m oL oH
   rintro⟨s,u⟩ ro hs hq a w ⟨G2,itL,itH,vL,vH,hl2,f,m,oL,oH⟩
   unfold D.O at hs
   dsimp only at hs oL oH f
   refine Af ?_
   refine Ai f Z Z AI λa f=>Aa (Ag ?_)
   rcases Ae hs with⟨hc,hs⟩|⟨hc,hs⟩
   ·skip
    refine Am f Z hc ?_
    refine An ?_
    have⟨q2,hq2,hs⟩:=bind_some hs
    refine Ag (Ak (Af ?_))
    refine Ab f Z λa f=>Ac f Z λa f=>Aa ?_
    refine AL (λa w=>∃(G':GH) (itL itH:Itm) (vL vH:Value) (s':LI×LI),q2=some s'∧GLe G G'∧Fr a 73 [(3,vL),(4,vH),(17,.int .i64 (left.length:Int)),(18,.int .i64 u)]∧Mem W G' w (itL::itH::H)∧Ow (RI .u32) 63 G' itL vL s'.1∧Ow (RI .u32) 63 G' itH vH s'.2) ?_ ?_
    ·skip
     refine Ak ?_
     refine AK (fun(s:LI×LI) a w=>∃(G':GH) (itL itH:Itm) (vL vH:Value),GLe G G'∧Fr a 73 [(3,vL),(4,vH),(17,.int .i64 (left.length:Int)),(5,.int .i64 u),(18,.int .i64 u)]∧Mem W G' w (itL::itH::H)∧Ow (RI .u32) 63 G' itL vL s.1∧Ow (RI .u32) 63 G' itH vH s.2) hq2 ⟨G2,itL,itH,vL,vH,hl2,f.k Z,m,oL,oH⟩ ?_
     clear hq2 f m oL oH
     rintro s ri hsi hqi a w ⟨G3,itL,itH,vL,vH,hl3,f,m,oL,oH⟩
     unfold D.K at hsi
     have⟨e,he,hsi⟩:=bind_some hsi
     refine Ag (Af ?_)
     refine Ab f Z λa f=>Ab f Z λa f=>B1 0 m oL Z oT f Z Z Z he λp a ha f=>CC 0 m oL Z oPl f Z Z ha he λc a h f=> ?_
     subst h
     refine Ai f Z Z B9 λa f=>Aa ?_
     rcases Ae hsi with⟨hci,hsi⟩|⟨hci,hsi⟩
     ·skip
      refine Am f Z hci ?_
      refine An ?_
      have⟨v,hv,hsi⟩:=bind_some hsi
      have⟨M,hM,hsi⟩:=bind_some hsi
      refine Ak (Af ?_)
      refine Ab f Z λa f=>Ab f Z λa f=>Ab f Z λa f=>Ab f Z λa f=>B1 0 m oL Z oT f Z Z Z he λp a ha f=>CC 0 m oL Z oPl f Z Z ha he λc a h f=> ?_
      subst h
      refine Bz f Z call121 (Wk.v hW m hv) λG4 w hl4 m a f=> ?_
      have oL:=od1 hl4 oL
      have oH:=od1 hl4 oH
      have hb:∀w,(Instr.build 99 #[(0,(iv u)),(1,(iv v))]).run prog w= .ok (kyV (u,v)) w:=by intro w;simp[Instr.build,Instr.fill,kyV,Dk,C5,Cs,CH,Cg,Dm]
      refine DQ f Z Z hb λa f=>A1 f Z call141 (Ow.lendCall (RI.mono _) 0 oL m Z (λG' hG m hL=>Wk.N hW m hL hM) (λ_ _ _ _ h=>h)) λvM G5 Ho5 w hl5 m hQ5 a f=> ?_
      obtain⟨itM,rfl,oM⟩:=hQ5
      have oL:=od1 hl5 oL
      have oH:=od1 hl5 oH
      refine Ac f Z λa f=>Aa ?_
      have hl35:GLe G G5:=gt hl3 (gt hl4 hl5)
      refine Ag (Af ?_)
      refine Ab f Z λa f=>l_rangeMa 0 m oM Z hmp f Z Z λitI vI w a m hR f=>Aa ?_
      rcases Ae hsi with⟨hk,hsi⟩|⟨hk,hsi⟩
      ·skip
       obtain rfl:=sj hsi
       obtain rfl:=hqi _ rfl
       have hs':some (Sum.inr none)=some ro:=hs
       obtain rfl:=sj hs'
       obtain rfl:=hq _ rfl
       have hd':some ([]:LI)=some y:=hd
       obtain rfl:=sj hd'
       have hex:∃e∈M.map (·.1),(Bi M (e.2,e.1)).isSome=true:=by
        obtain⟨kv,h1,h2⟩:=List.any_eq_true.1 hk
        exact⟨kv.1,List.mem_map.2 ⟨kv,h1,Z⟩,h2⟩
       refine AL (λa w=>False) ?_ (λ_ _ h=>h.elim)
       refine Ak ?_
       refine k_loopN (λk a w=>∃(rs:ArL) (at':Option (Int×Int)) (G':GH) (itI:Itm),rs.length=k∧RgI itM itI vI rs at'∧(∃e∈rs,(Bi M (e.2,e.1)).isSome=true)∧GLe G5 G'∧Fr a 73 [(3,vL),(4,vH),(5,.int .i64 u),(6,vM),(17,.int .i64 (left.length:Int)),(18,.int .i64 u),(36,vI)]∧Mem W G' w (itI::itM::itL::itH::H)) ⟨_,none,G5,itI,Z,hR,hex,gr,f.k Z,m⟩ ?_
       clear f m hR hex
       rintro k a w ⟨rs,at',G6,itI,hk',hR,hex,hl6,f,m⟩
       refine Af ?_
       refine l_nextMa 0 1 m hR oM Z Z f Z Z (λh0=> ?_) λee rs' itI y0 w a hp m hR f=> ?_
       ·skip
        subst h0
        obtain⟨_,h,_⟩:=hex
        cases h
       refine l_o f (A3 (f.e Z) Z) λa f=>Aa (Ag ?_)
       refine Am f Z Z ?_
       refine An ?_
       refine Ak (Af ?_)
       refine Eo 0 1 m hR oM Z Z f Z Z λy1 a f=>l_o f (A3 (f.e Z) Z) λa f=>BT (cs:=[(iv 0),(iv 0)]) zeroValue99 m f Z Z λb7 w a m f=>Bb 0 0 (ds:=[.int .i64 ee.1,.int .i64 ee.2]) m sizeOf99 f Z Z Z (Ap Z (Ap Z AG)) Z (lb Z) Z λw m=>AC ?_
       refine Ab f Z λa f=>Bp 0 0 (ds:=[.int .i64 ee.1,.int .i64 ee.2]) m kA f Z Z Z Z Z λa f=>Bz f Z call111 (Wk.H0 (y:=(ee.2,ee.1)) m Z) λG7 w hl7 m a f=>D4 (i:=(ee.2,ee.1)) kpk 2 m oM Z hmp hz f Z Z Z λa f=>Ab f Z λa f=>l_o f (A3 (f.e Z) Z) λa f=>l_o f (A3 (f.e Z) Z) λa f=>Ac f Z λa f=>Ac f Z λa f=>AC ?_
       refine Ab f Z λa f=>Aa ?_
       cases hopp:(Bi M (ee.2,ee.1)).isSome
       ·skip
        refine Aj f Z hopp ?_
        refine An ?_
        refine⟨rs'.length,by rw[←hk',hp.length_eq];exact Nat.lt_succ_self _,rs',some ee,G7,itI,Z,hR,?_,gt hl6 hl7,f.k Z,m.tail⟩
        obtain⟨e1,h1,h2⟩:=hex
        rcases List.mem_cons.1 (hp.mem_iff.1 h1) with h|h
        ·skip
         subst h;rw[hopp] at h2;cases h2
        ·skip
         exact⟨e1,h,h2⟩
       ·skip
        refine Am f Z hopp ?_
        refine Af ?_
        refine Ac f Z λa f=>Aa ?_
        refine As ?_
        have m:Mem W G7 w H:=m.tail.tail.tail.tail.tail
        obtain⟨itN,m,oN⟩:=Ow.nil (RI .u32) 63 m
        exact⟨[.slice none 0 0],f.g Z,f.d,G7,[itN],gt hl35 (gt hl6 hl7),m,_,_,Z,Z,oN,Z⟩
      ·skip
       have⟨sf,hsf,hsi⟩:=bind_some hsi
       obtain rfl:=sj hsi
       have hnone:∀e∈M.map (·.1),(Bi M (e.2,e.1)).isSome=false:=λe he=>by
        obtain⟨kv,h1,rfl⟩:=List.mem_map.1 he
        cases hh:(Bi M (kv.1.2,kv.1.1)).isSome
        ·rfl
        ·exact absurd (List.any_eq_true.2 ⟨kv,h1,hh⟩) (by show¬D.j0 M=true;rw[hk];decide)
       refine AL (λa w=>∃(G':GH),GLe G5 G'∧Fr a 73 [(3,vL),(4,vH),(5,.int .i64 u),(6,vM),(17,.int .i64 (left.length:Int)),(18,.int .i64 u)]∧Mem W G' w (itM::itL::itH::H)) ?_ ?_
       ·skip
        refine Ak ?_
        refine k_loopN (λk a w=>∃(rs:ArL) (at':Option (Int×Int)) (G':GH) (itI:Itm),rs.length=k∧RgI itM itI vI rs at'∧(∀e∈rs,(Bi M (e.2,e.1)).isSome=false)∧GLe G5 G'∧Fr a 73 [(3,vL),(4,vH),(5,.int .i64 u),(6,vM),(17,.int .i64 (left.length:Int)),(18,.int .i64 u),(36,vI)]∧Mem W G' w (itI::itM::itL::itH::H)) ⟨_,none,G5,itI,Z,hR,hnone,gr,f.k Z,m⟩ ?_
        clear f m hR
        rintro k a w ⟨rs,at',G6,itI,hk',hR,hno,hl6,f,m⟩
        refine Af ?_
        refine l_nextMa 0 1 m hR oM Z Z f Z Z (λh0 a f=> ?_) λee rs' itI y0 w a hp m hR f=> ?_
        ·skip
         refine l_o f (A3 (f.e Z) Z) λa f=>Aa (Ag ?_)
         refine Aj f Z Z ?_
         refine AE Z ?_
         exact⟨G6,hl6,f.k Z,m.tail⟩
        refine l_o f (A3 (f.e Z) Z) λa f=>Aa (Ag ?_)
        refine Am f Z Z ?_
        refine An ?_
        refine Ak (Af ?_)
        refine Eo 0 1 m hR oM Z Z f Z Z λy1 a f=>l_o f (A3 (f.e Z) Z) λa f=>BT (cs:=[(iv 0),(iv 0)]) zeroValue99 m f Z Z λb7 w a m f=>Bb 0 0 (ds:=[.int .i64 ee.1,.int .i64 ee.2]) m sizeOf99 f Z Z Z (Ap Z (Ap Z AG)) Z (lb Z) Z λw m=>AC ?_
        refine Ab f Z λa f=>Bp 0 0 (ds:=[.int .i64 ee.1,.int .i64 ee.2]) m kA f Z Z Z Z Z λa f=>Bz f Z call111 (Wk.H0 (y:=(ee.2,ee.1)) m Z) λG7 w hl7 m a f=>D4 (i:=(ee.2,ee.1)) kpk 2 m oM Z hmp hz f Z Z Z λa f=>Ab f Z λa f=>l_o f (A3 (f.e Z) Z) λa f=>l_o f (A3 (f.e Z) Z) λa f=>Ac f Z λa f=>Ac f Z λa f=>AC ?_
        refine Ab f Z λa f=>Aa ?_
        have hopp:=hno ee (hp.mem_iff.2 List.mem_cons_self)
        refine Aj f Z hopp ?_
        refine An ?_
        exact⟨rs'.length,by rw[←hk',hp.length_eq];exact Nat.lt_succ_self _,rs',some ee,G7,itI,Z,hR,λe he=>hno e (hp.mem_iff.2 (List.mem_cons_of_mem _ he)),gt hl6 hl7,f.k Z,m.tail⟩
       ·skip
        clear f m hR
        rintro a w ⟨G6,hl6,f,m⟩
        have oL:=od1 hl6 oL
        have oH:=od1 hl6 oH
        refine Af ?_
        refine Ab f Z λa f=>l_rangeMa 0 m oM Z hmp f Z Z λitI vI w a m hR f=>Aa (Ak ?_)
        refine k_loopN (λk a w=>∃(rs:ArL) (at':Option (Int×Int)) (s:LI×LI) (G':GH) (itI itL itH:Itm),rs.length=k∧RgI itM itI vI rs at'∧D.o rs s=some sf∧GLe G6 G'∧Fr a 73 [(3,vL),(4,vH),(5,.int .i64 u),(17,.int .i64 (left.length:Int)),(18,.int .i64 u),(50,vI)]∧Mem W G' w (itI::itM::itL::itH::H)∧Ow (RI .u32) 63 G' itL vL s.1∧Ow (RI .u32) 63 G' itH vH s.2) ⟨_,none,s,G6,itI,itL,itH,Z,hR,hsf,gr,f.k Z,m,oL,oH⟩ ?_
        clear f m hR hsf oL oH
        rintro k a w ⟨rs,at',s,G7,itI,itL,itH,hk',hR,hsf,hl7,f,m,oL,oH⟩
        refine Af ?_
        refine l_nextMa 0 1 m hR oM Z Z f Z Z (λh0 a f=> ?_) λee rs' itI y0 w a hp m hR f=> ?_
        ·skip
         subst h0
         obtain rfl:=sj hsf
         refine l_o f (A3 (f.e Z) Z) λa f=>Aa (Ag ?_)
         refine Aj f Z Z ?_
         refine AE Z ?_
         exact⟨_,Z,G7,itL,itH,vL,vH,gt hl35 (gt hl6 hl7),f.k Z,m.tail.tail,oL,oH⟩
        have hsf:=EO hp _ _ hsf
        unfold D.o at hsf
        have⟨s1,hs1,hsf⟩:=bind_some hsf
        unfold D.t at hs1
        have⟨e1,he1,hs1⟩:=bind_some hs1
        have⟨o1,ho1,hs1⟩:=bind_some hs1
        have⟨l1,hl1',hs1⟩:=bind_some hs1
        obtain rfl:=sj hs1
        refine l_o f (A3 (f.e Z) Z) λa f=>Aa (Ag ?_)
        refine Am f Z Z ?_
        refine An ?_
        refine Ak (Af ?_)
        refine Eo 0 1 m hR oM Z Z f Z Z λy1 a f=>l_o f (A3 (f.e Z) Z) λa f=>BT (cs:=[(iv 0),(iv 0)]) zeroValue99 m f Z Z λb7 w a m f=>Bb 0 0 (ds:=[.int .i64 ee.1,.int .i64 ee.2]) m sizeOf99 f Z Z Z (Ap Z (Ap Z AG)) Z (lb Z) Z λw m=>Aa (Ag ?_)
        refine AL (λa w=>∃(G':GH) (itH:Itm),GLe G7 G'∧Fr a 73 [(3,vL),(4,vH),(5,.int .i64 u),(17,.int .i64 (left.length:Int)),(18,.int .i64 u),(50,vI),(10,.pointer (some ⟨b7,0,none⟩))]∧Mem W G' w (kBx b7 ee::itI::itM::itL::itH::H)∧Ow (RI .u32) 63 G' itH vH (s.2.set (Int.toNat ee.1) (ior .u32 e1 o1))) ?_ ?_
        ·skip
         refine A9 9 AN (by kernel_rfl) m ?_
         refine Ah 0 9 Z f Z λa f=>Dc 1 9 underlying99 Z sizeOf3 Z f Z λa f=>Cd 2 9 0 oPi Z Z Z f Z λa f=>q_oa 3 9 4 m oH oT he1 Z f Z Z λp a ha f=>q_ol 4 9 4 oH oPl ha he1 Z f Z λc a h f=> ?_
         subst h
         refine Dc 5 9 underlying99 Z sizeOf3 Z f Z λa f=>Cd 6 9 0 oPi Z Z Z f Z λa f=>C2 (i:=7) 9 Z (by kernel_rfl) Z f Z Z Z call74 (λ_ _ w hG m=>Wk.b m ho1) λa f=>q_p 8 9 Z f (λ_=>AR (f.e Z) (f.e Z) b_or) λa f=>AY λG8 w hl8 m=> ?_
         have oH:=od1 hl8 oH
         refine B1 4 m oH Z oT f Z Z Z he1 λp a ha f=>B2 4 m oH Z sizeOf63 f Z Z ha he1 Z Z Z λitH w m oH=>Aa ?_
         exact⟨G8,itH,hl8,f.k Z,m,oH⟩
        ·skip
         clear f m oH
         rintro a w ⟨G8,itH,hl8,f,m,oH⟩
         have oL:=od1 hl8 oL
         refine Ao ?_
         refine Ab f Z λa f=>Bk underlying99 Z sizeOf3 f Z λa f=>AO 0 0 m oPi f Z Z Z Z λa f=>Bk underlying99 Z sizeOf3 f Z λa f=>AO 0 1 m oPi f Z Z Z Z λa f=> ?_
         have m:=m.fr 3
         refine A1 f Z call142 (Wk.l0 m oL hl1') λv9 G9 Ho9 w hl9 m hQ9 a f=> ?_
         obtain⟨itL,rfl,oL⟩:=hQ9
         have oH:=od1 hl9 oH
         refine Aa ?_
         have m:=m.eraseAt 1
         have m:=m.fr 2
         have m:=m.fr 2
         exact⟨rs'.length,by rw[←hk',hp.length_eq];exact Nat.lt_succ_self _,rs',some ee,_,G9,itI,itL,itH,Z,hR,hsf,gt hl7 (gt hl8 hl9),f.k Z,m,oL,oH⟩
     ·skip
      refine Aj f Z hci ?_
      refine AE Z ?_
      obtain rfl:=sj hsi
      obtain rfl:=hqi _ rfl
      exact⟨G3,itL,itH,vL,vH,s,Z,hl3,f.k Z,m,oL,oH⟩
    ·skip
     clear f m oL oH
     rintro a w ⟨G3,itL,itH,vL,vH,s',rfl,hl3,f,m,oL,oH⟩
     have hs':some (Sum.inl (s',i64.wrap (u+1)))=some ro:=hs
     obtain rfl:=sj hs'
     refine Ao ?_
     refine Ai f Z Z Az λa f=>Ab f Z λa f=>Aa ?_
     exact⟨_,Z,G3,itL,itH,vL,vH,hl3,f.k Z,m,oL,oH⟩
   ·skip
    refine Aj f Z hc ?_
    refine AE Z ?_
    obtain rfl:=sj hs
    have hr:=hq _ rfl
    exact⟨G2,itL,itH,vL,vH,s.2,hr.symm,hl2,f.k Z,m,oH⟩
  ·skip
   clear f m oL oH
   rintro a w ⟨G2,itL,itH,vL,vH,hs,rfl,hl2,f,m,oH⟩
   have hd':(nonE hs).bind (λ_=>some hs)=some y:=hd
   obtain⟨un,hn,hd'⟩:=bind_some hd'
   obtain rfl:=sj hd'
   have hnn:=Ow.notNil 1 m oH rfl hn
   refine Af ?_
   refine Ab f Z λa f=>Ac f Z λa f=>Aa ?_
   refine As ?_
   exact⟨[vH],f.g Z,f.d,G2,[itH],hl2,m.tail,vH,itH,Z,Z,oH,hnn⟩
end Go.Proofs.YtmkcbhidbdggiaaDoor

set_option maxRecDepth 100000
namespace Go.Proofs.YtmkcbhidbdggiaaDoor
open Go Go.Sx
open Go.Proofs.Tryd Go.Proofs.YtmkcbhidbdggiaaDoor.Tryd IntKind
variable {W w : World} {G : GH} {H : List Itm}
theorem T59 :SlT prog 59 63 1 4 (.int .u32 0):=⟨underlying59,Tryd.t63,by kernel_rfl,by kernel_rfl,by kernel_rfl,by kernel_rfl⟩
theorem Ag43 :Agg prog 43 1:=⟨isAgg43,sizeOf43⟩
theorem Wk.n0 {v0:Value}{x0:LI}(m:Mem W G w (H))(h0:R1 G v0 x0){y:(LI)}(hd:D.n0 x0=some y):
  Calls prog 68 #[v0] w (Res W G H (λG' Ho v=>∃r0:Value,∃i0:Itm,Ho=[i0]∧r0=v∧Ow R0 2 G' i0 r0 y)):=by
 refine Ay (args:=[v0]) (N:=21) [.tmp 2] func68 Z Z (lb Z) Z λa f=> ?_
 unfold D.n0 at hd
 refine Af ?_
 refine Ac f Z λa f=>AC ?_
 refine Ab f Z λa f=>A5 underlying65 f Z Z h0 λa f=> ?_
 have⟨aa,ab,hd⟩:=bind_some hd
 refine DS (R:=R0) m T31 Z (by decide) Z f Z Z Z ab λac ad w a m ae f=>Ac f Z λa f=>Aa (Ag (Af ?_))
 refine Ab f Z λa f=>A5 underlying65 f Z Z h0 λa f=>Ab f Z λa f=>Aa ?_
 have⟨af,ag,hd⟩:=bind_some hd
 refine AL (λa w=>∃ah:LI,ah=af∧∃(ai:GH) (aj:Value) (ak:Itm),GLe G ai∧Fr a 21 [(3,aj)]∧Mem W ai w (ak::H)∧Ow R0 2 ai ak aj ah) ?_ ?_
 ·refine Ak ?_
  refine AK (λal a w=>∃am:LI,∃an:Int,(am,an)=al∧∃(ao:GH) (ap:Value) (aq:Itm),GLe G ao∧Fr a 21 [(3,ap),(9,v0),(10,(iv (x0.length:Int))),(11,(iv an))]∧Mem W ao w (aq::H)∧Ow R0 2 ao aq ap am) ag ⟨_,_,Z,_,ad,ac,gr,f.k Z,m,ae⟩ ?_
  clear ag f m
  rintro al ar au av a w ⟨am,an,rfl,ao,ap,aq,aw,f,m,ax⟩
  have h0:=rd1 aw h0
  refine Af ?_
  refine Ai f Z Z AI λa f=>Aa (Ag ?_)
  rcases Ae au with⟨ay,au⟩|⟨ay,au⟩
  ·refine Am f Z ay ?_
   refine An ?_
   refine Ag (Ak (Af ?_))
   have⟨az,aA,au⟩:=bind_some au
   refine Be T65 f Z Z Z h0 aA λaB aC a aD aE f=> ?_
   subst aE
   refine AM m Pl3 f Z Z aD λa f=>Ac f Z λa f=>Aa (Ao ?_)
   refine Ab f Z λa f=>Ab f Z λa f=>Bm (R:=R0) (xs:=([az]:LI)) (RI.one _) m T31 f Z Z Z (by decide) (All2.cons Z (All2.nil _)) λaF aG w a m aH f=> ?_
   have⟨aI,aJ,au⟩:=bind_some au
   refine By (RI.one _) 1 m ax Z T31 Z (by decide) f Z Z Z (Ow.src (j:=0) aH m Z) aJ λaK aL w a m aM f=>Ac f Z λa f=>Aa (Ao ?_)
   refine Ai f Z Z Az λa f=>Ab f Z λa f=>Aa ?_
   have m:=m.fr 1
   have m:=m.eraseAt 1
   obtain rfl:=sj au
   exact⟨_,Z,_,_,Z,_,aL,aK,aw,f.k Z,m,aM⟩
  ·refine Aj f Z ay ?_
   refine AE Z ?_
   obtain rfl:=sj au
   obtain rfl:=av _ rfl
   exact⟨_,Z,_,ap,aq,aw,f.k Z,m,ax⟩
 ·rintro a w ⟨ah,rfl,ai,aj,ak,aN,f,m,aO⟩
  refine Af ?_
  refine Ab f Z λa f=>Ac f Z λa f=>Aa ?_
  refine As ?_
  obtain rfl:=sj hd
  exact⟨[aj],f.g Z,f.d,_,[ak],aN,m,_,_,Z,Z,aO⟩
theorem Wk.V {x0:Int}(hW:C9 W)(m:Mem W G w (H)){y:(LI)}(hd:D.V x0=some y):
  Calls prog 56 #[(.int .u32 x0)] w (Res W G H (λG' Ho v=>∃r0:Value,∃i0:Itm,Ho=[i0]∧r0=v∧Ow R0 2 G' i0 r0 y)):=by
 refine Ay (args:=[(.int .u32 x0)]) (N:=6) [.tmp 2] func56 Z Z (lb Z) Z λa f=> ?_
 unfold D.V at hd
 refine Af ?_
 refine Ac f Z λa f=>AC ?_
 refine Ab f Z λa f=> ?_
 have⟨aa,ab,hd⟩:=bind_some hd
 refine A1 f Z call54 (Wk.m hW m ab) λac ad ae w af m ag a f=> ?_
 obtain⟨ah,ai,rfl,rfl,aj⟩:=ag
 have⟨ak,al,hd⟩:=bind_some hd
 refine A1 f Z call68 (Ow.lendCall (RI.mono _) 0 aj m Z (λam an m ao=>Wk.n0 m ao al) (λ_ G' _ _ ⟨a0,a1,e1,e2,o0⟩=>⟨a0,a1,e1,e2,Ow.free (RI.free _) G' o0⟩)) λap aq ar w au m av a f=> ?_
 obtain⟨aw,ax,rfl,rfl,ay⟩:=av
 refine Ac f Z λa f=>Aa ?_
 refine As ?_
 have m:=m.eraseAt 1
 obtain rfl:=sj hd
 exact⟨[aw],f.g Z,f.d,_,[ax],(gt af au),m,_,_,Z,Z,ay⟩
theorem Wk.a0 {v0:Value}{x0:LI}(hW:C9 W)(m:Mem W G w (H))(h0:RSl (RI .u32) G v0 x0){y:(LL)}(hd:D.a0 x0=some y):
  Calls prog 94 #[v0] w (Res W G H (λG' Ho v=>∃r0:Value,∃i0:Itm,Ho=[i0]∧r0=v∧Ow2 R0 31 2 G' i0 r0 y)):=by
 refine Ay (args:=[v0]) (N:=20) [.tmp 2] func94 Z Z (lb Z) Z λa f=> ?_
 unfold D.a0 at hd
 refine Af ?_
 refine Ac f Z λa f=>AC ?_
 refine Bm (R:=RawS) (xs:=[]) RawS.one m T27 f Z Z Z (by decide) (All2.nil _) λaa ab w a m ac f=> ?_
 obtain⟨ad,m,ae⟩:=Ow2.of_empty R0 2 m ac
 refine Ac f Z λa f=>Aa (Ag (Af ?_))
 refine Ab f Z λa f=>A5 underlying59 f Z Z h0 λa f=>Ab f Z λa f=>Aa ?_
 have⟨af,ag,hd⟩:=bind_some hd
 refine AL (λa w=>∃ah:LL,ah=af∧∃(ai:GH) (aj:Value) (ak:Itm),GLe G ai∧Fr a 20 [(3,aj)]∧Mem W ai w (ak::H)∧Ow2 R0 31 2 ai ak aj ah) ?_ ?_
 ·refine Ak ?_
  refine AK (λal a w=>∃am:LL,∃an:Int,(am,an)=al∧∃(ao:GH) (ap:Value) (aq:Itm),GLe G ao∧Fr a 20 [(3,ap),(7,v0),(8,(iv (x0.length:Int))),(9,(iv an))]∧Mem W ao w (aq::H)∧Ow2 R0 31 2 ao aq ap am) ag ⟨_,_,Z,_,ab,ad,gr,f.k Z,m,ae⟩ ?_
  clear ag f m
  rintro al ar au av a w ⟨am,an,rfl,ao,ap,aq,aw,f,m,ax⟩
  have h0:=rd1 aw h0
  refine Af ?_
  refine Ai f Z Z AI λa f=>Aa (Ag ?_)
  rcases Ae au with⟨ay,au⟩|⟨ay,au⟩
  ·refine Am f Z ay ?_
   refine An ?_
   refine Ag (Ak (Af ?_))
   have⟨az,aA,au⟩:=bind_some au
   refine Be T59 f Z Z Z h0 aA λaB aC a aD aE f=> ?_
   subst aE
   refine AM m Pl63 f Z Z aD λa f=>Ac f Z λa f=>Aa (Ao ?_)
   refine Ab f Z λa f=>Ab f Z λa f=> ?_
   have⟨aF,aG,au⟩:=bind_some au
   refine A1 f Z call56 (Wk.V hW m aG) λaH aI aJ w aK m aL a f=> ?_
   obtain⟨aM,aN,rfl,rfl,aO⟩:=aL
   have ax:=od2 aK ax
   refine Bm (R:=RawS) (xs:=[aM]) RawS.one m T27 f Z Z Z (by decide) (All2.cons ⟨Z,Ow.one1 0 m aO Z,Ow.cells 0 m aO Z⟩ (All2.nil _)) λaP aQ w a m aR f=> ?_
   have m:=m.fr 1
   have m:=m.fr 2
   have⟨aS,aT,au⟩:=bind_some au
   refine l_append2 m ax aO aR T27 Z (by decide) f Z Z Z aT λaU aV w a m aW f=>Ac f Z λa f=>Aa (Ao ?_)
   refine Ai f Z Z Az λa f=>Ab f Z λa f=>Aa ?_
   obtain rfl:=sj au
   exact⟨_,Z,_,_,Z,_,aV,aU,(gt aw aK),f.k Z,m,aW⟩
  ·refine Aj f Z ay ?_
   refine AE Z ?_
   obtain rfl:=sj au
   obtain rfl:=av _ rfl
   exact⟨_,Z,_,ap,aq,aw,f.k Z,m,ax⟩
 ·rintro a w ⟨ah,rfl,ai,aj,ak,aX,f,m,aY⟩
  refine Af ?_
  refine Ab f Z λa f=>Ac f Z λa f=>Aa ?_
  refine As ?_
  obtain rfl:=sj hd
  exact⟨[aj],f.g Z,f.d,_,[ak],aX,m,_,_,Z,Z,aY⟩
theorem Wk.s {aa:Value}{ab:LL}(hW:C9 W)(m:Mem W G w (H))(ac:R2 G aa ab){y:(LL)×Bool}(hd:D.s ab=some y):
  Calls prog 32 #[(.agg #[aa])] w (Res W G H (λG' Ho v=>∃r0:Value,∃i0:Itm,Ho=[i0]∧v= .tuple #[r0,(.bool y.2)]∧Ow2 R0 31 2 G' i0 r0 y.1)):=by
 refine Ay (args:=[(.agg #[aa])]) (N:=15) [.tmp 2,.tmp 3] func32 Z Z (lb Z) Z λa f=> ?_
 unfold D.s at hd
 refine Af ?_
 refine BO (cs:=[aa]) m f Z Z Z λad w a m f=>Ac f Z λa f=>Ac f Z λa f=>Aa (Ag (Af ?_))
 refine Bp 0 0 (ds:=[aa]) m CV f Z Z Z Z Z λa f=> ?_
 have⟨ae,af,hd⟩:=bind_some hd
 refine Bz f Z call50 (Wk.L m ac af) λag w ah m a f=> ?_
 have ac:=rd2 ah ac
 refine l_o f (Bt (f.e Z)) λa f=>Aa ?_
 rcases Ae hd with⟨ai,hd⟩|⟨ai,hd⟩
 ·refine Am f Z ai ?_
  refine Af ?_
  refine Ac f Z λa f=>Ac f Z λa f=>Aa ?_
  refine As ?_
  obtain⟨aj,m,ak⟩:=Ow2.nil R0 31 2 m
  have m:=m.eraseAt 1
  obtain rfl:=sj hd
  exact⟨[sn,(.bool false)],⟨f.get _ _ Z,f.get _ _ Z,trivial⟩,f.d,_,[aj],ah,m,_,_,Z,Z,ak⟩
 ·refine Aj f Z ai ?_
  refine An ?_
  refine Af ?_
  refine Bp 0 0 (ds:=[aa]) m CV f Z Z Z Z Z λa f=> ?_
  have⟨al,am,hd⟩:=bind_some hd
  refine A1 f Z call51 (Wk.P m ac am) λan ao ap w aq m ar a f=> ?_
  obtain⟨au,av,rfl,rfl,aw⟩:=ar
  have⟨ax,ay,hd⟩:=bind_some hd
  refine A1 f Z call93 (Ow.lendCall (RI.mono _) 0 aw m Z (λaz aA m aB=>Wk.r0 hW m aB ay) (λ_ G' _ _ ⟨r0,i0,h1,h2,h3,h4⟩=>⟨r0,i0,h1,h2,Ow.free (RI.free _) G' h3,h4⟩)) λaC aD aE w aF m aG a f=> ?_
  obtain⟨aH,aI,rfl,rfl,aJ,aK⟩:=aG
  refine Ac f Z λa f=>Aa (Ag (Af ?_))
  refine Ab f Z λa f=>l_o f (r_nil_eql (f.e Z) (f.e Z) (Ow.hdr 0 m aJ Z) underlying60 aK) λa f=>Aa ?_
  rcases Ae hd with⟨aL,hd⟩|⟨aL,hd⟩
  ·refine Am f Z aL ?_
   refine Af ?_
   refine Ac f Z λa f=>Ac f Z λa f=>Aa ?_
   refine As ?_
   obtain⟨aM,m,aN⟩:=Ow2.nil R0 31 2 m
   have m:=m.eraseAt 3
   have m:=m.eraseAt 2
   have m:=m.eraseAt 1
   obtain rfl:=sj hd
   exact⟨[sn,(.bool false)],⟨f.get _ _ Z,f.get _ _ Z,trivial⟩,f.d,_,[aM],(gt ah (gt aq aF)),m,_,_,Z,Z,aN⟩
  ·refine Aj f Z aL ?_
   refine An ?_
   refine Af ?_
   refine Ab f Z λa f=> ?_
   have⟨aO,aP,hd⟩:=bind_some hd
   refine A1 f Z call94 (Ow.lendCall (RI.mono _) 0 aJ m Z (λaQ aR m aS=>Wk.a0 hW m aS aP) (λ_ G' _ _ ⟨a0,a1,e1,e2,o0⟩=>⟨a0,a1,e1,e2,Ow2.free (RI.free _) G' o0⟩)) λaT aU aV w aW m aX a f=> ?_
   obtain⟨aY,aZ,rfl,rfl,a2⟩:=aX
   refine Ac f Z λa f=>Ac f Z λa f=>Aa ?_
   refine As ?_
   have m:=m.eraseAt 3
   have m:=m.eraseAt 2
   have m:=m.eraseAt 1
   obtain rfl:=sj hd
   exact⟨[aY,(.bool true)],⟨f.get _ _ Z,f.get _ _ Z,trivial⟩,f.d,_,[aZ],(gt ah (gt aq (gt aF aW))),m,_,_,Z,Z,a2⟩
theorem Wk.c {v0 v1:Value}{x0 x1:LI}(m:Mem W G w (H))(h0:R1 G v0 x0)(h1:R1 G v1 x1){y:Bool}(hd:D.c x0 x1=some y):
  Calls prog 95 #[v0,v1] w (Res W G H (λ_ Ho v=>Ho=[]∧v=(.bool y))):=by
 refine Ay (args:=[v0,v1]) (N:=26) [.tmp 4] func95 Z Z (lb Z) Z λa f=> ?_
 unfold D.c at hd
 refine Af ?_
 refine Ac f Z λa f=>Aa (Ag (Af ?_))
 refine Ab f Z λa f=>A5 underlying31 f Z Z h0 λa f=>Ab f Z λa f=>A5 underlying31 f Z Z h1 λa f=>Ai f Z Z B9 λa f=>Aa ?_
 rcases Ae hd with⟨aa,hd⟩|⟨aa,hd⟩
 ·refine Am f Z aa ?_
  refine Af ?_
  refine Ac f Z λa f=>Aa ?_
  refine As ?_
  obtain rfl:=sj hd
  exact⟨[(.bool false)],f.g Z,f.d,_,[],gr,m,Z,Z⟩
 ·refine Aj f Z aa ?_
  refine An ?_
  refine Ag (Af ?_)
  refine Ac f Z λa f=>Aa ?_
  have⟨ab,ac,hd⟩:=bind_some hd
  refine AL (λa w=>∃q_36':Unit,ab= .inl q_36'∧∃(ad:GH),GLe G ad∧Fr a 26 []∧Mem W ad w (H)) ?_ ?_
  ·refine Ak ?_
   refine AK (λae a w=>∃af:Int,af=ae∧∃(ag:GH),GLe G ag∧Fr a 26 [(0,v0),(1,v1),(5,(iv af))]∧Mem W ag w (H)) ac ⟨_,Z,_,gr,f.k Z,m⟩ ?_
   clear ac f m
   rintro ae ah ai aj a w ⟨af,rfl,ag,ak,f,m⟩
   have h0:=rd1 ak h0
   have h1:=rd1 ak h1
   refine Ag (Af ?_)
   refine Ab f Z λa f=>Ab f Z λa f=>A5 underlying31 f Z Z h0 λa f=>Ai f Z Z AI λa f=>Aa ?_
   rcases Ae ai with⟨al,ai⟩|⟨al,ai⟩
   ·refine Am f Z al ?_
    refine An ?_
    refine Ag (Ak (Ag ?_))
    refine A9 9 AN (by kernel_rfl) m ?_
    refine Ah 0 9 Z f Z λa f=>Ah 1 9 Z f Z λa f=> ?_
    have⟨am,an,ai⟩:=bind_some ai
    refine BC 2 9 T31 h0 an Z f Z Z λao ap a aq ar f=> ?_
    subst ar
    refine BB 3 9 Pl2 aq Z f Z λa f=>Ah 4 9 Z f Z λa f=>Ah 5 9 Z f Z λa f=> ?_
    have⟨au,av,ai⟩:=bind_some ai
    refine BC 6 9 T31 h1 av Z f Z Z λaw ax a ay az f=> ?_
    subst az
    refine BB 7 9 Pl2 ay Z f Z λa f=>q_p 8 9 Z f (λ_=>AR (f.e Z) (f.e Z) B9) λa f=>AY λaA w aB m=>Aa ?_
    rcases Ae ai with⟨aC,ai⟩|⟨aC,ai⟩
    ·refine Am f Z aC ?_
     refine Af ?_
     refine Ac f Z λa f=>Aa ?_
     refine As ?_
     obtain rfl:=sj ai
     obtain rfl:=aj _ rfl
     obtain rfl:=sj hd
     exact⟨[(.bool false)],f.g Z,f.d,_,[],(gt ak aB),m,Z,Z⟩
    ·refine Aj f Z aC ?_
     refine An ?_
     refine Ao ?_
     refine Ab f Z λa f=>Ai f Z Z Az λa f=>Ac f Z λa f=>Aa ?_
     obtain rfl:=sj ai
     exact⟨_,Z,_,Z,_,(gt ak aB),f.k Z,m⟩
   ·refine Aj f Z al ?_
    refine AE Z ?_
    obtain rfl:=sj ai
    obtain rfl:=aj _ rfl
    exact⟨_,Z,_,ak,f.weak trivial,m⟩
  ·rintro a w ⟨_,rfl,ad,aD,f,m⟩
   refine Af ?_
   refine Ac f Z λa f=>Aa ?_
   refine As ?_
   obtain rfl:=sj hd
   exact⟨[(.bool true)],f.g Z,f.d,_,[],aD,m,Z,Z⟩
theorem Wk.n {v0 v1:Value}{x0 x1:LL}(m:Mem W G w (H))(h0:R2 G v0 x0)(h1:R2 G v1 x1){y:Bool}(hd:D.n x0 x1=some y):
  Calls prog 33 #[v0,v1] w (Res W G H (λ_ Ho v=>Ho=[]∧v=(.bool y))):=by
 refine Ay (args:=[v0,v1]) (N:=27) [.tmp 4] func33 Z Z (lb Z) Z λa f=> ?_
 unfold D.n at hd
 refine Af ?_
 refine Ac f Z λa f=>Aa (Ag (Af ?_))
 refine Ab f Z λa f=>A5 underlying27 f Z Z h0 λa f=>Ab f Z λa f=>A5 underlying27 f Z Z h1 λa f=>Ai f Z Z B9 λa f=>Aa ?_
 rcases Ae hd with⟨aa,hd⟩|⟨aa,hd⟩
 ·refine Am f Z aa ?_
  refine Af ?_
  refine Ac f Z λa f=>Aa ?_
  refine As ?_
  obtain rfl:=sj hd
  exact⟨[(.bool false)],f.g Z,f.d,_,[],gr,m,Z,Z⟩
 ·refine Aj f Z aa ?_
  refine An ?_
  refine Ag (Af ?_)
  refine Ac f Z λa f=>Aa ?_
  have⟨ab,ac,hd⟩:=bind_some hd
  refine AL (λa w=>∃q_42':Unit,ab= .inl q_42'∧∃(ad:GH),GLe G ad∧Fr a 27 []∧Mem W ad w (H)) ?_ ?_
  ·refine Ak ?_
   refine AK (λae a w=>∃af:Int,af=ae∧∃(ag:GH),GLe G ag∧Fr a 27 [(0,v0),(1,v1),(5,(iv af))]∧Mem W ag w (H)) ac ⟨_,Z,_,gr,f.k Z,m⟩ ?_
   clear ac f m
   rintro ae ah ai aj a w ⟨af,rfl,ag,ak,f,m⟩
   have h0:=rd2 ak h0
   have h1:=rd2 ak h1
   refine Ag (Af ?_)
   refine Ab f Z λa f=>Ab f Z λa f=>A5 underlying27 f Z Z h0 λa f=>Ai f Z Z AI λa f=>Aa ?_
   rcases Ae ai with⟨al,ai⟩|⟨al,ai⟩
   ·refine Am f Z al ?_
    refine An ?_
    refine Ag (Ak (Ag ?_))
    refine A9 10 AN (by kernel_rfl) m ?_
    refine Ah 0 10 Z f Z λa f=>Ah 1 10 Z f Z λa f=> ?_
    have⟨am,an,ai⟩:=bind_some ai
    refine BC 2 10 T27 h0 an Z f Z Z λao ap a aq ar f=>BB 3 10 Bq aq Z f Z λa f=>Ah 4 10 Z f Z λa f=>Ah 5 10 Z f Z λa f=> ?_
    have⟨au,av,ai⟩:=bind_some ai
    refine BC 6 10 T27 h1 av Z f Z Z λaw ax a ay az f=>BB 7 10 Bq ay Z f Z λa f=> ?_
    have⟨aA,aB,ai⟩:=bind_some ai
    refine C2 (i:=8) 10 Z (by kernel_rfl) Z f Z Z Z call95 (λ_ _ w aC m=>Wk.c m (rd1 aC ar) (rd1 aC az) aB) λa f=>q_p 9 10 Z f (λ_=>Bt (f.e Z)) λa f=>AY λaD w aE m=>Aa ?_
    rcases Ae ai with⟨aF,ai⟩|⟨aF,ai⟩
    ·refine Am f Z aF ?_
     refine Af ?_
     refine Ac f Z λa f=>Aa ?_
     refine As ?_
     obtain rfl:=sj ai
     obtain rfl:=aj _ rfl
     obtain rfl:=sj hd
     exact⟨[(.bool false)],f.g Z,f.d,_,[],(gt ak aE),m,Z,Z⟩
    ·refine Aj f Z aF ?_
     refine An ?_
     refine Ao ?_
     refine Ab f Z λa f=>Ai f Z Z Az λa f=>Ac f Z λa f=>Aa ?_
     obtain rfl:=sj ai
     exact⟨_,Z,_,Z,_,(gt ak aE),f.k Z,m⟩
   ·refine Aj f Z al ?_
    refine AE Z ?_
    obtain rfl:=sj ai
    obtain rfl:=aj _ rfl
    exact⟨_,Z,_,ak,f.weak trivial,m⟩
  ·rintro a w ⟨_,rfl,ad,aG,f,m⟩
   refine Af ?_
   refine Ac f Z λa f=>Aa ?_
   refine As ?_
   obtain rfl:=sj hd
   exact⟨[(.bool true)],f.g Z,f.d,_,[],aG,m,Z,Z⟩
theorem Wk.h0 {aa ab:Value}{ac ad:LL}(m:Mem W G w (H))(ae:R2 G aa ac)(af:R2 G ab ad){y:Bool}(hd:D.h0 ac ad=some y):
  Calls prog 34 #[(.agg #[aa]),(.agg #[ab])] w (Res W G H (λ_ Ho v=>Ho=[]∧v=(.bool y))):=by
 refine Ay (args:=[(.agg #[aa]),(.agg #[ab])]) (N:=11) [.tmp 4] func34 Z Z (lb Z) Z λa f=> ?_
 unfold D.h0 at hd
 refine Af ?_
 refine BO (cs:=[aa]) m f Z Z Z λag w a m f=>BO (cs:=[ab]) m f Z Z Z λah w a m f=>Ac f Z λa f=>Aa (Ag (Af ?_))
 refine Bk underlying29 Z sizeOf27 f Z λa f=>AO 1 0 m Bx f Z Z Z Z λa f=>Bk underlying29 Z sizeOf27 f Z λa f=>AO 0 0 m Bx f Z Z Z Z λa f=> ?_
 have⟨ai,aj,hd⟩:=bind_some hd
 refine Bz f Z call33 (Wk.n m ae af aj) λak w al m a f=>l_o f (Bt (f.e Z)) λa f=>Aa ?_
 rcases Ae hd with⟨am,hd⟩|⟨am,hd⟩
 ·refine Am f Z am ?_
  refine Af ?_
  refine Ac f Z λa f=>Aa ?_
  refine As ?_
  have m:Mem W ak w H:=Mem.drop (H':=[ib ah 29 [ab],ib ag 29 [aa]]) m
  obtain rfl:=sj hd
  exact⟨[(.bool false)],f.g Z,f.d,_,[],al,m,Z,Z⟩
 ·refine Aj f Z am ?_
  refine An ?_
  refine Af ?_
  refine Ac f Z λa f=>Aa ?_
  refine As ?_
  have m:Mem W ak w H:=Mem.drop (H':=[ib ah 29 [ab],ib ag 29 [aa]]) m
  obtain rfl:=sj hd
  exact⟨[(.bool true)],f.g Z,f.d,_,[],al,m,Z,Z⟩
theorem Wk.g {v0:Value}{it0:Itm}{x0:LI}{x1:Int}(m:Mem W G w (it0::H))(o0:Ow R0 2 G it0 v0 x0){y:Int×(LI)}(hd:D.g x0 x1=some y):
  Calls prog 96 #[v0,(iv x1)] w (Res W G H (λG' Ho v=>∃i0:Itm,Ho=[i0]∧v=(iv y.1)∧Ow R0 2 G' i0 v0 y.2)):=by
 refine Ay (args:=[v0,(iv x1)]) (N:=19) [.tmp 4] func96 Z Z (lb Z) Z λa f=> ?_
 unfold D.g at hd
 refine Af ?_
 refine Ac f Z λa f=>Aa (Ag (Af ?_))
 refine Ac f Z λa f=>Aa ?_
 have⟨aa,ab,hd⟩:=bind_some hd
 refine AL (λa w=>∃ac:LI,∃ad:Int,(ac,ad)=aa∧∃(ae:GH) (af:Itm),GLe G ae∧Fr a 19 [(1,(iv ad))]∧Mem W ae w (af::H)∧Ow R0 2 ae af v0 ac) ?_ ?_
 ·refine Ak ?_
  refine AK (λag a w=>∃ah:LI,∃ai:Int,∃aj:Int,(ah,ai,aj)=ag∧∃(ak:GH) (al:Itm),GLe G ak∧Fr a 19 [(0,v0),(1,(iv ai)),(5,(iv aj))]∧Mem W ak w (al::H)∧Ow R0 2 ak al v0 ah) ab ⟨_,_,_,Z,_,it0,gr,f.k Z,m,o0⟩ ?_
  clear ab f m
  rintro ag am an ao a w ⟨ah,ai,aj,rfl,ak,al,ap,f,m,aq⟩
  refine Ag (Af ?_)
  refine Ab f Z λa f=>Ab f Z λa f=>l_own_len 0 m aq Z underlying31 f Z Z λa f=>Ai f Z Z AI λa f=>Aa ?_
  rcases Ae an with⟨ar,an⟩|⟨ar,an⟩
  ·refine Am f Z ar ?_
   refine An ?_
   refine Ag (Ak (Af ?_))
   refine Ab f Z λa f=>Ab f Z λa f=>Ab f Z λa f=> ?_
   have⟨au,av,an⟩:=bind_some an
   refine B1 0 m aq Z T31 f Z Z Z av λaw a ax f=>B2 0 m aq Z sizeOf2 f Z Z ax av Z Z Z λay w m az=>Aa (Ao ?_)
   refine Ab f Z λa f=>Ai f Z Z Az λa f=>Ac f Z λa f=>Aa (Ao ?_)
   refine Ab f Z λa f=>Ai f Z Z Az λa f=>Ac f Z λa f=>Aa ?_
   obtain rfl:=sj an
   exact⟨_,Z,_,_,_,Z,_,ay,ap,f.k Z,m,az⟩
  ·refine Aj f Z ar ?_
   refine AE Z ?_
   obtain rfl:=sj an
   obtain rfl:=ao _ rfl
   exact⟨_,_,Z,_,al,ap,f.k Z,m,aq⟩
 ·rintro a w ⟨ac,ad,rfl,ae,af,aA,f,m,aB⟩
  refine Af ?_
  refine Ab f Z λa f=>Ac f Z λa f=>Aa ?_
  refine As ?_
  obtain rfl:=sj hd
  exact⟨[(iv ad)],f.g Z,f.d,_,[af],aA,m,_,Z,Z,aB⟩
theorem Wk.C {v0:Value}{it0:Itm}{x0:LL}{x1:Int}(m:Mem W G w (it0::H))(o0:Ow2 R0 31 2 G it0 v0 x0){y:Int×(LL)}(hd:D.C x0 x1=some y):
  Calls prog 36 #[v0,(iv x1)] w (Res W G H (λG' Ho v=>∃i0:Itm,Ho=[i0]∧v=(iv y.1)∧Ow2 R0 31 2 G' i0 v0 y.2)):=by
 refine Ay (args:=[v0,(iv x1)]) (N:=19) [.tmp 4] func36 Z Z (lb Z) Z λa f=> ?_
 unfold D.C at hd
 refine Af ?_
 refine Ac f Z λa f=>Aa (Ag (Af ?_))
 refine Ac f Z λa f=>Aa ?_
 have⟨aa,ab,hd⟩:=bind_some hd
 refine AL (λa w=>∃ac:LL,∃ad:Int,(ac,ad)=aa∧∃(ae:GH) (af:Itm),GLe G ae∧Fr a 19 [(1,(iv ad))]∧Mem W ae w (af::H)∧Ow2 R0 31 2 ae af v0 ac) ?_ ?_
 ·refine Ak ?_
  refine AK (λag a w=>∃ah:LL,∃ai:Int,∃aj:Int,(ah,ai,aj)=ag∧∃(ak:GH) (al:Itm),GLe G ak∧Fr a 19 [(0,v0),(1,(iv ai)),(5,(iv aj))]∧Mem W ak w (al::H)∧Ow2 R0 31 2 ak al v0 ah) ab ⟨_,_,_,Z,_,it0,gr,f.k Z,m,o0⟩ ?_
  clear ab f m
  rintro ag am an ao a w ⟨ah,ai,aj,rfl,ak,al,ap,f,m,aq⟩
  refine Ag (Af ?_)
  refine Ab f Z λa f=>Ab f Z λa f=>l_own2_len 0 m aq Z underlying27 f Z Z λa f=>Ai f Z Z AI λa f=>Aa ?_
  rcases Ae an with⟨ar,an⟩|⟨ar,an⟩
  ·refine Am f Z ar ?_
   refine An ?_
   refine Ag (Ak (Ao ?_))
   refine Ab f Z λa f=>Ab f Z λa f=> ?_
   have⟨au,av,an⟩:=bind_some an
   refine l_own2_at 0 m aq Z T27 f Z Z Z av λaw a ax f=>l_own2_load 0 m aq Z Bq f Z Z ax av λay a az f=>Ab f Z λa f=> ?_
   have⟨aA,aB,an⟩:=bind_some an
   refine A1 f Z call96 (Ow2.callAt aq (RI.mono _) m av az (λinn Hs m oi=>Wk.g m oi aB)) λaC aD aE w aF m aG a f=> ?_
   obtain⟨aH,rfl,rfl,aI⟩:=aG
   refine Ac f Z λa f=>Aa (Ao ?_)
   refine Ab f Z λa f=>Ai f Z Z Az λa f=>Ac f Z λa f=>Aa ?_
   obtain rfl:=sj an
   exact⟨_,Z,_,_,_,Z,_,aH,(gt ap aF),f.k Z,m,aI⟩
  ·refine Aj f Z ar ?_
   refine AE Z ?_
   obtain rfl:=sj an
   obtain rfl:=ao _ rfl
   exact⟨_,_,Z,_,al,ap,f.k Z,m,aq⟩
 ·rintro a w ⟨ac,ad,rfl,ae,af,aJ,f,m,aK⟩
  refine Af ?_
  refine Ab f Z λa f=>Ac f Z λa f=>Aa ?_
  refine As ?_
  obtain rfl:=sj hd
  exact⟨[(iv ad)],f.g Z,f.d,_,[af],aJ,m,_,Z,Z,aK⟩
theorem Wk.f0 {aa:Value}{ab:Itm}{ac:LL}{x1:Int}(m:Mem W G w (ab::H))(ad:Ow2 R0 31 2 G ab aa ac){y:Int×(LL)}(hd:D.f0 ac x1=some y):
  Calls prog 35 #[(.agg #[aa]),(iv x1)] w (Res W G H (λG' Ho v=>∃i0:Itm,Ho=[i0]∧v=(iv y.1)∧Ow2 R0 31 2 G' i0 aa y.2)):=by
 refine Ay (args:=[(.agg #[aa]),(iv x1)]) (N:=10) [.tmp 4] func35 Z Z (lb Z) Z λa f=> ?_
 unfold D.f0 at hd
 refine Af ?_
 refine BO (cs:=[aa]) m f Z Z Z λae w a m f=>Ac f Z λa f=>AC ?_
 refine Bk underlying29 Z sizeOf27 f Z λa f=>AO 0 0 m Bx f Z Z Z Z λa f=>Ab f Z λa f=> ?_
 have m:=m.fr 1
 have⟨af,ag,hd⟩:=bind_some hd
 refine A1 f Z call36 (Wk.C m ad ag) λah ai aj w ak m al a f=> ?_
 obtain⟨am,rfl,rfl,an⟩:=al
 refine Ac f Z λa f=>AC ?_
 refine Ab f Z λa f=>Ac f Z λa f=>Aa ?_
 refine As ?_
 have m:=m.eraseAt 1
 obtain rfl:=sj hd
 exact⟨[(iv af.1)],f.g Z,f.d,_,[am],ak,m,_,Z,Z,an⟩
theorem Wk.f {v0:Value}{x0:LI}{x1:Int}(m:Mem W G w (H))(h0:R1 G v0 x0){y:Int}(hd:D.f x0 x1=some y):
  Calls prog 97 #[v0,(iv x1)] w (Res W G H (λ_ Ho v=>Ho=[]∧v=(iv y))):=by
 refine Ay (args:=[v0,(iv x1)]) (N:=21) [.tmp 4] func97 Z Z (lb Z) Z λa f=> ?_
 unfold D.f at hd
 refine Af ?_
 refine Ac f Z λa f=>Aa (Ag (Af ?_))
 refine Ac f Z λa f=>Aa ?_
 have⟨aa,ab,hd⟩:=bind_some hd
 refine AL (λa w=>∃q_20':Int,aa= .inl q_20'∧∃ac:Int,ac=q_20'∧∃(ad:GH),GLe G ad∧Fr a 21 [(1,(iv ac))]∧Mem W ad w (H)) ?_ ?_
 ·refine Ak ?_
  refine AK (λae a w=>∃af:Int,∃ag:Int,(af,ag)=ae∧∃(ah:GH),GLe G ah∧Fr a 21 [(0,v0),(1,(iv af)),(5,(iv ag))]∧Mem W ah w (H)) ab ⟨_,_,Z,_,gr,f.k Z,m⟩ ?_
  clear ab f m
  rintro ae ai aj ak a w ⟨af,ag,rfl,ah,al,f,m⟩
  have h0:=rd1 al h0
  refine Ag (Af ?_)
  refine Ab f Z λa f=>Ab f Z λa f=>A5 underlying31 f Z Z h0 λa f=>Ai f Z Z AI λa f=>Aa ?_
  rcases Ae aj with⟨am,aj⟩|⟨am,aj⟩
  ·refine Am f Z am ?_
   refine An ?_
   refine Ag (Ak (Ag (Af ?_)))
   refine Ab f Z λa f=>Ab f Z λa f=> ?_
   have⟨an,ao,aj⟩:=bind_some aj
   refine Be T31 f Z Z Z h0 ao λap aq a ar au f=> ?_
   subst au
   refine AM m Pl2 f Z Z ar λa f=>Ab f Z λa f=>Ai f Z Z B9 λa f=>Aa ?_
   rcases Ae aj with⟨av,aj⟩|⟨av,aj⟩
   ·refine Am f Z av ?_
    refine Af ?_
    refine Ac f Z λa f=>Aa ?_
    refine As ?_
    obtain rfl:=sj aj
    obtain rfl:=ak _ rfl
    obtain rfl:=sj hd
    exact⟨[(iv (-1))],f.g Z,f.d,_,[],al,m,Z,Z⟩
   ·refine Aj f Z av ?_
    refine An ?_
    refine Ao ?_
    refine Ab f Z λa f=>Ai f Z Z Az λa f=>Ac f Z λa f=>Aa (Ao ?_)
    refine Ab f Z λa f=>Ai f Z Z Az λa f=>Ac f Z λa f=>Aa ?_
    obtain rfl:=sj aj
    exact⟨_,Z,_,_,Z,_,al,f.k Z,m⟩
  ·refine Aj f Z am ?_
   refine AE Z ?_
   obtain rfl:=sj aj
   obtain rfl:=ak _ rfl
   exact⟨_,Z,_,Z,_,al,f.k Z,m⟩
 ·rintro a w ⟨_,rfl,ac,rfl,ad,aw,f,m⟩
  refine Af ?_
  refine Ab f Z λa f=>Ac f Z λa f=>Aa ?_
  refine As ?_
  obtain rfl:=sj hd
  exact⟨[(iv ac)],f.g Z,f.d,_,[],aw,m,Z,Z⟩
theorem Wk.F {v0:Value}{x0:LL}{x1:Int}(m:Mem W G w (H))(h0:R2 G v0 x0){y:Int}(hd:D.F x0 x1=some y):
  Calls prog 37 #[v0,(iv x1)] w (Res W G H (λ_ Ho v=>Ho=[]∧v=(iv y))):=by
 refine Ay (args:=[v0,(iv x1)]) (N:=21) [.tmp 4] func37 Z Z (lb Z) Z λa f=> ?_
 unfold D.F at hd
 refine Af ?_
 refine Ac f Z λa f=>Aa (Ag (Af ?_))
 refine Ac f Z λa f=>Aa ?_
 have⟨aa,ab,hd⟩:=bind_some hd
 refine AL (λa w=>∃q_34':Int,aa= .inl q_34'∧∃ac:Int,ac=q_34'∧∃(ad:GH),GLe G ad∧Fr a 21 [(1,(iv ac))]∧Mem W ad w (H)) ?_ ?_
 ·refine Ak ?_
  refine AK (λae a w=>∃af:Int,∃ag:Int,(af,ag)=ae∧∃(ah:GH),GLe G ah∧Fr a 21 [(0,v0),(1,(iv af)),(5,(iv ag))]∧Mem W ah w (H)) ab ⟨_,_,Z,_,gr,f.k Z,m⟩ ?_
  clear ab f m
  rintro ae ai aj ak a w ⟨af,ag,rfl,ah,al,f,m⟩
  have h0:=rd2 al h0
  refine Ag (Af ?_)
  refine Ab f Z λa f=>Ab f Z λa f=>A5 underlying27 f Z Z h0 λa f=>Ai f Z Z AI λa f=>Aa ?_
  rcases Ae aj with⟨am,aj⟩|⟨am,aj⟩
  ·refine Am f Z am ?_
   refine An ?_
   refine Ag (Ak (Af ?_))
   refine Ab f Z λa f=>Ab f Z λa f=> ?_
   have⟨an,ao,aj⟩:=bind_some aj
   refine Be T27 f Z Z Z h0 ao λap aq a ar au f=>AM m Bq f Z Z ar λa f=>Ab f Z λa f=> ?_
   have⟨av,aw,aj⟩:=bind_some aj
   refine Bz f Z call97 (Wk.f m au aw) λax w ay m a f=>Ac f Z λa f=>AC ?_
   refine Ab f Z λa f=>Ai f Z Z AI λa f=>Aa ?_
   rcases Ae aj with⟨az,aj⟩|⟨az,aj⟩
   ·refine Am f Z az ?_
    refine Af ?_
    refine Ac f Z λa f=>Aa ?_
    refine As ?_
    obtain rfl:=sj aj
    obtain rfl:=ak _ rfl
    obtain rfl:=sj hd
    exact⟨[(iv (-1))],f.g Z,f.d,_,[],(gt al ay),m,Z,Z⟩
   ·refine Aj f Z az ?_
    refine An ?_
    refine Ao ?_
    refine Ab f Z λa f=>Ai f Z Z Az λa f=>Ac f Z λa f=>Aa ?_
    obtain rfl:=sj aj
    exact⟨_,Z,_,_,Z,_,(gt al ay),f.k Z,m⟩
  ·refine Aj f Z am ?_
   refine AE Z ?_
   obtain rfl:=sj aj
   obtain rfl:=ak _ rfl
   exact⟨_,Z,_,Z,_,al,f.k Z,m⟩
 ·rintro a w ⟨_,rfl,ac,rfl,ad,aA,f,m⟩
  refine Af ?_
  refine Ab f Z λa f=>Ac f Z λa f=>Aa ?_
  refine As ?_
  obtain rfl:=sj hd
  exact⟨[(iv ac)],f.g Z,f.d,_,[],aA,m,Z,Z⟩
set_option maxHeartbeats 1000000 in
theorem Wk.E0 {aa:Value}{ab:LL}(hW:C9 W)(m:Mem W G w (H))(ac:R2 G aa ab){y:Bool}(hd:D.E0 ab=some y):
  Calls prog 5 #[(.agg #[aa])] w (Res W G H (λ_ Ho v=>Ho=[]∧v=(.bool y))):=by
 refine Ay (args:=[(.agg #[aa])]) (N:=96) [.tmp 2] func5 Z Z (lb Z) Z λa f=> ?_
 unfold D.E0 at hd
 refine Af ?_
 refine BO (cs:=[aa]) m f Z Z Z λad w a m f=>Ac f Z λa f=>AC ?_
 refine Ac f Z λa f=>AC ?_
 refine Bp 0 0 (ds:=[aa]) m Ag43 f Z Z Z Z Z λa f=>Ab f Z λa f=> ?_
 have⟨ae,af,hd⟩:=bind_some hd
 refine Bz f Z call29 (Wk.c0 m ac af) λag w ah m a f=> ?_
 have ac:=rd2 ah ac
 refine Ac f Z λa f=>Aa (Ag (Af ?_))
 refine Ab f Z λa f=>Ai f Z Z AI λa f=>Aa ?_
 rcases Ae hd with⟨ai,hd⟩|⟨ai,hd⟩
 ·refine Am f Z ai ?_
  refine Af ?_
  refine Ac f Z λa f=>Aa ?_
  refine As ?_
  have m:Mem W ag w H:=Mem.drop (H':=[ib ad 43 [aa]]) m
  obtain rfl:=sj hd
  exact⟨[(.bool true)],f.g Z,f.d,_,[],ah,m,Z,Z⟩
 ·refine Aj f Z ai ?_
  refine An ?_
  refine Af ?_
  refine Bp 0 0 (ds:=[aa]) m Ag43 f Z Z Z Z Z λa f=> ?_
  have⟨aj,ak,hd⟩:=bind_some hd
  refine A1 f Z call31 (Wk.r m ac ak) λal am an w ao m ap a f=> ?_
  obtain⟨aq,ar,rfl,rfl,au⟩:=ap
  have ac:=rd2 ao ac
  obtain⟨av,aw,m,ax⟩:=Ow2.stamp (RI.mono _) au m
  have ac:=rd2 aw ac
  have⟨ay,az,hd⟩:=bind_some hd
  refine A1 f Z call30 (Wk.y m ax az) λaA aB aC w aD m aE a f=> ?_
  obtain⟨aF,aG,rfl,rfl,aH⟩:=aE
  have ac:=rd2 aD ac
  refine Ab f Z λa f=>l_o f (A3 (f.e Z) Z) λa f=>l_o f (A3 (f.e Z) Z) λa f=>Ac f Z λa f=>Ac f Z λa f=>AC ?_
  refine Bp 1 0 (ds:=[aa]) m Ag43 f Z Z Z Z Z λa f=> ?_
  have⟨aI,aJ,hd⟩:=bind_some hd
  refine A1 f Z call31 (Wk.r m ac aJ) λaK aL aM w aN m aO a f=> ?_
  obtain⟨aP,aQ,rfl,rfl,aR⟩:=aO
  have ac:=rd2 aN ac
  have aH:=Ow.mono (RSl.mono (RI.mono _)) aN aH
  refine BT (cs:=[sn]) zeroValue29 m f Z Z λaS w a m f=>Bb 0 0 (ds:=[aP]) m sizeOf29 f Z Z Z (Ap (Ow2.one1 1 m aR Z) AG) Z (lb Z) Z λw m=>AC ?_
  refine Bp 0 0 (ds:=[aP]) m CV f Z Z Z Z Z λa f=> ?_
  have⟨aT,aU,hd⟩:=bind_some hd
  refine A1 f Z call32 (Ow2.lendCall (RI.mono _) 1 aR m Z (λaV aW m aX=>Wk.s hW m aX aU) (λ_ G' _ _ ⟨a0,a1,e1,e2,o0⟩=>⟨a0,a1,e1,e2,Ow2.free (RI.free _) G' o0⟩)) λaY aZ a2 w a3 m a4 a f=> ?_
  obtain⟨a5,a6,rfl,rfl,a7⟩:=a4
  have ac:=rd2 a3 ac
  have aR:=od2 a3 aR
  have aH:=Ow.mono (RSl.mono (RI.mono _)) a3 aH
  refine Ab f Z λa f=>l_o f (A3 (f.e Z) Z) λa f=>l_o f (A3 (f.e Z) Z) λa f=>Ac f Z λa f=>Ac f Z λa f=>Aa (Ag (Af ?_))
  refine Ab f Z λa f=>Ab f Z λa f=> ?_
  have⟨a8,a9,hd⟩:=bind_some hd
  refine A1 f Z call33 (Ow2.lendCall (RI.mono _) 0 a7 m Z (λba bb m bc=>(Ow.lendCall (RSl.mono (RI.mono _)) 2 (Ow.mono (RSl.mono (RI.mono _)) bb aH) m Z (λbd be m bf=>Wk.n m (rd2 be bc) bf a9) (λ_ _ _ _ h=>h))) (λ_ _ _ _ h=>h)) λbg bh bi w bj m bk a f=> ?_
  obtain⟨rfl,rfl⟩:=bk
  have ac:=rd2 bj ac
  have a7:=od2 bj a7
  have aR:=od2 bj aR
  have aH:=Ow.mono (RSl.mono (RI.mono _)) bj aH
  refine l_o f (Bt (f.e Z)) λa f=>Ab f Z λa f=> ?_
  refine BJ 4 (λa w=>∃bl,GLe bh bl∧Mem W bl w (a6::ib aS 29 [aP]::aQ::aG::ib ad 43 [aa]::H)∧Fr a 96 [(0,(.agg #[aa])),(1,(pb ad)),(3,(iv ae)),(4,aF),(5,(.bool ay.2)),(6,(pb aS)),(7,a5),(8,(.bool aT.2)),(32,a5),(33,aF),(34,(.bool a8)),(35,(.bool (!a8))),(36,(.bool (!a8))),(40,(.bool ((!a8)||(aT.2 !=ay.2))))]) ?_ ?_
  ·rcases Bool.eq_false_or_eq_true (!a8) with bm|bm
   ·refine AJ f bm λa f=> ?_
    refine AJ f bm λa f=>AJ f bm λa f=>l_o f (A7 (f.e Z) bm (f.e Z)) λa f=> ?_
    exact⟨_,gr,m,f.weak ⟨Z,Z,Z,Z,Z,Z,Z,Z,Z,Z,Z,Z,Z,by rw[bm];rfl,trivial⟩⟩
   ·refine AH f bm ?_
    refine Ab f Z λa f=>AH f bm ?_
    refine Ab f Z λa f=>AH f bm ?_
    refine l_o f (D5 (f.e Z) (f.e Z) underlying4) λa f=>l_o f (A8 (f.e Z) bm (f.e Z)) λa f=> ?_
    exact⟨_,gr,m,f.weak ⟨Z,Z,Z,Z,Z,Z,Z,Z,Z,Z,Z,Z,Z,by rw[bm];rfl,trivial⟩⟩
  ·rintro a w ⟨bl,bn,m,f⟩
   have ac:=rd2 bn ac
   have a7:=od2 bn a7
   have aR:=od2 bn aR
   have aH:=Ow.mono (RSl.mono (RI.mono _)) bn aH
   refine Aa ?_
   rcases Ae hd with⟨bo,hd⟩|⟨bo,hd⟩
   ·refine Am f Z bo ?_
    refine Af ?_
    refine Ac f Z λa f=>Aa ?_
    refine As ?_
    have m:Mem W bl w H:=Mem.drop (H':=[a6,ib aS 29 [aP],aQ,aG,ib ad 43 [aa]]) m
    obtain rfl:=sj hd
    exact⟨[(.bool false)],f.g Z,f.d,_,[],(gt ah (gt ao (gt aw (gt aD (gt aN (gt a3 (gt bj bn))))))),m,Z,Z⟩
   ·refine Aj f Z bo ?_
    refine An ?_
    refine Ag (Ag ?_)
    refine A9 5 AN (by kernel_rfl) m ?_
    refine CW (i:=0) (ds:=[aP]) 5 1 CV Z Z Z Z (by kernel_rfl) Z f Z Z Z λa f=>CW (i:=1) (ds:=[aa]) 5 4 Ag43 Z Z Z Z (by kernel_rfl) Z f Z Z Z λa f=>CG 2 Z λbp w bq m br br=> ?_
    have ac:=rd2 bq ac
    have a7:=od2 bq a7
    have aR:=od2 bq aR
    have aH:=Ow.mono (RSl.mono (RI.mono _)) bq aH
    have⟨bs,bt,hd⟩:=bind_some hd
    refine A1 f Z call31 (Wk.r m ac bt) λbu bv bw w bx m bz a f=> ?_
    obtain⟨bA,bB,rfl,rfl,bC⟩:=bz
    have ac:=rd2 bx ac
    have a7:=od2 bx a7
    have aR:=od2 bx aR
    have aH:=Ow.mono (RSl.mono (RI.mono _)) bx aH
    refine Aa ?_
    refine br bv [bB] _ _ bx m ?_
    refine CG 3 Z λbD w bE m bF bF=> ?_
    have ac:=rd2 bE ac
    have bC:=od2 bE bC
    have a7:=od2 bE a7
    have aR:=od2 bE aR
    have aH:=Ow.mono (RSl.mono (RI.mono _)) bE aH
    have⟨bG,bH,hd⟩:=bind_some hd
    refine A1 f Z call34 (Ow2.lendCall (RI.mono _) 3 aR m Z (λbI bJ m bK=>(Ow2.lendCall (RI.mono _) 0 (od2 bJ bC) m Z (λbL bM m bN=>Wk.h0 m (rd2 bM bK) bN bH) (λ_ _ _ _ h=>h))) (λ_ _ _ _ h=>h)) λbO bP bQ w bR m bS a f=> ?_
    obtain⟨rfl,rfl⟩:=bS
    have ac:=rd2 bR ac
    have a7:=od2 bR a7
    have aR:=od2 bR aR
    have aH:=Ow.mono (RSl.mono (RI.mono _)) bR aH
    refine Aa ?_
    refine bF bP [bB] _ _ bR m ?_
    refine q_p 4 5 Z f (λ_=>Bt (f.e Z)) λa f=>AY λbT w bU m=> ?_
    have ac:=rd2 bU ac
    have a7:=od2 bU a7
    have aR:=od2 bU aR
    have aH:=Ow.mono (RSl.mono (RI.mono _)) bU aH
    refine Aa ?_
    rcases Ae hd with⟨bV,hd⟩|⟨bV,hd⟩
    ·refine Am f Z bV ?_
     refine Af ?_
     refine Ac f Z λa f=>Aa ?_
     refine As ?_
     have m:Mem W bT w H:=Mem.drop (H':=[bB,a6,ib aS 29 [aP],aQ,aG,ib ad 43 [aa]]) m
     obtain rfl:=sj hd
     exact⟨[(.bool false)],f.g Z,f.d,_,[],(gt ah (gt ao (gt aw (gt aD (gt aN (gt a3 (gt bj (gt bn (gt bq (gt bx (gt bE (gt bR bU)))))))))))),m,Z,Z⟩
    ·refine Aj f Z bV ?_
     refine An ?_
     refine Af ?_
     refine Ac f Z λa f=>AC ?_
     refine Bp 2 0 (ds:=[aP]) m CV f Z Z Z Z Z λa f=>Ab f Z λa f=> ?_
     have m:Mem W bT w (aQ::bB::a6::ib aS 29 [aP]::aG::ib ad 43 [aa]::H):=m.fr 3
     have⟨bW,bX,hd⟩:=bind_some hd
     refine A1 f Z call35 (Wk.f0 m aR bX) λbY bZ b0 w b1 m b2 a f=> ?_
     obtain⟨b3,rfl,rfl,b4⟩:=b2
     have ac:=rd2 b1 ac
     have a7:=od2 b1 a7
     have aH:=Ow.mono (RSl.mono (RI.mono _)) b1 aH
     refine Ac f Z λa f=>Aa (Ag (Af ?_))
     refine Ab f Z λa f=>Ai f Z Z AI λa f=>Ab f Z λa f=> ?_
     have⟨b5,b6,hd⟩:=bind_some hd
     refine BJ 5 (λa w=>∃b7,GLe bZ b7∧Mem W b7 w (b3::bB::a6::ib aS 29 [aP]::aG::ib ad 43 [aa]::H)∧Fr a 96 [(0,(.agg #[aa])),(1,(pb ad)),(3,(iv ae)),(4,aF),(5,(.bool ay.2)),(6,(pb aS)),(7,a5),(8,(.bool aT.2)),(9,(iv bW.1)),(49,(iv bW.1)),(50,(.bool (decide (bW.1<0)))),(51,(.bool (decide (bW.1<0)))),(56,(.bool b5))]) ?_ ?_
     ·rcases Ae b6 with⟨b8,b6⟩|⟨b8,b6⟩
      ·refine AJ f b8 λa f=> ?_
       refine AJ f b8 λa f=>AJ f b8 λa f=>AJ f b8 λa f=>l_o f (A7 (f.e Z) b8 (f.e Z)) λa f=> ?_
       obtain rfl:=sj b6
       exact⟨_,gr,m,f.k Z⟩
      ·refine AH f b8 ?_
       refine Ab f Z λa f=>AH f b8 ?_
       refine Ab f Z λa f=>AH f b8 ?_
       have⟨b9,ca,b6⟩:=bind_some b6
       refine A1 f Z call33 (Ow2.lendCall (RI.mono _) 2 a7 m Z (λcb cc m cd=>(Ow.lendCall (RSl.mono (RI.mono _)) 3 (Ow.mono (RSl.mono (RI.mono _)) cc aH) m Z (λce cf m cg=>Wk.n m (rd2 cf cd) cg ca) (λ_ _ _ _ h=>h))) (λ_ _ _ _ h=>h)) λch ci cj w ck m cl a f=> ?_
       obtain⟨rfl,rfl⟩:=cl
       refine AH f b8 ?_
       refine l_o f (Bt (f.e Z)) λa f=>l_o f (A8 (f.e Z) b8 (f.e Z)) λa f=> ?_
       obtain rfl:=sj b6
       exact⟨_,ck,m,f.k Z⟩
     ·rintro a w ⟨b7,cm,m,f⟩
      have ac:=rd2 cm ac
      have a7:=od2 cm a7
      have aH:=Ow.mono (RSl.mono (RI.mono _)) cm aH
      refine Ab f Z λa f=> ?_
      refine BJ 4 (λa w=>∃cn,GLe b7 cn∧Mem W cn w (b3::bB::a6::ib aS 29 [aP]::aG::ib ad 43 [aa]::H)∧Fr a 96 [(0,(.agg #[aa])),(1,(pb ad)),(3,(iv ae)),(4,aF),(5,(.bool ay.2)),(6,(pb aS)),(7,a5),(8,(.bool aT.2)),(9,(iv bW.1)),(49,(iv bW.1)),(50,(.bool (decide (bW.1<0)))),(51,(.bool (decide (bW.1<0)))),(56,(.bool b5)),(57,(.bool b5)),(61,(.bool (b5||(aT.2 !=ay.2))))]) ?_ ?_
      ·rcases Bool.eq_false_or_eq_true b5 with co|co
       ·refine AJ f co λa f=> ?_
        refine AJ f co λa f=>AJ f co λa f=>l_o f (A7 (f.e Z) co (f.e Z)) λa f=> ?_
        exact⟨_,gr,m,f.weak ⟨Z,Z,Z,Z,Z,Z,Z,Z,Z,Z,Z,Z,Z,Z,by rw[co];rfl,trivial⟩⟩
       ·refine AH f co ?_
        refine Ab f Z λa f=>AH f co ?_
        refine Ab f Z λa f=>AH f co ?_
        refine l_o f (D5 (f.e Z) (f.e Z) underlying4) λa f=>l_o f (A8 (f.e Z) co (f.e Z)) λa f=> ?_
        exact⟨_,gr,m,f.weak ⟨Z,Z,Z,Z,Z,Z,Z,Z,Z,Z,Z,Z,Z,Z,by rw[co];rfl,trivial⟩⟩
      ·rintro a w ⟨cn,cp,m,f⟩
       have ac:=rd2 cp ac
       have a7:=od2 cp a7
       have aH:=Ow.mono (RSl.mono (RI.mono _)) cp aH
       refine Aa ?_
       rcases Ae hd with⟨cq,hd⟩|⟨cq,hd⟩
       ·refine Am f Z cq ?_
        refine Af ?_
        refine Ac f Z λa f=>Aa ?_
        refine As ?_
        have m:Mem W cn w H:=Mem.drop (H':=[b3,bB,a6,ib aS 29 [aP],aG,ib ad 43 [aa]]) m
        obtain rfl:=sj hd
        exact⟨[(.bool false)],f.g Z,f.d,_,[],(gt ah (gt ao (gt aw (gt aD (gt aN (gt a3 (gt bj (gt bn (gt bq (gt bx (gt bE (gt bR (gt bU (gt b1 (gt cm cp))))))))))))))),m,Z,Z⟩
       ·refine Aj f Z cq ?_
        refine An ?_
        refine Af ?_
        refine Ac f Z λa f=>AC ?_
        refine Ab f Z λa f=>Ab f Z λa f=> ?_
        have m:Mem W cn w (a6::b3::bB::ib aS 29 [aP]::aG::ib ad 43 [aa]::H):=m.fr 2
        have⟨cr,ct,hd⟩:=bind_some hd
        refine A1 f Z call36 (Wk.C m a7 ct) λcu cv cw w cx m cy a f=> ?_
        obtain⟨cz,rfl,rfl,cA⟩:=cy
        have ac:=rd2 cx ac
        have aH:=Ow.mono (RSl.mono (RI.mono _)) cx aH
        refine Ac f Z λa f=>AC ?_
        refine Ac f Z λa f=>AC ?_
        refine Ab f Z λa f=>Ab f Z λa f=> ?_
        have⟨cB,cC,hd⟩:=bind_some hd
        refine A1 f Z call37 (Ow2.lendCall (RI.mono _) 0 cA m Z (λcD cE m cF=>Wk.F m cF cC) (λ_ _ _ _ h=>h)) λcG cH cI w cJ m cK a f=> ?_
        obtain⟨rfl,rfl⟩:=cK
        have ac:=rd2 cJ ac
        have cA:=od2 cJ cA
        have aH:=Ow.mono (RSl.mono (RI.mono _)) cJ aH
        refine Ac f Z λa f=>Aa (Ag (Af ?_))
        refine Ab f Z λa f=>Ai f Z Z AI λa f=>Aa ?_
        rcases Ae hd with⟨cL,hd⟩|⟨cL,hd⟩
        ·refine Am f Z cL ?_
         refine Af ?_
         refine Ac f Z λa f=>Aa ?_
         refine As ?_
         have m:Mem W cH w H:=Mem.drop (H':=[cz,b3,bB,ib aS 29 [aP],aG,ib ad 43 [aa]]) m
         obtain rfl:=sj hd
         exact⟨[(.bool false)],f.g Z,f.d,_,[],(gt ah (gt ao (gt aw (gt aD (gt aN (gt a3 (gt bj (gt bn (gt bq (gt bx (gt bE (gt bR (gt bU (gt b1 (gt cm (gt cp (gt cx cJ))))))))))))))))),m,Z,Z⟩
        ·refine Aj f Z cL ?_
         refine An ?_
         refine Ag (Af ?_)
         refine Ab f Z λa f=>Ab f Z λa f=>Ai f Z Z B9 λa f=>Aa ?_
         rcases Ae hd with⟨cM,hd⟩|⟨cM,hd⟩
         ·refine Am f Z cM ?_
          refine Af ?_
          refine Ac f Z λa f=>Aa ?_
          refine As ?_
          have m:Mem W cH w H:=Mem.drop (H':=[cz,b3,bB,ib aS 29 [aP],aG,ib ad 43 [aa]]) m
          obtain rfl:=sj hd
          exact⟨[(.bool false)],f.g Z,f.d,_,[],(gt ah (gt ao (gt aw (gt aD (gt aN (gt a3 (gt bj (gt bn (gt bq (gt bx (gt bE (gt bR (gt bU (gt b1 (gt cm (gt cp (gt cx cJ))))))))))))))))),m,Z,Z⟩
         ·refine Aj f Z cM ?_
          refine An ?_
          refine Af ?_
          refine Bp 5 0 (ds:=[aa]) m Ag43 f Z Z Z Z Z λa f=> ?_
          have⟨cN,cO,hd⟩:=bind_some hd
          refine A1 f Z call31 (Wk.r m ac cO) λcP cQ cR w cS m cT a f=> ?_
          obtain⟨cU,cV,rfl,rfl,cW⟩:=cT
          have cA:=od2 cS cA
          have aH:=Ow.mono (RSl.mono (RI.mono _)) cS aH
          have⟨cX,cY,hd⟩:=bind_some hd
          refine A1 f Z call32 (Ow2.lendCall (RI.mono _) 0 cW m Z (λcZ c0 m c1=>Wk.s hW m c1 cY) (λ_ G' _ _ ⟨a0,a1,e1,e2,o0⟩=>⟨a0,a1,e1,e2,Ow2.free (RI.free _) G' o0⟩)) λc2 c3 c4 w c5 m c6 a f=> ?_
          obtain⟨c7,c8,rfl,rfl,c9⟩:=c6
          have cA:=od2 c5 cA
          have aH:=Ow.mono (RSl.mono (RI.mono _)) c5 aH
          refine Ab f Z λa f=>l_o f (A3 (f.e Z) Z) λa f=>l_o f (A3 (f.e Z) Z) λa f=>Ac f Z λa f=>Ac f Z λa f=>Aa (Ag (Af ?_))
          refine Ab f Z λa f=>Ab f Z λa f=> ?_
          have⟨da,db,hd⟩:=bind_some hd
          refine A1 f Z call33 (Ow2.lendCall (RI.mono _) 0 c9 m Z (λdc dd m de=>(Ow.lendCall (RSl.mono (RI.mono _)) 5 (Ow.mono (RSl.mono (RI.mono _)) dd aH) m Z (λdf dg m dh=>Wk.n m (rd2 dg de) dh db) (λ_ _ _ _ h=>h))) (λ_ _ _ _ h=>h)) λdi dj dk w dl m dm a f=> ?_
          obtain⟨rfl,rfl⟩:=dm
          have cA:=od2 dl cA
          refine l_o f (Bt (f.e Z)) λa f=>Ab f Z λa f=> ?_
          refine BJ 4 (λa w=>∃dn,GLe dj dn∧Mem W dn w (c8::cV::cz::b3::bB::ib aS 29 [aP]::aG::ib ad 43 [aa]::H)∧Fr a 96 [(0,(.agg #[aa])),(1,(pb ad)),(3,(iv ae)),(4,aF),(5,(.bool ay.2)),(6,(pb aS)),(7,a5),(8,(.bool aT.2)),(9,(iv bW.1)),(10,(iv cr.1)),(11,(iv cB)),(12,c7),(13,(.bool cX.2)),(79,c7),(80,aF),(81,(.bool da)),(82,(.bool (!da))),(83,(.bool (!da))),(87,(.bool ((!da)||(cX.2 !=ay.2))))]) ?_ ?_
          ·rcases Bool.eq_false_or_eq_true (!da) with dp|dp
           ·refine AJ f dp λa f=> ?_
            refine AJ f dp λa f=>AJ f dp λa f=>l_o f (A7 (f.e Z) dp (f.e Z)) λa f=> ?_
            exact⟨_,gr,m,f.weak ⟨Z,Z,Z,Z,Z,Z,Z,Z,Z,Z,Z,Z,Z,Z,Z,Z,Z,Z,by rw[dp];rfl,trivial⟩⟩
           ·refine AH f dp ?_
            refine Ab f Z λa f=>AH f dp ?_
            refine Ab f Z λa f=>AH f dp ?_
            refine l_o f (D5 (f.e Z) (f.e Z) underlying4) λa f=>l_o f (A8 (f.e Z) dp (f.e Z)) λa f=> ?_
            exact⟨_,gr,m,f.weak ⟨Z,Z,Z,Z,Z,Z,Z,Z,Z,Z,Z,Z,Z,Z,Z,Z,Z,Z,by rw[dp];rfl,trivial⟩⟩
          ·rintro a w ⟨dn,dq,m,f⟩
           have cA:=od2 dq cA
           refine Aa ?_
           rcases Ae hd with⟨dr,hd⟩|⟨dr,hd⟩
           ·refine Am f Z dr ?_
            refine Af ?_
            refine Ac f Z λa f=>Aa ?_
            refine As ?_
            have m:Mem W dn w H:=Mem.drop (H':=[c8,cV,cz,b3,bB,ib aS 29 [aP],aG,ib ad 43 [aa]]) m
            obtain rfl:=sj hd
            exact⟨[(.bool false)],f.g Z,f.d,_,[],(gt ah (gt ao (gt aw (gt aD (gt aN (gt a3 (gt bj (gt bn (gt bq (gt bx (gt bE (gt bR (gt bU (gt b1 (gt cm (gt cp (gt cx (gt cJ (gt cS (gt c5 (gt dl dq))))))))))))))))))))),m,Z,Z⟩
           ·refine Aj f Z dr ?_
            refine An ?_
            refine Af ?_
            refine Ac f Z λa f=>AC ?_
            refine Ab f Z λa f=>Ab f Z λa f=> ?_
            have⟨dt,du,hd⟩:=bind_some hd
            refine A1 f Z call37 (Ow2.lendCall (RI.mono _) 2 cA m Z (λdv dw m dx=>Wk.F m dx du) (λ_ _ _ _ h=>h)) λdy dz dA w dB m dC a f=> ?_
            obtain⟨rfl,rfl⟩:=dC
            refine Ac f Z λa f=>Aa (Ag (Af ?_))
            refine Ab f Z λa f=>Ai f Z Z AI λa f=>Aa ?_
            rcases Ae hd with⟨dD,hd⟩|⟨dD,hd⟩
            ·refine Am f Z dD ?_
             refine Af ?_
             refine Ac f Z λa f=>Aa ?_
             refine As ?_
             have m:Mem W dz w H:=Mem.drop (H':=[c8,cV,cz,b3,bB,ib aS 29 [aP],aG,ib ad 43 [aa]]) m
             obtain rfl:=sj hd
             exact⟨[(.bool false)],f.g Z,f.d,_,[],(gt ah (gt ao (gt aw (gt aD (gt aN (gt a3 (gt bj (gt bn (gt bq (gt bx (gt bE (gt bR (gt bU (gt b1 (gt cm (gt cp (gt cx (gt cJ (gt cS (gt c5 (gt dl (gt dq dB)))))))))))))))))))))),m,Z,Z⟩
            ·refine Aj f Z dD ?_
             refine An ?_
             refine Ag (Af ?_)
             refine Ab f Z λa f=>Ab f Z λa f=>Ai f Z Z B9 λa f=>Aa ?_
             rcases Ae hd with⟨dE,hd⟩|⟨dE,hd⟩
             ·refine Am f Z dE ?_
              refine Af ?_
              refine Ac f Z λa f=>Aa ?_
              refine As ?_
              have m:Mem W dz w H:=Mem.drop (H':=[c8,cV,cz,b3,bB,ib aS 29 [aP],aG,ib ad 43 [aa]]) m
              obtain rfl:=sj hd
              exact⟨[(.bool false)],f.g Z,f.d,_,[],(gt ah (gt ao (gt aw (gt aD (gt aN (gt a3 (gt bj (gt bn (gt bq (gt bx (gt bE (gt bR (gt bU (gt b1 (gt cm (gt cp (gt cx (gt cJ (gt cS (gt c5 (gt dl (gt dq dB)))))))))))))))))))))),m,Z,Z⟩
             ·refine Aj f Z dE ?_
              refine An ?_
              refine Af ?_
              refine Ac f Z λa f=>Aa ?_
              refine As ?_
              have m:Mem W dz w H:=Mem.drop (H':=[c8,cV,cz,b3,bB,ib aS 29 [aP],aG,ib ad 43 [aa]]) m
              obtain rfl:=sj hd
              exact⟨[(.bool true)],f.g Z,f.d,_,[],(gt ah (gt ao (gt aw (gt aD (gt aN (gt a3 (gt bj (gt bn (gt bq (gt bx (gt bE (gt bR (gt bU (gt b1 (gt cm (gt cp (gt cx (gt cJ (gt cS (gt c5 (gt dl (gt dq dB)))))))))))))))))))))),m,Z,Z⟩
end Go.Proofs.YtmkcbhidbdggiaaDoor

namespace Go.Sx
def Gm (E:Nat→Nat→Prop)(a b c d:Nat):Prop:=E c d∧((a=c∧¬E b d∧b≠d)∨(b=d∧¬E a c∧a≠c))
def Kl (E:Nat→Nat→Prop)(a b c d:Nat):Prop:=∀T:Nat→Nat→Prop,T a b→(∀p q r s,T p q→Gm E p q r s→T r s)→T c d
section
variable {E : Nat → Nat → Prop} (hs : ∀ a b, E a b → E b a) (hi : ∀ a, ¬ E a a)
theorem Kl.refl {a b:Nat}:Kl E a b a b:=λ_ h _=>h
theorem Kl.step {a b c d p q:Nat}(h:Kl E a b c d)(g:Gm E c d p q):Kl E a b p q:=λT h1 h2=>h2 _ _ _ _ (h T h1 h2) g
theorem Kl.trans {a b c d p q:Nat}(h:Kl E a b c d)(g:Kl E c d p q):Kl E a b p q:=λT h1 h2=>g T (h T h1 h2) h2
theorem Kl.edge {a b c d:Nat}(he:E a b)(h:Kl E a b c d):E c d:=h (λp q=>E p q) he (λ_ _ _ _ _ g=>g.1)
include hs
theorem Gm.sym {a b c d:Nat}(he:E a b)(h:Gm E a b c d):Gm E c d a b:=by
 rcases h with⟨h0,⟨h1,h2,h3⟩|⟨h1,h2,h3⟩⟩
 ·exact⟨he,.inl ⟨h1.symm,λe=>h2 (hs _ _ e),λe=>h3 e.symm⟩⟩
 ·exact⟨he,.inr ⟨h1.symm,λe=>h2 (hs _ _ e),λe=>h3 e.symm⟩⟩
theorem Gm.op {a b c d:Nat}(h:Gm E a b c d):Gm E b a d c:=by
 rcases h with⟨h0,⟨h1,h2,h3⟩|⟨h1,h2,h3⟩⟩
 ·exact⟨hs _ _ h0,.inr ⟨h1,h2,h3⟩⟩
 ·exact⟨hs _ _ h0,.inl ⟨h1,h2,h3⟩⟩
theorem Kl.sym {a b c d:Nat}(he:E a b)(h:Kl E a b c d):Kl E c d a b:=
 (h (λp q=>E p q∧Kl E p q a b) ⟨he,Kl.refl⟩ (λ_ _ _ _ ⟨h1,h2⟩ g=>⟨g.1,(Kl.refl.step (g.sym hs h1)).trans h2⟩)).2
theorem Kl.op {a b c d:Nat}(h:Kl E a b c d):Kl E b a d c:=h (λp q=>Kl E b a q p) Kl.refl (λ_ _ _ _ h1 g=>h1.step (g.op hs))
include hi
end
def Lf (E:Nat→Nat→Prop)(x y a b:Nat):Prop:=E a b∧¬Kl E x y a b∧¬Kl E x y b a
section
variable {E : Nat → Nat → Prop} (hs : ∀ a b, E a b → E b a) (hi : ∀ a, ¬ E a a)
include hs hi
theorem Lf.sym {x y:Nat}(a b:Nat)(h:Lf E x y a b):Lf E x y b a:=⟨hs _ _ h.1,h.2.2,h.2.1⟩
end
end Go.Sx

namespace Go.Sx
structure Orn (E T:Nat→Nat→Prop):Prop where
 sub:∀a b,T a b→E a b
 all:∀a b,E a b→T a b∨T b a
 one:∀a b,T a b→¬T b a
 trn:∀a b c,T a b→T b c→T a c
section
variable {E : Nat → Nat → Prop} (hs : ∀ a b, E a b → E b a) (hi : ∀ a, ¬ E a a)
include hs
include hi
end
end Go.Sx

namespace Go.Sx
def Out (l:LI)(a0 b0 a b:Int):Prop:=∀i j,a0≤i→i<j→j<b0→¬(a≤i∧j<b)→at' l i≤at' l j
theorem Out.keep {a0 a b b0:Int}{l l':LI}(h:Rg a b l l')(h0:0≤a0)(ha:a0≤a)(hb:b≤b0)(c:Out l a0 b0 a b):Out l' a0 b0 a b:=by
 intro i j h1 h2 h3 h4
 by_cases hi:a≤i∧i<b
 ·rw[h.out j (by omega) (by omega)]
  exact h.all (λx=>x≤at' l j) (λk k1 k2=>c k j (by omega) (by omega) h3 (by omega)) i hi.1 hi.2
 ·rw[h.out i (by omega) (by omega)]
  by_cases hj:a≤j∧j<b
  ·exact h.all (λx=>at' l i≤x) (λk k1 k2=>c i k (by omega) (by omega) (by omega) (by omega)) j hj.1 hj.2
  ·rw[h.out j (by omega) (by omega)];exact c i j h1 h2 h3 h4
theorem Dz :∀(n:Nat) (l0:LI) (a0 b0 lim:Int),0≤a0→a0≤b0→b0≤l0.length→l0.length≤1000000→b0-a0≤16→b0-a0≤12+lim→0≤lim→lim≤64→
  (0<a0→∀k,a0≤k→k<b0→at' l0 (a0-1)≤at' l0 k)→b0-a0<n→∃l',D.I0 n l0 a0 b0 lim=some l'∧Rg a0 b0 l0 l'∧Srt l' a0 b0:=by
 intro n
 induction n with
 |zero=>intro l0 a0 b0 lim h1 h2 h3 h4 h5 h6 h7 h8 h9 h10;omega
 |succ n ih=>
  intro l0 a0 b0 lim h1 h2 h3 h4 h5 h6 h7 h8 h9 h10
  unfold D.I0
  refine AV (λs=>Rg a0 b0 l0 s.1∧Out s.1 a0 b0 s.2.1 s.2.2.1∧a0≤s.2.1∧s.2.1≤s.2.2.1∧s.2.2.1≤b0∧s.2.2.1-s.2.1≤12+s.2.2.2.1∧0≤s.2.2.2.1∧s.2.2.2.1≤64∧(0<s.2.1→∀k,s.2.1≤k→k<s.2.2.1→at' s.1 (s.2.1-1)≤at' s.1 k))
   (λs=>(s.2.2.1-s.2.1).toNat) (λr=>Rg a0 b0 l0 r∧Srt r a0 b0) ?_ ?_ ?_
  ·rintro⟨l,a,b,lm,bal,par⟩ ⟨hR,hO,g1,g2,g3,g4,g5,g6,g7⟩
   dsimp only at hR hO g1 g2 g3 g4 g5 g6 g7 ⊢
   have hll:=hR.len
   have fin:∀l',Rg a b l l'→Srt l' a b→Rg a0 b0 l0 l'∧Srt l' a0 b0:=λl' hr hs=>
    ⟨hR.trans (hr.widen g1 g3 h1),λi j k1 k2 k3=>by
     by_cases hc:a≤i∧j<b
     ·exact hs i j hc.1 k2 hc.2
     ·exact(hO.keep hr h1 g1 g3) i j k1 k2 k3 hc⟩
   rw[w64 (show-9223372036854775808≤b-a by omega) (by omega)]
   by_cases hs:b-a≤12
   ·obtain⟨l',e,r1,r2⟩:=Cr l a b (by omega) g2 (by omega) (by omega)
    refine⟨.inr l',?_,fin l' r1 r2⟩
    simp only[hs,decide_true,cond_true,e,bs]
   ·have hl0:(lm==0)=false:=by simp;omega
    simp only[hs,decide_false,cond_false,hl0]
    refine BN (λq:LI×Int=>Rg a b l q.1∧b-a≤13+q.2∧0≤q.2∧q.2≤64) ?_ ?_
    ·cases bal
     ·obtain⟨l1,e,r1⟩:=Cp l a b (by omega) (by omega) (by omega) (by omega) (by omega)
      refine⟨(l1,lm-1),?_,r1,by dsimp only;omega,by dsimp only;omega,by dsimp only;omega⟩
      simp only[Bool.not_false,cond_true,e,bs]
      rw[w64 (by omega) (by omega)]
     ·exact⟨(l,lm),rfl,Rg.refl _ _ _,by dsimp only;omega,by dsimp only;omega,by dsimp only;omega⟩
    rintro⟨l1,lm1⟩ ⟨hr1,k1,k2,k3⟩
    dsimp only at hr1 k1 k2 k3 ⊢
    have hl1:=hr1.len
    obtain⟨y,ey,c1,c2,c3⟩:=CU l1 a b (by omega) (by omega) (by omega) (by omega) (by omega)
    rw[ey,bs]
    refine BN (λq:LI×Int×Int=>Rg a b l q.1∧a≤q.2.1∧q.2.1<b) ?_ ?_
    ·cases (y.2.1==2)
     ·exact⟨_,rfl,by dsimp only;rw[c1];exact hr1,c2,c3⟩
     ·obtain⟨l2,e2,r2⟩:=CE l1 a b (by omega) (by omega) (by omega) (by omega)
      rw[c1]
      simp only[cond_true,e2,bs]
      rw[w64 (show-9223372036854775808≤b-1 by omega) (by omega),w64 (show-9223372036854775808≤y.1-a by omega) (by omega),w64 (show-9223372036854775808≤b-1-(y.1-a) by omega) (by omega)]
      exact⟨_,rfl,hr1.trans r2,by dsimp only;omega,by dsimp only;omega⟩
    rintro⟨l2,p,hint⟩ ⟨hr2,p1,p2⟩
    dsimp only at hr2 p1 p2 ⊢
    have hl2:=hr2.len
    refine BN (λq:LI ⊕ LI=>match q with| .inl q=>q=l2| .inr q=>q=l2∧Srt l2 a b) ?_ ?_
    ·cases ((bal&&par)&&(hint==1))
     ·exact⟨.inl l2,rfl,rfl⟩
     ·obtain⟨y2,e2,d1,d2⟩:=B6 l2 a b (by omega) (by omega) (by omega) (by omega) (by omega)
      simp only[cond_true,e2,bs,d1]
      cases hy:y2.1
      ·exact⟨.inl l2,rfl,rfl⟩
      ·exact⟨.inr l2,rfl,rfl,d2 hy⟩
    rintro(q|q) hq
    case inr=>
     obtain⟨rfl,hq⟩:=hq
     exact⟨.inr q,rfl,fin q hr2 hq⟩
    dsimp only at hq ⊢
    subst hq
    have hO2:=hO.keep hr2 h1 g1 g3
    have g7':0<a→∀k,a≤k→k<b→at' q (a-1)≤at' q k:=λha k m1 m2=>by
     rw[hr2.out (a-1) (by omega) (.inl (by omega))]
     exact hr2.all (λx=>at' l (a-1)≤x) (g7 ha) k m1 m2
    refine BN (λc:Bool=>c=true→0<a∧at' q p≤at' q (a-1)) ?_ ?_
    ·by_cases ha:0<a
     ·have r1:idx q (a-1)=some (at' q (a-1)):=Ax (by omega) (by omega)
      have r2:idx q p=some (at' q p):=Ax (by omega) (by omega)
      rw[w64 (show-9223372036854775808≤a-1 by omega) (by omega)]
      simp only[ha,decide_true,cond_true,r1,r2,BP,bs]
      exact⟨_,rfl,λh=>⟨by trivial,by simpa using h⟩⟩
     ·simp only[ha,decide_false,cond_false]
      exact⟨_,rfl,λh=>by cases h⟩
    intro c hc
    cases c
    ·
     simp only[cond_false]
     obtain⟨⟨mid,par',l3⟩,e3,P⟩:=Db q a b p (by omega) (by omega) (by omega) p1 p2
     rw[e3,bs]
     obtain⟨hr3,m1,m2,m3,m4⟩:=P
     dsimp only at hr3 m1 m2 m3 m4 ⊢
     have hl3:=hr3.len
     have hO3:=hO2.keep hr3 h1 g1 g3
     have g7'':0<a→∀k,a≤k→k<b→at' l3 (a-1)≤at' l3 k:=λha k n1 n2=>by
      rw[hr3.out (a-1) (by omega) (.inl (by omega))]
      exact hr3.all (λx=>at' q (a-1)≤x) (g7' ha) k n1 n2
     have hR3:Rg a0 b0 l0 l3:=hR.trans ((hr2.trans hr3).widen g1 g3 h1)
     rw[w64 (show-9223372036854775808≤mid-a by omega) (by omega),w64 (show-9223372036854775808≤b-mid by omega) (by omega),w64 (show-9223372036854775808≤mid+1 by omega) (by omega)]
     by_cases hside:mid-a<b-mid
     ·simp only[hside,decide_true,cond_true]
      obtain⟨l4,e4,r4,s4⟩:=ih l3 a mid lm1 (by omega) m1 (by omega) (by omega) (by omega) (by omega) k2 k3 (λha k n1 n2=>g7'' ha k n1 (by omega)) (by omega)
      rw[e4,bs]
      have hl4:=r4.len
      have em:∀k,mid≤k→at' l4 k=at' l3 k:=λk hk=>r4.out k (by omega) (.inr hk)
      have lf:∀k,a≤k→k<mid→at' l4 k≤at' l4 mid:=λk n1 n2=>by
       rw[em mid (Int.le_refl _)];exact r4.all (λx=>x≤at' l3 mid) m3 k n1 n2
      refine⟨.inl _,rfl,⟨hR3.trans (r4.widen g1 (by omega) h1),?_,by dsimp only;omega,by dsimp only;omega,g3,by dsimp only;omega,k2,k3,?_⟩,by dsimp only;omega⟩
      ·have hO4:=hO3.keep (r4.widen (Int.le_refl a) (by omega) (by omega)) h1 g1 g3
       intro i j n1 n2 n3 n4
       dsimp only at n4 ⊢
       by_cases hin:a≤i∧j<b
       ·by_cases hj:j<mid
        ·exact s4 i j hin.1 n2 hj
        ·have hi:i≤mid:=by omega
         have e1:at' l4 i≤at' l4 mid:=by
          by_cases e:i=mid
          ·rw[e];exact Int.le_refl _
          ·exact lf i hin.1 (by omega)
         have e2:at' l4 mid≤at' l4 j:=by
          by_cases e:j=mid
          ·rw[e];exact Int.le_refl _
          ·rw[em mid (Int.le_refl _),em j (by omega)];exact m4 j (by omega) hin.2
         omega
       ·exact hO4 i j n1 n2 n3 hin
      ·intro _ k n1 n2
       dsimp only at n1 n2 ⊢
       rw[show mid+1-1=mid by omega,em mid (Int.le_refl _),em k (by omega)]
       exact m4 k (by omega) n2
     ·simp only[hside,decide_false,cond_false]
      obtain⟨l4,e4,r4,s4⟩:=ih l3 (mid+1) b lm1 (by omega) (by omega) (by omega) (by omega) (by omega) (by omega) k2 k3 (λ_ k n1 n2=>by rw[show mid+1-1=mid by omega];exact m4 k (by omega) n2) (by omega)
      rw[e4,bs]
      have hl4:=r4.len
      have em:∀k,0≤k→k≤mid→at' l4 k=at' l3 k:=λk h0 hk=>r4.out k h0 (.inl (by omega))
      have rt:∀k,mid<k→k<b→at' l4 mid≤at' l4 k:=λk n1 n2=>by
       rw[em mid (by omega) (Int.le_refl _)];exact r4.all (λx=>at' l3 mid≤x) (λk q1 q2=>m4 k (by omega) q2) k (by omega) n2
      refine⟨.inl _,rfl,⟨hR3.trans (r4.widen (by omega) g3 h1),?_,g1,m1,by dsimp only;omega,by dsimp only;omega,k2,k3,?_⟩,by dsimp only;omega⟩
      ·have hO4:=hO3.keep (r4.widen (by omega) (Int.le_refl b) (by omega)) h1 g1 g3
       intro i j n1 n2 n3 n4
       dsimp only at n4 ⊢
       by_cases hin:a≤i∧j<b
       ·by_cases hi:mid<i
        ·exact s4 i j (by omega) n2 hin.2
        ·have hj:mid≤j:=by omega
         have e1:at' l4 i≤at' l4 mid:=by
          by_cases e:i=mid
          ·rw[e];exact Int.le_refl _
          ·rw[em i (by omega) (by omega),em mid (by omega) (Int.le_refl _)];exact m3 i hin.1 (by omega)
         have e2:at' l4 mid≤at' l4 j:=by
          by_cases e:j=mid
          ·rw[e];exact Int.le_refl _
          ·exact rt j (by omega) hin.2
         omega
       ·exact hO4 i j n1 n2 n3 hin
      ·intro ha k n1 n2
       dsimp only at ha n1 n2 ⊢
       rw[em (a-1) (by omega) (by omega),em k (by omega) (by omega)]
       exact g7'' ha k n1 (by omega)
    ·
     simp only[cond_true]
     obtain⟨hc1,hc2⟩:=hc rfl
     obtain⟨⟨mid,l3⟩,e3,hr3,m1,m2,m3,m4⟩:=Ck q a b p (by omega) (by omega) (by omega) p1 p2
     rw[e3,bs]
     dsimp only at hr3 m1 m2 m3 m4 ⊢
     have hl3:=hr3.len
     have hO3:=hO2.keep hr3 h1 g1 g3
     have lw:∀k,a≤k→k<b→at' q p≤at' l3 k:=λk n1 n2=>
      hr3.all (λx=>at' q p≤x) (λk q1 q2=>Int.le_trans hc2 (g7' hc1 k q1 q2)) k n1 n2
     refine⟨.inl _,rfl,⟨hR.trans ((hr2.trans hr3).widen g1 g3 h1),?_,by dsimp only;omega,m2,g3,by dsimp only;omega,k2,k3,?_⟩,by dsimp only;omega⟩
     ·intro i j n1 n2 n3 n4
      dsimp only at n4 ⊢
      by_cases hin:a≤i∧j<b
      ·have:=m3 i hin.1 (by omega)
       have:=lw j (by omega) hin.2
       omega
      ·exact hO3 i j n1 n2 n3 hin
     ·intro _ k n1 n2
      dsimp only at n1 n2 ⊢
      have:=m3 (mid-1) (by omega) (by omega)
      have:=m4 k n1 n2
      omega
  ·exact⟨Rg.refl _ _ _,λi j n1 n2 n3 n4=>by dsimp only at n4;omega,Int.le_refl _,h2,Int.le_refl _,h6,h7,h8,h9⟩
  ·rintro r hr
   exact⟨r,rfl,hr⟩
theorem sorted_spec (l:LI)(hl:l.length≤16):∃y,D.Y0 l=some y∧List.Perm y l∧Srt y 0 y.length:=by
 unfold D.Y0 D.g1 D.e1 D.k1 D.S D.q
 rw[if_pos (show l.length≤1000000 by omega)]
 simp only[bs]
 rw[wu64 (by omega) (by omega),if_pos (by omega)]
 simp only[bs]
 have hk:∀k:Nat,k≤16→k≤12+Lib.bitLen k∧Lib.bitLen k≤64:=by decide
 obtain⟨k1,k2⟩:=hk l.length hl
 have e:((l.length:Int)).toNat=l.length:=by omega
 have hb:=EI
 obtain⟨y,hy,hr,hs⟩:=Dz Cw l 0 l.length (Lib.bitLen l.length:Nat) (by omega) (by omega) (by omega) (by omega) (by omega) (by omega) (by omega) (by omega) (λh=>absurd h (by omega)) (by omega)
 rw[e,hy]
 refine⟨y,rfl,hr.perm,?_⟩
 rw[hr.len];exact hs
end Go.Sx



namespace Go.Sx
def Sh {α:Type}(xs:List α):Prop:=xs.length≤4294967296
theorem l1In_eq (a b c:Int):D.e a b c=some (decide (b≤a)&&decide (a≤c)):=rfl
theorem inRange_eq (a b c:Int):D.u0 a b c=some (decide (b≤a)&&decide (a≤c)):=rfl
theorem any_beq (xs:LI)(n:Int):xs.any (λx=>x==n)=decide (n∈xs):=by
 rw[Bool.eq_iff_iff,List.any_eq_true];simp
theorem D9 (xs:LI)(n:Int)(h:Sh xs):D.k xs n=some (decide (n∈xs)):=by
 unfold Sh at h
 unfold D.k
 refine(loop_anyb xs.length (λi=>xs.getD i 0==n) true (λi hi=> ?_) ?_ rfl rfl).trans ?_
 ·simp only[dlt hi,cond_true,AB hi,bs,wi' hi (by omega),AD hi]
  cases xs[i]==n<;>rfl
 ·simp only[Bd,cond_false]
 ·rw[range_any_list xs (λx=>x==n) _ (λi hi=>by rw[AD hi]),any_beq]
theorem EN (xs:LI)(n:Int)(h:Sh xs):D.I xs n=some (decide (n∈xs)):=by
 unfold Sh at h
 unfold D.I D.w0
 have e:Al (σ:=Int) (ρ:=(Unit) ⊕ (Int)) (fun(x_26:Int)=>cond (decide (x_26<(xs.length:Int))) ((idx xs x_26).bind λe_39=>cond (n==e_39) (some (.inr (.inr x_26))) (some (.inl (IntKind.i64.wrap (x_26+1))))) (some (.inr (.inl ())))) 0=
   some (((List.range xs.length).findSome? (λi=>if xs.getD i 0==n then some (Sum.inr (i:Int)) else none)).getD (.inl ())):=by
  refine DJ xs.length _ _ (λi hi=> ?_) ?_
  ·simp only[dlt hi,cond_true,AB hi,bs,wi' hi (by omega),AD hi]
   rw[show (n==xs[i])=(xs[i]==n) from Bool.beq_comm ..]
   cases xs[i]==n<;>rfl
  ·simp only[Bd,cond_false]
 rw[e,bs]
 cases hf:(List.range xs.length).findSome? (λi=>if xs.getD i 0==n then some (Sum.inr (i:Int):Unit ⊕ Int) else none) with
 |none=>
  have:n∉xs:=λhm=>by
   obtain⟨i,hi,e⟩:=List.getElem_of_mem hm
   have:=(List.findSome?_eq_none_iff.1 hf) i (List.mem_range.2 hi)
   rw[AD hi,e] at this
   simp at this
  simp[this]
 |some r=>
  obtain⟨i,hi,hr⟩:=List.exists_of_findSome?_eq_some hf
  have hi':=List.mem_range.1 hi
  rw[AD hi'] at hr
  split at hr
  ·rename_i hc
   cases hr
   have:n∈xs:=by rw[←(beq_iff_eq.1 hc)];exact List.getElem_mem _
   simp[this]
  ·cases hr
def SetOf (xs:LI)(n:Int):Prop:=Inc xs∧∀x∈xs,0≤x∧x<n
theorem SetOf.len :∀{xs:LI} {n a:Int},Inc xs→(∀x∈xs,a≤x∧x<n)→xs=[]∨(xs.length:Int)≤n-a
 |[],_,_,_,_=> .inl rfl
 |x::xs,n,a,h,hr=>by
  right
  have h':=List.pairwise_cons.1 h
  have hx:=hr x (by simp)
  rcases SetOf.len (a:=x+1) (n:=n) h'.2 (λy hy=>⟨by have:=h'.1 y hy;omega,(hr y (by simp[hy])).2⟩) with e|e
  ·subst e;simp;omega
  ·simp;omega
theorem SetOf.length_le {xs:LI}{n:Int}(h:SetOf xs n)(hn:0≤n):(xs.length:Int)≤n:=by
 rcases SetOf.len h.1 h.2 with e|e
 ·subst e;simpa using hn
 ·omega
theorem inc_iff (xs:LI):Inc xs↔∀i (hi:i+1<xs.length),xs[i]<xs[i+1]:=by
 unfold Inc
 constructor
 ·intro h i hi
  exact List.pairwise_iff_getElem.1 h i (i+1) (by omega) hi (by omega)
 ·intro h
  rw[List.pairwise_iff_getElem]
  intro i j hi hj hij
  have key:∀k,∀hk:i+k+1<xs.length,xs[i]<xs[i+k+1]:=by
   intro k
   induction k with
   |zero=>intro hk;exact h i hk
   |succ k ih=>intro hk;have:=ih (by omega);have:=h (i+k+1) hk;exact Int.lt_trans (ih (by omega)) this
  obtain⟨k,rfl⟩:∃k,j=i+k+1:=⟨j-i-1,by omega⟩
  exact key k hj
def setB (xs:LI)(n:Int):Bool:=(List.range xs.length).all λi=>(decide (0≤xs.getD i 0)&&decide (xs.getD i 0≤n-1))&& !(decide (0<i)&&decide (xs.getD i 0≤xs.getD (i-1) 0))
theorem Dx (xs:LI)(n:Int):setB xs n=true↔SetOf xs n:=by
 unfold setB SetOf
 rw[Cz,inc_iff]
 constructor
 ·intro h
  refine⟨λi hi=> ?_,λx hx=> ?_⟩
  ·have:=h (i+1) hi
   simp[hi,show i<xs.length by omega] at this
   omega
  ·obtain⟨i,hi,rfl⟩:=List.getElem_of_mem hx
   have:=h i hi
   simp[hi] at this
   omega
 ·rintro⟨h1,h2⟩ i hi
  have h3:=h2 _ (List.getElem_mem hi)
  simp[hi]
  refine⟨by omega,?_⟩
  rcases Nat.eq_zero_or_pos i with h0|h0
  ·exact .inl h0
  ·right
   have:=h1 (i-1) (by omega)
   have e:i-1+1=i:=by omega
   simp only[e] at this
   have e2:xs[i-1]?.getD 0=xs[i-1]:=by rw[List.getElem?_eq_getElem (by omega)];rfl
   rw[e2];exact this
theorem Ed (xs:LI)(n:Int)(h:Sh xs)(h0:0≤n)(hn:n≤4294967296):D.T xs n=some (setB xs n):=by
 unfold Sh at h
 unfold D.T
 refine Cv xs.length _ false (λi hi=> ?_) ?_ rfl rfl
 ·simp only[dlt hi,cond_true,AB hi,bs,wi' hi (by omega),AD hi,inRange_eq]
  rw[w64 (x:=n-1) (by omega) (by omega)]
  cases (decide (0≤xs[i])&&decide (xs[i]≤n-1))
  ·simp
  ·by_cases h0:0<i
   ·have e1:IntKind.i64.wrap ((i:Int)-1)=((i-1:Nat):Int):=by rw[w64 (by omega) (by omega)];omega
    have hd:decide ((0:Int)<(i:Int))=true:=by simp;omega
    simp only[Bool.not_true,cond_false,hd,cond_true,e1,AB (show i-1<xs.length by omega),bs,AD (show i-1<xs.length by omega),h0,decide_true,Bool.true_and]
    cases decide (xs[i]≤xs[i-1])<;>rfl
   ·have hd:decide ((0:Int)<(i:Int))=false:=by simp;omega
    simp only[Bool.not_true,cond_false,hd,bs,h0,decide_false,Bool.false_and,Bool.not_false,Bool.and_true,if_true]
 ·simp only[Bd,cond_false]
theorem l1Set_eq (xs:LI)(n:Int)(h:Sh xs)(h0:0≤n)(hn:n≤4294967296):D.g0 xs n=some (setB xs n):=by
 have hh:=h
 unfold Sh at h
 unfold D.g0
 by_cases hl:n<xs.length
 ·have:setB xs n=false:=by
   cases hb:setB xs n
   ·rfl
   ·have:=((Dx xs n).1 hb).length_le h0;omega
  simp[hl,this]
 ·simp only[hl,decide_false,cond_false]
  refine Cv xs.length _ false (λi hi=> ?_) ?_ rfl rfl
  ·simp only[dlt hi,cond_true,AB hi,bs,wi' hi (by omega),AD hi,l1In_eq]
   rw[w64 (x:=n-1) (by omega) (by omega)]
   cases (decide (0≤xs[i])&&decide (xs[i]≤n-1))
   ·simp
   ·by_cases h0:0<i
    ·have e1:IntKind.i64.wrap ((i:Int)-1)=((i-1:Nat):Int):=by rw[w64 (by omega) (by omega)];omega
     have hd:decide ((0:Int)<(i:Int))=true:=by simp;omega
     simp only[Bool.not_true,cond_false,hd,cond_true,e1,AB (show i-1<xs.length by omega),bs,AD (show i-1<xs.length by omega),h0,decide_true,Bool.true_and]
     cases decide (xs[i]≤xs[i-1])<;>rfl
    ·have hd:decide ((0:Int)<(i:Int))=false:=by simp;omega
     simp only[Bool.not_true,cond_false,hd,bs,h0,decide_false,Bool.false_and,Bool.not_false,Bool.and_true,if_true]
  ·simp only[Bd,cond_false]
def row (g:LL)(v:Nat):LI:=g.getD v []
theorem row_eq {g:LL}{v:Nat}(h:v<g.length):row g v=g[v]:=AD h _
def adj (g:LL)(u v:Nat):Prop:=(v:Int)∈row g u
structure GOk (g:LL):Prop where
 n1:1≤g.length
 n16:g.length≤16
 rows:∀v,v<g.length→SetOf (row g v) g.length
 irr:∀v,v<g.length→¬adj g v v
 sym:∀u v,u<g.length→adj g u v→adj g v u
theorem GOk.mem {g:LL}(h:GOk g){u:Nat}(hu:u<g.length){x:Int}(hx:x∈row g u):∃v:Nat,x=v∧v<g.length∧adj g u v:=by
 have:=(h.rows u hu).2 x hx
 refine⟨x.toNat,by omega,by omega,?_⟩
 unfold adj
 rw[show ((x.toNat:Nat):Int)=x by omega];exact hx
theorem GOk.row_len {g:LL}(h:GOk g){u:Nat}(hu:u<g.length):(row g u).length≤16:=by
 have:=(h.rows u hu).length_le (by omega)
 have:=h.n16
 omega
theorem GOk.lt {g:LL}(h:GOk g){u v:Nat}(hu:u<g.length)(ha:adj g u v):v<g.length:=by
 obtain⟨w,h1,h2,_⟩:=h.mem hu ha
 omega
def Sh2 (g:LL):Prop:=Sh g∧∀r∈g,Sh r
theorem Sh2.row {g:LL}(h:Sh2 g){v:Nat}(hv:v<g.length):Sh (row g v):=by
 rw[row_eq hv];exact h.2 _ (List.getElem_mem hv)
theorem BW {g:LL}{v:Nat}(h:v<g.length):idx g (v:Int)=some (row g v):=by rw[row_eq h,AB h]
def gB1 (g:LL):Bool:=(List.range g.length).all λv=>setB (row g v) g.length&& !decide ((v:Int)∈row g v)
def gB2 (g:LL):Bool:=(List.range g.length).all λv=>(row g v).all λx=>decide ((v:Int)∈row g x.toNat)
def gB (g:LL):Bool:=decide (1≤g.length)&&decide (g.length≤16)&&gB1 g&&gB2 g
theorem gB_iff (g:LL):gB g=true↔GOk g:=by
 unfold gB gB1 gB2
 simp only[Bool.and_eq_true,decide_eq_true_eq,Dx,Bool.not_eq_true',decide_eq_false_iff_not,List.all_eq_true,List.mem_range]
 constructor
 ·rintro⟨⟨⟨h1,h2⟩,h3⟩,h4⟩
  refine⟨h1,h2,λv hv=>(h3 v hv).1,λv hv=>(h3 v hv).2,λu v hu ha=> ?_⟩
  have:=h4 u hu v ha
  unfold adj
  simpa using this
 ·intro h
  refine⟨⟨⟨h.n1,h.n16⟩,λv hv=>⟨h.rows v hv,h.irr v hv⟩⟩,λv hv x hx=> ?_⟩
  obtain⟨u,rfl,hu,ha⟩:=h.mem hv hx
  have:=h.sym v u hv ha
  simpa [adj] using this
theorem DM (g:LL)(h:Sh2 g):D.o0 g=some (gB g):=by
 have hl:g.length≤4294967296:=h.1
 unfold D.o0 D.t0
 simp only[bs,l1In_eq]
 by_cases hn:1≤g.length∧g.length≤16
 ·have e:(decide ((1:Int)≤(g.length:Int))&&decide ((g.length:Int)≤16))=true:=by simp;omega
  simp only[e,Bool.not_true,cond_false]
  refine(Ev g.length (λv=>setB (row g v) g.length&& !decide ((v:Int)∈row g v)) (.inl ()) (.inr false) (λv hv=> ?_) ?_).trans ?_
  rotate_left
  ·simp only[Bd,cond_false]
  ·show cond (gB1 g) _ _=_
   have e4:gB g=(gB1 g&&gB2 g):=by unfold gB;simp[hn.1,hn.2]
   rw[e4]
   cases hc:gB1 g with
   |false=>rfl
   |true=>
    rw[cond_true,Bool.true_and]
    refine Cv g.length _ false (λv hv=> ?_) ?_ rfl rfl
    ·have hset:SetOf (row g v) g.length:=by
      have:=(Cz _ _).1 hc v hv
      simp only[Bool.and_eq_true] at this
      exact(Dx _ _).1 this.1
     simp only[dlt hv,cond_true]
     refine(Ev (row g v).length (λi=>decide ((v:Int)∈row g ((row g v).getD i 0).toNat)) (.inl ()) (.inr false) (λi hi=> ?_) ?_).trans ?_
     ·have hx:=hset.2 _ (List.getElem_mem hi)
      have e5:idx g (row g v)[i]=some (row g ((row g v)[i]).toNat):=by
       have:=BW (g:=g) (v:=((row g v)[i]).toNat) (by omega)
       rwa [show ((((row g v)[i]).toNat:Nat):Int)=(row g v)[i] by omega] at this
      have hs:=h.row (v:=((row g v)[i]).toNat) (by omega)
      simp only[BW hv,bs,dlt hi,cond_true,AB hi,e5,D9 _ _ hs,wi (show i<4611686018427387904 by have:=h.row hv;unfold Sh at this;omega),AD hi]
      cases decide ((v:Int)∈row g ((row g v)[i]).toNat)<;>rfl
     ·simp only[BW hv,bs,Bd,cond_false]
     ·rw[DY (row g v) (λx=>decide ((v:Int)∈row g x.toNat)) _ (λi hi=>by rw[AD hi]),wi' hv (by omega)]
      cases (row g v).all λx=>decide ((v:Int)∈row g x.toNat)<;>rfl
    ·simp only[Bd,cond_false]
  ·simp only[dlt hv,cond_true,BW hv,bs,l1Set_eq _ _ (h.row hv) (show (0:Int)≤(g.length:Int) by omega) (by omega),D9 _ _ (h.row hv),wi' hv (by omega)]
   cases setB (row g v) g.length
   ·rfl
   ·cases decide ((v:Int)∈row g v)<;>rfl
 ·have e:(decide ((1:Int)≤(g.length:Int))&&decide ((g.length:Int)≤16))=false:=by
   rw[Bool.eq_false_iff];simp;omega
  simp only[e,Bool.not_false,cond_true]
  unfold gB
  congr 1
  symm
  rw[Bool.eq_false_iff]
  simp
  omega
theorem Cm (g:LL)(h:Sh2 g):D.L g=some (gB g):=by
 have hl:g.length≤4294967296:=h.1
 unfold D.L
 by_cases hn:1≤g.length∧g.length≤16
 ·have e:(decide ((g.length:Int)<(1:Int))||decide ((16:Int)<(g.length:Int)))=false:=by simp;omega
  simp only[e,cond_false]
  refine(Ev g.length (λv=>setB (row g v) g.length&& !decide ((v:Int)∈row g v)) (.inl ()) (.inr false) (λv hv=> ?_) ?_).trans ?_
  rotate_left
  ·simp only[Bd,cond_false]
  ·show cond (gB1 g) _ _=_
   have e4:gB g=(gB1 g&&gB2 g):=by unfold gB;simp[hn.1,hn.2]
   rw[e4]
   cases hc:gB1 g with
   |false=>rfl
   |true=>
    rw[cond_true,Bool.true_and]
    refine Cv g.length _ false (λv hv=> ?_) ?_ rfl rfl
    ·have hset:SetOf (row g v) g.length:=by
      have:=(Cz _ _).1 hc v hv
      simp only[Bool.and_eq_true] at this
      exact(Dx _ _).1 this.1
     simp only[dlt hv,cond_true,BW hv,bs]
     refine(Ev (row g v).length (λi=>decide ((v:Int)∈row g ((row g v).getD i 0).toNat)) (.inl ()) (.inr false) (λi hi=> ?_) ?_).trans ?_
     ·have hx:=hset.2 _ (List.getElem_mem hi)
      have e5:idx g (row g v)[i]=some (row g ((row g v)[i]).toNat):=by
       have:=BW (g:=g) (v:=((row g v)[i]).toNat) (by omega)
       rwa [show ((((row g v)[i]).toNat:Nat):Int)=(row g v)[i] by omega] at this
      have hs:=h.row (v:=((row g v)[i]).toNat) (by omega)
      simp only[bs,dlt hi,cond_true,AB hi,e5,EN _ _ hs,wi (show i<4611686018427387904 by have:=h.row hv;unfold Sh at this;omega),AD hi]
      cases decide ((v:Int)∈row g ((row g v)[i]).toNat)<;>rfl
     ·simp only[Bd,cond_false]
     ·rw[DY (row g v) (λx=>decide ((v:Int)∈row g x.toNat)) _ (λi hi=>by rw[AD hi]),wi' hv (by omega)]
      cases (row g v).all λx=>decide ((v:Int)∈row g x.toNat)<;>rfl
    ·simp only[Bd,cond_false]
  ·simp only[dlt hv,cond_true,BW hv,bs,Ed _ _ (h.row hv) (show (0:Int)≤(g.length:Int) by omega) (by omega),EN _ _ (h.row hv),wi' hv (by omega)]
   cases setB (row g v) g.length
   ·rfl
   ·cases decide ((v:Int)∈row g v)<;>rfl
 ·have e:(decide ((g.length:Int)<(1:Int))||decide ((16:Int)<(g.length:Int)))=true:=by
   simp;omega
  simp only[e,cond_true]
  unfold gB
  congr 1
  symm
  rw[Bool.eq_false_iff]
  simp
  omega
structure OOk (g:LL)(o:LI):Prop where
 len:o.length=g.length
 rng:∀x∈o,0≤x∧x<g.length
 nd:o.Nodup
def oB (g:LL)(o:LI):Bool:=(List.range o.length).all λi=>(decide (0≤o.getD i 0)&&decide (o.getD i 0≤(g.length:Int)-1))&& !decide (o.getD i 0∈o.take i)
theorem mem_take_iff {α:Type}{l:List α}{i:Nat}{x:α}:x∈l.take i↔∃j,∃h:j<l.length,j<i∧l[j]=x:=by
 rw[List.mem_take_iff_getElem]
 constructor
 ·rintro⟨j,h,e⟩;exact⟨j,by omega,by omega,e⟩
 ·rintro⟨j,h,h2,e⟩;exact⟨j,by omega,e⟩
theorem nodup_iff {l:LI}:l.Nodup↔∀i (hi:i<l.length),l[i]∉l.take i:=by
 constructor
 ·intro h i hi hm
  obtain⟨j,hj,hji,e⟩:=mem_take_iff.1 hm
  have:=(List.pairwise_iff_getElem.1 h) j i hj hi hji
  exact this e
 ·intro h
  refine List.pairwise_iff_getElem.2 (λi j hi hj hij e=>h j hj (mem_take_iff.2 ⟨i,hi,hij,e⟩))
theorem oB_iff (g:LL)(o:LI)(hl:o.length=g.length):oB g o=true↔OOk g o:=by
 unfold oB
 rw[Cz]
 constructor
 ·intro h
  refine⟨hl,λx hx=> ?_,nodup_iff.2 λi hi=> ?_⟩
  ·obtain⟨i,hi,rfl⟩:=List.getElem_of_mem hx
   have:=h i hi
   rw[AD hi] at this
   simp at this;omega
  ·have:=h i hi
   rw[AD hi] at this
   simp at this;exact this.2
 ·intro h i hi
  have h1:=h.rng _ (List.getElem_mem hi)
  have h2:=nodup_iff.1 h.nd i hi
  rw[AD hi]
  simp[h2];omega
def ordB (g:LL)(o:LI):Bool:=decide (o.length=g.length)&&oB g o
theorem ordB_iff (g:LL)(o:LI):ordB g o=true↔OOk g o:=by
 unfold ordB
 by_cases hl:o.length=g.length
 ·simp[hl,oB_iff g o hl]
 ·simp[hl];intro h;exact hl h.len
theorem sorted_inc {y:LI}(hs:Srt y 0 y.length)(hn:y.Nodup):Inc y:=by
 unfold Inc
 rw[List.pairwise_iff_getElem]
 intro i j hi hj hij
 have h1:=hs i j (by omega) (by omega) (by omega)
 have h2:=(List.pairwise_iff_getElem.1 hn) i j hi hj hij
 simp[at',hi,hj] at h1
 have:y[i]≠y[j]:=h2
 omega
theorem EW (g:LL)(o:LI)(h:Sh2 g)(ho:Sh o):D.L0 g o=some (gB g&&ordB g o):=by
 unfold D.L0
 rw[Cm g h,bs]
 cases hg:gB g
 ·rfl
 ·have hg':=(gB_iff g).1 hg
  by_cases hl:o.length=g.length
  ·have e:((o.length:Int) !=(g.length:Int))=false:=by simp[hl]
   have h16:=hg'.n16
   obtain⟨y,h1,h2,h3⟩:=sorted_spec o (by omega)
   have hyl:=h2.length_eq
   simp only[Bool.not_true,e,Bool.or_false,cond_false,h1,bs,Bool.true_and]
   rw[Ed y _ (by unfold Sh;omega) (by omega) (by omega),bs]
   congr 1
   unfold ordB
   simp only[hl,decide_true,Bool.true_and]
   rw[Bool.eq_iff_iff,Dx,oB_iff g o hl]
   constructor
   ·rintro⟨k1,k2⟩
    refine⟨hl,λx hx=>k2 x (h2.mem_iff.2 hx),h2.nodup_iff.1 ?_⟩
    exact List.Pairwise.imp (λh e=>by omega) k1
   ·intro k
    exact⟨sorted_inc h3 (h2.nodup_iff.2 k.nd),λx hx=>k.rng x (h2.mem_iff.1 hx)⟩
  ·have e:((o.length:Int) !=(g.length:Int))=true:=by simp;omega
   simp[e,ordB,hl]
theorem CI (v:Nat):D.b (v:Int)=some (ishl .u32 1 (v:Int)):=by
 unfold D.b
 have:decide ((v:Int)<0)=false:=by simp
 rw[this];rfl
theorem impl_one_eq' {x:Int}(h:0≤x):D.b x=some (ishl .u32 1 x):=by
 have:=CI x.toNat
 rwa [show ((x.toNat:Nat):Int)=x by omega] at this
def mk (xs:LI):Int:=xs.foldl (λs v=>ior .u32 s (ishl .u32 1 v)) 0
theorem maskOf_eq (xs:LI)(h:Sh xs)(h0:∀x∈xs,0≤x):D.k0 xs=some (mk xs):=by
 unfold Sh at h
 unfold D.k0
 refine(loop_listb xs (λs i=>(s,i)) (λs v=>ior .u32 s (ishl .u32 1 v)) (λs=>s) (λ_=>True) 0 trivial (λs i hi _=>⟨?_,trivial⟩) (λs _=> ?_)).trans rfl
 ·simp only[dlt hi,cond_true,AB hi,bs,wi' hi (by omega),impl_one_eq' (h0 _ (List.getElem_mem hi))]
 ·simp only[Bd,cond_false]
theorem Em :∀(xs:LI) (s:Int),VS s→VS (xs.foldl (λs v=>ior .u32 s (ishl .u32 1 v)) s)
 |[],s,h=>h
 |x::xs,s,_=>Em xs _ (VS.ior _ _)
theorem VS.mk (xs:LI):VS (mk xs):=Em xs 0 VS.zero
theorem Eb (u:Nat):∀(xs:LI) (s:Int),VS s→(∀x∈xs,0≤x∧x<32)→has (xs.foldl (λs v=>ior .u32 s (ishl .u32 1 v)) s) u=(has s u||decide ((u:Int)∈xs))
 |[],s,_,_=>by simp
 |x::xs,s,hs,h=>by
  have hx:=h x (by simp)
  rw[List.foldl_cons,Eb u xs _ (VS.ior _ _) (λy hy=>h y (by simp[hy])),BV hs (VS.ishl _ _)]
  obtain⟨k,rfl⟩:∃k:Nat,x=k:=⟨x.toNat,by omega⟩
  rw[Bs (by omega)]
  by_cases hu:u=k
  ·subst hu;simp
  ·have:¬(u:Int)=(k:Int):=by omega
   simp[hu,this]
theorem has_mk {xs:LI}(h:∀x∈xs,0≤x∧x<32)(u:Nat):has (mk xs) u=decide ((u:Int)∈xs):=by
 unfold mk;rw[Eb u xs 0 VS.zero h,BR,Bool.false_or]
theorem GOk.mem0 {g:LL}(hg:GOk g){r:LI}(hr:r∈g):r.length≤16∧∀x∈r,0≤x∧x<g.length:=by
 obtain⟨v,hv,rfl⟩:=List.getElem_of_mem hr
 rw[←row_eq hv]
 exact⟨hg.row_len hv,(hg.rows v hv).2⟩
theorem netsOf_eq (g:LL)(hg:GOk g):D.P g=some (g.map mk):=by
 have h16:=hg.n16
 unfold D.P
 refine(DF g (λs i=>(s,i)) mk (by omega) (λs i hi _=> ?_) (λs=> ?_)).trans rfl
 ·obtain⟨h1,h2⟩:=hg.mem0 (List.getElem_mem hi)
  simp only[dlt hi,cond_true,AB hi,bs,wi' hi (by omega),maskOf_eq g[i] (by unfold Sh;omega) (λx hx=>(h2 x hx).1)]
 ·simp only[Bd,cond_false]
theorem narrow_eq (xs:LI)(h:Sh xs):D.Z0 xs=some xs:=by
 unfold Sh at h
 unfold D.Z0
 rw[makeD_zero (by omega) (by omega),bs]
 refine(DF xs (λs i=>(s,i)) (λx=>x) h (λs i hi _=> ?_) (λs=> ?_)).trans (by simp)
 ·simp only[dlt hi,cond_true,AB hi,bs,wi' hi (by omega)]
 ·simp only[Bd,cond_false]
theorem wide_eq (xs:LI)(h:Sh xs):D.n0 xs=some xs:=by
 unfold Sh at h
 unfold D.n0
 rw[makeD_zero (by omega) (by omega),bs]
 refine(DF xs (λs i=>(s,i)) (λx=>x) h (λs i hi _=> ?_) (λs=> ?_)).trans (by simp)
 ·simp only[dlt hi,cond_true,AB hi,bs,wi' hi (by omega)]
 ·simp only[Bd,cond_false]
theorem least_eq {s:Int}(h:VS s)(h0:s≠0):∃k:Nat,k<32∧D.v s=some (k:Int)∧has s k=true∧(∀v,v<k→has s v=false)∧
  (∀v,has (iand .u32 s (IntKind.u32.wrap (s-1))) v=(has s v&& !decide (v=k))):=by
 obtain⟨k,h1,h2,h3,h4,h5⟩:=least_spec h h0
 refine⟨k,h1,?_,h2,h3,h5⟩
 unfold D.v D.D0
 have e:(s==0)=false:=by simpa using h0
 simp only[e,cond_false,h4,tz_table k h1,bs]
 rw[w64 (by omega) (by omega)]
theorem list_eq (s:Int)(h:VS s):D.m s=some (AF s):=by
 unfold D.m
 have key:∀(n:Nat) (x:Int) (l:LI),VS x→(AF x).length=n→l.length+n≤32→
   Al (σ:=Int×LI) (ρ:=(LI)) (fun(s_52:Int×LI)=>match s_52 with|(x_55,l_56)=>cond (x_55 !=0) ((D.v x_55).bind λy_88=>(AS l_56 ([y_88]:LI)).bind λl_99=>some (.inl ((iand .u32 x_55 (IntKind.u32.wrap (x_55-1))),l_99))) (some (.inr l_56))) (x,l)=some (l++AF x):=by
  intro n
  induction n with
  |zero=>
   intro x l hx hn _
   have e:AF x=[]:=List.eq_nil_of_length_eq_zero hn
   have e0:x=0:=hx.eq_zero.2 λv hv=>by
    cases hc:has x v
    ·rfl
    ·have:=mem_elems.2 ⟨v,hv,hc,rfl⟩;rw[e] at this;simp at this
   rw[e]
   refine AW ?_
   have:(x !=0)=false:=by simp[e0]
   simp only[this,cond_false,List.append_nil]
  |succ n ih=>
   intro x l hx hn hl
   have h0:x≠0:=by rintro rfl;rw[C7] at hn;simp at hn
   obtain⟨k,h1,h2,h3,h4,h5⟩:=least_eq hx h0
   have e:=EH h1 h3 h4 h5
   have en:(AF (iand .u32 x (IntKind.u32.wrap (x-1)))).length=n:=by rw[e] at hn;simpa using hn
   have hstep:=ih (iand .u32 x (IntKind.u32.wrap (x-1))) (l++[(k:Int)]) (VS.iand _ _) en (by simp;omega)
   have e1:(x !=0)=true:=by simpa using h0
   rw[Bf (s':=(iand .u32 x (IntKind.u32.wrap (x-1)),l++[(k:Int)]))]
   ·rw[hstep,e];simp
   ·simp only[e1,cond_true,h2,bs,Br (xs:=l) (ys:=[(k:Int)]) (by simp;omega)]
 have:=key (AF s).length s [] h rfl (by simpa using B8 s)
 rw[this];simp
theorem elems_sh (s:Int):Sh (AF s):=by have:=B8 s;unfold Sh;omega
theorem numbers_eq (s:Int)(h:VS s):D.V s=some (AF s):=by
 unfold D.V
 rw[list_eq s h,bs,wide_eq _ (elems_sh s)];rfl
theorem results_eq (xs:LI)(h:Sh xs)(hv:∀s∈xs,VS s):D.a0 xs=some (xs.map AF):=by
 unfold Sh at h
 unfold D.a0
 refine(DF xs (λs i=>(s,i)) AF h (λs i hi _=> ?_) (λs=> ?_)).trans rfl
 ·simp only[dlt hi,cond_true,AB hi,bs,wi' hi (by omega),numbers_eq _ (hv _ (List.getElem_mem hi))]
 ·simp only[Bd,cond_false]
theorem l1Copy_eq (xs:LI)(h:Sh xs):D.p xs=some xs:=by
 unfold Sh at h
 unfold D.p
 rw[Br (by simpa using h)];rfl
def into (xs:LI)(n:Int):LI:=if n∈xs then xs else xs.takeWhile (λx=>decide (x<n))++n::xs.dropWhile (λx=>decide (x<n))
theorem mem_into {xs:LI}{n x:Int}:x∈into xs n↔x=n∨x∈xs:=by
 unfold into
 split
 ·constructor
  ·intro h;exact .inr h
  ·rintro(rfl|h)
   ·assumption
   ·exact h
 ·have e:x∈xs↔x∈xs.takeWhile (λx=>decide (x<n))++xs.dropWhile (λx=>decide (x<n)):=by rw[List.takeWhile_append_dropWhile]
  rw[e];simp only[List.mem_append,List.mem_cons]
  constructor
  ·rintro(h|h|h)<;>simp[h]
  ·rintro(h|h|h)<;>simp[h]
theorem Ee {xs:LI}{n:Int}(h:Inc xs):∀y∈xs.dropWhile (λx=>decide (x<n)),n≤y:=by
 induction xs with
 |nil=>simp
 |cons x xs ih=>
  have h':=List.pairwise_cons.1 h
  intro y hy
  rw[List.dropWhile_cons] at hy
  split at hy
  ·exact ih h'.2 y hy
  ·rename_i hc
   simp at hc
   rcases List.mem_cons.1 hy with rfl|hy
   ·exact hc
   ·have:=h'.1 y hy;omega
theorem inc_takeWhile {xs:LI}{n:Int}:∀y∈xs.takeWhile (λx=>decide (x<n)),y<n:=by
 intro y hy
 induction xs with
 |nil=>simp at hy
 |cons x xs ih=>
  rw[List.takeWhile_cons] at hy
  split at hy
  ·rename_i hc
   rcases List.mem_cons.1 hy with rfl|hy
   ·simpa using hc
   ·exact ih hy
  ·simp at hy
theorem Inc.into {xs:LI}(h:Inc xs)(n:Int):Inc (into xs n):=by
 unfold Sx.into
 split
 ·exact h
 ·rename_i hn
  unfold Inc
  rw[List.pairwise_append]
  refine⟨List.Pairwise.sublist (List.takeWhile_sublist _) h,List.pairwise_cons.2 ⟨λy hy=> ?_,List.Pairwise.sublist (List.dropWhile_sublist _) h⟩,λa ha b hb=> ?_⟩
  ·have h1:=Ee h y hy
   have h2:y≠n:=λe=>hn (e▸(List.dropWhile_sublist _).mem hy)
   omega
  ·have h1:=inc_takeWhile a ha
   rcases List.mem_cons.1 hb with rfl|hb
   ·exact h1
   ·have:=Ee h b hb;omega
theorem CD {α:Type}(p:α→Bool):∀(xs:List α),xs.takeWhile p=xs.take (xs.takeWhile p).length∧xs.dropWhile p=xs.drop (xs.takeWhile p).length
 |[]=>by simp
 |x::xs=>by
  rw[List.takeWhile_cons,List.dropWhile_cons]
  cases p x
  ·simp
  ·have:=CD p xs
   simp only[if_true,List.length_cons,List.take_succ_cons,List.drop_succ_cons,←this.1,←this.2,and_self]
theorem CO {α:Type}(p:α→Bool):∀(xs:List α) (i:Nat) (h:i<(xs.takeWhile p).length) (h':i<xs.length),p xs[i]=true
 |x::xs,i,h,h'=>by
  rw[List.takeWhile_cons] at h
  cases hp:p x
  ·rw[hp] at h;simp at h
  ·rw[hp] at h
   cases i with
   |zero=>simpa using hp
   |succ i=>simp only[if_true,List.length_cons] at h;simpa using CO p xs i (by omega) (by simpa using h')
theorem Dd {α:Type}(p:α→Bool):∀(xs:List α) (h:(xs.takeWhile p).length<xs.length),p (xs[(xs.takeWhile p).length])=false
 |x::xs,h=>by
  cases hp:p x
  ·simp[List.takeWhile_cons,hp]
  ·have h2:(xs.takeWhile p).length<xs.length:=by simpa [List.takeWhile_cons,hp] using h
   simpa [List.takeWhile_cons,hp] using Dd p xs h2
theorem ES {α:Type}(p:α→Bool)(xs:List α):(xs.takeWhile p).length≤xs.length:=(List.takeWhile_sublist _).length_le
theorem l1Into_eq (xs:LI)(n:Int)(h:Inc xs)(hl:xs.length≤4294967295):D.J xs n=some (into xs n):=by
 unfold D.J
 generalize hk:(xs.takeWhile (λx=>decide (x<n))).length=k
 have hkl:k≤xs.length:=by rw[←hk];exact ES _ _
 have htk:xs.takeWhile (λx=>decide (x<n))=xs.take k:=by rw[←hk];exact(CD _ xs).1
 have hdk:xs.dropWhile (λx=>decide (x<n))=xs.drop k:=by rw[←hk];exact(CD _ xs).2
 refine(CZ (λi=>((i:Nat):Int)) k (k:Int) rfl (λi hi=> ?_) ?_).trans ?_
 ·have hi':i<xs.length:=by omega
  have hp:decide (xs[i]<n)=true:=CO (λx=>decide (x<n)) xs i (by omega) hi'
  simp only[dlt hi',cond_true,AB hi',bs,hp,wq i]
 ·by_cases hlt:k<xs.length
  ·have hp:decide (xs[k]<n)=false:=by
    have:=Dd (λx=>decide (x<n)) xs (by omega)
    simp only[hk] at this;exact this
   simp only[dlt hlt,cond_true,AB hlt,bs,hp,cond_false]
  ·obtain rfl:k=xs.length:=by omega
   simp only[Bd,cond_false,bs]
 ·have hS1:Sh (xs.take k):=by unfold Sh;rw[List.length_take];omega
  have hrest:((Bw xs 0 (k:Int)).bind λl_135=>(D.p l_135).bind λy_139=>(AS y_139 ([n]:LI)).bind λl_154=>(Bw xs (k:Int) (xs.length:Int)).bind λl_160=>(AS l_154 l_160).bind λl_164=>some l_164)=some (xs.take k++n::xs.drop k):=by
   simp only[sliceD_pre hkl,DP hkl,bs,l1Copy_eq _ hS1]
   rw[Br (by simp;omega),bs,Br (by simp;omega),bs]
   simp
  by_cases hlt:k<xs.length
  ·simp only[dlt hlt,cond_true,AB hlt,bs]
   by_cases he:xs[k]=n
   ·have hm:n∈xs:=by rw[←he];exact List.getElem_mem _
    have:(xs[k]==n)=true:=by simp[he]
    simp only[this,cond_true]
    unfold into;rw[if_pos hm]
   ·have:(xs[k]==n)=false:=by simpa using he
    simp only[this,cond_false,hrest]
    unfold into
    rw[htk,hdk,if_neg]
    intro hm
    obtain⟨j,hj,e⟩:=List.getElem_of_mem hm
    have hst:decide (xs[k]<n)=false:=by
     have:=Dd (λx=>decide (x<n)) xs (by omega)
     simp only[hk] at this;exact this
    simp at hst
    rcases Nat.lt_trichotomy j k with h1|h1|h1
    ·have:=CO (λx=>decide (x<n)) xs j (by omega) hj
     simp at this;omega
    ·subst h1;exact he e
    ·have:=(List.pairwise_iff_getElem.1 h) k j hlt hj h1
     omega
  ·obtain rfl:k=xs.length:=by omega
   simp only[Bd,cond_false,bs,hrest]
   unfold into
   rw[htk,hdk,if_neg]
   intro hm
   obtain⟨j,hj,e⟩:=List.getElem_of_mem hm
   have:=CO (λx=>decide (x<n)) xs j (by omega) hj
   simp at this;omega
end Go.Sx



namespace Go.Sx
structure DK (b:LI)(i:Int):Prop where
 byte:∀x∈b,0≤x∧x≤255
 len:b.length≤4096
 i0:0≤i
 i1:i≤b.length
end Go.Sx



namespace Go.Sx
theorem ext_getD {a b:LI}(hl:a.length=b.length)(h:∀j,j<a.length→a.getD j 0=b.getD j 0):a=b:=by
 apply List.ext_getElem hl
 intro j h1 h2
 have:=h j h1
 rwa [AD h1,AD h2] at this
theorem getD_set (l:LI)(i j:Nat)(x:Int)(hi:i<l.length):(l.set i x).getD j 0=if j=i then x else l.getD j 0:=by
 simp only[List.getD_eq_getElem?_getD,List.getElem?_set]
 by_cases h:j=i
 ·subst h;simp[hi]
 ·rw[if_neg (λe=>h e.symm),if_neg h]
def nb (F:LI)(u w:Nat):Bool:=has (F.getD u 0) w
structure FOk (F:LI)(n:Nat):Prop where
 len:F.length=n
 vs:∀u,u<n→VS (F.getD u 0)
 lt:∀u w,u<n→nb F u w=true→w<n
 irr:∀u,u<n→nb F u u=false
 sym:∀u w,u<n→nb F u w=true→nb F w u=true
theorem FOk.ext {F F':LI}{n:Nat}(h:F.length=n)(h':F'.length=n)(v:∀u,u<n→VS (F.getD u 0))(v':∀u,u<n→VS (F'.getD u 0))(e:∀u w,u<n→nb F u w=nb F' u w):F=F':=by
 refine ext_getD (by omega) (λj hj=> ?_)
 exact(v j (by omega)).ext (v' j (by omega)) (λw _=>e j w (by omega))
theorem DO (g:LL)(u:Nat):(g.map mk).getD u 0=mk (row g u):=by
 unfold row
 simp only[List.getD_eq_getElem?_getD,List.getElem?_map]
 cases g[u]? with
 |none=>simp[mk]
 |some r=>rfl
theorem CJ {g:LL}(hg:GOk g){u w:Nat}(hu:u<g.length):nb (g.map mk) u w=true↔adj g u w:=by
 have h16:=hg.n16
 unfold nb
 rw[DO,has_mk (λx hx=>by have:=(hg.rows u hu).2 x hx;omega)]
 simp[adj]
theorem FOk.of {g:LL}(hg:GOk g):FOk (g.map Sx.mk) g.length:=by
 refine⟨by simp,λu _=>by rw[DO];exact VS.mk _,λu w hu h=>hg.lt hu ((CJ hg hu).1 h),λu hu=> ?_,λu w hu h=> ?_⟩
 ·cases h:nb (g.map Sx.mk) u u
  ·rfl
  ·exact absurd ((CJ hg hu).1 h) (hg.irr u hu)
 ·have ha:=(CJ hg hu).1 h
  exact(CJ hg (hg.lt hu ha)).2 (hg.sym u w hu ha)
def grow (F:LI):LL:=F.map AF
theorem DZ (F:LI)(u:Nat):row (grow F) u=AF (F.getD u 0):=by
 unfold row grow
 simp only[List.getD_eq_getElem?_getD,List.getElem?_map]
 cases F[u]? with
 |none=>simp[C7]
 |some r=>rfl
theorem D7 {F:LI}{n u w:Nat}(h:FOk F n)(hu:u<n):adj (grow F) u w↔nb F u w=true:=by
 unfold adj nb
 rw[DZ,Cj (h.vs u hu)]
theorem GOk.grow {F:LI}{n:Nat}(h:FOk F n)(h1:1≤n)(h16:n≤16):GOk (grow F):=by
 have hl:(Sx.grow F).length=n:=by unfold Sx.grow;rw[List.length_map,h.len]
 refine⟨by omega,by omega,λv hv=> ?_,λv hv ha=> ?_,λu v hu ha=> ?_⟩
 ·rw[DZ,hl]
  refine⟨BZ _,λx hx=> ?_⟩
  obtain⟨w,_,h2,rfl⟩:=mem_elems.1 hx
  have:=h.lt v w (by omega) h2
  omega
 ·rw[D7 h (by omega)] at ha
  rw[h.irr v (by omega)] at ha;cases ha
 ·rw[D7 h (by omega)] at ha
  have:=h.lt u v (by omega) ha
  rw[D7 h (by omega)]
  exact h.sym u v (by omega) ha
theorem mk_elems {s:Int}(h:VS s):mk (AF s)=s:=by
 refine(VS.mk _).ext h (λv hv=> ?_)
 rw[has_mk (λx hx=>by obtain⟨w,h1,_,rfl⟩:=mem_elems.1 hx;omega),Bool.eq_iff_iff,decide_eq_true_eq,Cj h]
theorem grow_mk {F:LI}{n:Nat}(h:FOk F n):(grow F).map mk=F:=by
 refine ext_getD (by simp[grow]) (λj hj=> ?_)
 rw[DO,DZ,mk_elems (h.vs j (by simp[grow,h.len] at hj;omega))]
def PEO (F:LI)(o:LI):Prop:=∀(j:Nat) (v u w:Nat),o[j]? =some (v:Int)→nb F v u=true→nb F v w=true→(u:Int)∉o.take (j+1)→(w:Int)∉o.take (j+1)→u≠w→nb F u w=true
def Lat (F L:LI)(o:LI)(i:Nat):Prop:=∀(j:Nat) (v:Nat),j<i→o[j]? =some (v:Int)→∀w,nb L v w=(nb F v w&&decide ((w:Int)∉o.take (j+1)))
inductive Via (F:LI)(gone:Nat→Prop)(u:Nat):Nat→Prop
 |me:Via F gone u u
 |step {x y:Nat}:Via F gone u x→nb F x y=true→gone y→Via F gone u y
theorem Via.mono {F:LI}{g g':Nat→Prop}{u x:Nat}(h:Via F g u x)(hg:∀y,g y→g' y):Via F g' u x:=by
 induction h with
 |me=>exact .me
 |step _ h1 h2 ih=>exact .step ih h1 (hg _ h2)
theorem Via.end_ {F:LI}{g:Nat→Prop}{u x:Nat}(h:Via F g u x):x=u∨g x:=by
 cases h with
 |me=>exact .inl rfl
 |step _ _ h2=>exact .inr h2
theorem Via.lt {F:LI}{n:Nat}(hF:FOk F n){g:Nat→Prop}{u x:Nat}(hu:u<n)(h:Via F g u x):x<n:=by
 induction h with
 |me=>exact hu
 |step _ h1 _ ih=>exact hF.lt _ _ ih h1
theorem Via.back {F:LI}{n:Nat}(hF:FOk F n){g g':Nat→Prop}(hg:∀y,g y→g' y){v x:Nat}(hv:v<n)(hgv:g' v)(h:Via F g v x):∀z,Via F g' z x→Via F g' z v:=by
 induction h with
 |me=>exact λz h=>h
 |step hx h1 h2 ih=>
  intro z hz
  have hxn:=Via.lt hF hv hx
  refine ih z (.step hz (hF.sym _ _ hxn h1) ?_)
  rcases hx.end_ with e|e
  ·rw[e];exact hgv
  ·exact hg _ e
def Bhd (F:LI)(gone:Nat→Prop)(v w:Nat):Prop:=∃x,Via F gone v x∧nb F x w=true
structure EInv (n:Nat)(F0 o:LI)(i:Nat)(F L:LI)(left:Int):Prop where
 f:FOk F n
 lenL:L.length=n
 vsL:∀u,u<n→VS (L.getD u 0)
 vsl:VS left
 left:∀v,has left v=decide (v<n∧(v:Int)∉o.take i)
 mono:∀u w,u<n→nb F0 u w=true→nb F u w=true
 lat:Lat F L o i
 peo:∀(j:Nat) (v u w:Nat),j<i→o[j]? =some (v:Int)→nb F v u=true→nb F v w=true→(u:Int)∉o.take (j+1)→(w:Int)∉o.take (j+1)→u≠w→nb F u w=true
 same:PEO F0 o→F=F0
 via:∀u w:Nat,u<n→(u:Int)∉o.take i→(w:Int)∉o.take i→u≠w→(nb F u w=true↔Bhd F0 (λx=>(x:Int)∈o.take i) u w)
 latb:∀(j:Nat) (v:Nat),j<i→o[j]? =some (v:Int)→∀w:Nat,nb L v w=true↔(w:Int)∉o.take (j+1)∧Bhd F0 (λx=>(x:Int)∈o.take j) v w
theorem CR {o:LI}{j i:Nat}(h:j≤i){x:Int}(hx:x∈o.take j):x∈o.take i:=by
 rw[mem_take_iff] at hx ⊢
 obtain⟨k,h1,h2,h3⟩:=hx
 exact⟨k,h1,by omega,h3⟩
theorem EInv.step {n:Nat}{F0 o F L:LI}{i v:Nat}{left:Int}(h16:n≤16)(h0:FOk F0 n)(hn:∀x∈o,0≤x∧x<n)(hnd:o.Nodup)(hi:i<o.length)(hv:o[i]=(v:Int))(h:EInv n F0 o i F L left){F':LI}
  (hl':F'.length=n) (hv':∀u,u<n→VS (F'.getD u 0)) (h':∀u w,u<n→nb F' u w=(nb F u w||(has (iand .u32 (F.getD v 0) (iandNot .u32 left (ishl .u32 1 (v:Int)))) u&&has (iand .u32 (F.getD v 0) (iandNot .u32 left (ishl .u32 1 (v:Int)))) w&&decide (w≠u)))):
  EInv n F0 o (i+1) F' (L.set v (iand .u32 (F.getD v 0) (iandNot .u32 left (ishl .u32 1 (v:Int))))) (iandNot .u32 left (ishl .u32 1 (v:Int))):=by
 have hvn:v<n:=by have:=hn _ (List.getElem_mem hi);omega
 have hvt:(v:Int)∉o.take i:=by rw[←hv];exact nodup_iff.1 hnd i hi
 have htk:∀x:Nat,((x:Int)∈o.take (i+1))↔((x:Int)∈o.take i∨x=v):=λx=>by
  rw[List.take_succ_eq_append_getElem hi,List.mem_append,hv];simp[Int.natCast_inj]
 have hleft:∀w,has (iandNot .u32 left (ishl .u32 1 (v:Int))) w=decide (w<n∧(w:Int)∉o.take (i+1)):=λw=>by
  rw[Bj h.vsl (VS.ishl _ _),Bs (by omega),h.left,Bool.eq_iff_iff]
  simp only[Bool.and_eq_true,decide_eq_true_eq,Bool.not_eq_true',decide_eq_false_iff_not,htk]
  constructor
  ·rintro⟨⟨a,b⟩,c⟩;exact⟨a,λhh=>hh.elim b c⟩
  ·rintro⟨a,b⟩;exact⟨⟨a,λhh=>b (.inl hh)⟩,λhh=>b (.inr hh)⟩
 have hS:∀w,has (iand .u32 (F.getD v 0) (iandNot .u32 left (ishl .u32 1 (v:Int)))) w=(nb F v w&&decide ((w:Int)∉o.take (i+1))):=λw=>by
  rw[has_iand (h.f.vs v hvn) (VS.iandNot _ _),hleft,Bool.eq_iff_iff]
  show (nb F v w&&_)=true↔_
  simp only[Bool.and_eq_true,decide_eq_true_eq]
  exact⟨fun⟨a,b,c⟩=>⟨a,c⟩,fun⟨a,c⟩=>⟨a,h.f.lt v w hvn a,c⟩⟩
 have hlV:VS (iandNot .u32 left (ishl .u32 1 (v:Int))):=VS.iandNot _ _
 generalize iandNot .u32 left (ishl .u32 1 (v:Int))=left' at*
 generalize hSS:iand .u32 (F.getD v 0) left'=S at*
 have hSV:VS S:=by rw[←hSS];exact VS.iand _ _
 have hSlt:∀w,has S w=true→w<n∧(w:Int)∉o.take (i+1):=λw hw=>by
  rw[hS] at hw
  simp only[Bool.and_eq_true,decide_eq_true_eq] at hw
  exact⟨h.f.lt v w hvn hw.1,hw.2⟩
 have hmono:∀u w,u<n→nb F u w=true→nb F' u w=true:=λu w hu hh=>by rw[h' u w hu,hh];rfl
 have hold:∀x:Nat,x<n→(x:Int)∈o.take (i+1)→∀w,nb F' x w=nb F x w:=λx hx hm w=>by
  rw[h' x w hx]
  have:has S x=false:=by
   cases hc:has S x
   ·rfl
   ·exact absurd hm (hSlt x hc).2
  simp[this]
 have hf':FOk F' n:=by
  refine⟨hl',hv',λu w hu hh=> ?_,λu hu=> ?_,λu w hu hh=> ?_⟩
  ·rw[h' u w hu] at hh
   simp only[Bool.or_eq_true,Bool.and_eq_true] at hh
   rcases hh with hh|⟨⟨_,hh⟩,_⟩
   ·exact h.f.lt u w hu hh
   ·exact(hSlt w hh).1
  ·rw[h' u u hu,h.f.irr u hu];simp
  ·rw[h' u w hu] at hh
   simp only[Bool.or_eq_true,Bool.and_eq_true,decide_eq_true_eq] at hh
   rcases hh with hh|⟨⟨h1,h2⟩,h3⟩
   ·exact hmono w u (h.f.lt u w hu hh) (h.f.sym u w hu hh)
   ·rw[h' w u (hSlt w h2).1,h1,h2]
    have:decide (u≠w)=true:=by simpa using λe=>h3 e.symm
    simp[this]
 have hjv:∀j (x:Nat),o[j]? =some (x:Int)→j<o.length∧x<n∧(x:Int)∈o.take (j+1):=λj x hx=>by
  obtain⟨h1,h2⟩:=List.getElem?_eq_some_iff.1 hx
  have:=hn _ (List.getElem_mem h1)
  refine⟨h1,by omega,?_⟩
  rw[mem_take_iff];exact⟨j,h1,by omega,h2⟩
 refine⟨hf',by simp[h.lenL],λu hu=> ?_,hlV,hleft,λu w hu hh=>hmono u w hu (h.mono u w hu hh),λj x hj hx w=> ?_,λj x u w hj hx h1 h2 h3 h4 h5=> ?_,λhp=> ?_,λu w hu k1 k2 huw=> ?_,λj x hj hx w=> ?_⟩
 ·rw[getD_set _ _ _ _ (by rw[h.lenL];exact hvn)]
  split
  ·exact hSV
  ·exact h.vsL u hu
 ·obtain⟨k1,k2,k3⟩:=hjv j x hx
  have k4:=CR (show j+1≤i+1 by omega) k3
  rw[hold x k2 k4 w]
  unfold nb
  rw[getD_set _ _ _ _ (by rw[h.lenL];exact hvn)]
  by_cases hji:j=i
  ·subst hji
   rw[List.getElem?_eq_getElem hi,hv] at hx
   have:x=v:=by
    have:(v:Int)=(x:Int):=by simpa using hx
    omega
   subst this
   rw[if_pos rfl,hS];rfl
  ·have hne:x≠v:=λe=>by
    subst e
    exact hvt (CR (show j+1≤i by omega) k3)
   rw[if_neg hne]
   exact h.lat j x (by omega) hx w
 ·obtain⟨k1,k2,k3⟩:=hjv j x hx
  have k4:=CR (show j+1≤i+1 by omega) k3
  rw[hold x k2 k4] at h1 h2
  by_cases hji:j=i
  ·subst hji
   rw[List.getElem?_eq_getElem hi,hv] at hx
   have:x=v:=by
    have:(v:Int)=(x:Int):=by simpa using hx
    omega
   subst this
   have hu:has S u=true:=by rw[hS,h1];simpa using h3
   have hw:has S w=true:=by rw[hS,h2];simpa using h4
   rw[h' u w (hSlt u hu).1,hu,hw]
   have:decide (w≠u)=true:=by simpa using λe=>h5 e.symm
   simp[this]
  ·exact hmono u w (h.f.lt x u k2 h1) (h.peo j x u w (by omega) hx h1 h2 h3 h4 h5)
 ·have hFF:=h.same hp
  subst hFF
  refine FOk.ext hl' h.f.len hv' h.f.vs (λu w hu=> ?_)
  rw[h' u w hu,Bool.eq_iff_iff]
  simp only[Bool.or_eq_true,Bool.and_eq_true,decide_eq_true_eq]
  constructor
  ·rintro(hh|⟨⟨h1,h2⟩,h3⟩)
   ·exact hh
   ·have k1:=(hSlt u h1).2;have k2:=(hSlt w h2).2
    rw[hS] at h1 h2
    simp only[Bool.and_eq_true] at h1 h2
    exact hp i v u w (by rw[List.getElem?_eq_getElem hi,hv]) h1.1 h2.1 k1 k2 (λe=>h3 e.symm)
  ·exact .inl
 ·have q1:(u:Int)∉o.take i:=λe=>k1 ((htk u).2 (.inl e))
  have q2:(w:Int)∉o.take i:=λe=>k2 ((htk w).2 (.inl e))
  have huv:u≠v:=λe=>k1 ((htk u).2 (.inr e))
  have hwv:w≠v:=λe=>k2 ((htk w).2 (.inr e))
  have hgg:∀y:Nat,(y:Int)∈o.take i→(y:Int)∈o.take (i+1):=λy hy=>(htk y).2 (.inl hy)
  rw[h' u w hu]
  simp only[Bool.or_eq_true,Bool.and_eq_true,decide_eq_true_eq]
  constructor
  ·rintro(hh|⟨⟨a1,a2⟩,_⟩)
   ·obtain⟨x,hx,e⟩:=(h.via u w hu q1 q2 huw).1 hh
    exact⟨x,hx.mono hgg,e⟩
   ·rw[hS] at a1 a2
    simp only[Bool.and_eq_true,decide_eq_true_eq] at a1 a2
    obtain⟨x,hx,ex⟩:=(h.via v u hvn hvt q1 (λe=>huv e.symm)).1 a1.1
    obtain⟨y,hy,ey⟩:=(h.via v w hvn hvt q2 (λe=>hwv e.symm)).1 a2.1
    have hvg:(v:Int)∈o.take (i+1):=(htk v).2 (.inr rfl)
    have hxn:=Via.lt h0 hvn hx
    have hxg:(x:Int)∈o.take (i+1):=by
     rcases hx.end_ with e|e
     ·rw[e];exact hvg
     ·exact hgg x e
    have hux:Via F0 (λx=>(x:Int)∈o.take (i+1)) u x:= .step .me (h0.sym x u hxn ex) hxg
    have huv':=Via.back h0 (g':=λx=>(x:Int)∈o.take (i+1)) hgg hvn hvg hx u hux
    have hgo:∀y,Via F0 (λx=>(x:Int)∈o.take i) v y→Via F0 (λx=>(x:Int)∈o.take (i+1)) u y:=λy hy=>by
     induction hy with
     |me=>exact huv'
     |step _ b1 b2 ih=>exact .step ih b1 (hgg _ b2)
    exact⟨y,hgo y hy,ey⟩
  ·rintro⟨x,hx,ex⟩
   have hcl:∀x,Via F0 (λx=>(x:Int)∈o.take (i+1)) u x→Via F0 (λx=>(x:Int)∈o.take i) u x∨(Bhd F0 (λx=>(x:Int)∈o.take i) u v∧Via F0 (λx=>(x:Int)∈o.take i) v x):=λx hx=>by
    induction hx with
    |me=>exact .inl .me
    | @step a b _ b1 b2 ih=>
     rcases(htk b).1 b2 with b2|b2
     ·rcases ih with ih|⟨ih1,ih2⟩
      ·exact .inl (.step ih b1 b2)
      ·exact .inr ⟨ih1,.step ih2 b1 b2⟩
     ·rcases ih with ih|⟨ih1,ih2⟩
      ·subst b2;exact .inr ⟨⟨a,ih,b1⟩,.me⟩
      ·subst b2;exact .inr ⟨ih1,.me⟩
   rcases hcl x hx with hx|⟨hx1,hx2⟩
   ·exact .inl ((h.via u w hu q1 q2 huw).2 ⟨x,hx,ex⟩)
   ·right
    have a1:=(h.via u v hu q1 hvt huv).2 hx1
    have a2:=(h.via v w hvn hvt q2 (λe=>hwv e.symm)).2 ⟨x,hx2,ex⟩
    refine⟨⟨?_,?_⟩,λe=>huw e.symm⟩
    ·rw[hS,h.f.sym u v hu a1];simpa using k1
    ·rw[hS,a2];simpa using k2
 ·obtain⟨k1,k2,k3⟩:=hjv j x hx
  unfold nb
  rw[getD_set _ _ _ _ (by rw[h.lenL];exact hvn)]
  by_cases hji:j=i
  ·subst hji
   rw[List.getElem?_eq_getElem hi,hv] at hx
   have:x=v:=by
    have:(v:Int)=(x:Int):=by simpa using hx
    omega
   subst this
   rw[if_pos rfl,hS,Bool.and_eq_true,decide_eq_true_eq]
   constructor
   ·rintro⟨b1,b2⟩
    have b3:(w:Int)∉o.take j:=λe=>b2 ((htk w).2 (.inl e))
    have b4:x≠w:=λe=>b2 ((htk w).2 (.inr e.symm))
    exact⟨b2,(h.via x w hvn hvt b3 b4).1 b1⟩
   ·rintro⟨b2,b1⟩
    have b3:(w:Int)∉o.take j:=λe=>b2 ((htk w).2 (.inl e))
    have b4:x≠w:=λe=>b2 ((htk w).2 (.inr e.symm))
    exact⟨(h.via x w hvn hvt b3 b4).2 b1,b2⟩
  ·have hne:x≠v:=λe=>by
    subst e
    exact hvt (CR (show j+1≤i by omega) k3)
   rw[if_neg hne]
   exact h.latb j x (by omega) hx w
theorem Cc :∀{l m:LI},l.Nodup→(∀x∈l,x∈m)→l.length≤m.length
 |[],_,_,_=>by simp
 |x::l,m,h,hs=>by
  have h':=List.nodup_cons.1 h
  have hx:=hs x (by simp)
  have:=Cc (l:=l) (m:=m.erase x) h'.2 (λy hy=>by
   have hne:y≠x:=λe=>h'.1 (e▸hy)
   exact(List.mem_erase_of_ne hne).2 (hs y (by simp[hy])))
  rw[List.length_erase_of_mem hx] at this
  have hp:0<m.length:=List.length_pos_of_mem hx
  simp;omega
theorem Inc.nodup {l:LI}(h:Inc l):l.Nodup:=List.Pairwise.imp (λh e=>by omega) h
def withV (bags:LL)(v:Int):LI:=((List.range bags.length).filter λb=>decide (v∈bags.getD b [])).map Int.ofNat
theorem mem_withV {bags:LL}{v x:Int}:x∈withV bags v↔∃b:Nat,x=b∧b<bags.length∧v∈bags.getD b []:=by
 unfold withV
 rw[List.mem_map]
 constructor
 ·rintro⟨b,hb,rfl⟩
  rw[List.mem_filter,List.mem_range] at hb
  exact⟨b,rfl,hb.1,of_decide_eq_true hb.2⟩
 ·rintro⟨b,rfl,h1,h2⟩
  exact⟨b,List.mem_filter.2 ⟨List.mem_range.2 h1,decide_eq_true h2⟩,rfl⟩
def Lk (links:LL)(x y:Int):Prop:=[x,y]∈links∨[y,x]∈links
structure Closed (links:LL)(sel m:LI):Prop where
 sub:∀x∈m,x∈sel
 first:∀x,sel.head? =some x→x∈m
 step:∀x∈m,∀y∈sel,Lk links x y→y∈m
def Conn (links:LL)(sel:LI):Prop:=∀m,Closed links sel m→∀x∈sel,x∈m
def LinkIn (n:Nat)(l:LI):Prop:=∃a b:Nat,l=[(a:Int),(b:Int)]∧a<b∧b<n
structure TB (g bags links:LL):Prop where
 n1:1≤bags.length
 n16:bags.length≤16
 many:links.length+1=bags.length
 lks:∀l∈links,LinkIn bags.length l
 sets:∀b∈bags,SetOf b g.length
 tree:Conn links ((List.range bags.length).map Int.ofNat)
 edges:∀u v:Nat,u<g.length→adj g u v→∃b∈bags,(u:Int)∈b∧(v:Int)∈b
 some:∀v,v<g.length→withV bags v≠[]
 conn:∀v,v<g.length→Conn links (withV bags v)
def rowF (r:LI)(u:Nat)(s:LL):LL:=(List.range r.length).foldl (λs i=>if(u:Int)<r.getD i 0 then s++[[(u:Int),r.getD i 0]] else s) s
theorem inner_edges (r:LI)(u:Nat)(s0:LL)(h:s0.length+r.length≤4294967296){step:LL×Int→Option ((LL×Int) ⊕ LL)}
  (hstep:∀s (i:Nat) (hi:i<r.length),step (s,(i:Int))=cond (decide ((u:Int)<r[i])) ((AS s [[(u:Int),r[i]]]).bind λl=>some (.inl (l,((i+1:Nat):Int)))) (some (.inl (s,((i+1:Nat):Int)))))
  (hend:∀s,step (s,(r.length:Int))=some (.inr s)):Al step (s0,0)=some (rowF r u s0)∧(rowF r u s0).length≤s0.length+r.length:=by
 have key:=loop_nat (step:=step) r.length (λs i=>(s,i)) (λs i=>if(u:Int)<r.getD i 0 then s++[[(u:Int),r.getD i 0]] else s) (λs=>s) (λi s=>s.length≤s0.length+i) s0 (by omega)
  (λs i hi hs=> ?_) (λs _=>hend s)
 ·exact key
 ·have hg:r.getD i 0=r[i]:=AD hi 0
  refine⟨?_,?_⟩
  ·rw[hstep s i hi,hg]
   by_cases hc:(u:Int)<r[i]
   ·rw[decide_eq_true hc,cond_true,Br (by simp;omega),if_pos hc];rfl
   ·rw[decide_eq_false hc,cond_false,if_neg hc]
  ·rw[hg]
   split
   ·rw[List.length_append,List.length_singleton];omega
   ·omega
def edgesF (g:LL):LL:=(List.range g.length).foldl (λs u=>rowF (row g u) u s) []
theorem EX (g:LL)(hg:GOk g):D.V0 g=some (edgesF g):=by
 have h16:=hg.n16
 unfold D.V0
 have key:=loop_nat (ρ:=LL) (step:=(fun(s_288:LL×Int)=>match s_288 with|(l_291,x_296)=>cond (decide (x_296<(g.length:Int))) ((idx g x_296).bind λe_441=>(Al (σ:=LL×Int) (ρ:=(LL)) (fun(s_508:LL×Int)=>match s_508 with|(l_511,x_516)=>cond (decide (x_516<(e_441.length:Int))) ((idx e_441 x_516).bind λe_551=>cond (decide (x_296<e_551)) ((AS l_511 ([([x_296,e_551]:LI)]:LL)).bind λl_569=>some (.inl (l_569,(IntKind.i64.wrap (x_516+1))))) (some (.inl (l_511,(IntKind.i64.wrap (x_516+1)))))) (some (.inr l_511))) (l_291,0)).bind λl_544=>some (.inl (l_544,(IntKind.i64.wrap (x_296+1))))) (some (.inr l_291))))
  g.length (λs i=>(s,i)) (λs u=>rowF (row g u) u s) (λs=>s) (λi s=>s.length≤16*i) [] (by simp) (λs u hu hs=> ?_) (λs _=> ?_)
 ·exact congrArg (λz=>Option.bind z λl=>some l) key.1
 ·have hr:=hg.row_len hu
  obtain⟨k1,k2⟩:=inner_edges (row g u) u s (by omega) (step:=(fun(s_508:LL×Int)=>match s_508 with|(l_511,x_516)=>cond (decide (x_516<((row g u).length:Int))) ((idx (row g u) x_516).bind λe_551=>cond (decide ((u:Int)<e_551)) ((AS l_511 ([([(u:Int),e_551]:LI)]:LL)).bind λl_569=>some (.inl (l_569,(IntKind.i64.wrap (x_516+1))))) (some (.inl (l_511,(IntKind.i64.wrap (x_516+1)))))) (some (.inr l_511)))) (λs i hi=>by
    simp only[dlt hi,cond_true,AB hi,bs,wq i]) (λs=>by simp only[Bd,cond_false])
  refine⟨?_,by omega⟩
  simp only[dlt hu,cond_true,BW hu,bs,wq u]
  exact(congrArg (λz=>Option.bind z _) k1).trans rfl
 ·simp only[Bd,cond_false]
theorem GOk.sh2 {g:LL}(hg:GOk g):Sh2 g:=by
 have h16:=hg.n16
 exact⟨by unfold Sh;omega,λr hr=>by have:=(hg.mem0 hr).1;unfold Sh;omega⟩
theorem Ey {g:LL}(hg:GOk g):gB g=true:=(gB_iff g).2 hg
theorem Dn (g:LL)(hg:GOk g):D.K0 g=some ((edgesF g).length:Int):=by
 unfold D.K0 D.i1
 rw[Cm g hg.sh2,Ey hg,bs,Bool.not_true,cond_false,EX g hg];rfl
theorem nets_graph_eq (F:LI)(h:F.length≤16)(hV:∀u,u<F.length→VS (F.getD u 0)):D.U0 F=some (grow F):=by
 unfold D.U0
 refine(DF F (λs i=>(i,s)) AF (by omega) (λs i hi _=> ?_) (λs=> ?_)).trans rfl
 ·have:=hV i hi
  rw[AD hi] at this
  simp only[dlt hi,cond_true,AB hi,bs,numbers_eq _ this,wq i]
 ·simp only[Bd,cond_false]
theorem OOk.sh {g:LL}{o:LI}(hg:GOk g)(ho:OOk g o):Sh o:=by
 have:=hg.n16;have:=ho.len;unfold Sh;omega
theorem EE {g:LL}{o:LI}(hg:GOk g)(ho:OOk g o):D.L0 g o=some true:=by
 rw[EW g o hg.sh2 (ho.sh hg),Ey hg,(ordB_iff g o).2 ho];rfl
structure Fill (g:LL)(o F L:LI):Prop where
 elim:D.j1 (g.map mk) o=some (F,L)
 f:FOk F g.length
 lenL:L.length=g.length
 vsL:∀u,u<g.length→VS (L.getD u 0)
 mono:∀u w,u<g.length→adj g u w→nb F u w=true
 lat:Lat F L o g.length
 peo:PEO F o
 same:PEO (g.map mk) o→F=g.map mk
 latb:∀(j:Nat) (v:Nat),o[j]? =some (v:Int)→∀w:Nat,nb L v w=true↔(w:Int)∉o.take (j+1)∧Bhd (g.map mk) (λx=>(x:Int)∈o.take j) v w
theorem Fill.FillOf {g:LL}{o F L:LI}(hg:GOk g)(ho:OOk g o)(h:Fill g o F L):D.T0 g o=some (grow F,true):=by
 have h16:=hg.n16
 unfold D.T0
 rw[EE hg ho,bs,Bool.not_true,cond_false,netsOf_eq g hg,bs,narrow_eq o (ho.sh hg),bs,h.elim,bs,nets_graph_eq F (by rw[h.f.len];omega) (λu hu=>h.f.vs u (by rw[h.f.len] at hu;exact hu))]
 rfl
theorem Fill.gok {g:LL}{o F L:LI}(hg:GOk g)(h:Fill g o F L):GOk (grow F):=GOk.grow h.f hg.n1 hg.n16
theorem EU {α:Type}(p:α→Bool){l:List α}{i:Nat}(hi:i<l.length):(l.take (i+1)).filter p=(l.take i).filter p++(if p l[i] then [l[i]] else []):=by
 rw[List.take_succ_eq_append_getElem hi,List.filter_append]
 congr 1
 rw[List.filter_cons,List.filter_nil]
def sumN (f:Nat→Nat):Nat→Nat
 |0=>0
 |n+1=>sumN f n+f n
def bit (b:Bool):Nat:=if b then 1 else 0
def S2 (n:Nat)(p:Nat→Nat→Bool):Nat:=sumN (λu=>sumN (λw=>bit (p u w)) n) n
def full (n:Nat):Int:=IntKind.u32.wrap (ishl .u32 1 (n:Int)-1)
theorem Fill.many {g:LL}{o F L:LI}(hg:GOk g)(ho:OOk g o)(h:Fill g o F L):D.l1 g o=some (IntKind.i64.wrap (((edgesF (grow F)).length:Int)-((edgesF g).length:Int))):=by
 unfold D.l1
 rw[h.FillOf hg ho,bs]
 simp only[Bool.not_true,cond_false]
 rw[Dn _ (h.gok hg),bs,Dn _ hg]
 rfl
section
variable {g : LL} {o : LI} (hg : GOk g) (ho : OOk g o)
include hg ho
end
end Go.Sx

namespace Go.Sx
section
variable {g : LL} {o : LI} (hg : GOk g) (ho : OOk g o)
include hg ho
def mx (f:Nat→Int):Nat→Int
 |0=>0
 |n+1=>max (mx f n) (f n)
end
end Go.Sx

namespace Go.Sx
def dg (g:LL)(s:Int)(v:Int):Int:=((AF (iand .u32 (mk (row g v.toNat)) s)).length:Int)
structure SQ (n:Nat)(s:Int)(k:Nat):Prop where
 vs:VS s
 lt:∀v,has s v=true→v<n
 card:(AF s).length=k
theorem SQ.ne {n k:Nat}{s:Int}(h:SQ n s (k+1)):AF s≠[]:=λe=>by have:=h.card;rw[e] at this;simp at this
theorem SQ.z {n:Nat}{s:Int}(h:SQ n s 0):s=0:=by
 rw[h.vs.eq_zero]
 intro v hv
 cases hc:has s v
 ·rfl
 ·have:(v:Int)∈AF s:=(Cj h.vs).2 hc
  have h0:=h.card
  rw[List.length_eq_zero_iff] at h0
  rw[h0] at this;simp at this
noncomputable def elimF (F:LI)(s b:Int):LI:=(D.o1 F s b).getD []
structure GQ (n i:Nat)(F o:LI)(s:Int):Prop where
 f:FOk F n
 left:SQ n s (n-i)
 len:o.length=i
 rng:∀x∈o,∃v:Nat,x=v∧v<n∧has s v=false
 nd:o.Nodup
noncomputable def ef (g:LL)(o:LI):Nat→LI×LI×Int
 |0=>(g.map mk,List.replicate g.length 0,full g.length)
 |i+1=>(elimF (ef g o i).1 (ef g o i).2.2 (o.getD i 0),(ef g o i).2.1.set (o.getD i 0).toNat (iand .u32 ((ef g o i).1.getD (o.getD i 0).toNat 0) (iandNot .u32 (ef g o i).2.2 (ishl .u32 1 (o.getD i 0)))),
   iandNot .u32 (ef g o i).2.2 (ishl .u32 1 (o.getD i 0)))
section
variable {g : LL} {o : LI} (hg : GOk g) (ho : OOk g o)
include hg ho
end
end Go.Sx

namespace Go.Sx
structure Net (A:LI)(n:Nat):Prop where
 len:A.length=n
 vs:∀u,u<n→VS (A.getD u 0)
 lt:∀u w,u<n→nb A u w=true→w<n
structure Rch (A:LI)(W:Int)(v:Nat)(S:Int):Prop where
 vs:VS S
 me:has S v=true
 step:∀x y,has S x=true→nb A x y=true→has W y=true→has S y=true
 least:∀T:Nat→Prop,T v→(∀x y,T x→nb A x y=true→has W y=true→T y)→∀x,has S x=true→T x
def cz :LI→LI→Int
 |[],[]=>0
 |[],_::_=> -1
 |_::_,[]=>1
 |a::x,b::y=>if a<b then-1 else if b<a then 1 else cz x y
def lk :Nat→LI→Int
 |0,_=>0
 |_+1,[]=>0
 |d+1,a::l=>(a+1)*33^d+lk d l
def lkey (s:Int):Int:=lk 32 (AF s)
def skey (s:Int):Int:=((AF s).length:Int)*33^32+lkey s
def CQ (F:LI)(K:Int):Prop:=∀u w,has K u=true→has K w=true→u≠w→nb F u w=true
def MX (F:LI)(n:Nat)(K:Int):Prop:=CQ F K∧∀w,w<n→has K w=false→∃u,has K u=true∧nb F u w=false
def In (n:Nat)(K:Int):Prop:=VS K∧∀w,has K w=true→w<n
structure Tgt (F:LI)(n:Nat)(C O K:Int):Prop where
 ok:In n K
 mx:MX F n K
 sup:∀w,has C w=true→has K w=true
 sub:∀w,has K w=true→has C w=true∨has O w=true
theorem In.lt {n:Nat}{K:Int}(h:In n K)(hn:n≤16):0≤K∧K<65536:=by
 obtain⟨m,rfl,hm⟩:=h.1.nat
 refine⟨by omega,?_⟩
 have:m<2^16:=by
  apply Nat.lt_pow_two_of_testBit
  intro i hi
  cases hc:m.testBit i
  ·rfl
  ·have:=h.2 i (by rw[BA];exact hc)
   omega
 omega
theorem masks_len {n:Nat}{l:LI}(hn:n≤16)(h:∀K∈l,In n K)(hd:l.Nodup):l.length≤65536:=by
 have:=Cc (m:=(List.range 65536).map Int.ofNat) hd (λK hK=>by
  have:=(h K hK).lt hn
  exact List.mem_map.2 ⟨K.toNat,List.mem_range.2 (by omega),by show ((K.toNat:Nat):Int)=K;omega⟩)
 simpa using this
structure BK (F:LI)(n:Nat)(C O S:Int):Prop where
 c:In n C
 o:In n O
 s:In n S
 cq:CQ F C
 cn:∀w,w<n→((has O w=true∨has S w=true)↔∀u,has C u=true→nb F u w=true)
 dis:∀w,has O w=true→has S w=false
theorem rise_nodup {k:Int→Int}{l:LI}(h:l.Pairwise (λa b=>k a<k b)):l.Nodup:=List.Pairwise.imp (λh e=>by subst e;omega) h
def Dw {α:Type}(b:LI)(P:α→Prop)(e:Option (α×LI×Int×Int)):Prop:=∃y,e=some y∧(P y.1∧y.2.1=b∧DK b y.2.2.1)
theorem Dw.then {α β:Type}{b:LI}{P:α→Prop}{e:Option (α×LI×Int×Int)}{k:α×LI×Int×Int→Option β}{Q:β→Prop}(h:Dw b P e)
  (hk:∀a i z,P a→DK b i→∃y,k (a,b,i,z)=some y∧Q y):∃y,e.bind k=some y∧Q y:=by
 obtain⟨⟨a,b',i,z⟩,rfl,h1,h2,h3⟩:=h
 dsimp only at h1 h2 h3
 subst h2
 exact hk a i z h1 h3
def Few (g:LL):Prop:=g.length≤17∧∀r∈g,r.length≤17
theorem Few.sh2 {g:LL}(h:Few g):Sh2 g:=⟨by have:=h.1;unfold Sh;omega,λr hr=>by have:=h.2 r hr;unfold Sh;omega⟩
theorem GOk.few {g:LL}(hg:GOk g):Few g:=by
 have h16:=hg.n16
 exact⟨by omega,λr hr=>by have:=(hg.mem0 hr).1;omega⟩
theorem Few.set {g:LL}(h:Few g)(k:Nat){r:LI}(hr:r.length≤17):Few (g.set k r):=by
 refine⟨by have:=h.1;simpa using this,λx hx=> ?_⟩
 rcases List.mem_or_eq_of_mem_set hx with hx|rfl
 ·exact h.2 x hx
 ·exact hr
theorem elems_mk {n:Nat}{x:LI}(hn:n≤16)(hi:Inc x)(hr:∀z∈x,0≤z∧z<n):AF (mk x)=x:=by
 have h32:∀z∈x,0≤z∧z<32:=λz hz=>by have:=hr z hz;omega
 refine Inc.ext (BZ _) hi (λz=> ?_)
 rw[mem_elems]
 constructor
 ·rintro⟨v,_,h,rfl⟩
  rw[has_mk h32] at h
  exact of_decide_eq_true h
 ·intro hz
  have:=h32 z hz
  refine⟨z.toNat,by omega,?_,by omega⟩
  rw[has_mk h32,show ((z.toNat:Nat):Int)=z by omega]
  exact decide_eq_true hz
def Cq (g:LL)(x:LI):Prop:=∀u w:Nat,(u:Int)∈x→(w:Int)∈x→u≠w→adj g u w
structure Fin' (g:LL)(x:LI):Prop where
 inc:Inc x
 rng:∀z∈x,0≤z∧z<g.length
 cq:Cq g x
 mx:∀w,w<g.length→∃u:Nat,(u:Int)∈x∧¬adj g u w
def Sol (g:LL)(set left x:LI):Prop:=∃y,x=set++y∧(∀z∈y,z∈left)∧Fin' g x
structure SK (g:LL)(set left out:LI):Prop where
 inc:Inc (set++left)
 r1:∀z∈set++left,0≤z∧z<g.length
 r2:∀z∈out,0≤z∧z<g.length
 cq:Cq g set
 cn:∀w:Nat,w<g.length→(((w:Int)∈left∨(w:Int)∈out)↔∀u:Nat,(u:Int)∈set→adj g u w)
 len:out.length+left.length≤16
theorem SK.next {g:LL}(hg:GOk g){set left out:LI}(h:SK g set left out){i v:Nat}(hi:i<left.length)(hv:left[i]=(v:Int)):
  SK g (set++[(v:Int)]) ((left.drop (i+1)).filter λx=>decide (x∈row g v)) ((out++left.take i).filter λx=>decide (x∈row g v))∧
  (∀x,Sol g (set++[(v:Int)]) ((left.drop (i+1)).filter λx=>decide (x∈row g v)) x↔∃y,x=set++(v:Int)::y∧(∀z∈y,z∈left)∧Fin' g x):=by
 have hvm:(v:Int)∈left:=by rw[←hv];exact List.getElem_mem hi
 have hvr:=h.r1 _ (List.mem_append.2 (.inr hvm))
 have hvn:v<g.length:=by omega
 have hinc:=List.pairwise_append.1 h.inc
 have hsplit:left=left.take i++(v:Int)::left.drop (i+1):=by
  rw[←hv,List.getElem_cons_drop,List.take_append_drop]
 have hdrop:∀z,z∈left.drop (i+1)↔z∈left∧(v:Int)<z:=λz=>by
  have h2:=hinc.2.1
  rw[hsplit] at h2
  have h3:=List.pairwise_append.1 h2
  have h4:=List.pairwise_cons.1 h3.2.1
  constructor
  ·intro hz
   exact⟨List.mem_of_mem_drop hz,h4.1 z hz⟩
  ·rintro⟨h5,h6⟩
   rw[hsplit] at h5
   rcases List.mem_append.1 h5 with h5|h5
   ·have:=h3.2.2 z h5 (v:Int) (by simp);omega
   ·rcases List.mem_cons.1 h5 with rfl|h5
    ·omega
    ·exact h5
 refine⟨⟨?_,?_,?_,?_,?_,?_⟩,λx=> ?_⟩
 ·rw[List.append_assoc]
  refine List.pairwise_append.2 ⟨hinc.1,?_,λa ha b hb=> ?_⟩
  ·rw[List.singleton_append]
   refine List.pairwise_cons.2 ⟨λz hz=>((hdrop z).1 (List.mem_filter.1 hz).1).2,?_⟩
   exact List.Pairwise.filter _ (List.Pairwise.sublist (List.drop_sublist _ _) hinc.2.1)
  ·refine hinc.2.2 a ha b ?_
   rw[List.singleton_append] at hb
   rcases List.mem_cons.1 hb with rfl|hb
   ·exact hvm
   ·exact((hdrop b).1 (List.mem_filter.1 hb).1).1
 ·intro z hz
  rcases List.mem_append.1 hz with hz|hz
  ·rcases List.mem_append.1 hz with hz|hz
   ·exact h.r1 z (List.mem_append.2 (.inl hz))
   ·simp at hz;subst hz;exact hvr
  ·exact h.r1 z (List.mem_append.2 (.inr ((hdrop z).1 (List.mem_filter.1 hz).1).1))
 ·intro z hz
  rcases List.mem_append.1 (List.mem_filter.1 hz).1 with hz|hz
  ·exact h.r2 z hz
  ·exact h.r1 z (List.mem_append.2 (.inr (List.mem_of_mem_take hz)))
 ·intro u w hu hw hne
  have key:∀a:Nat,(a:Int)∈set→adj g a v:=λa ha=>(h.cn v hvn).1 (.inl hvm) a ha
  rcases List.mem_append.1 hu with hu1|hu1<;>rcases List.mem_append.1 hw with hw1|hw1
  ·exact h.cq u w hu1 hw1 hne
  ·have e:w=v:=by simp at hw1;omega
   rw[e];exact key u hu1
  ·have e:u=v:=by simp at hu1;omega
   rw[e]
   have:=h.r1 _ (List.mem_append.2 (.inl hw1))
   exact hg.sym w v (by omega) (key w hw1)
  ·simp at hu1 hw1;omega
 ·intro w hw
  have h1:=h.cn w hw
  have hself:(w:Int)∈row g v→w≠v:=λha e=>by subst e;exact hg.irr w hw ha
  constructor
  ·intro hm u hu
   have hm':((w:Int)∈left∨(w:Int)∈out)∧(w:Int)∈row g v:=by
    rcases hm with hm|hm
    ·obtain⟨a1,a2⟩:=List.mem_filter.1 hm
     exact⟨.inl ((hdrop _).1 a1).1,of_decide_eq_true a2⟩
    ·obtain⟨a1,a2⟩:=List.mem_filter.1 hm
     refine⟨?_,of_decide_eq_true a2⟩
     rcases List.mem_append.1 a1 with a1|a1
     ·exact .inr a1
     ·exact .inl (List.mem_of_mem_take a1)
   rcases List.mem_append.1 hu with hu|hu
   ·exact h1.1 hm'.1 u hu
   ·have:u=v:=by simp at hu;omega
    subst this;exact hm'.2
  ·intro hA
   have hav:(w:Int)∈row g v:=hA v (by simp)
   have hne:=hself hav
   rcases h1.2 (λu hu=>hA u (List.mem_append.2 (.inl hu))) with hm|hm
   ·rw[hsplit] at hm
    rcases List.mem_append.1 hm with hm|hm
    ·exact .inr (List.mem_filter.2 ⟨List.mem_append.2 (.inr hm),decide_eq_true hav⟩)
    ·rcases List.mem_cons.1 hm with hm|hm
     ·omega
     ·exact .inl (List.mem_filter.2 ⟨hm,decide_eq_true hav⟩)
   ·exact .inr (List.mem_filter.2 ⟨List.mem_append.2 (.inl hm),decide_eq_true hav⟩)
 ·have a1:((left.drop (i+1)).filter λx=>decide (x∈row g v)).length≤(left.drop (i+1)).length:=List.length_filter_le _ _
  have a2:((out++left.take i).filter λx=>decide (x∈row g v)).length≤(out++left.take i).length:=List.length_filter_le _ _
  have:=h.len
  simp only[List.length_drop,List.length_append,List.length_take] at a1 a2
  omega
 ·constructor
  ·rintro⟨y,rfl,hy,hf⟩
   exact⟨y,by simp,λz hz=>((hdrop z).1 (List.mem_filter.1 (hy z hz)).1).1,hf⟩
  ·rintro⟨y,rfl,hy,hf⟩
   refine⟨y,by simp,λz hz=> ?_,hf⟩
   have hz2:=hf.rng z (by simp[hz])
   have h6:=(List.pairwise_cons.1 (List.pairwise_append.1 hf.inc).2.1).1 z hz
   refine List.mem_filter.2 ⟨(hdrop z).2 ⟨hy z hz,h6⟩,decide_eq_true ?_⟩
   have:=hf.cq v z.toNat (by simp) (by rw[show ((z.toNat:Nat):Int)=z by omega];simp[hz]) (by omega)
   unfold adj at this
   rwa [show ((z.toNat:Nat):Int)=z by omega] at this
structure GC (g:LL)(l:LI):Prop where
 up:l.Pairwise λa b=>lkey a<lkey b
 mem:∀K,K∈l↔In g.length K∧MX (g.map mk) g.length K
def mis (F:LI)(n:Nat)(S:Int):Nat:=S2 n (λu w=>has S u&&(has S w&&(decide (w<u)&& !nb F w u)))
def cd (F:LI)(s v:Int):Int:=((AF (iand .u32 (F.getD v.toNat 0) s)).length:Int)
def cf (n:Nat)(F:LI)(s v:Int):Int:=(mis F n (iand .u32 (F.getD v.toNat 0) s):Int)
section
variable {g : LL} (hg : GOk g)
include hg
theorem OOk.shl {o:LI}(ho:OOk g o):Sh o:=ho.sh hg
end
end Go.Sx

namespace Go.Sx
def S16 (s:Int):Prop:=0≤s∧s<65536
theorem S16.vs {s:Int}(h:S16 s):VS s:=⟨h.1,by have:=h.2;omega⟩
theorem S16.nat {s:Int}(h:S16 s):∃n:Nat,s=n∧n<65536:=⟨s.toNat,by have:=h.1;omega,by have:=h.1;have:=h.2;omega⟩
theorem S16.lt {s:Int}(h:S16 s){v:Nat}(hv:has s v=true):v<16:=by
 obtain⟨n,rfl,hn⟩:=h.nat
 rw[BA] at hv
 have:=Nat.ge_two_pow_of_testBit hv
 apply Classical.byContradiction
 intro hc
 have h2:2^16≤2^v:=Nat.pow_le_pow_right (by omega) (by omega)
 omega
theorem In.of {n i:Nat}(h:i<2^n)(hn:n≤16):In n (i:Int):=by
 have:2^n≤2^16:=Nat.pow_le_pow_right (by omega) hn
 refine⟨⟨by omega,by omega⟩,λw hw=> ?_⟩
 rw[BA] at hw
 have:=Nat.ge_two_pow_of_testBit hw
 apply Classical.byContradiction
 intro hc
 have h2:2^n≤2^w:=Nat.pow_le_pow_right (by omega) (by omega)
 omega
theorem l1Same_eq (x y:LI)(hx:Sh x):D.i0 x y=some (decide (x=y)):=by
 unfold Sh at hx
 unfold D.i0
 by_cases hl:x.length=y.length
 ·have e:((x.length:Int) !=(y.length:Int))=false:=by simp[hl]
  rw[e,cond_false]
  refine(Cv x.length (λi=>x.getD i 0==y.getD i 0) false (λi hi=> ?_) ?_ rfl rfl).trans ?_
  ·have hi':i<y.length:=by omega
   simp only[dlt hi,cond_true,AB hi,AB hi',bs,AD hi,AD hi',wq i]
   by_cases h:x[i]=y[i]
   ·have:(x[i] !=y[i])=false:=by simp[h]
    rw[this,cond_false,if_pos (by simp[h])]
   ·have:(x[i] !=y[i])=true:=by simp[h]
    rw[this,cond_true,if_neg (by simp[h])]
  ·simp only[Bd,cond_false]
  ·congr 1
   rw[Bool.eq_iff_iff,Cz,decide_eq_true_eq]
   constructor
   ·intro h
    exact ext_getD hl (λj hj=>by have:=h j hj;simpa using this)
   ·rintro rfl i _;simp
 ·have e:((x.length:Int) !=(y.length:Int))=true:=by simp;omega
  rw[e,cond_true,decide_eq_false (λh=>hl (by rw[h]))]
abbrev Pr :=Int×Int×Int
theorem l19Less_eq {s:Int}(hs:VS s){v:Nat}(hv:v<32):D.B (AF s) (v:Int)=some (AF (iandNot .u32 s (ishl .u32 1 (v:Int)))):=by
 have hel:=B8 s
 have e0:AF (iandNot .u32 s (ishl .u32 1 (v:Int)))=(AF s).filter λx=>x !=(v:Int):=by
  refine Inc.ext (BZ _) (List.Pairwise.filter _ (BZ s)) (λz=> ?_)
  rw[List.mem_filter,mem_elems,mem_elems]
  constructor
  ·rintro⟨w,h1,h2,rfl⟩
   rw[Bj hs (VS.ishl _ _),Bs hv,Bool.and_eq_true] at h2
   refine⟨⟨w,h1,h2.1,rfl⟩,?_⟩
   have:=h2.2
   simp at this ⊢
   omega
  ·rintro⟨⟨w,h1,h2,rfl⟩,h3⟩
   refine⟨w,h1,?_,rfl⟩
   rw[Bj hs (VS.ishl _ _),Bs hv,h2]
   simp at h3 ⊢
   omega
 rw[e0]
 unfold D.B
 refine(CZ (λi=>(((AF s).take i).filter (λx=>x !=(v:Int)),(i:Int))) (AF s).length ((AF s).filter λx=>x !=(v:Int)) (by simp) (λi hi=> ?_) ?_).trans rfl
 ·have hlen:(((AF s).take i).filter (λx=>x !=(v:Int))).length≤32:=Nat.le_trans (List.length_filter_le _ _) (by simp;omega)
  simp only[dlt hi,cond_true,AB hi,bs,wq i]
  rw[EU (λx=>x !=(v:Int)) hi]
  cases (AF s)[i] !=(v:Int)
  ·simp
  ·rw[cond_true,Br (by rw[List.length_singleton];omega),bs];simp
 ·simp only[Bd,cond_false,List.take_length]
theorem loop_set {α S ρ β:Type}{step:S→Option (S ⊕ ρ)}{k:ρ→Option β}{s0:S}(xs ys:List α)(hl:xs.length=ys.length)(enc:List α→Int→S)(r:ρ)(h0:enc ys 0=s0)
  (hstep:∀l (i:Nat) (h:i<xs.length),l.length=xs.length→step (enc l i)=some (.inl (enc (l.set i xs[i]) ((i+1:Nat):Int))))
  (hend:step (enc xs xs.length)=some (.inr r)):(Al step s0).bind k=k r:=by
 refine CZ (λi=>enc (xs.take i++ys.drop i) (i:Int)) xs.length r (by simpa using h0) (λi hi=> ?_) ?_
 ·have e:(xs.take i++ys.drop i).set i xs[i]=xs.take (i+1)++ys.drop (i+1):=by
   rw[List.take_succ_eq_append_getElem hi,List.drop_eq_getElem_cons (show i<ys.length by omega),List.set_append_right _ _ (by simp;omega)]
   have e0:i-(xs.take i).length=0:=by rw[List.length_take];omega
   rw[e0,List.set_cons_zero,List.append_assoc];rfl
  rw[hstep _ i hi (by simp;omega),e]
 ·rw[←hend,List.take_length,hl,List.drop_length,List.append_nil]
theorem toS_eq (xs:LI)(h:Sh xs):D.j xs=some xs:=by
 unfold Sh at h
 unfold D.j
 rw[D2 (by omega) (by omega),bs]
 refine(loop_set xs (List.replicate xs.length 0) (by simp) (λl i=>(l,i)) xs rfl (λl i hi hl=> ?_) ?_).trans rfl
 ·simp only[dlt hi,cond_true,AB hi,AB (show i<l.length by omega),bs,wq i,Int.toNat_natCast]
 ·simp only[Bd,cond_false]
theorem toSS_eq (xs:LL)(h:Sh2 xs):D.q0 xs=some xs:=by
 obtain⟨h,h2⟩:=h
 unfold Sh at h
 unfold D.q0
 rw[D2 (by omega) (by omega),bs]
 refine(loop_set xs (List.replicate xs.length []) (by simp) (λl i=>(l,i)) xs rfl (λl i hi hl=> ?_) ?_).trans rfl
 ·simp only[dlt hi,cond_true,AB hi,AB (show i<l.length by omega),bs,wq i,Int.toNat_natCast,toS_eq _ (h2 _ (List.getElem_mem hi))]
 ·simp only[Bd,cond_false]
theorem toGraph_eq (g:LL)(h:Sh2 g):D.r g=some g:=by
 unfold D.r;rw[toSS_eq g h];rfl
theorem EG {α:Type}[DecidableEq α](xs ys:List α)(d:α)(hl:xs.length=ys.length):(List.range xs.length).all (λi=>decide (xs.getD i d=ys.getD i d))=decide (xs=ys):=by
 rw[Bool.eq_iff_iff,Cz,decide_eq_true_eq]
 constructor
 ·intro h
  apply List.ext_getElem hl
  intro i h1 h2
  have:=h i h1
  rw[AD h1,AD h2] at this
  exact of_decide_eq_true this
 ·rintro rfl i _;simp
theorem eqS_eq (xs ys:LI)(h:Sh xs):D.c xs ys=some (decide (xs=ys)):=by
 unfold Sh at h
 unfold D.c
 by_cases hl:xs.length=ys.length
 ·have e:((xs.length:Int) !=(ys.length:Int))=false:=by simp[hl]
  rw[e,cond_false,←EG xs ys 0 hl]
  refine Cv xs.length _ false (λi hi=> ?_) ?_ rfl rfl
  ·have hi':i<ys.length:=by omega
   simp only[dlt hi,cond_true,AB hi,AB hi',bs,wq i,AD hi,AD hi']
   by_cases hc:xs[i]=ys[i]
   ·simp[hc]
   ·have:(xs[i] !=ys[i])=true:=by simpa using hc
    simp[hc,this]
  ·simp only[Bd,cond_false]
 ·have e:((xs.length:Int) !=(ys.length:Int))=true:=by simp;omega
  have:xs≠ys:=by rintro rfl;exact hl rfl
  simp[e,this]
theorem eqSS_eq (xs ys:LL)(h:Sh2 xs):D.n xs ys=some (decide (xs=ys)):=by
 obtain⟨h,h2⟩:=h
 unfold Sh at h
 unfold D.n
 by_cases hl:xs.length=ys.length
 ·have e:((xs.length:Int) !=(ys.length:Int))=false:=by simp[hl]
  rw[e,cond_false,←EG xs ys [] hl]
  refine Cv xs.length _ false (λi hi=> ?_) ?_ rfl rfl
  ·have hi':i<ys.length:=by omega
   simp only[dlt hi,cond_true,AB hi,AB hi',bs,wq i,AD hi,AD hi',eqS_eq _ _ (h2 _ (List.getElem_mem hi))]
   by_cases hc:xs[i]=ys[i]
   ·simp[hc]
   ·simp[hc]
  ·simp only[Bd,cond_false]
 ·have e:((xs.length:Int) !=(ys.length:Int))=true:=by simp;omega
  have:xs≠ys:=by rintro rfl;exact hl rfl
  simp[e,this]
theorem eqGraph_eq (xs ys:LL)(h:Sh2 xs):D.h0 xs ys=some (decide (xs=ys)):=by
 unfold D.h0;rw[eqSS_eq xs ys h,bs];cases decide (xs=ys)<;>rfl
def tot :LL→Int
 |[]=>0
 |x::xs=>x.length+tot xs
theorem BS :∀xs,0≤tot xs
 |[]=>Int.le_refl _
 |x::xs=>by have:=BS xs;simp only[tot];omega
theorem EC :∀xs ys,tot (xs++ys)=tot xs+tot ys
 |[],ys=>by simp[tot]
 |x::xs,ys=>by simp only[List.cons_append,tot,EC xs ys];omega
theorem tot_mem :∀{xs:LL} {x},x∈xs→(x.length:Int)≤tot xs
 |y::xs,x,h=>by
  have:=BS xs
  simp only[tot]
  rcases List.mem_cons.1 h with rfl|h
  ·omega
  ·have:=tot_mem h;omega
theorem tot_take {xs:LL}{i:Nat}(h:i<xs.length):tot (xs.take (i+1))=tot (xs.take i)+xs[i].length:=by
 rw[List.take_succ_eq_append_getElem h,EC];simp[tot]
theorem tot_le {xs:LL}{n:Int}(h:∀x∈xs,(x.length:Int)≤n):tot xs≤xs.length*n:=by
 induction xs with
 |nil=>simp[tot]
 |cons x xs ih=>
  have:=ih (λy hy=>h y (by simp[hy]))
  have:=h x (by simp)
  simp only[tot,List.length_cons,Int.natCast_add,Int.add_mul];omega
theorem Sh2.of_tot {xs:LL}(h:Sh xs)(h2:tot xs≤4294967296):Sh2 xs:=⟨h,λx hx=>by have:=tot_mem hx;unfold Sh;omega⟩
theorem szS_eq (xs:LI)(k:Int)(hx:(xs.length:Int)≤9223372036854775807)(h0:0≤k)(h1:k≤1048576):
  D.i xs k=some (if(xs.length:Int)≤k then k-xs.length else-1):=by
 unfold D.i
 rw[w64 (by omega) (by omega)]
 by_cases h:k-(xs.length:Int)<0
 ·rw[if_neg (by omega)];simp[h]
 ·rw[if_pos (by omega)];simp[h]
theorem szSS_eq (xs:LL)(k:Int)(hx:(xs.length:Int)≤9223372036854775807)(hx2:∀x∈xs,(x.length:Int)≤9223372036854775807)(h0:0≤k)(h1:k≤1048576):
  ∃y,D.d0 xs k=some y∧(y<0∨(y+xs.length+tot xs=k∧0≤y)):=by
 unfold D.d0
 rw[w64 (by omega) (by omega)]
 by_cases h:k-(xs.length:Int)<0
 ·simp only[h,decide_true,cond_true];exact⟨-1,rfl,.inl (by omega)⟩
 ·simp only[h,decide_false,cond_false]
  have key:∀(n i:Nat) (l:Int),i+n=xs.length→0≤l→l+tot (xs.take i)=k-xs.length→
    ∃r,Al (σ:=Int×Int) (ρ:=(Int) ⊕ (Int)) (fun(s_39:Int×Int)=>match s_39 with|(x_42,x_43)=>cond (decide (x_43<(xs.length:Int))) ((idx xs x_43).bind λe_64=>(D.i e_64 x_42).bind λy_70=>cond (decide (y_70<0)) (some (.inr (.inr (-1)))) (some (.inl (y_70,(IntKind.i64.wrap (x_43+1)))))) (some (.inr (.inl x_42)))) (l,(i:Int))=some r∧
     (r= .inr (-1)∨∃y,r= .inl y∧y+xs.length+tot xs=k∧0≤y):=by
   intro n
   induction n with
   |zero=>
    intro i l hi hl he
    obtain rfl:i=xs.length:=by omega
    refine⟨.inl l,AW (by simp only[Bd,cond_false]),.inr ⟨l,rfl,?_,hl⟩⟩
    rw[List.take_length] at he;omega
   |succ n ih=>
    intro i l hi hl he
    have hil:i<xs.length:=by omega
    have ht:=BS (xs.take i)
    have e1:=szS_eq xs[i] l (hx2 _ (List.getElem_mem hil)) hl (by omega)
    by_cases hc:(xs[i].length:Int)≤l
    ·rw[if_pos hc] at e1
     obtain⟨r,hr,hp⟩:=ih (i+1) (l-xs[i].length) (by omega) (by omega) (by rw[tot_take hil];omega)
     refine⟨r,?_,hp⟩
     rw[Bf (s':=(l-xs[i].length,((i+1:Nat):Int)))]
     ·exact hr
     ·have hd:decide (l-(xs[i].length:Int)<0)=false:=by simp;omega
      simp only[dlt hil,cond_true,AB hil,bs,e1,hd,cond_false,wq i]
    ·rw[if_neg hc] at e1
     refine⟨.inr (-1),AW ?_,.inl rfl⟩
     have hd:decide ((-1:Int)<0)=true:=by decide
     simp only[dlt hil,cond_true,AB hil,bs,e1,hd]
  obtain⟨r,hr,hp⟩:=key xs.length 0 (k-xs.length) (by omega) (by omega) (by simp[tot])
  rw[show ((0:Nat):Int)=0 from rfl] at hr
  rw[hr,bs]
  rcases hp with rfl|⟨y,rfl,h1,h2⟩
  ·exact⟨-1,rfl,.inl (by omega)⟩
  ·exact⟨y,rfl,.inr ⟨h1,h2⟩⟩
theorem szGraph_eq (xs:LL)(k:Int)(hx:(xs.length:Int)≤9223372036854775807)(hx2:∀x∈xs,(x.length:Int)≤9223372036854775807)(h0:0≤k)(h1:k≤1048576):
  ∃y,D.c0 xs k=some y∧(y<0∨(y+xs.length+tot xs=k∧0≤y)):=by
 obtain⟨y,e,h⟩:=szSS_eq xs k hx hx2 h0 h1
 unfold D.c0
 rw[e,bs]
 by_cases hy:y<0
 ·simp only[hy,decide_true,cond_true];exact⟨-1,rfl,.inl (by omega)⟩
 ·simp only[hy,decide_false,cond_false];exact⟨y,rfl,h⟩
def BG (k:Int)(n:Nat):LI:=(List.range n).map fun(i:Nat)=>k+(i:Int)
theorem C1 (k:Int)(n:Nat):(BG k n).length=n:=by simp[BG]
theorem numsI_get (k:Int){n i:Nat}(h:i<(BG k n).length):(BG k n)[i]=k+(i:Int):=by simp[BG]
def Bg (k:Int):LL→LL
 |[]=>[]
 |x::xs=>BG k x.length::Bg (k+x.length) xs
theorem marked_app :∀xs ys k,Bg k (xs++ys)=Bg k xs++Bg (k+tot xs) ys
 |[],ys,k=>by simp[Bg,tot]
 |x::xs,ys,k=>by simp only[List.cons_append,Bg,marked_app xs ys,tot];rw[show k+(x.length:Int)+tot xs=k+(x.length+tot xs) by omega]
theorem CB :∀xs k,(Bg k xs).length=xs.length
 |[],_=>rfl
 |x::xs,k=>by simp[Bg,CB xs]
theorem marked_get :∀(xs:LL) (k:Int) (i:Nat) (h:i<xs.length),(Bg k xs)[i]'(by rw[CB];exact h)=BG (k+tot (xs.take i)) xs[i].length
 |x::xs,k,0,h=>by simp[Bg,tot]
 |x::xs,k,i+1,h=>by
  simp only[Bg,List.getElem_cons_succ,List.take_succ_cons,tot]
  rw[marked_get xs (k+x.length) i (by simpa using h)]
  congr 1;omega
theorem markS_eq (xs:LI)(k:Int)(h:Sh xs)(h0:0≤k)(h1:k≤4611686018427387904):D.g xs k=some (k+xs.length,BG k xs.length):=by
 unfold Sh at h
 unfold D.g
 have e:(BG k xs.length++xs.drop xs.length)=BG k xs.length:=by simp
 refine(CZ (λi=>(BG k i++xs.drop i,k+(i:Int),(i:Int))) xs.length (BG k xs.length,k+(xs.length:Int)) (by simp[BG]) (λi hi=> ?_) ?_).trans rfl
 ·have hl:(BG k i++xs.drop i).length=xs.length:=by simp[C1];omega
  have hi':i<(BG k i++xs.drop i).length:=by omega
  have hset:(BG k i++xs.drop i).set i (k+i)=BG k (i+1)++xs.drop (i+1):=by
   rw[List.drop_eq_getElem_cons hi,List.set_append_right _ _ (by rw[C1];omega)]
   simp only[C1,Nat.sub_self,List.set_cons_zero]
   unfold BG
   rw[List.range_succ,List.map_append];simp
  simp only[dlt hi',cond_true,AB hi',bs,wq i,Int.toNat_natCast,hset]
  rw[w64 (by omega) (by omega)]
  have:k+(i:Int)+1=k+((i+1:Nat):Int):=by omega
  rw[this]
 ·simp only[e,C1,Bd,cond_false]
theorem markSS_eq (xs:LL)(k:Int)(h:Sh2 xs)(h0:0≤k)(h1:k+tot xs≤4611686018427387904):D.C xs k=some (k+tot xs,Bg k xs):=by
 obtain⟨h,h2⟩:=h
 unfold Sh at h
 unfold D.C
 have hml:∀i,i≤xs.length→(Bg k (xs.take i)).length=i:=λi hi=>by rw[CB,List.length_take];omega
 refine(CZ (λi=>(Bg k (xs.take i)++xs.drop i,k+tot (xs.take i),(i:Int))) xs.length (Bg k xs,k+tot xs) (by simp[Bg,tot]) (λi hi=> ?_) ?_).trans rfl
 ·have hm:=hml i (by omega)
  have hl:(Bg k (xs.take i)++xs.drop i).length=xs.length:=by simp[hm];omega
  have hi':i<(Bg k (xs.take i)++xs.drop i).length:=by omega
  have hg:(Bg k (xs.take i)++xs.drop i)[i]=xs[i]:=by
   rw[List.getElem_append_right (by omega)]
   simp[hm]
  have ht:=tot_take hi
  have htn:tot (xs.take (i+1))≤tot xs:=by
   have:=EC (xs.take (i+1)) (xs.drop (i+1))
   rw[List.take_append_drop] at this
   have:=BS (xs.drop (i+1));omega
  have htn0:=BS (xs.take i)
  have hset:(Bg k (xs.take i)++xs.drop i).set i (BG (k+tot (xs.take i)) xs[i].length)=Bg k (xs.take (i+1))++xs.drop (i+1):=by
   have e0:i-(Bg k (xs.take i)).length=0:=by omega
   rw[List.drop_eq_getElem_cons hi,List.set_append_right _ _ (by omega),List.take_succ_eq_append_getElem hi,marked_app,e0,List.set_cons_zero,List.append_assoc]
   rfl
  simp only[dlt hi',cond_true,AB hi',hg,bs,wq i,Int.toNat_natCast,markS_eq xs[i] (k+tot (xs.take i)) (h2 _ (List.getElem_mem hi)) (by omega) (by omega),hset]
  rw[ht]
  have:k+tot (xs.take i)+(xs[i].length:Int)=k+(tot (xs.take i)+(xs[i].length:Int)):=by omega
  rw[this]
 ·have e:Bg k (xs.take xs.length)++xs.drop xs.length=Bg k xs:=by simp
  simp only[e,CB,Bd,cond_false]
  simp only[List.take_length]
theorem markGraph_eq (xs:LL)(k:Int)(h:Sh2 xs)(h0:0≤k)(h1:k+tot xs≤4611686018427387904):D.f0 xs k=some (k+tot xs,Bg k xs):=by
 unfold D.f0;rw[markSS_eq xs k h h0 h1];rfl
theorem heldS_eq (n:Nat)(k:Int)(h:n≤4294967296)(h0:0≤k)(h1:k≤4611686018427387904):D.f (BG k n) k=some (k+n):=by
 unfold D.f
 rw[C1]
 refine(CZ (λi=>(k+(i:Int),(i:Int))) n (.inl (k+(n:Int))) (by simp) (λi hi=> ?_) ?_).trans rfl
 ·have hi':i<(BG k n).length:=by rw[C1];exact hi
  simp only[dlt hi,cond_true,AB hi',numsI_get,bs,bne_self_eq_false,cond_false,wq i]
  rw[w64 (by omega) (by omega)]
  have:k+(i:Int)+1=k+((i+1:Nat):Int):=by omega
  rw[this]
 ·simp only[Bd,cond_false]
theorem heldSS_eq (xs:LL)(k:Int)(h:Sh2 xs)(h0:0≤k)(h1:k+tot xs≤4611686018427387904):D.F (Bg k xs) k=some (k+tot xs):=by
 obtain⟨h,h2⟩:=h
 unfold Sh at h
 unfold D.F
 rw[CB]
 refine(CZ (λi=>(k+tot (xs.take i),(i:Int))) xs.length (.inl (k+tot xs)) (by simp[tot]) (λi hi=> ?_) ?_).trans rfl
 ·have hi':i<(Bg k xs).length:=by rw[CB];exact hi
  have ht:=tot_take hi
  have htn:tot (xs.take (i+1))≤tot xs:=by
   have:=EC (xs.take (i+1)) (xs.drop (i+1))
   rw[List.take_append_drop] at this
   have:=BS (xs.drop (i+1));omega
  have htn0:=BS (xs.take i)
  simp only[dlt hi,cond_true,AB hi',marked_get xs k i hi,bs,heldS_eq xs[i].length (k+tot (xs.take i)) (h2 _ (List.getElem_mem hi)) (by omega) (by omega),wq i]
  have hd:decide (k+tot (xs.take i)+(xs[i].length:Int)<0)=false:=by simp;omega
  simp only[hd,cond_false,ht]
  have:k+tot (xs.take i)+(xs[i].length:Int)=k+(tot (xs.take i)+(xs[i].length:Int)):=by omega
  rw[this]
 ·simp only[Bd,cond_false,List.take_length]
def Do (n:Nat)(F:LI)(v:Nat)(S:Int):LI:=(List.range n).map λu=>ior .u32 (ior .u32 (F.getD u 0) (if u=v then S else 0)) (if has S u then ishl .u32 1 (v:Int) else 0)
theorem joinF_get {n:Nat}{F:LI}{v u:Nat}{S:Int}(hu:u<n):(Do n F v S).getD u 0=ior .u32 (ior .u32 (F.getD u 0) (if u=v then S else 0)) (if has S u then ishl .u32 1 (v:Int) else 0):=by
 unfold Do
 rw[AD (by simpa using hu)];simp
theorem vs_ite {c:Prop}[Decidable c]{a b:Int}(ha:VS a)(hb:VS b):VS (if c then a else b):=by split<;>assumption
theorem Da {n:Nat}{F:LI}{v u:Nat}{S:Int}(hn:n≤16)(hF:FOk F n)(hS:In n S)(hv:v<n)(hu:u<n)(w:Nat):nb (Do n F v S) u w=(nb F u w||(decide (u=v)&&has S w)||(has S u&&decide (w=v))):=by
 unfold nb
 rw[joinF_get hu,BV (VS.ior _ _) (vs_ite (VS.ishl _ _) VS.zero),BV (hF.vs u hu) (vs_ite hS.1 VS.zero)]
 congr 1
 ·congr 1
  by_cases h:u=v
  ·rw[if_pos h,decide_eq_true h];simp
  ·rw[if_neg h,decide_eq_false h,BR];simp
 ·cases hc:has S u
  ·rw[if_neg (by simp),BR];simp
  ·rw[if_pos rfl,Bs (by omega)];simp
theorem joinF_ok {n:Nat}{F:LI}{v:Nat}{S:Int}(hn:n≤16)(hF:FOk F n)(hS:In n S)(hv:v<n)(hSv:has S v=false):FOk (Do n F v S) n:=by
 refine⟨by simp[Do],λu hu=>by rw[joinF_get hu];exact VS.ior _ _,λu w hu h=> ?_,λu hu=> ?_,λu w hu h=> ?_⟩
 ·rw[Da hn hF hS hv hu] at h
  simp only[Bool.or_eq_true,Bool.and_eq_true,decide_eq_true_eq] at h
  rcases h with(h|h)|h
  ·exact hF.lt u w hu h
  ·exact hS.2 w h.2
  ·omega
 ·rw[Da hn hF hS hv hu,hF.irr u hu]
  by_cases h:u=v
  ·subst h;simp[hSv]
  ·simp[h]
 ·have hw:w<n:=by
   rw[Da hn hF hS hv hu] at h
   simp only[Bool.or_eq_true,Bool.and_eq_true,decide_eq_true_eq] at h
   rcases h with(h|h)|h
   ·exact hF.lt u w hu h
   ·exact hS.2 w h.2
   ·omega
  rw[Da hn hF hS hv hu] at h
  rw[Da hn hF hS hv hw]
  simp only[Bool.or_eq_true,Bool.and_eq_true,decide_eq_true_eq] at h ⊢
  rcases h with(h|h)|h
  ·exact .inl (.inl (hF.sym u w hu h))
  ·exact .inr ⟨h.2,h.1⟩
  ·exact .inl (.inr ⟨h.2,h.1⟩)
structure PK (n:Nat)(o:LI):Prop where
 len:o.length=n
 rng:∀x∈o,0≤x∧x<n
 nd:o.Nodup
def pl (o:LI)(v:Nat):Nat:=o.idxOf (v:Int)
theorem PK.mem {n:Nat}{o:LI}(h:PK n o){v:Nat}(hv:v<n):(v:Int)∈o:=by
 by_cases hc:(v:Int)∈o
 ·exact hc
 ·have:=Cc (l:=(v:Int)::o) (m:=(List.range n).map Int.ofNat) (List.nodup_cons.2 ⟨hc,h.nd⟩) (λx hx=>by
   have hx':0≤x∧x<n:=by
    rcases List.mem_cons.1 hx with rfl|hx
    ·omega
    ·exact h.rng x hx
   exact List.mem_map.2 ⟨x.toNat,List.mem_range.2 (by omega),by show ((x.toNat:Nat):Int)=x;omega⟩)
  have hl:=h.len
  simp at this;omega
theorem PK.pl_lt {n:Nat}{o:LI}(h:PK n o){v:Nat}(hv:v<n):pl o v<n:=by
 have:=List.idxOf_lt_length_iff.2 (h.mem hv)
 have hl:=h.len
 unfold pl;omega
theorem PK.pl_get {n:Nat}{o:LI}(h:PK n o){v:Nat}(hv:v<n)(hl:pl o v<o.length):o[pl o v]=(v:Int):=by
 unfold pl;exact List.getElem_idxOf _
theorem PK.pl_of {n:Nat}{o:LI}(h:PK n o){i v:Nat}(hi:i<o.length)(e:o[i]=(v:Int)):pl o v=i:=by
 have hv:v<n:=by have:=h.rng _ (List.getElem_mem hi);omega
 have hl:=h.pl_lt hv
 have h2:=h.pl_get hv (by rw[h.len];exact hl)
 have hl':pl o v<o.length:=by rw[h.len];exact hl
 have hnd:=List.pairwise_iff_getElem.1 h.nd
 rcases Nat.lt_trichotomy (pl o v) i with c|c|c
 ·exact absurd (h2.trans e.symm) (hnd _ _ hl' hi c)
 ·exact c
 ·exact absurd (h2.trans e.symm).symm (hnd _ _ hi hl' c)
theorem PK.at {n:Nat}{o:LI}(h:PK n o){i:Nat}(hi:i<o.length):∃v:Nat,o[i]=(v:Int)∧v<n∧pl o v=i:=by
 have:=h.rng _ (List.getElem_mem hi)
 have e:o[i]=((o[i].toNat:Nat):Int):=by omega
 exact⟨o[i].toNat,e,by omega,h.pl_of hi e⟩
structure Ris (n:Nat)(R:Int→Int→Prop)(rk:Int→Nat):Prop where
 up:∀x y,R x y→rk x<rk y
 lt:∀v:Nat,v<n→rk v<n
 tr:∀x y z,R x y→R y z→R x z
structure Ch (n:Nat)(R:Int→Int→Prop)(v:Int)(l:LI):Prop where
 hd:∃t,l=v::t
 pw:l.Pairwise R
 rng:∀x∈l,0≤x∧x<n
 mx:∀t:LI,(v::t).Pairwise R→(∀x∈t,0≤x∧x<n)→t.length+1≤l.length
theorem Ris.nodup {n:Nat}{R:Int→Int→Prop}{rk:Int→Nat}(h:Ris n R rk){l:LI}(hp:l.Pairwise R):l.Nodup:=
 List.Pairwise.imp (fun{x y} hxy e=>by subst e;have:=h.up x x hxy;omega) hp
theorem rng_len {n:Nat}{l:LI}(hd:l.Nodup)(hr:∀x∈l,0≤x∧x<n):l.length≤n:=by
 have:=Cc (m:=(List.range n).map Int.ofNat) hd (λx hx=>by
  have:=hr x hx
  exact List.mem_map.2 ⟨x.toNat,List.mem_range.2 (by omega),by show ((x.toNat:Nat):Int)=x;omega⟩)
 simpa using this
theorem Ch.len {n:Nat}{R:Int→Int→Prop}{rk:Int→Nat}(h:Ris n R rk){v:Int}{l:LI}(hc:Ch n R v l):l.length≤n:=rng_len (h.nodup hc.pw) hc.rng
def Mon (ks ks':List (Option LI)):Prop:=∀(v:Nat) (l:LI),ks[v]? =some (some l)→ks'[v]? =some (some l)
theorem Mon.refl (ks:List (Option LI)):Mon ks ks:=λ_ _ h=>h
structure CL (g:LL)(x:LI):Prop where
 nd:x.Nodup
 rng:∀z∈x,0≤z∧z<g.length
 cq:∀u w:Nat,(u:Int)∈x→(w:Int)∈x→u≠w→adj g u w
def Cn (ad:Nat→Nat→Prop)(S:Nat→Prop)(x y:Nat):Prop:=∀T:Nat→Prop,T x→(∀a b,T a→ad a b→S b→T b)→T y
section
variable {ad : Nat → Nat → Prop} {S S' : Nat → Prop} {x y z : Nat}
theorem Cn.refl :Cn ad S x x:=λ_ h _=>h
theorem Cn.step (h:Cn ad S x y)(ha:ad y z)(hz:S z):Cn ad S x z:=λT h1 h2=>h2 _ _ (h T h1 h2) ha hz
theorem Cn.trans (h:Cn ad S x y)(h':Cn ad S y z):Cn ad S x z:=λT h1 h2=>h' T (h T h1 h2) h2
theorem Cn.mono (hs:∀w,S w→S' w)(h:Cn ad S x y):Cn ad S' x y:=λT h1 h2=>h T h1 (λa b p q r=>h2 a b p q (hs _ r))
theorem Cn.mem (h:Cn ad S x y)(hx:S x):S y:=h S hx (λ_ _ _ _ h=>h)
theorem Cn.sym (hs:∀a b,ad a b→ad b a)(hx:S x)(h:Cn ad S x y):Cn ad S y x:=(h (λw=>S w∧Cn ad S w x) ⟨hx,Cn.refl⟩ (λa b ⟨p1,p2⟩ q r=>⟨r,(Cn.refl.step (hs _ _ q) p1).trans p2⟩)).2
end
def Joint (ad:Nat→Nat→Prop)(S:Nat→Prop):Prop:=∀x y,S x→S y→Cn ad S x y
abbrev Ad (F:LI)(a b:Nat):Prop:=nb F a b=true
abbrev El (s:Int)(x:Nat):Prop:=has s x=true
abbrev Mn (s:Int)(v x:Nat):Prop:=has s x=true∧x≠v
structure Parts (F:LI)(W:Nat→Prop)(l:LI):Prop where
 vs:∀s∈l,VS s
 ne:∀s∈l,∃v,El s v
 sub:∀s∈l,∀x,El s x→W x
 cn:∀s∈l,∀x y,El s x→(El s y↔Cn (Ad F) W x y)
 all:∀x,W x→∃s∈l,El s x
 dis:l.Pairwise λs t=>∀x,¬(El s x∧El t x)
theorem Parts.conn {F:LI}{W:Nat→Prop}{l:LI}(h:Parts F W l):l.length≤1↔Joint (Ad F) W:=by
 constructor
 ·intro hl x y hx hy
  obtain⟨s,hs,h1⟩:=h.all x hx
  obtain⟨t,ht,h2⟩:=h.all y hy
  obtain⟨i,hi,rfl⟩:=List.getElem_of_mem hs
  obtain⟨j,hj,rfl⟩:=List.getElem_of_mem ht
  obtain rfl:i=j:=by omega
  exact(h.cn _ hs x y h1).1 h2
 ·intro hc
  apply Classical.byContradiction
  intro hl
  have h0:0<l.length:=by omega
  have h1:1<l.length:=by omega
  obtain⟨x,hx⟩:=h.ne _ (List.getElem_mem h0)
  obtain⟨y,hy⟩:=h.ne _ (List.getElem_mem h1)
  have hcn:=hc x y (h.sub _ (List.getElem_mem h0) x hx) (h.sub _ (List.getElem_mem h1) y hy)
  have:=(h.cn _ (List.getElem_mem h0) x y hx).2 hcn
  exact(List.pairwise_iff_getElem.1 h.dis) 0 1 h0 h1 (by omega) y ⟨this,hy⟩
section
variable {F : LI} {n : Nat} (hn : n ≤ 16) (hF : FOk F n)
include hn hF
end
end Go.Sx

namespace Go.Sx
def Way (ad:Nat→Nat→Prop):List Nat→Prop
 |[]=>True
 |[_]=>True
 |a::b::l=>ad a b∧Way ad (b::l)
theorem Way.tail {ad:Nat→Nat→Prop}{a:Nat}{l:List Nat}(h:Way ad (a::l)):Way ad l:=by
 cases l with
 |nil=>trivial
 |cons b l=>exact h.2
structure Wy (ad:Nat→Nat→Prop)(H:Nat→Prop)(x y:Nat)(l:List Nat):Prop where
 len:2≤l.length
 fst:l[0]? =some x
 lst:l[l.length-1]? =some y
 way:Way ad l
 mid:∀i (h:i<l.length),0<i→i+1<l.length→H l[i]
structure Hole (ad:Nat→Nat→Prop)(c:List Nat):Prop where
 len:4≤c.length
 nd:c.Nodup
 step:∀i (h:i+1<c.length),ad c[i] c[i+1]
 close:ad (c[c.length-1]'(by omega)) (c[0]'(by omega))
 no:∀i j (_:i+1<j) (hj:j<c.length),¬(i=0∧j=c.length-1)→¬ad (c[i]'(by omega)) c[j]
def NoHole (ad:Nat→Nat→Prop)(X:Nat→Prop):Prop:=∀c,Hole ad c→¬∀x∈c,X x
section
variable {ad : Nat → Nat → Prop} (hs : ∀ a b, ad a b → ad b a) (hi : ∀ a, ¬ ad a a)
include hs hi
end
end Go.Sx

namespace Go.Sx
def ch (cs:LI)(i v:Nat):Bool:=has (cs.getD i 0) v
def Opn (cs:LI)(p:Int)(v:Nat):Prop:=(∃i,i<cs.length∧has p i=true∧ch cs i v=true)∧∃i,i<cs.length∧has p i=false∧ch cs i v=true
def Ft (cs:LI)(p:Int)(k:Nat):Prop:=k<cs.length∧has p k=false∧∀v,Opn cs p v→ch cs k v=true
inductive Ends (cs:LI):Int→Prop
 |all {p:Int}:(∀i,i<cs.length→has p i=true)→Ends cs p
 |go {p:Int} {k:Nat}:Ft cs p k→Ends cs (ior .u32 p (ishl .u32 1 (k:Int)))→Ends cs p
def Goes (cs:LI):Int→LI→Prop
 |p,[]=>∀i,i<cs.length→has p i=true
 |p,x::l=>∃k:Nat,x=(k:Int)∧Ft cs p k∧Goes cs (ior .u32 p (ishl .u32 1 (k:Int))) l
section
variable {cs : LI} (hvs : ∀ s ∈ cs, VS s) (hm : cs.length ≤ 16)
include hvs hm
theorem Ft.in {p:Int}{k:Nat}(hp:In cs.length p)(h:Ft cs p k):In cs.length (ior .u32 p (ishl .u32 1 (k:Int)))∧∀v,has (ior .u32 p (ishl .u32 1 (k:Int))) v=(has p v||decide (v=k)):=by
 have hk:=h.1
 have he:∀v,has (ior .u32 p (ishl .u32 1 (k:Int))) v=(has p v||decide (v=k)):=λv=>by
  rw[BV hp.1 (VS.ishl _ _),Bs (by omega)]
 refine⟨⟨VS.ior _ _,λv hv=> ?_⟩,he⟩
 rw[he,Bool.or_eq_true,decide_eq_true_eq] at hv
 rcases hv with hv|rfl
 ·exact hp.2 v hv
 ·exact hk
end
end Go.Sx

namespace Go.Sx
theorem Goes.mid {cs:LI}{v:Nat}:∀{l1:LI} {p:Int} {x:Nat} {l2:LI},cs.length≤16→In cs.length p→Goes cs p (l1++(x:Int)::l2)→((∃i,i<cs.length∧has p i=true∧ch cs i v=true)∨∃y:Nat,(y:Int)∈l1∧ch cs y v=true)→(∃z:Nat,(z:Int)∈l2∧ch cs z v=true)→ch cs x v=true
 |[],p,x,l2,hm,hp,⟨k,e,hF,hG⟩,h1,⟨z,hz,hzv⟩=>by
  obtain rfl:k=x:=by omega
  refine hF.2.2 v ⟨h1.elim id (fun⟨y,hy,_⟩=>by simp at hy),?_⟩
  have:∀(l:LI) (q:Int),In cs.length q→Goes cs q l→(z:Int)∈l→z<cs.length∧has q z=false:=by
   intro l
   induction l with
   |nil=>intro q _ _ h;simp at h
   |cons y l ih=>
    rintro q hq ⟨k',e',hF',hG'⟩ hzl
    rcases List.mem_cons.1 hzl with h|h
    ·obtain rfl:k'=z:=by omega
     exact⟨hF'.1,hF'.2.1⟩
    ·have hk':=hF'.1
     have he:∀w,has (ior .u32 q (ishl .u32 1 (k':Int))) w=(has q w||decide (w=k')):=λw=>by rw[BV hq.1 (VS.ishl _ _),Bs (by omega)]
     have hin:In cs.length (ior .u32 q (ishl .u32 1 (k':Int))):=⟨VS.ior _ _,λw hw=>by
      rw[he,Bool.or_eq_true,decide_eq_true_eq] at hw
      rcases hw with hw|rfl
      ·exact hq.2 w hw
      ·exact hk'⟩
     obtain⟨a,b⟩:=ih _ hin hG' h
     rw[he,Bool.or_eq_false_iff] at b
     exact⟨a,b.1⟩
  obtain⟨h3,h4⟩:=this ((k:Int)::l2) p hp ⟨k,rfl,hF,hG⟩ (List.mem_cons_of_mem _ hz)
  exact⟨z,h3,h4,hzv⟩
 |y::l1,p,x,l2,hm,hp,⟨k,e,hF,hG⟩,h1,h2=>by
  subst e
  have hk:=hF.1
  have he:∀w,has (ior .u32 p (ishl .u32 1 (k:Int))) w=(has p w||decide (w=k)):=λw=>by rw[BV hp.1 (VS.ishl _ _),Bs (by omega)]
  refine Goes.mid (l1:=l1) hm ⟨VS.ior _ _,λw hw=> ?_⟩ hG ?_ h2
  ·rw[he,Bool.or_eq_true,decide_eq_true_eq] at hw
   rcases hw with hw|rfl
   ·exact hp.2 w hw
   ·exact hk
  ·rcases h1 with⟨i,h3,h4,h5⟩|⟨i,h3,h5⟩
   ·exact .inl ⟨i,h3,by rw[he,h4];rfl,h5⟩
   ·rcases List.mem_cons.1 h3 with h|h
    ·obtain rfl:i=k:=by omega
     exact .inl ⟨i,hk,by rw[he];simp,h5⟩
    ·exact .inr ⟨i,h,h5⟩
section
variable {g : LL} (hg : GOk g)
include hg
end
end Go.Sx

namespace Go.Sx
structure Iv (g:LL)(L R:Nat→Int):Prop where
 le:∀v,v<g.length→L v≤R v
 ad:∀u v,u<g.length→v<g.length→(adj g u v↔u≠v∧L u≤R v∧L v≤R u)
section
variable {g : LL} (hg : GOk g)
include hg
variable {L R : Nat → Int} (hI : Iv g L R)
include hI
end
end Go.Sx

namespace Go.Sx
def iz (P:List Nat):LI:=P.map Int.ofNat
theorem iz_len (P:List Nat):(iz P).length=P.length:=by simp[iz]
structure Gd (g:LL)(long:Nat)(P:List Nat):Prop where
 nd:P.Nodup
 lt:∀x∈P,x<g.length
 step:∀i (h:i+1<P.length),adj g P[i] P[i+1]
 far:∀i j (_:i+1<j) (hj:j<P.length),adj g (P[i]'(by omega)) P[j]↔(i=0∧j+1=long)
theorem Gd.hole {g:LL}(hg:GOk g){long:Nat}{P:List Nat}(h:Gd g long P)(hl:P.length=long)(h4:4≤long):Hole (adj g) P:=by
 have hs:adj g (P[0]'(by omega)) (P[P.length-1]'(by omega)):=(h.far 0 (P.length-1) (by omega) (by omega)).2 ⟨rfl,by omega⟩
 exact⟨by omega,h.nd,h.step,hg.sym _ _ (h.lt _ (List.getElem_mem _)) hs,λi j hij hj hx ha=>hx (by have:=(h.far i j hij hj).1 ha;omega)⟩
theorem Gd.take {g:LL}{long:Nat}{P:List Nat}(h:Gd g long P)(k:Nat):Gd g long (P.take k):=by
 refine⟨List.Pairwise.sublist (List.take_sublist k P) h.nd,λx hx=>h.lt x (List.mem_of_mem_take hx),λi hi=> ?_,λi j hij hj=> ?_⟩
 ·simp at hi
  rw[List.getElem_take,List.getElem_take]
  exact h.step i (by omega)
 ·simp at hj
  rw[List.getElem_take,List.getElem_take]
  exact h.far i j hij (by omega)
section
variable {g : LL} (hg : GOk g)
include hg
end
end Go.Sx

namespace Go.Sx
section
variable {g : LL} (hg : GOk g)
include hg
end
end Go.Sx

namespace Go.Sx
def Nr (ad:Nat→Nat→Prop)(v:Nat):Nat→Nat→Prop
 |0,_=>False
 |k+1,u=>u=v∨∃w,Nr ad v k w∧ad w u
theorem Nr.up {ad:Nat→Nat→Prop}{v:Nat}:∀{k u:Nat},Nr ad v k u→Nr ad v (k+1) u
 |0,_,h=>h.elim
 |_+1,_,h=>h.imp id (fun⟨w,h1,h2⟩=>⟨w,h1.up,h2⟩)
section
variable {g : LL} (hg : GOk g)
include hg
theorem Nr.lt {v:Nat}(hv:v<g.length):∀{k u:Nat},Nr (adj g) v k u→u<g.length
 |0,_,h=>h.elim
 |k+1,u,h=>by
  rcases h with rfl|⟨w,h1,h2⟩
  ·exact hv
  ·exact hg.lt (Nr.lt hv h1) h2
theorem Nr.of {v:Nat}:∀(l:List Nat) (u:Nat),u<g.length→Way (adj g) (u::l++[v])→Nr (adj g) v (l.length+2) u
 |[],u,hu,h=> .inr ⟨v,.inl rfl,hg.sym _ _ hu h.1⟩
 |a::l,u,hu,h=> .inr ⟨a,Nr.of l a (hg.lt hu h.1) h.2,hg.sym _ _ hu h.1⟩
end
end Go.Sx

namespace Go.Sx
def AdW (g:LL)(all:Int)(a b:Nat):Prop:=adj g a b∧has all b=true
def Dst (g:LL)(all:Int)(v j u:Nat):Prop:=Nr (AdW g all) v (j+1) u∧¬Nr (AdW g all) v j u
structure FarOk (g:LL)(all:Int)(v:Nat)(far:LI):Prop where
 len:far.length=g.length
 val:∀u,u<g.length→(∃j:Nat,far.getD u 0=(j:Int)∧Dst g all v j u)∨(far.getD u 0= -1∧∀k,¬Nr (AdW g all) v k u)
section
variable {g : LL} (hg : GOk g)
include hg
theorem NrW.lt {all:Int}{v:Nat}(hv:v<g.length):∀{k u:Nat},Nr (AdW g all) v k u→u<g.length
 |0,_,h=>h.elim
 |k+1,u,h=>by
  rcases h with rfl|⟨w,h1,h2⟩
  ·exact hv
  ·exact hg.lt (NrW.lt hv h1) h2.1
end
end Go.Sx

namespace Go.Sx
section
variable {g : LL} (hg : GOk g)
include hg
theorem CA {a b:Nat}(h:adj g a b):a<g.length:=by
 apply Classical.byContradiction
 intro hn
 unfold adj row at h
 rw[List.getD_eq_getElem?_getD,List.getElem?_eq_none (by omega)] at h
 simp at h
theorem Ex (a b:Nat)(h:adj g a b):adj g b a:=hg.sym _ _ (CA hg h) h
end
end Go.Sx

namespace Go.Sx
section
variable {g : LL} (hg : GOk g) {c : List Nat} (hH : Hole (adj g) c) (hlt : ∀ x ∈ c, x < g.length)
include hg hH hlt
end
end Go.Sx

namespace Go.Sx
def Av (ad:Nat→Nat→Prop)(X:Nat→Prop)(c z:Nat):Prop:=X z∧z≠c∧¬ad c z
def Apt (ad:Nat→Nat→Prop)(X:Nat→Prop)(a b c:Nat):Prop:=
 X a∧X b∧X c∧a≠b∧a≠c∧b≠c∧¬ad a b∧¬ad a c∧¬ad b c∧Cn ad (Av ad X c) a b∧Cn ad (Av ad X b) a c∧Cn ad (Av ad X a) b c
def Ape (ad:Nat→Nat→Prop)(X S:Nat→Prop)(a b:Nat):Prop:=
 X a∧X b∧a≠b∧¬ad a b∧(∃k,S k∧Cn ad (Av ad X b) a k)∧∃k,S k∧Cn ad (Av ad X a) b k
structure Rp (ad:Nat→Nat→Prop)(X:Nat→Prop)(L R:Nat→Int):Prop where
 le:∀v,X v→L v≤R v
 ad:∀u v,X u→X v→u≠v→(ad u v↔L u≤R v∧L v≤R u)
structure RpE (ad:Nat→Nat→Prop)(X S:Nat→Prop)(L R:Nat→Int)(B:Int):Prop where
 rp:Rp ad X L R
 lo:∀v,X v→-B≤L v
 s:∀v,X v→S v→R v=0
 x:∀v,X v→¬S v→R v<0
theorem RpE.hi {ad:Nat→Nat→Prop}{X S:Nat→Prop}{L R:Nat→Int}{B:Int}(h:RpE ad X S L R B){v:Nat}(hv:X v):R v≤0:=by
 by_cases hs:S v
 ·exact Int.le_of_eq (h.s v hv hs)
 ·exact Int.le_of_lt (h.x v hv hs)
section
variable {ad : Nat → Nat → Prop} (hs : ∀ a b, ad a b → ad b a)
include hs
end
end Go.Sx

namespace Go.Sx
structure Hg (ad:Nat→Nat→Prop)(X S:Nat→Prop):Prop where
 fin:∃l:List Nat,∀x,X x→x∈l
 sub:∀s,S s→X s
 clq:∀s t,S s→S t→s≠t→ad s t
 nh:NoHole ad X
 at3:∀a b c,¬Apt ad X a b c
 ae:∀a b,¬Ape ad X S a b
section
variable {ad : Nat → Nat → Prop}
theorem DT {X X':Nat→Prop}(h:∀v,X' v→X v){a b c:Nat}(hp:Cn ad (Av ad X' c) a b):Cn ad (Av ad X c) a b:=hp.mono λw ⟨p,q,r⟩=>⟨h w p,q,r⟩
theorem Apt.mono {X X':Nat→Prop}(h:∀v,X' v→X v){a b c:Nat}:Apt ad X' a b c→Apt ad X a b c:=
 fun⟨h1,h2,h3,h4,h5,h6,h7,h8,h9,p,q,r⟩=>⟨h a h1,h b h2,h c h3,h4,h5,h6,h7,h8,h9,DT h p,DT h q,DT h r⟩
theorem Hg.mono {X S X' S':Nat→Prop}(g:Hg ad X S)(hX:∀v,X' v→X v)(hS:∀v,S' v→S v)(hS':∀v,S' v→X' v):Hg ad X' S':=by
 obtain⟨l,hl⟩:=g.fin
 refine⟨⟨l,λx hx=>hl x (hX x hx)⟩,hS',λs t p q=>g.clq s t (hS s p) (hS t q),λc hc hx=>g.nh c hc (λx h=>hX x (hx x h)),λa b c h=>g.at3 a b c (h.mono hX),λa b ⟨h1,h2,h3,h4,⟨k,k1,k2⟩,k',k3,k4⟩=>g.ae a b ⟨hX a h1,hX b h2,h3,h4,⟨k,hS k k1,DT hX k2⟩,k',hS k' k3,DT hX k4⟩⟩
variable (hs : ∀ a b, ad a b → ad b a) (hi : ∀ a, ¬ ad a a)
include hs
include hi
end
section
variable {ad : Nat → Nat → Prop} (hs : ∀ a b, ad a b → ad b a) (hi : ∀ a, ¬ ad a a)
include hs
include hi
end
end Go.Sx

namespace Go.Sx
section
variable {g : LL} (hg : GOk g)
include hg
structure PW (g:LL)(W:Nat→Prop)(u v:Nat)(P:List Nat):Prop where
 ne:1≤P.length
 fst:P[0]'(by omega)=u
 lst:P[P.length-1]'(by omega)=v
 inW:∀x∈P,W x
 step:∀i (h:i+1<P.length),adj g P[i] P[i+1]
 short:P.length≤g.length
end
end Go.Sx

namespace Go.Sx
structure Pth (g:LL)(P:List Nat):Prop where
 ne:1≤P.length
 gd:Gd g 1000 P
 low:∀i (h:i<P.length) (h0:0<i),P[0]'(by omega)<P[i]
def Bst (g:LL)(b:LI):Prop:=b=[]∨∃c,b=iz c∧Hole (adj g) c∧∀x∈c,x<g.length
section
variable {g : LL} (hg : GOk g)
include hg
theorem nodup_bound {c:List Nat}(hnd:c.Nodup)(hlt:∀x∈c,x<g.length):c.length≤g.length:=by
 have:=Cc (l:=iz c) (m:=(List.range g.length).map Int.ofNat) (by
  unfold iz
  exact List.pairwise_map.2 (hnd.imp (λh h'=>h (Int.ofNat.inj h')))) (λx hx=>by
  unfold iz at hx
  obtain⟨v,hv,rfl⟩:=List.mem_map.1 hx
  exact List.mem_map.2 ⟨v,List.mem_range.2 (hlt v hv),rfl⟩)
 rw[iz_len] at this
 simpa using this
theorem Bst.len {b:LI}(h:Bst g b):b.length≤16:=by
 rcases h with rfl|⟨c,rfl,h1,h2⟩
 ·simp
 ·rw[iz_len]
  have:=nodup_bound hg h1.nd h2
  have:=hg.n16
  omega
end
end Go.Sx

namespace Go.Sx
section
variable {g : LL} (hg : GOk g)
include hg
end
end Go.Sx

namespace Go.Sx
section
variable {ad : Nat → Nat → Prop} (hs : ∀ a b, ad a b → ad b a) (hi : ∀ a, ¬ ad a a)
include hs hi
end
end Go.Sx

namespace Go.Sx
section
variable {ad : Nat → Nat → Prop} {X : Nat → Prop} {L R : Nat → Int} (h : Rp ad X L R)
include h
end
end Go.Sx

namespace Go.Sx
structure Un (cs:LI)(m:Nat)(U:LI):Prop where
 len:U.length=2^m
 vs:∀b,b<2^m→VS (U.getD b 0)
 hs:∀b,b<2^m→∀v,has (U.getD b 0) v=true↔∃i,i<m∧b.testBit i=true∧ch cs i v=true
section
variable {cs U : LI} (hs : ∀ s ∈ cs, VS s) (hm : cs.length ≤ 16) (hU : Un cs cs.length U)
include hs hm hU
end
end Go.Sx

namespace Go.Sx
theorem Goes.nat {cs:LI}:∀{o:LI} {p:Int},Goes cs p o→∀x∈o,∃k:Nat,x=(k:Int)∧k<cs.length
 |[],_,_,x,hx=>by simp at hx
 |y::o,p,⟨k,e,hF,hG⟩,x,hx=>by
  rcases List.mem_cons.1 hx with rfl|hx
  ·exact⟨k,e,hF.1⟩
  ·exact Goes.nat hG x hx
theorem Goes.mem {cs:LI}(hm:cs.length≤16):∀{o:LI} {p:Int},VS p→Goes cs p o→∀i,i<cs.length→has p i=true∨(i:Int)∈o
 |[],_,_,h,i,hi=> .inl (h i hi)
 |y::o,p,hp,⟨k,e,hF,hG⟩,i,hi=>by
  have hk:=hF.1
  rcases Goes.mem hm (VS.ior _ _) hG i hi with h|h
  ·rw[BV hp (VS.ishl _ _),Bs (by omega),Bool.or_eq_true,decide_eq_true_eq] at h
   rcases h with h|rfl
   ·exact .inl h
   ·exact .inr (by rw[e];simp)
  ·exact .inr (List.mem_cons_of_mem _ h)
def atp (cs o:LI)(k v:Nat):Bool:=ch cs (o.getD k 0).toNat v
theorem Goes.conv {cs o:LI}{v i j k:Nat}(hm:cs.length≤16)(h:Goes cs 0 o)(hij:i<j)(hjk:j<k)(hk:k<o.length)(h1:atp cs o i v=true)(h2:atp cs o k v=true):atp cs o j v=true:=by
 have hj:j<o.length:=by omega
 have hi:i<o.length:=by omega
 obtain⟨a,ea,_⟩:=h.nat _ (List.getElem_mem hi)
 obtain⟨b,eb,_⟩:=h.nat _ (List.getElem_mem hj)
 obtain⟨c,ec,_⟩:=h.nat _ (List.getElem_mem hk)
 unfold atp at*
 rw[AD hi,ea,Int.toNat_natCast] at h1
 rw[AD hk,ec,Int.toNat_natCast] at h2
 rw[AD hj,eb,Int.toNat_natCast]
 have e:o=o.take j++(b:Int)::o.drop (j+1):=by
  rw[←eb,←List.drop_eq_getElem_cons hj,List.take_append_drop]
 rw[e] at h
 refine h.mid hm ⟨VS.zero,λv hv=>by rw[BR] at hv;cases hv⟩ (.inr ⟨a,?_,h1⟩) ⟨c,?_,h2⟩
 ·rw[←ea]
  exact List.mem_take_iff_getElem.2 ⟨i,by omega,rfl⟩
 ·rw[←ec,List.mem_drop_iff_getElem]
  exact⟨k-(j+1),by omega,by congr 1;omega⟩
structure Told (cs o:LI)(v:Nat)(a b:Int):Prop where
 ex:∃i j:Nat,a=(i:Int)∧b=(j:Int)∧i≤j∧j<o.length∧atp cs o i v=true∧atp cs o j v=true∧∀k,k<o.length→atp cs o k v=true→i≤k∧k≤j
theorem Told.at {cs o:LI}{v:Nat}{a b:Int}(hm:cs.length≤16)(h:Goes cs 0 o)(ht:Told cs o v a b){k:Nat}(h1:a≤k)(h2:(k:Int)≤b):k<o.length∧atp cs o k v=true:=by
 obtain⟨i,j,rfl,rfl,hij,hj,hi1,hj1,_⟩:=ht.ex
 refine⟨by omega,?_⟩
 by_cases e1:k=i
 ·rw[e1];exact hi1
 by_cases e2:k=j
 ·rw[e2];exact hj1
 exact h.conv hm (show i<k by omega) (show k<j by omega) hj hi1 hj1
section
variable {g : LL} (hg : GOk g) {l o : LI} (hl : GC g l) (h16 : l.length ≤ 16) (ho : Goes l 0 o)
include hg hl
include h16 ho
end
end Go.Sx

namespace Go.Sx
section
variable {g l : LL} {cs : LI} (hg : GOk g)
include hg
end
end Go.Sx

namespace Go.Sx
inductive Pick (n:Nat):Nat→Nat→Int→Int→Prop
 |done {a:Nat} {c:Int}:Pick n a 0 c c
 |more {a k v:Nat} {c t:Int}:a≤v→v<n→Pick n (v+1) k (ior .u32 c (ishl .u32 1 (v:Int))) t→Pick n a (k+1) c t
theorem Pick.le {n a k:Nat}{c t:Int}(h:Pick n a k c t):k=0∨a+k≤n:=by
 induction h with
 |done=>exact .inl rfl
 |more h1 h2 _ ih=>right;rcases ih with h|h<;>omega
def BX (a b:Int):LI:=[min a b,max a b]
structure KOk (n:Nat)(K:LL):Prop where
 nd:K.Nodup
 lk:∀l∈K,LinkIn n l
theorem LinkIn.good {n:Nat}(hn:n≤1000){l:LI}(h:LinkIn n l):rowGood l:=by
 obtain⟨a,b,rfl,h1,h2⟩:=h
 refine⟨rfl,?_⟩
 simp only[List.getD_cons_zero,List.getD_cons_succ]
 omega
theorem KOk.len {n:Nat}(hn:n≤16){K:LL}(h:KOk n K):K.length≤256:=by
 have h1:(K.map DX).Nodup:=by
  unfold List.Nodup
  rw[List.pairwise_map]
  refine List.Pairwise.imp_of_mem (fun{a b} ha hb hab e=> ?_) h.nd
  exact hab (row_inj ((h.lk a ha).good (by omega)) ((h.lk b hb).good (by omega)) e)
 have h2:=Cc (m:=(List.range 16).flatMap (λa=>(List.range 16).map λb=>((a:Nat):Int)*1048576+((b:Nat):Int))) h1 (λx hx=>by
  obtain⟨l,hl,rfl⟩:=List.mem_map.1 hx
  obtain⟨a,b,rfl,h3,h4⟩:=h.lk l hl
  exact List.mem_flatMap.2 ⟨a,List.mem_range.2 (by omega),List.mem_map.2 ⟨b,List.mem_range.2 (by omega),rfl⟩⟩)
 have h3:((List.range 16).flatMap (λa=>(List.range 16).map λb=>((a:Nat):Int)*1048576+((b:Nat):Int))).length=256:=by decide+kernel
 rw[h3,List.length_map] at h2
 exact h2
def WayP (K:LL)(a b:Int):Prop:=∀T:Int→Prop,T a→(∀x y,T x→Lk K x y→T y)→T b
theorem Lk.perm {K K':LL}(h:K.Perm K'){x y:Int}:Lk K x y↔Lk K' x y:=by
 unfold Lk;rw[h.mem_iff,h.mem_iff]
theorem WayP.perm {K K':LL}(h:K.Perm K'){a b:Int}:WayP K a b↔WayP K' a b:=by
 unfold WayP
 constructor
 ·intro hh T h1 h2;exact hh T h1 (λx y hx hl=>h2 x y hx ((Lk.perm h).1 hl))
 ·intro hh T h1 h2;exact hh T h1 (λx y hx hl=>h2 x y hx ((Lk.perm h).2 hl))
structure NetL (A:LI)(n:Nat)(K:LL):Prop where
 net:Net A n
 nb:∀x y,x<n→y<n→(nb A x y=true↔Lk K (x:Int) (y:Int))
def iter {σ:Type}(f:Nat→σ→σ):Nat→Nat→σ→σ
 |_,0,s=>s
 |a,m+1,s=>iter f (a+1) m (f a s)
end Go.Sx



namespace Go.Sx
open Classical in
noncomputable def stp (l:LI)(q:Nat)(i k:Nat)(K:LL):LL:=
 if(AF (iand .u32 (l.getD i 0) (l.getD k 0))).length=q∧¬WayP K (i:Int) (k:Int) then K++[BX (i:Int) (k:Int)] else K
noncomputable def st3 (l:LI)(q i:Nat)(K:LL):LL:=iter (stp l q i) (i+1) (l.length-(i+1)) K
noncomputable def st2 (l:LI)(q:Nat)(K:LL):LL:=iter (st3 l q) 0 l.length K
noncomputable def st1 (l:LI):LL:=iter (λj K=>st2 l (16-j) K) 0 17 []
theorem Ej {i k:Nat}(h:i<k):BX (i:Int) (k:Int)=[(i:Int),(k:Int)]:=by
 unfold BX
 rw[show min (i:Int) (k:Int)=i by omega,show max (i:Int) (k:Int)=k by omega]
theorem KOk.add {n i k:Nat}{K:LL}(h:KOk n K)(hik:i<k)(hk:k<n)(hw:¬WayP K (i:Int) (k:Int)):KOk n (K++[BX (i:Int) (k:Int)]):=by
 have hnot:BX (i:Int) (k:Int)∉K:=λhm=>hw (λT h1 h2=>h2 _ _ h1 (.inl (by rw[Ej hik] at hm;exact hm)))
 refine⟨?_,λl hl=> ?_⟩
 ·have hp:(K++[BX (i:Int) (k:Int)]).Perm (BX (i:Int) (k:Int)::K):=List.perm_append_comm
  exact hp.nodup_iff.2 (List.nodup_cons.2 ⟨hnot,h.nd⟩)
 ·rcases List.mem_append.1 hl with hl|hl
  ·exact h.lk l hl
  ·simp at hl;subst hl
   exact⟨i,k,Ej hik,hik,hk⟩
theorem NetL.add {A A':LI}{n i k:Nat}{K:LL}(h:NetL A n K)(hik:i<k)(hk:k<n)(hA:Net A' n)(hnb:∀u w,u<n→Sx.nb A' u w=(Sx.nb A u w||(decide (u=i)&&decide (w=k))||(decide (u=k)&&decide (w=i)))):NetL A' n (K++[BX (i:Int) (k:Int)]):=by
 refine⟨hA,λx y hx hy=> ?_⟩
 rw[hnb x y hx,Ej hik]
 simp only[Bool.or_eq_true,Bool.and_eq_true,decide_eq_true_eq]
 rw[h.nb x y hx hy]
 unfold Lk
 simp only[List.mem_append,List.mem_singleton,List.cons.injEq,and_true,Int.natCast_inj]
 constructor
 ·rintro((h1|h1)|⟨h1,h2⟩)
  ·exact h1.elim (λh=> .inl (.inl h)) (λh=> .inr (.inl h))
  ·exact .inl (.inr h1)
  ·exact .inr (.inr ⟨h2,h1⟩)
 ·rintro((h1|h1)|(h1|⟨h1,h2⟩))
  ·exact .inl (.inl (.inl h1))
  ·exact .inl (.inr h1)
  ·exact .inl (.inl (.inr h1))
  ·exact .inr ⟨h2,h1⟩
section
variable {l : LI} (hn : l.length ≤ 16) (hvs : ∀ s ∈ l, VS s)
include hn hvs
end
section
variable {g : LL} (hg : GOk g)
include hg
end
end Go.Sx

namespace Go.Sx
theorem loop_ex {β:Type}{step:Int→Option (Int ⊕ (Unit ⊕ β))}{n:Nat}(P:Nat→Prop)(Q:β→Prop)(hstep:∀i,i<n→(step (i:Int)=some (.inl ((i+1:Nat):Int))∧¬P i)∨∃z,step (i:Int)=some (.inr (.inr z))∧P i∧Q z)
  (hend:∀i,n≤i→step (i:Int)=some (.inr (.inl ()))):∀(d a:Nat),n≤a+d→(Al step (a:Int)=some (.inl ())∧∀i,a≤i→i<n→¬P i)∨∃z,Al step (a:Int)=some (.inr z)∧Q z∧∃i,a≤i∧i<n∧P i:=by
 intro d
 induction d with
 |zero=>
  intro a h
  exact .inl ⟨AW (hend a (by omega)),λi h1 h2=>by omega⟩
 |succ d ih=>
  intro a h
  by_cases ha:a<n
  ·rcases hstep a ha with⟨e,hn⟩|⟨z,e,hp,hq⟩
   ·rcases ih (a+1) (by omega) with⟨e2,h2⟩|⟨z,e2,hq,i,h3,h4,h5⟩
    ·refine .inl ⟨by rw[Bf e,e2],λi h3 h4=> ?_⟩
     by_cases hia:i=a
     ·rw[hia];exact hn
     ·exact h2 i (by omega) h4
    ·exact .inr ⟨z,by rw[Bf e,e2],hq,i,by omega,h4,h5⟩
   ·exact .inr ⟨z,AW e,hq,a,Nat.le_refl _,ha,hp⟩
  ·exact .inl ⟨AW (hend a (by omega)),λi h1 h2=>by omega⟩
section
variable {g : LL} (hg : GOk g)
include hg
end
end Go.Sx

namespace Go.Sx
def canR (R:Nat→Nat→Prop)(S:Nat→Prop)(v:Nat):Prop:=
 (∀w,S w→¬R v w)∨∃u,u≠v∧S u∧((∀w,S w→(R v w↔w=u))∨(¬R v u∧∀w,S w→(R v w↔R u w))∨(R v u∧∀w,S w→w≠u→w≠v→(R v w↔R u w)))
def Elim (R:Nat→Nat→Prop):Nat→(Nat→Prop)→Prop
 |0,S=>∀w,¬S w
 |k+1,S=>∃v,S v∧canR R S v∧Elim R k (λw=>S w∧w≠v)
theorem Elim.iso {R R':Nat→Nat→Prop}(f:Nat→Nat):∀(k:Nat) (S S':Nat→Prop),Elim R k S→(∀w,S w→S' (f w))→(∀w',S' w'→∃w,S w∧f w=w')→(∀u w,S u→S w→f u=f w→u=w)→(∀u w,S u→S w→(R' (f u) (f w)↔R u w))→Elim R' k S'
 |0,S,S',h,_,h2,_,_=>λw' hw'=>by
  obtain⟨w,hw,_⟩:=h2 w' hw'
  exact h w hw
 |k+1,S,S',h,h1,h2,h3,h4=>by
  obtain⟨v,hv,hc,he⟩:=h
  refine⟨f v,h1 v hv,?_,Elim.iso f k _ _ he (λw hw=>⟨h1 w hw.1,λe=>hw.2 (h3 w v hw.1 hv e)⟩) (λw' hw'=> ?_) (λu w hu hw=>h3 u w hu.1 hw.1) (λu w hu hw=>h4 u w hu.1 hw.1)⟩
  ·rcases hc with hc|⟨u,hu,hSu,hc⟩
   ·refine .inl λw' hw'=> ?_
    obtain⟨w,hw,rfl⟩:=h2 w' hw'
    rw[h4 v w hv hw];exact hc w hw
   ·refine .inr ⟨f u,λe=>hu (h3 u v hSu hv e),h1 u hSu,?_⟩
    rcases hc with hc|⟨hn,hc⟩|⟨hn,hc⟩
    ·refine .inl λw' hw'=> ?_
     obtain⟨w,hw,rfl⟩:=h2 w' hw'
     rw[h4 v w hv hw,hc w hw]
     exact⟨λe=>by rw[e],λe=>h3 w u hw hSu e⟩
    ·refine .inr (.inl ⟨λh=>hn ((h4 v u hv hSu).1 h),λw' hw'=> ?_⟩)
     obtain⟨w,hw,rfl⟩:=h2 w' hw'
     rw[h4 v w hv hw,h4 u w hSu hw];exact hc w hw
    ·refine .inr (.inr ⟨(h4 v u hv hSu).2 hn,λw' hw' hwu hwv=> ?_⟩)
     obtain⟨w,hw,rfl⟩:=h2 w' hw'
     rw[h4 v w hv hw,h4 u w hSu hw]
     exact hc w hw (λe=>hwu (by rw[e])) (λe=>hwv (by rw[e]))
  ·obtain⟨w,hw,rfl⟩:=h2 w' hw'.1
   exact⟨w,⟨hw,λe=>hw'.2 (by rw[e])⟩,rfl⟩
theorem Elim.congr {R R':Nat→Nat→Prop}{k:Nat}{S S':Nat→Prop}(h:Elim R k S)(hS:∀w,S w↔S' w)(hR:∀u w,S u→S w→(R' u w↔R u w)):Elim R' k S':=
 Elim.iso id k S S' h (λw hw=>(hS w).1 hw) (λw hw=>⟨w,(hS w).2 hw,rfl⟩) (λ_ _ _ _ e=>e) hR
def Dh (F:LI)(p:Pr):Int:=if p.2.2=2 then ishl .u32 1 p.2.1 else if p.2.2=3 then F.getD p.2.1.toNat 0 else if p.2.2=4 then ior .u32 (F.getD p.2.1.toNat 0) (ishl .u32 1 p.2.1) else 0
def Fs (n:Nat):List Pr→LI
 |[]=>List.replicate n 0
 |p::l=>Do n (Fs n l) p.1.toNat (Dh (Fs n l) p)
def vsOf (l:List Pr):LI:=l.map (·.1)
structure GI (n:Nat)(l:List Pr)(s:Int):Prop where
 f:FOk (Fs n l) n
 i:In n s
 mem:∀w:Nat,has s w=true↔(w:Int)∈vsOf l
 thr:∀u w,u<n→nb (Fs n l) u w=true→has s u=true∧has s w=true
 nonneg:∀x∈vsOf l,0≤x
theorem GI.nil (n:Nat):GI n [] 0:=by
 have hz:∀u,(List.replicate n (0:Int)).getD u 0=0:=λu=>by
  rw[List.getD_eq_getElem?_getD,List.getElem?_replicate];split<;>rfl
 have hn:∀u w,nb (List.replicate n (0:Int)) u w=false:=λu w=>by unfold nb;rw[hz,BR]
 exact⟨⟨by simp[Fs],λu _=>by show VS ((List.replicate n (0:Int)).getD u 0);rw[hz];exact VS.zero,λu w _ h=>(by rw[show nb (Fs n []) u w=false from hn u w] at h;cases h),λu _=>hn u u,λu w _ h=>(by rw[show nb (Fs n []) u w=false from hn u w] at h;cases h)⟩,
  ⟨VS.zero,λw h=>(by rw[BR] at h;cases h)⟩,λw=>(by rw[BR];simp[vsOf]),λu w _ h=>(by rw[show nb (Fs n []) u w=false from hn u w] at h;cases h),by simp[vsOf]⟩
def needs (k:Int):Prop:=k=2∨k=3∨k=4
theorem near_ok {n:Nat}(hn:n≤16){l:List Pr}{s:Int}(h:GI n l s){p:Pr}(hby:needs p.2.2→∃b:Nat,p.2.1=b∧has s b=true):In n (Dh (Fs n l) p)∧∀w,has (Dh (Fs n l) p) w=true→has s w=true:=by
 have key:VS (Dh (Fs n l) p)∧∀w,has (Dh (Fs n l) p) w=true→has s w=true:=by
  unfold Dh
  by_cases k2:p.2.2=2
  ·obtain⟨b,e,hb⟩:=hby (.inl k2)
   have:=h.i.2 b hb
   rw[if_pos k2,e]
   refine⟨VS.ishl _ _,λw hw=> ?_⟩
   rw[Bs (by omega)] at hw
   rw[of_decide_eq_true hw];exact hb
  ·rw[if_neg k2]
   by_cases k3:p.2.2=3
   ·obtain⟨b,e,hb⟩:=hby (.inr (.inl k3))
    have hbn:=h.i.2 b hb
    rw[if_pos k3,e,Int.toNat_natCast]
    exact⟨h.f.vs b hbn,λw hw=>(h.thr b w hbn hw).2⟩
   ·rw[if_neg k3]
    by_cases k4:p.2.2=4
    ·obtain⟨b,e,hb⟩:=hby (.inr (.inr k4))
     have hbn:=h.i.2 b hb
     rw[if_pos k4,e,Int.toNat_natCast]
     refine⟨VS.ior _ _,λw hw=> ?_⟩
     rw[BV (h.f.vs b hbn) (VS.ishl _ _),Bs (by omega),Bool.or_eq_true] at hw
     rcases hw with hw|hw
     ·exact(h.thr b w hbn hw).2
     ·rw[of_decide_eq_true hw];exact hb
    ·rw[if_neg k4]
     exact⟨VS.zero,λw hw=>by rw[BR] at hw;cases hw⟩
 exact⟨⟨key.1,λw hw=>h.i.2 w (key.2 w hw)⟩,key.2⟩
theorem GI.step {n:Nat}(hn:n≤16){l:List Pr}{s:Int}(h:GI n l s){p:Pr}{v:Nat}(e:p.1=v)(hv:v<n)(hsv:has s v=false)(hby:needs p.2.2→∃b:Nat,p.2.1=b∧has s b=true):
  GI n (p::l) (ior .u32 s (ishl .u32 1 (v:Int)))∧Fs n (p::l)=Do n (Fs n l) v (Dh (Fs n l) p)∧has (Dh (Fs n l) p) v=false∧∀w,nb (Fs n l) v w=false:=by
 obtain⟨hS,hSs⟩:=near_ok hn h hby
 have hSv:has (Dh (Fs n l) p) v=false:=by
  rw[Bool.eq_false_iff];intro hc;rw[hSs v hc] at hsv;cases hsv
 have eF:Fs n (p::l)=Do n (Fs n l) v (Dh (Fs n l) p):=by
  show Do n (Fs n l) p.1.toNat _=_
  rw[e,Int.toNat_natCast]
 have hh:∀w,has (ior .u32 s (ishl .u32 1 (v:Int))) w=(has s w||decide (w=v)):=λw=>by rw[BV h.i.1 (VS.ishl _ _),Bs (by omega)]
 refine⟨⟨by rw[eF];exact joinF_ok hn h.f hS hv hSv,⟨VS.ior _ _,λw hw=> ?_⟩,λw=> ?_,λu w hu hw=> ?_,λx hx=> ?_⟩,eF,hSv,λw=> ?_⟩
 ·rw[hh,Bool.or_eq_true,decide_eq_true_eq] at hw
  rcases hw with hw|hw
  ·exact h.i.2 w hw
  ·omega
 ·rw[hh,Bool.or_eq_true,decide_eq_true_eq,h.mem]
  unfold vsOf
  rw[List.map_cons,List.mem_cons,e]
  constructor
  ·rintro(hw|hw)
   ·exact .inr hw
   ·exact .inl (by omega)
  ·rintro(hw|hw)
   ·exact .inr (by omega)
   ·exact .inl hw
 ·rw[eF,Da hn h.f hS hv hu] at hw
  simp only[hh,Bool.or_eq_true,Bool.and_eq_true,decide_eq_true_eq] at hw ⊢
  rcases hw with(hw|hw)|hw
  ·have:=h.thr u w hu hw
   exact⟨.inl this.1,.inl this.2⟩
  ·exact⟨.inr hw.1,.inl (hSs w hw.2)⟩
  ·exact⟨.inl (hSs u hw.1),.inr hw.2⟩
 ·unfold vsOf at hx
  rw[List.map_cons,List.mem_cons,e] at hx
  rcases hx with rfl|hx
  ·omega
  ·exact h.nonneg x hx
 ·rw[Bool.eq_false_iff];intro hc
  rw[(h.thr v w hv hc).1] at hsv;cases hsv
def Lsts (g:LL)(K:Int):Prop:=In g.length K∧(∀u w,has K u=true→has K w=true→¬adj g u w)∧∀w,w<g.length→has K w=true∨∃v,has K v=true∧adj g v w
structure LSt (g:LL)(l:LI):Prop where
 up:l.Pairwise (λa b=>skey a<skey b)
 mem:∀K,K∈l↔Lsts g K
theorem LSt.vs {g:LL}{l:LI}(h:LSt g l):∀s∈l,VS s:=λs hs=>((h.mem s).1 hs).1.1
theorem LSt.len {g:LL}{l:LI}(hg:GOk g)(h:LSt g l):l.length≤65536:=masks_len hg.n16 (λK hK=>((h.mem K).1 hK).1) (rise_nodup h.up)
theorem tot_elems (l:LI):tot (l.map AF)≤l.length*32:=by
 have:=tot_le (xs:=l.map AF) (n:=32) (λx hx=>by
  obtain⟨s,_,rfl⟩:=List.mem_map.1 hx
  have:=B8 s;omega)
 rwa [List.length_map] at this
theorem makeD_nil (n:Nat)(hn:n≤4294967296):BY (([]:LI):LI) (n:Int) (n:Int)=some (List.replicate n []):=D2 (by omega) (by omega)
theorem row_more (g:LL)(v:Nat):row (g++[[]]) v=row g v:=by
 unfold row
 rw[List.getD_eq_getElem?_getD,List.getD_eq_getElem?_getD]
 by_cases h:v<g.length
 ·rw[List.getElem?_append_left h]
 ·rw[List.getElem?_append_right (by omega),List.getElem?_eq_none (show g.length≤v by omega)]
  by_cases h2:v-g.length=0
  ·rw[h2];rfl
  ·rw[List.getElem?_eq_none (by simp;omega)]
theorem GOk.more {g:LL}(hg:GOk g)(h16:g.length<16):GOk (g++[[]]):=by
 have hl:(g++[[]]).length=g.length+1:=by simp
 have hadj:∀u v,adj (g++[[]]) u v↔adj g u v:=λu v=>by unfold adj;rw[row_more]
 have hn:∀u v,adj g u v→u<g.length:=λu v h=>by
  apply Classical.byContradiction
  intro hc
  unfold adj row at h
  rw[List.getD_eq_getElem?_getD,List.getElem?_eq_none (by omega)] at h
  simp at h
 refine⟨by omega,by omega,λv _=> ?_,λv _ h=> ?_,λu v _ h=> ?_⟩
 ·rw[row_more]
  by_cases hv:v<g.length
  ·exact⟨(hg.rows v hv).1,λx hx=>by have:=(hg.rows v hv).2 x hx;omega⟩
  ·unfold row
   rw[List.getD_eq_getElem?_getD,List.getElem?_eq_none (by omega)]
   exact⟨by simp[Inc],by simp⟩
 ·rw[hadj] at h;exact hg.irr v (hn v v h) h
 ·rw[hadj] at h ⊢;exact hg.sym u v (hn u v h) h
def AllGo (g:LL):Prop:=Elim (adj g) g.length (λw=>w<g.length)
theorem AllGo.add {g y:LL}(hg:GOk g)(h:AllGo g){x:LI}(hx:SetOf x (g.length:Int))(hl:y.length=g.length+1)
  (hA:∀u w:Nat,adj y u w↔adj g u w∨(u=g.length∧(w:Int)∈x)∨(w=g.length∧(u:Int)∈x)) (hc:canR (adj y) (λw=>w<g.length+1) g.length):AllGo y:=by
 unfold AllGo
 rw[hl]
 refine⟨g.length,by omega,hc,h.congr (λw=>⟨λh=>⟨by omega,by omega⟩,λh=>by omega⟩) (λu w hu hw=> ?_)⟩
 rw[hA]
 constructor
 ·rintro(h|⟨h,_⟩|⟨h,_⟩)
  ·exact h
  ·omega
  ·omega
 ·exact .inl
def lf (xs:List (Int×Int))(v:Nat):Int:=(xs.getD v (0,0)).1
def rt (xs:List (Int×Int))(v:Nat):Int:=(xs.getD v (0,0)).2
def meetB (xs:List (Int×Int))(u v:Nat):Bool:=decide (lf xs u≤rt xs v)&&decide (lf xs v≤rt xs u)
structure IvL (xs:List (Int×Int)):Prop where
 n1:1≤xs.length
 n16:xs.length≤16
 ok:∀x∈xs,0≤x.1∧x.1≤x.2∧x.2≤100
def rowI (xs:List (Int×Int))(v m:Nat):LI:=((List.range m).filter λu=>decide (u≠v)&&meetB xs u v).map Int.ofNat
def gI (xs:List (Int×Int)):LL:=(List.range xs.length).map λv=>rowI xs v xs.length
theorem gI_len (xs:List (Int×Int)):(gI xs).length=xs.length:=by simp[gI]
theorem mem_rowI {xs:List (Int×Int)}{v m:Nat}{x:Int}:x∈rowI xs v m↔∃u:Nat,x=(u:Int)∧u<m∧u≠v∧meetB xs u v=true:=by
 unfold rowI
 simp only[List.mem_map,List.mem_filter,List.mem_range,Bool.and_eq_true,decide_eq_true_eq]
 constructor
 ·rintro⟨u,⟨h1,h2,h3⟩,rfl⟩;exact⟨u,rfl,h1,h2,h3⟩
 ·rintro⟨u,rfl,h1,h2,h3⟩;exact⟨u,⟨h1,h2,h3⟩,rfl⟩
theorem row_gI {xs:List (Int×Int)}{v:Nat}(hv:v<xs.length):row (gI xs) v=rowI xs v xs.length:=by
 unfold row gI
 rw[AD (by simpa using hv)];simp
theorem adj_gI {xs:List (Int×Int)}{v u:Nat}(hv:v<xs.length):adj (gI xs) v u↔u<xs.length∧u≠v∧meetB xs u v=true:=by
 unfold adj
 rw[row_gI hv,mem_rowI]
 constructor
 ·rintro⟨w,e,h⟩
  obtain rfl:u=w:=by omega
  exact h
 ·intro h;exact⟨u,rfl,h⟩
theorem meetB_comm (xs:List (Int×Int))(u v:Nat):meetB xs u v=meetB xs v u:=by unfold meetB;exact Bool.and_comm _ _
theorem rowI_inc (xs:List (Int×Int))(v m:Nat):Inc (rowI xs v m):=by
 unfold Inc rowI
 rw[List.pairwise_map]
 refine List.Pairwise.imp (fun{a b} h=>by show (a:Int)<(b:Int);omega) (List.Pairwise.filter _ List.pairwise_lt_range)
theorem gI_ok {xs:List (Int×Int)}(h1:1≤xs.length)(h16:xs.length≤16):GOk (gI xs):=by
 have hl:=gI_len xs
 refine⟨by omega,by omega,λv hv=> ?_,λv hv ha=> ?_,λu v hu ha=> ?_⟩
 ·rw[hl] at hv ⊢
  rw[row_gI hv]
  refine⟨rowI_inc _ _ _,λx hx=> ?_⟩
  obtain⟨u,rfl,h2,_⟩:=mem_rowI.1 hx
  omega
 ·rw[hl] at hv
  exact((adj_gI hv).1 ha).2.1 rfl
 ·rw[hl] at hu
  obtain⟨a,b,c⟩:=(adj_gI hu).1 ha
  exact(adj_gI a).2 ⟨hu,λe=>b e.symm,by rw[meetB_comm];exact c⟩
theorem IvL.g {xs:List (Int×Int)}(h:IvL xs):GOk (gI xs):=gI_ok h.n1 h.n16
theorem IvL.at {xs:List (Int×Int)}(h:IvL xs){v:Nat}(hv:v<xs.length):0≤lf xs v∧lf xs v≤rt xs v∧rt xs v≤100:=by
 unfold lf rt
 rw[AD hv]
 exact h.ok _ (List.getElem_mem hv)
section
variable {xs : List (Int × Int)} (h : IvL xs)
include h
end
end Go.Sx

namespace Go.Sx
section
variable {g : LL} (hg : GOk g) {l o : LI} (hl : GC g l) (h16 : l.length ≤ 16) (ho : Goes l 0 o) (hol : o.length ≤ 32)
include hg hl h16 ho hol
end
end Go.Sx

namespace Go.Sx
section
variable {g : LL} (hg : GOk g)
include hg
omit hg in
theorem Apt.swap {ad:Nat→Nat→Prop}{X:Nat→Prop}(hs:∀a b,ad a b→ad b a){a b c:Nat}(h:Apt ad X a b c):Apt ad X b a c:=by
 obtain⟨h1,h2,h3,n1,n2,n3,a1,a2,a3,p1,p2,p3⟩:=h
 exact⟨h2,h1,h3,n1.symm,n3,n2,λe=>a1 (hs _ _ e),a3,a2,Cn.sym hs ⟨h1,n2,λe=>a2 (hs _ _ e)⟩ p1,p3,p2⟩
end
end Go.Sx

namespace Go.Sx
section
variable {g : LL} (hg : GOk g)
include hg
end
end Go.Sx

namespace Go.Sx
noncomputable abbrev arC (a b:Int×Int):Option Int:=D.a a.1 a.2 b.1 b.2
theorem ET :D.s0=DG.insertionSort arC:=by kernel_rfl
theorem sa_heapSort :D.v0=DG.heapSort arC:=by kernel_rfl
theorem ER :D.x0=DG.breakPatterns arC:=by kernel_rfl
theorem sa_choosePivot :D.y0=DG.choosePivot arC:=by kernel_rfl
theorem EY :D.B0=DG.reverseRange arC:=by kernel_rfl
theorem DH :D.C0=DG.partialInsertionSort arC:=by kernel_rfl
theorem ED :D.z0=DG.partitionEqual arC:=by kernel_rfl
theorem sa_partition :D.A0=DG.partition arC:=by kernel_rfl
theorem sa_pdqsort :∀(n:Nat) x a b c,D.x n x a b c=DG.pdqsortR arC n x a b c
 |0,_,_,_,_=>rfl
 |n+1,x,a,b,c=>by
  unfold D.x DG.pdqsortR
  rw[ET,sa_heapSort,ER,sa_choosePivot,EY,DH,ED,sa_partition,funext (λx=>funext λa=>funext λb=>funext λc=>sa_pdqsort n x a b c)]
  kernel_rfl
theorem sa_Sort (x):D.Y x=DG.Sort arC x:=by
 unfold D.Y DG.Sort D.h DG.pdqsort
 simp only[sa_pdqsort]
theorem loop_app {α β γ S:Type}{step:S→Option (S ⊕ List β)}{k:List β→Option γ}(xs:List α)(enc:List β→Int→S)(f:α→β)(l0:List β)(hl:l0.length+xs.length≤4294967296)
  (hstep:∀s (i:Nat) (h:i<xs.length),step (enc s i)=(AS s [f xs[i]]).bind λl=>some (.inl (enc l ((i+1:Nat):Int))))
  (hend:∀s,step (enc s xs.length)=some (.inr s)):(Al step (enc l0 0)).bind k=k (l0++xs.map f):=by
 have key:∀i,i≤xs.length→Al step (enc l0 0)=Al step (enc (l0++(xs.take i).map f) i):=by
  intro i
  induction i with
  |zero=>intro _;simp
  |succ i ih=>
   intro hi
   rw[ih (by omega)]
   have h1:=hstep (l0++(xs.take i).map f) i (by omega)
   rw[Br (by simp;omega),bs] at h1
   rw[Bf h1,List.take_succ_eq_append_getElem (show i<xs.length by omega),List.map_append,List.append_assoc]
   rfl
 rw[key xs.length (Nat.le_refl _),List.take_length,AW (hend _)];rfl
theorem bind_step {α γ:Type}{e:Option α}{a:α}{k:α→Option γ}{Q:γ→Prop}(h:(e.bind λx=>some x)=some a)(hk:∃y,k a=some y∧Q y):∃y,e.bind k=some y∧Q y:=by
 cases e with
 |none=>cases h
 |some x=>obtain rfl:=Option.some.inj h;exact hk
def arG (x:Int×Int):Prop:=0≤x.1∧x.1<1048576∧0≤x.2∧x.2<1048576
noncomputable abbrev byArrow :Gs.Srtd (Int×Int) where
 dflt:=(0,0)
 key:=λx=>x.1*1048576+x.2
 good:=arG
 cmp:=arC
 law:=λx y hx hy=>by
  obtain⟨h1,h2,h3,h4⟩:=hx;obtain⟨k1,k2,k3,k4⟩:=hy
  unfold arC D.a
  by_cases he:x.1=y.1
  ·have e:(x.1 !=y.1)=false:=by simp[he]
   rw[e,cond_false,w64 (by omega) (by omega)]
   exact⟨_,rfl,by rw[decide_eq_decide];omega⟩
  ·have e:(x.1 !=y.1)=true:=by simpa using he
   rw[e,cond_true,w64 (by omega) (by omega)]
   exact⟨_,rfl,by rw[decide_eq_decide];omega⟩
theorem arSort_ok (l:List (Int×Int))(h:∀x∈l,arG x)(hl:l.length≤1000000):∃l',D.Y l=some l'∧l'.Perm l:=by
 obtain⟨l',e,hp,_⟩:= @Gs.sort_spec (Int×Int) byArrow l h hl
 exact⟨l',by rw[sa_Sort];exact e,hp⟩
abbrev ap (a b:Nat):Int×Int:=((a:Int),(b:Int))
theorem ap_inj {a b c d:Nat}(h:ap a b=ap c d):a=c∧b=d:=by
 simp only[ap,Prod.mk.injEq] at h
 omega
section
variable {g : LL} (hg : GOk g)
include hg
theorem forces_ok {a b:Nat}(hab:adj g a b):∃ys,D.U (g.map mk) (a:Int) (b:Int)=some ys∧(ys.length≤64∧(∀x∈ys,∃c d:Nat,x=ap c d)∧∀c d:Nat,ap c d∈ys↔Gm (adj g) a b c d):=by
 have h16:=hg.n16
 have ha:=CA hg hab
 have hb:=hg.lt ha hab
 have hlm:(g.map mk).length=g.length:=by simp
 have hF:=FOk.of hg
 have va:=hF.vs a ha;have vb:=hF.vs b hb
 have hid:∀{x:Nat},x<g.length→idx (g.map mk) (x:Int)=some ((g.map mk).getD x 0):=λhx=>by rw[AB (by omega),AD (by omega)]
 unfold D.U
 rw[hid ha,bs,hid hb,bs,CI,bs,list_eq _ (VS.iandNot _ _),bs]
 generalize hS:iandNot .u32 (iandNot .u32 ((g.map mk).getD a 0) ((g.map mk).getD b 0)) (ishl .u32 1 (b:Int))=S
 generalize hS':iandNot .u32 (iandNot .u32 ((g.map mk).getD b 0) ((g.map mk).getD a 0)) (ishl .u32 1 (a:Int))=S'
 have hmS:∀x,x∈AF S↔∃c:Nat,x=(c:Int)∧adj g a c∧¬adj g b c∧c≠b:=λx=>by
  rw[mem_elems,←hS]
  constructor
  ·rintro⟨c,hc32,hc,rfl⟩
   rw[Bj (VS.iandNot _ _) (VS.ishl _ _),Bj va vb,Bs (by omega),Bool.and_eq_true,Bool.and_eq_true,Bool.not_eq_true',Bool.not_eq_true',decide_eq_false_iff_not] at hc
   exact⟨c,rfl,(CJ hg ha).1 hc.1.1,λe=>by have:=(CJ hg hb).2 e;unfold nb at this;rw[this] at hc;simp at hc,hc.2⟩
  ·rintro⟨c,rfl,h1,h2,h3⟩
   refine⟨c,by have:=hg.lt ha h1;omega,?_,rfl⟩
   rw[Bj (VS.iandNot _ _) (VS.ishl _ _),Bj va vb,Bs (by omega),Bool.and_eq_true,Bool.and_eq_true,Bool.not_eq_true',Bool.not_eq_true',decide_eq_false_iff_not]
   refine⟨⟨(CJ hg ha).2 h1,?_⟩,h3⟩
   cases hh:has ((g.map mk).getD b 0) c
   ·rfl
   ·exact absurd ((CJ hg hb).1 hh) h2
 have hmS':∀x,x∈AF S'↔∃c:Nat,x=(c:Int)∧adj g b c∧¬adj g a c∧c≠a:=λx=>by
  rw[mem_elems,←hS']
  constructor
  ·rintro⟨c,hc32,hc,rfl⟩
   rw[Bj (VS.iandNot _ _) (VS.ishl _ _),Bj vb va,Bs (by omega),Bool.and_eq_true,Bool.and_eq_true,Bool.not_eq_true',Bool.not_eq_true',decide_eq_false_iff_not] at hc
   exact⟨c,rfl,(CJ hg hb).1 hc.1.1,λe=>by have:=(CJ hg ha).2 e;unfold nb at this;rw[this] at hc;simp at hc,hc.2⟩
  ·rintro⟨c,rfl,h1,h2,h3⟩
   refine⟨c,by have:=hg.lt hb h1;omega,?_,rfl⟩
   rw[Bj (VS.iandNot _ _) (VS.ishl _ _),Bj vb va,Bs (by omega),Bool.and_eq_true,Bool.and_eq_true,Bool.not_eq_true',Bool.not_eq_true',decide_eq_false_iff_not]
   refine⟨⟨(CJ hg hb).2 h1,?_⟩,h3⟩
   cases hh:has ((g.map mk).getD a 0) c
   ·rfl
   ·exact absurd ((CJ hg ha).1 hh) h2
 have hl1:=B8 S;have hl2:=B8 S'
 refine bind_step (loop_app (k:=λl=>some l) (AF S) (fun(l:List (Int×Int)) (i:Int)=>(l,i)) (λx=>((a:Int),x)) [] (by simp;omega) (λs i hi=>by simp only[dlt hi,cond_true,AB hi,bs,wq i]) (λs=>by simp only[Bd,cond_false])) ?_
 rw[bs,bs,CI,bs,list_eq _ (VS.iandNot _ _),bs,hS']
 refine bind_step (loop_app (k:=λl=>some l) (AF S') (fun(l:List (Int×Int)) (i:Int)=>(l,i)) (λx=>(x,(b:Int))) _ (by simp;omega) (λs i hi=>by simp only[dlt hi,cond_true,AB hi,bs,wq i]) (λs=>by simp only[Bd,cond_false])) ?_
 have hm:∀c d:Nat,ap c d∈[]++(AF S).map (λx=>((a:Int),x))++(AF S').map (λx=>(x,(b:Int)))↔Gm (adj g) a b c d:=λc d=>by
  simp only[List.nil_append,List.mem_append,List.mem_map]
  constructor
  ·rintro(⟨x,hx,e⟩|⟨x,hx,e⟩)
   ·obtain⟨y,rfl,h1,h2,h3⟩:=(hmS x).1 hx
    obtain⟨rfl,rfl⟩:=ap_inj (a:=a) (b:=y) e
    exact⟨h1,.inl ⟨rfl,h2,λe=>h3 e.symm⟩⟩
   ·obtain⟨y,rfl,h1,h2,h3⟩:=(hmS' x).1 hx
    obtain⟨rfl,rfl⟩:=ap_inj (a:=y) (b:=b) e
    exact⟨Ex hg _ _ h1,.inr ⟨rfl,h2,λe=>h3 e.symm⟩⟩
  ·rintro⟨h0,⟨rfl,h2,h3⟩|⟨rfl,h2,h3⟩⟩
   ·exact .inl ⟨_,(hmS d).2 ⟨d,rfl,h0,h2,λe=>h3 e.symm⟩,rfl⟩
   ·exact .inr ⟨_,(hmS' c).2 ⟨c,rfl,Ex hg _ _ h0,h2,λe=>h3 e.symm⟩,rfl⟩
 have hall:∀x∈[]++(AF S).map (λx=>((a:Int),x))++(AF S').map (λx=>(x,(b:Int))),∃c d:Nat,x=ap c d:=λx hx=>by
  simp only[List.nil_append,List.mem_append,List.mem_map] at hx
  rcases hx with⟨z,hz,rfl⟩|⟨z,hz,rfl⟩
  ·obtain⟨y,rfl,_⟩:=(hmS z).1 hz;exact⟨a,y,rfl⟩
  ·obtain⟨y,rfl,_⟩:=(hmS' z).1 hz;exact⟨y,b,rfl⟩
 have hgood:∀x∈[]++(AF S).map (λx=>((a:Int),x))++(AF S').map (λx=>(x,(b:Int))),arG x:=λx hx=>by
  obtain⟨c,d,rfl⟩:=hall x hx
  have h:=((hm c d).1 hx).1
  have h1:=CA hg h
  have h2:=hg.lt h1 h
  unfold arG
  dsimp only
  omega
 obtain⟨l',e,hp⟩:=arSort_ok _ hgood (by simp;omega)
 rw[e,bs]
 refine⟨l',rfl,by rw[hp.length_eq];simp;omega,λx hx=>hall x (hp.mem_iff.1 hx),λc d=>by rw[hp.mem_iff];exact hm c d⟩
end
end Go.Sx

namespace Go.Sx
theorem mpGet_some {M:ArM}{x:Int×Int}:(Bi M x).isSome=true↔x∈M.map (·.1):=by
 unfold Bi
 rw[Option.isSome_map,List.find?_isSome]
 constructor
 ·rintro⟨kv,h1,h2⟩
  exact List.mem_map.2 ⟨kv,h1,beq_iff_eq.1 h2⟩
 ·intro h
  obtain⟨kv,h1,h2⟩:=List.mem_map.1 h
  exact⟨kv,h1,beq_iff_eq.2 h2⟩
section
variable {g : LL} (hg : GOk g)
include hg
theorem pairs_few {L:ArL}(hn:L.Nodup)(h:∀x∈L,∃c d:Nat,x=ap c d∧c<g.length∧d<g.length):L.length≤256:=by
 have h16:=hg.n16
 have:=Cc (l:=L.map λx=>x.1*16+x.2) (m:=(List.range 256).map Int.ofNat) (by
  unfold List.Nodup
  rw[List.pairwise_map]
  refine List.Pairwise.imp_of_mem (fun{x y} hx hy hne he=> ?_) hn
  obtain⟨c,d,rfl,h1,h2⟩:=h x hx
  obtain⟨c',d',rfl,h3,h4⟩:=h y hy
  apply hne
  dsimp only at he
  have:c=c'∧d=d':=by omega
  rw[this.1,this.2]) (λz hz=>by
  obtain⟨x,hx,rfl⟩:=List.mem_map.1 hz
  obtain⟨c,d,rfl,h1,h2⟩:=h x hx
  exact List.mem_map.2 ⟨c*16+d,List.mem_range.2 (by omega),by simp⟩)
 simpa using this
structure Fnd (g:LL)(u v:Nat)(M:ArM)(L:ArL):Prop where
 eq:L=M.map (·.1)
 nd:L.Nodup
 kl:∀x∈L,∃c d:Nat,x=ap c d∧Kl (adj g) u v c d
 st:ap u v∈L
theorem Fnd.few {u v:Nat}(huv:adj g u v){M:ArM}{L:ArL}(h:Fnd g u v M L):L.length≤256:=pairs_few hg h.nd λx hx=>by
 obtain⟨c,d,rfl,hk⟩:=h.kl x hx
 have he:=hk.edge huv
 exact⟨c,d,rfl,CA hg he,hg.lt (CA hg he) he⟩
theorem ffIn_ok {u v:Nat}(huv:adj g u v){i:Nat}{ys:ArL}(hys:ys.length≤64)(hyk:∀x∈ys,∃c d:Nat,x=ap c d∧Kl (adj g) u v c d){M0:ArM}{L0:ArL}(h0:Fnd g u v M0 L0)(hi:i<L0.length):
  ∃q,Al (D.M0 ys (i:Int)) (M0,L0,0)=some q∧(Fnd g u v q.1 q.2∧L0<+:q.2∧∀y∈ys,y∈q.2):=by
 refine Es (λs=>∃j:Nat,s.2.2=(j:Int)∧j≤ys.length∧Fnd g u v s.1 s.2.1∧L0<+:s.2.1∧∀k (hk:k<ys.length),k<j→ys[k]∈s.2.1) (λs=>ys.length-s.2.2.toNat) _ ?_ _ ⟨0,rfl,Nat.zero_le _,h0,List.prefix_refl _,λk _ h=>absurd h (Nat.not_lt_zero k)⟩
 rintro⟨M,L,_⟩ ⟨j,rfl,hj,hF,hp,hin⟩
 dsimp only at hF hp hin ⊢
 unfold D.M0
 by_cases hjl:j<ys.length
 ·left
  simp only[dlt hjl,cond_true,AB hjl,bs,wq j]
  have hlen:=hF.few hg huv
  obtain⟨c,d,hy,hk⟩:=hyk _ (List.getElem_mem hjl)
  cases hm:(Bi M ys[j]).isSome
  ·have hnot:ys[j]∉L:=λh=>by
    rw[hF.eq] at h
    rw[mpGet_some.2 h] at hm;cases hm
   have hil:i<L.length:=Nat.lt_of_lt_of_le hi hp.length_le
   simp only[Bool.not_false,cond_true,AB hil,bs]
   rw[Br (by simp;omega),bs]
   refine⟨_,rfl,⟨j+1,rfl,hjl,⟨?_,?_,λx hx=> ?_,List.mem_append_left _ hF.st⟩,hp.trans (List.prefix_append _ _),λk hk' hkj=> ?_⟩,by dsimp only;omega⟩
   ·rw[List.map_append,←hF.eq];rfl
   ·rw[List.nodup_append]
    exact⟨hF.nd,by simp,λa ha b hb e=>hnot (by simp at hb;rw[←hb,←e];exact ha)⟩
   ·rcases List.mem_append.1 hx with h|h
    ·exact hF.kl x h
    ·simp at h;subst h;exact⟨c,d,hy,hk⟩
   ·by_cases hkj':k=j
    ·subst hkj';exact List.mem_append_right _ (by simp)
    ·exact List.mem_append_left _ (hin k hk' (by omega))
  ·simp only[Bool.not_true,cond_false]
   refine⟨_,rfl,⟨j+1,rfl,hjl,hF,hp,λk hk' hkj=> ?_⟩,by dsimp only;omega⟩
   by_cases hkj':k=j
   ·subst hkj';rw[hF.eq];exact mpGet_some.1 hm
   ·exact hin k hk' (by omega)
 ·right
  obtain rfl:j=ys.length:=by omega
  simp only[Bd,cond_false]
  exact⟨_,rfl,hF,hp,λy hy=>by
   obtain⟨k,hk,rfl⟩:=List.getElem_of_mem hy
   exact hin k hk hk⟩
theorem forcedFrom_ok {u v:Nat}(huv:adj g u v):∃M,D.N (g.map mk) (ap u v)=some M∧((M.map (·.1)).Nodup∧(∀x∈M.map (·.1),∃c d:Nat,x=ap c d)∧∀c d:Nat,ap c d∈M.map (·.1)↔Kl (adj g) u v c d):=by
 unfold D.N
 refine Es (λs:ArM×ArL×Int=>∃i:Nat,s.2.2=(i:Int)∧i≤s.2.1.length∧Fnd g u v s.1 s.2.1∧∀k (hk:k<s.2.1.length),k<i→∀p q r t:Nat,s.2.1[k]=ap p q→Gm (adj g) p q r t→ap r t∈s.2.1) (λs=>257-s.2.2.toNat) _ ?_ _
  ⟨0,rfl,by simp,⟨rfl,by simp,λx hx=>by simp at hx;exact⟨u,v,hx,Kl.refl⟩,by simp⟩,λk _ h=>absurd h (Nat.not_lt_zero k)⟩
 rintro⟨M,L,_⟩ ⟨i,rfl,hi,hF,hcl⟩
 dsimp only at hi hF hcl ⊢
 unfold D.S0
 have hlen:=hF.few hg huv
 by_cases hil:i<L.length
 ·left
  obtain⟨p,q,hx,hk⟩:=hF.kl _ (List.getElem_mem hil)
  have hpq:=hk.edge huv
  obtain⟨ys,ey,h1,h2,h3⟩:=forces_ok hg hpq
  simp only[dlt hil,cond_true,AB hil,bs,hx]
  rw[show D.U (g.map mk) (p:Int) (q:Int)=some ys from ey,bs]
  obtain⟨r,er,hF',hpre,hall⟩:=ffIn_ok hg huv (i:=i) (ys:=ys) h1 (λx hx'=>by
   obtain⟨c,d,rfl⟩:=h2 x hx'
   exact⟨c,d,rfl,hk.step ((h3 c d).1 hx')⟩) hF hil
  rw[er,bs,wi (by omega)]
  refine⟨_,rfl,⟨i+1,rfl,Nat.lt_of_lt_of_le hil hpre.length_le,hF',λk hkl hki p' q' r' t' e gm=> ?_⟩,by dsimp only;omega⟩
  have hkL:k<L.length:=by omega
  have hget:r.2[k]=L[k]:=by
   obtain⟨t,ht⟩:=hpre
   have:r.2[k]? =L[k]? :=by rw[←ht,List.getElem?_append_left hkL]
   rw[List.getElem?_eq_getElem hkl,List.getElem?_eq_getElem hkL] at this
   exact Option.some.inj this
  by_cases hki':k=i
  ·subst hki'
   dsimp only at e
   rw[hget,hx] at e
   obtain⟨rfl,rfl⟩:=ap_inj e
   exact hall _ ((h3 r' t').2 gm)
  ·exact hpre.subset (hcl k hkL (by omega) p' q' r' t' (by rw[←hget];exact e) gm)
 ·right
  obtain rfl:i=L.length:=by omega
  simp only[Bd,cond_false]
  refine⟨_,rfl,?_⟩
  have hEq:=hF.eq
  rw[←hEq]
  refine⟨hF.nd,λx hx=> ?_,λc d=>⟨λh=> ?_,λh=> ?_⟩⟩
  ·obtain⟨c,d,h,_⟩:=hF.kl x hx;exact⟨c,d,h⟩
  ·obtain⟨c',d',e,hk⟩:=hF.kl _ h
   obtain⟨rfl,rfl⟩:=ap_inj e
   exact hk
  ·refine h (λp q=>ap p q∈L) hF.st (λp q r t hpq gm=> ?_)
   obtain⟨k,hk,e⟩:=List.getElem_of_mem hpq
   exact hcl k hk hk p q r t e gm
end
end Go.Sx

namespace Go.Sx
abbrev Vx (n at' x:Nat):Prop:=x<n∧x≠at'
def PP (F:LI)(n:Nat)(S:Nat→Prop):Prop:=∀c x,S c→S x→x≠c→(∀w,Ad F c w→Cn (Ad F) (Vx n c) x w→S w)∧∀y,S y→y≠c→Cn (Ad F) (Vx n c) x y→Cn (Ad F) (λz=>S z∧z≠c) x y
structure Leaf (F:LI)(n:Nat)(S:Int):Prop where
 i:In n S
 ne:∃v,El S v
 j:Joint (Ad F) (El S)
 cut:∀v,El S v→Joint (Ad F) (Mn S v)
 p:PP F n (El S)
def Two (S:Int):Prop:=∃x y,El S x∧El S y∧x≠y
section
variable {F : LI} {n : Nat} (hn : n ≤ 16) (hF : FOk F n)
include hn hF
structure Side (F:LI)(n:Nat)(T Q:Nat→Prop)(v:Nat):Prop where
 tn:∀x,T x→x<n
 me:T v
 sub:∀x,Q x→T x∧x≠v
 cn:∀x y,Q x→(Q y↔Cn (Ad F) (λz=>T z∧z≠v) x y)
 ne:∃x,Q x
omit hn in
theorem Side.nb {T Q:Nat→Prop}{v:Nat}(h:Side F n T Q v){a b:Nat}(ha:Q a)(hb:T b)(hbv:b≠v)(hab:Ad F a b):Q b:=(h.cn a b ha).2 (Cn.refl.step hab ⟨hb,hbv⟩)
omit hn in
theorem Side.part {T Q:Nat→Prop}{v:Nat}(h:Side F n T Q v):Joint (Ad F) Q:=λx y hx hy=>
 ((h.cn x y hx).1 hy (λz=>Q z∧Cn (Ad F) Q x z) ⟨hx,Cn.refl⟩ (λa b ⟨p,q⟩ hab ⟨hb,hbv⟩=>by
  have:=h.nb hF p hb hbv hab
  exact⟨this,q.step hab this⟩)).2
structure Blk (F:LI)(n:Nat)(T:Int)(L:LI):Prop where
 lf:∀S∈L,Leaf F n S∧∀x,El S x→El T x
 two:Two T→∀S∈L,Two S
 edge:∀u w,El T u→El T w→Ad F u w→∃S∈L,El S u∧El S w
 one:¬Two T→L=[T]
end
end Go.Sx

namespace Go.Sx
section
variable {g : LL} (hg : GOk g)
include hg
end
end Go.Sx

namespace Go.Sx
def pr (a b:Nat):LI:=[(a:Int),(b:Int)]
theorem Dl {a b c d:Nat}(h:pr a b=pr c d):a=c∧b=d:=by
 unfold pr at h
 simp at h
 omega
theorem bnd_eq {α β:Type}{e:Option α}{a:α}{k:α→Option β}(h:e=some a):e.bind k=k a:=by rw[h];rfl
theorem l19Has_eq {L:LL}(hL:∀s∈L,∃a b:Nat,s=pr a b)(hl:L.length≤100000)(a b:Nat):∃r,D.z L (a:Int) (b:Int)=some r∧(r=true↔pr a b∈L):=by
 unfold D.z
 have h:=loop_ex (β:=Bool) (n:=L.length) (step:=fun(x_120:Int)=>cond (decide (x_120<(L.length:Int))) ((idx L x_120).bind λe_180=>(idx e_180 0).bind λe_186=>(cond (e_186==(a:Int)) ((idx L x_120).bind λe_221=>(idx e_221 1).bind λe_227=>some (e_227==(b:Int))) (some false)).bind λb_219=>cond b_219 (some (.inr (.inr true))) (some (.inl (IntKind.i64.wrap (x_120+1))))) (some (.inr (.inl ()))))
  (λi=>L.getD i []=pr a b) (λz=>z=true) (λi hi=>by
   obtain⟨p,q,e⟩:=hL _ (List.getElem_mem hi)
   have i0:idx (pr p q) 0=some (p:Int):=rfl
   have i1:idx (pr p q) 1=some (q:Int):=rfl
   simp only[dlt hi,cond_true,AB hi,e,bs,i0,i1,AD hi,wq i]
   by_cases hp:p=a
   ·subst hp
    simp only[beq_self_eq_true,cond_true,bs]
    by_cases hq:q=b
    ·subst hq
     right
     simp only[beq_self_eq_true,cond_true]
     exact⟨true,rfl,trivial,rfl⟩
    ·left
     have:(((q:Int))==(b:Int))=false:=by rw[beq_eq_false_iff_ne];omega
     simp only[this,cond_false]
     exact⟨trivial,λh=>hq (Dl h).2⟩
   ·left
    have:(((p:Int))==(a:Int))=false:=by rw[beq_eq_false_iff_ne];omega
    simp only[this,cond_false,bs]
    exact⟨trivial,λh=>hp (Dl h).1⟩)
  (λi hi=>by
   have:decide ((i:Int)<(L.length:Int))=false:=by simp;omega
   simp only[this,cond_false]) L.length 0 (by omega)
 rcases h with⟨e,hn⟩|⟨z,e,rfl,i,_,hi,hP⟩
 ·refine⟨false,?_,⟨λh=>(by cases h),λhm=> ?_⟩⟩
  ·exact(bnd_eq e).trans rfl
  ·obtain⟨i,hi,ei⟩:=List.getElem_of_mem hm
   exact absurd (by rw[AD hi];exact ei) (hn i (Nat.zero_le _) hi)
 ·refine⟨true,?_,⟨λ_=> ?_,λ_=>rfl⟩⟩
  ·exact(bnd_eq e).trans rfl
  ·rw[←hP,AD hi];exact List.getElem_mem hi
def Clo (g:LL)(u v a b:Nat):Prop:=∀T:Nat→Nat→Prop,T u v→T v u→(∀a b w,T a b→adj g a w→Cn (adj g) (Vx g.length a) b w→T a w∧T w a)→T a b
theorem Clo.base {g:LL}{u v:Nat}:Clo g u v u v:=λ_ h _ _=>h
theorem Clo.next {g:LL}{u v a b w:Nat}(h:Clo g u v a b)(ha:adj g a w)(hc:Cn (adj g) (Vx g.length a) b w):Clo g u v a w:=λT h1 h2 h3=>(h3 _ _ _ (h T h1 h2 h3) ha hc).1
theorem Clo.sym {g:LL}{u v a b:Nat}(h:Clo g u v a b):Clo g u v b a:=
 (h (λa b=>Clo g u v a b∧Clo g u v b a) ⟨Clo.base,λ_ _ h _=>h⟩ ⟨λ_ _ h _=>h,Clo.base⟩ (λa b w ⟨p,_⟩ q r=>⟨⟨p.next q r,λT h1 h2 h3=>(h3 _ _ _ (p T h1 h2 h3) q r).2⟩,⟨λT h1 h2 h3=>(h3 _ _ _ (p T h1 h2 h3) q r).2,p.next q r⟩⟩)).2
structure BI (g:LL)(u v:Nat)(E Sn:LL):Prop where
 e1:∀e∈E,∃a b:Nat,e=pr a b∧a<g.length∧adj g a b∧Clo g u v a b
 e2:∀a b:Nat,pr a b∈Sn↔pr a b∈E∨pr b a∈E
 e3:∀s∈Sn,∃a b:Nat,s=pr a b
 nd:E.Nodup
 e4:pr u v∈E
 sl:Sn.length=2*E.length
section
variable {g : LL} (hg : GOk g) {u v : Nat}
include hg
end
end Go.Sx

namespace Go.Sx
section
variable {g : LL} (hg : GOk g) {u v : Nat}
include hg
end
end Go.Sx

namespace Go.Sx
theorem l19Ahead_eq (x y:LI)(hx:x.length≤100000):∃r,D.m0 x y=some r∧(r=true↔cz x y<0):=by
 have key:∀(d i:Nat),x.length≤i+d→i≤x.length→i≤y.length→
   (Al (σ:=Int) (ρ:=(Unit) ⊕ (Bool)) (fun(x_76:Int)=>cond ((decide (x_76<(x.length:Int)))&&(decide (x_76<(y.length:Int)))) ((idx x x_76).bind λe_117=>(idx y x_76).bind λe_123=>cond (e_117 !=e_123) ((idx x x_76).bind λe_132=>(idx y x_76).bind λe_138=>some (.inr (.inr (decide (e_132<e_138))))) (some (.inl (IntKind.i64.wrap (x_76+1))))) (some (.inr (.inl ())))) (i:Int)=some (.inl ())∧(cz (x.drop i) (y.drop i)<0↔x.length<y.length))∨
   ∃r,Al (σ:=Int) (ρ:=(Unit) ⊕ (Bool)) (fun(x_76:Int)=>cond ((decide (x_76<(x.length:Int)))&&(decide (x_76<(y.length:Int)))) ((idx x x_76).bind λe_117=>(idx y x_76).bind λe_123=>cond (e_117 !=e_123) ((idx x x_76).bind λe_132=>(idx y x_76).bind λe_138=>some (.inr (.inr (decide (e_132<e_138))))) (some (.inl (IntKind.i64.wrap (x_76+1))))) (some (.inr (.inl ())))) (i:Int)=some (.inr r)∧(r=true↔cz (x.drop i) (y.drop i)<0):=by
  intro d
  induction d with
  |zero=>
   intro i h1 h2 h3
   obtain rfl:i=x.length:=by omega
   left
   refine⟨AW ?_,?_⟩
   ·simp only[Bd,Bool.false_and,cond_false]
   ·rw[List.drop_length]
    cases hy:y.drop x.length with
    |nil=>
     have:=congrArg List.length hy
     simp at this
     simp[cz];omega
    |cons b t=>
     have:=congrArg List.length hy
     simp at this
     simp[cz];omega
  |succ d ih=>
   intro i h1 h2 h3
   by_cases hix:i<x.length
   ·by_cases hiy:i<y.length
    ·rw[List.drop_eq_getElem_cons hix,List.drop_eq_getElem_cons hiy]
     by_cases he:x[i]=y[i]
     ·have hb:(x[i] !=y[i])=false:=by simp[he]
      rw[Bf (s':=((i+1:Nat):Int)) (by simp only[dlt hix,dlt hiy,Bool.and_self,cond_true,AB hix,AB hiy,bs,hb,cond_false,wq i])]
      have hcz:cz (x[i]::x.drop (i+1)) (y[i]::y.drop (i+1))=cz (x.drop (i+1)) (y.drop (i+1)):=by
       rw[he];simp[cz]
      rw[hcz]
      exact ih (i+1) (by omega) (by omega) (by omega)
     ·right
      have hb:(x[i] !=y[i])=true:=by simpa using he
      refine⟨decide (x[i]<y[i]),AW (by simp only[dlt hix,dlt hiy,Bool.and_self,cond_true,AB hix,AB hiy,bs,hb]),?_⟩
      rw[decide_eq_true_eq]
      simp only[cz]
      by_cases hlt:x[i]<y[i]
      ·simp[hlt]
      ·have hgt:y[i]<x[i]:=by omega
       simp[hlt,hgt]
    ·left
     refine⟨AW ?_,?_⟩
     ·have:decide ((i:Int)<(y.length:Int))=false:=by simp;omega
      simp only[this,Bool.and_false,cond_false]
     ·rw[List.drop_eq_getElem_cons hix,List.drop_of_length_le (l:=y) (by omega)]
      simp[cz];omega
   ·obtain rfl:i=x.length:=by omega
    left
    refine⟨AW ?_,?_⟩
    ·simp only[Bd,Bool.false_and,cond_false]
    ·rw[List.drop_length]
     cases hy:y.drop x.length with
     |nil=>
      have:=congrArg List.length hy
      simp at this
      simp[cz];omega
     |cons b t=>
      have:=congrArg List.length hy
      simp at this
      simp[cz];omega
 unfold D.m0
 rcases key x.length 0 (by omega) (by omega) (by omega) with⟨e,h⟩|⟨r,e,h⟩
 ·refine⟨decide ((x.length:Int)<(y.length:Int)),(bnd_eq e).trans rfl,?_⟩
  rw[decide_eq_true_eq]
  rw[List.drop_zero,List.drop_zero] at h
  rw[h];omega
 ·rw[List.drop_zero,List.drop_zero] at h
  exact⟨r,(bnd_eq e).trans rfl,h⟩
theorem l19Put_any {L:LL}(hL:L.length≤100000)(hr:∀s∈L,s.length≤100)(x:LI):∃L',D.l L x=some L'∧((L'=L∧x∈L)∨∃k,k≤L.length∧L'=L.take k++[x]++L.drop k):=by
 unfold D.l
 refine AV (λs=>∃i:Nat,s=(i:Int)∧i≤L.length) (λs=>L.length-s.toNat) (λr:Int=>∃i:Nat,r=(i:Int)∧i≤L.length) ?_ ⟨0,rfl,Nat.zero_le _⟩ ?_
 ·rintro _ ⟨i,rfl,hi⟩
  by_cases hil:i<L.length
  ·obtain⟨r,er,_⟩:=l19Ahead_eq L[i] x (by have:=hr _ (List.getElem_mem hil);omega)
   rw[dlt hil,cond_true,AB hil,bs,er,bs,bs]
   cases r
   ·rw[cond_false];exact⟨_,rfl,i,rfl,hi⟩
   ·rw[cond_true,wi (by omega)]
    exact⟨_,rfl,⟨i+1,rfl,hil⟩,by dsimp only;omega⟩
  ·obtain rfl:i=L.length:=by omega
   rw[Bd,cond_false,bs,cond_false]
   exact⟨_,rfl,L.length,rfl,Nat.le_refl _⟩
 ·rintro _ ⟨i,rfl,hi⟩
  have hput:∃y,((Bw L 0 (i:Int)).bind λl_244=>(AS ([]:LL) l_244).bind λl_248=>(AS l_248 ([x]:LL)).bind λl_258=>(Bw L (i:Int) (L.length:Int)).bind λl_264=>(AS l_258 l_264).bind λl_268=>some l_268)=some y∧((y=L∧x∈L)∨∃k,k≤L.length∧y=L.take k++[x]++L.drop k):=by
   rw[sliceD_pre hi,bs,Br (by simp;omega),bs,List.nil_append,Br (by simp;omega),bs,DP hi,bs,Br (by simp;omega),bs]
   exact⟨_,rfl,.inr ⟨i,hi,rfl⟩⟩
  by_cases hil:i<L.length
  ·have hsh:Sh L[i]:=by have:=hr _ (List.getElem_mem hil);unfold Sh;omega
   rw[dlt hil,cond_true,AB hil,bs,l1Same_eq _ _ hsh,bs,bs]
   by_cases he:L[i]=x
   ·rw[decide_eq_true he,cond_true]
    exact⟨_,rfl,.inl ⟨rfl,he▸List.getElem_mem hil⟩⟩
   ·rw[decide_eq_false he,cond_false]
    exact hput
  ·obtain rfl:i=L.length:=by omega
   rw[Bd,cond_false,bs,cond_false]
   exact hput
def Prs (L:LL):Prop:=∀s∈L,∃a b:Nat,s=pr a b
theorem Prs.put {L:LL}(h:Prs L)(hL:L.length≤10000)(a b:Nat):∃L',D.l L (pr a b)=some L'∧Prs L'∧L'.length≤L.length+1∧(∀y,y∈L'↔y=pr a b∨y∈L)∧(pr a b∉L→L'.Perm (pr a b::L)):=by
 obtain⟨L',e,h1⟩:=l19Put_any (L:=L) (by omega) (λs hs=>by obtain⟨c,d,rfl⟩:=h s hs;simp[pr]) (pr a b)
 refine⟨L',e,?_⟩
 rcases h1 with⟨rfl,hm⟩|⟨k,hk,rfl⟩
 ·exact⟨h,by omega,λy=>⟨.inr,λhy=>hy.elim (λe=>e▸hm) id⟩,λhn=>absurd hm hn⟩
 ·have hp:(L.take k++[pr a b]++L.drop k).Perm (pr a b::L):=by
   rw[List.append_assoc]
   refine List.perm_middle.trans ?_
   show (pr a b::(L.take k++L.drop k)).Perm (pr a b::L)
   rw[List.take_append_drop]
  refine⟨λs hs=> ?_,by rw[hp.length_eq];simp,λy=>by rw[hp.mem_iff];simp,λ_=>hp⟩
  rcases List.mem_cons.1 (hp.mem_iff.1 hs) with rfl|hs
  ·exact⟨a,b,rfl⟩
  ·exact h s hs
section
variable {g : LL} (hg : GOk g)
include hg
theorem l13Forces_ok {a b:Nat}(hab:adj g a b):∃ys,D.p0 g (a:Int) (b:Int)=some ys∧(ys.length≤64∧Prs ys∧∀c d:Nat,pr c d∈ys↔Gm (adj g) a b c d):=by
 have h16:=hg.n16
 have ha:=CA hg hab
 have hb:=hg.lt ha hab
 have hra:=hg.row_len ha;have hrb:=hg.row_len hb
 unfold D.p0
 refine AV (λs=>∃i:Nat,s.2=(i:Int)∧i≤(row g a).length∧s.1.length≤i∧Prs s.1∧∀c d:Nat,pr c d∈s.1↔c=a∧d≠b∧¬adj g b d∧∃k,∃hk:k<(row g a).length,k<i∧(row g a)[k]=(d:Int)) (λs=>(row g a).length-s.2.toNat)
  (λr:LL=>r.length≤16∧Prs r∧∀c d:Nat,pr c d∈r↔c=a∧d≠b∧¬adj g b d∧adj g a d) ?_ ⟨0,rfl,Nat.zero_le _,Nat.le_refl _,λs hs=>(by cases hs),λc d=>⟨λh=>(by cases h),fun⟨_,_,_,k,_,h,_⟩=>absurd h (Nat.not_lt_zero k)⟩⟩ ?_
 ·rintro⟨l,_⟩ ⟨i,rfl,hi,hl,hP,hm⟩
  dsimp only at hl hP hm ⊢
  rw[BW ha,bs]
  by_cases hil:i<(row g a).length
  ·obtain⟨x,ex,hx,hax⟩:=hg.mem ha (List.getElem_mem hil)
   rw[dlt hil,cond_true,bs,AB hil,bs,ex,BW hb,wi (by omega)]
   have hcond:(cond ((x:Int) !=(b:Int)) ((some (row g b)).bind λe_325=>(D.k e_325 (x:Int)).bind λy_331=>some (!y_331)) (some false))=some (decide (x≠b∧¬(x:Int)∈row g b)):=by
    rw[bs,D9 _ _ (hg.sh2.row hb),bs]
    by_cases h1:x=b
    ·subst h1;simp
    ·have:((x:Int) !=(b:Int))=true:=by rw[bne_iff_ne];exact λe=>h1 (Int.ofNat.inj e)
     rw[this,cond_true]
     congr 1
     rw[←decide_not]
     exact decide_eq_decide.2 ⟨λh=>⟨h1,h⟩,λh=>h.2⟩
   rw[hcond,bs]
   by_cases hc:x≠b∧¬(x:Int)∈row g b
   ·rw[decide_eq_true hc,cond_true]
    obtain⟨L',e,hP',hl',hm',_⟩:=hP.put (by omega) a x
    rw[show D.l l ([(a:Int),(x:Int)]:LI)=some L' from e,bs]
    refine⟨_,rfl,⟨i+1,rfl,hil,by dsimp only;omega,hP',λc d=> ?_⟩,by dsimp only;omega⟩
    rw[hm' (pr c d),hm c d]
    constructor
    ·rintro(h|⟨h1,h2,h3,k,hk,hki,h4⟩)
     ·obtain⟨rfl,rfl⟩:=Dl h
      exact⟨rfl,hc.1,hc.2,i,hil,by omega,ex⟩
     ·exact⟨h1,h2,h3,k,hk,by omega,h4⟩
    ·rintro⟨rfl,h2,h3,k,hk,hki,h4⟩
     by_cases hki':k=i
     ·subst hki'
      left
      have:x=d:=by rw[ex] at h4;exact Int.ofNat.inj h4
      rw[this]
     ·exact .inr ⟨rfl,h2,h3,k,hk,by omega,h4⟩
   ·rw[decide_eq_false hc,cond_false]
    refine⟨_,rfl,⟨i+1,rfl,hil,by dsimp only;omega,hP,λc d=> ?_⟩,by dsimp only;omega⟩
    rw[hm c d]
    constructor
    ·rintro⟨h1,h2,h3,k,hk,hki,h4⟩
     exact⟨h1,h2,h3,k,hk,by omega,h4⟩
    ·rintro⟨rfl,h2,h3,k,hk,hki,h4⟩
     by_cases hki':k=i
     ·subst hki'
      have:x=d:=by rw[ex] at h4;exact Int.ofNat.inj h4
      exact absurd ⟨this▸h2,this▸h3⟩ hc
     ·exact⟨rfl,h2,h3,k,hk,by omega,h4⟩
  ·obtain rfl:i=(row g a).length:=by omega
   rw[Bd,cond_false]
   refine⟨_,rfl,by omega,hP,λc d=> ?_⟩
   rw[hm c d]
   constructor
   ·rintro⟨h1,h2,h3,k,hk,_,h4⟩
    exact⟨h1,h2,h3,by unfold adj;rw[←h4];exact List.getElem_mem hk⟩
   ·rintro⟨h1,h2,h3,h4⟩
    obtain⟨k,hk,e⟩:=List.getElem_of_mem h4
    exact⟨h1,h2,h3,k,hk,hk,e⟩
 rintro l1 ⟨hl1,hP1,hm1⟩
 refine AV (λs=>∃i:Nat,s.2=(i:Int)∧i≤(row g b).length∧s.1.length≤16+i∧Prs s.1∧∀c d:Nat,pr c d∈s.1↔pr c d∈l1∨(d=b∧c≠a∧¬adj g a c∧∃k,∃hk:k<(row g b).length,k<i∧(row g b)[k]=(c:Int))) (λs=>(row g b).length-s.2.toNat)
  (λr:LL=>r.length≤64∧Prs r∧∀c d:Nat,pr c d∈r↔Gm (adj g) a b c d) ?_ ⟨0,rfl,Nat.zero_le _,by dsimp only;omega,hP1,λc d=>⟨.inl,λh=>h.elim id (fun⟨_,_,_,k,_,h,_⟩=>absurd h (Nat.not_lt_zero k))⟩⟩ (λr hr=>⟨r,rfl,hr⟩)
 rintro⟨l,_⟩ ⟨i,rfl,hi,hl,hP,hm⟩
 dsimp only at hl hP hm ⊢
 rw[BW hb,bs]
 by_cases hil:i<(row g b).length
 ·obtain⟨x,ex,hx,hbx⟩:=hg.mem hb (List.getElem_mem hil)
  rw[dlt hil,cond_true,bs,AB hil,bs,ex,BW ha,wi (by omega)]
  have hcond:(cond ((x:Int) !=(a:Int)) ((some (row g a)).bind λe_325=>(D.k e_325 (x:Int)).bind λy_331=>some (!y_331)) (some false))=some (decide (x≠a∧¬(x:Int)∈row g a)):=by
   rw[bs,D9 _ _ (hg.sh2.row ha),bs]
   by_cases h1:x=a
   ·subst h1;simp
   ·have:((x:Int) !=(a:Int))=true:=by rw[bne_iff_ne];exact λe=>h1 (Int.ofNat.inj e)
    rw[this,cond_true]
    congr 1
    rw[←decide_not]
    exact decide_eq_decide.2 ⟨λh=>⟨h1,h⟩,λh=>h.2⟩
  rw[hcond,bs]
  by_cases hc:x≠a∧¬(x:Int)∈row g a
  ·rw[decide_eq_true hc,cond_true]
   obtain⟨L',e,hP',hl',hm',_⟩:=hP.put (by omega) x b
   rw[show D.l l ([(x:Int),(b:Int)]:LI)=some L' from e,bs]
   refine⟨_,rfl,⟨i+1,rfl,hil,by dsimp only;omega,hP',λc d=> ?_⟩,by dsimp only;omega⟩
   rw[hm' (pr c d),hm c d]
   constructor
   ·rintro(h|h|⟨h1,h2,h3,k,hk,hki,h4⟩)
    ·obtain⟨rfl,rfl⟩:=Dl h
     exact .inr ⟨rfl,hc.1,hc.2,i,hil,by omega,ex⟩
    ·exact .inl h
    ·exact .inr ⟨h1,h2,h3,k,hk,by omega,h4⟩
   ·rintro(h|⟨rfl,h2,h3,k,hk,hki,h4⟩)
    ·exact .inr (.inl h)
    ·by_cases hki':k=i
     ·subst hki'
      left
      have:x=c:=by rw[ex] at h4;exact Int.ofNat.inj h4
      rw[this]
     ·exact .inr (.inr ⟨rfl,h2,h3,k,hk,by omega,h4⟩)
  ·rw[decide_eq_false hc,cond_false]
   refine⟨_,rfl,⟨i+1,rfl,hil,by dsimp only;omega,hP,λc d=> ?_⟩,by dsimp only;omega⟩
   rw[hm c d]
   constructor
   ·rintro(h|⟨h1,h2,h3,k,hk,hki,h4⟩)
    ·exact .inl h
    ·exact .inr ⟨h1,h2,h3,k,hk,by omega,h4⟩
   ·rintro(h|⟨rfl,h2,h3,k,hk,hki,h4⟩)
    ·exact .inl h
    ·by_cases hki':k=i
     ·subst hki'
      have:x=c:=by rw[ex] at h4;exact Int.ofNat.inj h4
      exact absurd ⟨this▸h2,this▸h3⟩ hc
     ·exact .inr ⟨rfl,h2,h3,k,hk,by omega,h4⟩
 ·obtain rfl:i=(row g b).length:=by omega
  rw[Bd,cond_false]
  refine⟨_,rfl,by omega,hP,λc d=> ?_⟩
  rw[hm c d,hm1 c d]
  constructor
  ·rintro(⟨rfl,h2,h3,h4⟩|⟨rfl,h2,h3,k,hk,_,h4⟩)
   ·exact⟨h4,.inl ⟨rfl,h3,λe=>h2 e.symm⟩⟩
   ·have:adj g d c:=by unfold adj;rw[←h4];exact List.getElem_mem hk
    exact⟨Ex hg _ _ this,.inr ⟨rfl,h3,λe=>h2 e.symm⟩⟩
  ·rintro⟨h0,⟨rfl,h2,h3⟩|⟨rfl,h2,h3⟩⟩
   ·exact .inl ⟨rfl,λe=>h3 e.symm,h2,h0⟩
   ·obtain⟨k,hk,e⟩:=List.getElem_of_mem (Ex hg _ _ h0)
    exact .inr ⟨rfl,λe=>h3 e.symm,h2,k,hk,hk,e⟩
end
end Go.Sx

namespace Go.Sx
section
variable {g : LL} (hg : GOk g)
include hg
structure Cls (g:LL)(u v:Nat)(todo out:LL):Prop where
 kl:∀x∈out,∃c d:Nat,x=pr c d∧Kl (adj g) u v c d
 nd:out.Nodup
 st:pr u v∈out
 td:∀x∈todo,x∈out
theorem prs_few {L:LL}(hn:L.Nodup)(h:∀x∈L,∃c d:Nat,x=pr c d∧c<g.length∧d<g.length):L.length≤256:=by
 have h16:=hg.n16
 have:=Cc (l:=L.map λx=>x.getD 0 0*16+x.getD 1 0) (m:=(List.range 256).map Int.ofNat) (by
  unfold List.Nodup
  rw[List.pairwise_map]
  refine List.Pairwise.imp_of_mem (fun{x y} hx hy hne he=> ?_) hn
  obtain⟨c,d,rfl,h1,h2⟩:=h x hx
  obtain⟨c',d',rfl,h3,h4⟩:=h y hy
  apply hne
  simp[pr] at he
  have:c=c'∧d=d':=by omega
  rw[this.1,this.2]) (λz hz=>by
  obtain⟨x,hx,rfl⟩:=List.mem_map.1 hz
  obtain⟨c,d,rfl,h1,h2⟩:=h x hx
  exact List.mem_map.2 ⟨c*16+d,List.mem_range.2 (by omega),by simp[pr]⟩)
 simpa using this
theorem Cls.few {u v:Nat}(huv:adj g u v){todo out:LL}(h:Cls g u v todo out):out.length≤256:=prs_few hg h.nd λx hx=>by
 obtain⟨c,d,rfl,hk⟩:=h.kl x hx
 have he:=hk.edge huv
 exact⟨c,d,rfl,CA hg he,hg.lt (CA hg he) he⟩
theorem l13Class_ok {u v:Nat}(huv:adj g u v):∃C,D.X g (u:Int) (v:Int)=some C∧(C.length≤256∧C.Nodup∧Prs C∧∀c d:Nat,pr c d∈C↔Kl (adj g) u v c d):=by
 unfold D.X
 refine AV (λs=>Cls g u v s.1 s.2∧s.1.length+2*(256-s.2.length)≤1000∧∀p q:Nat,pr p q∈s.2→pr p q∈s.1∨∀r t,Gm (adj g) p q r t→pr r t∈s.2) (λs=>s.1.length+2*(256-s.2.length))
  (λC:LL=>C.length≤256∧C.Nodup∧Prs C∧∀c d:Nat,pr c d∈C↔Kl (adj g) u v c d) ?_ ?_ (λr hr=>⟨r,rfl,hr⟩)
 ·rintro⟨todo,out⟩ ⟨hC,hb,hcl⟩
  dsimp only at hC hb hcl ⊢
  have hof:=hC.few hg huv
  cases todo with
  |nil=>
   have d:decide ((0:Int)<(([]:LL).length:Int))=false:=rfl
   rw[d,cond_false]
   refine⟨_,rfl,hof,hC.nd,λx hx=> ?_,λc d=>⟨λh=> ?_,λh=> ?_⟩⟩
   ·obtain⟨c,d,e,_⟩:=hC.kl x hx;exact⟨c,d,e⟩
   ·obtain⟨c',d',e,hk⟩:=hC.kl _ h
    obtain⟨rfl,rfl⟩:=Dl e
    exact hk
   ·refine h (λp q=>pr p q∈out) hC.st (λp q r t hpq gm=> ?_)
    rcases hcl p q hpq with h'|h'
    ·cases h'
    ·exact h' r t gm
  |cons x rest=>
   have d:decide ((0:Int)<((x::rest).length:Int))=true:=by simp
   obtain⟨p,q,rfl,hk⟩:=hC.kl x (hC.td x (by simp))
   have hpq:=hk.edge huv
   have i0:idx (pr p q::rest) 0=some (pr p q):=rfl
   have j0:idx (pr p q) 0=some (p:Int):=rfl
   have j1:idx (pr p q) 1=some (q:Int):=rfl
   obtain⟨ys,ey,h1,h2,h3⟩:=l13Forces_ok hg hpq
   have hs1:Bw (pr p q::rest) 1 ((pr p q::rest).length:Int)=some rest:=by
    have:=DP (xs:=pr p q::rest) (i:=1) (by simp)
    simpa using this
   rw[d,cond_true,i0,bs,j0,bs,bs,j1,bs,ey,bs,hs1,bs]
   have hC':Cls g u v rest out:=⟨hC.kl,hC.nd,hC.st,λx hx=>hC.td x (List.mem_cons_of_mem _ hx)⟩
   have hb':rest.length+1+2*(256-out.length)≤1000:=by simpa using hb
   refine AV (λs=>∃j:Nat,s.2.2=(j:Int)∧j≤ys.length∧Cls g u v s.1 s.2.1∧s.1.length+2*(256-s.2.1.length)≤rest.length+2*(256-out.length)∧s.1.length≤rest.length+j∧(∀y∈out,y∈s.2.1)∧(∀y∈rest,y∈s.1)∧(∀y∈s.2.1,y∈out∨y∈s.1)∧∀k (hk:k<ys.length),k<j→ys[k]∈s.2.1)
    (λs=>ys.length-s.2.2.toNat) (λr:LL×LL=>Cls g u v r.1 r.2∧r.1.length+2*(256-r.2.length)≤rest.length+2*(256-out.length)∧(∀y∈out,y∈r.2)∧(∀y∈rest,y∈r.1)∧(∀y∈r.2,y∈out∨y∈r.1)∧∀y∈ys,y∈r.2) ?_
    ⟨0,rfl,Nat.zero_le _,hC',Nat.le_refl _,by simp,λy h=>h,λy h=>h,λy h=> .inl h,λk _ h=>absurd h (Nat.not_lt_zero k)⟩ ?_
   ·rintro⟨td,ot,_⟩ ⟨j,rfl,hj,hCj,hm,hlen,ho,hr,hor,hin⟩
    dsimp only at hCj hm hlen ho hr hor hin ⊢
    have hof':=hCj.few hg huv
    by_cases hjl:j<ys.length
    ·obtain⟨c,e,hy⟩:=h2 _ (List.getElem_mem hjl)
     have k0:idx (pr c e) 0=some (c:Int):=rfl
     have k1:idx (pr c e) 1=some (e:Int):=rfl
     obtain⟨b,eb,hbm⟩:=l19Has_eq (L:=ot) (λs hs=>by obtain⟨a',b',h',_⟩:=hCj.kl s hs;exact⟨a',b',h'⟩) (by omega) c e
     rw[dlt hjl,cond_true,AB hjl,bs,hy,k0,bs,bs,k1,bs,eb,bs,wi (by omega)]
     have hkl:Kl (adj g) u v c e:=hk.step ((h3 c e).1 (by rw[←hy];exact List.getElem_mem hjl))
     cases b
     ·have hnot:pr c e∉ot:=λh=>by have:=hbm.2 h;cases this
      obtain⟨ot',eo,hP',hl',hmem,hperm⟩:=Prs.put (L:=ot) (λs hs=>by obtain⟨a',b',h',_⟩:=hCj.kl s hs;exact⟨a',b',h'⟩) (by omega) c e
      have hperm:=hperm hnot
      rw[Bool.not_false,cond_true,bs,eo,bs,bs,Br (by simp;omega),bs]
      have hC2:Cls g u v (td++[pr c e]) ot':=⟨λx hx=>by
        rcases(hmem x).1 hx with h|h
        ·exact⟨c,e,h,hkl⟩
        ·exact hCj.kl x h,hperm.nodup_iff.2 (List.nodup_cons.2 ⟨hnot,hCj.nd⟩),(hmem _).2 (.inr hCj.st),λx hx=>by
        rcases List.mem_append.1 hx with h|h
        ·exact(hmem x).2 (.inr (hCj.td x h))
        ·simp at h;exact(hmem x).2 (.inl h)⟩
      have hf2:=hC2.few hg huv
      have hol:ot'.length=ot.length+1:=by rw[hperm.length_eq];rfl
      refine⟨_,rfl,⟨j+1,rfl,hjl,hC2,by dsimp only;simp;omega,by dsimp only;simp;omega,λy hy'=>(hmem y).2 (.inr (ho y hy')),λy hy'=>List.mem_append_left _ (hr y hy'),λy hy'=> ?_,λk hkl' hkj=> ?_⟩,by dsimp only;omega⟩
      ·rcases(hmem y).1 hy' with h|h
       ·exact .inr (List.mem_append_right _ (by simp[h]))
       ·exact(hor y h).imp id (List.mem_append_left _)
      ·by_cases hkj':k=j
       ·subst hkj';rw[hy];exact(hmem _).2 (.inl rfl)
       ·exact(hmem _).2 (.inr (hin k hkl' (by omega)))
     ·rw[Bool.not_true,cond_false]
      refine⟨_,rfl,⟨j+1,rfl,hjl,hCj,hm,by dsimp only;omega,ho,hr,hor,λk hkl' hkj=> ?_⟩,by dsimp only;omega⟩
      by_cases hkj':k=j
      ·subst hkj';rw[hy];exact hbm.1 rfl
      ·exact hin k hkl' (by omega)
    ·obtain rfl:j=ys.length:=by omega
     rw[Bd,cond_false]
     exact⟨_,rfl,hCj,hm,ho,hr,hor,λy hy=>by
      obtain⟨k,hk',rfl⟩:=List.getElem_of_mem hy
      exact hin k hk' hk'⟩
   ·rintro⟨td,ot⟩ ⟨hCj,hm,ho,hr,hor,hin⟩
    dsimp only at hCj hm ho hr hor hin ⊢
    refine⟨_,rfl,⟨hCj,by dsimp only;omega,λp' q' hpq'=> ?_⟩,by dsimp only;simp;omega⟩
    dsimp only at hpq' ⊢
    rcases hor _ hpq' with h|h
    ·rcases hcl p' q' h with h'|h'
     ·rcases List.mem_cons.1 h' with e|e
      ·obtain⟨rfl,rfl⟩:=Dl e
       exact .inr λr t gm=>hin _ ((h3 r t).2 gm)
      ·exact .inl (hr _ e)
     ·exact .inr λr t gm=>ho _ (h' r t gm)
    ·exact .inl h
 ·refine⟨⟨λx hx=> ?_,by simp,by simp[pr],λx hx=>hx⟩,by simp,λp q h=> .inl h⟩
  simp at hx
  exact⟨u,v,hx,Kl.refl⟩
end
end Go.Sx

namespace Go.Sx
section
variable {g : LL} {o F L : LI} (hg : GOk g) (ho : OOk g o) (hF : Fill g o F L)
include hg ho hF
end
end Go.Sx

namespace Go.Sx
section
variable {g : LL} {o F L : LI} (hg : GOk g) (ho : OOk g o) (hF : Fill g o F L)
include hg ho hF
end
end Go.Sx

namespace Go.Sx
theorem GOk.shr {g:LL}(hg:GOk g):Sh2 g:=by
 have h16:=hg.n16
 exact⟨by unfold Sh;omega,λr hr=>by have:=(hg.mem0 hr).1;unfold Sh;omega⟩
structure PB (g bags:LL):Prop where
 n16:bags.length≤16
 sets:∀i,i<bags.length→SetOf (bags.getD i []) g.length
 some:∀i,i<bags.length→bags.getD i []≠[]
 all:∀v:Nat,v<g.length→∃i,i<bags.length∧(v:Int)∈bags.getD i []
 edge:∀u v:Nat,u<g.length→adj g u v→∃i,i<bags.length∧(u:Int)∈bags.getD i []∧(v:Int)∈bags.getD i []
 run:∀(v:Nat) (i j k:Nat),i<j→j<k→k<bags.length→(v:Int)∈bags.getD i []→(v:Int)∈bags.getD k []→(v:Int)∈bags.getD j []
theorem PB.sh {g bags:LL}(hg:GOk g)(h:PB g bags):Sh2 bags:=by
 have:=h.n16;have:=hg.n16
 refine⟨by unfold Sh;omega,λb hb=> ?_⟩
 obtain⟨i,hi,rfl⟩:=List.getElem_of_mem hb
 have:=(h.sets i hi).length_le (by omega)
 rw[AD hi] at this
 unfold Sh;omega
section
variable {g : LL} {o : LI} (hg : GOk g) (ho : OOk g o)
include hg ho
end
section
variable {g : LL} {o : LI} (hg : GOk g) (ho : OOk g o)
include hg ho
end
section
variable {g bags : LL} (hg : GOk g) (h : PB g bags)
include hg h
end
section
variable {g : LL} {o : LI} (hg : GOk g) (ho : OOk g o)
include hg ho
end
end Go.Sx

namespace Go.Sx
section
variable {B K : LL} (hB : Sh2 B) (hK : Sh2 K)
include hB hK
end
section
variable {g B K : LL} (hg : GOk g) (hB : Sh2 B) (hK : Sh2 K)
include hg hB hK
end
end Go.Sx

namespace Go.Sx
section
variable {g B K : LL} (hg : GOk g) (hs : ∀ b ∈ B, SetOf b (g.length : Int)) (hBl : B.length ≤ 16)
include hg hs hBl
end
section
variable {g B K : LL} (hg : GOk g) (hB : Sh2 B) (hK : Sh2 K)
include hg hB hK
end
end Go.Sx

namespace Go.Sx
def prt (s t:Int):Bool:=(iandNot .u32 s t)==0
def ren (gone kept x:Int):Int:=if gone<(if x=gone then kept else x) then(if x=gone then kept else x)-1 else(if x=gone then kept else x)
def lnk (gone kept:Int)(l:LI):Option LI:=if ren gone kept (l.getD 0 0)=ren gone kept (l.getD 1 0) then none else some (BX (ren gone kept (l.getD 0 0)) (ren gone kept (l.getD 1 0)))
structure TS (M:LI)(K:LL):Prop where
 n16:M.length≤16
 vs:∀s∈M,VS s
 lk:∀l∈K,LinkIn M.length l
 k16:K.length≤16
theorem ren_rng {n g k:Nat}(hg:g<n)(hk:k<n)(hgk:g≠k){a:Nat}(ha:a<n):0≤ren g k a∧ren g k a<((n-1:Nat):Int):=by
 unfold ren
 by_cases e:(a:Int)=g
 ·simp only[e,if_true];split<;>omega
 ·simp only[e,if_false];split<;>omega
theorem lnk_in {n g k:Nat}(hg:g<n)(hk:k<n)(hgk:g≠k){l r:LI}(hl:LinkIn n l)(h:lnk g k l=some r):LinkIn (n-1) r:=by
 obtain⟨a,b,rfl,hab,hb⟩:=hl
 unfold lnk at h
 simp only[List.getD_cons_zero,List.getD_cons_succ] at h
 have h1:=ren_rng hg hk hgk (show a<n by omega)
 have h2:=ren_rng hg hk hgk hb
 split at h
 ·cases h
 ·rename_i hne
  cases h
  generalize ren g k a=x at*
  generalize ren g k b=y at*
  refine⟨(min x y).toNat,(max x y).toNat,?_,by omega,by omega⟩
  unfold BX
  rw[show (((min x y).toNat:Nat):Int)=min x y by omega,show (((max x y).toNat:Nat):Int)=max x y by omega]
def Co (g k:Nat)(K:LL):LL:=K.filterMap (lnk g k)
theorem mem_merged {n g k:Nat}{K:LL}(hK:∀l∈K,LinkIn n l)(hg:g<n)(hk:k<n)(hgk:g≠k):∀r∈Co g k K,LinkIn (n-1) r:=λr hr=>by
 obtain⟨l,hl,e⟩:=List.mem_filterMap.1 hr
 exact lnk_in hg hk hgk (hK l hl) e
theorem merged_len (g k:Nat)(K:LL):(Co g k K).length≤K.length:=List.length_filterMap_le _ _
section
variable {M : LI} {K : LL} (h : TS M K) {g k : Nat} (hg : g < M.length) (hk : k < M.length) (hgk : g ≠ k)
include h hg hk hgk
theorem TS.merge :TS (M.eraseIdx g) ((Co g k K).mergeSort DN):=by
 have h16:=h.n16
 have hl:(M.eraseIdx g).length=M.length-1:=by rw[List.length_eraseIdx,if_pos hg]
 refine⟨by omega,λs hs=>h.vs s (List.mem_of_mem_eraseIdx hs),λl hl'=> ?_,?_⟩
 ·rw[hl]
  exact mem_merged h.lk hg hk hgk l ((CK _).mem_iff.1 hl')
 ·rw[(CK _).length_eq]
  exact Nat.le_trans (merged_len g k K) h.k16
end
def spareM (M:LI)(l:LI):Option (Nat×Nat):=
 if prt (M.getD (l.getD 1 0).toNat 0) (M.getD (l.getD 0 0).toNat 0) then some ((l.getD 1 0).toNat,(l.getD 0 0).toNat)
 else if prt (M.getD (l.getD 0 0).toNat 0) (M.getD (l.getD 1 0).toNat 0) then some ((l.getD 0 0).toNat,(l.getD 1 0).toNat) else none
def CT (M:LI)(K:LL):Option (Nat×Nat):=(List.range K.length).findSome? (λi=>spareM M (K.getD i []))
section
variable {M : LI} {K : LL} (h : TS M K)
include h
theorem spareM_in {l:LI}(hl:l∈K){g k:Nat}(e:spareM M l=some (g,k)):g<M.length∧k<M.length∧g≠k:=by
 obtain⟨a,b,rfl,hab,hb⟩:=h.lk l hl
 unfold spareM at e
 simp only[List.getD_cons_zero,List.getD_cons_succ,Int.toNat_natCast] at e
 split at e
 ·cases e;omega
 ·split at e
  ·cases e;omega
  ·cases e
theorem spare_in {g k:Nat}(e:CT M K=some (g,k)):g<M.length∧k<M.length∧g≠k:=by
 obtain⟨i,hi,e2⟩:=List.exists_of_findSome?_eq_some e
 have hi':=List.mem_range.1 hi
 rw[AD hi'] at e2
 exact spareM_in h (List.getElem_mem hi') e2
end
end Go.Sx
