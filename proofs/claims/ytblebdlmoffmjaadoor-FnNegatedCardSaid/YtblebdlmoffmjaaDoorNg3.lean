/- Parts. -/
import Derived.Test.YtblebdlmoffmjaaDoorNg2
import Derived.Test.YtblebdlmoffmjaaDoorProg
import Derived.KernelRfl
set_option linter.unusedVariables false
set_option linter.unusedSimpArgs false
set_option maxRecDepth 100000
namespace Go.Proofs.YtblebdlmoffmjaaDoor
open Go Go.Sx
open Go.Proofs.Tryd Go.Proofs.YtblebdlmoffmjaaDoor.Tryd IntKind
variable {W w : World} {G : GH} {H : List Itm}
theorem T86 :SlT prog 86 60 1 4 (.int .u32 0):=⟨underlying86,Tryd.t60,by kernel_rfl,by kernel_rfl,by kernel_rfl,by kernel_rfl⟩
theorem T77 :SlT prog 77 60 1 4 (.int .u32 0):=⟨underlying77,Tryd.t60,by kernel_rfl,by kernel_rfl,by kernel_rfl,by kernel_rfl⟩
theorem Pl60 :BH prog 60:=isAgg60
theorem T87 :SlT prog 87 4 1 1 (.bool false):=⟨underlying87,Tryd.t4,by kernel_rfl,by kernel_rfl,by kernel_rfl,by kernel_rfl⟩
theorem CR :SlT prog 106 3 1 8 (iv 0):=⟨underlying106,Tryd.t3,by kernel_rfl,by kernel_rfl,by kernel_rfl,by kernel_rfl⟩
theorem Wk.X {b0:Nat}{aa:Value}{ab:LI}{ac ad x1 x2:Int}(m:Mem W G w (ib b0 93 [aa,(iv ac),(iv ad)]::H))(ae:RSl (RI .u8) G aa ab){y:Int×(LI)×Int×Int}(hd:D.X ab ac ad x1 x2=some y):
  Calls prog 25 #[(pb b0),(iv x1),(iv x2)] w (Res W G H (λG' Ho v=>∃r0:Value,Ho=[ib b0 93 [r0,(iv y.2.2.1),(iv y.2.2.2)]]∧v=(iv y.1)∧RSl (RI .u8) G' r0 y.2.1)):=by
 refine Ax (args:=[(pb b0),(iv x1),(iv x2)]) (N:=15) [.tmp 6] func25 Z Z (lb Z) Z λa f=> ?_
 unfold D.X at hd
 refine Af ?_
 refine Ac f Z λa f=>AD ?_
 refine Ab f Z λa f=>Ab f Z λa f=>Ab f Z λa f=>Ab f Z λa f=>Aj f Z Z Bw λa f=>Aj f Z Z AA λa f=> ?_
 have⟨af,ag,hd⟩:=bind_some hd
 refine Ay f Z call22 (Wk.a m ae ag) λah ai aj w ak m al a f=> ?_
 obtain⟨am,rfl,rfl,an⟩:=al
 refine Aj f Z Z AA λa f=>Ac f Z λa f=>Aa ?_
 refine Ao ?_
 obtain rfl:=sj hd
 exact⟨[(iv (i64.wrap (x1+af.1)))],f.g Z,f.d,_,[ib b0 93 [am,(iv af.2.2.1),(iv af.2.2.2)]],ak,m,_,Z,Z,an⟩
theorem Wk.x0 {b0:Nat}{aa:Value}{ab:LI}{ac ad:Int}(m:Mem W G w (ib b0 93 [aa,(iv ac),(iv ad)]::H))(ae:RSl (RI .u8) G aa ab){y:((List (Int×Int×Int)))×(LI)×Int×Int}(hd:D.x0 ab ac ad=some y):
  Calls prog 21 #[(pb b0)] w (Res W G H (λG' Ho v=>∃r0:Value,∃i0:Itm,∃r2:Value,Ho=[i0,ib b0 93 [r2,(iv y.2.2.1),(iv y.2.2.2)]]∧v=(.agg #[r0])∧OwR P3 72 G' i0 r0 y.1∧RSl (RI .u8) G' r2 y.2.1)):=by
 refine Ax (args:=[(pb b0)]) (N:=59) [.cell 2 29] func21 Z Z (lb Z) Z λa f=> ?_
 unfold D.x0 at hd
 refine Af ?_
 refine AR (cs:=[sn]) zeroValue29 m f Z Z λaf w a m f=>AD ?_
 refine Ab f Z λa f=> ?_
 have m:Mem W G w (ib b0 93 [aa,(iv ac),(iv ad)]::ib af 29 [sn]::H):=m.fr 1
 have⟨ag,ah,hd⟩:=bind_some hd
 refine Ay f Z call53 (Wk.g m ae ah) λai aj ak w al m am a f=> ?_
 obtain⟨an,ao,ap,rfl,rfl,aq,ar⟩:=am
 refine AR (cs:=[sn]) zeroValue29 m f Z Z λau w a m f=>Am 0 0 (ds:=[an]) m sizeOf29 f Z Z Z (Ah (OwR.one1 1 m aq Z) Ap) Z (lb Z) Z λw m=>Aa (Ak (Af ?_))
 refine Ab f Z λa f=> ?_
 have m:Mem W aj w (ib b0 93 [ap,(iv ag.2.2.1),(iv ag.2.2.2)]::ib au 29 [an]::ao::ib af 29 [sn]::H):=m.fr 2
 have⟨av,aw,hd⟩:=bind_some hd
 refine Ay f Z call24 (Wk.d m ar aw) λax ay az w aA m aB a f=> ?_
 obtain⟨aC,rfl,rfl,aD⟩:=aB
 have aq:=OwR.mono trivial aA aq
 refine Aa ?_
 rcases Ae hd with⟨aE,hd⟩|⟨aE,hd⟩
 ·refine Al f Z aE ?_
  refine Af ?_
  refine Ab f Z λa f=>Az underlying29 Z sizeOf27 f Z λa f=>An 1 0 m BG f Z Z Z Z λa f=>l_ownR_len 2 m aq Z underlying27 f Z Z λa f=> ?_
  have⟨aF,aG,hd⟩:=bind_some hd
  refine Ay f Z call22 (Wk.a m aD aG) λaH aI aJ w aK m aL a f=> ?_
  obtain⟨aM,rfl,rfl,aN⟩:=aL
  have aq:=OwR.mono trivial aK aq
  refine Ac f Z λa f=>AD ?_
  refine Ab f Z λa f=> ?_
  have⟨aO,aP,hd⟩:=bind_some hd
  refine Ay f Z call22 (Wk.a m aN aP) λaQ aR aS w aT m aU a f=> ?_
  obtain⟨aV,rfl,rfl,aW⟩:=aU
  have aq:=OwR.mono trivial aT aq
  refine Aa (As (Af ?_))
  refine Aj f Z Z AH λa f=>Ac f Z λa f=>Aa ?_
  rcases Ae hd with⟨aX,hd⟩|⟨aX,hd⟩
  ·refine Al f Z aX ?_
   refine B6 [ib b0 93 [aV,(iv aO.2.2.1),(iv aO.2.2.2)]] (ib au 29 [an]::ao::ib af 29 [sn]::H) 5 AQ (by kernel_rfl) m ?_
   refine A5 0 5 underlying29 Z sizeOf27 Z f Z λa f=>Be 1 5 0 BG Z Z Z f Z λa f=>AE 2 5 Z f Z λa f=>AE 3 5 Z f Z λa f=>Bk 4 Z λaY w aZ m a0 a0=> ?_
   have aW:=rd1 aZ aW
   have aq:=OwR.mono trivial aZ aq
   have⟨a1,a2,hd⟩:=bind_some hd
   refine Ay f Z call25 (Wk.X m aW a2) λa3 a4 a5 w a6 m a7 a f=> ?_
   obtain⟨a8,rfl,rfl,a9⟩:=a7
   have aq:=OwR.mono trivial a6 aq
   refine Aa ?_
   refine a0 a4 [ib b0 93 [a8,(iv a1.2.2.1),(iv a1.2.2.2)]] _ _ a6 m ?_
   refine A2 λba w bb m=> ?_
   have a9:=rd1 bb a9
   have aq:=OwR.mono trivial bb aq
   have⟨bc,bd,hd⟩:=bind_some hd
   refine D3 2 m aq Z T27 f Z Z Z bd λbe a bf f=>Dm underlying72 Z sizeOf2 (by decide) f Z Z bf λbg a bh f=>Do (E:=P3) (y':=(a1.1,bc.2.1,bc.2.2)) [(iv a1.1)] 2 m aq Z sizeOf2 f Z Z bh bd Z (Ah Z Ap) (lb Z) Z λbi w m bj=>AD ?_
   refine Ar 1 0 (ds:=[an]) m Bd f Z Z Z Z Z λa f=>Am 3 0 (ds:=[an]) m sizeOf29 f Z Z Z (Ah (OwR.one1 2 m bj Z) Ap) Z (lb Z) Z λw m=>Aa ?_
   refine Ao ?_
   have bk:=A9 (P:=prog) 3 m Bd f (s:=2) rfl rfl rfl
   have m:=m.fr 2
   have m:=m.eraseAt 3
   have m:=m.eraseAt 2
   obtain rfl:=sj hd
   exact⟨[(.agg #[an])],⟨bk,trivial⟩,f.d,_,[bi,ib b0 93 [a8,(iv a1.2.2.1),(iv a1.2.2.2)]],(gt al (gt aA (gt aK (gt aT (gt aZ (gt a6 bb)))))),m,_,_,_,Z,Z,bj,a9⟩
  ·refine Ag f Z aX ?_
   refine Af ?_
   refine Aj f Z Z AH λa f=>Ac f Z λa f=>Aa ?_
   rcases Ae hd with⟨bl,hd⟩|⟨bl,hd⟩
   ·refine Al f Z bl ?_
    refine B6 [ib b0 93 [aV,(iv aO.2.2.1),(iv aO.2.2.2)]] (ib au 29 [an]::ao::ib af 29 [sn]::H) 5 AQ (by kernel_rfl) m ?_
    refine A5 0 5 underlying29 Z sizeOf27 Z f Z λa f=>Be 1 5 0 BG Z Z Z f Z λa f=>AE 2 5 Z f Z λa f=>AE 3 5 Z f Z λa f=>Bk 4 Z λbm w bn m bo bo=> ?_
    have aW:=rd1 bn aW
    have aq:=OwR.mono trivial bn aq
    have⟨bp,bq,hd⟩:=bind_some hd
    refine Ay f Z call54 (Wk.t m aW bq) λbr bs bt w bu m bv a f=> ?_
    obtain⟨bw,rfl,rfl,bx⟩:=bv
    have aq:=OwR.mono trivial bu aq
    refine Aa ?_
    refine bo bs [ib b0 93 [bw,(iv bp.2.2.1),(iv bp.2.2.2)]] _ _ bu m ?_
    refine A2 λbz w bA m=> ?_
    have bx:=rd1 bA bx
    have aq:=OwR.mono trivial bA aq
    have⟨bB,bC,hd⟩:=bind_some hd
    refine D3 2 m aq Z T27 f Z Z Z bC λbD a bE f=>Dm underlying72 Z sizeOf2 (by decide) f Z Z bE λbF a bG f=>Do (E:=P3) (y':=(bB.1,bp.1,bB.2.2)) [(iv bp.1)] 2 m aq Z sizeOf2 f Z Z bG bC Z (Ah Z Ap) (lb Z) Z λbH w m bI=>AD ?_
    refine Ar 1 0 (ds:=[an]) m Bd f Z Z Z Z Z λa f=>Am 3 0 (ds:=[an]) m sizeOf29 f Z Z Z (Ah (OwR.one1 2 m bI Z) Ap) Z (lb Z) Z λw m=>Aa ?_
    refine Ao ?_
    have bJ:=A9 (P:=prog) 3 m Bd f (s:=2) rfl rfl rfl
    have m:=m.fr 2
    have m:=m.eraseAt 3
    have m:Mem W bz w (bH::ib b0 93 [bw,(iv bp.2.2.1),(iv bp.2.2.2)]::H):=m.eraseAt 2
    obtain rfl:=sj hd
    exact⟨[(.agg #[an])],⟨bJ,trivial⟩,f.d,_,[bH,ib b0 93 [bw,(iv bp.2.2.1),(iv bp.2.2.2)]],(gt al (gt aA (gt aK (gt aT (gt bn (gt bu bA)))))),m,_,_,_,Z,Z,bI,bx⟩
   ·refine Ag f Z bl ?_
    refine Af ?_
    refine Aj f Z Z AH λa f=>Ac f Z λa f=>Aa ?_
    rcases Ae hd with⟨bK,hd⟩|⟨bK,hd⟩
    ·refine Al f Z bK ?_
     refine B6 [ib b0 93 [aV,(iv aO.2.2.1),(iv aO.2.2.2)]] (ib au 29 [an]::ao::ib af 29 [sn]::H) 5 AQ (by kernel_rfl) m ?_
     refine A5 0 5 underlying29 Z sizeOf27 Z f Z λa f=>Be 1 5 0 BG Z Z Z f Z λa f=>AE 2 5 Z f Z λa f=>AE 3 5 Z f Z λa f=>Bk 4 Z λbL w bM m bN bN=> ?_
     have aW:=rd1 bM aW
     have aq:=OwR.mono trivial bM aq
     have⟨bO,bP,hd⟩:=bind_some hd
     refine Ay f Z call54 (Wk.t m aW bP) λbQ bR bS w bT m bU a f=> ?_
     obtain⟨bV,rfl,rfl,bW⟩:=bU
     have aq:=OwR.mono trivial bT aq
     refine Aa ?_
     refine bN bR [ib b0 93 [bV,(iv bO.2.2.1),(iv bO.2.2.2)]] _ _ bT m ?_
     refine A2 λbX w bY m=> ?_
     have bW:=rd1 bY bW
     have aq:=OwR.mono trivial bY aq
     have⟨bZ,b1,hd⟩:=bind_some hd
     refine D3 2 m aq Z T27 f Z Z Z b1 λb2 a b3 f=>Dm underlying72 Z sizeOf2 (by decide) f Z Z b3 λb4 a b5 f=>Do (E:=P3) (y':=(bZ.1,bZ.2.1,bO.1)) [(iv bO.1)] 2 m aq Z sizeOf2 f Z Z b5 b1 Z (Ah Z Ap) (lb Z) Z λb6 w m b7=>AD ?_
     refine Ar 1 0 (ds:=[an]) m Bd f Z Z Z Z Z λa f=>Am 3 0 (ds:=[an]) m sizeOf29 f Z Z Z (Ah (OwR.one1 2 m b7 Z) Ap) Z (lb Z) Z λw m=>Aa ?_
     refine Ao ?_
     have b8:=A9 (P:=prog) 3 m Bd f (s:=2) rfl rfl rfl
     have m:=m.fr 2
     have m:=m.eraseAt 3
     have m:Mem W bX w (b6::ib b0 93 [bV,(iv bO.2.2.1),(iv bO.2.2.2)]::H):=m.eraseAt 2
     obtain rfl:=sj hd
     exact⟨[(.agg #[an])],⟨b8,trivial⟩,f.d,_,[b6,ib b0 93 [bV,(iv bO.2.2.1),(iv bO.2.2.2)]],(gt al (gt aA (gt aK (gt aT (gt bM (gt bT bY)))))),m,_,_,_,Z,Z,b7,bW⟩
    ·refine Ag f Z bK ?_
     refine Af ?_
     refine Aj f Z Z AH λa f=>Ac f Z λa f=>Aa ?_
     rcases Ae hd with⟨b9,hd⟩|⟨b9,hd⟩
     ·refine Al f Z b9 ?_
      have⟨ca,cb,hd⟩:=bind_some hd
      refine AT (λa w=>∃cc:List (Int×Int×Int),∃cd:LI,∃ce:Int,∃cf:Int,(cc,cd,ce,cf)=ca∧∃(cg:GH) (ch:Value) (ci:Itm) (cj:Value),GLe aR cg∧Fr a 59 [(2,(pb af)),(3,(pb au))]∧Mem W cg w (ib af 29 [sn]::ib au 29 [ch]::ib b0 93 [cj,(iv ce),(iv cf)]::ci::H)∧OwR P3 72 cg ci ch cc∧RSl (RI .u8) cg cj cd) ?_ ?_
      ·refine As ?_
       have m:=m.fr 3
       have m:Mem W aR w (ib b0 93 [aV,(iv aO.2.2.1),(iv aO.2.2.2)]::ib af 29 [sn]::ib au 29 [an]::ao::H):=m.fr 1
       refine A1 (λck a w=>∃cl:LI,∃cm:Int,∃cn:Int,∃co:List (Int×Int×Int),(cl,cm,cn,co)=ck∧∃(cp:GH) (cq:Value) (cr:Value) (ct:Itm),GLe aR cp∧Fr a 59 [(0,(pb b0)),(2,(pb af)),(3,(pb au))]∧Mem W cp w (ib b0 93 [cq,(iv cm),(iv cn)]::ib af 29 [sn]::ib au 29 [cr]::ct::H)∧RSl (RI .u8) cp cq cl∧OwR P3 72 cp ct cr co) cb ⟨_,_,_,_,Z,_,aV,an,ao,gr,f.k Z,m,aW,aq⟩ ?_
       clear cb f m
       rintro ck cu cv cw a w ⟨cl,cm,cn,co,rfl,cp,cq,cr,ct,cx,f,m,cy,cz⟩
       refine Ak (Ak ?_)
       refine B6 [ib b0 93 [cq,(iv cm),(iv cn)]] (ib af 29 [sn]::ib au 29 [cr]::ct::H) 7 AQ (by kernel_rfl) m ?_
       refine A5 0 7 underlying29 Z sizeOf27 Z f Z λa f=>Be 1 7 1 BG Z Z Z f Z λa f=>q_ownR_len (i:=2) (listed':= #[true,true,true,false,false,false,false]) 7 3 m cz Z underlying27 Z (by kernel_rfl) Z f Z Z Z λa f=>AE 3 7 Z f Z λa f=>Bk 4 Z λcA w cB m cC cC=> ?_
       have cy:=rd1 cB cy
       have cz:=OwR.mono trivial cB cz
       have⟨cD,cE,cv⟩:=bind_some cv
       refine Ay f Z call22 (Wk.a m cy cE) λcF cG cH w cI m cJ a f=> ?_
       obtain⟨cK,rfl,rfl,cL⟩:=cJ
       have cz:=OwR.mono trivial cI cz
       refine Aa ?_
       refine cC cG [ib b0 93 [cK,(iv cD.2.2.1),(iv cD.2.2.2)]] _ _ cI m ?_
       refine q_p 5 7 Z f (λ_=>Bo (f.e Z) (f.e Z) AA) λa f=>q_p 6 7 Z f (λ_=>Bo (f.e Z) (f.e Z) A3) λa f=>A2 λcM w cN m=> ?_
       have cL:=rd1 cN cL
       have cz:=OwR.mono trivial cN cz
       refine Aa ?_
       rcases Ae cv with⟨cO,cv⟩|⟨cO,cv⟩
       ·refine Al f Z cO ?_
        refine Aq ?_
        refine As (Ai ?_)
        refine Az underlying29 Z sizeOf27 f Z λa f=>An 2 0 m BG f Z Z Z Z λa f=> ?_
        have cP:∀w,(Instr.build 72 #[(0,(iv 2))]).run prog w= .ok (.agg #[(iv 2),(iv 0),(iv 0)]) w:=by intro w;simp[Instr.build,Instr.fill,A7,AX,AN,AS,AG,A6]
        refine Bn f Z Z cP λa f=>Cd (E:=P3) (y:=(2,0,0)) (cs:=[(iv 2),(iv 0),(iv 0)]) m T27 f Z Z Z (lb Z) λcQ cR w a m cS f=> ?_
        have⟨cT,cU,cv⟩:=bind_some cv
        refine BZ (E:=P3) (z:= .agg #[(iv 0),(iv 0),(iv 0)]) 4 0 m cz Z cS Z (by simp) T27 Z (by decide) f Z Z Z cU λcV cW w a m cX f=>Az underlying29 Z sizeOf27 f Z λa f=>Am 3 0 (ds:=[cW]) m sizeOf27 f Z Z (OwR.cells 4 m cX Z) (Ah (OwR.one1 4 m cX Z) Ap) Z (lb Z) Z λw m=>Aa ?_
        have m:=m.fr 4
        have m:=m.fr 4
        have m:Mem W cM w (ib af 29 [sn]::ib au 29 [cW]::cV::cQ::ib b0 93 [cK,(iv cD.2.2.1),(iv cD.2.2.2)]::H):=m.fr 4
        have m:=m.fr 4
        have m:Mem W cM w (ib b0 93 [cK,(iv cD.2.2.1),(iv cD.2.2.2)]::ib af 29 [sn]::ib au 29 [cW]::cV::H):=m.eraseAt 4
        obtain rfl:=sj cv
        exact⟨_,Z,_,_,_,_,Z,_,cK,cW,cV,(gt cx (gt cB (gt cI cN))),f.k Z,m,cL,cX⟩
       ·refine Ag f Z cO ?_
        refine AZ Z ?_
        have m:=m.fr 2
        have m:Mem W cM w (ib af 29 [sn]::ib au 29 [cr]::ib b0 93 [cK,(iv cD.2.2.1),(iv cD.2.2.2)]::ct::H):=m.fr 2
        obtain rfl:=sj cv
        obtain rfl:=cw _ rfl
        exact⟨_,_,_,_,Z,_,cr,ct,cK,(gt cx (gt cB (gt cI cN))),f.k Z,m,cz,cL⟩
      ·rintro a w ⟨cc,cd,ce,cf,rfl,cg,ch,ci,cj,cY,f,m,cZ,c0⟩
       refine Af ?_
       refine Ar 1 0 (ds:=[ch]) m Bd f Z Z Z Z Z λa f=>Am 0 0 (ds:=[ch]) m sizeOf29 f Z Z Z (Ah (OwR.one1 3 m cZ Z) Ap) Z (lb Z) Z λw m=>Aa ?_
       refine Ao ?_
       have c1:=A9 (P:=prog) 0 m Bd f (s:=2) rfl rfl rfl
       have m:=m.fr 2
       have m:=m.fr 3
       have m:Mem W cg w (ci::ib b0 93 [cj,(iv ce),(iv cf)]::ib af 29 [ch]::H):=m.eraseAt 3
       have m:=m.eraseAt 2
       obtain rfl:=sj hd
       exact⟨[(.agg #[ch])],⟨c1,trivial⟩,f.d,_,[ci,ib b0 93 [cj,(iv ce),(iv cf)]],(gt al (gt aA (gt aK (gt aT cY)))),m,_,_,_,Z,Z,cZ,c0⟩
     ·refine Ag f Z b9 ?_
      refine Aq ?_
      refine Af ?_
      refine Ar 1 0 (ds:=[an]) m Bd f Z Z Z Z Z λa f=>Am 3 0 (ds:=[an]) m sizeOf29 f Z Z Z (Ah (OwR.one1 2 m aq Z) Ap) Z (lb Z) Z λw m=>Aa ?_
      refine Ao ?_
      have c2:=A9 (P:=prog) 3 m Bd f (s:=2) rfl rfl rfl
      have m:=m.fr 2
      have m:=m.eraseAt 3
      have m:Mem W aR w (ao::ib b0 93 [aV,(iv aO.2.2.1),(iv aO.2.2.2)]::H):=m.eraseAt 2
      obtain rfl:=sj hd
      exact⟨[(.agg #[an])],⟨c2,trivial⟩,f.d,_,[ao,ib b0 93 [aV,(iv aO.2.2.1),(iv aO.2.2.2)]],(gt al (gt aA (gt aK aT))),m,_,_,_,Z,Z,aq,aW⟩
 ·refine Ag f Z aE ?_
  refine Aq ?_
  refine Af ?_
  refine Ar 1 0 (ds:=[an]) m Bd f Z Z Z Z Z λa f=>Am 3 0 (ds:=[an]) m sizeOf29 f Z Z Z (Ah (OwR.one1 2 m aq Z) Ap) Z (lb Z) Z λw m=>Aa ?_
  refine Ao ?_
  have c3:=A9 (P:=prog) 3 m Bd f (s:=2) rfl rfl rfl
  have m:=m.fr 2
  have m:=m.eraseAt 3
  have m:=m.eraseAt 2
  obtain rfl:=sj hd
  exact⟨[(.agg #[an])],⟨c3,trivial⟩,f.d,_,[ao,ib b0 93 [aC,(iv av.2.2.1),(iv av.2.2.2)]],(gt al aA),m,_,_,_,Z,Z,aq,aD⟩
theorem Wk.h0 {b0:Nat}{aa ab:Value}{ac:LI}{ad ae:Int}{af:LL}(m:Mem W G w (ib b0 93 [aa,(iv ad),(iv ae)]::H))(ag:RSl (RI .u8) G aa ac)(ah:R2 G ab af){y:(LI)×(LI)×Int×Int}(hd:D.h0 ac ad ae af=some y):
  Calls prog 23 #[(pb b0),(.agg #[ab])] w (Res W G H (λG' Ho v=>∃r0:Value,∃i0:Itm,∃r2:Value,Ho=[i0,ib b0 93 [r2,(iv y.2.2.1),(iv y.2.2.2)]]∧r0=v∧Ow R0 2 G' i0 r0 y.1∧RSl (RI .u8) G' r2 y.2.1)):=by
 refine Ax (args:=[(pb b0),(.agg #[ab])]) (N:=32) [.tmp 4] func23 Z Z (lb Z) Z λa f=> ?_
 unfold D.h0 at hd
 refine Af ?_
 refine A4 (cs:=[ab]) m f Z Z Z λai w a m f=>Ac f Z λa f=>AD ?_
 refine AI (R:=R0) (xs:=([]:LI)) (RI.one _) m T30 f Z Z Z (by decide) (All2.nil _) λaj ak w a m al f=>Ac f Z λa f=>Aa (Ak (Af ?_))
 refine Ac f Z λa f=>Aa ?_
 have⟨am,an,hd⟩:=bind_some hd
 refine AT (λa w=>∃ao:LI,∃ap:LI,∃aq:Int,∃ar:Int,(ao,ap,aq,ar)=am∧∃(au:GH) (av:Value) (aw:Itm) (ax:Value),GLe G au∧Fr a 32 [(0,(pb b0)),(3,(pb ai)),(5,av)]∧Mem W au w (ib b0 93 [ax,(iv aq),(iv ar)]::ib ai 26 [ab]::aw::H)∧Ow R0 2 au aw av ao∧RSl (RI .u8) au ax ap) ?_ ?_
 ·refine As ?_
  have m:=m.fr 1
  have m:Mem W G w (ib b0 93 [aa,(iv ad),(iv ae)]::ib ai 26 [ab]::aj::H):=m.fr 2
  refine A1 (λay a w=>∃az:LI,∃aA:Int,∃aB:LI,∃aC:Int,∃aD:Int,(az,aA,aB,aC,aD)=ay∧∃(aE:GH) (aF:Value) (aG:Itm) (aH:Value),GLe G aE∧Fr a 32 [(0,(pb b0)),(3,(pb ai)),(5,aF),(6,(iv aA))]∧Mem W aE w (ib b0 93 [aH,(iv aC),(iv aD)]::ib ai 26 [ab]::aG::H)∧Ow R0 2 aE aG aF az∧RSl (RI .u8) aE aH aB) an ⟨_,_,_,_,_,Z,_,ak,aj,aa,gr,f.k Z,m,al,ag⟩ ?_
  clear an f m
  rintro ay aI aJ aK a w ⟨az,aA,aB,aC,aD,rfl,aE,aF,aG,aH,aL,f,m,aM,aN⟩
  have ah:=rd2 aL ah
  refine Ak (Af ?_)
  refine Ab f Z λa f=>Az underlying26 Z sizeOf24 f Z λa f=>An 1 0 m Bx f Z Z Z Z λa f=>Bc underlying24 f Z Z ah λa f=>Aj f Z Z A3 λa f=>Aa ?_
  rcases Ae aJ with⟨aO,aJ⟩|⟨aO,aJ⟩
  ·refine Al f Z aO ?_
   refine Aq ?_
   refine Ak (As (Af ?_))
   refine Ab f Z λa f=> ?_
   have⟨aP,aQ,aJ⟩:=bind_some aJ
   refine Ay f Z call24 (Wk.d m aN aQ) λaR aS aT w aU m aV a f=> ?_
   obtain⟨aW,rfl,rfl,aX⟩:=aV
   have aM:=od1 aU aM
   refine Aa ?_
   rcases Ae aJ with⟨aY,aJ⟩|⟨aY,aJ⟩
   ·refine Al f Z aY ?_
    refine Ai ?_
    refine Ab f Z λa f=>Ab f Z λa f=>AI (R:=R0) (xs:=([aA]:LI)) (RI.one _) m T30 f Z Z Z (by decide) (All2.cons Z (All2.nil _)) λaZ a0 w a m a1 f=> ?_
    have⟨a2,a3,aJ⟩:=bind_some aJ
    refine AP (RI.one _) 3 m aM Z T30 Z (by decide) f Z Z Z (Ow.src (j:=0) a1 m Z) a3 λa4 a5 w a m a6 f=>Ac f Z λa f=>Aa (Ai ?_)
    refine Ab f Z λa f=>Aj f Z Z AA λa f=>Ac f Z λa f=>Aa ?_
    have m:=m.fr 3
    have m:=m.fr 3
    have m:Mem W aS w (ib b0 93 [aW,(iv aP.2.2.1),(iv aP.2.2.2)]::ib ai 26 [ab]::a4::aZ::H):=m.fr 3
    have m:Mem W aS w (ib b0 93 [aW,(iv aP.2.2.1),(iv aP.2.2.2)]::ib ai 26 [ab]::a4::H):=m.eraseAt 3
    obtain rfl:=sj aJ
    exact⟨_,Z,_,_,_,_,_,Z,_,a5,a4,aW,(gt aL aU),f.k Z,m,a6,aX⟩
   ·refine Ag f Z aY ?_
    refine Aq ?_
    refine Ai ?_
    refine Ab f Z λa f=>Aj f Z Z AA λa f=>Ac f Z λa f=>Aa ?_
    obtain rfl:=sj aJ
    exact⟨_,Z,_,_,_,_,_,Z,_,aF,aG,aW,(gt aL aU),f.k Z,m,aM,aX⟩
  ·refine Ag f Z aO ?_
   refine AZ Z ?_
   obtain rfl:=sj aJ
   obtain rfl:=aK _ rfl
   exact⟨_,_,_,_,Z,_,aF,aG,aH,aL,f.k Z,m,aM,aN⟩
 ·rintro a w ⟨ao,ap,aq,ar,rfl,au,av,aw,ax,a7,f,m,a8,a9⟩
  have ah:=rd2 a7 ah
  refine Ak (Af ?_)
  refine Ab f Z λa f=> ?_
  have⟨ba,bb,hd⟩:=bind_some hd
  refine Ay f Z call24 (Wk.d m a9 bb) λbc bd be w bf m bg a f=> ?_
  obtain⟨bh,rfl,rfl,bi⟩:=bg
  have ah:=rd2 bf ah
  have a8:=od1 bf a8
  refine Aa ?_
  rcases Ae hd with⟨bj,hd⟩|⟨bj,hd⟩
  ·refine Al f Z bj ?_
   refine Ai ?_
   refine Ab f Z λa f=>Ab f Z λa f=>Az underlying26 Z sizeOf24 f Z λa f=>An 1 0 m Bx f Z Z Z Z λa f=>Bc underlying24 f Z Z ah λa f=> ?_
   have⟨bk,bl,hd⟩:=bind_some hd
   refine Ay f Z call54 (Wk.t m bi bl) λbm bn bo w bp m bq a f=> ?_
   obtain⟨br,rfl,rfl,bs⟩:=bq
   have a8:=od1 bp a8
   refine AI (R:=R0) (xs:=([bk.1]:LI)) (RI.one _) m T30 f Z Z Z (by decide) (All2.cons Z (All2.nil _)) λbt bu w a m bv f=> ?_
   have⟨bw,bx,hd⟩:=bind_some hd
   refine AP (RI.one _) 3 m a8 Z T30 Z (by decide) f Z Z Z (Ow.src (j:=0) bv m Z) bx λbz bA w a m bB f=>Ac f Z λa f=>AD ?_
   refine Ab f Z λa f=>Ac f Z λa f=>Aa ?_
   refine Ao ?_
   have m:=m.fr 1
   have m:=m.fr 3
   have m:Mem W bn w (bz::ib b0 93 [br,(iv bk.2.2.1),(iv bk.2.2.2)]::bt::H):=m.eraseAt 3
   have m:Mem W bn w (bz::ib b0 93 [br,(iv bk.2.2.1),(iv bk.2.2.2)]::H):=m.eraseAt 2
   obtain rfl:=sj hd
   exact⟨[bA],f.g Z,f.d,_,[bz,ib b0 93 [br,(iv bk.2.2.1),(iv bk.2.2.2)]],(gt a7 (gt bf bp)),m,_,_,_,Z,Z,bB,bs⟩
  ·refine Ag f Z bj ?_
   refine Aq ?_
   refine Af ?_
   refine Ab f Z λa f=>Ac f Z λa f=>Aa ?_
   refine Ao ?_
   have m:=m.fr 2
   have m:Mem W bd w (aw::ib b0 93 [bh,(iv ba.2.2.1),(iv ba.2.2.2)]::H):=m.eraseAt 2
   obtain rfl:=sj hd
   exact⟨[av],f.g Z,f.d,_,[aw,ib b0 93 [bh,(iv ba.2.2.1),(iv ba.2.2.2)]],(gt a7 bf),m,_,_,_,Z,Z,a8,bi⟩
theorem Wk.t0 {v0:Value}{x0:LI}(m:Mem W G w (H))(h0:RSl (RI .u8) G v0 x0){y:(LL)×((List (Int×Int×Int)))×(LI)×(LL)}(hd:D.t0 x0=some y):
  Calls prog 5 #[v0] w (Res W G H (λG' Ho v=>∃r0:Value,∃r1:Value,∃i1:Itm,∃r3:Value,∃i3:Itm,∃r5:Value,Ho=[i1,i3]∧v= .tuple #[(.agg #[r0]),(.agg #[r1]),r3,r5]∧R2 G' r0 y.1∧OwR P3 72 G' i1 r1 y.2.1∧Ow R0 2 G' i3 r3 y.2.2.1∧R2 G' r5 y.2.2.2)):=by
 refine Ax (args:=[v0]) (N:=57) [.cell 2 26,.cell 3 29,.tmp 4,.tmp 5] func5 Z Z (lb Z) Z λa f=> ?_
 unfold D.t0 at hd
 refine Af ?_
 refine AR (cs:=[sn]) zeroValue26 m f Z Z λaa w a m f=>AR (cs:=[sn]) zeroValue29 m f Z Z λab w a m f=>Ac f Z λa f=>Ac f Z λa f=>AD ?_
 refine Ab f Z λa f=> ?_
 have⟨ac,ad,hd⟩:=bind_some hd
 refine Ay f Z call19 (Wk.H0 m h0 ad) λae af ag w ah m ai a f=> ?_
 obtain⟨aj,ak,rfl,rfl,al⟩:=ai
 refine Ac f Z λa f=>AD ?_
 refine Ab f Z λa f=> ?_
 have⟨am,an,hd⟩:=bind_some hd
 refine Ay f Z call20 (Wk.P0 m al an) λao ap aq w ar m au a f=> ?_
 obtain⟨av,aw,ax,rfl,rfl,ay,az⟩:=au
 refine AR (cs:=[sn]) zeroValue26 m f Z Z λaA w a m f=>Am 0 0 (ds:=[av]) m sizeOf26 f Z Z Z (Ah (Ow2.one1 1 m ay Z) Ap) Z (lb Z) Z λw m=>AD ?_
 refine Ab f Z λa f=> ?_
 have m:Mem W ap w (ib ak 93 [ax,(iv am.2.2.1),(iv am.2.2.2)]::ib aA 26 [av]::aw::ib ab 29 [sn]::ib aa 26 [sn]::H):=m.fr 2
 have⟨aB,aC,hd⟩:=bind_some hd
 refine Ay f Z call21 (Wk.x0 m az aC) λaD aE aF w aG m aH a f=> ?_
 obtain⟨aI,aJ,aK,rfl,rfl,aL,aM⟩:=aH
 have ay:=od2 aG ay
 refine AR (cs:=[sn]) zeroValue29 m f Z Z λaN w a m f=>Am 0 0 (ds:=[aI]) m sizeOf29 f Z Z Z (Ah (OwR.one1 1 m aL Z) Ap) Z (lb Z) Z λw m=>AD ?_
 refine Az underlying26 Z sizeOf24 f Z λa f=>An 3 0 m Bx f Z Z Z Z λa f=>l_own2_len 4 m ay Z underlying24 f Z Z λa f=>Ac f Z λa f=>AD ?_
 refine Ab f Z λa f=>Ab f Z λa f=> ?_
 have m:Mem W aE w (ib ak 93 [aK,(iv aB.2.2.1),(iv aB.2.2.2)]::ib aN 29 [aI]::aJ::ib aA 26 [av]::aw::ib ab 29 [sn]::ib aa 26 [sn]::H):=m.fr 2
 have⟨aO,aP,hd⟩:=bind_some hd
 refine Ay f Z call22 (Wk.a m aM aP) λaQ aR aS w aT m aU a f=> ?_
 obtain⟨aV,rfl,rfl,aW⟩:=aU
 have aL:=OwR.mono trivial aT aL
 have ay:=od2 aT ay
 refine Ab f Z λa f=>Ab f Z λa f=> ?_
 have⟨aX,aY,hd⟩:=bind_some hd
 refine Ay f Z call22 (Wk.a m aW aY) λaZ a0 a1 w a2 m a3 a f=> ?_
 obtain⟨a4,rfl,rfl,a5⟩:=a3
 have aL:=OwR.mono trivial a2 aL
 have ay:=od2 a2 ay
 refine Ab f Z λa f=>Ab f Z λa f=> ?_
 have⟨a6,a7,hd⟩:=bind_some hd
 refine Ay f Z call22 (Wk.a m a5 a7) λa8 a9 ba w bb m bc a f=> ?_
 obtain⟨bd,rfl,rfl,be⟩:=bc
 have aL:=OwR.mono trivial bb aL
 have ay:=od2 bb ay
 refine AI (R:=R0) (xs:=([aO.1,aX.1,a6.1]:LI)) (RI.one _) m T30 f Z Z Z (by decide) (All2.cons Z (All2.cons Z (All2.cons Z (All2.nil _)))) λbf bg w a m bh f=>Ac f Z λa f=>Aa (Ak ?_)
 have m:Mem W a9 w (aw::bf::ib ak 93 [bd,(iv a6.2.2.1),(iv a6.2.2.2)]::ib aN 29 [aI]::aJ::ib aA 26 [av]::ib ab 29 [sn]::ib aa 26 [sn]::H):=m.fr 5
 obtain⟨bi,bj,m,bk⟩:=Ow2.stamp (RI.mono _) ay m
 have bh:=od1 bj bh
 have be:=rd1 bj be
 have aL:=OwR.mono trivial bj aL
 have m:Mem W bi w (ib ak 93 [bd,(iv a6.2.2.1),(iv a6.2.2.2)]::bf::ib aN 29 [aI]::aJ::ib aA 26 [av]::ib ab 29 [sn]::ib aa 26 [sn]::H):=m.fr 1
 refine B6 [ib ak 93 [bd,(iv a6.2.2.1),(iv a6.2.2.2)]] (bf::ib aN 29 [aI]::aJ::ib aA 26 [av]::ib ab 29 [sn]::ib aa 26 [sn]::H) 8 AQ (by kernel_rfl) m ?_
 refine AE 0 8 Z f Z λa f=>AY (i:=1) (ds:=[av]) 8 3 AO Z Z Z Z (by kernel_rfl) Z f Z Z Z λa f=>AE 3 8 Z f Z λa f=>AY (i:=4) (ds:=[av]) 8 3 AO Z Z Z Z (by kernel_rfl) Z f Z Z Z λa f=>Bk 2 Z λbl w bm m bn bn=> ?_
 have bk:=rd2 bm bk
 have be:=rd1 bm be
 have bh:=od1 bm bh
 have aL:=OwR.mono trivial bm aL
 have⟨bo,bp,hd⟩:=bind_some hd
 refine Ay f Z call23 (Wk.h0 m be bk bp) λbq br bs w bt m bu a f=> ?_
 obtain⟨bv,bw,bx,rfl,rfl,bz,bA⟩:=bu
 have bk:=rd2 bt bk
 have bh:=od1 bt bh
 have aL:=OwR.mono trivial bt aL
 refine Aa ?_
 refine bn br [bw,ib ak 93 [bx,(iv bo.2.2.1),(iv bo.2.2.2)]] _ _ bt m ?_
 refine Bk 5 Z λbB w bC m bD bD=> ?_
 have bk:=rd2 bC bk
 have bz:=od1 bC bz
 have bA:=rd1 bC bA
 have bh:=od1 bC bh
 have aL:=OwR.mono trivial bC aL
 have m:Mem W bB w (ib ak 93 [bx,(iv bo.2.2.1),(iv bo.2.2.2)]::bw::bf::ib aN 29 [aI]::aJ::ib aA 26 [av]::ib ab 29 [sn]::ib aa 26 [sn]::H):=m.fr 1
 have⟨bE,bF,hd⟩:=bind_some hd
 refine Ay f Z call23 (Wk.h0 m bA bk bF) λbG bH bI w bJ m bK a f=> ?_
 obtain⟨bL,bM,bN,rfl,rfl,bO,bP⟩:=bK
 have bk:=rd2 bJ bk
 have bz:=od1 bJ bz
 have bh:=od1 bJ bh
 have aL:=OwR.mono trivial bJ aL
 refine Aa ?_
 refine bD bH [bM,ib ak 93 [bN,(iv bE.2.2.1),(iv bE.2.2.2)],bw] _ _ bJ m ?_
 refine Bk 6 Z λbQ w bR m bS bS=> ?_
 have bk:=rd2 bR bk
 have bO:=od1 bR bO
 have bP:=rd1 bR bP
 have bz:=od1 bR bz
 have bh:=od1 bR bh
 have aL:=OwR.mono trivial bR aL
 have m:Mem W bQ w (bw::bM::ib ak 93 [bN,(iv bE.2.2.1),(iv bE.2.2.2)]::bf::ib aN 29 [aI]::aJ::ib aA 26 [av]::ib ab 29 [sn]::ib aa 26 [sn]::H):=m.fr 2
 obtain⟨bT,bU,m,bV⟩:=Ow.stamp (RI.mono _) bz m
 have bk:=rd2 bU bk
 have bO:=od1 bU bO
 have bP:=rd1 bU bP
 have bh:=od1 bU bh
 have aL:=OwR.mono trivial bU aL
 obtain⟨bW,bX,m,bY⟩:=Ow.stamp (RI.mono _) bO m
 have bk:=rd2 bX bk
 have bV:=rd1 bX bV
 have bP:=rd1 bX bP
 have bh:=od1 bX bh
 have aL:=OwR.mono trivial bX aL
 refine AI (R:=R1) (xs:=([bo.1,bE.1]:LL)) (RSl.one _) m T24 f Z Z Z (by decide) (All2.cons bV (All2.cons bY (All2.nil _))) λbZ b0 w a m b1 f=>Aa ?_
 refine bS bW [bZ,ib ak 93 [bN,(iv bE.2.2.1),(iv bE.2.2.2)]] _ _ (gt bU bX) m ?_
 refine q_p 7 8 Z f (λ_=>Bi (f.e Z)) λa f=>A2 λb2 w b3 m=> ?_
 have bk:=rd2 b3 bk
 have b1:=Ow.mono (RSl.mono (RI.mono _)) b3 b1
 have bP:=rd1 b3 bP
 have bh:=od1 b3 bh
 have aL:=OwR.mono trivial b3 aL
 refine Aa (Ak (Af ?_))
 refine Ab f Z λa f=> ?_
 have m:Mem W b2 w (ib ak 93 [bN,(iv bE.2.2.1),(iv bE.2.2.2)]::bZ::bf::ib aN 29 [aI]::aJ::ib aA 26 [av]::ib ab 29 [sn]::ib aa 26 [sn]::H):=m.fr 1
 have⟨b4,b5,hd⟩:=bind_some hd
 refine Ay f Z call24 (Wk.d m bP b5) λb6 b7 b8 w b9 m ca a f=> ?_
 obtain⟨cb,rfl,rfl,cc⟩:=ca
 have b1:=Ow.mono (RSl.mono (RI.mono _)) b9 b1
 have bh:=od1 b9 bh
 have aL:=OwR.mono trivial b9 aL
 have bk:=rd2 b9 bk
 refine Aa ?_
 have⟨cd,ce,hd⟩:=bind_some hd
 refine AT (λa w=>∃cf:LI,cf=cd∧∃(cg:GH) (ch:Value) (ci:Itm),GLe b7 cg∧Fr a 57 [(2,(pb aa)),(3,(pb ab)),(6,(pb ak)),(7,(pb aA)),(8,(pb aN)),(10,ch),(11,b0)]∧Mem W cg w (ib aa 26 [sn]::ib ab 29 [sn]::ib ak 93 [cb,(iv b4.2.2.1),(iv b4.2.2.2)]::ib aA 26 [av]::ib aN 29 [aI]::ci::bZ::aJ::H)∧Ow R0 2 cg ci ch cf) ?_ ?_
 ·rcases Ae ce with⟨cj,ce⟩|⟨cj,ce⟩
  ·refine Al f Z cj ?_
   refine Ai ?_
   refine Ab f Z λa f=>AI (R:=R0) (xs:=([0]:LI)) (RI.one _) m T30 f Z Z Z (by decide) (All2.cons Z (All2.nil _)) λck cl w a m cm f=> ?_
   have⟨cn,co,ce⟩:=bind_some ce
   refine AP (RI.one _) 3 m bh Z T30 Z (by decide) f Z Z Z (Ow.src (j:=0) cm m Z) co λcp cq w a m cr f=>Ac f Z λa f=>Aa ?_
   have m:=m.fr 5
   have m:=m.fr 3
   have m:Mem W b7 w (cp::bZ::aJ::ck::ib ak 93 [cb,(iv b4.2.2.1),(iv b4.2.2.2)]::ib aN 29 [aI]::ib aA 26 [av]::ib ab 29 [sn]::ib aa 26 [sn]::H):=m.fr 4
   have m:=m.fr 5
   have m:=m.fr 6
   have m:Mem W b7 w (ib ak 93 [cb,(iv b4.2.2.1),(iv b4.2.2.2)]::ib aA 26 [av]::ib aN 29 [aI]::cp::bZ::aJ::ck::ib ab 29 [sn]::ib aa 26 [sn]::H):=m.fr 6
   have m:=m.fr 7
   have m:=m.fr 8
   have m:Mem W b7 w (ib aa 26 [sn]::ib ab 29 [sn]::ib ak 93 [cb,(iv b4.2.2.1),(iv b4.2.2.2)]::ib aA 26 [av]::ib aN 29 [aI]::cp::bZ::aJ::H):=m.eraseAt 8
   obtain rfl:=sj ce
   exact⟨_,Z,_,cq,cp,gr,f.k Z,m,cr⟩
  ·refine Ag f Z cj ?_
   refine Aq ?_
   have m:=m.fr 2
   have m:=m.fr 3
   have m:Mem W b7 w (ib aA 26 [av]::ib aN 29 [aI]::bf::ib ak 93 [cb,(iv b4.2.2.1),(iv b4.2.2.2)]::bZ::aJ::ib ab 29 [sn]::ib aa 26 [sn]::H):=m.fr 5
   have m:=m.fr 3
   have m:=m.fr 6
   have m:Mem W b7 w (ib aa 26 [sn]::ib ab 29 [sn]::ib ak 93 [cb,(iv b4.2.2.1),(iv b4.2.2.2)]::ib aA 26 [av]::ib aN 29 [aI]::bf::bZ::aJ::H):=m.fr 7
   obtain rfl:=sj ce
   exact⟨_,Z,_,bg,bf,gr,f.k Z,m,bh⟩
 ·rintro a w ⟨cf,rfl,cg,ch,ci,ct,f,m,cu⟩
  have cc:=rd1 ct cc
  have bk:=rd2 ct bk
  have b1:=Ow.mono (RSl.mono (RI.mono _)) ct b1
  have aL:=OwR.mono trivial ct aL
  refine Ak (Af ?_)
  refine Ab f Z λa f=> ?_
  have m:Mem W cg w (ib ak 93 [cb,(iv b4.2.2.1),(iv b4.2.2.2)]::ib aa 26 [sn]::ib ab 29 [sn]::ib aA 26 [av]::ib aN 29 [aI]::ci::bZ::aJ::H):=m.fr 2
  have⟨cv,cw,hd⟩:=bind_some hd
  refine Ay f Z call24 (Wk.d m cc cw) λcx cy cz w cA m cB a f=> ?_
  obtain⟨cC,rfl,rfl,cD⟩:=cB
  have bk:=rd2 cA bk
  have cu:=od1 cA cu
  have b1:=Ow.mono (RSl.mono (RI.mono _)) cA b1
  have aL:=OwR.mono trivial cA aL
  refine Aa ?_
  rcases Ae hd with⟨cE,hd⟩|⟨cE,hd⟩
  ·refine Al f Z cE ?_
   refine Ai ?_
   refine Ab f Z λa f=>Ab f Z λa f=> ?_
   have⟨cF,cG,hd⟩:=bind_some hd
   refine Ay f Z call25 (Wk.X m cD cG) λcH cI cJ w cK m cL a f=> ?_
   obtain⟨cM,rfl,rfl,cN⟩:=cL
   have bk:=rd2 cK bk
   have cu:=od1 cK cu
   have b1:=Ow.mono (RSl.mono (RI.mono _)) cK b1
   have aL:=OwR.mono trivial cK aL
   have⟨cO,cP,hd⟩:=bind_some hd
   refine BQ 5 m cu Z T30 f Z Z Z cP λcQ a cR f=>Cm 5 m cu Z sizeOf2 f Z Z cR cP Z Z Z λcS w m cT=>Aa (Ak (Af ?_))
   refine Ab f Z λa f=> ?_
   have⟨cU,cV,hd⟩:=bind_some hd
   refine Ay f Z call24 (Wk.d m cN cV) λcW cX cY w cZ m c0 a f=> ?_
   obtain⟨c1,rfl,rfl,c2⟩:=c0
   have bk:=rd2 cZ bk
   have cT:=od1 cZ cT
   have b1:=Ow.mono (RSl.mono (RI.mono _)) cZ b1
   have aL:=OwR.mono trivial cZ aL
   refine Aa ?_
   rcases Ae hd with⟨c3,hd⟩|⟨c3,hd⟩
   ·refine Al f Z c3 ?_
    refine Ai ?_
    refine Ab f Z λa f=> ?_
    have m:Mem W cX w (bZ::ib ak 93 [c1,(iv cU.2.2.1),(iv cU.2.2.2)]::ib aa 26 [sn]::ib ab 29 [sn]::ib aA 26 [av]::ib aN 29 [aI]::cS::aJ::H):=m.fr 6
    obtain⟨c4,c5,m,c6⟩:=Ow.stamp (RSl.mono (RI.mono _)) b1 m
    have bk:=rd2 c5 bk
    have cT:=od1 c5 cT
    have aL:=OwR.mono trivial c5 aL
    have⟨c7,c8,hd⟩:=bind_some hd
    refine CN T24 f Z Z c6 (.inr ⟨_,_,Z,Z⟩) (.inl ⟨Z,Z⟩) c8 λc9 a da f=>Ac f Z λa f=>Aa (Ak ?_)
    have m:=m.fr 2
    have m:Mem W c4 w (ib aa 26 [sn]::ib ab 29 [sn]::ib ak 93 [c1,(iv cU.2.2.1),(iv cU.2.2.2)]::ib aA 26 [av]::ib aN 29 [aI]::cS::aJ::H):=m.fr 2
    refine B6 [ib aa 26 [sn],ib ab 29 [sn]] (ib ak 93 [c1,(iv cU.2.2.1),(iv cU.2.2.2)]::ib aA 26 [av]::ib aN 29 [aI]::cS::aJ::H) 7 AQ (by kernel_rfl) m ?_
    refine AY (i:=0) (ds:=[av]) 7 1 AO Z Z Z Z (by kernel_rfl) Z f Z Z Z λa f=>AY (i:=1) (ds:=[aI]) 7 2 Bd Z Z Z Z (by kernel_rfl) Z f Z Z Z λa f=>AE 2 7 Z f Z λa f=>AE 3 7 Z f Z λa f=>Bk 4 Z λdb w dc m dd dd=> ?_
    have da:=rd2 dc da
    have bk:=rd2 dc bk
    have cT:=od1 dc cT
    have aL:=OwR.mono trivial dc aL
    refine Am 0 0 (ds:=[av]) m sizeOf26 f Z Z Z (Ah bk.one1 Ap) Z (lb Z) Z λw m=>Aa ?_
    refine dd db [ib aa 26 [av],ib ab 29 [sn]] _ _ gr m ?_
    refine Bk 5 Z λde w df m dg dg=> ?_
    have da:=rd2 df da
    have bk:=rd2 df bk
    have cT:=od1 df cT
    have aL:=OwR.mono trivial df aL
    refine Am 1 0 (ds:=[aI]) m sizeOf29 f Z Z Z (Ah (OwR.one1 6 m aL Z) Ap) Z (lb Z) Z λw m=>Aa ?_
    refine dg de [ib aa 26 [av],ib ab 29 [aI]] _ _ gr m ?_
    refine q_p 6 7 Z f (λ_=>Bi (f.e Z)) λa f=>A2 λdh w di m=> ?_
    have da:=rd2 di da
    have bk:=rd2 di bk
    have cT:=od1 di cT
    have aL:=OwR.mono trivial di aL
    refine Ac f Z λa f=>Aa ?_
    refine Ao ?_
    have dj:=A9 (P:=prog) 0 m AO f (s:=2) rfl rfl rfl
    have dk:=A9 (P:=prog) 1 m Bd f (s:=3) rfl rfl rfl
    have m:=m.fr 5
    have m:=m.fr 6
    have m:Mem W dh w (aJ::cS::ib aa 26 [av]::ib ab 29 [aI]::ib ak 93 [c1,(iv cU.2.2.1),(iv cU.2.2.2)]::ib aA 26 [av]::H):=m.eraseAt 6
    have m:=m.eraseAt 5
    have m:=m.eraseAt 4
    have m:Mem W dh w (aJ::cS::ib aa 26 [av]::H):=m.eraseAt 3
    have m:=m.eraseAt 2
    obtain rfl:=sj hd
    exact⟨[(.agg #[av]),(.agg #[aI]),ch,c9],⟨dj,dk,f.get _ _ Z,f.get _ _ Z,trivial⟩,f.d,_,[aJ,cS],(gt ah (gt ar (gt aG (gt aT (gt a2 (gt bb (gt bj (gt bm (gt bt (gt bC (gt bJ (gt bR (gt bU (gt bX (gt b3 (gt b9 (gt ct (gt cA (gt cK (gt cZ (gt c5 (gt dc (gt df di))))))))))))))))))))))),m,_,_,_,_,_,_,Z,Z,bk,aL,cT,da⟩
   ·refine Ag f Z c3 ?_
    refine Aq ?_
    refine Ak ?_
    have m:=m.fr 2
    have m:Mem W cX w (ib aa 26 [sn]::ib ab 29 [sn]::ib ak 93 [c1,(iv cU.2.2.1),(iv cU.2.2.2)]::ib aA 26 [av]::ib aN 29 [aI]::cS::bZ::aJ::H):=m.fr 2
    refine B6 [ib aa 26 [sn],ib ab 29 [sn]] (ib ak 93 [c1,(iv cU.2.2.1),(iv cU.2.2.2)]::ib aA 26 [av]::ib aN 29 [aI]::cS::bZ::aJ::H) 7 AQ (by kernel_rfl) m ?_
    refine AY (i:=0) (ds:=[av]) 7 1 AO Z Z Z Z (by kernel_rfl) Z f Z Z Z λa f=>AY (i:=1) (ds:=[aI]) 7 2 Bd Z Z Z Z (by kernel_rfl) Z f Z Z Z λa f=>AE 2 7 Z f Z λa f=>AE 3 7 Z f Z λa f=>Bk 4 Z λdl w dm m dn dn=> ?_
    have bk:=rd2 dm bk
    have cT:=od1 dm cT
    have b1:=Ow.mono (RSl.mono (RI.mono _)) dm b1
    have aL:=OwR.mono trivial dm aL
    refine Am 0 0 (ds:=[av]) m sizeOf26 f Z Z Z (Ah bk.one1 Ap) Z (lb Z) Z λw m=>Aa ?_
    refine dn dl [ib aa 26 [av],ib ab 29 [sn]] _ _ gr m ?_
    refine Bk 5 Z λdp w dq m dr dr=> ?_
    have bk:=rd2 dq bk
    have cT:=od1 dq cT
    have b1:=Ow.mono (RSl.mono (RI.mono _)) dq b1
    have aL:=OwR.mono trivial dq aL
    refine Am 1 0 (ds:=[aI]) m sizeOf29 f Z Z Z (Ah (OwR.one1 7 m aL Z) Ap) Z (lb Z) Z λw m=>Aa ?_
    refine dr dp [ib aa 26 [av],ib ab 29 [aI]] _ _ gr m ?_
    refine q_p 6 7 Z f (λ_=>Bi (f.e Z)) λa f=>A2 λdt w du m=> ?_
    have bk:=rd2 du bk
    have cT:=od1 du cT
    have b1:=Ow.mono (RSl.mono (RI.mono _)) du b1
    have aL:=OwR.mono trivial du aL
    refine Ac f Z λa f=>Aa ?_
    refine Ao ?_
    have m:Mem W dt w (bZ::ib aa 26 [av]::ib ab 29 [aI]::ib ak 93 [c1,(iv cU.2.2.1),(iv cU.2.2.2)]::ib aA 26 [av]::ib aN 29 [aI]::cS::aJ::H):=m.fr 6
    obtain⟨dv,dw,m,dx⟩:=Ow.stamp (RSl.mono (RI.mono _)) b1 m
    have bk:=rd2 dw bk
    have cT:=od1 dw cT
    have aL:=OwR.mono trivial dw aL
    have dy:=A9 (P:=prog) 0 m AO f (s:=2) rfl rfl rfl
    have dz:=A9 (P:=prog) 1 m Bd f (s:=3) rfl rfl rfl
    have m:=m.fr 5
    have m:=m.fr 6
    have m:Mem W dv w (aJ::cS::ib aa 26 [av]::ib ab 29 [aI]::ib ak 93 [c1,(iv cU.2.2.1),(iv cU.2.2.2)]::ib aA 26 [av]::H):=m.eraseAt 6
    have m:=m.eraseAt 5
    have m:=m.eraseAt 4
    have m:Mem W dv w (aJ::cS::ib aa 26 [av]::H):=m.eraseAt 3
    have m:=m.eraseAt 2
    obtain rfl:=sj hd
    exact⟨[(.agg #[av]),(.agg #[aI]),ch,b0],⟨dy,dz,f.get _ _ Z,f.get _ _ Z,trivial⟩,f.d,_,[aJ,cS],(gt ah (gt ar (gt aG (gt aT (gt a2 (gt bb (gt bj (gt bm (gt bt (gt bC (gt bJ (gt bR (gt bU (gt bX (gt b3 (gt b9 (gt ct (gt cA (gt cK (gt cZ (gt dm (gt dq (gt du dw))))))))))))))))))))))),m,_,_,_,_,_,_,Z,Z,bk,aL,cT,dx⟩
  ·refine Ag f Z cE ?_
   refine Aq ?_
   refine Ak (Af ?_)
   refine Ab f Z λa f=> ?_
   have⟨dA,dB,hd⟩:=bind_some hd
   refine Ay f Z call24 (Wk.d m cD dB) λdC dD dE w dF m dG a f=> ?_
   obtain⟨dH,rfl,rfl,dI⟩:=dG
   have bk:=rd2 dF bk
   have cu:=od1 dF cu
   have b1:=Ow.mono (RSl.mono (RI.mono _)) dF b1
   have aL:=OwR.mono trivial dF aL
   refine Aa ?_
   rcases Ae hd with⟨dJ,hd⟩|⟨dJ,hd⟩
   ·refine Al f Z dJ ?_
    refine Ai ?_
    refine Ab f Z λa f=> ?_
    have m:Mem W dD w (bZ::ib ak 93 [dH,(iv dA.2.2.1),(iv dA.2.2.2)]::ib aa 26 [sn]::ib ab 29 [sn]::ib aA 26 [av]::ib aN 29 [aI]::ci::aJ::H):=m.fr 6
    obtain⟨dK,dL,m,dM⟩:=Ow.stamp (RSl.mono (RI.mono _)) b1 m
    have bk:=rd2 dL bk
    have cu:=od1 dL cu
    have aL:=OwR.mono trivial dL aL
    have⟨dN,dO,hd⟩:=bind_some hd
    refine CN T24 f Z Z dM (.inr ⟨_,_,Z,Z⟩) (.inl ⟨Z,Z⟩) dO λdP a dQ f=>Ac f Z λa f=>Aa (Ak ?_)
    have m:=m.fr 2
    have m:Mem W dK w (ib aa 26 [sn]::ib ab 29 [sn]::ib ak 93 [dH,(iv dA.2.2.1),(iv dA.2.2.2)]::ib aA 26 [av]::ib aN 29 [aI]::ci::aJ::H):=m.fr 2
    refine B6 [ib aa 26 [sn],ib ab 29 [sn]] (ib ak 93 [dH,(iv dA.2.2.1),(iv dA.2.2.2)]::ib aA 26 [av]::ib aN 29 [aI]::ci::aJ::H) 7 AQ (by kernel_rfl) m ?_
    refine AY (i:=0) (ds:=[av]) 7 1 AO Z Z Z Z (by kernel_rfl) Z f Z Z Z λa f=>AY (i:=1) (ds:=[aI]) 7 2 Bd Z Z Z Z (by kernel_rfl) Z f Z Z Z λa f=>AE 2 7 Z f Z λa f=>AE 3 7 Z f Z λa f=>Bk 4 Z λdR w dS m dT dT=> ?_
    have dQ:=rd2 dS dQ
    have bk:=rd2 dS bk
    have cu:=od1 dS cu
    have aL:=OwR.mono trivial dS aL
    refine Am 0 0 (ds:=[av]) m sizeOf26 f Z Z Z (Ah bk.one1 Ap) Z (lb Z) Z λw m=>Aa ?_
    refine dT dR [ib aa 26 [av],ib ab 29 [sn]] _ _ gr m ?_
    refine Bk 5 Z λdU w dV m dW dW=> ?_
    have dQ:=rd2 dV dQ
    have bk:=rd2 dV bk
    have cu:=od1 dV cu
    have aL:=OwR.mono trivial dV aL
    refine Am 1 0 (ds:=[aI]) m sizeOf29 f Z Z Z (Ah (OwR.one1 6 m aL Z) Ap) Z (lb Z) Z λw m=>Aa ?_
    refine dW dU [ib aa 26 [av],ib ab 29 [aI]] _ _ gr m ?_
    refine q_p 6 7 Z f (λ_=>Bi (f.e Z)) λa f=>A2 λdX w dY m=> ?_
    have dQ:=rd2 dY dQ
    have bk:=rd2 dY bk
    have cu:=od1 dY cu
    have aL:=OwR.mono trivial dY aL
    refine Ac f Z λa f=>Aa ?_
    refine Ao ?_
    have dZ:=A9 (P:=prog) 0 m AO f (s:=2) rfl rfl rfl
    have d0:=A9 (P:=prog) 1 m Bd f (s:=3) rfl rfl rfl
    have m:=m.fr 5
    have m:=m.fr 6
    have m:Mem W dX w (aJ::ci::ib aa 26 [av]::ib ab 29 [aI]::ib ak 93 [dH,(iv dA.2.2.1),(iv dA.2.2.2)]::ib aA 26 [av]::H):=m.eraseAt 6
    have m:=m.eraseAt 5
    have m:=m.eraseAt 4
    have m:Mem W dX w (aJ::ci::ib aa 26 [av]::H):=m.eraseAt 3
    have m:=m.eraseAt 2
    obtain rfl:=sj hd
    exact⟨[(.agg #[av]),(.agg #[aI]),ch,dP],⟨dZ,d0,f.get _ _ Z,f.get _ _ Z,trivial⟩,f.d,_,[aJ,ci],(gt ah (gt ar (gt aG (gt aT (gt a2 (gt bb (gt bj (gt bm (gt bt (gt bC (gt bJ (gt bR (gt bU (gt bX (gt b3 (gt b9 (gt ct (gt cA (gt dF (gt dL (gt dS (gt dV dY)))))))))))))))))))))),m,_,_,_,_,_,_,Z,Z,bk,aL,cu,dQ⟩
   ·refine Ag f Z dJ ?_
    refine Aq ?_
    refine Ak ?_
    have m:=m.fr 2
    have m:Mem W dD w (ib aa 26 [sn]::ib ab 29 [sn]::ib ak 93 [dH,(iv dA.2.2.1),(iv dA.2.2.2)]::ib aA 26 [av]::ib aN 29 [aI]::ci::bZ::aJ::H):=m.fr 2
    refine B6 [ib aa 26 [sn],ib ab 29 [sn]] (ib ak 93 [dH,(iv dA.2.2.1),(iv dA.2.2.2)]::ib aA 26 [av]::ib aN 29 [aI]::ci::bZ::aJ::H) 7 AQ (by kernel_rfl) m ?_
    refine AY (i:=0) (ds:=[av]) 7 1 AO Z Z Z Z (by kernel_rfl) Z f Z Z Z λa f=>AY (i:=1) (ds:=[aI]) 7 2 Bd Z Z Z Z (by kernel_rfl) Z f Z Z Z λa f=>AE 2 7 Z f Z λa f=>AE 3 7 Z f Z λa f=>Bk 4 Z λd1 w d2 m d3 d3=> ?_
    have bk:=rd2 d2 bk
    have cu:=od1 d2 cu
    have b1:=Ow.mono (RSl.mono (RI.mono _)) d2 b1
    have aL:=OwR.mono trivial d2 aL
    refine Am 0 0 (ds:=[av]) m sizeOf26 f Z Z Z (Ah bk.one1 Ap) Z (lb Z) Z λw m=>Aa ?_
    refine d3 d1 [ib aa 26 [av],ib ab 29 [sn]] _ _ gr m ?_
    refine Bk 5 Z λd4 w d5 m d6 d6=> ?_
    have bk:=rd2 d5 bk
    have cu:=od1 d5 cu
    have b1:=Ow.mono (RSl.mono (RI.mono _)) d5 b1
    have aL:=OwR.mono trivial d5 aL
    refine Am 1 0 (ds:=[aI]) m sizeOf29 f Z Z Z (Ah (OwR.one1 7 m aL Z) Ap) Z (lb Z) Z λw m=>Aa ?_
    refine d6 d4 [ib aa 26 [av],ib ab 29 [aI]] _ _ gr m ?_
    refine q_p 6 7 Z f (λ_=>Bi (f.e Z)) λa f=>A2 λd7 w d8 m=> ?_
    have bk:=rd2 d8 bk
    have cu:=od1 d8 cu
    have b1:=Ow.mono (RSl.mono (RI.mono _)) d8 b1
    have aL:=OwR.mono trivial d8 aL
    refine Ac f Z λa f=>Aa ?_
    refine Ao ?_
    have m:Mem W d7 w (bZ::ib aa 26 [av]::ib ab 29 [aI]::ib ak 93 [dH,(iv dA.2.2.1),(iv dA.2.2.2)]::ib aA 26 [av]::ib aN 29 [aI]::ci::aJ::H):=m.fr 6
    obtain⟨d9,ea,m,eb⟩:=Ow.stamp (RSl.mono (RI.mono _)) b1 m
    have bk:=rd2 ea bk
    have cu:=od1 ea cu
    have aL:=OwR.mono trivial ea aL
    have ec:=A9 (P:=prog) 0 m AO f (s:=2) rfl rfl rfl
    have ed:=A9 (P:=prog) 1 m Bd f (s:=3) rfl rfl rfl
    have m:=m.fr 5
    have m:=m.fr 6
    have m:Mem W d9 w (aJ::ci::ib aa 26 [av]::ib ab 29 [aI]::ib ak 93 [dH,(iv dA.2.2.1),(iv dA.2.2.2)]::ib aA 26 [av]::H):=m.eraseAt 6
    have m:=m.eraseAt 5
    have m:=m.eraseAt 4
    have m:Mem W d9 w (aJ::ci::ib aa 26 [av]::H):=m.eraseAt 3
    have m:=m.eraseAt 2
    obtain rfl:=sj hd
    exact⟨[(.agg #[av]),(.agg #[aI]),ch,b0],⟨ec,ed,f.get _ _ Z,f.get _ _ Z,trivial⟩,f.d,_,[aJ,ci],(gt ah (gt ar (gt aG (gt aT (gt a2 (gt bb (gt bj (gt bm (gt bt (gt bC (gt bJ (gt bR (gt bU (gt bX (gt b3 (gt b9 (gt ct (gt cA (gt dF (gt d2 (gt d5 (gt d8 ea)))))))))))))))))))))),m,_,_,_,_,_,_,Z,Z,bk,aL,cu,eb⟩
theorem Wk.p {x0 x1 x2:Int}(m:Mem W G w (H)){y:Bool}(hd:D.p x0 x1 x2=some y):
  Calls prog 60 #[(iv x0),(iv x1),(iv x2)] w (Res W G H (λ_ Ho v=>Ho=[]∧v=(.bool y))):=by
 refine Ax (args:=[(iv x0),(iv x1),(iv x2)]) (N:=15) [.tmp 6] func60 Z Z (lb Z) Z λa f=> ?_
 unfold D.p at hd
 refine Af ?_
 refine Ac f Z λa f=>AD ?_
 refine Ab f Z λa f=>Ab f Z λa f=>Aj f Z Z De λa f=>Ab f Z λa f=> ?_
 refine Bg 4 (λa w=>∃aa,GLe G aa∧Mem W aa w (H)∧Fr a 15 [(0,(iv x0)),(1,(iv x1)),(2,(iv x2)),(7,(iv x1)),(8,(iv x0)),(9,(.bool (decide (x1≤x0)))),(10,(.bool (decide (x1≤x0)))),(14,(.bool ((decide (x1≤x0))&&(decide (x0≤x2)))))]) ?_ ?_
 ·rcases Bool.eq_false_or_eq_true (decide (x1≤x0)) with ab|ab
  ·refine Aw f ab ?_
   refine Ab f Z λa f=>Aw f ab ?_
   refine Ab f Z λa f=>Aw f ab ?_
   refine Aj f Z Z De λa f=>l_o f (AK (f.e Z) ab (f.e Z)) λa f=> ?_
   exact⟨_,gr,m,f.weak ⟨Z,Z,Z,Z,Z,Z,Z,by rw[ab];rfl,trivial⟩⟩
  ·refine Au f ab λa f=> ?_
   refine Au f ab λa f=>Au f ab λa f=>l_o f (AM (f.e Z) ab (f.e Z)) λa f=> ?_
   exact⟨_,gr,m,f.weak ⟨Z,Z,Z,Z,Z,Z,Z,by rw[ab];rfl,trivial⟩⟩
 ·rintro a w ⟨aa,ac,m,f⟩
  refine Ac f Z λa f=>Aa ?_
  refine Ao ?_
  obtain rfl:=sj hd
  exact⟨[(.bool ((decide (x1≤x0))&&(decide (x0≤x2))))],f.g Z,f.d,_,[],ac,m,Z,Z⟩
theorem Wk.Y {v0:Value}{x0:LI}{x1:Int}(m:Mem W G w (H))(h0:R1 G v0 x0){y:Bool}(hd:D.Y x0 x1=some y):
  Calls prog 61 #[v0,(iv x1)] w (Res W G H (λ_ Ho v=>Ho=[]∧v=(.bool y))):=by
 refine Ax (args:=[v0,(iv x1)]) (N:=33) [.tmp 4] func61 Z Z (lb Z) Z λa f=> ?_
 unfold D.Y at hd
 refine Af ?_
 refine Ac f Z λa f=>Aa (Ak (Af ?_))
 refine Ab f Z λa f=>Bc underlying30 f Z Z h0 λa f=>Ab f Z λa f=>Aa ?_
 have⟨aa,ab,hd⟩:=bind_some hd
 refine AT (λa w=>∃q_181':Unit,aa= .inl q_181'∧∃(ac:GH),GLe G ac∧Fr a 33 []∧Mem W ac w (H)) ?_ ?_
 ·refine As ?_
  refine A1 (λad a w=>∃ae:Int,ae=ad∧∃(af:GH),GLe G af∧Fr a 33 [(0,v0),(1,(iv x1)),(7,v0),(8,(iv (x0.length:Int))),(9,(iv ae))]∧Mem W af w (H)) ab ⟨_,Z,_,gr,f.k Z,m⟩ ?_
  clear ab f m
  rintro ad ag ah ai a w ⟨ae,rfl,af,aj,f,m⟩
  have h0:=rd1 aj h0
  refine Af ?_
  refine Aj f Z Z A3 λa f=>Aa (Ak ?_)
  rcases Ae ah with⟨ak,ah⟩|⟨ak,ah⟩
  ·refine Al f Z ak ?_
   refine Aq ?_
   refine Ak (As (Af ?_))
   refine Ab f Z λa f=> ?_
   have⟨al,am,ah⟩:=bind_some ah
   refine BT T30 f Z Z Z h0 am λan ao a ap aq f=> ?_
   subst aq
   refine Bh m Pl2 f Z Z ap λa f=>Ac f Z λa f=>Ac f Z λa f=>AD ?_
   refine Ab f Z λa f=>Ab f Z λa f=>Aj f Z Z Bw λa f=> ?_
   have⟨ar,au,ah⟩:=bind_some ah
   refine Bb f Z call60 (Wk.p m au) λav w aw m a f=> ?_
   have h0:=rd1 aw h0
   refine l_o f (Br (f.e Z)) λa f=>Ab f Z λa f=> ?_
   have⟨ax,ay,ah⟩:=bind_some ah
   refine Bg 12 (λa w=>∃az,GLe av az∧Mem W az w (H)∧Fr a 33 [(0,v0),(1,(iv x1)),(5,(iv ae)),(6,(iv al)),(7,v0),(8,(iv (x0.length:Int))),(9,(iv ae)),(14,(iv al)),(15,(iv x1)),(16,(iv (i64.wrap (x1-1)))),(17,(.bool ar)),(18,(.bool (!ar))),(19,(.bool (!ar))),(31,(.bool ax))]) ?_ ?_
   ·rcases Ae ay with⟨aA,ay⟩|⟨aA,ay⟩
    ·refine Au f aA λa f=> ?_
     refine Au f aA λa f=>Au f aA λa f=>Dl f Z Z Z λa f=>Dl f Z Z Z λa f=>Dl f Z Z Z λa f=>Dl f Z Z Z λa f=>Dl f Z Z Z λa f=>Dl f Z Z Z λa f=>Dl f Z Z Z λa f=>Au f aA λa f=>l_o f (AK (f.e Z) aA (f.e Z)) λa f=> ?_
     obtain rfl:=sj ay
     exact⟨_,gr,m,f.k Z⟩
    ·refine Aw f aA ?_
     refine Ab f Z λa f=>Aw f aA ?_
     refine Aj f Z Z CS λa f=>Aw f aA ?_
     refine Ab f Z λa f=> ?_
     have⟨aB,aC,ay⟩:=bind_some ay
     refine Bg 8 (λa w=>∃aD,GLe av aD∧Mem W aD w (H)∧Fr a 33 [(0,v0),(1,(iv x1)),(5,(iv ae)),(6,(iv al)),(7,v0),(8,(iv (x0.length:Int))),(9,(iv ae)),(14,(iv al)),(15,(iv x1)),(16,(iv (i64.wrap (x1-1)))),(17,(.bool ar)),(18,(.bool (!ar))),(19,(.bool (!ar))),(20,(iv ae)),(21,(.bool (decide ((0:Int)<ae)))),(22,(.bool (decide ((0:Int)<ae)))),(30,(.bool aB))]) ?_ ?_
     ·rcases Ae aC with⟨aE,aC⟩|⟨aE,aC⟩
      ·refine Aw f aE ?_
       refine Ab f Z λa f=>Aw f aE ?_
       refine Ab f Z λa f=>Aw f aE ?_
       refine Aj f Z Z Bw λa f=>Aw f aE ?_
       have⟨aF,aG,aC⟩:=bind_some aC
       refine BT T30 f Z Z Z h0 aG λaH aI a aJ aK f=> ?_
       subst aK
       refine Aw f aE ?_
       refine Bh m Pl2 f Z Z aJ λa f=>Aw f aE ?_
       refine Ab f Z λa f=>Aw f aE ?_
       refine Aj f Z Z b_geq λa f=>Aw f aA ?_
       refine l_o f (AK (f.e Z) aE (f.e Z)) λa f=> ?_
       obtain rfl:=sj aC
       exact⟨_,gr,m,f.k Z⟩
      ·refine Au f aE λa f=> ?_
       refine Au f aE λa f=>Au f aE λa f=>Au f aE λa f=>Au f aE λa f=>Au f aE λa f=>Au f aE λa f=>Aw f aA ?_
       refine l_o f (AM (f.e Z) aE (f.e Z)) λa f=> ?_
       obtain rfl:=sj aC
       exact⟨_,gr,m,f.k Z⟩
     ·rintro a w ⟨aD,aL,m,f⟩
      refine l_o f (AM (f.e Z) aA (f.e Z)) λa f=> ?_
      obtain rfl:=sj ay
      exact⟨_,aL,m,f.k Z⟩
   ·rintro a w ⟨az,aM,m,f⟩
    refine Aa ?_
    rcases Ae ah with⟨aN,ah⟩|⟨aN,ah⟩
    ·refine Al f Z aN ?_
     refine Af ?_
     refine Ac f Z λa f=>Aa ?_
     refine Ao ?_
     obtain rfl:=sj ah
     obtain rfl:=ai _ rfl
     obtain rfl:=sj hd
     exact⟨[(.bool false)],f.g Z,f.d,_,[],(gt aj (gt aw aM)),m,Z,Z⟩
    ·refine Ag f Z aN ?_
     refine Aq ?_
     refine Ai ?_
     refine Aj f Z Z AA λa f=>Ab f Z λa f=>Aa ?_
     obtain rfl:=sj ah
     exact⟨_,Z,_,Z,_,(gt aj (gt aw aM)),f.k Z,m⟩
  ·refine Ag f Z ak ?_
   refine AZ Z ?_
   obtain rfl:=sj ah
   obtain rfl:=ai _ rfl
   exact⟨_,Z,_,aj,f.weak trivial,m⟩
 ·rintro a w ⟨_,rfl,ac,aO,f,m⟩
  refine Af ?_
  refine Ac f Z λa f=>Aa ?_
  refine Ao ?_
  obtain rfl:=sj hd
  exact⟨[(.bool true)],f.g Z,f.d,_,[],aO,m,Z,Z⟩
theorem Wk.N {aa:Value}{ab:LL}(m:Mem W G w (H))(ac:R2 G aa ab){y:Bool}(hd:D.N ab=some y):
  Calls prog 59 #[(.agg #[aa])] w (Res W G H (λ_ Ho v=>Ho=[]∧v=(.bool y))):=by
 refine Ax (args:=[(.agg #[aa])]) (N:=61) [.tmp 2] func59 Z Z (lb Z) Z λa f=> ?_
 unfold D.N at hd
 refine Af ?_
 refine A4 (cs:=[aa]) m f Z Z Z λad w a m f=>Ac f Z λa f=>AD ?_
 refine Az underlying26 Z sizeOf24 f Z λa f=>An 0 0 m Bx f Z Z Z Z λa f=>Bc underlying24 f Z Z ac λa f=>Ac f Z λa f=>Aa (Ak (Af ?_))
 refine Ab f Z λa f=>Aj f Z Z A3 λa f=>Ab f Z λa f=> ?_
 refine Bg 3 (λa w=>∃ae,GLe G ae∧Mem W ae w (ib ad 26 [aa]::H)∧Fr a 61 [(0,(.agg #[aa])),(1,(pb ad)),(3,(iv (ab.length:Int))),(13,(iv (ab.length:Int))),(14,(.bool (decide ((ab.length:Int)<1)))),(15,(.bool (decide ((ab.length:Int)<1)))),(18,(.bool ((decide ((ab.length:Int)<1))||(decide ((16:Int)<(ab.length:Int))))))]) ?_ ?_
 ·rcases Bool.eq_false_or_eq_true (decide ((ab.length:Int)<1)) with af|af
  ·refine Au f af λa f=> ?_
   refine Au f af λa f=>l_o f (AK (f.e Z) af (f.e Z)) λa f=> ?_
   exact⟨_,gr,m,f.weak ⟨Z,Z,Z,Z,Z,Z,by rw[af];rfl,trivial⟩⟩
  ·refine Aw f af ?_
   refine Ab f Z λa f=>Aw f af ?_
   refine Aj f Z Z CS λa f=>l_o f (AM (f.e Z) af (f.e Z)) λa f=> ?_
   exact⟨_,gr,m,f.weak ⟨Z,Z,Z,Z,Z,Z,by rw[af];rfl,trivial⟩⟩
 ·rintro a w ⟨ae,ag,m,f⟩
  have ac:=rd2 ag ac
  refine Aa ?_
  rcases Ae hd with⟨ah,hd⟩|⟨ah,hd⟩
  ·refine Al f Z ah ?_
   refine Af ?_
   refine Ac f Z λa f=>Aa ?_
   refine Ao ?_
   have m:Mem W ae w H:=Mem.drop (H':=[ib ad 26 [aa]]) m
   obtain rfl:=sj hd
   exact⟨[(.bool false)],f.g Z,f.d,_,[],ag,m,Z,Z⟩
  ·refine Ag f Z ah ?_
   refine Aq ?_
   refine Ak (Af ?_)
   refine Az underlying26 Z sizeOf24 f Z λa f=>An 0 0 m Bx f Z Z Z Z λa f=>Bc underlying24 f Z Z ac λa f=>Ab f Z λa f=>Aa ?_
   have⟨ai,aj,hd⟩:=bind_some hd
   refine AT (λa w=>∃q_91':Unit,ai= .inl q_91'∧∃(ak:GH),GLe ae ak∧Fr a 61 [(1,(pb ad))]∧Mem W ak w (ib ad 26 [aa]::H)) ?_ ?_
   ·refine As ?_
    refine A1 (λal a w=>∃am:Int,am=al∧∃(an:GH),GLe ae an∧Fr a 61 [(1,(pb ad)),(3,(iv (ab.length:Int))),(20,aa),(21,(iv (ab.length:Int))),(22,(iv am))]∧Mem W an w (ib ad 26 [aa]::H)) aj ⟨_,Z,_,gr,f.k Z,m⟩ ?_
    clear aj f m
    rintro al ao ap aq a w ⟨am,rfl,an,ar,f,m⟩
    have ac:=rd2 ar ac
    refine Af ?_
    refine Aj f Z Z A3 λa f=>Aa (Ak ?_)
    rcases Ae ap with⟨au,ap⟩|⟨au,ap⟩
    ·refine Al f Z au ?_
     refine Aq ?_
     refine Ak (As (Af ?_))
     refine Ab f Z λa f=> ?_
     have⟨av,aw,ap⟩:=bind_some ap
     refine BT T24 f Z Z Z ac aw λax ay a az aA f=>Bh m BO f Z Z az λa f=>Ac f Z λa f=>Ac f Z λa f=>AD ?_
     refine Ab f Z λa f=>Ab f Z λa f=> ?_
     have⟨aB,aC,ap⟩:=bind_some ap
     refine Bb f Z call61 (Wk.Y m aA aC) λaD w aE m a f=> ?_
     have aA:=rd1 aE aA
     refine l_o f (Br (f.e Z)) λa f=>Ab f Z λa f=> ?_
     have⟨aF,aG,ap⟩:=bind_some ap
     refine Bg 4 (λa w=>∃aH,GLe aD aH∧Mem W aH w (ib ad 26 [aa]::H)∧Fr a 61 [(1,(pb ad)),(3,(iv (ab.length:Int))),(4,(iv am)),(5,ay),(20,aa),(21,(iv (ab.length:Int))),(22,(iv am)),(27,ay),(28,(iv (ab.length:Int))),(29,(.bool aB)),(30,(.bool (!aB))),(31,(.bool (!aB))),(35,(.bool aF))]) ?_ ?_
     ·rcases Ae aG with⟨aI,aG⟩|⟨aI,aG⟩
      ·refine Au f aI λa f=> ?_
       refine Au f aI λa f=>Au f aI λa f=>l_o f (AK (f.e Z) aI (f.e Z)) λa f=> ?_
       obtain rfl:=sj aG
       exact⟨_,gr,m,f.k Z⟩
      ·refine Aw f aI ?_
       refine Ab f Z λa f=>Aw f aI ?_
       refine Ab f Z λa f=>Aw f aI ?_
       have⟨aJ,aK,aG⟩:=bind_some aG
       refine Bb f Z call79 (Wk.g0 m aA aK) λaL w aM m a f=>l_o f (AM (f.e Z) aI (f.e Z)) λa f=> ?_
       obtain rfl:=sj aG
       exact⟨_,aM,m,f.k Z⟩
     ·rintro a w ⟨aH,aN,m,f⟩
      refine Aa ?_
      rcases Ae ap with⟨aO,ap⟩|⟨aO,ap⟩
      ·refine Al f Z aO ?_
       refine Af ?_
       refine Ac f Z λa f=>Aa ?_
       refine Ao ?_
       have m:Mem W aH w H:=Mem.drop (H':=[ib ad 26 [aa]]) m
       obtain rfl:=sj ap
       obtain rfl:=aq _ rfl
       obtain rfl:=sj hd
       exact⟨[(.bool false)],f.g Z,f.d,_,[],(gt ag (gt ar (gt aE aN))),m,Z,Z⟩
      ·refine Ag f Z aO ?_
       refine Aq ?_
       refine Ai ?_
       refine Aj f Z Z AA λa f=>Ab f Z λa f=>Aa ?_
       obtain rfl:=sj ap
       exact⟨_,Z,_,Z,_,(gt ar (gt aE aN)),f.k Z,m⟩
    ·refine Ag f Z au ?_
     refine AZ Z ?_
     obtain rfl:=sj ap
     obtain rfl:=aq _ rfl
     exact⟨_,Z,_,ar,f.k Z,m⟩
   ·rintro a w ⟨_,rfl,ak,aP,f,m⟩
    have ac:=rd2 aP ac
    refine Ak (Af ?_)
    refine Az underlying26 Z sizeOf24 f Z λa f=>An 0 0 m Bx f Z Z Z Z λa f=>Bc underlying24 f Z Z ac λa f=>Ab f Z λa f=>Aa ?_
    have⟨aQ,aR,hd⟩:=bind_some hd
    refine AT (λa w=>∃q_394':Unit,aQ= .inl q_394'∧∃(aS:GH),GLe ak aS∧Fr a 61 []∧Mem W aS w (H)) ?_ ?_
    ·refine As ?_
     refine A1 (λaT a w=>∃aU:Int,aU=aT∧∃(aV:GH),GLe ak aV∧Fr a 61 [(1,(pb ad)),(38,aa),(39,(iv (ab.length:Int))),(40,(iv aU))]∧Mem W aV w (ib ad 26 [aa]::H)) aR ⟨_,Z,_,gr,f.k Z,m⟩ ?_
     clear aR f m
     rintro aT aW aX aY a w ⟨aU,rfl,aV,aZ,f,m⟩
     have ac:=rd2 aZ ac
     refine Af ?_
     refine Aj f Z Z A3 λa f=>Aa (Ak ?_)
     rcases Ae aX with⟨a0,aX⟩|⟨a0,aX⟩
     ·refine Al f Z a0 ?_
      refine Aq ?_
      refine Ak (As (Af ?_))
      refine Ab f Z λa f=> ?_
      have⟨a1,a2,aX⟩:=bind_some aX
      refine BT T24 f Z Z Z ac a2 λa3 a4 a a5 a6 f=>Bh m BO f Z Z a5 λa f=>Ac f Z λa f=>Ac f Z λa f=>AD ?_
      refine Ab f Z λa f=>Bc underlying30 f Z Z a6 λa f=>Ab f Z λa f=>Aa ?_
      have⟨a7,a8,aX⟩:=bind_some aX
      refine AT (λa w=>∃q_560':Unit,a7= .inl q_560'∧∃(a9:GH),GLe aV a9∧Fr a 61 [(1,(pb ad)),(38,aa),(39,(iv (ab.length:Int))),(40,(iv aU))]∧Mem W a9 w (ib ad 26 [aa]::H)) ?_ ?_
      ·refine As ?_
       refine A1 (λba a w=>∃bb:Int,bb=ba∧∃(bc:GH),GLe aV bc∧Fr a 61 [(1,(pb ad)),(6,(iv aU)),(38,aa),(39,(iv (ab.length:Int))),(40,(iv aU)),(45,a4),(46,(iv (a1.length:Int))),(47,(iv bb))]∧Mem W bc w (ib ad 26 [aa]::H)) a8 ⟨_,Z,_,gr,f.k Z,m⟩ ?_
       clear a8 f m
       rintro ba bd be bf a w ⟨bb,rfl,bc,bg,f,m⟩
       have ac:=rd2 bg ac
       have a6:=rd1 bg a6
       refine Af ?_
       refine Aj f Z Z A3 λa f=>Aa (Ak ?_)
       rcases Ae be with⟨bh,be⟩|⟨bh,be⟩
       ·refine Al f Z bh ?_
        refine Aq ?_
        refine Ak (As (Af ?_))
        have⟨bi,bj,be⟩:=bind_some be
        refine BT T30 f Z Z Z a6 bj λbk bl a bm bn f=> ?_
        subst bn
        refine Bh m Pl2 f Z Z bm λa f=>Ac f Z λa f=>AD ?_
        refine Az underlying26 Z sizeOf24 f Z λa f=>An 0 0 m Bx f Z Z Z Z λa f=>Ab f Z λa f=> ?_
        have⟨bo,bp,be⟩:=bind_some be
        refine BT T24 f Z Z Z ac bp λbq br a bs bt f=>Bh m BO f Z Z bs λa f=>Ab f Z λa f=> ?_
        have⟨bu,bv,be⟩:=bind_some be
        refine Bb f Z call79 (Wk.g0 m bt bv) λbw w bx m a f=>l_o f (Br (f.e Z)) λa f=>Aa ?_
        rcases Ae be with⟨bz,be⟩|⟨bz,be⟩
        ·refine Al f Z bz ?_
         refine Af ?_
         refine Ac f Z λa f=>Aa ?_
         refine Ao ?_
         have m:Mem W bw w H:=Mem.drop (H':=[ib ad 26 [aa]]) m
         obtain rfl:=sj be
         obtain rfl:=bf _ rfl
         obtain rfl:=sj aX
         obtain rfl:=aY _ rfl
         obtain rfl:=sj hd
         exact⟨[(.bool false)],f.g Z,f.d,_,[],(gt ag (gt aP (gt aZ (gt bg bx)))),m,Z,Z⟩
        ·refine Ag f Z bz ?_
         refine Aq ?_
         refine Ai ?_
         refine Aj f Z Z AA λa f=>Ab f Z λa f=>Aa ?_
         obtain rfl:=sj be
         exact⟨_,Z,_,Z,_,(gt bg bx),f.k Z,m⟩
       ·refine Ag f Z bh ?_
        refine AZ Z ?_
        obtain rfl:=sj be
        obtain rfl:=bf _ rfl
        exact⟨_,Z,_,bg,f.k Z,m⟩
      ·rintro a w ⟨_,rfl,a9,bA,f,m⟩
       refine Ai ?_
       refine Aj f Z Z AA λa f=>Ab f Z λa f=>Aa ?_
       obtain rfl:=sj aX
       exact⟨_,Z,_,Z,_,(gt aZ bA),f.k Z,m⟩
     ·refine Ag f Z a0 ?_
      refine AZ Z ?_
      have m:Mem W aV w H:=Mem.drop (H':=[ib ad 26 [aa]]) m
      obtain rfl:=sj aX
      obtain rfl:=aY _ rfl
      exact⟨_,Z,_,aZ,f.weak trivial,m⟩
    ·rintro a w ⟨_,rfl,aS,bB,f,m⟩
     refine Af ?_
     refine Ac f Z λa f=>Aa ?_
     refine Ao ?_
     obtain rfl:=sj hd
     exact⟨[(.bool true)],f.g Z,f.d,_,[],(gt ag (gt aP bB)),m,Z,Z⟩
theorem Wk.Z0 {aa:Value}{ab:LL}(m:Mem W G w (H))(ac:R2 G aa ab){y:Bool}(hd:D.Z0 ab=some y):
  Calls prog 56 #[(.agg #[aa])] w (Res W G H (λ_ Ho v=>Ho=[]∧v=(.bool y))):=by
 refine Ax (args:=[(.agg #[aa])]) (N:=11) [.tmp 2] func56 Z Z (lb Z) Z λa f=> ?_
 unfold D.Z0 at hd
 refine Af ?_
 refine A4 (cs:=[aa]) m f Z Z Z λad w a m f=>Ac f Z λa f=>AD ?_
 refine Ar 0 0 (ds:=[aa]) m AO f Z Z Z Z Z λa f=> ?_
 have⟨ae,af,hd⟩:=bind_some hd
 refine Bb f Z call59 (Wk.N m ac af) λag w ah m a f=> ?_
 have ac:=rd2 ah ac
 refine Ab f Z λa f=> ?_
 refine Bg 5 (λa w=>∃ai,GLe ag ai∧Mem W ai w (ib ad 26 [aa]::H)∧Fr a 11 [(0,(.agg #[aa])),(1,(pb ad)),(3,(.agg #[aa])),(4,(.bool ae)),(5,(.bool ae)),(10,(.bool (ae&&(decide ((ab.length:Int)≤8)))))]) ?_ ?_
 ·rcases Bool.eq_false_or_eq_true ae with aj|aj
  ·refine Aw f aj ?_
   refine Az underlying26 Z sizeOf24 f Z λa f=>Aw f aj ?_
   refine An 0 0 m Bx f Z Z Z Z λa f=>Aw f aj ?_
   refine Bc underlying24 f Z Z ac λa f=>Aw f aj ?_
   refine Aj f Z Z De λa f=>l_o f (AK (f.e Z) aj (f.e Z)) λa f=> ?_
   exact⟨_,gr,m,f.weak ⟨Z,Z,Z,Z,Z,by rw[aj];rfl,trivial⟩⟩
  ·refine Au f aj λa f=> ?_
   refine Au f aj λa f=>Au f aj λa f=>Au f aj λa f=>l_o f (AM (f.e Z) aj (f.e Z)) λa f=> ?_
   exact⟨_,gr,m,f.weak ⟨Z,Z,Z,Z,Z,by rw[aj];rfl,trivial⟩⟩
 ·rintro a w ⟨ai,ak,m,f⟩
  refine Ac f Z λa f=>Aa ?_
  refine Ao ?_
  have m:Mem W ai w H:=Mem.drop (H':=[ib ad 26 [aa]]) m
  obtain rfl:=sj hd
  exact⟨[(.bool (ae&&(decide ((ab.length:Int)≤8))))],f.g Z,f.d,_,[],(gt ah ak),m,Z,Z⟩
theorem Wk.E {x0:Int}(m:Mem W G w (H)){y:Bool}(hd:D.E x0=some y):
  Calls prog 83 #[(iv x0)] w (Res W G H (λ_ Ho v=>Ho=[]∧v=(.bool y))):=by
 refine Ax (args:=[(iv x0)]) (N:=5) [.tmp 2] func83 Z Z (lb Z) Z λa f=> ?_
 unfold D.E at hd
 refine Af ?_
 refine Ac f Z λa f=>AD ?_
 refine Ab f Z λa f=> ?_
 have⟨aa,ab,hd⟩:=bind_some hd
 refine Bb f Z call60 (Wk.p m ab) λac w ad m a f=>Ac f Z λa f=>Aa ?_
 refine Ao ?_
 obtain rfl:=sj hd
 exact⟨[(.bool aa)],f.g Z,f.d,_,[],ad,m,Z,Z⟩
theorem Wk.k0 {x0:Int}(m:Mem W G w (H)){y:Bool}(hd:D.k0 x0=some y):
  Calls prog 84 #[(iv x0)] w (Res W G H (λ_ Ho v=>Ho=[]∧v=(.bool y))):=by
 refine Ax (args:=[(iv x0)]) (N:=5) [.tmp 2] func84 Z Z (lb Z) Z λa f=> ?_
 unfold D.k0 at hd
 refine Af ?_
 refine Ac f Z λa f=>AD ?_
 refine Ab f Z λa f=> ?_
 have⟨aa,ab,hd⟩:=bind_some hd
 refine Bb f Z call60 (Wk.p m ab) λac w ad m a f=>Ac f Z λa f=>Aa ?_
 refine Ao ?_
 obtain rfl:=sj hd
 exact⟨[(.bool aa)],f.g Z,f.d,_,[],ad,m,Z,Z⟩
theorem Wk.r {b1:Nat}{x0 aa:Int}(m:Mem W G w (ib b1 3 [(iv aa)]::H)){y:Bool}(hd:D.r x0 aa=some y):
  Calls prog 85 #[(iv x0),(pb b1)] w (Res W G H (λ_ Ho v=>Ho=[ib b1 3 [(iv aa)]]∧v=(.bool y))):=by
 refine Ax (args:=[(iv x0),(pb b1)]) (N:=8) [.tmp 3] func85 Z Z (lb Z) Z λa f=> ?_
 unfold D.r at hd
 refine Af ?_
 refine Ac f Z λa f=>AD ?_
 refine Ab f Z λa f=>An 0 0 m Pl3 f Z Z Z Z λa f=>Aj f Z Z Bw λa f=> ?_
 have⟨ab,ac,hd⟩:=bind_some hd
 refine Bb f Z call60 (Wk.p m ac) λad w ae m a f=>Ac f Z λa f=>Aa ?_
 refine Ao ?_
 obtain rfl:=sj hd
 exact⟨[(.bool ab)],f.g Z,f.d,_,[ib b1 3 [(iv aa)]],ae,m,Z,Z⟩
theorem Wk.c {aa ab ac x1:Int}(m:Mem W G w (H)){y:Bool}(hd:D.c aa ab ac x1=some y):
  Calls prog 66 #[(.agg #[(iv aa),(iv ab),(iv ac)]),(iv x1)] w (Res W G H (λ_ Ho v=>Ho=[]∧v=(.bool y))):=by
 refine Ax (args:=[(.agg #[(iv aa),(iv ab),(iv ac)]),(iv x1)]) (N:=84) [.tmp 4] func66 Z Z (lb Z) Z λa f=> ?_
 unfold D.c at hd
 refine Af ?_
 refine A4 (cs:=[(iv aa),(iv ab),(iv ac)]) m f Z Z Z λad w a m f=>A4 (cs:=[(iv x1)]) m f Z Z Z λae w a m f=>Ac f Z λa f=>AD ?_
 refine Ac f Z λa f=>AD ?_
 refine Ac f Z λa f=>AD ?_
 refine l_makeFunc f Z Z Z λa f=>Ac f Z λa f=>Aa (Ak (Af ?_))
 refine Az underlying72 Z sizeOf2 f Z λa f=>An 1 0 m Pl2 f Z Z Z Z λa f=>Aa (As (Ak (Af ?_)))
 refine Aj f Z Z AH λa f=>Ac f Z λa f=>Aa ?_
 have⟨af,ag,hd⟩:=bind_some hd
 refine AT (λa w=>∃ah:Bool,ah=af∧∃(ai:GH),GLe G ai∧Fr a 84 [(2,(pb ad)),(5,(.func (.func 83) #[] #[])),(6,(.func (.func 84) #[] #[])),(7,(.func (.func 85) #[] #[(pb ae)])),(10,(iv aa)),(11,(.bool ah))]∧Mem W ai w (ib ad 72 [(iv aa),(iv ab),(iv ac)]::ib ae 3 [(iv x1)]::H)) ?_ ?_
 ·rcases Ae ag with⟨aj,ag⟩|⟨aj,ag⟩
  ·refine Al f Z aj ?_
   refine Aq ?_
   have m:Mem W G w (ib ad 72 [(iv aa),(iv ab),(iv ac)]::ib ae 3 [(iv x1)]::H):=m.fr 1
   obtain rfl:=sj ag
   exact⟨_,Z,_,gr,f.k Z,m⟩
  ·refine Ag f Z aj ?_
   refine Ai ?_
   refine Aj f Z Z AH λa f=>Ac f Z λa f=>Aa ?_
   have m:Mem W G w (ib ad 72 [(iv aa),(iv ab),(iv ac)]::ib ae 3 [(iv x1)]::H):=m.fr 1
   obtain rfl:=sj ag
   exact⟨_,Z,_,gr,f.k Z,m⟩
 ·rintro a w ⟨ah,rfl,ai,ak,f,m⟩
  rcases Ae hd with⟨al,hd⟩|⟨al,hd⟩
  ·refine Al f Z al ?_
   refine Af ?_
   refine Ab f Z λa f=>Az underlying72 Z sizeOf2 f Z λa f=>An 0 1 m Pl2 f Z Z Z Z λa f=> ?_
   have⟨am,an,hd⟩:=bind_some hd
   refine Ce f Z Z Z call83 (Wk.E m an) λao ap aq w ar m au a f=> ?_
   obtain⟨rfl,rfl⟩:=au
   refine Ab f Z λa f=> ?_
   have⟨av,aw,hd⟩:=bind_some hd
   refine Bg 5 (λa w=>∃ax,GLe ap ax∧Mem W ax w (ib ad 72 [(iv aa),(iv ab),(iv ac)]::ib ae 3 [(iv x1)]::H)∧Fr a 84 [(2,(pb ad)),(5,(.func (.func 83) #[] #[])),(6,(.func (.func 84) #[] #[])),(7,(.func (.func 85) #[] #[(pb ae)])),(10,(iv aa)),(11,(.bool ah)),(14,(.func (.func 83) #[] #[])),(15,(.pointer (some ⟨ad,1,none⟩))),(16,(iv ab)),(17,(.bool am)),(18,(.bool am)),(23,(.bool av))]) ?_ ?_
   ·rcases Ae aw with⟨ay,aw⟩|⟨ay,aw⟩
    ·refine Aw f ay ?_
     refine Ab f Z λa f=>Aw f ay ?_
     refine Az underlying72 Z sizeOf2 f Z λa f=>Aw f ay ?_
     refine An 0 2 m Pl2 f Z Z Z Z λa f=>Aw f ay ?_
     have⟨az,aA,aw⟩:=bind_some aw
     refine Ce f Z Z Z call83 (Wk.E m aA) λaB aC aD w aE m aF a f=> ?_
     obtain⟨rfl,rfl⟩:=aF
     refine l_o f (AK (f.e Z) ay (f.e Z)) λa f=> ?_
     obtain rfl:=sj aw
     exact⟨_,aE,m,f.k Z⟩
    ·refine Au f ay λa f=> ?_
     refine Au f ay λa f=>Au f ay λa f=>Au f ay λa f=>l_o f (AM (f.e Z) ay (f.e Z)) λa f=> ?_
     obtain rfl:=sj aw
     exact⟨_,gr,m,f.k Z⟩
   ·rintro a w ⟨ax,aG,m,f⟩
    refine Ac f Z λa f=>Aa ?_
    refine Ao ?_
    have m:Mem W ax w H:=Mem.drop (H':=[ib ad 72 [(iv aa),(iv ab),(iv ac)],ib ae 3 [(iv x1)]]) m
    obtain rfl:=sj hd
    exact⟨[(.bool av)],f.g Z,f.d,_,[],(gt ak (gt ar aG)),m,Z,Z⟩
  ·refine Ag f Z al ?_
   refine Af ?_
   refine Aj f Z Z AH λa f=>Ac f Z λa f=>Aa ?_
   rcases Ae hd with⟨aH,hd⟩|⟨aH,hd⟩
   ·refine Al f Z aH ?_
    refine Af ?_
    refine Ab f Z λa f=>Az underlying72 Z sizeOf2 f Z λa f=>An 0 1 m Pl2 f Z Z Z Z λa f=> ?_
    have⟨aI,aJ,hd⟩:=bind_some hd
    refine Ce f Z Z Z call83 (Wk.E m aJ) λaK aL aM w aN m aO a f=> ?_
    obtain⟨rfl,rfl⟩:=aO
    refine Ab f Z λa f=> ?_
    have⟨aP,aQ,hd⟩:=bind_some hd
    refine Bg 5 (λa w=>∃aR,GLe aL aR∧Mem W aR w (ib ad 72 [(iv aa),(iv ab),(iv ac)]::ib ae 3 [(iv x1)]::H)∧Fr a 84 [(2,(pb ad)),(5,(.func (.func 83) #[] #[])),(6,(.func (.func 84) #[] #[])),(7,(.func (.func 85) #[] #[(pb ae)])),(10,(iv aa)),(24,(.bool (aa==3))),(26,(.func (.func 83) #[] #[])),(27,(.pointer (some ⟨ad,1,none⟩))),(28,(iv ab)),(29,(.bool aI)),(30,(.bool aI)),(35,(.bool aP))]) ?_ ?_
    ·rcases Ae aQ with⟨aS,aQ⟩|⟨aS,aQ⟩
     ·refine Aw f aS ?_
      refine Ab f Z λa f=>Aw f aS ?_
      refine Az underlying72 Z sizeOf2 f Z λa f=>Aw f aS ?_
      refine An 0 2 m Pl2 f Z Z Z Z λa f=>Aw f aS ?_
      have⟨aT,aU,aQ⟩:=bind_some aQ
      refine Ce f Z Z Z call84 (Wk.k0 m aU) λaV aW aX w aY m aZ a f=> ?_
      obtain⟨rfl,rfl⟩:=aZ
      refine l_o f (AK (f.e Z) aS (f.e Z)) λa f=> ?_
      obtain rfl:=sj aQ
      exact⟨_,aY,m,f.k Z⟩
     ·refine Au f aS λa f=> ?_
      refine Au f aS λa f=>Au f aS λa f=>Au f aS λa f=>l_o f (AM (f.e Z) aS (f.e Z)) λa f=> ?_
      obtain rfl:=sj aQ
      exact⟨_,gr,m,f.k Z⟩
    ·rintro a w ⟨aR,a0,m,f⟩
     refine Ac f Z λa f=>Aa ?_
     refine Ao ?_
     have m:Mem W aR w H:=Mem.drop (H':=[ib ad 72 [(iv aa),(iv ab),(iv ac)],ib ae 3 [(iv x1)]]) m
     obtain rfl:=sj hd
     exact⟨[(.bool aP)],f.g Z,f.d,_,[],(gt ak (gt aN a0)),m,Z,Z⟩
   ·refine Ag f Z aH ?_
    refine Af ?_
    refine Aj f Z Z AH λa f=>Ac f Z λa f=>Aa ?_
    rcases Ae hd with⟨a1,hd⟩|⟨a1,hd⟩
    ·refine Al f Z a1 ?_
     refine Af ?_
     refine Ab f Z λa f=>Az underlying72 Z sizeOf2 f Z λa f=>An 0 1 m Pl2 f Z Z Z Z λa f=> ?_
     have m:Mem W ai w (ib ae 3 [(iv x1)]::ib ad 72 [(iv aa),(iv ab),(iv ac)]::H):=m.fr 1
     have⟨a2,a3,hd⟩:=bind_some hd
     refine Ce f Z Z Z call85 (Wk.r m a3) λa4 a5 a6 w a7 m a8 a f=> ?_
     obtain⟨rfl,rfl⟩:=a8
     refine Ab f Z λa f=> ?_
     refine Bg 4 (λa w=>∃a9,GLe a5 a9∧Mem W a9 w (ib ae 3 [(iv x1)]::ib ad 72 [(iv aa),(iv ab),(iv ac)]::H)∧Fr a 84 [(2,(pb ad)),(5,(.func (.func 83) #[] #[])),(6,(.func (.func 84) #[] #[])),(7,(.func (.func 85) #[] #[(pb ae)])),(10,(iv aa)),(36,(.bool (aa==4))),(38,(.func (.func 85) #[] #[(pb ae)])),(39,(.pointer (some ⟨ad,1,none⟩))),(40,(iv ab)),(41,(.bool a2)),(42,(.bool a2)),(46,(.bool (a2&&(ac==0))))]) ?_ ?_
     ·rcases Bool.eq_false_or_eq_true a2 with ba|ba
      ·refine Aw f ba ?_
       refine Az underlying72 Z sizeOf2 f Z λa f=>Aw f ba ?_
       refine An 1 2 m Pl2 f Z Z Z Z λa f=>Aw f ba ?_
       refine Aj f Z Z AH λa f=>l_o f (AK (f.e Z) ba (f.e Z)) λa f=> ?_
       exact⟨_,gr,m,f.weak ⟨Z,Z,Z,Z,Z,Z,Z,Z,Z,Z,Z,by rw[ba];rfl,trivial⟩⟩
      ·refine Au f ba λa f=> ?_
       refine Au f ba λa f=>Au f ba λa f=>l_o f (AM (f.e Z) ba (f.e Z)) λa f=> ?_
       exact⟨_,gr,m,f.weak ⟨Z,Z,Z,Z,Z,Z,Z,Z,Z,Z,Z,by rw[ba];rfl,trivial⟩⟩
     ·rintro a w ⟨a9,bb,m,f⟩
      refine Ac f Z λa f=>Aa ?_
      refine Ao ?_
      have m:Mem W a9 w H:=Mem.drop (H':=[ib ae 3 [(iv x1)],ib ad 72 [(iv aa),(iv ab),(iv ac)]]) m
      obtain rfl:=sj hd
      exact⟨[(.bool (a2&&(ac==0)))],f.g Z,f.d,_,[],(gt ak (gt a7 bb)),m,Z,Z⟩
    ·refine Ag f Z a1 ?_
     refine Ak (Af ?_)
     refine Aj f Z Z AH λa f=>Ac f Z λa f=>Aa ?_
     have⟨bc,bd,hd⟩:=bind_some hd
     refine AT (λa w=>∃be:Bool,be=bc∧∃(bf:GH),GLe ai bf∧Fr a 84 [(2,(pb ad)),(5,(.func (.func 83) #[] #[])),(6,(.func (.func 84) #[] #[])),(7,(.func (.func 85) #[] #[(pb ae)])),(10,(iv aa)),(47,(.bool be))]∧Mem W bf w (ib ad 72 [(iv aa),(iv ab),(iv ac)]::ib ae 3 [(iv x1)]::H)) ?_ ?_
     ·rcases Ae bd with⟨bg,bd⟩|⟨bg,bd⟩
      ·refine Al f Z bg ?_
       refine Aq ?_
       obtain rfl:=sj bd
       exact⟨_,Z,_,gr,f.k Z,m⟩
      ·refine Ag f Z bg ?_
       refine Ai ?_
       refine Aj f Z Z AH λa f=>Ac f Z λa f=>Aa ?_
       obtain rfl:=sj bd
       exact⟨_,Z,_,gr,f.k Z,m⟩
     ·rintro a w ⟨be,rfl,bf,bh,f,m⟩
      rcases Ae hd with⟨bi,hd⟩|⟨bi,hd⟩
      ·refine Al f Z bi ?_
       refine Af ?_
       refine Ab f Z λa f=>Az underlying72 Z sizeOf2 f Z λa f=>An 0 1 m Pl2 f Z Z Z Z λa f=> ?_
       have m:Mem W bf w (ib ae 3 [(iv x1)]::ib ad 72 [(iv aa),(iv ab),(iv ac)]::H):=m.fr 1
       have⟨bj,bk,hd⟩:=bind_some hd
       refine Ce f Z Z Z call85 (Wk.r m bk) λbl bm bn w bo m bp a f=> ?_
       obtain⟨rfl,rfl⟩:=bp
       refine Ab f Z λa f=> ?_
       have⟨bq,br,hd⟩:=bind_some hd
       refine Bg 5 (λa w=>∃bs,GLe bm bs∧Mem W bs w (ib ae 3 [(iv x1)]::ib ad 72 [(iv aa),(iv ab),(iv ac)]::H)∧Fr a 84 [(2,(pb ad)),(5,(.func (.func 83) #[] #[])),(6,(.func (.func 84) #[] #[])),(7,(.func (.func 85) #[] #[(pb ae)])),(10,(iv aa)),(47,(.bool be)),(50,(.func (.func 85) #[] #[(pb ae)])),(51,(.pointer (some ⟨ad,1,none⟩))),(52,(iv ab)),(53,(.bool bj)),(54,(.bool bj)),(59,(.bool bq))]) ?_ ?_
       ·rcases Ae br with⟨bt,br⟩|⟨bt,br⟩
        ·refine Aw f bt ?_
         refine Ab f Z λa f=>Aw f bt ?_
         refine Az underlying72 Z sizeOf2 f Z λa f=>Aw f bt ?_
         refine An 1 2 m Pl2 f Z Z Z Z λa f=>Aw f bt ?_
         have⟨bu,bv,br⟩:=bind_some br
         refine Ce f Z Z Z call85 (Wk.r m bv) λbw bx bz w bA m bB a f=> ?_
         obtain⟨rfl,rfl⟩:=bB
         refine l_o f (AK (f.e Z) bt (f.e Z)) λa f=> ?_
         obtain rfl:=sj br
         exact⟨_,bA,m,f.k Z⟩
        ·refine Au f bt λa f=> ?_
         refine Au f bt λa f=>Au f bt λa f=>Au f bt λa f=>l_o f (AM (f.e Z) bt (f.e Z)) λa f=> ?_
         obtain rfl:=sj br
         exact⟨_,gr,m,f.k Z⟩
       ·rintro a w ⟨bs,bC,m,f⟩
        refine Ac f Z λa f=>Aa ?_
        refine Ao ?_
        have m:Mem W bs w H:=Mem.drop (H':=[ib ae 3 [(iv x1)],ib ad 72 [(iv aa),(iv ab),(iv ac)]]) m
        obtain rfl:=sj hd
        exact⟨[(.bool bq)],f.g Z,f.d,_,[],(gt ak (gt bh (gt bo bC))),m,Z,Z⟩
      ·refine Ag f Z bi ?_
       refine Af ?_
       refine Aj f Z Z AH λa f=>Ac f Z λa f=>Aa ?_
       rcases Ae hd with⟨bD,hd⟩|⟨bD,hd⟩
       ·refine Al f Z bD ?_
        refine Af ?_
        refine Ab f Z λa f=>Az underlying72 Z sizeOf2 f Z λa f=>An 0 1 m Pl2 f Z Z Z Z λa f=> ?_
        have⟨bE,bF,hd⟩:=bind_some hd
        refine Ce f Z Z Z call83 (Wk.E m bF) λbG bH bI w bJ m bK a f=> ?_
        obtain⟨rfl,rfl⟩:=bK
        refine Ab f Z λa f=> ?_
        have⟨bL,bM,hd⟩:=bind_some hd
        refine Bg 5 (λa w=>∃bN,GLe bH bN∧Mem W bN w (ib ad 72 [(iv aa),(iv ab),(iv ac)]::ib ae 3 [(iv x1)]::H)∧Fr a 84 [(2,(pb ad)),(5,(.func (.func 83) #[] #[])),(6,(.func (.func 84) #[] #[])),(7,(.func (.func 85) #[] #[(pb ae)])),(10,(iv aa)),(60,(.bool (aa==7))),(62,(.func (.func 83) #[] #[])),(63,(.pointer (some ⟨ad,1,none⟩))),(64,(iv ab)),(65,(.bool bE)),(66,(.bool bE)),(71,(.bool bL))]) ?_ ?_
        ·rcases Ae bM with⟨bO,bM⟩|⟨bO,bM⟩
         ·refine Aw f bO ?_
          refine Ab f Z λa f=>Aw f bO ?_
          refine Az underlying72 Z sizeOf2 f Z λa f=>Aw f bO ?_
          refine An 0 2 m Pl2 f Z Z Z Z λa f=>Aw f bO ?_
          have m:Mem W bH w (ib ae 3 [(iv x1)]::ib ad 72 [(iv aa),(iv ab),(iv ac)]::H):=m.fr 1
          have⟨bP,bQ,bM⟩:=bind_some bM
          refine Ce f Z Z Z call85 (Wk.r m bQ) λbR bS bT w bU m bV a f=> ?_
          obtain⟨rfl,rfl⟩:=bV
          refine l_o f (AK (f.e Z) bO (f.e Z)) λa f=> ?_
          obtain rfl:=sj bM
          have m:Mem W bS w (ib ad 72 [(iv aa),(iv ab),(iv ac)]::ib ae 3 [(iv x1)]::H):=m.fr 1
          exact⟨_,bU,m,f.k Z⟩
         ·refine Au f bO λa f=> ?_
          refine Au f bO λa f=>Au f bO λa f=>Au f bO λa f=>l_o f (AM (f.e Z) bO (f.e Z)) λa f=> ?_
          obtain rfl:=sj bM
          exact⟨_,gr,m,f.k Z⟩
        ·rintro a w ⟨bN,bW,m,f⟩
         refine Ac f Z λa f=>Aa ?_
         refine Ao ?_
         have m:Mem W bN w H:=Mem.drop (H':=[ib ad 72 [(iv aa),(iv ab),(iv ac)],ib ae 3 [(iv x1)]]) m
         obtain rfl:=sj hd
         exact⟨[(.bool bL)],f.g Z,f.d,_,[],(gt ak (gt bh (gt bJ bW))),m,Z,Z⟩
       ·refine Ag f Z bD ?_
        refine Af ?_
        refine Aj f Z Z AH λa f=>Ac f Z λa f=>Aa ?_
        rcases Ae hd with⟨bX,hd⟩|⟨bX,hd⟩
        ·refine Al f Z bX ?_
         refine Af ?_
         refine Ab f Z λa f=>Az underlying72 Z sizeOf2 f Z λa f=>An 0 1 m Pl2 f Z Z Z Z λa f=> ?_
         have⟨bY,bZ,hd⟩:=bind_some hd
         refine Ce f Z Z Z call84 (Wk.k0 m bZ) λb0 b1 b2 w b3 m b4 a f=> ?_
         obtain⟨rfl,rfl⟩:=b4
         refine Ab f Z λa f=> ?_
         have⟨b5,b6,hd⟩:=bind_some hd
         refine Bg 5 (λa w=>∃b7,GLe b1 b7∧Mem W b7 w (ib ad 72 [(iv aa),(iv ab),(iv ac)]::ib ae 3 [(iv x1)]::H)∧Fr a 84 [(2,(pb ad)),(5,(.func (.func 83) #[] #[])),(6,(.func (.func 84) #[] #[])),(7,(.func (.func 85) #[] #[(pb ae)])),(72,(.bool (aa==8))),(74,(.func (.func 84) #[] #[])),(75,(.pointer (some ⟨ad,1,none⟩))),(76,(iv ab)),(77,(.bool bY)),(78,(.bool bY)),(83,(.bool b5))]) ?_ ?_
         ·rcases Ae b6 with⟨b8,b6⟩|⟨b8,b6⟩
          ·refine Aw f b8 ?_
           refine Ab f Z λa f=>Aw f b8 ?_
           refine Az underlying72 Z sizeOf2 f Z λa f=>Aw f b8 ?_
           refine An 0 2 m Pl2 f Z Z Z Z λa f=>Aw f b8 ?_
           have m:Mem W b1 w (ib ae 3 [(iv x1)]::ib ad 72 [(iv aa),(iv ab),(iv ac)]::H):=m.fr 1
           have⟨b9,ca,b6⟩:=bind_some b6
           refine Ce f Z Z Z call85 (Wk.r m ca) λcb cc cd w ce m cf a f=> ?_
           obtain⟨rfl,rfl⟩:=cf
           refine l_o f (AK (f.e Z) b8 (f.e Z)) λa f=> ?_
           obtain rfl:=sj b6
           have m:Mem W cc w (ib ad 72 [(iv aa),(iv ab),(iv ac)]::ib ae 3 [(iv x1)]::H):=m.fr 1
           exact⟨_,ce,m,f.k Z⟩
          ·refine Au f b8 λa f=> ?_
           refine Au f b8 λa f=>Au f b8 λa f=>Au f b8 λa f=>l_o f (AM (f.e Z) b8 (f.e Z)) λa f=> ?_
           obtain rfl:=sj b6
           exact⟨_,gr,m,f.k Z⟩
         ·rintro a w ⟨b7,cg,m,f⟩
          refine Ac f Z λa f=>Aa ?_
          refine Ao ?_
          have m:Mem W b7 w H:=Mem.drop (H':=[ib ad 72 [(iv aa),(iv ab),(iv ac)],ib ae 3 [(iv x1)]]) m
          obtain rfl:=sj hd
          exact⟨[(.bool b5)],f.g Z,f.d,_,[],(gt ak (gt bh (gt b3 cg))),m,Z,Z⟩
        ·refine Ag f Z bX ?_
         refine Aq ?_
         refine Af ?_
         refine Ac f Z λa f=>Aa ?_
         refine Ao ?_
         have m:Mem W bf w H:=Mem.drop (H':=[ib ad 72 [(iv aa),(iv ab),(iv ac)],ib ae 3 [(iv x1)]]) m
         obtain rfl:=sj hd
         exact⟨[(.bool false)],f.g Z,f.d,_,[],(gt ak bh),m,Z,Z⟩
theorem Wk.O {aa:Value}{ab:(List (Int×Int×Int))}(m:Mem W G w (H))(ac:RSr P3 G aa ab){y:Bool}(hd:D.O ab=some y):
  Calls prog 36 #[(.agg #[aa])] w (Res W G H (λ_ Ho v=>Ho=[]∧v=(.bool y))):=by
 refine Ax (args:=[(.agg #[aa])]) (N:=28) [.tmp 2] func36 Z Z (lb Z) Z λa f=> ?_
 unfold D.O at hd
 refine Af ?_
 refine A4 (cs:=[aa]) m f Z Z Z λad w a m f=>Ac f Z λa f=>Aa (Ak (Af ?_))
 refine Az underlying29 Z sizeOf27 f Z λa f=>An 0 0 m BG f Z Z Z Z λa f=>CZ underlying27 f Z Z ac λa f=>Aj f Z Z A3 λa f=>Ab f Z λa f=> ?_
 refine Bg 5 (λa w=>∃ae,GLe G ae∧Mem W ae w (ib ad 29 [aa]::H)∧Fr a 28 [(0,(.agg #[aa])),(1,(pb ad)),(5,(pb ad)),(6,aa),(7,(iv (ab.length:Int))),(8,(.bool (decide ((ab.length:Int)<1)))),(9,(.bool (decide ((ab.length:Int)<1)))),(14,(.bool ((decide ((ab.length:Int)<1))||(decide ((40:Int)<(ab.length:Int))))))]) ?_ ?_
 ·rcases Bool.eq_false_or_eq_true (decide ((ab.length:Int)<1)) with af|af
  ·refine Au f af λa f=> ?_
   refine Au f af λa f=>Au f af λa f=>Au f af λa f=>l_o f (AK (f.e Z) af (f.e Z)) λa f=> ?_
   exact⟨_,gr,m,f.weak ⟨Z,Z,Z,Z,Z,Z,Z,by rw[af];rfl,trivial⟩⟩
  ·refine Aw f af ?_
   refine Az underlying29 Z sizeOf27 f Z λa f=>Aw f af ?_
   refine An 0 0 m BG f Z Z Z Z λa f=>Aw f af ?_
   refine CZ underlying27 f Z Z ac λa f=>Aw f af ?_
   refine Aj f Z Z CS λa f=>l_o f (AM (f.e Z) af (f.e Z)) λa f=> ?_
   exact⟨_,gr,m,f.weak ⟨Z,Z,Z,Z,Z,Z,Z,by rw[af];rfl,trivial⟩⟩
 ·rintro a w ⟨ae,ag,m,f⟩
  have ac:=RSr.mono trivial _ _ _ _ ag ac
  refine Aa ?_
  rcases Ae hd with⟨ah,hd⟩|⟨ah,hd⟩
  ·refine Al f Z ah ?_
   refine Af ?_
   refine Ac f Z λa f=>Aa ?_
   refine Ao ?_
   have m:Mem W ae w H:=Mem.drop (H':=[ib ad 29 [aa]]) m
   obtain rfl:=sj hd
   exact⟨[(.bool false)],f.g Z,f.d,_,[],ag,m,Z,Z⟩
  ·refine Ag f Z ah ?_
   refine Aq ?_
   refine Ak (Af ?_)
   refine Az underlying29 Z sizeOf27 f Z λa f=>An 0 0 m BG f Z Z Z Z λa f=>CZ underlying27 f Z Z ac λa f=>Ab f Z λa f=>Aa ?_
   have⟨ai,aj,hd⟩:=bind_some hd
   refine AT (λa w=>∃q_39':Unit,ai= .inl q_39'∧∃(ak:GH),GLe ae ak∧Fr a 28 []∧Mem W ak w (H)) ?_ ?_
   ·refine As ?_
    have m:Mem W ae w H:=Mem.drop (H':=[ib ad 29 [aa]]) m
    refine A1 (λal a w=>∃am:Int,am=al∧∃(an:GH),GLe ae an∧Fr a 28 [(16,aa),(17,(iv (ab.length:Int))),(18,(iv am))]∧Mem W an w (H)) aj ⟨_,Z,_,gr,f.k Z,m⟩ ?_
    clear aj f m
    rintro al ao ap aq a w ⟨am,rfl,an,ar,f,m⟩
    have ac:=RSr.mono trivial _ _ _ _ ar ac
    refine Af ?_
    refine Aj f Z Z A3 λa f=>Aa (Ak ?_)
    rcases Ae ap with⟨au,ap⟩|⟨au,ap⟩
    ·refine Al f Z au ?_
     refine Aq ?_
     refine Ak (As (Af ?_))
     refine Ab f Z λa f=> ?_
     have⟨av,aw,ap⟩:=bind_some ap
     refine l_atR (E:=P3) T27 f Z Z Z ac aw λax a ay f=>C2 (E:=P3) [(iv av.1),(iv av.2.1),(iv av.2.2)] m Cj f Z Z ay Z λa f=>AR (cs:=[(iv 0),(iv 0),(iv 0)]) zeroValue72 m f Z Z λaz w a m f=>Ac f Z λa f=>Am 0 0 (ds:=[(iv av.1),(iv av.2.1),(iv av.2.2)]) m sizeOf72 f Z Z Z (Ah Z (Ah Z (Ah Z Ap))) Z (lb Z) Z λw m=>AD ?_
     refine Ar 0 0 (ds:=[(iv av.1),(iv av.2.1),(iv av.2.2)]) m Cj f Z Z Z Z Z λa f=>Ab f Z λa f=> ?_
     have⟨aA,aB,ap⟩:=bind_some ap
     refine Bb f Z call66 (Wk.c m aB) λaC w aD m a f=>l_o f (Br (f.e Z)) λa f=>Aa ?_
     rcases Ae ap with⟨aE,ap⟩|⟨aE,ap⟩
     ·refine Al f Z aE ?_
      refine Af ?_
      refine Ac f Z λa f=>Aa ?_
      refine Ao ?_
      have m:Mem W aC w H:=Mem.drop (H':=[ib az 72 [(iv av.1),(iv av.2.1),(iv av.2.2)]]) m
      obtain rfl:=sj ap
      obtain rfl:=aq _ rfl
      obtain rfl:=sj hd
      exact⟨[(.bool false)],f.g Z,f.d,_,[],(gt ag (gt ar aD)),m,Z,Z⟩
     ·refine Ag f Z aE ?_
      refine Aq ?_
      refine Ai ?_
      refine Aj f Z Z AA λa f=>Ab f Z λa f=>Aa ?_
      have m:Mem W aC w H:=Mem.drop (H':=[ib az 72 [(iv av.1),(iv av.2.1),(iv av.2.2)]]) m
      obtain rfl:=sj ap
      exact⟨_,Z,_,Z,_,(gt ar aD),f.k Z,m⟩
    ·refine Ag f Z au ?_
     refine AZ Z ?_
     obtain rfl:=sj ap
     obtain rfl:=aq _ rfl
     exact⟨_,Z,_,ar,f.weak trivial,m⟩
   ·rintro a w ⟨_,rfl,ak,aF,f,m⟩
    refine Af ?_
    refine Ac f Z λa f=>Aa ?_
    refine Ao ?_
    obtain rfl:=sj hd
    exact⟨[(.bool true)],f.g Z,f.d,_,[],(gt ag aF),m,Z,Z⟩
theorem Wk.e {x0:Int}(m:Mem W G w (H)){y:Int}(hd:D.e x0=some y):
  Calls prog 50 #[(iv x0)] w (Res W G H (λ_ Ho v=>Ho=[]∧v=(.int .u32 y))):=by
 refine Ax (args:=[(iv x0)]) (N:=5) [.tmp 2] func50 Z Z (lb Z) Z λa f=> ?_
 unfold D.e at hd
 refine Af ?_
 refine Ac f Z λa f=>AD ?_
 refine Ab f Z λa f=> ?_
 obtain⟨aa,hd⟩:=Bs hd
 refine l_o f (CU (f.e Z) (f.e Z) aa) λa f=>Ac f Z λa f=>Aa ?_
 refine Ao ?_
 obtain rfl:=sj hd
 exact⟨[(.int .u32 (ishl .u32 1 x0))],f.g Z,f.d,_,[],gr,m,Z,Z⟩
theorem Wk.M {v0:Value}{x0:LI}(m:Mem W G w (H))(h0:R1 G v0 x0){y:Int}(hd:D.M x0=some y):
  Calls prog 29 #[v0] w (Res W G H (λ_ Ho v=>Ho=[]∧v=(.int .u32 y))):=by
 refine Ax (args:=[v0]) (N:=18) [.tmp 2] func29 Z Z (lb Z) Z λa f=> ?_
 unfold D.M at hd
 refine Af ?_
 refine Ac f Z λa f=>AD ?_
 refine Ac f Z λa f=>Aa (Ak (Af ?_))
 refine Ab f Z λa f=>Bc underlying30 f Z Z h0 λa f=>Ab f Z λa f=>Aa ?_
 have⟨aa,ab,hd⟩:=bind_some hd
 refine AT (λa w=>∃ac:Int,ac=aa∧∃(ad:GH),GLe G ad∧Fr a 18 [(3,(.int .u32 ac))]∧Mem W ad w (H)) ?_ ?_
 ·refine As ?_
  refine A1 (λae a w=>∃af:Int,∃ag:Int,(af,ag)=ae∧∃(ah:GH),GLe G ah∧Fr a 18 [(3,(.int .u32 af)),(6,v0),(7,(iv (x0.length:Int))),(8,(iv ag))]∧Mem W ah w (H)) ab ⟨_,_,Z,_,gr,f.k Z,m⟩ ?_
  clear ab f m
  rintro ae ai aj ak a w ⟨af,ag,rfl,ah,al,f,m⟩
  have h0:=rd1 al h0
  refine Af ?_
  refine Aj f Z Z A3 λa f=>Aa (Ak ?_)
  rcases Ae aj with⟨am,aj⟩|⟨am,aj⟩
  ·refine Al f Z am ?_
   refine Aq ?_
   refine Ak (As (Af ?_))
   have⟨an,ao,aj⟩:=bind_some aj
   refine BT T30 f Z Z Z h0 ao λap aq a ar au f=> ?_
   subst au
   refine Bh m Pl2 f Z Z ar λa f=>Ac f Z λa f=>Aa (Ai ?_)
   refine Ab f Z λa f=>Ab f Z λa f=> ?_
   have⟨av,aw,aj⟩:=bind_some aj
   refine Bb f Z call50 (Wk.e m aw) λax w ay m a f=>Aj f Z Z b_or λa f=>Ac f Z λa f=>Aa (Ai ?_)
   refine Aj f Z Z AA λa f=>Ab f Z λa f=>Aa ?_
   obtain rfl:=sj aj
   exact⟨_,Z,_,_,Z,_,(gt al ay),f.k Z,m⟩
  ·refine Ag f Z am ?_
   refine AZ Z ?_
   obtain rfl:=sj aj
   obtain rfl:=ak _ rfl
   exact⟨_,Z,_,al,f.k Z,m⟩
 ·rintro a w ⟨ac,rfl,ad,az,f,m⟩
  refine Af ?_
  refine Ab f Z λa f=>Ac f Z λa f=>Aa ?_
  refine Ao ?_
  obtain rfl:=sj hd
  exact⟨[(.int .u32 ac)],f.g Z,f.d,_,[],az,m,Z,Z⟩
theorem Wk.n0 {aa:Value}{ab:LL}(m:Mem W G w (H))(ac:R2 G aa ab){y:(LI)}(hd:D.n0 ab=some y):
  Calls prog 57 #[(.agg #[aa])] w (Res W G H (λG' Ho v=>∃r0:Value,∃i0:Itm,Ho=[i0]∧r0=v∧Ow (RI .u32) 60 G' i0 r0 y)):=by
 refine Ax (args:=[(.agg #[aa])]) (N:=21) [.tmp 2] func57 Z Z (lb Z) Z λa f=> ?_
 unfold D.n0 at hd
 refine Af ?_
 refine A4 (cs:=[aa]) m f Z Z Z λad w a m f=>Ac f Z λa f=>AD ?_
 refine AI (R:=(RI .u32)) (xs:=([]:LI)) (RI.one _) m T86 f Z Z Z (by decide) (All2.nil _) λae af w a m ag f=>Ac f Z λa f=>Aa (Ak (Af ?_))
 refine Az underlying26 Z sizeOf24 f Z λa f=>An 1 0 m Bx f Z Z Z Z λa f=>Bc underlying24 f Z Z ac λa f=>Ab f Z λa f=>Aa ?_
 have⟨ah,ai,hd⟩:=bind_some hd
 refine AT (λa w=>∃aj:LI,aj=ah∧∃(ak:GH) (al:Value) (am:Itm),GLe G ak∧Fr a 21 [(3,al)]∧Mem W ak w (am::H)∧Ow (RI .u32) 60 ak am al aj) ?_ ?_
 ·refine As ?_
  have m:=m.eraseAt 1
  refine A1 (λan a w=>∃ao:LI,∃ap:Int,(ao,ap)=an∧∃(aq:GH) (ar:Value) (au:Itm),GLe G aq∧Fr a 21 [(3,ar),(8,aa),(9,(iv (ab.length:Int))),(10,(iv ap))]∧Mem W aq w (au::H)∧Ow (RI .u32) 60 aq au ar ao) ai ⟨_,_,Z,_,af,ae,gr,f.k Z,m,ag⟩ ?_
  clear ai f m
  rintro an av aw ax a w ⟨ao,ap,rfl,aq,ar,au,ay,f,m,az⟩
  have ac:=rd2 ay ac
  refine Af ?_
  refine Aj f Z Z A3 λa f=>Aa (Ak ?_)
  rcases Ae aw with⟨aA,aw⟩|⟨aA,aw⟩
  ·refine Al f Z aA ?_
   refine Aq ?_
   refine Ak (As (Af ?_))
   have⟨aB,aC,aw⟩:=bind_some aw
   refine BT T24 f Z Z Z ac aC λaD aE a aF aG f=>Bh m BO f Z Z aF λa f=>Ac f Z λa f=>Aa (Ai ?_)
   refine Ab f Z λa f=>Ab f Z λa f=> ?_
   have⟨aH,aI,aw⟩:=bind_some aw
   refine Bb f Z call29 (Wk.M m aG aI) λaJ w aK m a f=> ?_
   have az:=od1 aK az
   refine AI (R:=(RI .u32)) (xs:=([aH]:LI)) (RI.one _) m T86 f Z Z Z (by decide) (All2.cons Z (All2.nil _)) λaL aM w a m aN f=> ?_
   have⟨aO,aP,aw⟩:=bind_some aw
   refine AP (RI.one _) 1 m az Z T86 Z (by decide) f Z Z Z (Ow.src (j:=0) aN m Z) aP λaQ aR w a m aS f=>Ac f Z λa f=>Aa (Ai ?_)
   refine Aj f Z Z AA λa f=>Ab f Z λa f=>Aa ?_
   have m:=m.fr 1
   have m:=m.eraseAt 1
   obtain rfl:=sj aw
   exact⟨_,Z,_,_,Z,_,aR,aQ,(gt ay aK),f.k Z,m,aS⟩
  ·refine Ag f Z aA ?_
   refine AZ Z ?_
   obtain rfl:=sj aw
   obtain rfl:=ax _ rfl
   exact⟨_,Z,_,ar,au,ay,f.k Z,m,az⟩
 ·rintro a w ⟨aj,rfl,ak,al,am,aT,f,m,aU⟩
  refine Af ?_
  refine Ab f Z λa f=>Ac f Z λa f=>Aa ?_
  refine Ao ?_
  obtain rfl:=sj hd
  exact⟨[al],f.g Z,f.d,_,[am],aT,m,_,_,Z,Z,aU⟩
theorem Wk.L {aa:Value}{ab:(List (Int×Int×Int))}(m:Mem W G w (H))(ac:RSr P3 G aa ab){y:(LI)}(hd:D.L ab=some y):
  Calls prog 43 #[(.agg #[aa])] w (Res W G H (λG' Ho v=>∃r0:Value,∃i0:Itm,Ho=[i0]∧r0=v∧Ow (RI .u32) 60 G' i0 r0 y)):=by
 refine Ax (args:=[(.agg #[aa])]) (N:=87) [.tmp 2] func43 Z Z (lb Z) Z λa f=> ?_
 unfold D.L at hd
 refine Af ?_
 refine A4 (cs:=[aa]) m f Z Z Z λad w a m f=>Ac f Z λa f=>AD ?_
 refine AI (R:=(RI .u32)) (xs:=([]:LI)) (RI.one _) m T77 f Z Z Z (by decide) (All2.nil _) λae af w a m ag f=>Ac f Z λa f=>Aa (Ak (Af ?_))
 refine Az underlying29 Z sizeOf27 f Z λa f=>An 1 0 m BG f Z Z Z Z λa f=>CZ underlying27 f Z Z ac λa f=>Ab f Z λa f=>Aa ?_
 have⟨ah,ai,hd⟩:=bind_some hd
 refine AT (λa w=>∃aj:LI,aj=ah∧∃(ak:GH) (al:Value) (am:Itm),GLe G ak∧Fr a 87 [(3,al)]∧Mem W ak w (am::H)∧Ow (RI .u32) 60 ak am al aj) ?_ ?_
 ·refine As ?_
  have m:=m.eraseAt 1
  refine A1 (λan a w=>∃ao:LI,∃ap:Int,(ao,ap)=an∧∃(aq:GH) (ar:Value) (au:Itm),GLe G aq∧Fr a 87 [(3,ar),(9,aa),(10,(iv (ab.length:Int))),(11,(iv ap))]∧Mem W aq w (au::H)∧Ow (RI .u32) 60 aq au ar ao) ai ⟨_,_,Z,_,af,ae,gr,f.k Z,m,ag⟩ ?_
  clear ai f m
  rintro an av aw ax a w ⟨ao,ap,rfl,aq,ar,au,ay,f,m,az⟩
  have ac:=RSr.mono trivial _ _ _ _ ay ac
  refine Af ?_
  refine Aj f Z Z A3 λa f=>Aa (Ak ?_)
  rcases Ae aw with⟨aA,aw⟩|⟨aA,aw⟩
  ·refine Al f Z aA ?_
   refine Aq ?_
   refine Ak (As (Af ?_))
   have⟨aB,aC,aw⟩:=bind_some aw
   refine l_atR (E:=P3) T27 f Z Z Z ac aC λaD a aE f=>C2 (E:=P3) [(iv aB.1),(iv aB.2.1),(iv aB.2.2)] m Cj f Z Z aE Z λa f=>AR (cs:=[(iv 0),(iv 0),(iv 0)]) zeroValue72 m f Z Z λaF w a m f=>Am 0 0 (ds:=[(iv aB.1),(iv aB.2.1),(iv aB.2.2)]) m sizeOf72 f Z Z Z (Ah Z (Ah Z (Ah Z Ap))) Z (lb Z) Z λw m=>AD ?_
   refine Ac f Z λa f=>Aa (Ak (Af ?_))
   refine Az underlying72 Z sizeOf2 f Z λa f=>An 0 0 m Pl2 f Z Z Z Z λa f=>Aa (As (Ak (Af ?_)))
   refine Aj f Z Z AH λa f=>Ac f Z λa f=>Aa ?_
   have⟨aG,aH,aw⟩:=bind_some aw
   refine AT (λa w=>∃aI:Bool,aI=aG∧∃(aJ:GH),GLe aq aJ∧Fr a 87 [(3,ar),(5,(pb aF)),(6,(.int .u32 0)),(9,aa),(10,(iv (ab.length:Int))),(11,(iv ap)),(16,(iv aB.1)),(17,(.bool aI))]∧Mem W aJ w (ib aF 72 [(iv aB.1),(iv aB.2.1),(iv aB.2.2)]::au::H)) ?_ ?_
   ·rcases Ae aH with⟨aK,aH⟩|⟨aK,aH⟩
    ·refine Al f Z aK ?_
     refine Aq ?_
     obtain rfl:=sj aH
     exact⟨_,Z,_,gr,f.k Z,m⟩
    ·refine Ag f Z aK ?_
     refine Ai ?_
     refine Aj f Z Z AH λa f=>Ac f Z λa f=>Aa ?_
     obtain rfl:=sj aH
     exact⟨_,Z,_,gr,f.k Z,m⟩
   ·rintro a w ⟨aI,rfl,aJ,aL,f,m⟩
    have az:=od1 aL az
    rcases Ae aw with⟨aM,aw⟩|⟨aM,aw⟩
    ·refine Al f Z aM ?_
     refine Bl 8 AQ (by kernel_rfl) m ?_
     refine A5 0 8 underlying72 Z sizeOf2 Z f Z λa f=>Be 1 8 0 Pl2 Z Z Z f Z λa f=> ?_
     have⟨aN,aO,aw⟩:=bind_some aw
     refine BE (i:=2) 8 Z (by kernel_rfl) Z f Z Z Z call50 (λ_ _ w aP m=>Wk.e m aO) λa f=>A5 3 8 underlying72 Z sizeOf2 Z f Z λa f=>Be 4 8 0 Pl2 Z Z Z f Z λa f=> ?_
     have⟨aQ,aR,aw⟩:=bind_some aw
     refine BE (i:=5) 8 Z (by kernel_rfl) Z f Z Z Z call50 (λ_ _ w aS m=>Wk.e m aR) λa f=>q_p 6 8 Z f (λ_=>Bo (f.e Z) (f.e Z) b_or) λa f=>q_p 7 8 Z f (λ_=>Bi (f.e Z)) λa f=>A2 λaT w aU m=> ?_
     have az:=od1 aU az
     refine Aa (Ai ?_)
     refine Ab f Z λa f=>Ab f Z λa f=>AI (R:=(RI .u32)) (xs:=([(ior .u32 aN aQ)]:LI)) (RI.one _) m T77 f Z Z Z (by decide) (All2.cons Z (All2.nil _)) λaV aW w a m aX f=> ?_
     have⟨aY,aZ,aw⟩:=bind_some aw
     refine AP (RI.one _) 2 m az Z T77 Z (by decide) f Z Z Z (Ow.src (j:=0) aX m Z) aZ λa0 a1 w a m a2 f=>Ac f Z λa f=>Aa (Ai ?_)
     refine Aj f Z Z AA λa f=>Ab f Z λa f=>Aa ?_
     have m:=m.fr 2
     have m:=m.eraseAt 2
     have m:=m.eraseAt 1
     obtain rfl:=sj aw
     exact⟨_,Z,_,_,Z,_,a1,a0,(gt ay (gt aL aU)),f.k Z,m,a2⟩
    ·refine Ag f Z aM ?_
     refine Af ?_
     refine Aj f Z Z AH λa f=>Ac f Z λa f=>Aa ?_
     rcases Ae aw with⟨a3,aw⟩|⟨a3,aw⟩
     ·refine Al f Z a3 ?_
      refine Bl 9 AQ (by kernel_rfl) m ?_
      refine A5 0 9 underlying72 Z sizeOf2 Z f Z λa f=>Be 1 9 0 Pl2 Z Z Z f Z λa f=> ?_
      have⟨a4,a5,aw⟩:=bind_some aw
      refine BE (i:=2) 9 Z (by kernel_rfl) Z f Z Z Z call50 (λ_ _ w a6 m=>Wk.e m a5) λa f=>A5 3 9 underlying72 Z sizeOf2 Z f Z λa f=>Be 4 9 0 Pl2 Z Z Z f Z λa f=>q_p 5 9 Z f (λ_=>Bo (f.e Z) (f.e Z) AA) λa f=> ?_
      have⟨a7,a8,aw⟩:=bind_some aw
      refine BE (i:=6) 9 Z (by kernel_rfl) Z f Z Z Z call50 (λ_ _ w a9 m=>Wk.e m a8) λa f=>q_p 7 9 Z f (λ_=>Bo (f.e Z) (f.e Z) b_or) λa f=>q_p 8 9 Z f (λ_=>Bi (f.e Z)) λa f=>A2 λba w bb m=> ?_
      have az:=od1 bb az
      refine Aa (Ai ?_)
      refine Ab f Z λa f=>Ab f Z λa f=>AI (R:=(RI .u32)) (xs:=([(ior .u32 a4 a7)]:LI)) (RI.one _) m T77 f Z Z Z (by decide) (All2.cons Z (All2.nil _)) λbc bd w a m be f=> ?_
      have⟨bf,bg,aw⟩:=bind_some aw
      refine AP (RI.one _) 2 m az Z T77 Z (by decide) f Z Z Z (Ow.src (j:=0) be m Z) bg λbh bi w a m bj f=>Ac f Z λa f=>Aa (Ai ?_)
      refine Aj f Z Z AA λa f=>Ab f Z λa f=>Aa ?_
      have m:=m.fr 2
      have m:=m.eraseAt 2
      have m:=m.eraseAt 1
      obtain rfl:=sj aw
      exact⟨_,Z,_,_,Z,_,bi,bh,(gt ay (gt aL bb)),f.k Z,m,bj⟩
     ·refine Ag f Z a3 ?_
      refine Af ?_
      refine Aj f Z Z AH λa f=>Ac f Z λa f=>Aa ?_
      rcases Ae aw with⟨bk,aw⟩|⟨bk,aw⟩
      ·refine Al f Z bk ?_
       refine Ai ?_
       refine Ab f Z λa f=>Az underlying72 Z sizeOf2 f Z λa f=>An 0 1 m Pl2 f Z Z Z Z λa f=> ?_
       have⟨bl,bm,aw⟩:=bind_some aw
       refine BQ 1 m az Z T77 f Z Z Z bm λbn a bo f=>BM 1 m az Z Pl60 f Z Z bo bm λbp a bq f=> ?_
       subst bq
       refine Ac f Z λa f=>Aa (Ai ?_)
       refine Ab f Z λa f=>Ab f Z λa f=>AI (R:=(RI .u32)) (xs:=([bl]:LI)) (RI.one _) m T77 f Z Z Z (by decide) (All2.cons Z (All2.nil _)) λbr bs w a m bt f=> ?_
       have⟨bu,bv,aw⟩:=bind_some aw
       refine AP (RI.one _) 2 m az Z T77 Z (by decide) f Z Z Z (Ow.src (j:=0) bt m Z) bv λbw bx w a m bz f=>Ac f Z λa f=>Aa (Ai ?_)
       refine Aj f Z Z AA λa f=>Ab f Z λa f=>Aa ?_
       have m:=m.fr 2
       have m:=m.eraseAt 2
       have m:=m.eraseAt 1
       obtain rfl:=sj aw
       exact⟨_,Z,_,_,Z,_,bx,bw,(gt ay aL),f.k Z,m,bz⟩
      ·refine Ag f Z bk ?_
       refine Ak (Af ?_)
       refine Aj f Z Z AH λa f=>Ac f Z λa f=>Aa ?_
       have⟨bA,bB,aw⟩:=bind_some aw
       refine AT (λa w=>∃bC:Bool,bC=bA∧∃(bD:GH),GLe aJ bD∧Fr a 87 [(3,ar),(5,(pb aF)),(6,(.int .u32 0)),(9,aa),(10,(iv (ab.length:Int))),(11,(iv ap)),(16,(iv aB.1)),(44,(.bool bC))]∧Mem W bD w (ib aF 72 [(iv aB.1),(iv aB.2.1),(iv aB.2.2)]::au::H)) ?_ ?_
       ·rcases Ae bB with⟨bE,bB⟩|⟨bE,bB⟩
        ·refine Al f Z bE ?_
         refine Aq ?_
         obtain rfl:=sj bB
         exact⟨_,Z,_,gr,f.k Z,m⟩
        ·refine Ag f Z bE ?_
         refine Ai ?_
         refine Aj f Z Z AH λa f=>Ac f Z λa f=>Aa ?_
         obtain rfl:=sj bB
         exact⟨_,Z,_,gr,f.k Z,m⟩
       ·rintro a w ⟨bC,rfl,bD,bF,f,m⟩
        have az:=od1 bF az
        rcases Ae aw with⟨bG,aw⟩|⟨bG,aw⟩
        ·refine Al f Z bG ?_
         refine Bl 12 AQ (by kernel_rfl) m ?_
         refine AE 0 12 Z f Z λa f=>A5 1 12 underlying72 Z sizeOf2 Z f Z λa f=>Be 2 12 0 Pl2 Z Z Z f Z λa f=> ?_
         have⟨bH,bI,aw⟩:=bind_some aw
         refine Cw 3 12 1 m az T77 bI Z f Z Z λbJ a bK f=>CI 4 12 1 az Pl60 bK bI Z f Z λbL a bM f=> ?_
         subst bM
         refine AE 5 12 Z f Z λa f=>A5 6 12 underlying72 Z sizeOf2 Z f Z λa f=>Be 7 12 0 Pl2 Z Z Z f Z λa f=> ?_
         have⟨bN,bO,aw⟩:=bind_some aw
         refine Cw 8 12 1 m az T77 bO Z f Z Z λbP a bQ f=>CI 9 12 1 az Pl60 bQ bO Z f Z λbR a bS f=> ?_
         subst bS
         refine q_p 10 12 Z f (λ_=>Bo (f.e Z) (f.e Z) b_or) λa f=>q_p 11 12 Z f (λ_=>Bi (f.e Z)) λa f=>A2 λbT w bU m=> ?_
         have az:=od1 bU az
         refine Aa (Ai ?_)
         refine Ab f Z λa f=>Ab f Z λa f=>AI (R:=(RI .u32)) (xs:=([(ior .u32 bH bN)]:LI)) (RI.one _) m T77 f Z Z Z (by decide) (All2.cons Z (All2.nil _)) λbV bW w a m bX f=> ?_
         have⟨bY,bZ,aw⟩:=bind_some aw
         refine AP (RI.one _) 2 m az Z T77 Z (by decide) f Z Z Z (Ow.src (j:=0) bX m Z) bZ λb0 b1 w a m b2 f=>Ac f Z λa f=>Aa (Ai ?_)
         refine Aj f Z Z AA λa f=>Ab f Z λa f=>Aa ?_
         have m:=m.fr 2
         have m:=m.eraseAt 2
         have m:=m.eraseAt 1
         obtain rfl:=sj aw
         exact⟨_,Z,_,_,Z,_,b1,b0,(gt ay (gt aL (gt bF bU))),f.k Z,m,b2⟩
        ·refine Ag f Z bG ?_
         refine Af ?_
         refine Aj f Z Z AH λa f=>Ac f Z λa f=>Aa ?_
         rcases Ae aw with⟨b3,aw⟩|⟨b3,aw⟩
         ·refine Al f Z b3 ?_
          refine Bl 10 AQ (by kernel_rfl) m ?_
          refine AE 0 10 Z f Z λa f=>A5 1 10 underlying72 Z sizeOf2 Z f Z λa f=>Be 2 10 0 Pl2 Z Z Z f Z λa f=> ?_
          have⟨b4,b5,aw⟩:=bind_some aw
          refine Cw 3 10 1 m az T77 b5 Z f Z Z λb6 a b7 f=>CI 4 10 1 az Pl60 b7 b5 Z f Z λb8 a b9 f=> ?_
          subst b9
          refine A5 5 10 underlying72 Z sizeOf2 Z f Z λa f=>Be 6 10 0 Pl2 Z Z Z f Z λa f=> ?_
          have⟨ca,cb,aw⟩:=bind_some aw
          refine BE (i:=7) 10 Z (by kernel_rfl) Z f Z Z Z call50 (λ_ _ w cc m=>Wk.e m cb) λa f=>q_p 8 10 Z f (λ_=>Bo (f.e Z) (f.e Z) DL) λa f=>q_p 9 10 Z f (λ_=>Bi (f.e Z)) λa f=>A2 λcd w ce m=> ?_
          have az:=od1 ce az
          refine Aa (Ai ?_)
          refine Ab f Z λa f=>Ab f Z λa f=>AI (R:=(RI .u32)) (xs:=([(iandNot .u32 b4 ca)]:LI)) (RI.one _) m T77 f Z Z Z (by decide) (All2.cons Z (All2.nil _)) λcf cg w a m ch f=> ?_
          have⟨ci,cj,aw⟩:=bind_some aw
          refine AP (RI.one _) 2 m az Z T77 Z (by decide) f Z Z Z (Ow.src (j:=0) ch m Z) cj λck cl w a m cm f=>Ac f Z λa f=>Aa (Ai ?_)
          refine Aj f Z Z AA λa f=>Ab f Z λa f=>Aa ?_
          have m:=m.fr 2
          have m:=m.eraseAt 2
          have m:=m.eraseAt 1
          obtain rfl:=sj aw
          exact⟨_,Z,_,_,Z,_,cl,ck,(gt ay (gt aL (gt bF ce))),f.k Z,m,cm⟩
         ·refine Ag f Z b3 ?_
          refine Af ?_
          refine Aj f Z Z AH λa f=>Ac f Z λa f=>Aa ?_
          rcases Ae aw with⟨cn,aw⟩|⟨cn,aw⟩
          ·refine Al f Z cn ?_
           refine Bl 11 AQ (by kernel_rfl) m ?_
           refine AE 0 11 Z f Z λa f=>A5 1 11 underlying72 Z sizeOf2 Z f Z λa f=>Be 2 11 0 Pl2 Z Z Z f Z λa f=> ?_
           have⟨co,cp,aw⟩:=bind_some aw
           refine Cw 3 11 1 m az T77 cp Z f Z Z λcq a cr f=>CI 4 11 1 az Pl60 cr cp Z f Z λct a cu f=> ?_
           subst cu
           refine A5 5 11 underlying72 Z sizeOf2 Z f Z λa f=>Be 6 11 0 Pl2 Z Z Z f Z λa f=>q_p 7 11 Z f (λ_=>Bo (f.e Z) (f.e Z) AA) λa f=> ?_
           have⟨cv,cw,aw⟩:=bind_some aw
           refine BE (i:=8) 11 Z (by kernel_rfl) Z f Z Z Z call50 (λ_ _ w cx m=>Wk.e m cw) λa f=>q_p 9 11 Z f (λ_=>Bo (f.e Z) (f.e Z) DL) λa f=>q_p 10 11 Z f (λ_=>Bi (f.e Z)) λa f=>A2 λcy w cz m=> ?_
           have az:=od1 cz az
           refine Aa (Ai ?_)
           refine Ab f Z λa f=>Ab f Z λa f=>AI (R:=(RI .u32)) (xs:=([(iandNot .u32 co cv)]:LI)) (RI.one _) m T77 f Z Z Z (by decide) (All2.cons Z (All2.nil _)) λcA cB w a m cC f=> ?_
           have⟨cD,cE,aw⟩:=bind_some aw
           refine AP (RI.one _) 2 m az Z T77 Z (by decide) f Z Z Z (Ow.src (j:=0) cC m Z) cE λcF cG w a m cH f=>Ac f Z λa f=>Aa (Ai ?_)
           refine Aj f Z Z AA λa f=>Ab f Z λa f=>Aa ?_
           have m:=m.fr 2
           have m:=m.eraseAt 2
           have m:=m.eraseAt 1
           obtain rfl:=sj aw
           exact⟨_,Z,_,_,Z,_,cG,cF,(gt ay (gt aL (gt bF cz))),f.k Z,m,cH⟩
          ·refine Ag f Z cn ?_
           refine Aq ?_
           refine Ai ?_
           refine Ab f Z λa f=>Ab f Z λa f=>AI (R:=(RI .u32)) (xs:=([0]:LI)) (RI.one _) m T77 f Z Z Z (by decide) (All2.cons Z (All2.nil _)) λcI cJ w a m cK f=> ?_
           have⟨cL,cM,aw⟩:=bind_some aw
           refine AP (RI.one _) 2 m az Z T77 Z (by decide) f Z Z Z (Ow.src (j:=0) cK m Z) cM λcN cO w a m cP f=>Ac f Z λa f=>Aa (Ai ?_)
           refine Aj f Z Z AA λa f=>Ab f Z λa f=>Aa ?_
           have m:=m.fr 2
           have m:=m.eraseAt 2
           have m:=m.eraseAt 1
           obtain rfl:=sj aw
           exact⟨_,Z,_,_,Z,_,cO,cN,(gt ay (gt aL bF)),f.k Z,m,cP⟩
  ·refine Ag f Z aA ?_
   refine AZ Z ?_
   obtain rfl:=sj aw
   obtain rfl:=ax _ rfl
   exact⟨_,Z,_,ar,au,ay,f.k Z,m,az⟩
 ·rintro a w ⟨aj,rfl,ak,al,am,cQ,f,m,cR⟩
  refine Af ?_
  refine Ab f Z λa f=>Ac f Z λa f=>Aa ?_
  refine Ao ?_
  obtain rfl:=sj hd
  exact⟨[al],f.g Z,f.d,_,[am],cQ,m,_,_,Z,Z,cR⟩
theorem Wk.T {aa:Value}{ab:(List (Int×Int×Int))}(m:Mem W G w (H))(ac:RSr P3 G aa ab){y:((List Bool))}(hd:D.T ab=some y):
  Calls prog 58 #[(.agg #[aa])] w (Res W G H (λG' Ho v=>∃r0:Value,∃i0:Itm,Ho=[i0]∧r0=v∧Ow RB 4 G' i0 r0 y)):=by
 refine Ax (args:=[(.agg #[aa])]) (N:=56) [.tmp 2] func58 Z Z (lb Z) Z λa f=> ?_
 unfold D.T at hd
 refine Af ?_
 refine A4 (cs:=[aa]) m f Z Z Z λad w a m f=>Ac f Z λa f=>AD ?_
 refine AI (R:=RB) (xs:=([]:List Bool)) RB.one m T87 f Z Z Z (by decide) (All2.nil _) λae af w a m ag f=>AI (R:=R0) (xs:=([]:LI)) (RI.one _) m CR f Z Z Z (by decide) (All2.nil _) λah ai w a m aj f=>Ac f Z λa f=>Ac f Z λa f=>Aa (Ak (Af ?_))
 refine Az underlying29 Z sizeOf27 f Z λa f=>An 2 0 m BG f Z Z Z Z λa f=>CZ underlying27 f Z Z ac λa f=>Ab f Z λa f=>Aa ?_
 have⟨ak,al,hd⟩:=bind_some hd
 refine AT (λa w=>∃am:List Bool,am=ak∧∃(an:GH) (ao:Value) (ap:Itm),GLe G an∧Fr a 56 [(3,ao)]∧Mem W an w (ap::H)∧Ow RB 4 an ap ao am) ?_ ?_
 ·refine As ?_
  have m:=m.fr 1
  have m:=m.eraseAt 2
  refine A1 (λaq a w=>∃ar:List Bool,∃au:LI,∃av:Int,(ar,au,av)=aq∧∃(aw:GH) (ax:Value) (ay:Itm) (az:Value) (aA:Itm),GLe G aw∧Fr a 56 [(3,ax),(4,az),(11,aa),(12,(iv (ab.length:Int))),(13,(iv av))]∧Mem W aw w (ay::aA::H)∧Ow RB 4 aw ay ax ar∧Ow R0 3 aw aA az au) al ⟨_,_,_,Z,_,af,ae,ai,ah,gr,f.k Z,m,ag,aj⟩ ?_
  clear al f m
  rintro aq aB aC aD a w ⟨ar,au,av,rfl,aw,ax,ay,az,aA,aE,f,m,aF,aG⟩
  have ac:=RSr.mono trivial _ _ _ _ aE ac
  refine Af ?_
  refine Aj f Z Z A3 λa f=>Aa (Ak ?_)
  rcases Ae aC with⟨aH,aC⟩|⟨aH,aC⟩
  ·refine Al f Z aH ?_
   refine Aq ?_
   refine Ak (As (Af ?_))
   have⟨aI,aJ,aC⟩:=bind_some aC
   refine l_atR (E:=P3) T27 f Z Z Z ac aJ λaK a aL f=>C2 (E:=P3) [(iv aI.1),(iv aI.2.1),(iv aI.2.2)] m Cj f Z Z aL Z λa f=>AR (cs:=[(iv 0),(iv 0),(iv 0)]) zeroValue72 m f Z Z λaM w a m f=>Am 0 0 (ds:=[(iv aI.1),(iv aI.2.1),(iv aI.2.2)]) m sizeOf72 f Z Z Z (Ah Z (Ah Z (Ah Z Ap))) Z (lb Z) Z λw m=>AD ?_
   refine Ac f Z λa f=>Aa (Ak (Af ?_))
   refine Az underlying72 Z sizeOf2 f Z λa f=>An 0 0 m Pl2 f Z Z Z Z λa f=>Aa (As (Af ?_))
   refine Aj f Z Z AH λa f=>Ac f Z λa f=>Aa ?_
   rcases Ae aC with⟨aN,aC⟩|⟨aN,aC⟩
   ·refine Al f Z aN ?_
    refine Ai ?_
    refine Ab f Z λa f=>Ab f Z λa f=>Az underlying72 Z sizeOf2 f Z λa f=>An 0 1 m Pl2 f Z Z Z Z λa f=> ?_
    have⟨aO,aP,aC⟩:=bind_some aC
    refine BQ 2 m aG Z CR f Z Z Z aP λaQ a aR f=>BM 2 m aG Z Pl3 f Z Z aR aP λaS a aT f=> ?_
    subst aT
    refine Aj f Z Z AA λa f=>Ac f Z λa f=>AD ?_
    refine Ab f Z λa f=>Ab f Z λa f=>l_o f (r_min2 (f.e Z) (f.e Z)) λa f=>AI (R:=R0) (xs:=([(if(10000:Int)<(i64.wrap (1+aO)) then 10000 else(i64.wrap (1+aO)))]:LI)) (RI.one _) m CR f Z Z Z (by decide) (All2.cons Z (All2.nil _)) λaU aV w a m aW f=> ?_
    have⟨aX,aY,aC⟩:=bind_some aC
    refine AP (RI.one _) 3 m aG Z CR Z (by decide) f Z Z Z (Ow.src (j:=0) aW m Z) aY λaZ a0 w a m a1 f=>Ac f Z λa f=>Aa (Ai ?_)
    refine Ab f Z λa f=>Ab f Z λa f=>Aj f Z Z b_geq λa f=>AI (R:=RB) (xs:=([(decide ((10000:Int)≤(i64.wrap (1+aO))))]:List Bool)) RB.one m T87 f Z Z Z (by decide) (All2.cons Z (All2.nil _)) λa2 a3 w a m a4 f=> ?_
    have⟨a5,a6,aC⟩:=bind_some aC
    refine AP RB.one 3 m aF Z T87 Z (by decide) f Z Z Z (Ow.src (j:=0) a4 m Z) a6 λa7 a8 w a m a9 f=>Ac f Z λa f=>Aa (Ai ?_)
    refine Aj f Z Z AA λa f=>Ab f Z λa f=>Aa ?_
    have m:=m.fr 4
    have m:=m.fr 4
    have m:Mem W aw w (a7::aZ::a2::aU::H):=m.eraseAt 4
    have m:=m.eraseAt 3
    have m:=m.eraseAt 2
    obtain rfl:=sj aC
    exact⟨_,Z,_,_,_,Z,_,a8,a7,a0,aZ,aE,f.k Z,m,a9,a1⟩
   ·refine Ag f Z aN ?_
    refine Ak (Af ?_)
    refine Aj f Z Z AH λa f=>Ac f Z λa f=>Aa ?_
    have⟨ba,bb,aC⟩:=bind_some aC
    refine AT (λa w=>∃bc:Bool,bc=ba∧∃(bd:GH),GLe aw bd∧Fr a 56 [(3,ax),(4,az),(6,(pb aM)),(7,(iv 1)),(11,aa),(12,(iv (ab.length:Int))),(13,(iv av)),(28,(.bool bc))]∧Mem W bd w (ib aM 72 [(iv aI.1),(iv aI.2.1),(iv aI.2.2)]::ay::aA::H)) ?_ ?_
    ·rcases Ae bb with⟨be,bb⟩|⟨be,bb⟩
     ·refine Al f Z be ?_
      refine Aq ?_
      obtain rfl:=sj bb
      exact⟨_,Z,_,gr,f.k Z,m⟩
     ·refine Ag f Z be ?_
      refine Ai ?_
      refine Aj f Z Z AH λa f=>Ac f Z λa f=>Aa ?_
      obtain rfl:=sj bb
      exact⟨_,Z,_,gr,f.k Z,m⟩
    ·rintro a w ⟨bc,rfl,bd,bf,f,m⟩
     have aF:=Ow.mono RB.mono bf aF
     have aG:=od1 bf aG
     rcases Ae aC with⟨bg,aC⟩|⟨bg,aC⟩
     ·refine Al f Z bg ?_
      refine Bl 14 AQ (by kernel_rfl) m ?_
      refine AE 0 14 Z f Z λa f=>AE 1 14 Z f Z λa f=>A5 2 14 underlying72 Z sizeOf2 Z f Z λa f=>Be 3 14 0 Pl2 Z Z Z f Z λa f=> ?_
      have⟨bh,bi,aC⟩:=bind_some aC
      refine Cw 4 14 2 m aG CR bi Z f Z Z λbj a bk f=>CI 5 14 2 aG Pl3 bk bi Z f Z λbl a bm f=> ?_
      subst bm
      refine AE 6 14 Z f Z λa f=>A5 7 14 underlying72 Z sizeOf2 Z f Z λa f=>Be 8 14 0 Pl2 Z Z Z f Z λa f=> ?_
      have⟨bn,bo,aC⟩:=bind_some aC
      refine Cw 9 14 2 m aG CR bo Z f Z Z λbp a bq f=>CI 10 14 2 aG Pl3 bq bo Z f Z λbr a bs f=> ?_
      subst bs
      refine q_p 11 14 Z f (λ_=>Bo (f.e Z) (f.e Z) AA) λa f=>q_p 12 14 Z f (λ_=>Bo (f.e Z) (f.e Z) AA) λa f=>q_p 13 14 Z f (λ_=>Bi (f.e Z)) λa f=>A2 λbt w bu m=> ?_
      have aF:=Ow.mono RB.mono bu aF
      have aG:=od1 bu aG
      refine AD ?_
      refine Ab f Z λa f=>Ab f Z λa f=>l_o f (r_min2 (f.e Z) (f.e Z)) λa f=>AI (R:=R0) (xs:=([(if(10000:Int)<(i64.wrap (1+(i64.wrap (bh+bn)))) then 10000 else(i64.wrap (1+(i64.wrap (bh+bn)))))]:LI)) (RI.one _) m CR f Z Z Z (by decide) (All2.cons Z (All2.nil _)) λbv bw w a m bx f=> ?_
      have⟨bz,bA,aC⟩:=bind_some aC
      refine AP (RI.one _) 3 m aG Z CR Z (by decide) f Z Z Z (Ow.src (j:=0) bx m Z) bA λbB bC w a m bD f=>Ac f Z λa f=>Aa (Ai ?_)
      refine Ab f Z λa f=>Ab f Z λa f=>Aj f Z Z b_geq λa f=>AI (R:=RB) (xs:=([(decide ((10000:Int)≤(i64.wrap (1+(i64.wrap (bh+bn))))))]:List Bool)) RB.one m T87 f Z Z Z (by decide) (All2.cons Z (All2.nil _)) λbE bF w a m bG f=> ?_
      have⟨bH,bI,aC⟩:=bind_some aC
      refine AP RB.one 3 m aF Z T87 Z (by decide) f Z Z Z (Ow.src (j:=0) bG m Z) bI λbJ bK w a m bL f=>Ac f Z λa f=>Aa (Ai ?_)
      refine Aj f Z Z AA λa f=>Ab f Z λa f=>Aa ?_
      have m:=m.fr 4
      have m:=m.fr 4
      have m:Mem W bt w (bJ::bB::bE::bv::H):=m.eraseAt 4
      have m:=m.eraseAt 3
      have m:=m.eraseAt 2
      obtain rfl:=sj aC
      exact⟨_,Z,_,_,_,Z,_,bK,bJ,bC,bB,(gt aE (gt bf bu)),f.k Z,m,bL,bD⟩
     ·refine Ag f Z bg ?_
      refine Aq ?_
      refine Af ?_
      refine Ab f Z λa f=>Ab f Z λa f=>l_o f (r_min2 (f.e Z) (f.e Z)) λa f=>AI (R:=R0) (xs:=([(if(10000:Int)<1 then 10000 else 1)]:LI)) (RI.one _) m CR f Z Z Z (by decide) (All2.cons Z (All2.nil _)) λbM bN w a m bO f=> ?_
      have⟨bP,bQ,aC⟩:=bind_some aC
      refine AP (RI.one _) 3 m aG Z CR Z (by decide) f Z Z Z (Ow.src (j:=0) bO m Z) bQ λbR bS w a m bT f=>Ac f Z λa f=>Aa (Ai ?_)
      refine Ab f Z λa f=>Ab f Z λa f=>Aj f Z Z b_geq λa f=>AI (R:=RB) (xs:=([(decide ((10000:Int)≤1))]:List Bool)) RB.one m T87 f Z Z Z (by decide) (All2.cons Z (All2.nil _)) λbU bV w a m bW f=> ?_
      have⟨bX,bY,aC⟩:=bind_some aC
      refine AP RB.one 3 m aF Z T87 Z (by decide) f Z Z Z (Ow.src (j:=0) bW m Z) bY λbZ b0 w a m b1 f=>Ac f Z λa f=>Aa (Ai ?_)
      refine Aj f Z Z AA λa f=>Ab f Z λa f=>Aa ?_
      have m:=m.fr 4
      have m:=m.fr 4
      have m:Mem W bd w (bZ::bR::bU::bM::H):=m.eraseAt 4
      have m:=m.eraseAt 3
      have m:=m.eraseAt 2
      obtain rfl:=sj aC
      exact⟨_,Z,_,_,_,Z,_,b0,bZ,bS,bR,(gt aE bf),f.k Z,m,b1,bT⟩
  ·refine Ag f Z aH ?_
   refine AZ Z ?_
   have m:=m.eraseAt 1
   obtain rfl:=sj aC
   obtain rfl:=aD _ rfl
   exact⟨_,Z,_,ax,ay,aE,f.k Z,m,aF⟩
 ·rintro a w ⟨am,rfl,an,ao,ap,b2,f,m,b3⟩
  refine Af ?_
  refine Ab f Z λa f=>Ac f Z λa f=>Aa ?_
  refine Ao ?_
  obtain rfl:=sj hd
  exact⟨[ao],f.g Z,f.d,_,[ap],b2,m,_,_,Z,Z,b3⟩
theorem Wk.F {aa ab:Value}{ac:LL}{ad:(List (Int×Int×Int))}(m:Mem W G w (H))(ae:R2 G aa ac)(af:RSr P3 G ab ad){y:Option ((LI)×((List (Int×Int×Int)))×(LI)×((List Bool))×((List (K6×Bool))))}(hd:D.F ac ad=some y):
  Calls prog 26 #[(.agg #[aa]),(.agg #[ab])] w (Res W G H (λG' Ho v=>(y=none∧Ho=[]∧v= .pointer none)∨(∃z,y=some z∧∃r0:Value,∃i0:Itm,∃r2:Value,∃r3:Value,∃i3:Itm,∃r5:Value,∃i5:Itm,∃r7:Value,∃i7:Itm,∃c9:Nat,Ho=[i0,i3,i5,i7,ib c9 90 [r0,r2,r3,r5,r7]]∧v=(pb c9)∧Ow (RI .u32) 60 G' i0 r0 z.1∧RSr P3 G' r2 z.2.1∧Ow (RI .u32) 60 G' i3 r3 z.2.2.1∧Ow RB 4 G' i5 r5 z.2.2.2.1∧OwMd G' i7 r7 z.2.2.2.2))):=by
 refine Ax (args:=[(.agg #[aa]),(.agg #[ab])]) (N:=23) [.tmp 4] func26 Z Z (lb Z) Z λa f=> ?_
 unfold D.F at hd
 refine Af ?_
 refine A4 (cs:=[aa]) m f Z Z Z λag w a m f=>A4 (cs:=[ab]) m f Z Z Z λah w a m f=>Ac f Z λa f=>Aa (Ak (Af ?_))
 refine Ar 1 0 (ds:=[aa]) m AO f Z Z Z Z Z λa f=> ?_
 have⟨ai,aj,hd⟩:=bind_some hd
 refine Bb f Z call56 (Wk.Z0 m ae aj) λak w al m a f=> ?_
 have ae:=rd2 al ae
 have af:=RSr.mono trivial _ _ _ _ al af
 refine l_o f (Br (f.e Z)) λa f=>Ab f Z λa f=> ?_
 have⟨am,an,hd⟩:=bind_some hd
 refine Bg 4 (λa w=>∃ao,GLe ak ao∧Mem W ao w (ib ah 29 [ab]::ib ag 26 [aa]::H)∧Fr a 23 [(0,(.agg #[aa])),(1,(.agg #[ab])),(2,(pb ag)),(3,(pb ah)),(5,(.agg #[aa])),(6,(.bool ai)),(7,(.bool (!ai))),(8,(.bool (!ai))),(12,(.bool am))]) ?_ ?_
 ·rcases Ae an with⟨ap,an⟩|⟨ap,an⟩
  ·refine Au f ap λa f=> ?_
   refine Au f ap λa f=>Au f ap λa f=>l_o f (AK (f.e Z) ap (f.e Z)) λa f=> ?_
   obtain rfl:=sj an
   exact⟨_,gr,m,f.k Z⟩
  ·refine Aw f ap ?_
   refine Ar 0 0 (ds:=[ab]) m Bd f Z Z Z Z Z λa f=>Aw f ap ?_
   have⟨aq,ar,an⟩:=bind_some an
   refine Bb f Z call36 (Wk.O m af ar) λau w av m a f=>Aw f ap ?_
   refine l_o f (Br (f.e Z)) λa f=>l_o f (AM (f.e Z) ap (f.e Z)) λa f=> ?_
   obtain rfl:=sj an
   exact⟨_,av,m,f.k Z⟩
 ·rintro a w ⟨ao,aw,m,f⟩
  have ae:=rd2 aw ae
  have af:=RSr.mono trivial _ _ _ _ aw af
  refine Aa ?_
  rcases Ae hd with⟨ax,hd⟩|⟨ax,hd⟩
  ·refine Al f Z ax ?_
   refine Af ?_
   refine Ac f Z λa f=>Aa ?_
   refine Ao ?_
   have m:Mem W ao w H:=Mem.drop (H':=[ib ah 29 [ab],ib ag 26 [aa]]) m
   obtain rfl:=sj hd
   exact⟨[(.pointer none)],f.g Z,f.d,_,[],(gt al aw),m,.inl ⟨Z,Z,Z⟩⟩
  ·refine Ag f Z ax ?_
   refine Aq ?_
   refine Ak ?_
   have⟨ay,az,hd⟩:=bind_some hd
   refine AT (λa w=>∃aA:LI,∃aB:LI,∃aC:List Bool,∃aD:List (K6×Bool),(aA,aB,aC,aD)=ay∧∃(aE:GH) (aF:Nat) (aG:Value) (aH:Itm) (aI:Value) (aJ:Itm) (aK:Value) (aL:Itm) (aM:Value) (aN:Itm),GLe ao aE∧Fr a 23 [(4,(pb aF))]∧Mem W aE w (ib aF 90 [aG,ab,aI,aK,aM]::aH::aJ::aL::aN::H)∧Ow (RI .u32) 60 aE aH aG aA∧Ow (RI .u32) 60 aE aJ aI aB∧Ow RB 4 aE aL aK aC∧OwMd aE aN aM aD) ?_ ?_
   ·refine Bl 8 AQ (by kernel_rfl) m ?_
    refine AY (i:=0) (ds:=[aa]) 8 1 AO Z Z Z Z (by kernel_rfl) Z f Z Z Z λa f=>AY (i:=2) (ds:=[ab]) 8 0 Bd Z Z Z Z (by kernel_rfl) Z f Z Z Z λa f=>AY (i:=3) (ds:=[ab]) 8 0 Bd Z Z Z Z (by kernel_rfl) Z f Z Z Z λa f=>AY (i:=5) (ds:=[ab]) 8 0 Bd Z Z Z Z (by kernel_rfl) Z f Z Z Z λa f=>C8 (i:=1) (j:=7) (l1:= #[true,true,true,true,false,true,false,false,false,false,false]) (l2:= #[true,false,true,true,false,true,false,true,false,false,false]) Z Z (by kernel_rfl) Z Z ?_ ?_
    ·intro aO w aP m aQ aQ
     have ae:=rd2 aP ae
     have af:=RSr.mono trivial _ _ _ _ aP af
     have⟨aR,aS,az⟩:=bind_some az
     refine Ay f Z call57 (Wk.n0 m ae aS) λaT aU aV w aW m aX a f=> ?_
     obtain⟨aY,aZ,rfl,rfl,a0⟩:=aX
     have af:=RSr.mono trivial _ _ _ _ aW af
     refine Aa ?_
     refine aQ aU [aZ] _ _ aW m ?_
     refine C8 (i:=4) (j:=7) (l1:= #[true,true,true,true,true,true,false,false,false,false,false]) (l2:= #[true,true,true,true,false,true,false,true,false,false,false]) Z Z (by kernel_rfl) Z Z ?_ ?_
     ·intro a1 w a2 m a3 a3
      have af:=RSr.mono trivial _ _ _ _ a2 af
      have a0:=od1 a2 a0
      have⟨a4,a5,az⟩:=bind_some az
      refine Ay f Z call43 (Wk.L m af a5) λa6 a7 a8 w a9 m ba a f=> ?_
      obtain⟨bb,bc,rfl,rfl,bd⟩:=ba
      have af:=RSr.mono trivial _ _ _ _ a9 af
      have a0:=od1 a9 a0
      refine Aa ?_
      refine a3 a7 [bc,aZ] _ _ a9 m ?_
      refine C8 (i:=6) (j:=7) (l1:= #[true,true,true,true,true,true,true,false,false,false,false]) (l2:= #[true,true,true,true,true,true,false,true,false,false,false]) Z Z (by kernel_rfl) Z Z ?_ ?_
      ·intro be w bf m bg bg
       have af:=RSr.mono trivial _ _ _ _ bf af
       have bd:=od1 bf bd
       have a0:=od1 bf a0
       have⟨bh,bi,az⟩:=bind_some az
       refine Ay f Z call58 (Wk.T m af bi) λbj bk bl w bm m bn a f=> ?_
       obtain⟨bo,bp,rfl,rfl,bq⟩:=bn
       have bd:=od1 bm bd
       have a0:=od1 bm a0
       refine Aa ?_
       refine bg bk [bp,bc,aZ] _ _ bm m ?_
       refine Bk 7 Z λbr w bs m bt bt=> ?_
       have bq:=Ow.mono RB.mono bs bq
       have bd:=od1 bs bd
       have a0:=od1 bs a0
       refine DH m f Z λbu bv w a m bw f=>Aa ?_
       refine bt br [bu,bp,bc,aZ] _ _ gr m ?_
       refine A2 λbx w bz m=> ?_
       have bw:=OwMd.mono trivial bz bw
       have bq:=Ow.mono RB.mono bz bq
       have bd:=od1 bz bd
       have a0:=od1 bz a0
       have bA:∀w,(Instr.build 90 #[(0,aY),(1,(.agg #[ab])),(2,bb),(3,bo),(4,bv)]).run prog w= .ok (.agg #[aY,ab,bb,bo,bv]) w:=by intro w;simp[Instr.build,Instr.fill,(Ow.cells 3 m a0 rfl),(Ow.cells 2 m bd rfl),(Ow.cells 1 m bq rfl),(OwMd.cells 0 m bw rfl),A7,AX,AN,AS,AG,A6]
       refine Bn f Z Z bA λa f=>A4 (cs:=[aY,ab,bb,bo,bv]) m f Z Z Z λbB w a m f=>Ac f Z λa f=>Aa ?_
       have m:=m.fr 2
       have m:=m.fr 3
       have m:Mem W bx w (aZ::bc::bp::ib bB 90 [aY,ab,bb,bo,bv]::bu::ib ah 29 [ab]::ib ag 26 [aa]::H):=m.fr 4
       have m:=m.fr 3
       have m:=m.eraseAt 6
       have m:Mem W bx w (ib bB 90 [aY,ab,bb,bo,bv]::aZ::bc::bp::bu::H):=m.eraseAt 5
       obtain rfl:=sj az
       exact⟨_,_,_,_,Z,_,bB,aY,aZ,bb,bc,bo,bp,bv,bu,(gt aP (gt aW (gt a2 (gt a9 (gt bf (gt bm (gt bs bz))))))),f.k Z,m,a0,bd,bq,bw⟩
      ·intro br w bs m bt bt
       have⟨bh,bi,az⟩:=bind_some az
       have af:=RSr.mono trivial _ _ _ _ bs af
       have bd:=od1 bs bd
       have a0:=od1 bs a0
       refine DH m f Z λbu bv w a m bw f=>Aa ?_
       refine bt br [bu,bc,aZ] _ _ gr m ?_
       refine Bk 6 Z λbe w bf m bg bg=> ?_
       have af:=RSr.mono trivial _ _ _ _ bf af
       have bw:=OwMd.mono trivial bf bw
       have bd:=od1 bf bd
       have a0:=od1 bf a0
       refine Ay f Z call58 (Wk.T m af bi) λbj bk bl w bm m bn a f=> ?_
       obtain⟨bo,bp,rfl,rfl,bq⟩:=bn
       have bw:=OwMd.mono trivial bm bw
       have bd:=od1 bm bd
       have a0:=od1 bm a0
       refine Aa ?_
       refine bg bk [bp,bu,bc,aZ] _ _ bm m ?_
       refine A2 λbx w bz m=> ?_
       have bq:=Ow.mono RB.mono bz bq
       have bw:=OwMd.mono trivial bz bw
       have bd:=od1 bz bd
       have a0:=od1 bz a0
       have bA:∀w,(Instr.build 90 #[(0,aY),(1,(.agg #[ab])),(2,bb),(3,bo),(4,bv)]).run prog w= .ok (.agg #[aY,ab,bb,bo,bv]) w:=by intro w;simp[Instr.build,Instr.fill,(Ow.cells 3 m a0 rfl),(Ow.cells 2 m bd rfl),(Ow.cells 0 m bq rfl),(OwMd.cells 1 m bw rfl),A7,AX,AN,AS,AG,A6]
       refine Bn f Z Z bA λa f=>A4 (cs:=[aY,ab,bb,bo,bv]) m f Z Z Z λbB w a m f=>Ac f Z λa f=>Aa ?_
       have m:=m.fr 3
       have m:=m.fr 4
       have m:Mem W bx w (ib bB 90 [aY,ab,bb,bo,bv]::aZ::bc::bp::bu::ib ah 29 [ab]::ib ag 26 [aa]::H):=m.fr 2
       have m:=m.eraseAt 6
       have m:Mem W bx w (ib bB 90 [aY,ab,bb,bo,bv]::aZ::bc::bp::bu::H):=m.eraseAt 5
       obtain rfl:=sj az
       exact⟨_,_,_,_,Z,_,bB,aY,aZ,bb,bc,bo,bp,bv,bu,(gt aP (gt aW (gt a2 (gt a9 (gt bs (gt bf (gt bm bz))))))),f.k Z,m,a0,bd,bq,bw⟩
     ·intro br w bs m bt bt
      have⟨a4,a5,az⟩:=bind_some az
      have⟨bh,bi,az⟩:=bind_some az
      have af:=RSr.mono trivial _ _ _ _ bs af
      have a0:=od1 bs a0
      refine DH m f Z λbu bv w a m bw f=>Aa ?_
      refine bt br [bu,aZ] _ _ gr m ?_
      refine Bk 4 Z λa1 w a2 m a3 a3=> ?_
      have af:=RSr.mono trivial _ _ _ _ a2 af
      have bw:=OwMd.mono trivial a2 bw
      have a0:=od1 a2 a0
      refine Ay f Z call43 (Wk.L m af a5) λa6 a7 a8 w a9 m ba a f=> ?_
      obtain⟨bb,bc,rfl,rfl,bd⟩:=ba
      have af:=RSr.mono trivial _ _ _ _ a9 af
      have bw:=OwMd.mono trivial a9 bw
      have a0:=od1 a9 a0
      refine Aa ?_
      refine a3 a7 [bc,bu,aZ] _ _ a9 m ?_
      refine Bk 6 Z λbe w bf m bg bg=> ?_
      have af:=RSr.mono trivial _ _ _ _ bf af
      have bd:=od1 bf bd
      have bw:=OwMd.mono trivial bf bw
      have a0:=od1 bf a0
      refine Ay f Z call58 (Wk.T m af bi) λbj bk bl w bm m bn a f=> ?_
      obtain⟨bo,bp,rfl,rfl,bq⟩:=bn
      have bd:=od1 bm bd
      have bw:=OwMd.mono trivial bm bw
      have a0:=od1 bm a0
      refine Aa ?_
      refine bg bk [bp,bc,bu,aZ] _ _ bm m ?_
      refine A2 λbx w bz m=> ?_
      have bq:=Ow.mono RB.mono bz bq
      have bd:=od1 bz bd
      have bw:=OwMd.mono trivial bz bw
      have a0:=od1 bz a0
      have bA:∀w,(Instr.build 90 #[(0,aY),(1,(.agg #[ab])),(2,bb),(3,bo),(4,bv)]).run prog w= .ok (.agg #[aY,ab,bb,bo,bv]) w:=by intro w;simp[Instr.build,Instr.fill,(Ow.cells 3 m a0 rfl),(Ow.cells 1 m bd rfl),(Ow.cells 0 m bq rfl),(OwMd.cells 2 m bw rfl),A7,AX,AN,AS,AG,A6]
      refine Bn f Z Z bA λa f=>A4 (cs:=[aY,ab,bb,bo,bv]) m f Z Z Z λbB w a m f=>Ac f Z λa f=>Aa ?_
      have m:=m.fr 2
      have m:=m.fr 4
      have m:Mem W bx w (ib bB 90 [aY,ab,bb,bo,bv]::aZ::bc::bp::bu::ib ah 29 [ab]::ib ag 26 [aa]::H):=m.fr 2
      have m:=m.eraseAt 6
      have m:Mem W bx w (ib bB 90 [aY,ab,bb,bo,bv]::aZ::bc::bp::bu::H):=m.eraseAt 5
      obtain rfl:=sj az
      exact⟨_,_,_,_,Z,_,bB,aY,aZ,bb,bc,bo,bp,bv,bu,(gt aP (gt aW (gt bs (gt a2 (gt a9 (gt bf (gt bm bz))))))),f.k Z,m,a0,bd,bq,bw⟩
    ·intro br w bs m bt bt
     have⟨aR,aS,az⟩:=bind_some az
     have⟨a4,a5,az⟩:=bind_some az
     have⟨bh,bi,az⟩:=bind_some az
     have ae:=rd2 bs ae
     have af:=RSr.mono trivial _ _ _ _ bs af
     refine DH m f Z λbu bv w a m bw f=>Aa ?_
     refine bt br [bu] _ _ gr m ?_
     refine Bk 1 Z λaO w aP m aQ aQ=> ?_
     have ae:=rd2 aP ae
     have af:=RSr.mono trivial _ _ _ _ aP af
     have bw:=OwMd.mono trivial aP bw
     refine Ay f Z call57 (Wk.n0 m ae aS) λaT aU aV w aW m aX a f=> ?_
     obtain⟨aY,aZ,rfl,rfl,a0⟩:=aX
     have af:=RSr.mono trivial _ _ _ _ aW af
     have bw:=OwMd.mono trivial aW bw
     refine Aa ?_
     refine aQ aU [aZ,bu] _ _ aW m ?_
     refine Bk 4 Z λa1 w a2 m a3 a3=> ?_
     have af:=RSr.mono trivial _ _ _ _ a2 af
     have a0:=od1 a2 a0
     have bw:=OwMd.mono trivial a2 bw
     refine Ay f Z call43 (Wk.L m af a5) λa6 a7 a8 w a9 m ba a f=> ?_
     obtain⟨bb,bc,rfl,rfl,bd⟩:=ba
     have af:=RSr.mono trivial _ _ _ _ a9 af
     have a0:=od1 a9 a0
     have bw:=OwMd.mono trivial a9 bw
     refine Aa ?_
     refine a3 a7 [bc,aZ,bu] _ _ a9 m ?_
     refine Bk 6 Z λbe w bf m bg bg=> ?_
     have af:=RSr.mono trivial _ _ _ _ bf af
     have bd:=od1 bf bd
     have a0:=od1 bf a0
     have bw:=OwMd.mono trivial bf bw
     refine Ay f Z call58 (Wk.T m af bi) λbj bk bl w bm m bn a f=> ?_
     obtain⟨bo,bp,rfl,rfl,bq⟩:=bn
     have bd:=od1 bm bd
     have a0:=od1 bm a0
     have bw:=OwMd.mono trivial bm bw
     refine Aa ?_
     refine bg bk [bp,bc,aZ,bu] _ _ bm m ?_
     refine A2 λbx w bz m=> ?_
     have bq:=Ow.mono RB.mono bz bq
     have bd:=od1 bz bd
     have a0:=od1 bz a0
     have bw:=OwMd.mono trivial bz bw
     have bA:∀w,(Instr.build 90 #[(0,aY),(1,(.agg #[ab])),(2,bb),(3,bo),(4,bv)]).run prog w= .ok (.agg #[aY,ab,bb,bo,bv]) w:=by intro w;simp[Instr.build,Instr.fill,(Ow.cells 2 m a0 rfl),(Ow.cells 1 m bd rfl),(Ow.cells 0 m bq rfl),(OwMd.cells 3 m bw rfl),A7,AX,AN,AS,AG,A6]
     refine Bn f Z Z bA λa f=>A4 (cs:=[aY,ab,bb,bo,bv]) m f Z Z Z λbB w a m f=>Ac f Z λa f=>Aa ?_
     have m:=m.fr 2
     have m:=m.fr 3
     have m:Mem W bx w (ib bB 90 [aY,ab,bb,bo,bv]::aZ::bc::bp::bu::ib ah 29 [ab]::ib ag 26 [aa]::H):=m.fr 2
     have m:=m.eraseAt 6
     have m:Mem W bx w (ib bB 90 [aY,ab,bb,bo,bv]::aZ::bc::bp::bu::H):=m.eraseAt 5
     obtain rfl:=sj az
     exact⟨_,_,_,_,Z,_,bB,aY,aZ,bb,bc,bo,bp,bv,bu,(gt bs (gt aP (gt aW (gt a2 (gt a9 (gt bf (gt bm bz))))))),f.k Z,m,a0,bd,bq,bw⟩
   ·rintro a w ⟨aA,aB,aC,aD,rfl,aE,aF,aG,aH,aI,aJ,aK,aL,aM,aN,bC,f,m,bD,bE,bF,bG⟩
    have af:=RSr.mono trivial _ _ _ _ bC af
    refine Ao ?_
    have m:=m.fr 4
    have m:=m.fr 4
    have m:Mem W aE w (aJ::aL::aN::ib aF 90 [aG,ab,aI,aK,aM]::aH::H):=m.fr 4
    have m:Mem W aE w (aH::aJ::aL::aN::ib aF 90 [aG,ab,aI,aK,aM]::H):=m.fr 4
    obtain rfl:=sj hd
    exact⟨[(pb aF)],f.g Z,f.d,_,[aH,aJ,aL,aN,ib aF 90 [aG,ab,aI,aK,aM]],(gt al (gt aw bC)),m,.inr ⟨_,Z,_,_,_,_,_,_,_,_,_,_,Z,Z,bD,af,bE,bF,bG⟩⟩
theorem Wk.q {aa:Value}{ab:LL}{x1:Int}(m:Mem W G w (H))(ac:R2 G aa ab){y:Bool}(hd:D.q ab x1=some y):
  Calls prog 27 #[(.agg #[aa]),(iv x1)] w (Res W G H (λ_ Ho v=>Ho=[]∧v=(.bool y))):=by
 refine Ax (args:=[(.agg #[aa]),(iv x1)]) (N:=15) [.tmp 4] func27 Z Z (lb Z) Z λa f=> ?_
 unfold D.q at hd
 refine Af ?_
 refine A4 (cs:=[aa]) m f Z Z Z λad w a m f=>Ac f Z λa f=>AD ?_
 refine Ar 0 0 (ds:=[aa]) m AO f Z Z Z Z Z λa f=> ?_
 have⟨ae,af,hd⟩:=bind_some hd
 refine Bb f Z call59 (Wk.N m ac af) λag w ah m a f=> ?_
 have ac:=rd2 ah ac
 refine Ab f Z λa f=> ?_
 have⟨ai,aj,hd⟩:=bind_some hd
 refine Bg 7 (λa w=>∃ak,GLe ag ak∧Mem W ak w (ib ad 26 [aa]::H)∧Fr a 15 [(0,(.agg #[aa])),(1,(iv x1)),(2,(pb ad)),(5,(.agg #[aa])),(6,(.bool ae)),(7,(.bool ae)),(14,(.bool ai))]) ?_ ?_
 ·rcases Ae aj with⟨al,aj⟩|⟨al,aj⟩
  ·refine Aw f al ?_
   refine Ab f Z λa f=>Aw f al ?_
   refine Az underlying26 Z sizeOf24 f Z λa f=>Aw f al ?_
   refine An 0 0 m Bx f Z Z Z Z λa f=>Aw f al ?_
   refine Bc underlying24 f Z Z ac λa f=>Aw f al ?_
   refine Aj f Z Z Bw λa f=>Aw f al ?_
   have⟨am,an,aj⟩:=bind_some aj
   refine Bb f Z call60 (Wk.p m an) λao w ap m a f=>l_o f (AK (f.e Z) al (f.e Z)) λa f=> ?_
   obtain rfl:=sj aj
   exact⟨_,ap,m,f.k Z⟩
  ·refine Au f al λa f=> ?_
   refine Au f al λa f=>Au f al λa f=>Au f al λa f=>Au f al λa f=>Au f al λa f=>l_o f (AM (f.e Z) al (f.e Z)) λa f=> ?_
   obtain rfl:=sj aj
   exact⟨_,gr,m,f.k Z⟩
 ·rintro a w ⟨ak,aq,m,f⟩
  refine Ac f Z λa f=>Aa ?_
  refine Ao ?_
  have m:Mem W ak w H:=Mem.drop (H':=[ib ad 26 [aa]]) m
  obtain rfl:=sj hd
  exact⟨[(.bool ai)],f.g Z,f.d,_,[],(gt ah aq),m,Z,Z⟩
theorem Wk.A {aa v1:Value}{ab:LL}{x1:LI}(m:Mem W G w (H))(ac:R2 G aa ab)(h1:R1 G v1 x1){y:Bool}(hd:D.A ab x1=some y):
  Calls prog 28 #[(.agg #[aa]),v1] w (Res W G H (λ_ Ho v=>Ho=[]∧v=(.bool y))):=by
 refine Ax (args:=[(.agg #[aa]),v1]) (N:=14) [.tmp 4] func28 Z Z (lb Z) Z λa f=> ?_
 unfold D.A at hd
 refine Af ?_
 refine A4 (cs:=[aa]) m f Z Z Z λad w a m f=>Ac f Z λa f=>AD ?_
 refine Ar 0 0 (ds:=[aa]) m AO f Z Z Z Z Z λa f=> ?_
 have⟨ae,af,hd⟩:=bind_some hd
 refine Bb f Z call59 (Wk.N m ac af) λag w ah m a f=> ?_
 have ac:=rd2 ah ac
 have h1:=rd1 ah h1
 refine Ab f Z λa f=> ?_
 have⟨ai,aj,hd⟩:=bind_some hd
 refine Bg 6 (λa w=>∃ak,GLe ag ak∧Mem W ak w (ib ad 26 [aa]::H)∧Fr a 14 [(0,(.agg #[aa])),(1,v1),(2,(pb ad)),(5,(.agg #[aa])),(6,(.bool ae)),(7,(.bool ae)),(13,(.bool ai))]) ?_ ?_
 ·rcases Ae aj with⟨al,aj⟩|⟨al,aj⟩
  ·refine Aw f al ?_
   refine Ab f Z λa f=>Aw f al ?_
   refine Az underlying26 Z sizeOf24 f Z λa f=>Aw f al ?_
   refine An 0 0 m Bx f Z Z Z Z λa f=>Aw f al ?_
   refine Bc underlying24 f Z Z ac λa f=>Aw f al ?_
   have⟨am,an,aj⟩:=bind_some aj
   refine Bb f Z call61 (Wk.Y m h1 an) λao w ap m a f=>l_o f (AK (f.e Z) al (f.e Z)) λa f=> ?_
   obtain rfl:=sj aj
   exact⟨_,ap,m,f.k Z⟩
  ·refine Au f al λa f=> ?_
   refine Au f al λa f=>Au f al λa f=>Au f al λa f=>Au f al λa f=>l_o f (AM (f.e Z) al (f.e Z)) λa f=> ?_
   obtain rfl:=sj aj
   exact⟨_,gr,m,f.k Z⟩
 ·rintro a w ⟨ak,aq,m,f⟩
  refine Ac f Z λa f=>Aa ?_
  refine Ao ?_
  have m:Mem W ak w H:=Mem.drop (H':=[ib ad 26 [aa]]) m
  obtain rfl:=sj hd
  exact⟨[(.bool ai)],f.g Z,f.d,_,[],(gt ah aq),m,Z,Z⟩
theorem Wk.v {x0 x1:Int}(m:Mem W G w (H)){y:Bool}(hd:D.v x0 x1=some y):
  Calls prog 91 #[(.int .u32 x0),(iv x1)] w (Res W G H (λ_ Ho v=>Ho=[]∧v=(.bool y))):=by
 refine Ax (args:=[(.int .u32 x0),(iv x1)]) (N:=10) [.tmp 4] func91 Z Z (lb Z) Z λa f=> ?_
 unfold D.v at hd
 refine Af ?_
 refine Ac f Z λa f=>AD ?_
 refine Ab f Z λa f=>Ab f Z λa f=> ?_
 obtain⟨aa,hd⟩:=Bs hd
 refine l_o f (Dd (f.e Z) (f.e Z) aa) λa f=>Aj f Z Z C6 λa f=>Aj f Z Z AH λa f=>Ac f Z λa f=>Aa ?_
 refine Ao ?_
 obtain rfl:=sj hd
 exact⟨[(.bool ((iand .u32 (BC .u32 x0 x1) 1)==1))],f.g Z,f.d,_,[],gr,m,Z,Z⟩
end Go.Proofs.YtblebdlmoffmjaaDoor

set_option maxRecDepth 100000
namespace Go.Proofs.YtblebdlmoffmjaaDoor
open Go Go.Sx
open Go.Proofs.Tryd Go.Proofs.YtblebdlmoffmjaaDoor.Tryd IntKind
variable {W w : World} {G : GH} {H : List Itm}
theorem Pl86 :BH prog 86:=isAgg86
theorem Pl77 :BH prog 77:=isAgg77
theorem CH :Agg prog 63 5:=⟨isAgg63,sizeOf63⟩
theorem Pl4 :BH prog 4:=isAgg4
theorem Pl87 :BH prog 87:=isAgg87
theorem Md116 :AskT prog 116:=⟨_,_,63,_,_,60,Tryd.t3,Tryd.t60,⟨underlying116,underlying63,rfl,rfl,rfl,rfl,rfl,by decide,by decide,by decide,by decide,underlying58,underlying61,underlying3,underlying60,by kernel_rfl,by kernel_rfl,by kernel_rfl,by kernel_rfl,isAgg3,isAgg63,isAgg58,isAgg61,isAgg60,sizeOf63,sizeOf58,sizeOf61,Tryd.stoodInHeld116,Tryd.stoodInHeld63⟩⟩
theorem Ag116 :Agg prog 116 6:=⟨isAgg116,sizeOf116⟩
theorem Pl88 :BH prog 88:=isAgg88
theorem Wk.c1 {x0:Int}(m:Mem W G w (H)){y:Int}(hd:D.c1 x0=some y):
  Calls prog 96 #[(iv x0)] w (Res W G H (λ_ Ho v=>Ho=[]∧v=(.int .u32 y))):=by
 refine Ax (args:=[(iv x0)]) (N:=6) [.tmp 2] func96 Z Z (lb Z) Z λa f=> ?_
 unfold D.c1 at hd
 refine Af ?_
 refine Ac f Z λa f=>AD ?_
 refine Ab f Z λa f=> ?_
 obtain⟨aa,hd⟩:=Bs hd
 refine l_o f (CU (f.e Z) (f.e Z) aa) λa f=>Aj f Z Z Bw λa f=>Ac f Z λa f=>Aa ?_
 refine Ao ?_
 obtain rfl:=sj hd
 exact⟨[(.int .u32 (IntKind.u32.wrap ((ishl .u32 1 x0)-1)))],f.g Z,f.d,_,[],gr,m,Z,Z⟩
theorem Wk.R {v0:Value}{x0:LI}(m:Mem W G w (H))(h0:RSl (RI .u32) G v0 x0){y:Int}(hd:D.R x0=some y):
  Calls prog 95 #[v0] w (Res W G H (λ_ Ho v=>Ho=[]∧v=(.int .u32 y))):=by
 refine Ax (args:=[v0]) (N:=6) [.tmp 2] func95 Z Z (lb Z) Z λa f=> ?_
 unfold D.R at hd
 refine Af ?_
 refine Ac f Z λa f=>AD ?_
 refine Ab f Z λa f=>Bc underlying86 f Z Z h0 λa f=> ?_
 have⟨aa,ab,hd⟩:=bind_some hd
 refine Bb f Z call96 (Wk.c1 m ab) λac w ad m a f=>Ac f Z λa f=>Aa ?_
 refine Ao ?_
 obtain rfl:=sj hd
 exact⟨[(.int .u32 aa)],f.g Z,f.d,_,[],ad,m,Z,Z⟩
theorem Wk.v0 {b0:Nat}{aa ab ac ad ae:Value}{af:Itm}{ag:LI}{ah:(List (Int×Int×Int))}{ai:LI}{aj:(List Bool)}{ak:(List (K6×Bool))}{x1 al am an ao ap:Int}(m:Mem W G w (ib b0 90 [aa,ab,ac,ad,ae]::af::H))(aq:RSl (RI .u32) G aa ag)(ar:RSr P3 G ab ah)(au:RSl (RI .u32) G ac ai)(av:RSl RB G ad aj)(aw:OwMd G af ae ak){y:Int×Int×Int×Int×Int×((List (K6×Bool)))}(hd:D.v0 ag ah ai aj ak x1 al am an ao ap=some y):
  Calls prog 81 #[(pb b0),(iv x1),(.agg #[(iv al),(iv am),(iv an),(.int .u32 ao),(.int .u32 ap)])] w (Res W G H (λG' Ho v=>∃r0:Value,∃i0:Itm,Ho=[ib b0 90 [aa,ab,ac,ad,r0],i0]∧v=(.agg #[(iv y.1),(iv y.2.1),(iv y.2.2.1),(.int .u32 y.2.2.2.1),(.int .u32 y.2.2.2.2.1)])∧OwMd G' i0 r0 y.2.2.2.2.2)):=by
 refine Ax (args:=[(pb b0),(iv x1),(.agg #[(iv al),(iv am),(iv an),(.int .u32 ao),(.int .u32 ap)])]) (N:=45) [.cell 6 63] func81 Z Z (lb Z) Z λa f=> ?_
 unfold D.v0 at hd
 refine Af ?_
 refine A4 (cs:=[(iv al),(iv am),(iv an),(.int .u32 ao),(.int .u32 ap)]) m f Z Z Z λax w a m f=>AR (cs:=[(iv 0),(iv 0),(iv 0),(.int .u32 0),(.int .u32 0)]) zeroValue63 m f Z Z λay w a m f=>Aa (Ak (Af ?_))
 refine Ab f Z λa f=>Aa ?_
 have⟨az,aA,hd⟩:=bind_some hd
 refine AT (λa w=>∃aB:Int,∃aC:Int,∃aD:Int,(aB,aC,aD)=az∧∃(aE:GH),GLe G aE∧Fr a 45 [(0,(pb b0)),(1,(iv x1)),(5,(pb ax)),(6,(pb ay))]∧Mem W aE w (ib b0 90 [aa,ab,ac,ad,ae]::ib ax 63 [(iv aB),(iv aC),(iv aD),(.int .u32 ao),(.int .u32 ap)]::ib ay 63 [(iv 0),(iv 0),(iv 0),(.int .u32 0),(.int .u32 0)]::af::H)) ?_ ?_
 ·refine As ?_
  have m:=m.fr 1
  have m:Mem W G w (ib b0 90 [aa,ab,ac,ad,ae]::ib ax 63 [(iv al),(iv am),(iv an),(.int .u32 ao),(.int .u32 ap)]::ib ay 63 [(iv 0),(iv 0),(iv 0),(.int .u32 0),(.int .u32 0)]::af::H):=m.fr 2
  refine A1 (λaF a w=>∃aG:Int,∃aH:Int,∃aI:Int,∃aJ:Int,(aG,aH,aI,aJ)=aF∧∃(aK:GH),GLe G aK∧Fr a 45 [(0,(pb b0)),(1,(iv x1)),(5,(pb ax)),(6,(pb ay)),(9,(iv aG))]∧Mem W aK w (ib b0 90 [aa,ab,ac,ad,ae]::ib ax 63 [(iv aH),(iv aI),(iv aJ),(.int .u32 ao),(.int .u32 ap)]::ib ay 63 [(iv 0),(iv 0),(iv 0),(.int .u32 0),(.int .u32 0)]::af::H)) aA ⟨_,_,_,_,Z,_,gr,f.k Z,m⟩ ?_
  clear aA f m
  rintro aF aL aM aN a w ⟨aG,aH,aI,aJ,rfl,aK,aO,f,m⟩
  have au:=rd1 aO au
  have aw:=OwMd.mono trivial aO aw
  refine Af ?_
  refine Aj f Z Z A3 λa f=>Aa (Ak ?_)
  rcases Ae aM with⟨aP,aM⟩|⟨aP,aM⟩
  ·refine Al f Z aP ?_
   refine Aq ?_
   refine Ak (As (Af ?_))
   refine Ab f Z λa f=>Ac f Z λa f=>AD ?_
   refine Ab f Z λa f=>l_o f (AU (f.e Z)) λa f=>Az underlying90 Z sizeOf77 f Z λa f=>An 0 2 m Pl77 f Z Z Z Z λa f=>Ab f Z λa f=> ?_
   have⟨aQ,aR,aM⟩:=bind_some aM
   refine BT T77 f Z Z Z au aR λaS aT a aU aV f=> ?_
   subst aV
   refine Bh m Pl60 f Z Z aU λa f=>Ab f Z λa f=> ?_
   have⟨aW,aX,aM⟩:=bind_some aM
   refine Bb f Z call91 (Wk.v m aX) λaY w aZ m a f=> ?_
   have aw:=OwMd.mono trivial aZ aw
   refine l_o f (Br (f.e Z)) λa f=>Aa ?_
   rcases Ae aM with⟨a0,aM⟩|⟨a0,aM⟩
   ·refine Al f Z a0 ?_
    refine Ai ?_
    refine Ab f Z λa f=>Az underlying63 Z sizeOf58 f Z λa f=> ?_
    have⟨a1,a2,aM⟩:=bind_some aM
    refine CM (cs:=([aH,aI,aJ]:LI)) underlying58 sizeOf3 Z a2 f Z Z Z λa f=>Am 1 (0+Int.toNat aG) (ds:=[(iv 0)]) m sizeOf3 f Z Z Z (Ah Z Ap) Z (boxLe (k:= .i64) (A:=[]) (B:=[(.int .u32 ao),(.int .u32 ap)]) (cs:=([aH,aI,aJ]:LI)) a2) (boxUp (k:= .i64) (A:=[]) (B:=[(.int .u32 ao),(.int .u32 ap)]) (cs:=([aH,aI,aJ]:LI)) 0 a2) λw m=>Aa (Ai ?_)
    refine Aj f Z Z AA λa f=>Ab f Z λa f=>Aa ?_
    obtain rfl:=sj aM
    exact⟨_,Z,_,_,_,_,Z,_,(gt aO aZ),f.k Z,m⟩
   ·refine Ag f Z a0 ?_
    refine Aq ?_
    refine Ai ?_
    refine Aj f Z Z AA λa f=>Ab f Z λa f=>Aa ?_
    obtain rfl:=sj aM
    exact⟨_,Z,_,_,_,_,Z,_,(gt aO aZ),f.k Z,m⟩
  ·refine Ag f Z aP ?_
   refine AZ Z ?_
   obtain rfl:=sj aM
   obtain rfl:=aN _ rfl
   exact⟨_,_,_,Z,_,aO,f.k Z,m⟩
 ·rintro a w ⟨aB,aC,aD,rfl,aE,a3,f,m⟩
  have au:=rd1 a3 au
  have aw:=OwMd.mono trivial a3 aw
  refine Ak (Af ?_)
  refine Ab f Z λa f=>Aa ?_
  have⟨a4,a5,hd⟩:=bind_some hd
  refine AT (λa w=>∃a6:Int,∃a7:Int,(a6,a7)=a4∧∃(a8:GH),GLe aE a8∧Fr a 45 [(5,(pb ax)),(6,(pb ay))]∧Mem W a8 w (ib ax 63 [(iv aB),(iv aC),(iv aD),(.int .u32 a6),(.int .u32 a7)]::ib ay 63 [(iv 0),(iv 0),(iv 0),(.int .u32 0),(.int .u32 0)]::ib b0 90 [aa,ab,ac,ad,ae]::af::H)) ?_ ?_
  ·refine As ?_
   refine A1 (λa9 a w=>∃ba:Int,∃bb:Int,∃bc:Int,(ba,bb,bc)=a9∧∃(bd:GH),GLe aE bd∧Fr a 45 [(0,(pb b0)),(1,(iv x1)),(5,(pb ax)),(6,(pb ay)),(26,(iv ba))]∧Mem W bd w (ib b0 90 [aa,ab,ac,ad,ae]::ib ax 63 [(iv aB),(iv aC),(iv aD),(.int .u32 bb),(.int .u32 bc)]::ib ay 63 [(iv 0),(iv 0),(iv 0),(.int .u32 0),(.int .u32 0)]::af::H)) a5 ⟨_,_,_,Z,_,gr,f.k Z,m⟩ ?_
   clear a5 f m
   rintro a9 be bf bg a w ⟨ba,bb,bc,rfl,bd,bh,f,m⟩
   have au:=rd1 bh au
   have aw:=OwMd.mono trivial bh aw
   refine Af ?_
   refine Aj f Z Z A3 λa f=>Aa (Ak ?_)
   rcases Ae bf with⟨bi,bf⟩|⟨bi,bf⟩
   ·refine Al f Z bi ?_
    refine Aq ?_
    refine Ak (As (Af ?_))
    refine Ab f Z λa f=>Ac f Z λa f=>AD ?_
    refine Ab f Z λa f=>l_o f (AU (f.e Z)) λa f=>Az underlying90 Z sizeOf77 f Z λa f=>An 0 2 m Pl77 f Z Z Z Z λa f=>Ab f Z λa f=> ?_
    have⟨bj,bk,bf⟩:=bind_some bf
    refine BT T77 f Z Z Z au bk λbl bm a bn bo f=> ?_
    subst bo
    refine Bh m Pl60 f Z Z bn λa f=>Ab f Z λa f=>Aj f Z Z AA λa f=> ?_
    have⟨bp,bq,bf⟩:=bind_some bf
    refine Bb f Z call91 (Wk.v m bq) λbr w bs m a f=> ?_
    have aw:=OwMd.mono trivial bs aw
    refine l_o f (Br (f.e Z)) λa f=>Aa ?_
    rcases Ae bf with⟨bt,bf⟩|⟨bt,bf⟩
    ·refine Al f Z bt ?_
     refine Ai ?_
     refine Ab f Z λa f=>Az underlying63 Z sizeOf61 f Z λa f=> ?_
     have⟨bu,bv,bf⟩:=bind_some bf
     refine CM (cs:=([bb,bc]:LI)) underlying61 sizeOf60 Z bv f Z Z Z λa f=>Am 1 (3+Int.toNat ba) (ds:=[(.int .u32 0)]) m sizeOf60 f Z Z Z (Ah Z Ap) Z (boxLe (k:= .u32) (A:=[(iv aB),(iv aC),(iv aD)]) (B:=[]) (cs:=([bb,bc]:LI)) bv) (boxUp (k:= .u32) (A:=[(iv aB),(iv aC),(iv aD)]) (B:=[]) (cs:=([bb,bc]:LI)) 0 bv) λw m=>Aa (Ai ?_)
     refine Aj f Z Z AA λa f=>Ab f Z λa f=>Aa ?_
     obtain rfl:=sj bf
     exact⟨_,Z,_,_,_,Z,_,(gt bh bs),f.k Z,m⟩
    ·refine Ag f Z bt ?_
     refine Aq ?_
     refine Ai ?_
     refine Aj f Z Z AA λa f=>Ab f Z λa f=>Aa ?_
     obtain rfl:=sj bf
     exact⟨_,Z,_,_,_,Z,_,(gt bh bs),f.k Z,m⟩
   ·refine Ag f Z bi ?_
    refine AZ Z ?_
    have m:=m.fr 2
    have m:Mem W bd w (ib ax 63 [(iv aB),(iv aC),(iv aD),(.int .u32 bb),(.int .u32 bc)]::ib ay 63 [(iv 0),(iv 0),(iv 0),(.int .u32 0),(.int .u32 0)]::ib b0 90 [aa,ab,ac,ad,ae]::af::H):=m.fr 2
    obtain rfl:=sj bf
    obtain rfl:=bg _ rfl
    exact⟨_,_,Z,_,bh,f.k Z,m⟩
  ·rintro a w ⟨a6,a7,rfl,a8,bw,f,m⟩
   have aw:=OwMd.mono trivial bw aw
   refine Af ?_
   refine Ar 0 0 (ds:=[(iv aB),(iv aC),(iv aD),(.int .u32 a6),(.int .u32 a7)]) m CH f Z Z Z Z Z λa f=>Am 1 0 (ds:=[(iv aB),(iv aC),(iv aD),(.int .u32 a6),(.int .u32 a7)]) m sizeOf63 f Z Z Z (Ah Z (Ah Z (Ah Z (Ah Z (Ah Z Ap))))) Z (lb Z) Z λw m=>Aa ?_
   refine Ao ?_
   have bx:=A9 (P:=prog) 1 m CH f (s:=6) rfl rfl rfl
   have m:=m.fr 3
   have m:=m.fr 3
   have m:Mem W a8 w (ib b0 90 [aa,ab,ac,ad,ae]::af::ib ax 63 [(iv aB),(iv aC),(iv aD),(.int .u32 a6),(.int .u32 a7)]::H):=m.eraseAt 3
   have m:=m.eraseAt 2
   obtain rfl:=sj hd
   exact⟨[(.agg #[(iv aB),(iv aC),(iv aD),(.int .u32 a6),(.int .u32 a7)])],⟨bx,trivial⟩,f.d,_,[ib b0 90 [aa,ab,ac,ad,ae],af],(gt a3 bw),m,_,_,Z,Z,aw⟩
theorem Wk.c0 {b0:Nat}{aa ab ac ad ae:Value}{af:Itm}{ag:LI}{ah:(List (Int×Int×Int))}{ai:LI}{aj:(List Bool)}{ak:(List (K6×Bool))}{al am an ao ap aq ar au:Int}{rec_:(LI)→((List (Int×Int×Int)))→(LI)→((List Bool))→((List (K6×Bool)))→Int→Int→Int→Int→Int→Int→Option (Bool×((List (K6×Bool))))}(hrec_:∀{w:World} {G:GH} {H:List Itm} {b0:Nat} {aa ab ac ad ae:Value} {af:Itm} {ag:LI} {ah:(List (Int×Int×Int))} {ai:LI} {aj:(List Bool)} {ak:(List (K6×Bool))} {x1 ao ap aq ar au:Int} (m:Mem W G w (ib b0 90 [aa,ab,ac,ad,ae]::af::H)) (av:RSl (RI .u32) G aa ag) (aw:RSr P3 G ab ah) (ax:RSl (RI .u32) G ac ai) (ay:RSl RB G ad aj) (az:OwMd G af ae ak) {y:Bool×((List (K6×Bool)))} (hd:rec_ ag ah ai aj ak x1 ao ap aq ar au=some y),Calls prog 62 #[(pb b0),(iv x1),(.agg #[(iv ao),(iv ap),(iv aq),(.int .u32 ar),(.int .u32 au)])] w (Res W G H (λG' Ho v=>∃r0:Value,∃i0:Itm,Ho=[ib b0 90 [aa,ab,ac,ad,r0],i0]∧v=(.bool y.1)∧OwMd G' i0 r0 y.2)))(m:Mem W G w (ib b0 90 [aa,ab,ac,ad,ae]::af::H))(av:RSl (RI .u32) G aa ag)(aw:RSr P3 G ab ah)(ax:RSl (RI .u32) G ac ai)(ay:RSl RB G ad aj)(az:OwMd G af ae ak){y:Bool×((List (K6×Bool)))}(hd:D.c0 rec_ ag ah ai aj ak al am an ao ap aq ar au=some y):
  Calls prog 92 #[(pb b0),(.agg #[(iv al),(iv am),(iv an)]),(.agg #[(iv ao),(iv ap),(iv aq),(.int .u32 ar),(.int .u32 au)])] w (Res W G H (λG' Ho v=>∃r0:Value,∃i0:Itm,Ho=[ib b0 90 [aa,ab,ac,ad,r0],i0]∧v=(.bool y.1)∧OwMd G' i0 r0 y.2)):=by
 refine Ax (args:=[(pb b0),(.agg #[(iv al),(iv am),(iv an)]),(.agg #[(iv ao),(iv ap),(iv aq),(.int .u32 ar),(.int .u32 au)])]) (N:=50) [.tmp 6] func92 Z Z (lb Z) Z λa f=> ?_
 unfold D.c0 at hd
 refine Af ?_
 refine A4 (cs:=[(iv al),(iv am),(iv an)]) m f Z Z Z λaA w a m f=>A4 (cs:=[(iv ao),(iv ap),(iv aq),(.int .u32 ar),(.int .u32 au)]) m f Z Z Z λaB w a m f=>Ac f Z λa f=>Aa (Ak (Af ?_))
 refine Az underlying72 Z sizeOf2 f Z λa f=>An 1 0 m Pl2 f Z Z Z Z λa f=>Aj f Z Z AH λa f=>Aa ?_
 rcases Ae hd with⟨aC,hd⟩|⟨aC,hd⟩
 ·refine Al f Z aC ?_
  refine Ak (Af ?_)
  refine Ab f Z λa f=>l_o f (AU (f.e Z)) λa f=>Az underlying90 Z sizeOf86 f Z λa f=>An 2 0 m Pl86 f Z Z Z Z λa f=>Bc underlying86 f Z Z av λa f=>Ab f Z λa f=>Aa ?_
  have⟨aD,aE,hd⟩:=bind_some hd
  refine AT (λa w=>∃q_46':(List (K6×Bool)),aD= .inl q_46'∧∃aF:List (K6×Bool),aF=q_46'∧∃(aG:GH) (aH:Value) (aI:Itm),GLe G aG∧Fr a 50 []∧Mem W aG w (ib b0 90 [aa,ab,ac,ad,aH]::aI::H)∧OwMd aG aI aH aF) ?_ ?_
  ·refine As ?_
   have m:=m.fr 1
   have m:Mem W G w (ib b0 90 [aa,ab,ac,ad,ae]::ib aA 72 [(iv al),(iv am),(iv an)]::ib aB 63 [(iv ao),(iv ap),(iv aq),(.int .u32 ar),(.int .u32 au)]::af::H):=m.fr 2
   refine A1 (λaJ a w=>∃aK:Int,∃aL:List (K6×Bool),∃aM:Int,∃aN:Int,∃aO:Int,(aK,aL,aM,aN,aO)=aJ∧∃(aP:GH) (aQ:Value) (aR:Itm),GLe G aP∧Fr a 50 [(0,(pb b0)),(4,(pb aA)),(5,(pb aB)),(16,(iv (ag.length:Int))),(17,(iv aK))]∧Mem W aP w (ib b0 90 [aa,ab,ac,ad,aQ]::ib aA 72 [(iv al),(iv am),(iv an)]::ib aB 63 [(iv aM),(iv aN),(iv aO),(.int .u32 ar),(.int .u32 au)]::aR::H)∧OwMd aP aR aQ aL) aE ⟨_,_,_,_,_,Z,_,ae,af,gr,f.k Z,m,az⟩ ?_
   clear aE f m
   rintro aJ aS aT aU a w ⟨aK,aL,aM,aN,aO,rfl,aP,aQ,aR,aV,f,m,aW⟩
   have av:=rd1 aV av
   have aw:=RSr.mono trivial _ _ _ _ aV aw
   have ax:=rd1 aV ax
   have ay:=RSl.mono RB.mono _ _ _ _ aV ay
   refine Af ?_
   refine Aj f Z Z A3 λa f=>Aa (Ak ?_)
   rcases Ae aT with⟨aX,aT⟩|⟨aX,aT⟩
   ·refine Al f Z aX ?_
    refine Aq ?_
    refine Ak (As (Af ?_))
    refine Ab f Z λa f=>Ac f Z λa f=>AD ?_
    refine Az underlying72 Z sizeOf2 f Z λa f=>An 1 1 m Pl2 f Z Z Z Z λa f=>Ab f Z λa f=>Az underlying63 Z sizeOf58 f Z λa f=> ?_
    have⟨aY,aZ,aT⟩:=bind_some aT
    refine CM (cs:=([aM,aN,aO]:LI)) underlying58 sizeOf3 Z aZ f Z Z Z λa f=>Am 2 (0+Int.toNat am) (ds:=[(iv aK)]) m sizeOf3 f Z Z Z (Ah Z Ap) Z (boxLe (k:= .i64) (A:=[]) (B:=[(.int .u32 ar),(.int .u32 au)]) (cs:=([aM,aN,aO]:LI)) aZ) (boxUp (k:= .i64) (A:=[]) (B:=[(.int .u32 ar),(.int .u32 au)]) (cs:=([aM,aN,aO]:LI)) aK aZ) λw m=>AD ?_
    refine Ab f Z λa f=>Az underlying72 Z sizeOf2 f Z λa f=>An 1 2 m Pl2 f Z Z Z Z λa f=>Ar 2 0 (ds:=[(iv (upd am 0 aK aM)),(iv (upd am 1 aK aN)),(iv (upd am 2 aK aO)),(.int .u32 ar),(.int .u32 au)]) m CH f Z Z Z Z Z λa f=> ?_
    have m:=m.fr 3
    have m:Mem W aP w (ib b0 90 [aa,ab,ac,ad,aQ]::aR::ib aA 72 [(iv al),(iv am),(iv an)]::ib aB 63 [(iv (upd am 0 aK aM)),(iv (upd am 1 aK aN)),(iv (upd am 2 aK aO)),(.int .u32 ar),(.int .u32 au)]::H):=m.fr 1
    have⟨a0,a1,aT⟩:=bind_some aT
    refine Ay f Z call62 (hrec_ m av aw ax ay aW a1) λa2 a3 a4 w a5 m a6 a f=> ?_
    obtain⟨a7,a8,rfl,rfl,a9⟩:=a6
    refine Aa ?_
    rcases Ae aT with⟨ba,aT⟩|⟨ba,aT⟩
    ·refine Al f Z ba ?_
     refine Af ?_
     refine Ac f Z λa f=>Aa ?_
     refine Ao ?_
     have m:=m.eraseAt 3
     have m:=m.eraseAt 2
     obtain rfl:=sj aT
     obtain rfl:=aU _ rfl
     obtain rfl:=sj hd
     exact⟨[(.bool true)],f.g Z,f.d,_,[ib b0 90 [aa,ab,ac,ad,a7],a8],(gt aV a5),m,_,_,Z,Z,a9⟩
    ·refine Ag f Z ba ?_
     refine Aq ?_
     refine Ai ?_
     refine Aj f Z Z AA λa f=>Ab f Z λa f=>Aa ?_
     have m:=m.fr 3
     have m:=m.fr 3
     have m:Mem W a3 w (ib b0 90 [aa,ab,ac,ad,a7]::ib aA 72 [(iv al),(iv am),(iv an)]::ib aB 63 [(iv (upd am 0 aK aM)),(iv (upd am 1 aK aN)),(iv (upd am 2 aK aO)),(.int .u32 ar),(.int .u32 au)]::a8::H):=m.fr 2
     obtain rfl:=sj aT
     exact⟨_,Z,_,_,_,_,_,Z,_,a7,a8,(gt aV a5),f.k Z,m,a9⟩
   ·refine Ag f Z aX ?_
    refine AZ Z ?_
    have m:=m.fr 3
    have m:=m.fr 1
    have m:Mem W aP w (ib b0 90 [aa,ab,ac,ad,aQ]::aR::ib aA 72 [(iv al),(iv am),(iv an)]::H):=m.eraseAt 3
    have m:=m.eraseAt 2
    obtain rfl:=sj aT
    obtain rfl:=aU _ rfl
    exact⟨_,Z,_,Z,_,aQ,aR,aV,f.weak trivial,m,aW⟩
  ·rintro a w ⟨_,rfl,aF,rfl,aG,aH,aI,bb,f,m,bc⟩
   refine Af ?_
   refine Ac f Z λa f=>Aa ?_
   refine Ao ?_
   obtain rfl:=sj hd
   exact⟨[(.bool false)],f.g Z,f.d,_,[ib b0 90 [aa,ab,ac,ad,aH],aI],bb,m,_,_,Z,Z,bc⟩
 ·refine Ag f Z aC ?_
  refine Aq ?_
  refine Ak (Af ?_)
  refine Ac f Z λa f=>Aa ?_
  have⟨bd,be,hd⟩:=bind_some hd
  refine AT (λa w=>∃q_153':(List (K6×Bool)),bd= .inl q_153'∧∃bf:List (K6×Bool),bf=q_153'∧∃(bg:GH) (bh:Value) (bi:Itm),GLe G bg∧Fr a 50 []∧Mem W bg w (ib b0 90 [aa,ab,ac,ad,bh]::bi::H)∧OwMd bg bi bh bf) ?_ ?_
  ·refine As ?_
   have m:=m.fr 1
   have m:Mem W G w (ib b0 90 [aa,ab,ac,ad,ae]::ib aA 72 [(iv al),(iv am),(iv an)]::ib aB 63 [(iv ao),(iv ap),(iv aq),(.int .u32 ar),(.int .u32 au)]::af::H):=m.fr 2
   refine A1 (λbj a w=>∃bk:Int,∃bl:List (K6×Bool),∃bm:Int,∃bn:Int,(bk,bl,bm,bn)=bj∧∃(bo:GH) (bp:Value) (bq:Itm),GLe G bo∧Fr a 50 [(0,(pb b0)),(4,(pb aA)),(5,(pb aB)),(8,(.int .u32 bk))]∧Mem W bo w (ib b0 90 [aa,ab,ac,ad,bp]::ib aA 72 [(iv al),(iv am),(iv an)]::ib aB 63 [(iv ao),(iv ap),(iv aq),(.int .u32 bm),(.int .u32 bn)]::bq::H)∧OwMd bo bq bp bl) be ⟨_,_,_,_,Z,_,ae,af,gr,f.k Z,m,az⟩ ?_
   clear be f m
   rintro bj br bs bt a w ⟨bk,bl,bm,bn,rfl,bo,bp,bq,bu,f,m,bv⟩
   have av:=rd1 bu av
   have aw:=RSr.mono trivial _ _ _ _ bu aw
   have ax:=rd1 bu ax
   have ay:=RSl.mono RB.mono _ _ _ _ bu ay
   refine Ak (Af ?_)
   refine Ab f Z λa f=>Ab f Z λa f=>l_o f (AU (f.e Z)) λa f=>Az underlying90 Z sizeOf86 f Z λa f=>An 0 0 m Pl86 f Z Z Z Z λa f=> ?_
   have⟨bw,bx,bs⟩:=bind_some bs
   refine Bb f Z call95 (Wk.R m av bx) λbz w bA m a f=> ?_
   have av:=rd1 bA av
   have aw:=RSr.mono trivial _ _ _ _ bA aw
   have ax:=rd1 bA ax
   have ay:=RSl.mono RB.mono _ _ _ _ bA ay
   have bv:=OwMd.mono trivial bA bv
   refine Aj f Z Z De λa f=>Aa ?_
   rcases Ae bs with⟨bB,bs⟩|⟨bB,bs⟩
   ·refine Al f Z bB ?_
    refine Aq ?_
    refine Ak (As (Af ?_))
    refine Az underlying72 Z sizeOf2 f Z λa f=>An 1 1 m Pl2 f Z Z Z Z λa f=>Ab f Z λa f=>Az underlying63 Z sizeOf61 f Z λa f=> ?_
    have⟨bC,bD,bs⟩:=bind_some bs
    refine CM (cs:=([bm,bn]:LI)) underlying61 sizeOf60 Z bD f Z Z Z λa f=>Am 2 (3+Int.toNat am) (ds:=[(.int .u32 bk)]) m sizeOf60 f Z Z Z (Ah Z Ap) Z (boxLe (k:= .u32) (A:=[(iv ao),(iv ap),(iv aq)]) (B:=[]) (cs:=([bm,bn]:LI)) bD) (boxUp (k:= .u32) (A:=[(iv ao),(iv ap),(iv aq)]) (B:=[]) (cs:=([bm,bn]:LI)) bk bD) λw m=>AD ?_
    refine Ab f Z λa f=>Az underlying72 Z sizeOf2 f Z λa f=>An 1 2 m Pl2 f Z Z Z Z λa f=>Ar 2 0 (ds:=[(iv ao),(iv ap),(iv aq),(.int .u32 (upd am 0 bk bm)),(.int .u32 (upd am 1 bk bn))]) m CH f Z Z Z Z Z λa f=> ?_
    have m:=m.fr 3
    have m:Mem W bz w (ib b0 90 [aa,ab,ac,ad,bp]::bq::ib aA 72 [(iv al),(iv am),(iv an)]::ib aB 63 [(iv ao),(iv ap),(iv aq),(.int .u32 (upd am 0 bk bm)),(.int .u32 (upd am 1 bk bn))]::H):=m.fr 1
    have⟨bE,bF,bs⟩:=bind_some bs
    refine Ay f Z call62 (hrec_ m av aw ax ay bv bF) λbG bH bI w bJ m bK a f=> ?_
    obtain⟨bL,bM,rfl,rfl,bN⟩:=bK
    refine Aa ?_
    rcases Ae bs with⟨bO,bs⟩|⟨bO,bs⟩
    ·refine Al f Z bO ?_
     refine Af ?_
     refine Ac f Z λa f=>Aa ?_
     refine Ao ?_
     have m:=m.eraseAt 3
     have m:=m.eraseAt 2
     obtain rfl:=sj bs
     obtain rfl:=bt _ rfl
     obtain rfl:=sj hd
     exact⟨[(.bool true)],f.g Z,f.d,_,[ib b0 90 [aa,ab,ac,ad,bL],bM],(gt bu (gt bA bJ)),m,_,_,Z,Z,bN⟩
    ·refine Ag f Z bO ?_
     refine Aq ?_
     refine Ai ?_
     refine Ab f Z λa f=>Aj f Z Z AA λa f=>Ac f Z λa f=>Aa ?_
     have m:=m.fr 3
     have m:=m.fr 3
     have m:Mem W bH w (ib b0 90 [aa,ab,ac,ad,bL]::ib aA 72 [(iv al),(iv am),(iv an)]::ib aB 63 [(iv ao),(iv ap),(iv aq),(.int .u32 (upd am 0 bk bm)),(.int .u32 (upd am 1 bk bn))]::bM::H):=m.fr 2
     obtain rfl:=sj bs
     exact⟨_,Z,_,_,_,_,Z,_,bL,bM,(gt bu (gt bA bJ)),f.k Z,m,bN⟩
   ·refine Ag f Z bB ?_
    refine AZ Z ?_
    have m:=m.fr 3
    have m:=m.fr 1
    have m:Mem W bz w (ib b0 90 [aa,ab,ac,ad,bp]::bq::ib aA 72 [(iv al),(iv am),(iv an)]::H):=m.eraseAt 3
    have m:=m.eraseAt 2
    obtain rfl:=sj bs
    obtain rfl:=bt _ rfl
    exact⟨_,Z,_,Z,_,bp,bq,(gt bu bA),f.weak trivial,m,bv⟩
  ·rintro a w ⟨_,rfl,bf,rfl,bg,bh,bi,bP,f,m,bQ⟩
   refine Af ?_
   refine Ac f Z λa f=>Aa ?_
   refine Ao ?_
   obtain rfl:=sj hd
   exact⟨[(.bool false)],f.g Z,f.d,_,[ib b0 90 [aa,ab,ac,ad,bh],bi],bP,m,_,_,Z,Z,bQ⟩
theorem Wk.U {b0:Nat}{aa ab ac ad ae:Value}{af:Itm}{ag:LI}{ah:(List (Int×Int×Int))}{ai:LI}{aj:(List Bool)}{ak:(List (K6×Bool))}{al am an ao ap aq ar au:Int}{rec_:(LI)→((List (Int×Int×Int)))→(LI)→((List Bool))→((List (K6×Bool)))→Int→Int→Int→Int→Int→Int→Option (Bool×((List (K6×Bool))))}(hrec_:∀{w:World} {G:GH} {H:List Itm} {b0:Nat} {aa ab ac ad ae:Value} {af:Itm} {ag:LI} {ah:(List (Int×Int×Int))} {ai:LI} {aj:(List Bool)} {ak:(List (K6×Bool))} {x1 ao ap aq ar au:Int} (m:Mem W G w (ib b0 90 [aa,ab,ac,ad,ae]::af::H)) (av:RSl (RI .u32) G aa ag) (aw:RSr P3 G ab ah) (ax:RSl (RI .u32) G ac ai) (ay:RSl RB G ad aj) (az:OwMd G af ae ak) {y:Bool×((List (K6×Bool)))} (hd:rec_ ag ah ai aj ak x1 ao ap aq ar au=some y),Calls prog 62 #[(pb b0),(iv x1),(.agg #[(iv ao),(iv ap),(iv aq),(.int .u32 ar),(.int .u32 au)])] w (Res W G H (λG' Ho v=>∃r0:Value,∃i0:Itm,Ho=[ib b0 90 [aa,ab,ac,ad,r0],i0]∧v=(.bool y.1)∧OwMd G' i0 r0 y.2)))(m:Mem W G w (ib b0 90 [aa,ab,ac,ad,ae]::af::H))(av:RSl (RI .u32) G aa ag)(aw:RSr P3 G ab ah)(ax:RSl (RI .u32) G ac ai)(ay:RSl RB G ad aj)(az:OwMd G af ae ak){y:Bool×((List (K6×Bool)))}(hd:D.U rec_ ag ah ai aj ak al am an ao ap aq ar au=some y):
  Calls prog 80 #[(pb b0),(.agg #[(iv al),(iv am),(iv an)]),(.agg #[(iv ao),(iv ap),(iv aq),(.int .u32 ar),(.int .u32 au)])] w (Res W G H (λG' Ho v=>∃r0:Value,∃i0:Itm,Ho=[ib b0 90 [aa,ab,ac,ad,r0],i0]∧v=(.bool y.1)∧OwMd G' i0 r0 y.2)):=by
 refine Ax (args:=[(pb b0),(.agg #[(iv al),(iv am),(iv an)]),(.agg #[(iv ao),(iv ap),(iv aq),(.int .u32 ar),(.int .u32 au)])]) (N:=94) [.tmp 6] func80 Z Z (lb Z) Z λa f=> ?_
 unfold D.U at hd
 refine Af ?_
 refine A4 (cs:=[(iv al),(iv am),(iv an)]) m f Z Z Z λaA w a m f=>A4 (cs:=[(iv ao),(iv ap),(iv aq),(.int .u32 ar),(.int .u32 au)]) m f Z Z Z λaB w a m f=>Ac f Z λa f=>Aa (Ak (Af ?_))
 refine Az underlying72 Z sizeOf2 f Z λa f=>An 1 0 m Pl2 f Z Z Z Z λa f=>Aa (As (Af ?_))
 refine Aj f Z Z AH λa f=>Ac f Z λa f=>Aa ?_
 rcases Ae hd with⟨aC,hd⟩|⟨aC,hd⟩
 ·refine Al f Z aC ?_
  refine Ak ?_
  refine Bl 18 AQ (by kernel_rfl) m ?_
  refine AE 0 18 Z f Z λa f=>q_p 1 18 Z f (λ_=>AU (f.e Z)) λa f=>A5 2 18 underlying90 Z sizeOf86 Z f Z λa f=>Be 3 18 2 Pl86 Z Z Z f Z λa f=>A5 4 18 underlying72 Z sizeOf2 Z f Z λa f=>Be 5 18 1 Pl2 Z Z Z f Z λa f=>A5 6 18 underlying63 Z sizeOf58 Z f Z λa f=> ?_
  have⟨aD,aE,hd⟩:=bind_some hd
  refine CK (i:=7) (listed':= #[true,true,true,true,true,true,true,true,false,false,false,false,false,false,false,false,false,false]) (cs:=([ao,ap,aq]:LI)) 18 underlying58 sizeOf3 Z aE Z (by kernel_rfl) Z f Z Z Z Z λa f=>Cu (i:=8) 18 0 Pl3 Z (boxIx (k:= .i64) (A:=[]) (B:=[(.int .u32 ar),(.int .u32 au)]) (cs:=([ao,ap,aq]:LI)) aE) Z (by kernel_rfl) Z f Z Z Z λa f=> ?_
  have⟨aF,aG,hd⟩:=bind_some hd
  refine BU 9 18 T86 av aG Z f Z Z λaH aI a aJ aK f=> ?_
  subst aK
  refine BV 10 18 Pl60 aJ Z f Z λa f=>A5 11 18 underlying72 Z sizeOf2 Z f Z λa f=>Be 12 18 1 Pl2 Z Z Z f Z λa f=>A5 13 18 underlying63 Z sizeOf58 Z f Z λa f=> ?_
  have⟨aL,aM,hd⟩:=bind_some hd
  refine CK (i:=14) (listed':= #[true,true,true,true,true,true,true,true,true,true,true,true,true,true,true,false,false,false]) (cs:=([ao,ap,aq]:LI)) 18 underlying58 sizeOf3 Z aM Z (by kernel_rfl) Z f Z Z Z Z λa f=>Cu (i:=15) 18 0 Pl3 Z (boxIx (k:= .i64) (A:=[]) (B:=[(.int .u32 ar),(.int .u32 au)]) (cs:=([ao,ap,aq]:LI)) aM) Z (by kernel_rfl) Z f Z Z Z λa f=> ?_
  have⟨aN,aO,hd⟩:=bind_some hd
  refine BE (i:=16) 18 Z (by kernel_rfl) Z f Z Z Z call91 (λ_ _ w aP m=>Wk.v m aO) λa f=>q_p 17 18 Z f (λ_=>Bi (f.e Z)) λa f=>A2 λaQ w aR m=> ?_
  have az:=OwMd.mono trivial aR az
  refine Aa ?_
  refine Ao ?_
  have m:=m.fr 3
  have m:=m.fr 3
  have m:Mem W aQ w (ib b0 90 [aa,ab,ac,ad,ae]::af::ib aB 63 [(iv ao),(iv ap),(iv aq),(.int .u32 ar),(.int .u32 au)]::H):=m.eraseAt 3
  have m:=m.eraseAt 2
  obtain rfl:=sj hd
  exact⟨[(.bool aN)],f.g Z,f.d,_,[ib b0 90 [aa,ab,ac,ad,ae],af],aR,m,_,_,Z,Z,az⟩
 ·refine Ag f Z aC ?_
  refine Af ?_
  refine Aj f Z Z AH λa f=>Ac f Z λa f=>Aa ?_
  rcases Ae hd with⟨aS,hd⟩|⟨aS,hd⟩
  ·refine Al f Z aS ?_
   refine Ak ?_
   refine Bl 12 AQ (by kernel_rfl) m ?_
   refine A5 0 12 underlying72 Z sizeOf2 Z f Z λa f=>Be 1 12 1 Pl2 Z Z Z f Z λa f=>A5 2 12 underlying63 Z sizeOf58 Z f Z λa f=> ?_
   have⟨aT,aU,hd⟩:=bind_some hd
   refine CK (i:=3) (listed':= #[true,true,true,true,false,false,false,false,false,false,false,false]) (cs:=([ao,ap,aq]:LI)) 12 underlying58 sizeOf3 Z aU Z (by kernel_rfl) Z f Z Z Z Z λa f=>Cu (i:=4) 12 0 Pl3 Z (boxIx (k:= .i64) (A:=[]) (B:=[(.int .u32 ar),(.int .u32 au)]) (cs:=([ao,ap,aq]:LI)) aU) Z (by kernel_rfl) Z f Z Z Z λa f=>A5 5 12 underlying72 Z sizeOf2 Z f Z λa f=>Be 6 12 1 Pl2 Z Z Z f Z λa f=>A5 7 12 underlying63 Z sizeOf58 Z f Z λa f=> ?_
   have⟨aV,aW,hd⟩:=bind_some hd
   refine CK (i:=8) (listed':= #[true,true,true,true,true,true,true,true,true,false,false,false]) (cs:=([ao,ap,aq]:LI)) 12 underlying58 sizeOf3 Z aW Z (by kernel_rfl) Z f Z Z Z Z λa f=>Cu (i:=9) 12 0 Pl3 Z (boxIx (k:= .i64) (A:=[]) (B:=[(.int .u32 ar),(.int .u32 au)]) (cs:=([ao,ap,aq]:LI)) aW) Z (by kernel_rfl) Z f Z Z Z λa f=>q_p 10 12 Z f (λ_=>Bo (f.e Z) (f.e Z) AH) λa f=>q_p 11 12 Z f (λ_=>Bi (f.e Z)) λa f=>A2 λaX w aY m=> ?_
   have az:=OwMd.mono trivial aY az
   refine Aa ?_
   refine Ao ?_
   have m:=m.fr 3
   have m:=m.fr 3
   have m:Mem W aX w (ib b0 90 [aa,ab,ac,ad,ae]::af::ib aB 63 [(iv ao),(iv ap),(iv aq),(.int .u32 ar),(.int .u32 au)]::H):=m.eraseAt 3
   have m:=m.eraseAt 2
   obtain rfl:=sj hd
   exact⟨[(.bool (aT==aV))],f.g Z,f.d,_,[ib b0 90 [aa,ab,ac,ad,ae],af],aY,m,_,_,Z,Z,az⟩
  ·refine Ag f Z aS ?_
   refine Af ?_
   refine Aj f Z Z AH λa f=>Ac f Z λa f=>Aa ?_
   rcases Ae hd with⟨aZ,hd⟩|⟨aZ,hd⟩
   ·refine Al f Z aZ ?_
    refine Ak ?_
    refine Bl 12 AQ (by kernel_rfl) m ?_
    refine A5 0 12 underlying72 Z sizeOf2 Z f Z λa f=>Be 1 12 1 Pl2 Z Z Z f Z λa f=>A5 2 12 underlying63 Z sizeOf61 Z f Z λa f=> ?_
    have⟨a0,a1,hd⟩:=bind_some hd
    refine CK (i:=3) (listed':= #[true,true,true,true,false,false,false,false,false,false,false,false]) (cs:=([ar,au]:LI)) 12 underlying61 sizeOf60 Z a1 Z (by kernel_rfl) Z f Z Z Z Z λa f=>Cu (i:=4) 12 0 Pl60 Z (boxIx (k:= .u32) (A:=[(iv ao),(iv ap),(iv aq)]) (B:=[]) (cs:=([ar,au]:LI)) a1) Z (by kernel_rfl) Z f Z Z Z λa f=>A5 5 12 underlying72 Z sizeOf2 Z f Z λa f=>Be 6 12 1 Pl2 Z Z Z f Z λa f=>A5 7 12 underlying63 Z sizeOf58 Z f Z λa f=> ?_
    have⟨a2,a3,hd⟩:=bind_some hd
    refine CK (i:=8) (listed':= #[true,true,true,true,true,true,true,true,true,false,false,false]) (cs:=([ao,ap,aq]:LI)) 12 underlying58 sizeOf3 Z a3 Z (by kernel_rfl) Z f Z Z Z Z λa f=>Cu (i:=9) 12 0 Pl3 Z (boxIx (k:= .i64) (A:=[]) (B:=[(.int .u32 ar),(.int .u32 au)]) (cs:=([ao,ap,aq]:LI)) a3) Z (by kernel_rfl) Z f Z Z Z λa f=> ?_
    have⟨a4,a5,hd⟩:=bind_some hd
    refine BE (i:=10) 12 Z (by kernel_rfl) Z f Z Z Z call91 (λ_ _ w a6 m=>Wk.v m a5) λa f=>q_p 11 12 Z f (λ_=>Bi (f.e Z)) λa f=>A2 λa7 w a8 m=> ?_
    have az:=OwMd.mono trivial a8 az
    refine Aa ?_
    refine Ao ?_
    have m:=m.fr 3
    have m:=m.fr 3
    have m:Mem W a7 w (ib b0 90 [aa,ab,ac,ad,ae]::af::ib aB 63 [(iv ao),(iv ap),(iv aq),(.int .u32 ar),(.int .u32 au)]::H):=m.eraseAt 3
    have m:=m.eraseAt 2
    obtain rfl:=sj hd
    exact⟨[(.bool a4)],f.g Z,f.d,_,[ib b0 90 [aa,ab,ac,ad,ae],af],a8,m,_,_,Z,Z,az⟩
   ·refine Ag f Z aZ ?_
    refine Af ?_
    refine Aj f Z Z AH λa f=>Ac f Z λa f=>Aa ?_
    rcases Ae hd with⟨a9,hd⟩|⟨a9,hd⟩
    ·refine Al f Z a9 ?_
     refine Af ?_
     refine Ab f Z λa f=>Az underlying72 Z sizeOf2 f Z λa f=>An 1 1 m Pl2 f Z Z Z Z λa f=>Ar 0 0 (ds:=[(iv ao),(iv ap),(iv aq),(.int .u32 ar),(.int .u32 au)]) m CH f Z Z Z Z Z λa f=> ?_
     have m:=m.fr 3
     have m:Mem W G w (ib b0 90 [aa,ab,ac,ad,ae]::af::ib aB 63 [(iv ao),(iv ap),(iv aq),(.int .u32 ar),(.int .u32 au)]::ib aA 72 [(iv al),(iv am),(iv an)]::H):=m.fr 3
     have⟨ba,bb,hd⟩:=bind_some hd
     refine Ay f Z call62 (hrec_ m av aw ax ay az bb) λbc bd be w bf m bg a f=> ?_
     obtain⟨bh,bi,rfl,rfl,bj⟩:=bg
     refine l_o f (Br (f.e Z)) λa f=>Ac f Z λa f=>Aa ?_
     refine Ao ?_
     have m:=m.eraseAt 3
     have m:=m.eraseAt 2
     obtain rfl:=sj hd
     exact⟨[(.bool (!ba.1))],f.g Z,f.d,_,[ib b0 90 [aa,ab,ac,ad,bh],bi],bf,m,_,_,Z,Z,bj⟩
    ·refine Ag f Z a9 ?_
     refine Af ?_
     refine Aj f Z Z AH λa f=>Ac f Z λa f=>Aa ?_
     rcases Ae hd with⟨bk,hd⟩|⟨bk,hd⟩
     ·refine Al f Z bk ?_
      refine Af ?_
      refine Ab f Z λa f=>Az underlying72 Z sizeOf2 f Z λa f=>An 1 1 m Pl2 f Z Z Z Z λa f=>Ar 0 0 (ds:=[(iv ao),(iv ap),(iv aq),(.int .u32 ar),(.int .u32 au)]) m CH f Z Z Z Z Z λa f=> ?_
      have m:=m.fr 3
      have m:Mem W G w (ib b0 90 [aa,ab,ac,ad,ae]::af::ib aB 63 [(iv ao),(iv ap),(iv aq),(.int .u32 ar),(.int .u32 au)]::ib aA 72 [(iv al),(iv am),(iv an)]::H):=m.fr 3
      have⟨bl,bm,hd⟩:=bind_some hd
      refine Ay f Z call62 (hrec_ m av aw ax ay az bm) λbn bo bp w bq m br a f=> ?_
      obtain⟨bs,bt,rfl,rfl,bu⟩:=br
      have av:=rd1 bq av
      have aw:=RSr.mono trivial _ _ _ _ bq aw
      have ax:=rd1 bq ax
      have ay:=RSl.mono RB.mono _ _ _ _ bq ay
      refine Ab f Z λa f=> ?_
      have⟨bv,bw,hd⟩:=bind_some hd
      refine Bg 6 (λa w=>∃(bx:GH) (bz:Value) (bA:Itm),GLe bo bx∧Mem W bx w (ib b0 90 [aa,ab,ac,ad,bz]::bA::ib aB 63 [(iv ao),(iv ap),(iv aq),(.int .u32 ar),(.int .u32 au)]::ib aA 72 [(iv al),(iv am),(iv an)]::H)∧Fr a 94 [(0,(pb b0)),(1,(.agg #[(iv al),(iv am),(iv an)])),(2,(.agg #[(iv ao),(iv ap),(iv aq),(.int .u32 ar),(.int .u32 au)])),(4,(pb aA)),(5,(pb aB)),(8,(iv al)),(62,(.bool (al==5))),(64,(pb b0)),(65,(.pointer (some ⟨aA,1,none⟩))),(66,(iv am)),(67,(.agg #[(iv ao),(iv ap),(iv aq),(.int .u32 ar),(.int .u32 au)])),(68,(.bool bl.1)),(69,(.bool bl.1)),(75,(.bool bv.1))]∧OwMd bx bA bz bv.2) ?_ ?_
      ·rcases Ae bw with⟨bB,bw⟩|⟨bB,bw⟩
       ·refine Aw f bB ?_
        refine Ab f Z λa f=>Aw f bB ?_
        refine Az underlying72 Z sizeOf2 f Z λa f=>Aw f bB ?_
        refine An 3 2 m Pl2 f Z Z Z Z λa f=>Aw f bB ?_
        refine Ar 2 0 (ds:=[(iv ao),(iv ap),(iv aq),(.int .u32 ar),(.int .u32 au)]) m CH f Z Z Z Z Z λa f=>Aw f bB ?_
        have⟨bC,bD,bw⟩:=bind_some bw
        refine Ay f Z call62 (hrec_ m av aw ax ay bu bD) λbE bF bG w bH m bI a f=> ?_
        obtain⟨bJ,bK,rfl,rfl,bL⟩:=bI
        refine l_o f (AK (f.e Z) bB (f.e Z)) λa f=> ?_
        obtain rfl:=sj bw
        exact⟨_,_,_,bH,m,f.k Z,bL⟩
       ·refine Au f bB λa f=> ?_
        refine Au f bB λa f=>Au f bB λa f=>Au f bB λa f=>Au f bB λa f=>l_o f (AM (f.e Z) bB (f.e Z)) λa f=> ?_
        obtain rfl:=sj bw
        exact⟨_,_,_,gr,m,f.k Z,bu⟩
      ·rintro a w ⟨bx,bz,bA,bM,m,f,bN⟩
       refine Ac f Z λa f=>Aa ?_
       refine Ao ?_
       have m:=m.eraseAt 3
       have m:=m.eraseAt 2
       obtain rfl:=sj hd
       exact⟨[(.bool bv.1)],f.g Z,f.d,_,[ib b0 90 [aa,ab,ac,ad,bz],bA],(gt bq bM),m,_,_,Z,Z,bN⟩
     ·refine Ag f Z bk ?_
      refine Af ?_
      refine Aj f Z Z AH λa f=>Ac f Z λa f=>Aa ?_
      rcases Ae hd with⟨bO,hd⟩|⟨bO,hd⟩
      ·refine Al f Z bO ?_
       refine Af ?_
       refine Ab f Z λa f=>Az underlying72 Z sizeOf2 f Z λa f=>An 1 1 m Pl2 f Z Z Z Z λa f=>Ar 0 0 (ds:=[(iv ao),(iv ap),(iv aq),(.int .u32 ar),(.int .u32 au)]) m CH f Z Z Z Z Z λa f=> ?_
       have m:=m.fr 3
       have m:Mem W G w (ib b0 90 [aa,ab,ac,ad,ae]::af::ib aB 63 [(iv ao),(iv ap),(iv aq),(.int .u32 ar),(.int .u32 au)]::ib aA 72 [(iv al),(iv am),(iv an)]::H):=m.fr 3
       have⟨bP,bQ,hd⟩:=bind_some hd
       refine Ay f Z call62 (hrec_ m av aw ax ay az bQ) λbR bS bT w bU m bV a f=> ?_
       obtain⟨bW,bX,rfl,rfl,bY⟩:=bV
       have av:=rd1 bU av
       have aw:=RSr.mono trivial _ _ _ _ bU aw
       have ax:=rd1 bU ax
       have ay:=RSl.mono RB.mono _ _ _ _ bU ay
       refine Ab f Z λa f=> ?_
       have⟨bZ,b1,hd⟩:=bind_some hd
       refine Bg 6 (λa w=>∃(b2:GH) (b3:Value) (b4:Itm),GLe bS b2∧Mem W b2 w (ib b0 90 [aa,ab,ac,ad,b3]::b4::ib aB 63 [(iv ao),(iv ap),(iv aq),(.int .u32 ar),(.int .u32 au)]::ib aA 72 [(iv al),(iv am),(iv an)]::H)∧Fr a 94 [(0,(pb b0)),(1,(.agg #[(iv al),(iv am),(iv an)])),(2,(.agg #[(iv ao),(iv ap),(iv aq),(.int .u32 ar),(.int .u32 au)])),(4,(pb aA)),(5,(pb aB)),(76,(.bool (al==6))),(78,(pb b0)),(79,(.pointer (some ⟨aA,1,none⟩))),(80,(iv am)),(81,(.agg #[(iv ao),(iv ap),(iv aq),(.int .u32 ar),(.int .u32 au)])),(82,(.bool bP.1)),(83,(.bool bP.1)),(89,(.bool bZ.1))]∧OwMd b2 b4 b3 bZ.2) ?_ ?_
       ·rcases Ae b1 with⟨b5,b1⟩|⟨b5,b1⟩
        ·refine Au f b5 λa f=> ?_
         refine Au f b5 λa f=>Au f b5 λa f=>Au f b5 λa f=>Au f b5 λa f=>l_o f (AK (f.e Z) b5 (f.e Z)) λa f=> ?_
         obtain rfl:=sj b1
         exact⟨_,_,_,gr,m,f.k Z,bY⟩
        ·refine Aw f b5 ?_
         refine Ab f Z λa f=>Aw f b5 ?_
         refine Az underlying72 Z sizeOf2 f Z λa f=>Aw f b5 ?_
         refine An 3 2 m Pl2 f Z Z Z Z λa f=>Aw f b5 ?_
         refine Ar 2 0 (ds:=[(iv ao),(iv ap),(iv aq),(.int .u32 ar),(.int .u32 au)]) m CH f Z Z Z Z Z λa f=>Aw f b5 ?_
         have⟨b6,b7,b1⟩:=bind_some b1
         refine Ay f Z call62 (hrec_ m av aw ax ay bY b7) λb8 b9 ca w cb m cc a f=> ?_
         obtain⟨cd,ce,rfl,rfl,cf⟩:=cc
         refine l_o f (AM (f.e Z) b5 (f.e Z)) λa f=> ?_
         obtain rfl:=sj b1
         exact⟨_,_,_,cb,m,f.k Z,cf⟩
       ·rintro a w ⟨b2,b3,b4,cg,m,f,ch⟩
        refine Ac f Z λa f=>Aa ?_
        refine Ao ?_
        have m:=m.eraseAt 3
        have m:=m.eraseAt 2
        obtain rfl:=sj hd
        exact⟨[(.bool bZ.1)],f.g Z,f.d,_,[ib b0 90 [aa,ab,ac,ad,b3],b4],(gt bU cg),m,_,_,Z,Z,ch⟩
      ·refine Ag f Z bO ?_
       refine Aq ?_
       refine Af ?_
       refine Ab f Z λa f=>Ar 1 0 (ds:=[(iv al),(iv am),(iv an)]) m Cj f Z Z Z Z Z λa f=>Ar 0 0 (ds:=[(iv ao),(iv ap),(iv aq),(.int .u32 ar),(.int .u32 au)]) m CH f Z Z Z Z Z λa f=> ?_
       have m:=m.fr 3
       have m:Mem W G w (ib b0 90 [aa,ab,ac,ad,ae]::af::ib aB 63 [(iv ao),(iv ap),(iv aq),(.int .u32 ar),(.int .u32 au)]::ib aA 72 [(iv al),(iv am),(iv an)]::H):=m.fr 3
       have⟨ci,cj,hd⟩:=bind_some hd
       refine Ay f Z call92 (Wk.c0 @hrec_ m av aw ax ay az cj) λck cl cm w cn m co a f=> ?_
       obtain⟨cp,cq,rfl,rfl,cr⟩:=co
       refine Ac f Z λa f=>Aa ?_
       refine Ao ?_
       have m:=m.eraseAt 3
       have m:=m.eraseAt 2
       obtain rfl:=sj hd
       exact⟨[(.bool ci.1)],f.g Z,f.d,_,[ib b0 90 [aa,ab,ac,ad,cp],cq],cn,m,_,_,Z,Z,cr⟩
theorem Wk.K {W:World}(n:Nat):∀{w:World} {G:GH} {H:List Itm} {b0:Nat} {aa ab ac ad ae:Value} {af:Itm} {ag:LI} {ah:(List (Int×Int×Int))} {ai:LI} {aj:(List Bool)} {ak:(List (K6×Bool))} {x1 al am an ao ap:Int} (m:Mem W G w (ib b0 90 [aa,ab,ac,ad,ae]::af::H)) (aq:RSl (RI .u32) G aa ag) (ar:RSr P3 G ab ah) (au:RSl (RI .u32) G ac ai) (av:RSl RB G ad aj) (aw:OwMd G af ae ak) {y:Bool×((List (K6×Bool)))} (hd:D.K n ag ah ai aj ak x1 al am an ao ap=some y),
  Calls prog 62 #[(pb b0),(iv x1),(.agg #[(iv al),(iv am),(iv an),(.int .u32 ao),(.int .u32 ap)])] w (Res W G H (λG' Ho v=>∃r0:Value,∃i0:Itm,Ho=[ib b0 90 [aa,ab,ac,ad,r0],i0]∧v=(.bool y.1)∧OwMd G' i0 r0 y.2)):=by
 induction n with
 |zero=>intros;rename_i hd;simp[D.K] at hd
 |succ fuel ih=>
  intro w G H b0 aa ab ac ad ae af ag ah ai aj ak x1 al am an ao ap m aq ar au av aw y hd
  refine Ax (args:=[(pb b0),(iv x1),(.agg #[(iv al),(iv am),(iv an),(.int .u32 ao),(.int .u32 ap)])]) (N:=70) [.tmp 6] func62 Z Z (lb Z) Z λa f=> ?_
  unfold D.K at hd
  refine Af ?_
  refine A4 (cs:=[(iv al),(iv am),(iv an),(.int .u32 ao),(.int .u32 ap)]) m f Z Z Z λax w a m f=>Ac f Z λa f=>AD ?_
  refine Ab f Z λa f=>l_o f (AU (f.e Z)) λa f=>Az underlying90 Z sizeOf29 f Z λa f=>Az underlying29 Z sizeOf27 f Z λa f=>An 1 1 m BG f Z Z Z Z λa f=>Ab f Z λa f=> ?_
  have⟨ay,az,hd⟩:=bind_some hd
  refine l_atR (E:=P3) T27 f Z Z Z ar az λaA a aB f=>C2 (E:=P3) [(iv ay.1),(iv ay.2.1),(iv ay.2.2)] m Cj f Z Z aB Z λa f=>AR (cs:=[(iv 0),(iv 0),(iv 0)]) zeroValue72 m f Z Z λaC w a m f=>Am 0 0 (ds:=[(iv ay.1),(iv ay.2.1),(iv ay.2.2)]) m sizeOf72 f Z Z Z (Ah Z (Ah Z (Ah Z Ap))) Z (lb Z) Z λw m=>Aa (Ak (Af ?_))
  refine Az underlying72 Z sizeOf2 f Z λa f=>An 0 0 m Pl2 f Z Z Z Z λa f=>Aj f Z Z C7 λa f=>Ab f Z λa f=> ?_
  refine Bg 4 (λa w=>∃aD,GLe G aD∧Mem W aD w (ib aC 72 [(iv ay.1),(iv ay.2.1),(iv ay.2.2)]::ib ax 63 [(iv al),(iv am),(iv an),(.int .u32 ao),(.int .u32 ap)]::ib b0 90 [aa,ab,ac,ad,ae]::af::H)∧Fr a 70 [(0,(pb b0)),(1,(iv x1)),(2,(.agg #[(iv al),(iv am),(iv an),(.int .u32 ao),(.int .u32 ap)])),(5,(pb ax)),(7,(pb aC)),(19,(pb aC)),(20,(iv ay.1)),(21,(.bool (ay.1 !=7))),(22,(.bool (ay.1 !=7))),(26,(.bool ((ay.1 !=7)&&(ay.1 !=8))))]) ?_ ?_
  ·rcases Bool.eq_false_or_eq_true (ay.1 !=7) with aE|aE
   ·refine Aw f aE ?_
    refine Az underlying72 Z sizeOf2 f Z λa f=>Aw f aE ?_
    refine An 0 0 m Pl2 f Z Z Z Z λa f=>Aw f aE ?_
    refine Aj f Z Z C7 λa f=>l_o f (AK (f.e Z) aE (f.e Z)) λa f=> ?_
    exact⟨_,gr,m,f.weak ⟨Z,Z,Z,Z,Z,Z,Z,Z,Z,by rw[aE];rfl,trivial⟩⟩
   ·refine Au f aE λa f=> ?_
    refine Au f aE λa f=>Au f aE λa f=>l_o f (AM (f.e Z) aE (f.e Z)) λa f=> ?_
    exact⟨_,gr,m,f.weak ⟨Z,Z,Z,Z,Z,Z,Z,Z,Z,by rw[aE];rfl,trivial⟩⟩
  ·rintro a w ⟨aD,aF,m,f⟩
   have aq:=rd1 aF aq
   have ar:=RSr.mono trivial _ _ _ _ aF ar
   have au:=rd1 aF au
   have av:=RSl.mono RB.mono _ _ _ _ aF av
   have aw:=OwMd.mono trivial aF aw
   refine Ab f Z λa f=> ?_
   have⟨aG,aH,hd⟩:=bind_some hd
   refine Bg 9 (λa w=>∃aI,GLe aD aI∧Mem W aI w (ib aC 72 [(iv ay.1),(iv ay.2.1),(iv ay.2.2)]::ib ax 63 [(iv al),(iv am),(iv an),(.int .u32 ao),(.int .u32 ap)]::ib b0 90 [aa,ab,ac,ad,ae]::af::H)∧Fr a 70 [(0,(pb b0)),(1,(iv x1)),(2,(.agg #[(iv al),(iv am),(iv an),(.int .u32 ao),(.int .u32 ap)])),(5,(pb ax)),(7,(pb aC)),(19,(pb aC)),(20,(iv ay.1)),(21,(.bool (ay.1 !=7))),(22,(.bool (ay.1 !=7))),(26,(.bool ((ay.1 !=7)&&(ay.1 !=8)))),(27,(.bool ((ay.1 !=7)&&(ay.1 !=8)))),(36,(.bool aG))]) ?_ ?_
   ·rcases Ae aH with⟨aJ,aH⟩|⟨aJ,aH⟩
    ·refine Aw f aJ ?_
     refine Ab f Z λa f=>Aw f aJ ?_
     refine l_o f (AU (f.e Z)) λa f=>Aw f aJ ?_
     refine Az underlying90 Z sizeOf87 f Z λa f=>Aw f aJ ?_
     refine An 2 3 m Pl87 f Z Z Z Z λa f=>Aw f aJ ?_
     refine Ab f Z λa f=>Aw f aJ ?_
     have⟨aK,aL,aH⟩:=bind_some aH
     refine BT T87 f Z Z Z av aL λaM aN a aO aP f=> ?_
     subst aP
     refine Aw f aJ ?_
     refine Bh m Pl4 f Z Z aO λa f=>Aw f aJ ?_
     refine l_o f (Br (f.e Z)) λa f=>l_o f (AK (f.e Z) aJ (f.e Z)) λa f=> ?_
     obtain rfl:=sj aH
     exact⟨_,gr,m,f.k Z⟩
    ·refine Au f aJ λa f=> ?_
     refine Au f aJ λa f=>Au f aJ λa f=>Au f aJ λa f=>Au f aJ λa f=>Au f aJ λa f=>Au f aJ λa f=>Au f aJ λa f=>l_o f (AM (f.e Z) aJ (f.e Z)) λa f=> ?_
     obtain rfl:=sj aH
     exact⟨_,gr,m,f.k Z⟩
   ·rintro a w ⟨aI,aQ,m,f⟩
    have aq:=rd1 aQ aq
    have ar:=RSr.mono trivial _ _ _ _ aQ ar
    have au:=rd1 aQ au
    have av:=RSl.mono RB.mono _ _ _ _ aQ av
    have aw:=OwMd.mono trivial aQ aw
    refine Aa ?_
    rcases Ae hd with⟨aR,hd⟩|⟨aR,hd⟩
    ·refine Al f Z aR ?_
     refine Af ?_
     refine Ab f Z λa f=>Ar 0 0 (ds:=[(iv ay.1),(iv ay.2.1),(iv ay.2.2)]) m Cj f Z Z Z Z Z λa f=>Ar 1 0 (ds:=[(iv al),(iv am),(iv an),(.int .u32 ao),(.int .u32 ap)]) m CH f Z Z Z Z Z λa f=> ?_
     have m:=m.fr 3
     have m:Mem W aI w (ib b0 90 [aa,ab,ac,ad,ae]::af::ib aC 72 [(iv ay.1),(iv ay.2.1),(iv ay.2.2)]::ib ax 63 [(iv al),(iv am),(iv an),(.int .u32 ao),(.int .u32 ap)]::H):=m.fr 3
     have⟨aS,aT,hd⟩:=bind_some hd
     refine Ay f Z call80 (Wk.U @ih m aq ar au av aw aT) λaU aV aW w aX m aY a f=> ?_
     obtain⟨aZ,a0,rfl,rfl,a1⟩:=aY
     refine Ac f Z λa f=>Aa ?_
     refine Ao ?_
     have m:=m.eraseAt 3
     have m:=m.eraseAt 2
     obtain rfl:=sj hd
     exact⟨[(.bool aS.1)],f.g Z,f.d,_,[ib b0 90 [aa,ab,ac,ad,aZ],a0],(gt aF (gt aQ aX)),m,_,_,Z,Z,a1⟩
    ·refine Ag f Z aR ?_
     refine Aq ?_
     refine Af ?_
     refine Ab f Z λa f=>Ab f Z λa f=>Ab f Z λa f=>Ar 1 0 (ds:=[(iv al),(iv am),(iv an),(.int .u32 ao),(.int .u32 ap)]) m CH f Z Z Z Z Z λa f=> ?_
     have m:=m.fr 3
     have m:Mem W aI w (ib b0 90 [aa,ab,ac,ad,ae]::af::ib aC 72 [(iv ay.1),(iv ay.2.1),(iv ay.2.2)]::ib ax 63 [(iv al),(iv am),(iv an),(.int .u32 ao),(.int .u32 ap)]::H):=m.fr 3
     have⟨a2,a3,hd⟩:=bind_some hd
     refine Ay f Z call81 (Wk.v0 m aq ar au av aw a3) λa4 a5 a6 w a7 m a8 a f=> ?_
     obtain⟨a9,ba,rfl,rfl,bb⟩:=a8
     have aq:=rd1 a7 aq
     have ar:=RSr.mono trivial _ _ _ _ a7 ar
     have au:=rd1 a7 au
     have av:=RSl.mono RB.mono _ _ _ _ a7 av
     have bc:∀w,(Instr.build 116 #[(0,(iv x1)),(1,(.agg #[(iv a2.1),(iv a2.2.1),(iv a2.2.2.1),(.int .u32 a2.2.2.2.1),(.int .u32 a2.2.2.2.2.1)]))]).run prog w= .ok (.agg #[(iv x1),(iv a2.1),(iv a2.2.1),(iv a2.2.2.1),(.int .u32 a2.2.2.2.1),(.int .u32 a2.2.2.2.2.1)]) w:=by intro w;simp[Instr.build,Instr.fill,A7,AX,AN,AS,AG,A6]
     refine Bn f Z Z bc λa f=>AR (cs:=[(iv 0),(iv 0),(iv 0),(iv 0),(.int .u32 0),(.int .u32 0)]) zeroValue116 m f Z Z λbd w a m f=>Am 0 0 (ds:=[(iv x1),(iv a2.1),(iv a2.2.1),(iv a2.2.2.1),(.int .u32 a2.2.2.2.1),(.int .u32 a2.2.2.2.2.1)]) m sizeOf116 f Z Z Z (Ah Z (Ah Z (Ah Z (Ah Z (Ah Z (Ah Z Ap)))))) Z (lb Z) Z λw m=>Aa (Ak ?_)
     refine Bl 11 AQ (by kernel_rfl) m ?_
     refine AE 0 11 Z f Z λa f=>q_p 1 11 Z f (λ_=>AU (f.e Z)) λa f=>A5 2 11 underlying90 Z sizeOf88 Z f Z λa f=>Be 3 11 1 Pl88 Z Z Z f Z λa f=>AY (i:=4) (ds:=[(iv x1),(iv a2.1),(iv a2.2.1),(iv a2.2.2.1),(.int .u32 a2.2.2.2.1),(.int .u32 a2.2.2.2.2.1)]) 11 0 Ag116 Z Z Z Z (by kernel_rfl) Z f Z Z Z λa f=>q_lookupMd (i:=5) (listed':= #[true,true,true,true,true,true,false,false,false,false,false]) (ky:=(x1,a2.1,a2.2.1,a2.2.2.1,a2.2.2.2.1,a2.2.2.2.2.1)) 11 Md116 2 bb Z underlying88 zeroValue4 Z (by kernel_rfl) Z f Z Z Z Z λa f=>AE 6 11 Z f Z λa f=>q_p 7 11 Z f (λ_=>Bm (f.e Z) Z) λa f=>q_p 8 11 Z f (λ_=>Bm (f.e Z) Z) λa f=>q_p 9 11 Z f (λ_=>Bi (f.e Z)) λa f=>q_p 10 11 Z f (λ_=>Bi (f.e Z)) λa f=>A2 λbe w bf m=> ?_
     have aq:=rd1 bf aq
     have ar:=RSr.mono trivial _ _ _ _ bf ar
     have au:=rd1 bf au
     have av:=RSl.mono RB.mono _ _ _ _ bf av
     have bb:=OwMd.mono trivial bf bb
     refine Aa (Ak (Af ?_))
     refine Ab f Z λa f=>l_o f (Br (f.e Z)) λa f=>Aa ?_
     rcases Ae hd with⟨bg,hd⟩|⟨bg,hd⟩
     ·refine Al f Z bg ?_
      refine Af ?_
      refine Ab f Z λa f=>Ar 3 0 (ds:=[(iv ay.1),(iv ay.2.1),(iv ay.2.2)]) m Cj f Z Z Z Z Z λa f=>Az underlying116 Z sizeOf63 f Z λa f=>Ar 0 1 (ds:=[(iv a2.1),(iv a2.2.1),(iv a2.2.2.1),(.int .u32 a2.2.2.2.1),(.int .u32 a2.2.2.2.2.1)]) m CH f Z Z Z Z Z λa f=> ?_
      have m:=m.fr 2
      have m:Mem W be w (ib b0 90 [aa,ab,ac,ad,a9]::ba::ib bd 116 [(iv x1),(iv a2.1),(iv a2.2.1),(iv a2.2.2.1),(.int .u32 a2.2.2.2.1),(.int .u32 a2.2.2.2.2.1)]::ib aC 72 [(iv ay.1),(iv ay.2.1),(iv ay.2.2)]::ib ax 63 [(iv al),(iv am),(iv an),(.int .u32 ao),(.int .u32 ap)]::H):=m.fr 2
      have⟨bh,bi,hd⟩:=bind_some hd
      refine Ay f Z call80 (Wk.U @ih m aq ar au av bb bi) λbj bk bl w bm m bn a f=> ?_
      obtain⟨bo,bp,rfl,rfl,bq⟩:=bn
      refine Ac f Z λa f=>Aa ?_
      refine Bl 6 AQ (by kernel_rfl) m ?_
      refine AE 0 6 Z f Z λa f=>q_p 1 6 Z f (λ_=>AU (f.e Z)) λa f=>A5 2 6 underlying90 Z sizeOf88 Z f Z λa f=>Be 3 6 0 Pl88 Z Z Z f Z λa f=>AY (i:=4) (ds:=[(iv x1),(iv a2.1),(iv a2.2.1),(iv a2.2.2.1),(.int .u32 a2.2.2.2.1),(.int .u32 a2.2.2.2.2.1)]) 6 2 Ag116 Z Z Z Z (by kernel_rfl) Z f Z Z Z λa f=>AE 5 6 Z f Z λa f=>A2 λbr w bs m=> ?_
      have bq:=OwMd.mono trivial bs bq
      have⟨bt,bu,hd⟩:=bind_some hd
      refine l_putMd Md116 (i:=(x1,a2.1,a2.2.1,a2.2.2.1,a2.2.2.2.1,a2.2.2.2.2.1)) 1 m bq Z underlying88 f Z Z Z bu λbv w m bw=>AD ?_
      refine Ab f Z λa f=>Ac f Z λa f=>Aa ?_
      refine Ao ?_
      have m:=m.eraseAt 4
      have m:=m.eraseAt 3
      have m:=m.eraseAt 2
      obtain rfl:=sj hd
      exact⟨[(.bool bh.1)],f.g Z,f.d,_,[ib b0 90 [aa,ab,ac,ad,bo],bv],(gt aF (gt aQ (gt a7 (gt bf (gt bm bs))))),m,_,_,Z,Z,bw⟩
     ·refine Ag f Z bg ?_
      refine Aq ?_
      refine Af ?_
      refine Ab f Z λa f=>Ac f Z λa f=>Aa ?_
      refine Ao ?_
      have m:=m.fr 2
      have m:=m.fr 2
      have m:Mem W be w (ib b0 90 [aa,ab,ac,ad,a9]::ba::ib bd 116 [(iv x1),(iv a2.1),(iv a2.2.1),(iv a2.2.2.1),(.int .u32 a2.2.2.2.1),(.int .u32 a2.2.2.2.2.1)]::ib aC 72 [(iv ay.1),(iv ay.2.1),(iv ay.2.2)]::H):=m.eraseAt 4
      have m:=m.eraseAt 3
      have m:=m.eraseAt 2
      obtain rfl:=sj hd
      exact⟨[(.bool ((BN a2.2.2.2.2.2 (x1,a2.1,a2.2.1,a2.2.2.1,a2.2.2.2.1,a2.2.2.2.2.1)).getD false))],f.g Z,f.d,_,[ib b0 90 [aa,ab,ac,ad,a9],ba],(gt aF (gt aQ (gt a7 bf))),m,_,_,Z,Z,bb⟩
theorem Wk.l {b0:Nat}{aa ab ac ad ae:Value}{af:Itm}{ag:LI}{ah:(List (Int×Int×Int))}{ai:LI}{aj:(List Bool)}{ak:(List (K6×Bool))}{x1 al am an ao ap:Int}(m:Mem W G w (ib b0 90 [aa,ab,ac,ad,ae]::af::H))(aq:RSl (RI .u32) G aa ag)(ar:RSr P3 G ab ah)(au:RSl (RI .u32) G ac ai)(av:RSl RB G ad aj)(aw:OwMd G af ae ak){y:Bool×((List (K6×Bool)))}(hd:D.l ag ah ai aj ak x1 al am an ao ap=some y):
  Calls prog 62 #[(pb b0),(iv x1),(.agg #[(iv al),(iv am),(iv an),(.int .u32 ao),(.int .u32 ap)])] w (Res W G H (λG' Ho v=>∃r0:Value,∃i0:Itm,Ho=[ib b0 90 [aa,ab,ac,ad,r0],i0]∧v=(.bool y.1)∧OwMd G' i0 r0 y.2)):=by
 exact Wk.K CL m aq ar au av aw hd
theorem Wk.B {b0:Nat}{aa ab ac ad ae:Value}{af:Itm}{ag:LI}{ah:(List (Int×Int×Int))}{ai:LI}{aj:(List Bool)}{ak:(List (K6×Bool))}{al am an ao ap:Int}(m:Mem W G w (ib b0 90 [aa,ab,ac,ad,ae]::af::H))(aq:RSl (RI .u32) G aa ag)(ar:RSr P3 G ab ah)(au:RSl (RI .u32) G ac ai)(av:RSl RB G ad aj)(aw:OwMd G af ae ak){y:Bool×((List (K6×Bool)))}(hd:D.B ag ah ai aj ak al am an ao ap=some y):
  Calls prog 30 #[(pb b0),(.agg #[(iv al),(iv am),(iv an),(.int .u32 ao),(.int .u32 ap)])] w (Res W G H (λG' Ho v=>∃r0:Value,∃i0:Itm,Ho=[ib b0 90 [aa,ab,ac,ad,r0],i0]∧v=(.bool y.1)∧OwMd G' i0 r0 y.2)):=by
 refine Ax (args:=[(pb b0),(.agg #[(iv al),(iv am),(iv an),(.int .u32 ao),(.int .u32 ap)])]) (N:=15) [.tmp 4] func30 Z Z (lb Z) Z λa f=> ?_
 unfold D.B at hd
 refine Af ?_
 refine A4 (cs:=[(iv al),(iv am),(iv an),(.int .u32 ao),(.int .u32 ap)]) m f Z Z Z λax w a m f=>Ac f Z λa f=>Aa (Ak ?_)
 refine Bl 9 AQ (by kernel_rfl) m ?_
 refine AE 0 9 Z f Z λa f=>AE 1 9 Z f Z λa f=>q_p 2 9 Z f (λ_=>AU (f.e Z)) λa f=>A5 3 9 underlying90 Z sizeOf29 Z f Z λa f=>A5 4 9 underlying29 Z sizeOf27 Z f Z λa f=>Be 5 9 1 BG Z Z Z f Z λa f=>q_lenR (i:=6) (listed':= #[true,true,true,true,true,true,true,false,false,false,false]) 9 underlying27 ar Z (by kernel_rfl) Z f Z Z Z λa f=>q_p 7 9 Z f (λ_=>Bo (f.e Z) (f.e Z) Bw) λa f=>AY (i:=8) (ds:=[(iv al),(iv am),(iv an),(.int .u32 ao),(.int .u32 ap)]) 9 0 CH Z Z Z Z (by kernel_rfl) Z f Z Z Z λa f=>A2 λay w az m=> ?_
 have ar:=RSr.mono trivial _ _ _ _ az ar
 have aq:=rd1 az aq
 have au:=rd1 az au
 have av:=RSl.mono RB.mono _ _ _ _ az av
 have aw:=OwMd.mono trivial az aw
 have m:=m.fr 2
 have m:Mem W ay w (ib b0 90 [aa,ab,ac,ad,ae]::af::ib ax 63 [(iv al),(iv am),(iv an),(.int .u32 ao),(.int .u32 ap)]::H):=m.fr 2
 have⟨aA,aB,hd⟩:=bind_some hd
 refine Ay f Z call62 (Wk.l m aq ar au av aw aB) λaC aD aE w aF m aG a f=> ?_
 obtain⟨aH,aI,rfl,rfl,aJ⟩:=aG
 refine Ac f Z λa f=>Aa ?_
 refine Ao ?_
 have m:=m.eraseAt 2
 obtain rfl:=sj hd
 exact⟨[(.bool aA.1)],f.g Z,f.d,_,[ib b0 90 [aa,ab,ac,ad,aH],aI],(gt az aF),m,_,_,Z,Z,aJ⟩
theorem Wk.a0 {aa ab v2 v3:Value}{ac:LL}{ad:(List (Int×Int×Int))}{x2:LI}{x3:LL}(m:Mem W G w (H))(ae:R2 G aa ac)(af:RSr P3 G ab ad)(h2:R1 G v2 x2)(h3:R2 G v3 x3){y:Bool}(hd:D.a0 ac ad x2 x3=some y):
  Calls prog 6 #[(.agg #[aa]),(.agg #[ab]),v2,v3] w (Res W G H (λ_ Ho v=>Ho=[]∧v=(.bool y))):=by
 refine Ax (args:=[(.agg #[aa]),(.agg #[ab]),v2,v3]) (N:=67) [.tmp 8] func6 Z Z (lb Z) Z λa f=> ?_
 unfold D.a0 at hd
 refine Af ?_
 refine A4 (cs:=[aa]) m f Z Z Z λag w a m f=>A4 (cs:=[ab]) m f Z Z Z λah w a m f=>Ac f Z λa f=>AD ?_
 refine Ar 1 0 (ds:=[aa]) m AO f Z Z Z Z Z λa f=>Ar 0 0 (ds:=[ab]) m Bd f Z Z Z Z Z λa f=> ?_
 have⟨ai,aj,hd⟩:=bind_some hd
 refine Ay f Z call26 (Wk.F m ae af aj) λak al am w an m ao a f=> ?_
 rcases ao with⟨ap,rfl,rfl⟩|⟨aq,ap,ar,au,av,aw,ax,ay,az,aA,aB,aC,rfl,rfl,aD,aE,aF,aG,aH⟩
 ·subst ap
  replace hd:=DX hd
  refine Ac f Z λa f=>Aa (Ak (Af ?_))
  refine Ab f Z λa f=>l_o f (Ds (f.e Z) (f.e Z) underlying56) λa f=>Ab f Z λa f=>Au f Z λa f=>Au f Z λa f=>Au f Z λa f=>l_o f (AK (f.e Z) Z (f.e Z)) λa f=>Ab f Z λa f=>Au f Z λa f=>Au f Z λa f=>Au f Z λa f=>l_o f (AK (f.e Z) Z (f.e Z)) λa f=>Aa ?_
  refine Al f Z Z ?_
  refine Af ?_
  refine Ac f Z λa f=>Aa ?_
  refine Ao ?_
  have m:Mem W al w H:=Mem.drop (H':=[ib ah 29 [ab],ib ag 26 [aa]]) m
  obtain rfl:=sj hd
  exact⟨[(.bool false)],f.g Z,f.d,_,[],an,m,Z,Z⟩
 ·subst ap
  replace hd:=D1 hd
  have ae:=rd2 an ae
  have h2:=rd1 an h2
  have h3:=rd2 an h3
  refine Ac f Z λa f=>Aa (Ak (Af ?_))
  refine Ab f Z λa f=>l_o f (Ds (f.e Z) (f.e Z) underlying56) λa f=>Ab f Z λa f=>Aw f Z ?_
  refine Ab f Z λa f=>Aw f Z ?_
  refine Bc underlying30 f Z Z h2 λa f=>Aw f Z ?_
  refine Aj f Z Z C7 λa f=>l_o f (AM (f.e Z) Z (f.e Z)) λa f=>Ab f Z λa f=> ?_
  refine Bg 4 (λa w=>∃aI,GLe al aI∧Mem W aI w (au::ax::az::aB::ib aC 90 [ar,av,aw,ay,aA]::ib ah 29 [ab]::ib ag 26 [aa]::H)∧Fr a 67 [(0,(.agg #[aa])),(1,(.agg #[ab])),(2,v2),(3,v3),(4,(pb ag)),(5,(pb ah)),(9,(pb aC)),(18,(pb aC)),(19,(.bool false)),(20,(.bool false)),(21,v2),(22,(iv (x2.length:Int))),(23,(.bool ((x2.length:Int) !=3))),(24,(.bool ((x2.length:Int) !=3))),(25,(.bool ((x2.length:Int) !=3))),(29,(.bool (((x2.length:Int) !=3)||((x3.length:Int) !=2))))]) ?_ ?_
  ·rcases Bool.eq_false_or_eq_true ((x2.length:Int) !=3) with aJ|aJ
   ·refine Au f aJ λa f=> ?_
    refine Au f aJ λa f=>Au f aJ λa f=>l_o f (AK (f.e Z) aJ (f.e Z)) λa f=> ?_
    exact⟨_,gr,m,f.weak ⟨Z,Z,Z,Z,Z,Z,Z,Z,Z,Z,Z,Z,Z,Z,Z,by rw[aJ];rfl,trivial⟩⟩
   ·refine Aw f aJ ?_
    refine Ab f Z λa f=>Aw f aJ ?_
    refine Bc underlying24 f Z Z h3 λa f=>Aw f aJ ?_
    refine Aj f Z Z C7 λa f=>l_o f (AM (f.e Z) aJ (f.e Z)) λa f=> ?_
    exact⟨_,gr,m,f.weak ⟨Z,Z,Z,Z,Z,Z,Z,Z,Z,Z,Z,Z,Z,Z,Z,by rw[aJ];rfl,trivial⟩⟩
  ·rintro a w ⟨aI,aK,m,f⟩
   have ae:=rd2 aK ae
   have h2:=rd1 aK h2
   have h3:=rd2 aK h3
   have aD:=od1 aK aD
   have aF:=od1 aK aF
   have aG:=Ow.mono RB.mono aK aG
   have aH:=OwMd.mono trivial aK aH
   have aE:=RSr.mono trivial _ _ _ _ aK aE
   refine Aa ?_
   rcases Ae hd with⟨aL,hd⟩|⟨aL,hd⟩
   ·refine Al f Z aL ?_
    refine Af ?_
    refine Ac f Z λa f=>Aa ?_
    refine Ao ?_
    have m:Mem W aI w H:=Mem.drop (H':=[au,ax,az,aB,ib aC 90 [ar,av,aw,ay,aA],ib ah 29 [ab],ib ag 26 [aa]]) m
    obtain rfl:=sj hd
    exact⟨[(.bool false)],f.g Z,f.d,_,[],(gt an aK),m,Z,Z⟩
   ·refine Ag f Z aL ?_
    refine Aq ?_
    refine Af ?_
    have aM:∀w,(Instr.build 63 #[]).run prog w= .ok (.agg #[(iv 0),(iv 0),(iv 0),(.int .u32 0),(.int .u32 0)]) w:=by intro w;simp[Instr.build,Instr.fill,A7,AX,AN,AS,AG,A6]
    refine Bn f Z Z aM λa f=>AR (cs:=[(iv 0),(iv 0),(iv 0),(.int .u32 0),(.int .u32 0)]) zeroValue63 m f Z Z λaN w a m f=>Am 0 0 (ds:=[(iv 0),(iv 0),(iv 0),(.int .u32 0),(.int .u32 0)]) m sizeOf63 f Z Z Z (Ah Z (Ah Z (Ah Z (Ah Z (Ah Z Ap))))) Z (lb Z) Z λw m=>Aa (Ak (Af ?_))
    refine Ab f Z λa f=>Bc underlying30 f Z Z h2 λa f=>Ab f Z λa f=>Aa ?_
    have⟨aO,aP,hd⟩:=bind_some hd
    refine AT (λa w=>∃q_80':Int×Int×Int,aO= .inl q_80'∧∃aQ:Int,∃aR:Int,∃aS:Int,(aQ,aR,aS)=q_80'∧∃(aT:GH),GLe aI aT∧Fr a 67 [(3,v3),(4,(pb ag)),(9,(pb aC)),(10,(pb aN))]∧Mem W aT w (ib ag 26 [aa]::ib aC 90 [ar,av,aw,ay,aA]::ib aN 63 [(iv aQ),(iv aR),(iv aS),(.int .u32 0),(.int .u32 0)]::au::ax::az::aB::H)) ?_ ?_
    ·refine As ?_
     have m:=m.fr 5
     have m:=m.fr 7
     have m:Mem W aI w (ib ag 26 [aa]::ib aC 90 [ar,av,aw,ay,aA]::ib aN 63 [(iv 0),(iv 0),(iv 0),(.int .u32 0),(.int .u32 0)]::au::ax::az::aB::H):=m.eraseAt 7
     refine A1 (λaU a w=>∃aV:Int,∃aW:Int,∃aX:Int,∃aY:Int,(aV,aW,aX,aY)=aU∧∃(aZ:GH),GLe aI aZ∧Fr a 67 [(3,v3),(4,(pb ag)),(9,(pb aC)),(10,(pb aN)),(31,v2),(32,(iv (x2.length:Int))),(33,(iv aV))]∧Mem W aZ w (ib ag 26 [aa]::ib aC 90 [ar,av,aw,ay,aA]::ib aN 63 [(iv aW),(iv aX),(iv aY),(.int .u32 0),(.int .u32 0)]::au::ax::az::aB::H)) aP ⟨_,_,_,_,Z,_,gr,f.k Z,m⟩ ?_
     clear aP f m
     rintro aU a0 a1 a2 a w ⟨aV,aW,aX,aY,rfl,aZ,a3,f,m⟩
     have h2:=rd1 a3 h2
     have ae:=rd2 a3 ae
     have aH:=OwMd.mono trivial a3 aH
     refine Af ?_
     refine Aj f Z Z A3 λa f=>Aa (Ak ?_)
     rcases Ae a1 with⟨a4,a1⟩|⟨a4,a1⟩
     ·refine Al f Z a4 ?_
      refine Aq ?_
      refine Ak (As (Af ?_))
      refine Ab f Z λa f=> ?_
      have⟨a5,a6,a1⟩:=bind_some a1
      refine BT T30 f Z Z Z h2 a6 λa7 a8 a a9 ba f=> ?_
      subst ba
      refine Bh m Pl2 f Z Z a9 λa f=>Ac f Z λa f=>Ac f Z λa f=>Aa (Ak (Af ?_))
      refine Ar 0 0 (ds:=[aa]) m AO f Z Z Z Z Z λa f=>Ab f Z λa f=> ?_
      have⟨bb,bc,a1⟩:=bind_some a1
      refine Bb f Z call27 (Wk.q m ae bc) λbd w be m a f=> ?_
      have aH:=OwMd.mono trivial be aH
      refine l_o f (Br (f.e Z)) λa f=>Aa ?_
      rcases Ae a1 with⟨bf,a1⟩|⟨bf,a1⟩
      ·refine Al f Z bf ?_
       refine Af ?_
       refine Ac f Z λa f=>Aa ?_
       refine Ao ?_
       have m:Mem W bd w H:=Mem.drop (H':=[ib ag 26 [aa],ib aC 90 [ar,av,aw,ay,aA],ib aN 63 [(iv aW),(iv aX),(iv aY),(.int .u32 0),(.int .u32 0)],au,ax,az,aB]) m
       obtain rfl:=sj a1
       obtain rfl:=a2 _ rfl
       obtain rfl:=sj hd
       exact⟨[(.bool false)],f.g Z,f.d,_,[],(gt an (gt aK (gt a3 be))),m,Z,Z⟩
      ·refine Ag f Z bf ?_
       refine Aq ?_
       refine Ai ?_
       refine Ab f Z λa f=>Ab f Z λa f=>Az underlying63 Z sizeOf58 f Z λa f=> ?_
       have⟨bg,bh,a1⟩:=bind_some a1
       refine CM (cs:=([aW,aX,aY]:LI)) underlying58 sizeOf3 Z bh f Z Z Z λa f=>Am 2 (0+Int.toNat aV) (ds:=[(iv a5)]) m sizeOf3 f Z Z Z (Ah Z Ap) Z (boxLe (k:= .i64) (A:=[]) (B:=[(.int .u32 0),(.int .u32 0)]) (cs:=([aW,aX,aY]:LI)) bh) (boxUp (k:= .i64) (A:=[]) (B:=[(.int .u32 0),(.int .u32 0)]) (cs:=([aW,aX,aY]:LI)) a5 bh) λw m=>Aa (Ai ?_)
       refine Aj f Z Z AA λa f=>Ab f Z λa f=>Aa ?_
       obtain rfl:=sj a1
       exact⟨_,Z,_,_,_,_,Z,_,(gt a3 be),f.k Z,m⟩
     ·refine Ag f Z a4 ?_
      refine AZ Z ?_
      obtain rfl:=sj a1
      obtain rfl:=a2 _ rfl
      exact⟨_,Z,_,_,_,Z,_,a3,f.k Z,m⟩
    ·rintro a w ⟨_,rfl,aQ,aR,aS,rfl,aT,bi,f,m⟩
     have h3:=rd2 bi h3
     have ae:=rd2 bi ae
     have aE:=RSr.mono trivial _ _ _ _ bi aE
     have aD:=od1 bi aD
     have aF:=od1 bi aF
     have aG:=Ow.mono RB.mono bi aG
     have aH:=OwMd.mono trivial bi aH
     refine Ak (Af ?_)
     refine Ab f Z λa f=>Bc underlying24 f Z Z h3 λa f=>Ab f Z λa f=>Aa ?_
     have⟨bj,bk,hd⟩:=bind_some hd
     refine AT (λa w=>∃q_183':Int×Int,bj= .inl q_183'∧∃bl:Int,∃bm:Int,(bl,bm)=q_183'∧∃(bn:GH),GLe aT bn∧Fr a 67 [(9,(pb aC)),(10,(pb aN))]∧Mem W bn w (ib aC 90 [ar,av,aw,ay,aA]::ib aN 63 [(iv aQ),(iv aR),(iv aS),(.int .u32 bl),(.int .u32 bm)]::au::ax::az::aB::H)) ?_ ?_
     ·refine As ?_
      refine A1 (λbo a w=>∃bp:Int,∃bq:Int,∃br:Int,(bp,bq,br)=bo∧∃(bs:GH),GLe aT bs∧Fr a 67 [(4,(pb ag)),(9,(pb aC)),(10,(pb aN)),(47,v3),(48,(iv (x3.length:Int))),(49,(iv bp))]∧Mem W bs w (ib ag 26 [aa]::ib aC 90 [ar,av,aw,ay,aA]::ib aN 63 [(iv aQ),(iv aR),(iv aS),(.int .u32 bq),(.int .u32 br)]::au::ax::az::aB::H)) bk ⟨_,_,_,Z,_,gr,f.k Z,m⟩ ?_
      clear bk f m
      rintro bo bt bu bv a w ⟨bp,bq,br,rfl,bs,bw,f,m⟩
      have h3:=rd2 bw h3
      have ae:=rd2 bw ae
      have aH:=OwMd.mono trivial bw aH
      refine Af ?_
      refine Aj f Z Z A3 λa f=>Aa (Ak ?_)
      rcases Ae bu with⟨bx,bu⟩|⟨bx,bu⟩
      ·refine Al f Z bx ?_
       refine Aq ?_
       refine Ak (As (Af ?_))
       refine Ab f Z λa f=> ?_
       have⟨bz,bA,bu⟩:=bind_some bu
       refine BT T24 f Z Z Z h3 bA λbB bC a bD bE f=>Bh m BO f Z Z bD λa f=>Ac f Z λa f=>Ac f Z λa f=>Aa (Ak (Af ?_))
       refine Ar 0 0 (ds:=[aa]) m AO f Z Z Z Z Z λa f=>Ab f Z λa f=> ?_
       have⟨bF,bG,bu⟩:=bind_some bu
       refine Bb f Z call28 (Wk.A m ae bE bG) λbH w bI m a f=> ?_
       have bE:=rd1 bI bE
       have aH:=OwMd.mono trivial bI aH
       refine l_o f (Br (f.e Z)) λa f=>Aa ?_
       rcases Ae bu with⟨bJ,bu⟩|⟨bJ,bu⟩
       ·refine Al f Z bJ ?_
        refine Af ?_
        refine Ac f Z λa f=>Aa ?_
        refine Ao ?_
        have m:Mem W bH w H:=Mem.drop (H':=[ib ag 26 [aa],ib aC 90 [ar,av,aw,ay,aA],ib aN 63 [(iv aQ),(iv aR),(iv aS),(.int .u32 bq),(.int .u32 br)],au,ax,az,aB]) m
        obtain rfl:=sj bu
        obtain rfl:=bv _ rfl
        obtain rfl:=sj hd
        exact⟨[(.bool false)],f.g Z,f.d,_,[],(gt an (gt aK (gt bi (gt bw bI)))),m,Z,Z⟩
       ·refine Ag f Z bJ ?_
        refine Aq ?_
        refine Ai ?_
        refine Ab f Z λa f=>Ab f Z λa f=> ?_
        have⟨bK,bL,bu⟩:=bind_some bu
        refine Bb f Z call29 (Wk.M m bE bL) λbM w bN m a f=> ?_
        have aH:=OwMd.mono trivial bN aH
        refine Az underlying63 Z sizeOf61 f Z λa f=> ?_
        have⟨bO,bP,bu⟩:=bind_some bu
        refine CM (cs:=([bq,br]:LI)) underlying61 sizeOf60 Z bP f Z Z Z λa f=>Am 2 (3+Int.toNat bp) (ds:=[(.int .u32 bK)]) m sizeOf60 f Z Z Z (Ah Z Ap) Z (boxLe (k:= .u32) (A:=[(iv aQ),(iv aR),(iv aS)]) (B:=[]) (cs:=([bq,br]:LI)) bP) (boxUp (k:= .u32) (A:=[(iv aQ),(iv aR),(iv aS)]) (B:=[]) (cs:=([bq,br]:LI)) bK bP) λw m=>Aa (Ai ?_)
        refine Aj f Z Z AA λa f=>Ab f Z λa f=>Aa ?_
        obtain rfl:=sj bu
        exact⟨_,Z,_,_,_,Z,_,(gt bw (gt bI bN)),f.k Z,m⟩
      ·refine Ag f Z bx ?_
       refine AZ Z ?_
       have m:=m.fr 6
       have m:=m.fr 6
       have m:Mem W bs w (ax::az::aB::ib ag 26 [aa]::ib aC 90 [ar,av,aw,ay,aA]::ib aN 63 [(iv aQ),(iv aR),(iv aS),(.int .u32 bq),(.int .u32 br)]::au::H):=m.fr 6
       have m:=m.fr 6
       have m:=m.fr 6
       have m:Mem W bs w (ib aC 90 [ar,av,aw,ay,aA]::ib aN 63 [(iv aQ),(iv aR),(iv aS),(.int .u32 bq),(.int .u32 br)]::au::ax::az::aB::ib ag 26 [aa]::H):=m.fr 6
       have m:Mem W bs w (ib aC 90 [ar,av,aw,ay,aA]::ib aN 63 [(iv aQ),(iv aR),(iv aS),(.int .u32 bq),(.int .u32 br)]::au::ax::az::aB::H):=m.eraseAt 6
       obtain rfl:=sj bu
       obtain rfl:=bv _ rfl
       exact⟨_,Z,_,_,Z,_,bw,f.k Z,m⟩
     ·rintro a w ⟨_,rfl,bl,bm,rfl,bn,bQ,f,m⟩
      have aE:=RSr.mono trivial _ _ _ _ bQ aE
      have aD:=od1 bQ aD
      have aF:=od1 bQ aF
      have aG:=Ow.mono RB.mono bQ aG
      have aH:=OwMd.mono trivial bQ aH
      refine Af ?_
      refine Ab f Z λa f=>Ar 1 0 (ds:=[(iv aQ),(iv aR),(iv aS),(.int .u32 bl),(.int .u32 bm)]) m CH f Z Z Z Z Z λa f=> ?_
      have m:Mem W bn w (au::ib aC 90 [ar,av,aw,ay,aA]::ib aN 63 [(iv aQ),(iv aR),(iv aS),(.int .u32 bl),(.int .u32 bm)]::ax::az::aB::H):=m.fr 2
      obtain⟨bR,bS,m,bT⟩:=Ow.stamp (RI.mono _) aD m
      have aE:=RSr.mono trivial _ _ _ _ bS aE
      have aF:=od1 bS aF
      have aG:=Ow.mono RB.mono bS aG
      have aH:=OwMd.mono trivial bS aH
      have m:Mem W bR w (ax::ib aC 90 [ar,av,aw,ay,aA]::ib aN 63 [(iv aQ),(iv aR),(iv aS),(.int .u32 bl),(.int .u32 bm)]::az::aB::H):=m.fr 2
      obtain⟨bU,bV,m,bW⟩:=Ow.stamp (RI.mono _) aF m
      have bT:=rd1 bV bT
      have aE:=RSr.mono trivial _ _ _ _ bV aE
      have aG:=Ow.mono RB.mono bV aG
      have aH:=OwMd.mono trivial bV aH
      have m:Mem W bU w (az::ib aC 90 [ar,av,aw,ay,aA]::ib aN 63 [(iv aQ),(iv aR),(iv aS),(.int .u32 bl),(.int .u32 bm)]::aB::H):=m.fr 2
      obtain⟨bX,bY,m,bZ⟩:=Ow.stamp RB.mono aG m
      have bT:=rd1 bY bT
      have aE:=RSr.mono trivial _ _ _ _ bY aE
      have bW:=rd1 bY bW
      have aH:=OwMd.mono trivial bY aH
      have m:=m.fr 2
      have m:Mem W bX w (ib aC 90 [ar,av,aw,ay,aA]::aB::ib aN 63 [(iv aQ),(iv aR),(iv aS),(.int .u32 bl),(.int .u32 bm)]::H):=m.fr 1
      have⟨b0,b1,hd⟩:=bind_some hd
      refine Ay f Z call30 (Wk.B m bT aE bW bZ aH b1) λb2 b3 b4 w b5 m b6 a f=> ?_
      obtain⟨b7,b8,rfl,rfl,b9⟩:=b6
      refine Ac f Z λa f=>Aa ?_
      refine Ao ?_
      have m:Mem W b3 w H:=Mem.drop (H':=[ib aC 90 [ar,av,aw,ay,b7],b8,ib aN 63 [(iv aQ),(iv aR),(iv aS),(.int .u32 bl),(.int .u32 bm)]]) m
      obtain rfl:=sj hd
      exact⟨[(.bool b0.1)],f.g Z,f.d,_,[],(gt an (gt aK (gt bi (gt bQ (gt bS (gt bV (gt bY b5))))))),m,Z,Z⟩
theorem Wk.o {aa:Value}{ab:LL}(m:Mem W G w (H))(ac:R2 G aa ab){y:Int}(hd:D.o ab=some y):
  Calls prog 40 #[(.agg #[aa])] w (Res W G H (λ_ Ho v=>Ho=[]∧v=(iv y))):=by
 refine Ax (args:=[(.agg #[aa])]) (N:=6) [.tmp 2] func40 Z Z (lb Z) Z λa f=> ?_
 unfold D.o at hd
 refine Af ?_
 refine A4 (cs:=[aa]) m f Z Z Z λad w a m f=>Ac f Z λa f=>AD ?_
 refine Az underlying26 Z sizeOf24 f Z λa f=>An 0 0 m Bx f Z Z Z Z λa f=>Bc underlying24 f Z Z ac λa f=>Ac f Z λa f=>Aa ?_
 refine Ao ?_
 have m:Mem W G w H:=Mem.drop (H':=[ib ad 26 [aa]]) m
 obtain rfl:=sj hd
 exact⟨[(iv (ab.length:Int))],f.g Z,f.d,_,[],gr,m,Z,Z⟩
theorem Wk.V {v0:Value}{x0:LI}{x1:Int}(m:Mem W G w (H))(h0:R1 G v0 x0){y:Bool}(hd:D.V x0 x1=some y):
  Calls prog 41 #[v0,(iv x1)] w (Res W G H (λ_ Ho v=>Ho=[]∧v=(.bool y))):=by
 refine Ax (args:=[v0,(iv x1)]) (N:=40) [.tmp 4] func41 Z Z (lb Z) Z λa f=> ?_
 unfold D.V at hd
 refine Af ?_
 refine Ac f Z λa f=>Aa (Ak (Af ?_))
 refine Ab f Z λa f=>Bc underlying30 f Z Z h0 λa f=>Ab f Z λa f=>Aj f Z Z CS λa f=>Aa ?_
 rcases Ae hd with⟨aa,hd⟩|⟨aa,hd⟩
 ·refine Al f Z aa ?_
  refine Af ?_
  refine Ac f Z λa f=>Aa ?_
  refine Ao ?_
  obtain rfl:=sj hd
  exact⟨[(.bool false)],f.g Z,f.d,_,[],gr,m,Z,Z⟩
 ·refine Ag f Z aa ?_
  refine Aq ?_
  refine Ak (Af ?_)
  refine Ac f Z λa f=>Aa ?_
  have⟨ab,ac,hd⟩:=bind_some hd
  refine AT (λa w=>∃q_150':Unit,ab= .inl q_150'∧∃(ad:GH),GLe G ad∧Fr a 40 []∧Mem W ad w (H)) ?_ ?_
  ·refine As ?_
   refine A1 (λae a w=>∃af:Int,af=ae∧∃(ag:GH),GLe G ag∧Fr a 40 [(0,v0),(1,(iv x1)),(5,(iv af))]∧Mem W ag w (H)) ac ⟨_,Z,_,gr,f.k Z,m⟩ ?_
   clear ac f m
   rintro ae ah ai aj a w ⟨af,rfl,ag,ak,f,m⟩
   have h0:=rd1 ak h0
   refine Ak (Af ?_)
   refine Ab f Z λa f=>Ab f Z λa f=>Bc underlying30 f Z Z h0 λa f=>Aj f Z Z A3 λa f=>Aa ?_
   rcases Ae ai with⟨al,ai⟩|⟨al,ai⟩
   ·refine Al f Z al ?_
    refine Aq ?_
    refine Ak (As (Ak ?_))
    refine Bl 24 AQ (by kernel_rfl) m ?_
    refine AE 0 24 Z f Z λa f=>AE 1 24 Z f Z λa f=> ?_
    have⟨am,an,ai⟩:=bind_some ai
    refine BU 2 24 T30 h0 an Z f Z Z λao ap a aq ar f=> ?_
    subst ar
    refine BV 3 24 Pl2 aq Z f Z λa f=>AE 4 24 Z f Z λa f=>q_p 5 24 Z f (λ_=>Bo (f.e Z) (f.e Z) Bw) λa f=> ?_
    have⟨au,av,ai⟩:=bind_some ai
    refine BE (i:=6) 24 Z (by kernel_rfl) Z f Z Z Z call38 (λ_ _ w aw m=>Wk.b m av) λa f=>q_p 7 24 Z f (λ_=>Br (f.e Z)) λa f=>AE 8 24 Z f Z λa f=> ?_
    have⟨ax,ay,ai⟩:=bind_some ai
    refine q_cut (fuel':=0) (listed':= #[true,true,true,true,true,true,true,true,true,true,true,true,true,true,true,true,true,true,true,true,true,true,true,true]) (λa=>Fr a 40 [(0,v0),(1,(iv x1)),(5,(iv af)),(13,(.bool (decide (af<(x0.length:Int))))),(16,v0),(17,(iv af)),(18,ao),(19,(iv am)),(20,(iv x1)),(21,(iv (i64.wrap (x1-1)))),(22,(.bool au)),(23,(.bool (!au))),(24,(.bool (!au))),(39,(.bool ax))]) ?_ ?_
    ·intro a f
     refine A2 λaz w aA m=>Aa ?_
     rcases Ae ai with⟨aB,ai⟩|⟨aB,ai⟩
     ·refine Al f Z aB ?_
      refine Af ?_
      refine Ac f Z λa f=>Aa ?_
      refine Ao ?_
      obtain rfl:=sj ai
      obtain rfl:=aj _ rfl
      obtain rfl:=sj hd
      exact⟨[(.bool false)],f.g Z,f.d,_,[],(gt ak aA),m,Z,Z⟩
     ·refine Ag f Z aB ?_
      refine Aq ?_
      refine Ai ?_
      refine Ab f Z λa f=>Aj f Z Z AA λa f=>Ac f Z λa f=>Aa ?_
      obtain rfl:=sj ai
      exact⟨_,Z,_,Z,_,(gt ak aA),f.k Z,m⟩
    ·intro aC
     rcases Ae ay with⟨aD,ay⟩|⟨aD,ay⟩
     ·refine Bp 9 24 Z f aD λa f=> ?_
      refine Bp 10 24 Z f aD λa f=>Bp 11 24 Z f aD λa f=>BL 12 24 Z f λa f=>BL 13 24 Z f λa f=>BL 14 24 Z f λa f=>BL 15 24 Z f λa f=>BL 16 24 Z f λa f=>BL 17 24 Z f λa f=>BL 18 24 Z f λa f=>BL 19 24 Z f λa f=>BL 20 24 Z f λa f=>BL 21 24 Z f λa f=>Bp 22 24 Z f aD λa f=>q_p 23 24 Z f (λ_=>AK (f.e Z) aD (f.e Z)) λa f=> ?_
      obtain rfl:=sj ay
      exact aC _ (f.k Z)
     ·refine AE (hw:=wo f aD) 9 24 Z f Z λa f=> ?_
      refine q_p (hw:=wo f aD) 10 24 Z f (λ_=>Bo (f.e Z) (f.e Z) CS) λa f=>AE (hw:=wo f aD) 11 24 Z f Z λa f=> ?_
      have⟨aE,aF,ay⟩:=bind_some ay
      refine q_cut (fuel':=1) (listed':= #[true,true,true,true,true,true,true,true,true,true,true,true,true,true,true,true,true,true,true,true,true,true,true,false]) (λa=>Fr a 40 [(0,v0),(1,(iv x1)),(5,(iv af)),(13,(.bool (decide (af<(x0.length:Int))))),(16,v0),(17,(iv af)),(18,ao),(19,(iv am)),(20,(iv x1)),(21,(iv (i64.wrap (x1-1)))),(22,(.bool au)),(23,(.bool (!au))),(24,(.bool (!au))),(25,(iv af)),(26,(.bool (decide ((0:Int)<af)))),(27,(.bool (decide ((0:Int)<af)))),(38,(.bool aE))]) ?_ ?_
      ·intro a f
       refine q_p 23 24 Z f (λ_=>AM (f.e Z) aD (f.e Z)) λa f=> ?_
       obtain rfl:=sj ay
       exact aC _ (f.k Z)
      ·intro aG
       rcases Ae aF with⟨aH,aF⟩|⟨aH,aF⟩
       ·refine AE (hw:=wo f aH) 12 24 Z f Z λa f=> ?_
        refine AE (hw:=wo f aH) 13 24 Z f Z λa f=> ?_
        have⟨aI,aJ,aF⟩:=bind_some aF
        refine BU (hw:=wo f aH) 14 24 T30 h0 aJ Z f Z Z λaK aL a aM aN f=> ?_
        subst aN
        refine BV (hw:=wo f aH) 15 24 Pl2 aM Z f Z λa f=>AE (hw:=wo f aH) 16 24 Z f Z λa f=>AE (hw:=wo f aH) 17 24 Z f Z λa f=>q_p (hw:=wo f aH) 18 24 Z f (λ_=>Bo (f.e Z) (f.e Z) Bw) λa f=> ?_
        have⟨aO,aP,aF⟩:=bind_some aF
        refine BU (hw:=wo f aH) 19 24 T30 h0 aP Z f Z Z λaQ aR a aS aT f=> ?_
        subst aT
        refine BV (hw:=wo f aH) 20 24 Pl2 aS Z f Z λa f=>q_p (hw:=wo f aH) 21 24 Z f (λ_=>Bo (f.e Z) (f.e Z) De) λa f=>q_p (hw:=wo f aD) 22 24 Z f (λ_=>AK (f.e Z) aH (f.e Z)) λa f=> ?_
        obtain rfl:=sj aF
        exact aG _ (f.k Z)
       ·refine Bp 12 24 Z f aH λa f=> ?_
        refine Bp 13 24 Z f aH λa f=>Bp 14 24 Z f aH λa f=>Bp 15 24 Z f aH λa f=>Bp 16 24 Z f aH λa f=>Bp 17 24 Z f aH λa f=>Bp 18 24 Z f aH λa f=>Bp 19 24 Z f aH λa f=>Bp 20 24 Z f aH λa f=>Bp 21 24 Z f aH λa f=>q_p (hw:=wo f aD) 22 24 Z f (λ_=>AM (f.e Z) aH (f.e Z)) λa f=> ?_
        obtain rfl:=sj aF
        exact aG _ (f.k Z)
   ·refine Ag f Z al ?_
    refine AZ Z ?_
    obtain rfl:=sj ai
    obtain rfl:=aj _ rfl
    exact⟨_,Z,_,ak,f.weak trivial,m⟩
  ·rintro a w ⟨_,rfl,ad,aU,f,m⟩
   refine Af ?_
   refine Ac f Z λa f=>Aa ?_
   refine Ao ?_
   obtain rfl:=sj hd
   exact⟨[(.bool true)],f.g Z,f.d,_,[],aU,m,Z,Z⟩
theorem Wk.x {v0:Value}{x0:LI}{x1:Int}(m:Mem W G w (H))(h0:R1 G v0 x0){y:Bool}(hd:D.x x0 x1=some y):
  Calls prog 42 #[v0,(iv x1)] w (Res W G H (λ_ Ho v=>Ho=[]∧v=(.bool y))):=by
 refine Ax (args:=[v0,(iv x1)]) (N:=18) [.tmp 4] func42 Z Z (lb Z) Z λa f=> ?_
 unfold D.x at hd
 refine Af ?_
 refine Ac f Z λa f=>Aa (Ak (Af ?_))
 refine Ac f Z λa f=>Aa ?_
 have⟨aa,ab,hd⟩:=bind_some hd
 refine AT (λa w=>∃q_19':Unit,aa= .inl q_19'∧∃(ac:GH),GLe G ac∧Fr a 18 []∧Mem W ac w (H)) ?_ ?_
 ·refine As ?_
  refine A1 (λad a w=>∃ae:Int,ae=ad∧∃(af:GH),GLe G af∧Fr a 18 [(0,v0),(1,(iv x1)),(5,(iv ae))]∧Mem W af w (H)) ab ⟨_,Z,_,gr,f.k Z,m⟩ ?_
  clear ab f m
  rintro ad ag ah ai a w ⟨ae,rfl,af,aj,f,m⟩
  have h0:=rd1 aj h0
  refine Ak (Af ?_)
  refine Ab f Z λa f=>Ab f Z λa f=>Bc underlying30 f Z Z h0 λa f=>Aj f Z Z A3 λa f=>Aa ?_
  rcases Ae ah with⟨ak,ah⟩|⟨ak,ah⟩
  ·refine Al f Z ak ?_
   refine Aq ?_
   refine Ak (As (Af ?_))
   refine Ab f Z λa f=>Ab f Z λa f=> ?_
   have⟨al,am,ah⟩:=bind_some ah
   refine BT T30 f Z Z Z h0 am λan ao a ap aq f=> ?_
   subst aq
   refine Bh m Pl2 f Z Z ap λa f=>Ab f Z λa f=>Aj f Z Z AH λa f=>Aa ?_
   rcases Ae ah with⟨ar,ah⟩|⟨ar,ah⟩
   ·refine Al f Z ar ?_
    refine Af ?_
    refine Ac f Z λa f=>Aa ?_
    refine Ao ?_
    obtain rfl:=sj ah
    obtain rfl:=ai _ rfl
    obtain rfl:=sj hd
    exact⟨[(.bool true)],f.g Z,f.d,_,[],aj,m,Z,Z⟩
   ·refine Ag f Z ar ?_
    refine Aq ?_
    refine Ai ?_
    refine Ab f Z λa f=>Aj f Z Z AA λa f=>Ac f Z λa f=>Aa ?_
    obtain rfl:=sj ah
    exact⟨_,Z,_,Z,_,aj,f.k Z,m⟩
  ·refine Ag f Z ak ?_
   refine AZ Z ?_
   obtain rfl:=sj ah
   obtain rfl:=ai _ rfl
   exact⟨_,Z,_,aj,f.weak trivial,m⟩
 ·rintro a w ⟨_,rfl,ac,au,f,m⟩
  refine Af ?_
  refine Ac f Z λa f=>Aa ?_
  refine Ao ?_
  obtain rfl:=sj hd
  exact⟨[(.bool false)],f.g Z,f.d,_,[],au,m,Z,Z⟩
theorem Wk.z {aa:Value}{ab:LL}(m:Mem W G w (H))(ac:R2 G aa ab){y:Bool}(hd:D.z ab=some y):
  Calls prog 10 #[(.agg #[aa])] w (Res W G H (λ_ Ho v=>Ho=[]∧v=(.bool y))):=by
 refine Ax (args:=[(.agg #[aa])]) (N:=64) [.tmp 2] func10 Z Z (lb Z) Z λa f=> ?_
 unfold D.z at hd
 refine Af ?_
 refine A4 (cs:=[aa]) m f Z Z Z λad w a m f=>Ac f Z λa f=>AD ?_
 refine Ar 0 0 (ds:=[aa]) m AO f Z Z Z Z Z λa f=> ?_
 have⟨ae,af,hd⟩:=bind_some hd
 refine Bb f Z call40 (Wk.o m ac af) λag w ah m a f=> ?_
 have ac:=rd2 ah ac
 refine Ac f Z λa f=>Aa (Ak (Af ?_))
 refine Ab f Z λa f=> ?_
 have⟨ai,aj,hd⟩:=bind_some hd
 refine Bb f Z call38 (Wk.b m aj) λak w al m a f=> ?_
 have ac:=rd2 al ac
 refine l_o f (Br (f.e Z)) λa f=>Aa ?_
 rcases Ae hd with⟨am,hd⟩|⟨am,hd⟩
 ·refine Al f Z am ?_
  refine Af ?_
  refine Ac f Z λa f=>Aa ?_
  refine Ao ?_
  have m:Mem W ak w H:=Mem.drop (H':=[ib ad 26 [aa]]) m
  obtain rfl:=sj hd
  exact⟨[(.bool false)],f.g Z,f.d,_,[],(gt ah al),m,Z,Z⟩
 ·refine Ag f Z am ?_
  refine Aq ?_
  refine Ak (Af ?_)
  refine Ac f Z λa f=>Aa ?_
  have⟨an,ao,hd⟩:=bind_some hd
  refine AT (λa w=>∃q_138':Unit,an= .inl q_138'∧∃(ap:GH),GLe ak ap∧Fr a 64 [(1,(pb ad)),(3,(iv ae))]∧Mem W ap w (ib ad 26 [aa]::H)) ?_ ?_
  ·refine As ?_
   refine A1 (λaq a w=>∃ar:Int,ar=aq∧∃(au:GH),GLe ak au∧Fr a 64 [(1,(pb ad)),(3,(iv ae)),(4,(iv ar))]∧Mem W au w (ib ad 26 [aa]::H)) ao ⟨_,Z,_,gr,f.k Z,m⟩ ?_
   clear ao f m
   rintro aq av aw ax a w ⟨ar,rfl,au,ay,f,m⟩
   have ac:=rd2 ay ac
   refine Ak (Af ?_)
   refine Ab f Z λa f=>Ab f Z λa f=>Aj f Z Z A3 λa f=>Aa ?_
   rcases Ae aw with⟨az,aw⟩|⟨az,aw⟩
   ·refine Al f Z az ?_
    refine Aq ?_
    refine Ak (As (Af ?_))
    refine Az underlying26 Z sizeOf24 f Z λa f=>An 0 0 m Bx f Z Z Z Z λa f=>Ab f Z λa f=> ?_
    have⟨aA,aB,aw⟩:=bind_some aw
    refine BT T24 f Z Z Z ac aB λaC aD a aE aF f=>Bh m BO f Z Z aE λa f=>Ab f Z λa f=> ?_
    have⟨aG,aH,aw⟩:=bind_some aw
    refine Bb f Z call41 (Wk.V m aF aH) λaI w aJ m a f=> ?_
    have ac:=rd2 aJ ac
    refine l_o f (Br (f.e Z)) λa f=>Ab f Z λa f=> ?_
    have⟨aK,aL,aw⟩:=bind_some aw
    refine Bg 8 (λa w=>∃aM,GLe aI aM∧Mem W aM w (ib ad 26 [aa]::H)∧Fr a 64 [(1,(pb ad)),(3,(iv ae)),(4,(iv ar)),(14,(.bool (decide (ar<ae)))),(17,(pb ad)),(18,aa),(19,(iv ar)),(20,aC),(21,aD),(22,(iv ae)),(23,(.bool aG)),(24,(.bool (!aG))),(25,(.bool (!aG))),(33,(.bool aK))]) ?_ ?_
    ·rcases Ae aL with⟨aN,aL⟩|⟨aN,aL⟩
     ·refine Au f aN λa f=> ?_
      refine Au f aN λa f=>Au f aN λa f=>Au f aN λa f=>Au f aN λa f=>Au f aN λa f=>Au f aN λa f=>l_o f (AK (f.e Z) aN (f.e Z)) λa f=> ?_
      obtain rfl:=sj aL
      exact⟨_,gr,m,f.k Z⟩
     ·refine Aw f aN ?_
      refine Az underlying26 Z sizeOf24 f Z λa f=>Aw f aN ?_
      refine An 0 0 m Bx f Z Z Z Z λa f=>Aw f aN ?_
      refine Ab f Z λa f=>Aw f aN ?_
      have⟨aO,aP,aL⟩:=bind_some aL
      refine BT T24 f Z Z Z ac aP λaQ aR a aS aT f=>Aw f aN ?_
      refine Bh m BO f Z Z aS λa f=>Aw f aN ?_
      refine Ab f Z λa f=>Aw f aN ?_
      have⟨aU,aV,aL⟩:=bind_some aL
      refine Bb f Z call42 (Wk.x m aT aV) λaW w aX m a f=>l_o f (AM (f.e Z) aN (f.e Z)) λa f=> ?_
      obtain rfl:=sj aL
      exact⟨_,aX,m,f.k Z⟩
    ·rintro a w ⟨aM,aY,m,f⟩
     refine Aa ?_
     rcases Ae aw with⟨aZ,aw⟩|⟨aZ,aw⟩
     ·refine Al f Z aZ ?_
      refine Af ?_
      refine Ac f Z λa f=>Aa ?_
      refine Ao ?_
      have m:Mem W aM w H:=Mem.drop (H':=[ib ad 26 [aa]]) m
      obtain rfl:=sj aw
      obtain rfl:=ax _ rfl
      obtain rfl:=sj hd
      exact⟨[(.bool false)],f.g Z,f.d,_,[],(gt ah (gt al (gt ay (gt aJ aY)))),m,Z,Z⟩
     ·refine Ag f Z aZ ?_
      refine Aq ?_
      refine Ai ?_
      refine Ab f Z λa f=>Aj f Z Z AA λa f=>Ac f Z λa f=>Aa ?_
      obtain rfl:=sj aw
      exact⟨_,Z,_,Z,_,(gt ay (gt aJ aY)),f.k Z,m⟩
   ·refine Ag f Z az ?_
    refine AZ Z ?_
    obtain rfl:=sj aw
    obtain rfl:=ax _ rfl
    exact⟨_,Z,_,ay,f.k Z,m⟩
  ·rintro a w ⟨_,rfl,ap,a0,f,m⟩
   have ac:=rd2 a0 ac
   refine Ak (Af ?_)
   refine Ac f Z λa f=>Aa ?_
   have⟨a1,a2,hd⟩:=bind_some hd
   refine AT (λa w=>∃q_545':Unit,a1= .inl q_545'∧∃(a3:GH),GLe ap a3∧Fr a 64 []∧Mem W a3 w (H)) ?_ ?_
   ·refine As ?_
    refine A1 (λa4 a w=>∃a5:Int,a5=a4∧∃(a6:GH),GLe ap a6∧Fr a 64 [(1,(pb ad)),(3,(iv ae)),(5,(iv a5))]∧Mem W a6 w (ib ad 26 [aa]::H)) a2 ⟨_,Z,_,gr,f.k Z,m⟩ ?_
    clear a2 f m
    rintro a4 a7 a8 a9 a w ⟨a5,rfl,a6,ba,f,m⟩
    have ac:=rd2 ba ac
    refine Ak (Af ?_)
    refine Ab f Z λa f=>Ab f Z λa f=>Aj f Z Z A3 λa f=>Aa ?_
    rcases Ae a8 with⟨bb,a8⟩|⟨bb,a8⟩
    ·refine Al f Z bb ?_
     refine Aq ?_
     refine Ak (As (Af ?_))
     refine Ac f Z λa f=>Aa ?_
     have⟨bc,bd,a8⟩:=bind_some a8
     refine AT (λa w=>∃q_759':Unit,bc= .inl q_759'∧∃(be:GH),GLe a6 be∧Fr a 64 [(1,(pb ad)),(3,(iv ae)),(5,(iv a5))]∧Mem W be w (ib ad 26 [aa]::H)) ?_ ?_
     ·refine As ?_
      refine A1 (λbf a w=>∃bg:Int,bg=bf∧∃(bh:GH),GLe a6 bh∧Fr a 64 [(1,(pb ad)),(3,(iv ae)),(5,(iv a5)),(6,(iv bg))]∧Mem W bh w (ib ad 26 [aa]::H)) bd ⟨_,Z,_,gr,f.k Z,m⟩ ?_
      clear bd f m
      rintro bf bi bj bk a w ⟨bg,rfl,bh,bl,f,m⟩
      have ac:=rd2 bl ac
      refine Ak (Af ?_)
      refine Ab f Z λa f=>Az underlying26 Z sizeOf24 f Z λa f=>An 0 0 m Bx f Z Z Z Z λa f=>Ab f Z λa f=> ?_
      have⟨bm,bn,bj⟩:=bind_some bj
      refine BT T24 f Z Z Z ac bn λbo bp a bq br f=>Bh m BO f Z Z bq λa f=>Bc underlying30 f Z Z br λa f=>Aj f Z Z A3 λa f=>Aa ?_
      rcases Ae bj with⟨bs,bj⟩|⟨bs,bj⟩
      ·refine Al f Z bs ?_
       refine Aq ?_
       refine Ak (As (Ak ?_))
       refine Bl 15 AQ (by kernel_rfl) m ?_
       refine A5 0 15 underlying26 Z sizeOf24 Z f Z λa f=>Be 1 15 0 Bx Z Z Z f Z λa f=>A5 2 15 underlying26 Z sizeOf24 Z f Z λa f=>Be 3 15 0 Bx Z Z Z f Z λa f=>AE 4 15 Z f Z λa f=> ?_
       have⟨bt,bu,bj⟩:=bind_some bj
       refine BU 5 15 T24 ac bu Z f Z Z λbv bw a bx bz f=>BV 6 15 BO bx Z f Z λa f=>AE 7 15 Z f Z λa f=> ?_
       have⟨bA,bB,bj⟩:=bind_some bj
       refine BU 8 15 T30 bz bB Z f Z Z λbC bD a bE bF f=> ?_
       subst bF
       refine BV 9 15 Pl2 bE Z f Z λa f=> ?_
       have⟨bG,bH,bj⟩:=bind_some bj
       refine BU 10 15 T24 ac bH Z f Z Z λbI bJ a bK bL f=>BV 11 15 BO bK Z f Z λa f=>AE 12 15 Z f Z λa f=> ?_
       have⟨bM,bN,bj⟩:=bind_some bj
       refine BE (i:=13) 15 Z (by kernel_rfl) Z f Z Z Z call42 (λ_ _ w bO m=>Wk.x m (rd1 bO bL) bN) λa f=>q_p 14 15 Z f (λ_=>Br (f.e Z)) λa f=>A2 λbP w bQ m=>Aa ?_
       rcases Ae bj with⟨bR,bj⟩|⟨bR,bj⟩
       ·refine Al f Z bR ?_
        refine Af ?_
        refine Ac f Z λa f=>Aa ?_
        refine Ao ?_
        have m:Mem W bP w H:=Mem.drop (H':=[ib ad 26 [aa]]) m
        obtain rfl:=sj bj
        obtain rfl:=bk _ rfl
        obtain rfl:=sj a8
        obtain rfl:=a9 _ rfl
        obtain rfl:=sj hd
        exact⟨[(.bool false)],f.g Z,f.d,_,[],(gt ah (gt al (gt a0 (gt ba (gt bl bQ))))),m,Z,Z⟩
       ·refine Ag f Z bR ?_
        refine Aq ?_
        refine Ai ?_
        refine Ab f Z λa f=>Aj f Z Z AA λa f=>Ac f Z λa f=>Aa ?_
        obtain rfl:=sj bj
        exact⟨_,Z,_,Z,_,(gt bl bQ),f.k Z,m⟩
      ·refine Ag f Z bs ?_
       refine AZ Z ?_
       obtain rfl:=sj bj
       obtain rfl:=bk _ rfl
       exact⟨_,Z,_,bl,f.k Z,m⟩
     ·rintro a w ⟨_,rfl,be,bS,f,m⟩
      refine Ai ?_
      refine Ab f Z λa f=>Aj f Z Z AA λa f=>Ac f Z λa f=>Aa ?_
      obtain rfl:=sj a8
      exact⟨_,Z,_,Z,_,(gt ba bS),f.k Z,m⟩
    ·refine Ag f Z bb ?_
     refine AZ Z ?_
     have m:Mem W a6 w H:=Mem.drop (H':=[ib ad 26 [aa]]) m
     obtain rfl:=sj a8
     obtain rfl:=a9 _ rfl
     exact⟨_,Z,_,ba,f.weak trivial,m⟩
   ·rintro a w ⟨_,rfl,a3,bT,f,m⟩
    refine Af ?_
    refine Ac f Z λa f=>Aa ?_
    refine Ao ?_
    obtain rfl:=sj hd
    exact⟨[(.bool true)],f.g Z,f.d,_,[],(gt ah (gt al (gt a0 bT))),m,Z,Z⟩
theorem Wk.X0 {aa:Value}{ab:LL}(m:Mem W G w (H))(ac:R2 G aa ab){y:Bool}(hd:D.X0 ab=some y):
  Calls prog 63 #[(.agg #[aa])] w (Res W G H (λ_ Ho v=>Ho=[]∧v=(.bool y))):=by
 refine Ax (args:=[(.agg #[aa])]) (N:=11) [.tmp 2] func63 Z Z (lb Z) Z λa f=> ?_
 unfold D.X0 at hd
 refine Af ?_
 refine A4 (cs:=[aa]) m f Z Z Z λad w a m f=>Ac f Z λa f=>AD ?_
 refine Ar 0 0 (ds:=[aa]) m AO f Z Z Z Z Z λa f=> ?_
 have⟨ae,af,hd⟩:=bind_some hd
 refine Bb f Z call10 (Wk.z m ac af) λag w ah m a f=> ?_
 have ac:=rd2 ah ac
 refine Ab f Z λa f=> ?_
 refine Bg 5 (λa w=>∃ai,GLe ag ai∧Mem W ai w (ib ad 26 [aa]::H)∧Fr a 11 [(0,(.agg #[aa])),(1,(pb ad)),(3,(.agg #[aa])),(4,(.bool ae)),(5,(.bool ae)),(10,(.bool (ae&&(decide ((ab.length:Int)≤8)))))]) ?_ ?_
 ·rcases Bool.eq_false_or_eq_true ae with aj|aj
  ·refine Aw f aj ?_
   refine Az underlying26 Z sizeOf24 f Z λa f=>Aw f aj ?_
   refine An 0 0 m Bx f Z Z Z Z λa f=>Aw f aj ?_
   refine Bc underlying24 f Z Z ac λa f=>Aw f aj ?_
   refine Aj f Z Z De λa f=>l_o f (AK (f.e Z) aj (f.e Z)) λa f=> ?_
   exact⟨_,gr,m,f.weak ⟨Z,Z,Z,Z,Z,by rw[aj];rfl,trivial⟩⟩
  ·refine Au f aj λa f=> ?_
   refine Au f aj λa f=>Au f aj λa f=>Au f aj λa f=>l_o f (AM (f.e Z) aj (f.e Z)) λa f=> ?_
   exact⟨_,gr,m,f.weak ⟨Z,Z,Z,Z,Z,by rw[aj];rfl,trivial⟩⟩
 ·rintro a w ⟨ai,ak,m,f⟩
  refine Ac f Z λa f=>Aa ?_
  refine Ao ?_
  have m:Mem W ai w H:=Mem.drop (H':=[ib ad 26 [aa]]) m
  obtain rfl:=sj hd
  exact⟨[(.bool (ae&&(decide ((ab.length:Int)≤8))))],f.g Z,f.d,_,[],(gt ah ak),m,Z,Z⟩
theorem Wk.C {x0:Int}(m:Mem W G w (H)){y:Bool}(hd:D.C x0=some y):
  Calls prog 67 #[(iv x0)] w (Res W G H (λ_ Ho v=>Ho=[]∧v=(.bool y))):=by
 refine Ax (args:=[(iv x0)]) (N:=5) [.tmp 2] func67 Z Z (lb Z) Z λa f=> ?_
 unfold D.C at hd
 refine Af ?_
 refine Ac f Z λa f=>AD ?_
 refine Ab f Z λa f=> ?_
 have⟨aa,ab,hd⟩:=bind_some hd
 refine Bb f Z call38 (Wk.b m ab) λac w ad m a f=>Ac f Z λa f=>Aa ?_
 refine Ao ?_
 obtain rfl:=sj hd
 exact⟨[(.bool aa)],f.g Z,f.d,_,[],ad,m,Z,Z⟩
theorem Wk.l0 {x0:Int}(m:Mem W G w (H)){y:Bool}(hd:D.l0 x0=some y):
  Calls prog 68 #[(iv x0)] w (Res W G H (λ_ Ho v=>Ho=[]∧v=(.bool y))):=by
 refine Ax (args:=[(iv x0)]) (N:=5) [.tmp 2] func68 Z Z (lb Z) Z λa f=> ?_
 unfold D.l0 at hd
 refine Af ?_
 refine Ac f Z λa f=>AD ?_
 refine Ab f Z λa f=> ?_
 have⟨aa,ab,hd⟩:=bind_some hd
 refine Bb f Z call38 (Wk.b m ab) λac w ad m a f=>Ac f Z λa f=>Aa ?_
 refine Ao ?_
 obtain rfl:=sj hd
 exact⟨[(.bool aa)],f.g Z,f.d,_,[],ad,m,Z,Z⟩
theorem Wk.J0 {aa ab ac x1:Int}(m:Mem W G w (H)){y:Bool}(hd:D.J0 aa ab ac x1=some y):
  Calls prog 39 #[(.agg #[(iv aa),(iv ab),(iv ac)]),(iv x1)] w (Res W G H (λ_ Ho v=>Ho=[]∧v=(.bool y))):=by
 refine Ax (args:=[(.agg #[(iv aa),(iv ab),(iv ac)]),(iv x1)]) (N:=71) [.tmp 4] func39 Z Z (lb Z) Z λa f=> ?_
 unfold D.J0 at hd
 refine Af ?_
 refine A4 (cs:=[(iv aa),(iv ab),(iv ac)]) m f Z Z Z λad w a m f=>Ac f Z λa f=>AD ?_
 refine Az underlying72 Z sizeOf2 f Z λa f=>An 0 1 m Pl2 f Z Z Z Z λa f=>Ab f Z λa f=>Aj f Z Z Bw λa f=> ?_
 have⟨ae,af,hd⟩:=bind_some hd
 refine Bb f Z call38 (Wk.b m af) λag w ah m a f=>Ac f Z λa f=>AD ?_
 refine Az underlying72 Z sizeOf2 f Z λa f=>An 0 2 m Pl2 f Z Z Z Z λa f=>Ab f Z λa f=>Aj f Z Z Bw λa f=> ?_
 have⟨ai,aj,hd⟩:=bind_some hd
 refine Bb f Z call38 (Wk.b m aj) λak w al m a f=>Ac f Z λa f=>Aa (Ak (Af ?_))
 refine Az underlying72 Z sizeOf2 f Z λa f=>An 0 0 m Pl2 f Z Z Z Z λa f=>Aa (As (Ak (Af ?_)))
 refine Aj f Z Z AH λa f=>Ac f Z λa f=>Aa ?_
 have⟨am,an,hd⟩:=bind_some hd
 refine AT (λa w=>∃ao:Bool,ao=am∧∃(ap:GH),GLe ak ap∧Fr a 71 [(2,(pb ad)),(5,(.bool ae)),(6,(.bool ai)),(18,(iv aa)),(19,(.bool ao))]∧Mem W ap w (ib ad 72 [(iv aa),(iv ab),(iv ac)]::H)) ?_ ?_
 ·rcases Ae an with⟨aq,an⟩|⟨aq,an⟩
  ·refine Al f Z aq ?_
   refine Aq ?_
   obtain rfl:=sj an
   exact⟨_,Z,_,gr,f.k Z,m⟩
  ·refine Ag f Z aq ?_
   refine Ai ?_
   refine Aj f Z Z AH λa f=>Ac f Z λa f=>Aa ?_
   obtain rfl:=sj an
   exact⟨_,Z,_,gr,f.k Z,m⟩
 ·rintro a w ⟨ao,rfl,ap,ar,f,m⟩
  rcases Ae hd with⟨au,hd⟩|⟨au,hd⟩
  ·refine Al f Z au ?_
   refine Af ?_
   refine Az underlying72 Z sizeOf2 f Z λa f=>An 0 1 m Pl2 f Z Z Z Z λa f=> ?_
   have⟨av,aw,hd⟩:=bind_some hd
   refine Bb f Z call67 (Wk.C m aw) λax w ay m a f=>Ab f Z λa f=> ?_
   have⟨az,aA,hd⟩:=bind_some hd
   refine Bg 4 (λa w=>∃aB,GLe ax aB∧Mem W aB w (ib ad 72 [(iv aa),(iv ab),(iv ac)]::H)∧Fr a 71 [(2,(pb ad)),(5,(.bool ae)),(6,(.bool ai)),(18,(iv aa)),(19,(.bool ao)),(22,(.pointer (some ⟨ad,1,none⟩))),(23,(iv ab)),(24,(.bool av)),(25,(.bool av)),(29,(.bool az))]) ?_ ?_
   ·rcases Ae aA with⟨aC,aA⟩|⟨aC,aA⟩
    ·refine Aw f aC ?_
     refine Az underlying72 Z sizeOf2 f Z λa f=>Aw f aC ?_
     refine An 0 2 m Pl2 f Z Z Z Z λa f=>Aw f aC ?_
     have⟨aD,aE,aA⟩:=bind_some aA
     refine Bb f Z call67 (Wk.C m aE) λaF w aG m a f=>l_o f (AK (f.e Z) aC (f.e Z)) λa f=> ?_
     obtain rfl:=sj aA
     exact⟨_,aG,m,f.k Z⟩
    ·refine Au f aC λa f=> ?_
     refine Au f aC λa f=>Au f aC λa f=>l_o f (AM (f.e Z) aC (f.e Z)) λa f=> ?_
     obtain rfl:=sj aA
     exact⟨_,gr,m,f.k Z⟩
   ·rintro a w ⟨aB,aH,m,f⟩
    refine Ac f Z λa f=>Aa ?_
    refine Ao ?_
    have m:Mem W aB w H:=Mem.drop (H':=[ib ad 72 [(iv aa),(iv ab),(iv ac)]]) m
    obtain rfl:=sj hd
    exact⟨[(.bool az)],f.g Z,f.d,_,[],(gt ah (gt al (gt ar (gt ay aH)))),m,Z,Z⟩
  ·refine Ag f Z au ?_
   refine Af ?_
   refine Aj f Z Z AH λa f=>Ac f Z λa f=>Aa ?_
   rcases Ae hd with⟨aI,hd⟩|⟨aI,hd⟩
   ·refine Al f Z aI ?_
    refine Af ?_
    refine Az underlying72 Z sizeOf2 f Z λa f=>An 0 1 m Pl2 f Z Z Z Z λa f=> ?_
    have⟨aJ,aK,hd⟩:=bind_some hd
    refine Bb f Z call67 (Wk.C m aK) λaL w aM m a f=>Ab f Z λa f=> ?_
    have⟨aN,aO,hd⟩:=bind_some hd
    refine Bg 4 (λa w=>∃aP,GLe aL aP∧Mem W aP w (ib ad 72 [(iv aa),(iv ab),(iv ac)]::H)∧Fr a 71 [(2,(pb ad)),(5,(.bool ae)),(6,(.bool ai)),(18,(iv aa)),(30,(.bool (aa==3))),(32,(.pointer (some ⟨ad,1,none⟩))),(33,(iv ab)),(34,(.bool aJ)),(35,(.bool aJ)),(39,(.bool aN))]) ?_ ?_
    ·rcases Ae aO with⟨aQ,aO⟩|⟨aQ,aO⟩
     ·refine Aw f aQ ?_
      refine Az underlying72 Z sizeOf2 f Z λa f=>Aw f aQ ?_
      refine An 0 2 m Pl2 f Z Z Z Z λa f=>Aw f aQ ?_
      have⟨aR,aS,aO⟩:=bind_some aO
      refine Bb f Z call68 (Wk.l0 m aS) λaT w aU m a f=>l_o f (AK (f.e Z) aQ (f.e Z)) λa f=> ?_
      obtain rfl:=sj aO
      exact⟨_,aU,m,f.k Z⟩
     ·refine Au f aQ λa f=> ?_
      refine Au f aQ λa f=>Au f aQ λa f=>l_o f (AM (f.e Z) aQ (f.e Z)) λa f=> ?_
      obtain rfl:=sj aO
      exact⟨_,gr,m,f.k Z⟩
    ·rintro a w ⟨aP,aV,m,f⟩
     refine Ac f Z λa f=>Aa ?_
     refine Ao ?_
     have m:Mem W aP w H:=Mem.drop (H':=[ib ad 72 [(iv aa),(iv ab),(iv ac)]]) m
     obtain rfl:=sj hd
     exact⟨[(.bool aN)],f.g Z,f.d,_,[],(gt ah (gt al (gt ar (gt aM aV)))),m,Z,Z⟩
   ·refine Ag f Z aI ?_
    refine Af ?_
    refine Aj f Z Z AH λa f=>Ac f Z λa f=>Aa ?_
    rcases Ae hd with⟨aW,hd⟩|⟨aW,hd⟩
    ·refine Al f Z aW ?_
     refine Af ?_
     refine Ab f Z λa f=>Ab f Z λa f=> ?_
     refine Bg 4 (λa w=>∃aX,GLe ap aX∧Mem W aX w (ib ad 72 [(iv aa),(iv ab),(iv ac)]::H)∧Fr a 71 [(2,(pb ad)),(5,(.bool ae)),(6,(.bool ai)),(18,(iv aa)),(40,(.bool (aa==4))),(42,(.bool ae)),(43,(.bool ae)),(47,(.bool (ae&&(ac==0))))]) ?_ ?_
     ·rcases Bool.eq_false_or_eq_true ae with aY|aY
      ·refine Aw f aY ?_
       refine Az underlying72 Z sizeOf2 f Z λa f=>Aw f aY ?_
       refine An 0 2 m Pl2 f Z Z Z Z λa f=>Aw f aY ?_
       refine Aj f Z Z AH λa f=>l_o f (AK (f.e Z) aY (f.e Z)) λa f=> ?_
       exact⟨_,gr,m,f.weak ⟨Z,Z,Z,Z,Z,Z,Z,by rw[aY];rfl,trivial⟩⟩
      ·refine Au f aY λa f=> ?_
       refine Au f aY λa f=>Au f aY λa f=>l_o f (AM (f.e Z) aY (f.e Z)) λa f=> ?_
       exact⟨_,gr,m,f.weak ⟨Z,Z,Z,Z,Z,Z,Z,by rw[aY];rfl,trivial⟩⟩
     ·rintro a w ⟨aX,aZ,m,f⟩
      refine Ac f Z λa f=>Aa ?_
      refine Ao ?_
      have m:Mem W aX w H:=Mem.drop (H':=[ib ad 72 [(iv aa),(iv ab),(iv ac)]]) m
      obtain rfl:=sj hd
      exact⟨[(.bool (ae&&(ac==0)))],f.g Z,f.d,_,[],(gt ah (gt al (gt ar aZ))),m,Z,Z⟩
    ·refine Ag f Z aW ?_
     refine Ak (Af ?_)
     refine Aj f Z Z AH λa f=>Ac f Z λa f=>Aa ?_
     have⟨a0,a1,hd⟩:=bind_some hd
     refine AT (λa w=>∃a2:Bool,a2=a0∧∃(a3:GH),GLe ap a3∧Fr a 71 [(2,(pb ad)),(5,(.bool ae)),(6,(.bool ai)),(18,(iv aa)),(48,(.bool a2))]∧Mem W a3 w (ib ad 72 [(iv aa),(iv ab),(iv ac)]::H)) ?_ ?_
     ·rcases Ae a1 with⟨a4,a1⟩|⟨a4,a1⟩
      ·refine Al f Z a4 ?_
       refine Aq ?_
       obtain rfl:=sj a1
       exact⟨_,Z,_,gr,f.k Z,m⟩
      ·refine Ag f Z a4 ?_
       refine Ai ?_
       refine Aj f Z Z AH λa f=>Ac f Z λa f=>Aa ?_
       obtain rfl:=sj a1
       exact⟨_,Z,_,gr,f.k Z,m⟩
     ·rintro a w ⟨a2,rfl,a3,a5,f,m⟩
      rcases Ae hd with⟨a6,hd⟩|⟨a6,hd⟩
      ·refine Al f Z a6 ?_
       refine Af ?_
       refine Ab f Z λa f=>Ab f Z λa f=> ?_
       refine Bg 2 (λa w=>∃a7,GLe a3 a7∧Mem W a7 w (ib ad 72 [(iv aa),(iv ab),(iv ac)]::H)∧Fr a 71 [(2,(pb ad)),(5,(.bool ae)),(6,(.bool ai)),(18,(iv aa)),(48,(.bool a2)),(51,(.bool ae)),(52,(.bool ae)),(54,(.bool (ae&&ai)))]) ?_ ?_
       ·rcases Bool.eq_false_or_eq_true ae with a8|a8
        ·refine Aw f a8 ?_
         refine Ab f Z λa f=>l_o f (AK (f.e Z) a8 (f.e Z)) λa f=> ?_
         exact⟨_,gr,m,f.weak ⟨Z,Z,Z,Z,Z,Z,Z,by rw[a8];rfl,trivial⟩⟩
        ·refine Au f a8 λa f=> ?_
         refine l_o f (AM (f.e Z) a8 (f.e Z)) λa f=> ?_
         exact⟨_,gr,m,f.weak ⟨Z,Z,Z,Z,Z,Z,Z,by rw[a8];rfl,trivial⟩⟩
       ·rintro a w ⟨a7,a9,m,f⟩
        refine Ac f Z λa f=>Aa ?_
        refine Ao ?_
        have m:Mem W a7 w H:=Mem.drop (H':=[ib ad 72 [(iv aa),(iv ab),(iv ac)]]) m
        obtain rfl:=sj hd
        exact⟨[(.bool (ae&&ai))],f.g Z,f.d,_,[],(gt ah (gt al (gt ar (gt a5 a9)))),m,Z,Z⟩
      ·refine Ag f Z a6 ?_
       refine Af ?_
       refine Aj f Z Z AH λa f=>Ac f Z λa f=>Aa ?_
       rcases Ae hd with⟨ba,hd⟩|⟨ba,hd⟩
       ·refine Al f Z ba ?_
        refine Af ?_
        refine Az underlying72 Z sizeOf2 f Z λa f=>An 0 1 m Pl2 f Z Z Z Z λa f=> ?_
        have⟨bb,bc,hd⟩:=bind_some hd
        refine Bb f Z call67 (Wk.C m bc) λbd w be m a f=>Ab f Z λa f=> ?_
        refine Bg 2 (λa w=>∃bf,GLe bd bf∧Mem W bf w (ib ad 72 [(iv aa),(iv ab),(iv ac)]::H)∧Fr a 71 [(2,(pb ad)),(5,(.bool ae)),(6,(.bool ai)),(18,(iv aa)),(55,(.bool (aa==7))),(57,(.pointer (some ⟨ad,1,none⟩))),(58,(iv ab)),(59,(.bool bb)),(60,(.bool bb)),(62,(.bool (bb&&ai)))]) ?_ ?_
        ·rcases Bool.eq_false_or_eq_true bb with bg|bg
         ·refine Aw f bg ?_
          refine Ab f Z λa f=>l_o f (AK (f.e Z) bg (f.e Z)) λa f=> ?_
          exact⟨_,gr,m,f.weak ⟨Z,Z,Z,Z,Z,Z,Z,Z,Z,by rw[bg];rfl,trivial⟩⟩
         ·refine Au f bg λa f=> ?_
          refine l_o f (AM (f.e Z) bg (f.e Z)) λa f=> ?_
          exact⟨_,gr,m,f.weak ⟨Z,Z,Z,Z,Z,Z,Z,Z,Z,by rw[bg];rfl,trivial⟩⟩
        ·rintro a w ⟨bf,bh,m,f⟩
         refine Ac f Z λa f=>Aa ?_
         refine Ao ?_
         have m:Mem W bf w H:=Mem.drop (H':=[ib ad 72 [(iv aa),(iv ab),(iv ac)]]) m
         obtain rfl:=sj hd
         exact⟨[(.bool (bb&&ai))],f.g Z,f.d,_,[],(gt ah (gt al (gt ar (gt a5 (gt be bh))))),m,Z,Z⟩
       ·refine Ag f Z ba ?_
        refine Af ?_
        refine Aj f Z Z AH λa f=>Ac f Z λa f=>Aa ?_
        rcases Ae hd with⟨bi,hd⟩|⟨bi,hd⟩
        ·refine Al f Z bi ?_
         refine Af ?_
         refine Az underlying72 Z sizeOf2 f Z λa f=>An 0 1 m Pl2 f Z Z Z Z λa f=> ?_
         have⟨bj,bk,hd⟩:=bind_some hd
         refine Bb f Z call68 (Wk.l0 m bk) λbl w bm m a f=>Ab f Z λa f=> ?_
         refine Bg 2 (λa w=>∃bn,GLe bl bn∧Mem W bn w (ib ad 72 [(iv aa),(iv ab),(iv ac)]::H)∧Fr a 71 [(2,(pb ad)),(5,(.bool ae)),(6,(.bool ai)),(63,(.bool (aa==8))),(65,(.pointer (some ⟨ad,1,none⟩))),(66,(iv ab)),(67,(.bool bj)),(68,(.bool bj)),(70,(.bool (bj&&ai)))]) ?_ ?_
         ·rcases Bool.eq_false_or_eq_true bj with bo|bo
          ·refine Aw f bo ?_
           refine Ab f Z λa f=>l_o f (AK (f.e Z) bo (f.e Z)) λa f=> ?_
           exact⟨_,gr,m,f.weak ⟨Z,Z,Z,Z,Z,Z,Z,Z,by rw[bo];rfl,trivial⟩⟩
          ·refine Au f bo λa f=> ?_
           refine l_o f (AM (f.e Z) bo (f.e Z)) λa f=> ?_
           exact⟨_,gr,m,f.weak ⟨Z,Z,Z,Z,Z,Z,Z,Z,by rw[bo];rfl,trivial⟩⟩
         ·rintro a w ⟨bn,bp,m,f⟩
          refine Ac f Z λa f=>Aa ?_
          refine Ao ?_
          have m:Mem W bn w H:=Mem.drop (H':=[ib ad 72 [(iv aa),(iv ab),(iv ac)]]) m
          obtain rfl:=sj hd
          exact⟨[(.bool (bj&&ai))],f.g Z,f.d,_,[],(gt ah (gt al (gt ar (gt a5 (gt bm bp))))),m,Z,Z⟩
        ·refine Ag f Z bi ?_
         refine Aq ?_
         refine Af ?_
         refine Ac f Z λa f=>Aa ?_
         refine Ao ?_
         have m:Mem W a3 w H:=Mem.drop (H':=[ib ad 72 [(iv aa),(iv ab),(iv ac)]]) m
         obtain rfl:=sj hd
         exact⟨[(.bool false)],f.g Z,f.d,_,[],(gt ah (gt al (gt ar a5))),m,Z,Z⟩
theorem Wk.u {aa:Value}{ab:(List (Int×Int×Int))}(m:Mem W G w (H))(ac:RSr P3 G aa ab){y:Bool}(hd:D.u ab=some y):
  Calls prog 9 #[(.agg #[aa])] w (Res W G H (λ_ Ho v=>Ho=[]∧v=(.bool y))):=by
 refine Ax (args:=[(.agg #[aa])]) (N:=24) [.tmp 2] func9 Z Z (lb Z) Z λa f=> ?_
 unfold D.u at hd
 refine Af ?_
 refine A4 (cs:=[aa]) m f Z Z Z λad w a m f=>Ac f Z λa f=>Aa (Ak (Af ?_))
 refine Az underlying29 Z sizeOf27 f Z λa f=>An 0 0 m BG f Z Z Z Z λa f=>CZ underlying27 f Z Z ac λa f=> ?_
 have⟨ae,af,hd⟩:=bind_some hd
 refine Bb f Z call38 (Wk.b m af) λag w ah m a f=> ?_
 have ac:=RSr.mono trivial _ _ _ _ ah ac
 refine l_o f (Br (f.e Z)) λa f=>Aa ?_
 rcases Ae hd with⟨ai,hd⟩|⟨ai,hd⟩
 ·refine Al f Z ai ?_
  refine Af ?_
  refine Ac f Z λa f=>Aa ?_
  refine Ao ?_
  have m:Mem W ag w H:=Mem.drop (H':=[ib ad 29 [aa]]) m
  obtain rfl:=sj hd
  exact⟨[(.bool false)],f.g Z,f.d,_,[],ah,m,Z,Z⟩
 ·refine Ag f Z ai ?_
  refine Aq ?_
  refine Ak (Af ?_)
  refine Ac f Z λa f=>Aa ?_
  have⟨aj,ak,hd⟩:=bind_some hd
  refine AT (λa w=>∃q_39':Unit,aj= .inl q_39'∧∃(al:GH),GLe ag al∧Fr a 24 []∧Mem W al w (H)) ?_ ?_
  ·refine As ?_
   refine A1 (λam a w=>∃an:Int,an=am∧∃(ao:GH),GLe ag ao∧Fr a 24 [(1,(pb ad)),(3,(iv an))]∧Mem W ao w (ib ad 29 [aa]::H)) ak ⟨_,Z,_,gr,f.k Z,m⟩ ?_
   clear ak f m
   rintro am ap aq ar a w ⟨an,rfl,ao,au,f,m⟩
   have ac:=RSr.mono trivial _ _ _ _ au ac
   refine Ak (Af ?_)
   refine Ab f Z λa f=>Az underlying29 Z sizeOf27 f Z λa f=>An 0 0 m BG f Z Z Z Z λa f=>CZ underlying27 f Z Z ac λa f=>Aj f Z Z A3 λa f=>Aa ?_
   rcases Ae aq with⟨av,aq⟩|⟨av,aq⟩
   ·refine Al f Z av ?_
    refine Aq ?_
    refine Ak (As (Af ?_))
    refine Az underlying29 Z sizeOf27 f Z λa f=>An 0 0 m BG f Z Z Z Z λa f=>Ab f Z λa f=> ?_
    have⟨aw,ax,aq⟩:=bind_some aq
    refine l_atR (E:=P3) T27 f Z Z Z ac ax λay a az f=>C2 (E:=P3) [(iv aw.1),(iv aw.2.1),(iv aw.2.2)] m Cj f Z Z az Z λa f=>Ab f Z λa f=> ?_
    have⟨aA,aB,aq⟩:=bind_some aq
    refine Bb f Z call39 (Wk.J0 m aB) λaC w aD m a f=>l_o f (Br (f.e Z)) λa f=>Aa ?_
    rcases Ae aq with⟨aE,aq⟩|⟨aE,aq⟩
    ·refine Al f Z aE ?_
     refine Af ?_
     refine Ac f Z λa f=>Aa ?_
     refine Ao ?_
     have m:Mem W aC w H:=Mem.drop (H':=[ib ad 29 [aa]]) m
     obtain rfl:=sj aq
     obtain rfl:=ar _ rfl
     obtain rfl:=sj hd
     exact⟨[(.bool false)],f.g Z,f.d,_,[],(gt ah (gt au aD)),m,Z,Z⟩
    ·refine Ag f Z aE ?_
     refine Aq ?_
     refine Ai ?_
     refine Ab f Z λa f=>Aj f Z Z AA λa f=>Ac f Z λa f=>Aa ?_
     obtain rfl:=sj aq
     exact⟨_,Z,_,Z,_,(gt au aD),f.k Z,m⟩
   ·refine Ag f Z av ?_
    refine AZ Z ?_
    have m:Mem W ao w H:=Mem.drop (H':=[ib ad 29 [aa]]) m
    obtain rfl:=sj aq
    obtain rfl:=ar _ rfl
    exact⟨_,Z,_,au,f.weak trivial,m⟩
  ·rintro a w ⟨_,rfl,al,aF,f,m⟩
   refine Af ?_
   refine Ac f Z λa f=>Aa ?_
   refine Ao ?_
   obtain rfl:=sj hd
   exact⟨[(.bool true)],f.g Z,f.d,_,[],(gt ah aF),m,Z,Z⟩
theorem Wk.u0 {aa ab:Value}{ac:LL}{ad:(List (Int×Int×Int))}(m:Mem W G w (H))(ae:R2 G aa ac)(af:RSr P3 G ab ad){y:Bool}(hd:D.u0 ac ad=some y):
  Calls prog 31 #[(.agg #[aa]),(.agg #[ab])] w (Res W G H (λ_ Ho v=>Ho=[]∧v=(.bool y))):=by
 refine Ax (args:=[(.agg #[aa]),(.agg #[ab])]) (N:=11) [.tmp 4] func31 Z Z (lb Z) Z λa f=> ?_
 unfold D.u0 at hd
 refine Af ?_
 refine A4 (cs:=[aa]) m f Z Z Z λag w a m f=>A4 (cs:=[ab]) m f Z Z Z λah w a m f=>Ac f Z λa f=>AD ?_
 refine Ar 1 0 (ds:=[aa]) m AO f Z Z Z Z Z λa f=> ?_
 have⟨ai,aj,hd⟩:=bind_some hd
 refine Bb f Z call63 (Wk.X0 m ae aj) λak w al m a f=> ?_
 have af:=RSr.mono trivial _ _ _ _ al af
 refine Ab f Z λa f=> ?_
 have⟨am,an,hd⟩:=bind_some hd
 refine Bg 3 (λa w=>∃ao,GLe ak ao∧Mem W ao w (ib ah 29 [ab]::ib ag 26 [aa]::H)∧Fr a 11 [(0,(.agg #[aa])),(1,(.agg #[ab])),(2,(pb ag)),(3,(pb ah)),(5,(.agg #[aa])),(6,(.bool ai)),(7,(.bool ai)),(10,(.bool am))]) ?_ ?_
 ·rcases Ae an with⟨ap,an⟩|⟨ap,an⟩
  ·refine Aw f ap ?_
   refine Ar 0 0 (ds:=[ab]) m Bd f Z Z Z Z Z λa f=>Aw f ap ?_
   have⟨aq,ar,an⟩:=bind_some an
   refine Bb f Z call9 (Wk.u m af ar) λau w av m a f=>l_o f (AK (f.e Z) ap (f.e Z)) λa f=> ?_
   obtain rfl:=sj an
   exact⟨_,av,m,f.k Z⟩
  ·refine Au f ap λa f=> ?_
   refine Au f ap λa f=>l_o f (AM (f.e Z) ap (f.e Z)) λa f=> ?_
   obtain rfl:=sj an
   exact⟨_,gr,m,f.k Z⟩
 ·rintro a w ⟨ao,aw,m,f⟩
  refine Ac f Z λa f=>Aa ?_
  refine Ao ?_
  have m:Mem W ao w H:=Mem.drop (H':=[ib ah 29 [ab],ib ag 26 [aa]]) m
  obtain rfl:=sj hd
  exact⟨[(.bool am)],f.g Z,f.d,_,[],(gt al aw),m,Z,Z⟩
theorem Wk.S {aa:Value}{ab:LL}{x1:Int}(m:Mem W G w (H))(ac:R2 G aa ab){y:Bool}(hd:D.S ab x1=some y):
  Calls prog 32 #[(.agg #[aa]),(iv x1)] w (Res W G H (λ_ Ho v=>Ho=[]∧v=(.bool y))):=by
 refine Ax (args:=[(.agg #[aa]),(iv x1)]) (N:=10) [.tmp 4] func32 Z Z (lb Z) Z λa f=> ?_
 unfold D.S at hd
 refine Af ?_
 refine A4 (cs:=[aa]) m f Z Z Z λad w a m f=>Ac f Z λa f=>AD ?_
 refine Ab f Z λa f=>Ar 0 0 (ds:=[aa]) m AO f Z Z Z Z Z λa f=> ?_
 have⟨ae,af,hd⟩:=bind_some hd
 refine Bb f Z call40 (Wk.o m ac af) λag w ah m a f=>Aj f Z Z Bw λa f=> ?_
 have⟨ai,aj,hd⟩:=bind_some hd
 refine Bb f Z call38 (Wk.b m aj) λak w al m a f=>Ac f Z λa f=>Aa ?_
 refine Ao ?_
 have m:Mem W ak w H:=Mem.drop (H':=[ib ad 26 [aa]]) m
 obtain rfl:=sj hd
 exact⟨[(.bool ai)],f.g Z,f.d,_,[],(gt ah al),m,Z,Z⟩
theorem Wk.y {aa v1:Value}{ab:LL}{x1:LI}(m:Mem W G w (H))(ac:R2 G aa ab)(h1:R1 G v1 x1){y:Bool}(hd:D.y ab x1=some y):
  Calls prog 33 #[(.agg #[aa]),v1] w (Res W G H (λ_ Ho v=>Ho=[]∧v=(.bool y))):=by
 refine Ax (args:=[(.agg #[aa]),v1]) (N:=13) [.tmp 4] func33 Z Z (lb Z) Z λa f=> ?_
 unfold D.y at hd
 refine Af ?_
 refine A4 (cs:=[aa]) m f Z Z Z λad w a m f=>Ac f Z λa f=>AD ?_
 refine Ar 0 0 (ds:=[aa]) m AO f Z Z Z Z Z λa f=> ?_
 have⟨ae,af,hd⟩:=bind_some hd
 refine Bb f Z call10 (Wk.z m ac af) λag w ah m a f=> ?_
 have ac:=rd2 ah ac
 have h1:=rd1 ah h1
 refine Ab f Z λa f=> ?_
 have⟨ai,aj,hd⟩:=bind_some hd
 refine Bg 5 (λa w=>∃ak,GLe ag ak∧Mem W ak w (ib ad 26 [aa]::H)∧Fr a 13 [(0,(.agg #[aa])),(1,v1),(2,(pb ad)),(5,(.agg #[aa])),(6,(.bool ae)),(7,(.bool ae)),(12,(.bool ai))]) ?_ ?_
 ·rcases Ae aj with⟨al,aj⟩|⟨al,aj⟩
  ·refine Aw f al ?_
   refine Ab f Z λa f=>Aw f al ?_
   refine Ar 0 0 (ds:=[aa]) m AO f Z Z Z Z Z λa f=>Aw f al ?_
   have⟨am,an,aj⟩:=bind_some aj
   refine Bb f Z call40 (Wk.o m ac an) λao w ap m a f=> ?_
   have h1:=rd1 ap h1
   refine Aw f al ?_
   have⟨aq,ar,aj⟩:=bind_some aj
   refine Bb f Z call41 (Wk.V m h1 ar) λau w av m a f=>l_o f (AK (f.e Z) al (f.e Z)) λa f=> ?_
   obtain rfl:=sj aj
   exact⟨_,(gt ap av),m,f.k Z⟩
  ·refine Au f al λa f=> ?_
   refine Au f al λa f=>Au f al λa f=>Au f al λa f=>l_o f (AM (f.e Z) al (f.e Z)) λa f=> ?_
   obtain rfl:=sj aj
   exact⟨_,gr,m,f.k Z⟩
 ·rintro a w ⟨ak,aw,m,f⟩
  refine Ac f Z λa f=>Aa ?_
  refine Ao ?_
  have m:Mem W ak w H:=Mem.drop (H':=[ib ad 26 [aa]]) m
  obtain rfl:=sj hd
  exact⟨[(.bool ai)],f.g Z,f.d,_,[],(gt ah aw),m,Z,Z⟩
theorem Wk.I {v0:Value}{x0:LI}(m:Mem W G w (H))(h0:R1 G v0 x0){y:Int}(hd:D.I x0=some y):
  Calls prog 34 #[v0] w (Res W G H (λ_ Ho v=>Ho=[]∧v=(iv y))):=by
 refine Ax (args:=[v0]) (N:=20) [.tmp 2] func34 Z Z (lb Z) Z λa f=> ?_
 unfold D.I at hd
 refine Af ?_
 refine Ac f Z λa f=>AD ?_
 refine Ac f Z λa f=>Aa (Ak (Af ?_))
 refine Ac f Z λa f=>Aa ?_
 have⟨aa,ab,hd⟩:=bind_some hd
 refine AT (λa w=>∃ac:Int,ac=aa∧∃(ad:GH),GLe G ad∧Fr a 20 [(3,(iv ac))]∧Mem W ad w (H)) ?_ ?_
 ·refine As ?_
  refine A1 (λae a w=>∃af:Int,∃ag:Int,(af,ag)=ae∧∃(ah:GH),GLe G ah∧Fr a 20 [(0,v0),(3,(iv af)),(4,(iv ag))]∧Mem W ah w (H)) ab ⟨_,_,Z,_,gr,f.k Z,m⟩ ?_
  clear ab f m
  rintro ae ai aj ak a w ⟨af,ag,rfl,ah,al,f,m⟩
  have h0:=rd1 al h0
  refine Ak (Af ?_)
  refine Ab f Z λa f=>Ab f Z λa f=>Bc underlying30 f Z Z h0 λa f=>Aj f Z Z A3 λa f=>Aa ?_
  rcases Ae aj with⟨am,aj⟩|⟨am,aj⟩
  ·refine Al f Z am ?_
   refine Aq ?_
   refine Ak (As (Ai ?_))
   refine Ab f Z λa f=>Ab f Z λa f=>Ab f Z λa f=> ?_
   have⟨an,ao,aj⟩:=bind_some aj
   refine BT T30 f Z Z Z h0 ao λap aq a ar au f=> ?_
   subst au
   refine Bh m Pl2 f Z Z ar λa f=>l_o f (BI (f.e Z) ⟨_,underlying2⟩ underlying100) λa f=> ?_
   obtain⟨av,aj⟩:=Bs aj
   refine l_o f (CU (f.e Z) (f.e Z) av) λa f=>Aj f Z Z b_or λa f=>Ac f Z λa f=>Aa (Ai ?_)
   refine Ab f Z λa f=>Aj f Z Z AA λa f=>Ac f Z λa f=>Aa ?_
   obtain rfl:=sj aj
   exact⟨_,Z,_,_,Z,_,al,f.k Z,m⟩
  ·refine Ag f Z am ?_
   refine AZ Z ?_
   obtain rfl:=sj aj
   obtain rfl:=ak _ rfl
   exact⟨_,Z,_,al,f.k Z,m⟩
 ·rintro a w ⟨ac,rfl,ad,aw,f,m⟩
  refine Af ?_
  refine Ab f Z λa f=>Ac f Z λa f=>Aa ?_
  refine Ao ?_
  obtain rfl:=sj hd
  exact⟨[(iv ac)],f.g Z,f.d,_,[],aw,m,Z,Z⟩
theorem Wk.D0 {aa:Value}{ab:LL}(m:Mem W G w (H))(ac:R2 G aa ab){y:(LI)}(hd:D.D0 ab=some y):
  Calls prog 65 #[(.agg #[aa])] w (Res W G H (λG' Ho v=>∃r0:Value,∃i0:Itm,Ho=[i0]∧r0=v∧Ow R0 2 G' i0 r0 y)):=by
 refine Ax (args:=[(.agg #[aa])]) (N:=42) [.tmp 2] func65 Z Z (lb Z) Z λa f=> ?_
 unfold D.D0 at hd
 refine Af ?_
 refine A4 (cs:=[aa]) m f Z Z Z λad w a m f=>Ac f Z λa f=>AD ?_
 refine AI (R:=R0) (xs:=([]:LI)) (RI.one _) m T30 f Z Z Z (by decide) (All2.nil _) λae af w a m ag f=>Ac f Z λa f=>Aa (Ak (Af ?_))
 refine Ac f Z λa f=>Aa ?_
 have⟨ah,ai,hd⟩:=bind_some hd
 refine AT (λa w=>∃aj:LI,aj=ah∧∃(ak:GH) (al:Value) (am:Itm),GLe G ak∧Fr a 42 [(3,al)]∧Mem W ak w (am::H)∧Ow R0 2 ak am al aj) ?_ ?_
 ·refine As ?_
  have m:=m.fr 1
  refine A1 (λan a w=>∃ao:LI,∃ap:Int,(ao,ap)=an∧∃(aq:GH) (ar:Value) (au:Itm),GLe G aq∧Fr a 42 [(1,(pb ad)),(3,ar),(4,(iv ap))]∧Mem W aq w (ib ad 26 [aa]::au::H)∧Ow R0 2 aq au ar ao) ai ⟨_,_,Z,_,af,ae,gr,f.k Z,m,ag⟩ ?_
  clear ai f m
  rintro an av aw ax a w ⟨ao,ap,rfl,aq,ar,au,ay,f,m,az⟩
  have ac:=rd2 ay ac
  refine Ak (Af ?_)
  refine Ab f Z λa f=>Az underlying26 Z sizeOf24 f Z λa f=>An 0 0 m Bx f Z Z Z Z λa f=>Bc underlying24 f Z Z ac λa f=>Aj f Z Z A3 λa f=>Aa ?_
  rcases Ae aw with⟨aA,aw⟩|⟨aA,aw⟩
  ·refine Al f Z aA ?_
   refine Aq ?_
   refine Ak (As (Af ?_))
   refine Ac f Z λa f=>Aa (Ak (Af ?_))
   refine Ac f Z λa f=>Aa ?_
   have⟨aB,aC,aw⟩:=bind_some aw
   refine AT (λa w=>∃aD:Int,aD=aB∧∃(aE:GH),GLe aq aE∧Fr a 42 [(1,(pb ad)),(3,ar),(4,(iv ap)),(5,(iv aD))]∧Mem W aE w (ib ad 26 [aa]::au::H)) ?_ ?_
   ·refine As ?_
    refine A1 (λaF a w=>∃aG:Int,∃aH:Int,(aG,aH)=aF∧∃(aI:GH),GLe aq aI∧Fr a 42 [(1,(pb ad)),(3,ar),(4,(iv ap)),(5,(iv aG)),(6,(iv aH))]∧Mem W aI w (ib ad 26 [aa]::au::H)) aC ⟨_,_,Z,_,gr,f.k Z,m⟩ ?_
    clear aC f m
    rintro aF aJ aK aL a w ⟨aG,aH,rfl,aI,aM,f,m⟩
    have ac:=rd2 aM ac
    refine Ak (Af ?_)
    refine Ab f Z λa f=>Az underlying26 Z sizeOf24 f Z λa f=>An 0 0 m Bx f Z Z Z Z λa f=>Ab f Z λa f=> ?_
    have⟨aN,aO,aK⟩:=bind_some aK
    refine BT T24 f Z Z Z ac aO λaP aQ a aR aS f=>Bh m BO f Z Z aR λa f=>Bc underlying30 f Z Z aS λa f=>Aj f Z Z A3 λa f=>Aa ?_
    rcases Ae aK with⟨aT,aK⟩|⟨aT,aK⟩
    ·refine Al f Z aT ?_
     refine Aq ?_
     refine Ak (As (Ai ?_))
     refine Ab f Z λa f=>Az underlying26 Z sizeOf24 f Z λa f=>An 0 0 m Bx f Z Z Z Z λa f=>Ab f Z λa f=> ?_
     have⟨aU,aV,aK⟩:=bind_some aK
     refine BT T24 f Z Z Z ac aV λaW aX a aY aZ f=>Bh m BO f Z Z aY λa f=>Ab f Z λa f=> ?_
     have⟨a0,a1,aK⟩:=bind_some aK
     refine BT T30 f Z Z Z aZ a1 λa2 a3 a a4 a5 f=> ?_
     subst a5
     refine Bh m Pl2 f Z Z a4 λa f=>l_o f (BI (f.e Z) ⟨_,underlying2⟩ underlying100) λa f=> ?_
     obtain⟨a6,aK⟩:=Bs aK
     refine l_o f (CU (f.e Z) (f.e Z) a6) λa f=>Aj f Z Z b_or λa f=>Ac f Z λa f=>Aa (Ai ?_)
     refine Ab f Z λa f=>Aj f Z Z AA λa f=>Ac f Z λa f=>Aa ?_
     obtain rfl:=sj aK
     exact⟨_,Z,_,_,Z,_,aM,f.k Z,m⟩
    ·refine Ag f Z aT ?_
     refine AZ Z ?_
     obtain rfl:=sj aK
     obtain rfl:=aL _ rfl
     exact⟨_,Z,_,aM,f.k Z,m⟩
   ·rintro a w ⟨aD,rfl,aE,a7,f,m⟩
    have az:=od1 a7 az
    refine Ai ?_
    refine Ab f Z λa f=>Ab f Z λa f=>AI (R:=R0) (xs:=([aD]:LI)) (RI.one _) m T30 f Z Z Z (by decide) (All2.cons Z (All2.nil _)) λa8 a9 w a m ba f=> ?_
    have⟨bb,bc,aw⟩:=bind_some aw
    refine AP (RI.one _) 2 m az Z T30 Z (by decide) f Z Z Z (Ow.src (j:=0) ba m Z) bc λbd be w a m bf f=>Ac f Z λa f=>Aa (Ai ?_)
    refine Ab f Z λa f=>Aj f Z Z AA λa f=>Ac f Z λa f=>Aa ?_
    have m:=m.fr 2
    have m:=m.fr 2
    have m:=m.eraseAt 2
    obtain rfl:=sj aw
    exact⟨_,Z,_,_,Z,_,be,bd,(gt ay a7),f.k Z,m,bf⟩
  ·refine Ag f Z aA ?_
   refine AZ Z ?_
   have m:=m.fr 1
   have m:=m.eraseAt 1
   obtain rfl:=sj aw
   obtain rfl:=ax _ rfl
   exact⟨_,Z,_,ar,au,ay,f.k Z,m,az⟩
 ·rintro a w ⟨aj,rfl,ak,al,am,bg,f,m,bh⟩
  refine Af ?_
  refine Ab f Z λa f=>Ac f Z λa f=>Aa ?_
  refine Ao ?_
  obtain rfl:=sj hd
  exact⟨[al],f.g Z,f.d,_,[am],bg,m,_,_,Z,Z,bh⟩
end Go.Proofs.YtblebdlmoffmjaaDoor
