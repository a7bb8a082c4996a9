/- Parts. -/
import Derived.Test.YtkoehcencogjpaaGreatDoorM5
import Derived.Test.YtkoehcencogjpaaGreatDoorProg
import Derived.KernelRfl
set_option linter.unusedVariables false
set_option linter.unusedSimpArgs false
set_option linter.unusedSectionVars false
set_option maxRecDepth 100000
namespace Go.Proofs.YtkoehcencogjpaaGreatDoor
open Go Go.Sx
open Go.Proofs.Tryz Go.Proofs.YtkoehcencogjpaaGreatDoor.Tryz IntKind
variable {W w : World} {G : GH} {H : List Itm}
theorem Ag24 :Agg prog 24 1:=⟨isAgg24,sizeOf24⟩
theorem Wk.t0 {aa:Value}{ab:LL}(hW:Cr W)(m:Mem W G w (H))(ac:R2 G aa ab){y:Int×(LI)×(LL)×Int×(LI)×(LL)×Bool}(hd:D.t0 ab=some y):
  Calls prog 7 #[(.agg #[aa])] w (Res W G H (λG' Ho v=>∃r0:Value,∃i0:Itm,∃r2:Value,∃i2:Itm,∃r4:Value,∃i4:Itm,∃r6:Value,∃i6:Itm,Ho=[i0,i2,i4,i6]∧v= .tuple #[(.agg #[(iv y.1),r0,r2]),(.agg #[(iv y.2.2.2.1),r4,r6]),(.bool y.2.2.2.2.2.2)]∧Ow R0 2 G' i0 r0 y.2.1∧Ow2 R0 26 2 G' i2 r2 y.2.2.1∧Ow R0 2 G' i4 r4 y.2.2.2.2.1∧Ow2 R0 26 2 G' i6 r6 y.2.2.2.2.2.1)):=by
 refine Ar (args:=[(.agg #[aa])]) (N:=26) [.cell 2 28,.cell 3 28,.tmp 4] func7 Z Z (lb Z) Z λa f=> ?_
 unfold D.t0 at hd
 refine Ae ?_
 refine Bi (cs:=[aa]) m f Z Z Z λad w a m f=>Bm (cs:=[(iv 0),sn,sn]) zeroValue28 m f Z Z λae w a m f=>Bm (cs:=[(iv 0),sn,sn]) zeroValue28 m f Z Z λaf w a m f=>Ac f Z λa f=>Aa (Ag (Ae ?_))
 refine AB 2 0 (ds:=[aa]) m Bj f Z Z Z Z Z λa f=> ?_
 have⟨ag,ah,hd⟩:=bind_some hd
 refine A6 f Z call19 (Wk.P m ac ah) λai w aj m a f=> ?_
 have ac:=rd2 aj ac
 refine l_o f (Bv (f.e Z)) λa f=>Aa ?_
 rcases Af hd with⟨ak,hd⟩|⟨ak,hd⟩
 ·refine Al f Z ak ?_
  refine Ae ?_
  have al:∀w,(Instr.build 28 #[]).run prog w= .ok (.agg #[(iv 0),sn,sn]) w:=by intro w;simp[Instr.build,Instr.fill,Bz,Bn,Bc,Bk,A7,Bx]
  refine BG f Z Z al λa f=> ?_
  have am:∀w,(Instr.build 28 #[]).run prog w= .ok (.agg #[(iv 0),sn,sn]) w:=by intro w;simp[Instr.build,Instr.fill,Bz,Bn,Bc,Bk,A7,Bx]
  refine BG f Z Z am λa f=>Az 1 0 (ds:=[(iv 0),sn,sn]) m sizeOf28 f Z Z Z (An Z (An Z (An Z AK))) Z (lb Z) Z λw m=>Az 0 0 (ds:=[(iv 0),sn,sn]) m sizeOf28 f Z Z Z (An Z (An Z (An Z AK))) Z (lb Z) Z λw m=>Ac f Z λa f=>Aa ?_
  refine Aq ?_
  obtain⟨an,m,ao⟩:=Ow.nil R0 2 m
  obtain⟨ap,m,aq⟩:=Ow2.nil R0 26 2 m
  obtain⟨ar,m,au⟩:=Ow.nil R0 2 m
  obtain⟨av,m,aw⟩:=Ow2.nil R0 26 2 m
  have ax:=BY (P:=prog) 5 m Cv f (s:=2) rfl rfl rfl
  have ay:=BY (P:=prog) 4 m Cv f (s:=3) rfl rfl rfl
  have m:=m.fr 1
  have m:=m.fr 2
  have m:Mem W ai w (an::ap::ar::av::ib af 28 [(iv 0),sn,sn]::ib ae 28 [(iv 0),sn,sn]::ib ad 31 [aa]::H):=m.fr 3
  have m:=m.eraseAt 6
  have m:=m.eraseAt 5
  have m:=m.eraseAt 4
  obtain rfl:=sj hd
  exact⟨[(.agg #[(iv 0),sn,sn]),(.agg #[(iv 0),sn,sn]),(.bool false)],⟨ax,ay,f.get _ _ Z,trivial⟩,f.d,_,[an,ap,ar,av],aj,m,_,_,_,_,_,_,_,_,Z,Z,ao,aq,au,aw⟩
 ·refine Ah f Z ak ?_
  refine Am ?_
  refine Ae ?_
  refine AB 2 0 (ds:=[aa]) m Bj f Z Z Z Z Z λa f=> ?_
  have⟨az,aA,hd⟩:=bind_some hd
  refine AL f Z call20 (Wk.x0 hW m ac aA) λaB aC aD w aE m aF a f=> ?_
  obtain⟨aG,aH,aI,aJ,rfl,rfl,aK,aL⟩:=aF
  have ac:=rd2 aE ac
  refine Ab f Z λa f=>l_o f (A9 (f.e Z) Z) λa f=>l_o f (A9 (f.e Z) Z) λa f=>Bm (cs:=[sn,sn]) zeroValue41 m f Z Z λaM w a m f=>Az 0 0 (ds:=[aG,aI]) m sizeOf41 f Z Z Z (An (Ow2.one1 1 m aK Z) (An (Ow2.one1 2 m aL Z) AK)) Z (lb Z) Z λw m=>Ac f Z λa f=>Aa (Ag ?_)
  have⟨aN,aO,hd⟩:=bind_some hd
  refine AH (λa w=>∃aP:LI,∃aQ:LL,(aP,aQ)=aN∧∃(aR:GH) (aS:Value) (aT:Itm) (aU:Value) (aV:Itm),GLe aC aR∧Fr a 26 [(2,(pb ae)),(3,(pb af)),(4,(.bool true))]∧Mem W aR w (ib ae 28 [(iv 20),aS,aG]::ib af 28 [(iv 21),sn,aU]::aT::aH::aV::H)∧Ow R0 2 aR aT aS aP∧Ow2 R0 26 2 aR aV aU aQ) ?_ ?_
  ·have m:Mem W aC w (ib ae 28 [(iv 0),sn,sn]::ib aM 41 [aG,aI]::aH::aJ::ib af 28 [(iv 0),sn,sn]::ib ad 31 [aa]::H):=m.fr 4
   refine k_drawE [ib ae 28 [(iv 0),sn,sn]] (ib aM 41 [aG,aI]::aH::aJ::ib af 28 [(iv 0),sn,sn]::ib ad 31 [aa]::H) 10 AM (by kernel_rfl) m ?_
   refine BW 0 10 underlying41 Z sizeOf22 Z f Z λa f=>BK 1 10 0 Bb Z Z Z f Z λa f=>BW 3 10 underlying41 Z sizeOf22 Z f Z λa f=>BK 4 10 0 Bb Z Z Z f Z λa f=>BM (i:=6) (ds:=[aa]) 10 4 Bj Z Z Z Z (by kernel_rfl) Z f Z Z Z λa f=>Bp 2 Z λaW w aX m aY aY=> ?_
   have ac:=rd2 aX ac
   have aK:=od2 aX aK
   have aL:=od2 aX aL
   have⟨aZ,a2,aO⟩:=bind_some aO
   refine AL f Z call21 (Ow2.lendCall (RI.mono _) 3 aL m Z (λa3 a4 m a5=>Wk.C1 m a5 a2) (λ_ G' _ _ ⟨a0,a1,e1,e2,o0⟩=>⟨a0,a1,e1,e2,Ow.free (RI.free _) G' o0⟩)) λa6 a7 a8 w a9 m ba a f=> ?_
   obtain⟨bb,bc,rfl,rfl,bd⟩:=ba
   have ac:=rd2 a9 ac
   have aK:=od2 a9 aK
   refine Aa ?_
   refine aY a7 [bc,ib ae 28 [(iv 0),sn,sn]] _ _ a9 m ?_
   refine CY (i:=5) (j:=7) (l1:= #[true,true,true,true,true,true,true,false,false,false,false,false]) (l2:= #[true,true,true,true,true,false,true,true,false,false,false,false]) Z Z (by kernel_rfl) Z Z ?_ ?_
   ·intro be w bf m bg bg
    have ac:=rd2 bf ac
    have bd:=od1 bf bd
    have aK:=od2 bf aK
    have bh:∀w,(Instr.build 28 #[(0,(iv 20)),(1,bb),(2,aG)]).run prog w= .ok (.agg #[(iv 20),bb,aG]) w:=by intro w;simp[Instr.build,Instr.fill,(Ow.cells 0 m bd rfl),(Ow2.cells 3 m aK rfl),Bz,Bn,Bc,Bk,A7,Bx]
    refine BG f Z Z bh λa f=>Aa ?_
    refine bg be [bc,ib ae 28 [(iv 0),sn,sn]] _ _ gr m ?_
    refine Bp 7 Z λbi w bj m bk bk=> ?_
    have ac:=rd2 bj ac
    have bd:=od1 bj bd
    have aK:=od2 bj aK
    have⟨bl,bm,aO⟩:=bind_some aO
    refine AL f Z call22 (Wk.x2 hW m ac bm) λbn bo bp w bq m br a f=> ?_
    obtain⟨bs,bt,rfl,rfl,bu⟩:=br
    have bd:=od1 bq bd
    have aK:=od2 bq aK
    refine Aa ?_
    refine bk bo [bt,bc,ib ae 28 [(iv 0),sn,sn]] _ _ bq m ?_
    refine CY (i:=8) (j:=9) (l1:= #[true,true,true,true,true,true,true,true,true,false,false,false]) (l2:= #[true,true,true,true,true,true,true,true,false,true,false,false]) Z Z (by kernel_rfl) Z Z ?_ ?_
    ·intro bv w bw m bx bx
     have bu:=od2 bw bu
     have bd:=od1 bw bd
     have aK:=od2 bw aK
     have bz:∀w,(Instr.build 28 #[(0,(iv 21)),(2,bs)]).run prog w= .ok (.agg #[(iv 21),sn,bs]) w:=by intro w;simp[Instr.build,Instr.fill,(Ow2.cells 0 m bu rfl),Bz,Bn,Bc,Bk,A7,Bx]
     refine BG f Z Z bz λa f=>Aa ?_
     refine bx bv [bt,bc,ib ae 28 [(iv 0),sn,sn]] _ _ gr m ?_
     refine Bp 9 Z λbA w bB m bC bC=> ?_
     have bu:=od2 bB bu
     have bd:=od1 bB bd
     have aK:=od2 bB aK
     refine Az 2 0 (ds:=[(iv 20),bb,aG]) m sizeOf28 f Z Z Z (An Z (An (Ow.one1 1 m bd Z) (An (Ow2.one1 4 m aK Z) AK))) Z (lb Z) Z λw m=>Aa ?_
     refine bC bA [bt,bc,ib ae 28 [(iv 20),bb,aG]] _ _ gr m ?_
     refine AU λbD w bE m=> ?_
     have bu:=od2 bE bu
     have bd:=od1 bE bd
     refine Az 6 0 (ds:=[(iv 21),sn,bs]) m sizeOf28 f Z Z Z (An Z (An Z (An (Ow2.one1 0 m bu Z) AK))) Z (lb Z) Z λw m=>Ac f Z λa f=>Aa ?_
     have m:=m.fr 4
     have m:=m.fr 2
     have m:Mem W bD w (ib af 28 [(iv 21),sn,bs]::bc::aH::bt::ib ae 28 [(iv 20),bb,aG]::ib aM 41 [aG,aI]::aJ::ib ad 31 [aa]::H):=m.fr 6
     have m:=m.fr 4
     have m:=m.fr 6
     have m:Mem W bD w (bt::aJ::ib ae 28 [(iv 20),bb,aG]::ib af 28 [(iv 21),sn,bs]::bc::aH::ib aM 41 [aG,aI]::ib ad 31 [aa]::H):=m.fr 5
     have m:=m.fr 5
     have m:=m.fr 5
     have m:Mem W bD w (ib af 28 [(iv 21),sn,bs]::bc::aH::bt::aJ::ib ae 28 [(iv 20),bb,aG]::ib aM 41 [aG,aI]::ib ad 31 [aa]::H):=m.fr 5
     have m:=m.fr 5
     have m:=m.eraseAt 7
     have m:Mem W bD w (ib ae 28 [(iv 20),bb,aG]::ib af 28 [(iv 21),sn,bs]::bc::aH::bt::aJ::H):=m.eraseAt 6
     have m:Mem W bD w (ib ae 28 [(iv 20),bb,aG]::ib af 28 [(iv 21),sn,bs]::bc::aH::bt::H):=m.eraseAt 5
     obtain rfl:=sj aO
     exact⟨_,_,Z,_,bb,bc,bs,bt,(gt aX (gt a9 (gt bf (gt bj (gt bq (gt bw (gt bB bE))))))),f.k Z,m,bd,bu⟩
    ·intro bA w bB m bC bC
     have bu:=od2 bB bu
     have bd:=od1 bB bd
     have aK:=od2 bB aK
     refine Az 2 0 (ds:=[(iv 20),bb,aG]) m sizeOf28 f Z Z Z (An Z (An (Ow.one1 1 m bd Z) (An (Ow2.one1 4 m aK Z) AK))) Z (lb Z) Z λw m=>Aa ?_
     refine bC bA [bt,bc,ib ae 28 [(iv 20),bb,aG]] _ _ gr m ?_
     refine Bp 8 Z λbv w bw m bx bx=> ?_
     have bu:=od2 bw bu
     have bd:=od1 bw bd
     have bz:∀w,(Instr.build 28 #[(0,(iv 21)),(2,bs)]).run prog w= .ok (.agg #[(iv 21),sn,bs]) w:=by intro w;simp[Instr.build,Instr.fill,(Ow2.cells 0 m bu rfl),Bz,Bn,Bc,Bk,A7,Bx]
     refine BG f Z Z bz λa f=>Aa ?_
     refine bx bv [bt,bc,ib ae 28 [(iv 20),bb,aG]] _ _ gr m ?_
     refine AU λbD w bE m=> ?_
     have bu:=od2 bE bu
     have bd:=od1 bE bd
     refine Az 6 0 (ds:=[(iv 21),sn,bs]) m sizeOf28 f Z Z Z (An Z (An Z (An (Ow2.one1 0 m bu Z) AK))) Z (lb Z) Z λw m=>Ac f Z λa f=>Aa ?_
     have m:=m.fr 4
     have m:=m.fr 2
     have m:Mem W bD w (ib af 28 [(iv 21),sn,bs]::bc::aH::bt::ib ae 28 [(iv 20),bb,aG]::ib aM 41 [aG,aI]::aJ::ib ad 31 [aa]::H):=m.fr 6
     have m:=m.fr 4
     have m:=m.fr 6
     have m:Mem W bD w (bt::aJ::ib ae 28 [(iv 20),bb,aG]::ib af 28 [(iv 21),sn,bs]::bc::aH::ib aM 41 [aG,aI]::ib ad 31 [aa]::H):=m.fr 5
     have m:=m.fr 5
     have m:=m.fr 5
     have m:Mem W bD w (ib af 28 [(iv 21),sn,bs]::bc::aH::bt::aJ::ib ae 28 [(iv 20),bb,aG]::ib aM 41 [aG,aI]::ib ad 31 [aa]::H):=m.fr 5
     have m:=m.fr 5
     have m:=m.eraseAt 7
     have m:Mem W bD w (ib ae 28 [(iv 20),bb,aG]::ib af 28 [(iv 21),sn,bs]::bc::aH::bt::aJ::H):=m.eraseAt 6
     have m:Mem W bD w (ib ae 28 [(iv 20),bb,aG]::ib af 28 [(iv 21),sn,bs]::bc::aH::bt::H):=m.eraseAt 5
     obtain rfl:=sj aO
     exact⟨_,_,Z,_,bb,bc,bs,bt,(gt aX (gt a9 (gt bf (gt bj (gt bq (gt bB (gt bw bE))))))),f.k Z,m,bd,bu⟩
   ·intro bi w bj m bk bk
    have⟨bl,bm,aO⟩:=bind_some aO
    have ac:=rd2 bj ac
    have bd:=od1 bj bd
    have aK:=od2 bj aK
    refine AL f Z call22 (Wk.x2 hW m ac bm) λbn bo bp w bq m br a f=> ?_
    obtain⟨bs,bt,rfl,rfl,bu⟩:=br
    have bd:=od1 bq bd
    have aK:=od2 bq aK
    refine Aa ?_
    refine bk bo [bt,bc,ib ae 28 [(iv 0),sn,sn]] _ _ bq m ?_
    refine CY (i:=5) (j:=8) (l1:= #[true,true,true,true,true,true,true,true,false,false,false,false]) (l2:= #[true,true,true,true,true,false,true,true,true,false,false,false]) Z Z (by kernel_rfl) Z Z ?_ ?_
    ·intro be w bf m bg bg
     have bu:=od2 bf bu
     have bd:=od1 bf bd
     have aK:=od2 bf aK
     have bh:∀w,(Instr.build 28 #[(0,(iv 20)),(1,bb),(2,aG)]).run prog w= .ok (.agg #[(iv 20),bb,aG]) w:=by intro w;simp[Instr.build,Instr.fill,(Ow.cells 1 m bd rfl),(Ow2.cells 4 m aK rfl),Bz,Bn,Bc,Bk,A7,Bx]
     refine BG f Z Z bh λa f=>Aa ?_
     refine bg be [bt,bc,ib ae 28 [(iv 0),sn,sn]] _ _ gr m ?_
     refine CY (i:=8) (j:=9) (l1:= #[true,true,true,true,true,true,true,true,true,false,false,false]) (l2:= #[true,true,true,true,true,true,true,true,false,true,false,false]) Z Z (by kernel_rfl) Z Z ?_ ?_
     ·intro bv w bw m bx bx
      have bu:=od2 bw bu
      have bd:=od1 bw bd
      have aK:=od2 bw aK
      have bz:∀w,(Instr.build 28 #[(0,(iv 21)),(2,bs)]).run prog w= .ok (.agg #[(iv 21),sn,bs]) w:=by intro w;simp[Instr.build,Instr.fill,(Ow2.cells 0 m bu rfl),Bz,Bn,Bc,Bk,A7,Bx]
      refine BG f Z Z bz λa f=>Aa ?_
      refine bx bv [bt,bc,ib ae 28 [(iv 0),sn,sn]] _ _ gr m ?_
      refine Bp 9 Z λbA w bB m bC bC=> ?_
      have bu:=od2 bB bu
      have bd:=od1 bB bd
      have aK:=od2 bB aK
      refine Az 2 0 (ds:=[(iv 20),bb,aG]) m sizeOf28 f Z Z Z (An Z (An (Ow.one1 1 m bd Z) (An (Ow2.one1 4 m aK Z) AK))) Z (lb Z) Z λw m=>Aa ?_
      refine bC bA [bt,bc,ib ae 28 [(iv 20),bb,aG]] _ _ gr m ?_
      refine AU λbD w bE m=> ?_
      have bu:=od2 bE bu
      have bd:=od1 bE bd
      refine Az 6 0 (ds:=[(iv 21),sn,bs]) m sizeOf28 f Z Z Z (An Z (An Z (An (Ow2.one1 0 m bu Z) AK))) Z (lb Z) Z λw m=>Ac f Z λa f=>Aa ?_
      have m:=m.fr 4
      have m:=m.fr 2
      have m:Mem W bD w (ib af 28 [(iv 21),sn,bs]::bc::aH::bt::ib ae 28 [(iv 20),bb,aG]::ib aM 41 [aG,aI]::aJ::ib ad 31 [aa]::H):=m.fr 6
      have m:=m.fr 4
      have m:=m.fr 6
      have m:Mem W bD w (bt::aJ::ib ae 28 [(iv 20),bb,aG]::ib af 28 [(iv 21),sn,bs]::bc::aH::ib aM 41 [aG,aI]::ib ad 31 [aa]::H):=m.fr 5
      have m:=m.fr 5
      have m:=m.fr 5
      have m:Mem W bD w (ib af 28 [(iv 21),sn,bs]::bc::aH::bt::aJ::ib ae 28 [(iv 20),bb,aG]::ib aM 41 [aG,aI]::ib ad 31 [aa]::H):=m.fr 5
      have m:=m.fr 5
      have m:=m.eraseAt 7
      have m:Mem W bD w (ib ae 28 [(iv 20),bb,aG]::ib af 28 [(iv 21),sn,bs]::bc::aH::bt::aJ::H):=m.eraseAt 6
      have m:Mem W bD w (ib ae 28 [(iv 20),bb,aG]::ib af 28 [(iv 21),sn,bs]::bc::aH::bt::H):=m.eraseAt 5
      obtain rfl:=sj aO
      exact⟨_,_,Z,_,bb,bc,bs,bt,(gt aX (gt a9 (gt bj (gt bq (gt bf (gt bw (gt bB bE))))))),f.k Z,m,bd,bu⟩
     ·intro bA w bB m bC bC
      have bu:=od2 bB bu
      have bd:=od1 bB bd
      have aK:=od2 bB aK
      refine Az 2 0 (ds:=[(iv 20),bb,aG]) m sizeOf28 f Z Z Z (An Z (An (Ow.one1 1 m bd Z) (An (Ow2.one1 4 m aK Z) AK))) Z (lb Z) Z λw m=>Aa ?_
      refine bC bA [bt,bc,ib ae 28 [(iv 20),bb,aG]] _ _ gr m ?_
      refine Bp 8 Z λbv w bw m bx bx=> ?_
      have bu:=od2 bw bu
      have bd:=od1 bw bd
      have bz:∀w,(Instr.build 28 #[(0,(iv 21)),(2,bs)]).run prog w= .ok (.agg #[(iv 21),sn,bs]) w:=by intro w;simp[Instr.build,Instr.fill,(Ow2.cells 0 m bu rfl),Bz,Bn,Bc,Bk,A7,Bx]
      refine BG f Z Z bz λa f=>Aa ?_
      refine bx bv [bt,bc,ib ae 28 [(iv 20),bb,aG]] _ _ gr m ?_
      refine AU λbD w bE m=> ?_
      have bu:=od2 bE bu
      have bd:=od1 bE bd
      refine Az 6 0 (ds:=[(iv 21),sn,bs]) m sizeOf28 f Z Z Z (An Z (An Z (An (Ow2.one1 0 m bu Z) AK))) Z (lb Z) Z λw m=>Ac f Z λa f=>Aa ?_
      have m:=m.fr 4
      have m:=m.fr 2
      have m:Mem W bD w (ib af 28 [(iv 21),sn,bs]::bc::aH::bt::ib ae 28 [(iv 20),bb,aG]::ib aM 41 [aG,aI]::aJ::ib ad 31 [aa]::H):=m.fr 6
      have m:=m.fr 4
      have m:=m.fr 6
      have m:Mem W bD w (bt::aJ::ib ae 28 [(iv 20),bb,aG]::ib af 28 [(iv 21),sn,bs]::bc::aH::ib aM 41 [aG,aI]::ib ad 31 [aa]::H):=m.fr 5
      have m:=m.fr 5
      have m:=m.fr 5
      have m:Mem W bD w (ib af 28 [(iv 21),sn,bs]::bc::aH::bt::aJ::ib ae 28 [(iv 20),bb,aG]::ib aM 41 [aG,aI]::ib ad 31 [aa]::H):=m.fr 5
      have m:=m.fr 5
      have m:=m.eraseAt 7
      have m:Mem W bD w (ib ae 28 [(iv 20),bb,aG]::ib af 28 [(iv 21),sn,bs]::bc::aH::bt::aJ::H):=m.eraseAt 6
      have m:Mem W bD w (ib ae 28 [(iv 20),bb,aG]::ib af 28 [(iv 21),sn,bs]::bc::aH::bt::H):=m.eraseAt 5
      obtain rfl:=sj aO
      exact⟨_,_,Z,_,bb,bc,bs,bt,(gt aX (gt a9 (gt bj (gt bq (gt bf (gt bB (gt bw bE))))))),f.k Z,m,bd,bu⟩
    ·intro bv w bw m bx bx
     have bu:=od2 bw bu
     have bd:=od1 bw bd
     have aK:=od2 bw aK
     have bz:∀w,(Instr.build 28 #[(0,(iv 21)),(2,bs)]).run prog w= .ok (.agg #[(iv 21),sn,bs]) w:=by intro w;simp[Instr.build,Instr.fill,(Ow2.cells 0 m bu rfl),Bz,Bn,Bc,Bk,A7,Bx]
     refine BG f Z Z bz λa f=>Aa ?_
     refine bx bv [bt,bc,ib ae 28 [(iv 0),sn,sn]] _ _ gr m ?_
     refine Bp 5 Z λbe w bf m bg bg=> ?_
     have bu:=od2 bf bu
     have bd:=od1 bf bd
     have aK:=od2 bf aK
     have bh:∀w,(Instr.build 28 #[(0,(iv 20)),(1,bb),(2,aG)]).run prog w= .ok (.agg #[(iv 20),bb,aG]) w:=by intro w;simp[Instr.build,Instr.fill,(Ow.cells 1 m bd rfl),(Ow2.cells 4 m aK rfl),Bz,Bn,Bc,Bk,A7,Bx]
     refine BG f Z Z bh λa f=>Aa ?_
     refine bg be [bt,bc,ib ae 28 [(iv 0),sn,sn]] _ _ gr m ?_
     refine Bp 9 Z λbA w bB m bC bC=> ?_
     have bu:=od2 bB bu
     have bd:=od1 bB bd
     have aK:=od2 bB aK
     refine Az 2 0 (ds:=[(iv 20),bb,aG]) m sizeOf28 f Z Z Z (An Z (An (Ow.one1 1 m bd Z) (An (Ow2.one1 4 m aK Z) AK))) Z (lb Z) Z λw m=>Aa ?_
     refine bC bA [bt,bc,ib ae 28 [(iv 20),bb,aG]] _ _ gr m ?_
     refine AU λbD w bE m=> ?_
     have bu:=od2 bE bu
     have bd:=od1 bE bd
     refine Az 6 0 (ds:=[(iv 21),sn,bs]) m sizeOf28 f Z Z Z (An Z (An Z (An (Ow2.one1 0 m bu Z) AK))) Z (lb Z) Z λw m=>Ac f Z λa f=>Aa ?_
     have m:=m.fr 4
     have m:=m.fr 2
     have m:Mem W bD w (ib af 28 [(iv 21),sn,bs]::bc::aH::bt::ib ae 28 [(iv 20),bb,aG]::ib aM 41 [aG,aI]::aJ::ib ad 31 [aa]::H):=m.fr 6
     have m:=m.fr 4
     have m:=m.fr 6
     have m:Mem W bD w (bt::aJ::ib ae 28 [(iv 20),bb,aG]::ib af 28 [(iv 21),sn,bs]::bc::aH::ib aM 41 [aG,aI]::ib ad 31 [aa]::H):=m.fr 5
     have m:=m.fr 5
     have m:=m.fr 5
     have m:Mem W bD w (ib af 28 [(iv 21),sn,bs]::bc::aH::bt::aJ::ib ae 28 [(iv 20),bb,aG]::ib aM 41 [aG,aI]::ib ad 31 [aa]::H):=m.fr 5
     have m:=m.fr 5
     have m:=m.eraseAt 7
     have m:Mem W bD w (ib ae 28 [(iv 20),bb,aG]::ib af 28 [(iv 21),sn,bs]::bc::aH::bt::aJ::H):=m.eraseAt 6
     have m:Mem W bD w (ib ae 28 [(iv 20),bb,aG]::ib af 28 [(iv 21),sn,bs]::bc::aH::bt::H):=m.eraseAt 5
     obtain rfl:=sj aO
     exact⟨_,_,Z,_,bb,bc,bs,bt,(gt aX (gt a9 (gt bj (gt bq (gt bw (gt bf (gt bB bE))))))),f.k Z,m,bd,bu⟩
  ·rintro a w ⟨aP,aQ,rfl,aR,aS,aT,aU,aV,bF,f,m,bG,bH⟩
   have aK:=od2 bF aK
   refine Aq ?_
   obtain⟨bI,m,bJ⟩:=Ow.nil R0 2 m
   have bK:=BY (P:=prog) 1 m Cv f (s:=2) rfl rfl rfl
   have bL:=BY (P:=prog) 2 m Cv f (s:=3) rfl rfl rfl
   have m:=m.fr 5
   have m:=m.fr 1
   have m:Mem W aR w (aH::bI::aV::ib ae 28 [(iv 20),aS,aG]::ib af 28 [(iv 21),sn,aU]::aT::H):=m.fr 5
   have m:=m.fr 5
   have m:=m.eraseAt 5
   have m:=m.eraseAt 4
   obtain rfl:=sj hd
   exact⟨[(.agg #[(iv 20),aS,aG]),(.agg #[(iv 21),sn,aU]),(.bool true)],⟨bK,bL,f.get _ _ Z,trivial⟩,f.d,_,[aT,aH,bI,aV],(gt aj (gt aE bF)),m,_,_,_,_,_,_,_,_,Z,Z,bG,aK,bJ,bH⟩
theorem Wk.p {v0 v1:Value}{x0 x1:LI}(m:Mem W G w (H))(h0:R1 G v0 x0)(h1:R1 G v1 x1){y:Bool}(hd:D.p x0 x1=some y):
  Calls prog 23 #[v0,v1] w (Res W G H (λ_ Ho v=>Ho=[]∧v=(.bool y))):=by
 refine Ar (args:=[v0,v1]) (N:=26) [.tmp 4] func23 Z Z (lb Z) Z λa f=> ?_
 unfold D.p at hd
 refine Ae ?_
 refine Ac f Z λa f=>Aa (Ag (Ae ?_))
 refine Ab f Z λa f=>AO underlying26 f Z Z h0 λa f=>Ab f Z λa f=>AO underlying26 f Z Z h1 λa f=>Ai f Z Z B8 λa f=>Aa ?_
 rcases Af hd with⟨aa,hd⟩|⟨aa,hd⟩
 ·refine Al f Z aa ?_
  refine Ae ?_
  refine Ac f Z λa f=>Aa ?_
  refine Aq ?_
  obtain rfl:=sj hd
  exact⟨[(.bool false)],f.g Z,f.d,_,[],gr,m,Z,Z⟩
 ·refine Ah f Z aa ?_
  refine Am ?_
  refine Ag (Ae ?_)
  refine Ac f Z λa f=>Aa ?_
  have⟨ab,ac,hd⟩:=bind_some hd
  refine AH (λa w=>∃q_36':Unit,ab= .inl q_36'∧∃(ad:GH),GLe G ad∧Fr a 26 []∧Mem W ad w (H)) ?_ ?_
  ·refine Ak ?_
   refine AC (λae a w=>∃af:Int,af=ae∧∃(ag:GH),GLe G ag∧Fr a 26 [(0,v0),(1,v1),(5,(iv af))]∧Mem W ag w (H)) ac ⟨_,Z,_,gr,f.k Z,m⟩ ?_
   clear ac f m
   rintro ae ah ai aj a w ⟨af,rfl,ag,ak,f,m⟩
   have h0:=rd1 ak h0
   have h1:=rd1 ak h1
   refine Ag (Ae ?_)
   refine Ab f Z λa f=>Ab f Z λa f=>AO underlying26 f Z Z h0 λa f=>Ai f Z Z AE λa f=>Aa ?_
   rcases Af ai with⟨al,ai⟩|⟨al,ai⟩
   ·refine Al f Z al ?_
    refine Am ?_
    refine Ag (Ak (Ag ?_))
    refine A3 9 AM (by kernel_rfl) m ?_
    refine Ao 0 9 Z f Z λa f=>Ao 1 9 Z f Z λa f=> ?_
    have⟨am,an,ai⟩:=bind_some ai
    refine BJ 2 9 T26 h0 an Z f Z Z λao ap a aq ar f=> ?_
    subst ar
    refine BI 3 9 Pl2 aq Z f Z λa f=>Ao 4 9 Z f Z λa f=>Ao 5 9 Z f Z λa f=> ?_
    have⟨au,av,ai⟩:=bind_some ai
    refine BJ 6 9 T26 h1 av Z f Z Z λaw ax a ay az f=> ?_
    subst az
    refine BI 7 9 Pl2 ay Z f Z λa f=>q_p 8 9 Z f (λ_=>AV (f.e Z) (f.e Z) B8) λa f=>AU λaA w aB m=>Aa ?_
    rcases Af ai with⟨aC,ai⟩|⟨aC,ai⟩
    ·refine Al f Z aC ?_
     refine Ae ?_
     refine Ac f Z λa f=>Aa ?_
     refine Aq ?_
     obtain rfl:=sj ai
     obtain rfl:=aj _ rfl
     obtain rfl:=sj hd
     exact⟨[(.bool false)],f.g Z,f.d,_,[],(gt ak aB),m,Z,Z⟩
    ·refine Ah f Z aC ?_
     refine Am ?_
     refine Aj ?_
     refine Ab f Z λa f=>Ai f Z Z Aw λa f=>Ac f Z λa f=>Aa ?_
     obtain rfl:=sj ai
     exact⟨_,Z,_,Z,_,(gt ak aB),f.k Z,m⟩
   ·refine Ah f Z al ?_
    refine AA Z ?_
    obtain rfl:=sj ai
    obtain rfl:=aj _ rfl
    exact⟨_,Z,_,ak,f.weak trivial,m⟩
  ·rintro a w ⟨_,rfl,ad,aD,f,m⟩
   refine Ae ?_
   refine Ac f Z λa f=>Aa ?_
   refine Aq ?_
   obtain rfl:=sj hd
   exact⟨[(.bool true)],f.g Z,f.d,_,[],aD,m,Z,Z⟩
theorem Wk.w0 {v0 v1:Value}{x0 x1:LL}(m:Mem W G w (H))(h0:R2 G v0 x0)(h1:R2 G v1 x1){y:Bool}(hd:D.w0 x0 x1=some y):
  Calls prog 24 #[v0,v1] w (Res W G H (λ_ Ho v=>Ho=[]∧v=(.bool y))):=by
 refine Ar (args:=[v0,v1]) (N:=27) [.tmp 4] func24 Z Z (lb Z) Z λa f=> ?_
 unfold D.w0 at hd
 refine Ae ?_
 refine Ac f Z λa f=>Aa (Ag (Ae ?_))
 refine Ab f Z λa f=>AO underlying22 f Z Z h0 λa f=>Ab f Z λa f=>AO underlying22 f Z Z h1 λa f=>Ai f Z Z B8 λa f=>Aa ?_
 rcases Af hd with⟨aa,hd⟩|⟨aa,hd⟩
 ·refine Al f Z aa ?_
  refine Ae ?_
  refine Ac f Z λa f=>Aa ?_
  refine Aq ?_
  obtain rfl:=sj hd
  exact⟨[(.bool false)],f.g Z,f.d,_,[],gr,m,Z,Z⟩
 ·refine Ah f Z aa ?_
  refine Am ?_
  refine Ag (Ae ?_)
  refine Ac f Z λa f=>Aa ?_
  have⟨ab,ac,hd⟩:=bind_some hd
  refine AH (λa w=>∃q_42':Unit,ab= .inl q_42'∧∃(ad:GH),GLe G ad∧Fr a 27 []∧Mem W ad w (H)) ?_ ?_
  ·refine Ak ?_
   refine AC (λae a w=>∃af:Int,af=ae∧∃(ag:GH),GLe G ag∧Fr a 27 [(0,v0),(1,v1),(5,(iv af))]∧Mem W ag w (H)) ac ⟨_,Z,_,gr,f.k Z,m⟩ ?_
   clear ac f m
   rintro ae ah ai aj a w ⟨af,rfl,ag,ak,f,m⟩
   have h0:=rd2 ak h0
   have h1:=rd2 ak h1
   refine Ag (Ae ?_)
   refine Ab f Z λa f=>Ab f Z λa f=>AO underlying22 f Z Z h0 λa f=>Ai f Z Z AE λa f=>Aa ?_
   rcases Af ai with⟨al,ai⟩|⟨al,ai⟩
   ·refine Al f Z al ?_
    refine Am ?_
    refine Ag (Ak (Ag ?_))
    refine A3 10 AM (by kernel_rfl) m ?_
    refine Ao 0 10 Z f Z λa f=>Ao 1 10 Z f Z λa f=> ?_
    have⟨am,an,ai⟩:=bind_some ai
    refine BJ 2 10 T22 h0 an Z f Z Z λao ap a aq ar f=>BI 3 10 AT aq Z f Z λa f=>Ao 4 10 Z f Z λa f=>Ao 5 10 Z f Z λa f=> ?_
    have⟨au,av,ai⟩:=bind_some ai
    refine BJ 6 10 T22 h1 av Z f Z Z λaw ax a ay az f=>BI 7 10 AT ay Z f Z λa f=> ?_
    have⟨aA,aB,ai⟩:=bind_some ai
    refine BX (i:=8) 10 Z (by kernel_rfl) Z f Z Z Z call23 (λ_ _ w aC m=>Wk.p m (rd1 aC ar) (rd1 aC az) aB) λa f=>q_p 9 10 Z f (λ_=>Bv (f.e Z)) λa f=>AU λaD w aE m=>Aa ?_
    rcases Af ai with⟨aF,ai⟩|⟨aF,ai⟩
    ·refine Al f Z aF ?_
     refine Ae ?_
     refine Ac f Z λa f=>Aa ?_
     refine Aq ?_
     obtain rfl:=sj ai
     obtain rfl:=aj _ rfl
     obtain rfl:=sj hd
     exact⟨[(.bool false)],f.g Z,f.d,_,[],(gt ak aE),m,Z,Z⟩
    ·refine Ah f Z aF ?_
     refine Am ?_
     refine Aj ?_
     refine Ab f Z λa f=>Ai f Z Z Aw λa f=>Ac f Z λa f=>Aa ?_
     obtain rfl:=sj ai
     exact⟨_,Z,_,Z,_,(gt ak aE),f.k Z,m⟩
   ·refine Ah f Z al ?_
    refine AA Z ?_
    obtain rfl:=sj ai
    obtain rfl:=aj _ rfl
    exact⟨_,Z,_,ak,f.weak trivial,m⟩
  ·rintro a w ⟨_,rfl,ad,aG,f,m⟩
   refine Ae ?_
   refine Ac f Z λa f=>Aa ?_
   refine Aq ?_
   obtain rfl:=sj hd
   exact⟨[(.bool true)],f.g Z,f.d,_,[],aG,m,Z,Z⟩
theorem Wk.v {aa ab ac ad:Value}{ae:Int}{af:LI}{ag:LL}{ah:Int}{ai:LI}{aj:LL}(m:Mem W G w (H))(ak:R1 G aa af)(al:R2 G ab ag)(am:R1 G ac ai)(an:R2 G ad aj){y:Bool}(hd:D.v ae af ag ah ai aj=some y):
  Calls prog 8 #[(.agg #[(iv ae),aa,ab]),(.agg #[(iv ah),ac,ad])] w (Res W G H (λ_ Ho v=>Ho=[]∧v=(.bool y))):=by
 refine Ar (args:=[(.agg #[(iv ae),aa,ab]),(.agg #[(iv ah),ac,ad])]) (N:=22) [.tmp 4] func8 Z Z (lb Z) Z λa f=> ?_
 unfold D.v at hd
 refine Ae ?_
 refine Bi (cs:=[(iv ae),aa,ab]) m f Z Z Z λao w a m f=>Bi (cs:=[(iv ah),ac,ad]) m f Z Z Z λap w a m f=>Ac f Z λa f=>Aa (Ag (Ae ?_))
 refine Bu underlying28 Z sizeOf2 f Z λa f=>AJ 1 0 m Pl2 f Z Z Z Z λa f=>Bu underlying28 Z sizeOf2 f Z λa f=>AJ 0 0 m Pl2 f Z Z Z Z λa f=>Ai f Z Z B8 λa f=>Aa ?_
 rcases Af hd with⟨aq,hd⟩|⟨aq,hd⟩
 ·refine Al f Z aq ?_
  refine Ae ?_
  refine Ac f Z λa f=>Aa ?_
  refine Aq ?_
  have m:Mem W G w H:=Mem.drop (H':=[ib ap 28 [(iv ah),ac,ad],ib ao 28 [(iv ae),aa,ab]]) m
  obtain rfl:=sj hd
  exact⟨[(.bool false)],f.g Z,f.d,_,[],gr,m,Z,Z⟩
 ·refine Ah f Z aq ?_
  refine Am ?_
  refine Ag (Ae ?_)
  refine Bu underlying28 Z sizeOf26 f Z λa f=>AJ 1 1 m AT f Z Z Z Z λa f=>Bu underlying28 Z sizeOf26 f Z λa f=>AJ 0 1 m AT f Z Z Z Z λa f=> ?_
  have⟨ar,au,hd⟩:=bind_some hd
  refine A6 f Z call23 (Wk.p m ak am au) λav w aw m a f=> ?_
  have al:=rd2 aw al
  have an:=rd2 aw an
  refine l_o f (Bv (f.e Z)) λa f=>Aa ?_
  rcases Af hd with⟨ax,hd⟩|⟨ax,hd⟩
  ·refine Al f Z ax ?_
   refine Ae ?_
   refine Ac f Z λa f=>Aa ?_
   refine Aq ?_
   have m:Mem W av w H:=Mem.drop (H':=[ib ap 28 [(iv ah),ac,ad],ib ao 28 [(iv ae),aa,ab]]) m
   obtain rfl:=sj hd
   exact⟨[(.bool false)],f.g Z,f.d,_,[],aw,m,Z,Z⟩
  ·refine Ah f Z ax ?_
   refine Am ?_
   refine Ag (Ae ?_)
   refine Bu underlying28 Z sizeOf22 f Z λa f=>AJ 1 2 m Bb f Z Z Z Z λa f=>Bu underlying28 Z sizeOf22 f Z λa f=>AJ 0 2 m Bb f Z Z Z Z λa f=> ?_
   have⟨ay,az,hd⟩:=bind_some hd
   refine A6 f Z call24 (Wk.w0 m al an az) λaA w aB m a f=>l_o f (Bv (f.e Z)) λa f=>Aa ?_
   rcases Af hd with⟨aC,hd⟩|⟨aC,hd⟩
   ·refine Al f Z aC ?_
    refine Ae ?_
    refine Ac f Z λa f=>Aa ?_
    refine Aq ?_
    have m:Mem W aA w H:=Mem.drop (H':=[ib ap 28 [(iv ah),ac,ad],ib ao 28 [(iv ae),aa,ab]]) m
    obtain rfl:=sj hd
    exact⟨[(.bool false)],f.g Z,f.d,_,[],(gt aw aB),m,Z,Z⟩
   ·refine Ah f Z aC ?_
    refine Am ?_
    refine Ae ?_
    refine Ac f Z λa f=>Aa ?_
    refine Aq ?_
    have m:Mem W aA w H:=Mem.drop (H':=[ib ap 28 [(iv ah),ac,ad],ib ao 28 [(iv ae),aa,ab]]) m
    obtain rfl:=sj hd
    exact⟨[(.bool true)],f.g Z,f.d,_,[],(gt aw aB),m,Z,Z⟩
theorem Wk.p1 {aa ab:Value}{ac ad:LL}(m:Mem W G w (H))(ae:R2 G aa ac)(af:R2 G ab ad){y:Bool}(hd:D.p1 ac ad=some y):
  Calls prog 9 #[(.agg #[aa]),(.agg #[ab])] w (Res W G H (λ_ Ho v=>Ho=[]∧v=(.bool y))):=by
 refine Ar (args:=[(.agg #[aa]),(.agg #[ab])]) (N:=11) [.tmp 4] func9 Z Z (lb Z) Z λa f=> ?_
 unfold D.p1 at hd
 refine Ae ?_
 refine Bi (cs:=[aa]) m f Z Z Z λag w a m f=>Bi (cs:=[ab]) m f Z Z Z λah w a m f=>Ac f Z λa f=>Aa (Ag (Ae ?_))
 refine Bu underlying31 Z sizeOf22 f Z λa f=>AJ 1 0 m Bb f Z Z Z Z λa f=>Bu underlying31 Z sizeOf22 f Z λa f=>AJ 0 0 m Bb f Z Z Z Z λa f=> ?_
 have⟨ai,aj,hd⟩:=bind_some hd
 refine A6 f Z call24 (Wk.w0 m ae af aj) λak w al m a f=>l_o f (Bv (f.e Z)) λa f=>Aa ?_
 rcases Af hd with⟨am,hd⟩|⟨am,hd⟩
 ·refine Al f Z am ?_
  refine Ae ?_
  refine Ac f Z λa f=>Aa ?_
  refine Aq ?_
  have m:Mem W ak w H:=Mem.drop (H':=[ib ah 31 [ab],ib ag 31 [aa]]) m
  obtain rfl:=sj hd
  exact⟨[(.bool false)],f.g Z,f.d,_,[],al,m,Z,Z⟩
 ·refine Ah f Z am ?_
  refine Am ?_
  refine Ae ?_
  refine Ac f Z λa f=>Aa ?_
  refine Aq ?_
  have m:Mem W ak w H:=Mem.drop (H':=[ib ah 31 [ab],ib ag 31 [aa]]) m
  obtain rfl:=sj hd
  exact⟨[(.bool true)],f.g Z,f.d,_,[],al,m,Z,Z⟩
theorem Wk.o {v0:Value}{it0:Itm}{x0:LI}{x1:Int}(m:Mem W G w (it0::H))(o0:Ow R0 2 G it0 v0 x0){y:Int×(LI)}(hd:D.o x0 x1=some y):
  Calls prog 26 #[v0,(iv x1)] w (Res W G H (λG' Ho v=>∃i0:Itm,Ho=[i0]∧v=(iv y.1)∧Ow R0 2 G' i0 v0 y.2)):=by
 refine Ar (args:=[v0,(iv x1)]) (N:=19) [.tmp 4] func26 Z Z (lb Z) Z λa f=> ?_
 unfold D.o at hd
 refine Ae ?_
 refine Ac f Z λa f=>Aa (Ag (Ae ?_))
 refine Ac f Z λa f=>Aa ?_
 have⟨aa,ab,hd⟩:=bind_some hd
 refine AH (λa w=>∃ac:LI,∃ad:Int,(ac,ad)=aa∧∃(ae:GH) (af:Itm),GLe G ae∧Fr a 19 [(1,(iv ad))]∧Mem W ae w (af::H)∧Ow R0 2 ae af v0 ac) ?_ ?_
 ·refine Ak ?_
  refine AC (λag a w=>∃ah:LI,∃ai:Int,∃aj:Int,(ah,ai,aj)=ag∧∃(ak:GH) (al:Itm),GLe G ak∧Fr a 19 [(0,v0),(1,(iv ai)),(5,(iv aj))]∧Mem W ak w (al::H)∧Ow R0 2 ak al v0 ah) ab ⟨_,_,_,Z,_,it0,gr,f.k Z,m,o0⟩ ?_
  clear ab f m
  rintro ag am an ao a w ⟨ah,ai,aj,rfl,ak,al,ap,f,m,aq⟩
  refine Ag (Ae ?_)
  refine Ab f Z λa f=>Ab f Z λa f=>BE 0 m aq Z underlying26 f Z Z λa f=>Ai f Z Z AE λa f=>Aa ?_
  rcases Af an with⟨ar,an⟩|⟨ar,an⟩
  ·refine Al f Z ar ?_
   refine Am ?_
   refine Ag (Ak (Ae ?_))
   refine Ab f Z λa f=>Ab f Z λa f=>Ab f Z λa f=> ?_
   have⟨au,av,an⟩:=bind_some an
   refine AZ 0 m aq Z T26 f Z Z Z av λaw a ax f=>AQ 0 m aq Z sizeOf2 f Z Z ax av Z Z Z λay w m az=>Aa (Aj ?_)
   refine Ab f Z λa f=>Ai f Z Z Aw λa f=>Ac f Z λa f=>Aa (Aj ?_)
   refine Ab f Z λa f=>Ai f Z Z Aw λa f=>Ac f Z λa f=>Aa ?_
   obtain rfl:=sj an
   exact⟨_,Z,_,_,_,Z,_,ay,ap,f.k Z,m,az⟩
  ·refine Ah f Z ar ?_
   refine AA Z ?_
   obtain rfl:=sj an
   obtain rfl:=ao _ rfl
   exact⟨_,_,Z,_,al,ap,f.k Z,m,aq⟩
 ·rintro a w ⟨ac,ad,rfl,ae,af,aA,f,m,aB⟩
  refine Ae ?_
  refine Ab f Z λa f=>Ac f Z λa f=>Aa ?_
  refine Aq ?_
  obtain rfl:=sj hd
  exact⟨[(iv ad)],f.g Z,f.d,_,[af],aA,m,_,Z,Z,aB⟩
theorem Wk.C0 {v0:Value}{it0:Itm}{x0:LL}{x1:Int}(m:Mem W G w (it0::H))(o0:Ow2 R0 26 2 G it0 v0 x0){y:Int×(LL)}(hd:D.C0 x0 x1=some y):
  Calls prog 25 #[v0,(iv x1)] w (Res W G H (λG' Ho v=>∃i0:Itm,Ho=[i0]∧v=(iv y.1)∧Ow2 R0 26 2 G' i0 v0 y.2)):=by
 refine Ar (args:=[v0,(iv x1)]) (N:=19) [.tmp 4] func25 Z Z (lb Z) Z λa f=> ?_
 unfold D.C0 at hd
 refine Ae ?_
 refine Ac f Z λa f=>Aa (Ag (Ae ?_))
 refine Ac f Z λa f=>Aa ?_
 have⟨aa,ab,hd⟩:=bind_some hd
 refine AH (λa w=>∃ac:LL,∃ad:Int,(ac,ad)=aa∧∃(ae:GH) (af:Itm),GLe G ae∧Fr a 19 [(1,(iv ad))]∧Mem W ae w (af::H)∧Ow2 R0 26 2 ae af v0 ac) ?_ ?_
 ·refine Ak ?_
  refine AC (λag a w=>∃ah:LL,∃ai:Int,∃aj:Int,(ah,ai,aj)=ag∧∃(ak:GH) (al:Itm),GLe G ak∧Fr a 19 [(0,v0),(1,(iv ai)),(5,(iv aj))]∧Mem W ak w (al::H)∧Ow2 R0 26 2 ak al v0 ah) ab ⟨_,_,_,Z,_,it0,gr,f.k Z,m,o0⟩ ?_
  clear ab f m
  rintro ag am an ao a w ⟨ah,ai,aj,rfl,ak,al,ap,f,m,aq⟩
  refine Ag (Ae ?_)
  refine Ab f Z λa f=>Ab f Z λa f=>l_own2_len 0 m aq Z underlying22 f Z Z λa f=>Ai f Z Z AE λa f=>Aa ?_
  rcases Af an with⟨ar,an⟩|⟨ar,an⟩
  ·refine Al f Z ar ?_
   refine Am ?_
   refine Ag (Ak (Aj ?_))
   refine Ab f Z λa f=>Ab f Z λa f=> ?_
   have⟨au,av,an⟩:=bind_some an
   refine l_own2_at 0 m aq Z T22 f Z Z Z av λaw a ax f=>l_own2_load 0 m aq Z AT f Z Z ax av λay a az f=>Ab f Z λa f=> ?_
   have⟨aA,aB,an⟩:=bind_some an
   refine AL f Z call26 (Ow2.callAt aq (RI.mono _) m av az (λinn Hs m oi=>Wk.o m oi aB)) λaC aD aE w aF m aG a f=> ?_
   obtain⟨aH,rfl,rfl,aI⟩:=aG
   refine Ac f Z λa f=>Aa (Aj ?_)
   refine Ab f Z λa f=>Ai f Z Z Aw λa f=>Ac f Z λa f=>Aa ?_
   obtain rfl:=sj an
   exact⟨_,Z,_,_,_,Z,_,aH,(gt ap aF),f.k Z,m,aI⟩
  ·refine Ah f Z ar ?_
   refine AA Z ?_
   obtain rfl:=sj an
   obtain rfl:=ao _ rfl
   exact⟨_,_,Z,_,al,ap,f.k Z,m,aq⟩
 ·rintro a w ⟨ac,ad,rfl,ae,af,aJ,f,m,aK⟩
  refine Ae ?_
  refine Ab f Z λa f=>Ac f Z λa f=>Aa ?_
  refine Aq ?_
  obtain rfl:=sj hd
  exact⟨[(iv ad)],f.g Z,f.d,_,[af],aJ,m,_,Z,Z,aK⟩
theorem Wk.M1 {aa:Value}{ab:Itm}{ac:LL}{x1:Int}(m:Mem W G w (ab::H))(ad:Ow2 R0 26 2 G ab aa ac){y:Int×(LL)}(hd:D.M1 ac x1=some y):
  Calls prog 10 #[(.agg #[aa]),(iv x1)] w (Res W G H (λG' Ho v=>∃i0:Itm,Ho=[i0]∧v=(iv y.1)∧Ow2 R0 26 2 G' i0 aa y.2)):=by
 refine Ar (args:=[(.agg #[aa]),(iv x1)]) (N:=10) [.tmp 4] func10 Z Z (lb Z) Z λa f=> ?_
 unfold D.M1 at hd
 refine Ae ?_
 refine Bi (cs:=[aa]) m f Z Z Z λae w a m f=>Ac f Z λa f=>Ay ?_
 refine Bu underlying31 Z sizeOf22 f Z λa f=>AJ 0 0 m Bb f Z Z Z Z λa f=>Ab f Z λa f=> ?_
 have m:=m.fr 1
 have⟨af,ag,hd⟩:=bind_some hd
 refine AL f Z call25 (Wk.C0 m ad ag) λah ai aj w ak m al a f=> ?_
 obtain⟨am,rfl,rfl,an⟩:=al
 refine Ac f Z λa f=>Ay ?_
 refine Ab f Z λa f=>Ac f Z λa f=>Aa ?_
 refine Aq ?_
 have m:=m.eraseAt 1
 obtain rfl:=sj hd
 exact⟨[(iv af.1)],f.g Z,f.d,_,[am],ak,m,_,Z,Z,an⟩
theorem Wk.r0 {aa:Value}{ab:Itm}{ac:Value}{ad:Itm}{ae:Int}{af:LI}{ag:LL}{x1:Int}(m:Mem W G w (ab::ad::H))(ah:Ow R0 2 G ab aa af)(ai:Ow2 R0 26 2 G ad ac ag){y:Int×(LI)×(LL)}(hd:D.r0 ae af ag x1=some y):
  Calls prog 11 #[(.agg #[(iv ae),aa,ac]),(iv x1)] w (Res W G H (λG' Ho v=>∃i0:Itm,∃i1:Itm,Ho=[i0,i1]∧v=(iv y.1)∧Ow R0 2 G' i0 aa y.2.1∧Ow2 R0 26 2 G' i1 ac y.2.2)):=by
 refine Ar (args:=[(.agg #[(iv ae),aa,ac]),(iv x1)]) (N:=14) [.tmp 4] func11 Z Z (lb Z) Z λa f=> ?_
 unfold D.r0 at hd
 refine Ae ?_
 refine Bi (cs:=[(iv ae),aa,ac]) m f Z Z Z λaj w a m f=>Ac f Z λa f=>Ay ?_
 refine Bu underlying28 Z sizeOf26 f Z λa f=>AJ 0 1 m AT f Z Z Z Z λa f=>Ab f Z λa f=> ?_
 have m:=m.fr 1
 have⟨ak,al,hd⟩:=bind_some hd
 refine AL f Z call26 (Wk.o m ah al) λam an ao w ap m aq a f=> ?_
 obtain⟨ar,rfl,rfl,au⟩:=aq
 have ai:=od2 ap ai
 refine Ac f Z λa f=>Ay ?_
 refine Bu underlying28 Z sizeOf22 f Z λa f=>AJ 1 2 m Bb f Z Z Z Z λa f=>Ab f Z λa f=> ?_
 have m:=m.fr 2
 have⟨av,aw,hd⟩:=bind_some hd
 refine AL f Z call25 (Wk.C0 m ai aw) λax ay az w aA m aB a f=> ?_
 obtain⟨aC,rfl,rfl,aD⟩:=aB
 have au:=od1 aA au
 refine Ac f Z λa f=>Ay ?_
 refine Ab f Z λa f=>Ac f Z λa f=>Aa ?_
 refine Aq ?_
 have m:=m.fr 1
 have m:=m.eraseAt 2
 obtain rfl:=sj hd
 exact⟨[(iv av.1)],f.g Z,f.d,_,[ar,aC],(gt ap aA),m,_,_,Z,Z,au,aD⟩
theorem Wk.t {v0:Value}{x0:LI}{x1:Int}(m:Mem W G w (H))(h0:R1 G v0 x0){y:Int}(hd:D.t x0 x1=some y):
  Calls prog 27 #[v0,(iv x1)] w (Res W G H (λ_ Ho v=>Ho=[]∧v=(iv y))):=by
 refine Ar (args:=[v0,(iv x1)]) (N:=21) [.tmp 4] func27 Z Z (lb Z) Z λa f=> ?_
 unfold D.t at hd
 refine Ae ?_
 refine Ac f Z λa f=>Aa (Ag (Ae ?_))
 refine Ac f Z λa f=>Aa ?_
 have⟨aa,ab,hd⟩:=bind_some hd
 refine AH (λa w=>∃q_20':Int,aa= .inl q_20'∧∃ac:Int,ac=q_20'∧∃(ad:GH),GLe G ad∧Fr a 21 [(1,(iv ac))]∧Mem W ad w (H)) ?_ ?_
 ·refine Ak ?_
  refine AC (λae a w=>∃af:Int,∃ag:Int,(af,ag)=ae∧∃(ah:GH),GLe G ah∧Fr a 21 [(0,v0),(1,(iv af)),(5,(iv ag))]∧Mem W ah w (H)) ab ⟨_,_,Z,_,gr,f.k Z,m⟩ ?_
  clear ab f m
  rintro ae ai aj ak a w ⟨af,ag,rfl,ah,al,f,m⟩
  have h0:=rd1 al h0
  refine Ag (Ae ?_)
  refine Ab f Z λa f=>Ab f Z λa f=>AO underlying26 f Z Z h0 λa f=>Ai f Z Z AE λa f=>Aa ?_
  rcases Af aj with⟨am,aj⟩|⟨am,aj⟩
  ·refine Al f Z am ?_
   refine Am ?_
   refine Ag (Ak (Ag (Ae ?_)))
   refine Ab f Z λa f=>Ab f Z λa f=> ?_
   have⟨an,ao,aj⟩:=bind_some aj
   refine A2 T26 f Z Z Z h0 ao λap aq a ar au f=> ?_
   subst au
   refine Ax m Pl2 f Z Z ar λa f=>Ab f Z λa f=>Ai f Z Z B8 λa f=>Aa ?_
   rcases Af aj with⟨av,aj⟩|⟨av,aj⟩
   ·refine Al f Z av ?_
    refine Ae ?_
    refine Ac f Z λa f=>Aa ?_
    refine Aq ?_
    obtain rfl:=sj aj
    obtain rfl:=ak _ rfl
    obtain rfl:=sj hd
    exact⟨[(iv (-1))],f.g Z,f.d,_,[],al,m,Z,Z⟩
   ·refine Ah f Z av ?_
    refine Am ?_
    refine Aj ?_
    refine Ab f Z λa f=>Ai f Z Z Aw λa f=>Ac f Z λa f=>Aa (Aj ?_)
    refine Ab f Z λa f=>Ai f Z Z Aw λa f=>Ac f Z λa f=>Aa ?_
    obtain rfl:=sj aj
    exact⟨_,Z,_,_,Z,_,al,f.k Z,m⟩
  ·refine Ah f Z am ?_
   refine AA Z ?_
   obtain rfl:=sj aj
   obtain rfl:=ak _ rfl
   exact⟨_,Z,_,Z,_,al,f.k Z,m⟩
 ·rintro a w ⟨_,rfl,ac,rfl,ad,aw,f,m⟩
  refine Ae ?_
  refine Ab f Z λa f=>Ac f Z λa f=>Aa ?_
  refine Aq ?_
  obtain rfl:=sj hd
  exact⟨[(iv ac)],f.g Z,f.d,_,[],aw,m,Z,Z⟩
theorem Wk.r1 {v0:Value}{x0:LL}{x1:Int}(m:Mem W G w (H))(h0:R2 G v0 x0){y:Int}(hd:D.r1 x0 x1=some y):
  Calls prog 28 #[v0,(iv x1)] w (Res W G H (λ_ Ho v=>Ho=[]∧v=(iv y))):=by
 refine Ar (args:=[v0,(iv x1)]) (N:=21) [.tmp 4] func28 Z Z (lb Z) Z λa f=> ?_
 unfold D.r1 at hd
 refine Ae ?_
 refine Ac f Z λa f=>Aa (Ag (Ae ?_))
 refine Ac f Z λa f=>Aa ?_
 have⟨aa,ab,hd⟩:=bind_some hd
 refine AH (λa w=>∃q_34':Int,aa= .inl q_34'∧∃ac:Int,ac=q_34'∧∃(ad:GH),GLe G ad∧Fr a 21 [(1,(iv ac))]∧Mem W ad w (H)) ?_ ?_
 ·refine Ak ?_
  refine AC (λae a w=>∃af:Int,∃ag:Int,(af,ag)=ae∧∃(ah:GH),GLe G ah∧Fr a 21 [(0,v0),(1,(iv af)),(5,(iv ag))]∧Mem W ah w (H)) ab ⟨_,_,Z,_,gr,f.k Z,m⟩ ?_
  clear ab f m
  rintro ae ai aj ak a w ⟨af,ag,rfl,ah,al,f,m⟩
  have h0:=rd2 al h0
  refine Ag (Ae ?_)
  refine Ab f Z λa f=>Ab f Z λa f=>AO underlying22 f Z Z h0 λa f=>Ai f Z Z AE λa f=>Aa ?_
  rcases Af aj with⟨am,aj⟩|⟨am,aj⟩
  ·refine Al f Z am ?_
   refine Am ?_
   refine Ag (Ak (Ae ?_))
   refine Ab f Z λa f=>Ab f Z λa f=> ?_
   have⟨an,ao,aj⟩:=bind_some aj
   refine A2 T22 f Z Z Z h0 ao λap aq a ar au f=>Ax m AT f Z Z ar λa f=>Ab f Z λa f=> ?_
   have⟨av,aw,aj⟩:=bind_some aj
   refine A6 f Z call27 (Wk.t m au aw) λax w ay m a f=>Ac f Z λa f=>Ay ?_
   refine Ab f Z λa f=>Ai f Z Z AE λa f=>Aa ?_
   rcases Af aj with⟨az,aj⟩|⟨az,aj⟩
   ·refine Al f Z az ?_
    refine Ae ?_
    refine Ac f Z λa f=>Aa ?_
    refine Aq ?_
    obtain rfl:=sj aj
    obtain rfl:=ak _ rfl
    obtain rfl:=sj hd
    exact⟨[(iv (-1))],f.g Z,f.d,_,[],(gt al ay),m,Z,Z⟩
   ·refine Ah f Z az ?_
    refine Am ?_
    refine Aj ?_
    refine Ab f Z λa f=>Ai f Z Z Aw λa f=>Ac f Z λa f=>Aa ?_
    obtain rfl:=sj aj
    exact⟨_,Z,_,_,Z,_,(gt al ay),f.k Z,m⟩
  ·refine Ah f Z am ?_
   refine AA Z ?_
   obtain rfl:=sj aj
   obtain rfl:=ak _ rfl
   exact⟨_,Z,_,Z,_,al,f.k Z,m⟩
 ·rintro a w ⟨_,rfl,ac,rfl,ad,aA,f,m⟩
  refine Ae ?_
  refine Ab f Z λa f=>Ac f Z λa f=>Aa ?_
  refine Aq ?_
  obtain rfl:=sj hd
  exact⟨[(iv ac)],f.g Z,f.d,_,[],aA,m,Z,Z⟩
theorem Wk.E {aa ab:Value}{ac:Int}{ad:LI}{ae:LL}{x1:Int}(m:Mem W G w (H))(af:R1 G aa ad)(ag:R2 G ab ae){y:Int}(hd:D.E ac ad ae x1=some y):
  Calls prog 12 #[(.agg #[(iv ac),aa,ab]),(iv x1)] w (Res W G H (λ_ Ho v=>Ho=[]∧v=(iv y))):=by
 refine Ar (args:=[(.agg #[(iv ac),aa,ab]),(iv x1)]) (N:=18) [.tmp 4] func12 Z Z (lb Z) Z λa f=> ?_
 unfold D.E at hd
 refine Ae ?_
 refine Bi (cs:=[(iv ac),aa,ab]) m f Z Z Z λah w a m f=>Ac f Z λa f=>Ay ?_
 refine Bu underlying28 Z sizeOf26 f Z λa f=>AJ 0 1 m AT f Z Z Z Z λa f=>Ab f Z λa f=> ?_
 have⟨ai,aj,hd⟩:=bind_some hd
 refine A6 f Z call27 (Wk.t m af aj) λak w al m a f=> ?_
 have ag:=rd2 al ag
 refine Ac f Z λa f=>Aa (Ag (Ae ?_))
 refine Ab f Z λa f=>Ai f Z Z AE λa f=>Aa ?_
 rcases Af hd with⟨am,hd⟩|⟨am,hd⟩
 ·refine Al f Z am ?_
  refine Ae ?_
  refine Ac f Z λa f=>Aa ?_
  refine Aq ?_
  have m:Mem W ak w H:=Mem.drop (H':=[ib ah 28 [(iv ac),aa,ab]]) m
  obtain rfl:=sj hd
  exact⟨[(iv (-1))],f.g Z,f.d,_,[],al,m,Z,Z⟩
 ·refine Ah f Z am ?_
  refine Am ?_
  refine Ae ?_
  refine Bu underlying28 Z sizeOf22 f Z λa f=>AJ 0 2 m Bb f Z Z Z Z λa f=>Ab f Z λa f=> ?_
  have⟨an,ao,hd⟩:=bind_some hd
  refine A6 f Z call28 (Wk.r1 m ag ao) λap w aq m a f=>Ac f Z λa f=>Aa (Ag (Ae ?_))
  refine Ab f Z λa f=>Ai f Z Z AE λa f=>Aa ?_
  rcases Af hd with⟨ar,hd⟩|⟨ar,hd⟩
  ·refine Al f Z ar ?_
   refine Ae ?_
   refine Ac f Z λa f=>Aa ?_
   refine Aq ?_
   have m:Mem W ap w H:=Mem.drop (H':=[ib ah 28 [(iv ac),aa,ab]]) m
   obtain rfl:=sj hd
   exact⟨[(iv (-1))],f.g Z,f.d,_,[],(gt al aq),m,Z,Z⟩
  ·refine Ah f Z ar ?_
   refine Am ?_
   refine Ae ?_
   refine Ab f Z λa f=>Ac f Z λa f=>Aa ?_
   refine Aq ?_
   have m:Mem W ap w H:=Mem.drop (H':=[ib ah 28 [(iv ac),aa,ab]]) m
   obtain rfl:=sj hd
   exact⟨[(iv an)],f.g Z,f.d,_,[],(gt al aq),m,Z,Z⟩
set_option maxHeartbeats 1000000 in
theorem Wk.W1 {aa:Value}{ab:LL}(hW:Cr W)(m:Mem W G w (H))(ac:R2 G aa ab){y:Bool}(hd:D.W1 ab=some y):
  Calls prog 3 #[(.agg #[aa])] w (Res W G H (λ_ Ho v=>Ho=[]∧v=(.bool y))):=by
 refine Ar (args:=[(.agg #[aa])]) (N:=133) [.tmp 2] func3 Z Z (lb Z) Z λa f=> ?_
 unfold D.W1 at hd
 refine Ae ?_
 refine Bi (cs:=[aa]) m f Z Z Z λad w a m f=>Ac f Z λa f=>Ay ?_
 refine Ac f Z λa f=>Ay ?_
 refine AB 0 0 (ds:=[aa]) m Ag24 f Z Z Z Z Z λa f=>Ab f Z λa f=> ?_
 have⟨ae,af,hd⟩:=bind_some hd
 refine A6 f Z call4 (Wk.o1 m ac af) λag w ah m a f=> ?_
 have ac:=rd2 ah ac
 refine Ac f Z λa f=>Aa (Ag (Ae ?_))
 refine Ab f Z λa f=>Ai f Z Z AE λa f=>Aa ?_
 rcases Af hd with⟨ai,hd⟩|⟨ai,hd⟩
 ·refine Al f Z ai ?_
  refine Ae ?_
  refine Ac f Z λa f=>Aa ?_
  refine Aq ?_
  have m:Mem W ag w H:=Mem.drop (H':=[ib ad 24 [aa]]) m
  obtain rfl:=sj hd
  exact⟨[(.bool true)],f.g Z,f.d,_,[],ah,m,Z,Z⟩
 ·refine Ah f Z ai ?_
  refine Am ?_
  refine Ae ?_
  refine AB 0 0 (ds:=[aa]) m Ag24 f Z Z Z Z Z λa f=> ?_
  have⟨aj,ak,hd⟩:=bind_some hd
  refine AL f Z call6 (Wk.F m ac ak) λal am an w ao m ap a f=> ?_
  obtain⟨aq,ar,rfl,rfl,au⟩:=ap
  have ac:=rd2 ao ac
  obtain⟨av,aw,m,ax⟩:=Ow2.stamp (RI.mono _) au m
  have ac:=rd2 aw ac
  have⟨ay,az,hd⟩:=bind_some hd
  refine AL f Z call5 (Wk.w1 m ax az) λaA aB aC w aD m aE a f=> ?_
  obtain⟨aF,aG,aH,aI,aJ,aK,aL,aM,rfl,rfl,aN,aO,aP,aQ⟩:=aE
  have ac:=rd2 aD ac
  refine Ab f Z λa f=>l_o f (A9 (f.e Z) Z) λa f=>l_o f (A9 (f.e Z) Z) λa f=>l_o f (A9 (f.e Z) Z) λa f=>Bm (cs:=[(iv 0),sn,sn]) zeroValue28 m f Z Z λaR w a m f=>Bm (cs:=[(iv 0),sn,sn]) zeroValue28 m f Z Z λaS w a m f=>Az 1 0 (ds:=[(iv ay.1),aF,aH]) m sizeOf28 f Z Z Z (An Z (An (Ow.one1 2 m aN Z) (An (Ow.one1 3 m aO Z) AK))) Z (lb Z) Z λw m=>Az 0 0 (ds:=[(iv ay.2.2.2.1),aJ,aL]) m sizeOf28 f Z Z Z (An Z (An (Ow.one1 4 m aP Z) (An (Ow.one1 5 m aQ Z) AK))) Z (lb Z) Z λw m=>Ac f Z λa f=>Ay ?_
  refine AB 6 0 (ds:=[aa]) m Ag24 f Z Z Z Z Z λa f=> ?_
  have⟨aT,aU,hd⟩:=bind_some hd
  refine AL f Z call6 (Wk.F m ac aU) λaV aW aX w aY m aZ a f=> ?_
  obtain⟨a8,a9,rfl,rfl,ba⟩:=aZ
  have ac:=rd2 aY ac
  have aN:=od1 aY aN
  have aO:=Ow.mono (RSl.mono (RI.mono _)) aY aO
  have aP:=od1 aY aP
  have aQ:=Ow.mono (RSl.mono (RI.mono _)) aY aQ
  refine Bm (cs:=[sn]) zeroValue31 m f Z Z λbb w a m f=>Az 0 0 (ds:=[a8]) m sizeOf31 f Z Z Z (An (Ow2.one1 1 m ba Z) AK) Z (lb Z) Z λw m=>Ay ?_
  refine AB 0 0 (ds:=[a8]) m Bj f Z Z Z Z Z λa f=> ?_
  have⟨bc,bd,hd⟩:=bind_some hd
  refine AL f Z call7 (Ow2.lendCall (RI.mono _) 1 ba m Z (λbe bf m bg=>Wk.t0 hW m bg bd) (λ_ G' _ _ ⟨a0,a1,a2,a3,a4,a5,a6,a7,e1,e2,o0,o1,o2,o3⟩=>⟨a0,a1,a2,a3,a4,a5,a6,a7,e1,e2,Ow.free (RI.free _) G' o0,Ow2.free (RI.free _) G' o1,Ow.free (RI.free _) G' o2,Ow2.free (RI.free _) G' o3⟩)) λbh bi bj w bk m bl a f=> ?_
  obtain⟨bm,bn,bo,bp,bq,br,bs,bt,rfl,rfl,bu,bv,bw,bx⟩:=bl
  have ac:=rd2 bk ac
  have ba:=od2 bk ba
  have aN:=od1 bk aN
  have aO:=Ow.mono (RSl.mono (RI.mono _)) bk aO
  have aP:=od1 bk aP
  have aQ:=Ow.mono (RSl.mono (RI.mono _)) bk aQ
  refine Ab f Z λa f=>l_o f (A9 (f.e Z) Z) λa f=>l_o f (A9 (f.e Z) Z) λa f=>l_o f (A9 (f.e Z) Z) λa f=>Bm (cs:=[(iv 0),sn,sn]) zeroValue28 m f Z Z λbz w a m f=>Bm (cs:=[(iv 0),sn,sn]) zeroValue28 m f Z Z λbA w a m f=>Az 1 0 (ds:=[(iv bc.1),bm,bo]) m sizeOf28 f Z Z Z (An Z (An (Ow.one1 2 m bu Z) (An (Ow2.one1 3 m bv Z) AK))) Z (lb Z) Z λw m=>Az 0 0 (ds:=[(iv bc.2.2.2.1),bq,bs]) m sizeOf28 f Z Z Z (An Z (An (Ow.one1 4 m bw Z) (An (Ow2.one1 5 m bx Z) AK))) Z (lb Z) Z λw m=>Ac f Z λa f=>Aa (Ag (Ae ?_))
  refine AB 1 0 (ds:=[(iv bc.1),bm,bo]) m Cv f Z Z Z Z Z λa f=>AB 9 0 (ds:=[(iv ay.1),aF,aH]) m Cv f Z Z Z Z Z λa f=> ?_
  have⟨bB,bC,hd⟩:=bind_some hd
  refine AL f Z call8 (Ow.lendCall (RI.mono _) 2 bu m Z (λbD bE m bF=>(Ow2.lendCall (RI.mono _) 2 (od2 bE bv) m Z (λbG bH m bI=>(Ow.lendCall (RI.mono _) 8 (od1 bH (od1 bE aN)) m Z (λbJ bK m bL=>(Ow.lendCall (RSl.mono (RI.mono _)) 8 (Ow.mono (RSl.mono (RI.mono _)) bK (Ow.mono (RSl.mono (RI.mono _)) bH (Ow.mono (RSl.mono (RI.mono _)) bE aO))) m Z (λbM bN m bO=>Wk.v m (rd1 bN (rd1 bK (rd1 bH bF))) (rd2 bN (rd2 bK bI)) (rd1 bN bL) bO bC) (λ_ _ _ _ h=>h))) (λ_ _ _ _ h=>h))) (λ_ _ _ _ h=>h))) (λ_ _ _ _ h=>h)) λbP bQ bR w bS m bT a f=> ?_
  obtain⟨rfl,rfl⟩:=bT
  have ac:=rd2 bS ac
  have bu:=od1 bS bu
  have bv:=od2 bS bv
  have bw:=od1 bS bw
  have bx:=od2 bS bx
  have ba:=od2 bS ba
  have aN:=od1 bS aN
  have aO:=Ow.mono (RSl.mono (RI.mono _)) bS aO
  have aP:=od1 bS aP
  have aQ:=Ow.mono (RSl.mono (RI.mono _)) bS aQ
  refine l_o f (Bv (f.e Z)) λa f=>Ab f Z λa f=> ?_
  have⟨bU,bV,hd⟩:=bind_some hd
  refine BH 5 (λa w=>∃bW,GLe bQ bW∧Mem W bW w (ib bA 28 [(iv bc.2.2.2.1),bq,bs]::ib bz 28 [(iv bc.1),bm,bo]::bn::bp::br::bt::ib bb 31 [a8]::a9::ib aS 28 [(iv ay.2.2.2.1),aJ,aL]::ib aR 28 [(iv ay.1),aF,aH]::aG::aI::aK::aM::ib ad 24 [aa]::H)∧Fr a 133 [(0,(.agg #[aa])),(1,(pb ad)),(3,(iv ae)),(4,(pb aR)),(5,(pb aS)),(6,(.bool ay.2.2.2.2.2.2)),(7,(pb bb)),(8,(pb bz)),(9,(pb bA)),(10,(.bool bc.2.2.2.2.2.2)),(37,(.agg #[(iv bc.1),bm,bo])),(38,(.agg #[(iv ay.1),aF,aH])),(39,(.bool bB)),(40,(.bool (!bB))),(41,(.bool (!bB))),(46,(.bool bU))]) ?_ ?_
  ·rcases Af bV with⟨bX,bV⟩|⟨bX,bV⟩
   ·refine AG f bX λa f=> ?_
    refine AG f bX λa f=>AG f bX λa f=>AG f bX λa f=>l_o f (A4 (f.e Z) bX (f.e Z)) λa f=> ?_
    obtain rfl:=sj bV
    exact⟨_,gr,m,f.k Z⟩
   ·refine AF f bX ?_
    refine AB 0 0 (ds:=[(iv bc.2.2.2.1),bq,bs]) m Cv f Z Z Z Z Z λa f=>AF f bX ?_
    refine AB 8 0 (ds:=[(iv ay.2.2.2.1),aJ,aL]) m Cv f Z Z Z Z Z λa f=>AF f bX ?_
    have⟨bY,bZ,bV⟩:=bind_some bV
    refine AL f Z call8 (Ow.lendCall (RI.mono _) 4 bw m Z (λb0 b1 m b2=>(Ow2.lendCall (RI.mono _) 4 (od2 b1 bx) m Z (λb3 b4 m b5=>(Ow.lendCall (RI.mono _) 10 (od1 b4 (od1 b1 aP)) m Z (λb6 b7 m b8=>(Ow.lendCall (RSl.mono (RI.mono _)) 10 (Ow.mono (RSl.mono (RI.mono _)) b7 (Ow.mono (RSl.mono (RI.mono _)) b4 (Ow.mono (RSl.mono (RI.mono _)) b1 aQ))) m Z (λb9 ca m cb=>Wk.v m (rd1 ca (rd1 b7 (rd1 b4 b2))) (rd2 ca (rd2 b7 b5)) (rd1 ca b8) cb bZ) (λ_ _ _ _ h=>h))) (λ_ _ _ _ h=>h))) (λ_ _ _ _ h=>h))) (λ_ _ _ _ h=>h)) λcc cd ce w cf m cg a f=> ?_
    obtain⟨rfl,rfl⟩:=cg
    refine AF f bX ?_
    refine l_o f (Bv (f.e Z)) λa f=>l_o f (A5 (f.e Z) bX (f.e Z)) λa f=> ?_
    obtain rfl:=sj bV
    exact⟨_,cf,m,f.k Z⟩
  ·rintro a w ⟨bW,ch,m,f⟩
   have ac:=rd2 ch ac
   have bu:=od1 ch bu
   have bv:=od2 ch bv
   have bw:=od1 ch bw
   have bx:=od2 ch bx
   have ba:=od2 ch ba
   have aN:=od1 ch aN
   have aO:=Ow.mono (RSl.mono (RI.mono _)) ch aO
   have aP:=od1 ch aP
   have aQ:=Ow.mono (RSl.mono (RI.mono _)) ch aQ
   refine Ab f Z λa f=> ?_
   refine BH 4 (λa w=>∃ci,GLe bW ci∧Mem W ci w (ib bA 28 [(iv bc.2.2.2.1),bq,bs]::ib bz 28 [(iv bc.1),bm,bo]::bn::bp::br::bt::ib bb 31 [a8]::a9::ib aS 28 [(iv ay.2.2.2.1),aJ,aL]::ib aR 28 [(iv ay.1),aF,aH]::aG::aI::aK::aM::ib ad 24 [aa]::H)∧Fr a 133 [(0,(.agg #[aa])),(1,(pb ad)),(3,(iv ae)),(4,(pb aR)),(5,(pb aS)),(6,(.bool ay.2.2.2.2.2.2)),(7,(pb bb)),(8,(pb bz)),(9,(pb bA)),(10,(.bool bc.2.2.2.2.2.2)),(37,(.agg #[(iv bc.1),bm,bo])),(38,(.agg #[(iv ay.1),aF,aH])),(39,(.bool bB)),(40,(.bool (!bB))),(41,(.bool (!bB))),(46,(.bool bU)),(47,(.bool bU)),(51,(.bool (bU||(bc.2.2.2.2.2.2 !=ay.2.2.2.2.2.2))))]) ?_ ?_
   ·rcases Bool.eq_false_or_eq_true bU with cj|cj
    ·refine AG f cj λa f=> ?_
     refine AG f cj λa f=>AG f cj λa f=>l_o f (A4 (f.e Z) cj (f.e Z)) λa f=> ?_
     exact⟨_,gr,m,f.weak ⟨Z,Z,Z,Z,Z,Z,Z,Z,Z,Z,Z,Z,Z,Z,Z,Z,Z,by rw[cj];rfl,trivial⟩⟩
    ·refine AF f cj ?_
     refine Ab f Z λa f=>AF f cj ?_
     refine Ab f Z λa f=>AF f cj ?_
     refine l_o f (EM (f.e Z) (f.e Z) underlying4) λa f=>l_o f (A5 (f.e Z) cj (f.e Z)) λa f=> ?_
     exact⟨_,gr,m,f.weak ⟨Z,Z,Z,Z,Z,Z,Z,Z,Z,Z,Z,Z,Z,Z,Z,Z,Z,by rw[cj];rfl,trivial⟩⟩
   ·rintro a w ⟨ci,ck,m,f⟩
    have ac:=rd2 ck ac
    have bu:=od1 ck bu
    have bv:=od2 ck bv
    have bw:=od1 ck bw
    have bx:=od2 ck bx
    have ba:=od2 ck ba
    have aN:=od1 ck aN
    have aO:=Ow.mono (RSl.mono (RI.mono _)) ck aO
    have aP:=od1 ck aP
    have aQ:=Ow.mono (RSl.mono (RI.mono _)) ck aQ
    refine Aa ?_
    rcases Af hd with⟨cl,hd⟩|⟨cl,hd⟩
    ·refine Al f Z cl ?_
     refine Ae ?_
     refine Ac f Z λa f=>Aa ?_
     refine Aq ?_
     have m:Mem W ci w H:=Mem.drop (H':=[ib bA 28 [(iv bc.2.2.2.1),bq,bs],ib bz 28 [(iv bc.1),bm,bo],bn,bp,br,bt,ib bb 31 [a8],a9,ib aS 28 [(iv ay.2.2.2.1),aJ,aL],ib aR 28 [(iv ay.1),aF,aH],aG,aI,aK,aM,ib ad 24 [aa]]) m
     obtain rfl:=sj hd
     exact⟨[(.bool false)],f.g Z,f.d,_,[],(gt ah (gt ao (gt aw (gt aD (gt aY (gt bk (gt bS (gt ch ck)))))))),m,Z,Z⟩
    ·refine Ah f Z cl ?_
     refine Am ?_
     refine Ag (Ag ?_)
     refine A3 5 AM (by kernel_rfl) m ?_
     refine BM (i:=0) (ds:=[a8]) 5 6 Bj Z Z Z Z (by kernel_rfl) Z f Z Z Z λa f=>BM (i:=1) (ds:=[aa]) 5 14 Ag24 Z Z Z Z (by kernel_rfl) Z f Z Z Z λa f=>Bp 2 Z λcm w cn m co co=> ?_
     have ac:=rd2 cn ac
     have bu:=od1 cn bu
     have bv:=od2 cn bv
     have bw:=od1 cn bw
     have bx:=od2 cn bx
     have ba:=od2 cn ba
     have aN:=od1 cn aN
     have aO:=Ow.mono (RSl.mono (RI.mono _)) cn aO
     have aP:=od1 cn aP
     have aQ:=Ow.mono (RSl.mono (RI.mono _)) cn aQ
     have⟨cp,cq,hd⟩:=bind_some hd
     refine AL f Z call6 (Wk.F m ac cq) λcr ct cu w cv m cw a f=> ?_
     obtain⟨cx,cy,rfl,rfl,cz⟩:=cw
     have ac:=rd2 cv ac
     have bu:=od1 cv bu
     have bv:=od2 cv bv
     have bw:=od1 cv bw
     have bx:=od2 cv bx
     have ba:=od2 cv ba
     have aN:=od1 cv aN
     have aO:=Ow.mono (RSl.mono (RI.mono _)) cv aO
     have aP:=od1 cv aP
     have aQ:=Ow.mono (RSl.mono (RI.mono _)) cv aQ
     refine Aa ?_
     refine co ct [cy] _ _ cv m ?_
     refine Bp 3 Z λcA w cB m cC cC=> ?_
     have ac:=rd2 cB ac
     have cz:=od2 cB cz
     have bu:=od1 cB bu
     have bv:=od2 cB bv
     have bw:=od1 cB bw
     have bx:=od2 cB bx
     have ba:=od2 cB ba
     have aN:=od1 cB aN
     have aO:=Ow.mono (RSl.mono (RI.mono _)) cB aO
     have aP:=od1 cB aP
     have aQ:=Ow.mono (RSl.mono (RI.mono _)) cB aQ
     have⟨cD,cE,hd⟩:=bind_some hd
     refine AL f Z call9 (Ow2.lendCall (RI.mono _) 8 ba m Z (λcF cG m cH=>(Ow2.lendCall (RI.mono _) 0 (od2 cG cz) m Z (λcI cJ m cK=>Wk.p1 m (rd2 cJ cH) cK cE) (λ_ _ _ _ h=>h))) (λ_ _ _ _ h=>h)) λcL cM cN w cO m cP a f=> ?_
     obtain⟨rfl,rfl⟩:=cP
     have ac:=rd2 cO ac
     have bu:=od1 cO bu
     have bv:=od2 cO bv
     have bw:=od1 cO bw
     have bx:=od2 cO bx
     have ba:=od2 cO ba
     have aN:=od1 cO aN
     have aO:=Ow.mono (RSl.mono (RI.mono _)) cO aO
     have aP:=od1 cO aP
     have aQ:=Ow.mono (RSl.mono (RI.mono _)) cO aQ
     refine Aa ?_
     refine cC cM [cy] _ _ cO m ?_
     refine q_p 4 5 Z f (λ_=>Bv (f.e Z)) λa f=>AU λcQ w cR m=> ?_
     have ac:=rd2 cR ac
     have bu:=od1 cR bu
     have bv:=od2 cR bv
     have bw:=od1 cR bw
     have bx:=od2 cR bx
     have ba:=od2 cR ba
     have aN:=od1 cR aN
     have aO:=Ow.mono (RSl.mono (RI.mono _)) cR aO
     have aP:=od1 cR aP
     have aQ:=Ow.mono (RSl.mono (RI.mono _)) cR aQ
     refine Aa ?_
     rcases Af hd with⟨cS,hd⟩|⟨cS,hd⟩
     ·refine Al f Z cS ?_
      refine Ae ?_
      refine Ac f Z λa f=>Aa ?_
      refine Aq ?_
      have m:Mem W cQ w H:=Mem.drop (H':=[cy,ib bA 28 [(iv bc.2.2.2.1),bq,bs],ib bz 28 [(iv bc.1),bm,bo],bn,bp,br,bt,ib bb 31 [a8],a9,ib aS 28 [(iv ay.2.2.2.1),aJ,aL],ib aR 28 [(iv ay.1),aF,aH],aG,aI,aK,aM,ib ad 24 [aa]]) m
      obtain rfl:=sj hd
      exact⟨[(.bool false)],f.g Z,f.d,_,[],(gt ah (gt ao (gt aw (gt aD (gt aY (gt bk (gt bS (gt ch (gt ck (gt cn (gt cv (gt cB (gt cO cR))))))))))))),m,Z,Z⟩
     ·refine Ah f Z cS ?_
      refine Am ?_
      refine Ae ?_
      refine Ac f Z λa f=>Ay ?_
      refine AB 7 0 (ds:=[a8]) m Bj f Z Z Z Z Z λa f=>Ab f Z λa f=> ?_
      have m:Mem W cQ w (a9::cy::ib bA 28 [(iv bc.2.2.2.1),bq,bs]::ib bz 28 [(iv bc.1),bm,bo]::bn::bp::br::bt::ib bb 31 [a8]::ib aS 28 [(iv ay.2.2.2.1),aJ,aL]::ib aR 28 [(iv ay.1),aF,aH]::aG::aI::aK::aM::ib ad 24 [aa]::H):=m.fr 8
      have⟨cT,cU,hd⟩:=bind_some hd
      refine AL f Z call10 (Wk.M1 m ba cU) λcV cW cX w cY m cZ a f=> ?_
      obtain⟨c0,rfl,rfl,c1⟩:=cZ
      have ac:=rd2 cY ac
      have bu:=od1 cY bu
      have bv:=od2 cY bv
      have bw:=od1 cY bw
      have bx:=od2 cY bx
      have aN:=od1 cY aN
      have aO:=Ow.mono (RSl.mono (RI.mono _)) cY aO
      have aP:=od1 cY aP
      have aQ:=Ow.mono (RSl.mono (RI.mono _)) cY aQ
      refine Ac f Z λa f=>Aa (Ag (Ae ?_))
      refine Ab f Z λa f=>Ai f Z Z AE λa f=>Ab f Z λa f=> ?_
      have⟨c2,c3,hd⟩:=bind_some hd
      refine BH 5 (λa w=>∃c4,GLe cW c4∧Mem W c4 w (c0::cy::ib bA 28 [(iv bc.2.2.2.1),bq,bs]::ib bz 28 [(iv bc.1),bm,bo]::bn::bp::br::bt::ib bb 31 [a8]::ib aS 28 [(iv ay.2.2.2.1),aJ,aL]::ib aR 28 [(iv ay.1),aF,aH]::aG::aI::aK::aM::ib ad 24 [aa]::H)∧Fr a 133 [(0,(.agg #[aa])),(1,(pb ad)),(3,(iv ae)),(4,(pb aR)),(5,(pb aS)),(6,(.bool ay.2.2.2.2.2.2)),(7,(pb bb)),(8,(pb bz)),(9,(pb bA)),(10,(.bool bc.2.2.2.2.2.2)),(11,(iv cT.1)),(60,(iv cT.1)),(61,(.bool (decide (cT.1<0)))),(62,(.bool (decide (cT.1<0)))),(67,(.bool c2))]) ?_ ?_
      ·rcases Af c3 with⟨c5,c3⟩|⟨c5,c3⟩
       ·refine AG f c5 λa f=> ?_
        refine AG f c5 λa f=>AG f c5 λa f=>AG f c5 λa f=>l_o f (A4 (f.e Z) c5 (f.e Z)) λa f=> ?_
        obtain rfl:=sj c3
        exact⟨_,gr,m,f.k Z⟩
       ·refine AF f c5 ?_
        refine AB 3 0 (ds:=[(iv bc.1),bm,bo]) m Cv f Z Z Z Z Z λa f=>AF f c5 ?_
        refine AB 10 0 (ds:=[(iv ay.1),aF,aH]) m Cv f Z Z Z Z Z λa f=>AF f c5 ?_
        have⟨c6,c7,c3⟩:=bind_some c3
        refine AL f Z call8 (Ow.lendCall (RI.mono _) 4 bu m Z (λc8 c9 m da=>(Ow2.lendCall (RI.mono _) 4 (od2 c9 bv) m Z (λdb dc m dd=>(Ow.lendCall (RI.mono _) 9 (od1 dc (od1 c9 aN)) m Z (λde df m dg=>(Ow.lendCall (RSl.mono (RI.mono _)) 9 (Ow.mono (RSl.mono (RI.mono _)) df (Ow.mono (RSl.mono (RI.mono _)) dc (Ow.mono (RSl.mono (RI.mono _)) c9 aO))) m Z (λdh di m dj=>Wk.v m (rd1 di (rd1 df (rd1 dc da))) (rd2 di (rd2 df dd)) (rd1 di dg) dj c7) (λ_ _ _ _ h=>h))) (λ_ _ _ _ h=>h))) (λ_ _ _ _ h=>h))) (λ_ _ _ _ h=>h)) λdk dl dm w dn m dp a f=> ?_
        obtain⟨rfl,rfl⟩:=dp
        refine AF f c5 ?_
        refine l_o f (Bv (f.e Z)) λa f=>l_o f (A5 (f.e Z) c5 (f.e Z)) λa f=> ?_
        obtain rfl:=sj c3
        exact⟨_,dn,m,f.k Z⟩
      ·rintro a w ⟨c4,dq,m,f⟩
       have ac:=rd2 dq ac
       have bu:=od1 dq bu
       have bv:=od2 dq bv
       have bw:=od1 dq bw
       have bx:=od2 dq bx
       have aN:=od1 dq aN
       have aO:=Ow.mono (RSl.mono (RI.mono _)) dq aO
       have aP:=od1 dq aP
       have aQ:=Ow.mono (RSl.mono (RI.mono _)) dq aQ
       refine Ab f Z λa f=> ?_
       have⟨dr,dt,hd⟩:=bind_some hd
       refine BH 5 (λa w=>∃du,GLe c4 du∧Mem W du w (c0::cy::ib bA 28 [(iv bc.2.2.2.1),bq,bs]::ib bz 28 [(iv bc.1),bm,bo]::bn::bp::br::bt::ib bb 31 [a8]::ib aS 28 [(iv ay.2.2.2.1),aJ,aL]::ib aR 28 [(iv ay.1),aF,aH]::aG::aI::aK::aM::ib ad 24 [aa]::H)∧Fr a 133 [(0,(.agg #[aa])),(1,(pb ad)),(3,(iv ae)),(4,(pb aR)),(5,(pb aS)),(6,(.bool ay.2.2.2.2.2.2)),(7,(pb bb)),(8,(pb bz)),(9,(pb bA)),(10,(.bool bc.2.2.2.2.2.2)),(11,(iv cT.1)),(60,(iv cT.1)),(61,(.bool (decide (cT.1<0)))),(62,(.bool (decide (cT.1<0)))),(67,(.bool c2)),(68,(.bool c2)),(73,(.bool dr))]) ?_ ?_
       ·rcases Af dt with⟨dv,dt⟩|⟨dv,dt⟩
        ·refine AG f dv λa f=> ?_
         refine AG f dv λa f=>AG f dv λa f=>AG f dv λa f=>l_o f (A4 (f.e Z) dv (f.e Z)) λa f=> ?_
         obtain rfl:=sj dt
         exact⟨_,gr,m,f.k Z⟩
        ·refine AF f dv ?_
         refine AB 2 0 (ds:=[(iv bc.2.2.2.1),bq,bs]) m Cv f Z Z Z Z Z λa f=>AF f dv ?_
         refine AB 9 0 (ds:=[(iv ay.2.2.2.1),aJ,aL]) m Cv f Z Z Z Z Z λa f=>AF f dv ?_
         have⟨dw,dx,dt⟩:=bind_some dt
         refine AL f Z call8 (Ow.lendCall (RI.mono _) 6 bw m Z (λdy dz m dA=>(Ow2.lendCall (RI.mono _) 6 (od2 dz bx) m Z (λdB dC m dD=>(Ow.lendCall (RI.mono _) 11 (od1 dC (od1 dz aP)) m Z (λdE dF m dG=>(Ow.lendCall (RSl.mono (RI.mono _)) 11 (Ow.mono (RSl.mono (RI.mono _)) dF (Ow.mono (RSl.mono (RI.mono _)) dC (Ow.mono (RSl.mono (RI.mono _)) dz aQ))) m Z (λdH dI m dJ=>Wk.v m (rd1 dI (rd1 dF (rd1 dC dA))) (rd2 dI (rd2 dF dD)) (rd1 dI dG) dJ dx) (λ_ _ _ _ h=>h))) (λ_ _ _ _ h=>h))) (λ_ _ _ _ h=>h))) (λ_ _ _ _ h=>h)) λdK dL dM w dN m dO a f=> ?_
         obtain⟨rfl,rfl⟩:=dO
         refine AF f dv ?_
         refine l_o f (Bv (f.e Z)) λa f=>l_o f (A5 (f.e Z) dv (f.e Z)) λa f=> ?_
         obtain rfl:=sj dt
         exact⟨_,dN,m,f.k Z⟩
       ·rintro a w ⟨du,dP,m,f⟩
        have ac:=rd2 dP ac
        have bu:=od1 dP bu
        have bv:=od2 dP bv
        have bw:=od1 dP bw
        have bx:=od2 dP bx
        have aN:=od1 dP aN
        have aO:=Ow.mono (RSl.mono (RI.mono _)) dP aO
        have aP:=od1 dP aP
        have aQ:=Ow.mono (RSl.mono (RI.mono _)) dP aQ
        refine Ab f Z λa f=> ?_
        refine BH 4 (λa w=>∃dQ,GLe du dQ∧Mem W dQ w (c0::cy::ib bA 28 [(iv bc.2.2.2.1),bq,bs]::ib bz 28 [(iv bc.1),bm,bo]::bn::bp::br::bt::ib bb 31 [a8]::ib aS 28 [(iv ay.2.2.2.1),aJ,aL]::ib aR 28 [(iv ay.1),aF,aH]::aG::aI::aK::aM::ib ad 24 [aa]::H)∧Fr a 133 [(0,(.agg #[aa])),(1,(pb ad)),(3,(iv ae)),(4,(pb aR)),(5,(pb aS)),(6,(.bool ay.2.2.2.2.2.2)),(7,(pb bb)),(8,(pb bz)),(9,(pb bA)),(10,(.bool bc.2.2.2.2.2.2)),(11,(iv cT.1)),(60,(iv cT.1)),(61,(.bool (decide (cT.1<0)))),(62,(.bool (decide (cT.1<0)))),(67,(.bool c2)),(68,(.bool c2)),(73,(.bool dr)),(74,(.bool dr)),(78,(.bool (dr||(bc.2.2.2.2.2.2 !=ay.2.2.2.2.2.2))))]) ?_ ?_
        ·rcases Bool.eq_false_or_eq_true dr with dR|dR
         ·refine AG f dR λa f=> ?_
          refine AG f dR λa f=>AG f dR λa f=>l_o f (A4 (f.e Z) dR (f.e Z)) λa f=> ?_
          exact⟨_,gr,m,f.weak ⟨Z,Z,Z,Z,Z,Z,Z,Z,Z,Z,Z,Z,Z,Z,Z,Z,Z,Z,by rw[dR];rfl,trivial⟩⟩
         ·refine AF f dR ?_
          refine Ab f Z λa f=>AF f dR ?_
          refine Ab f Z λa f=>AF f dR ?_
          refine l_o f (EM (f.e Z) (f.e Z) underlying4) λa f=>l_o f (A5 (f.e Z) dR (f.e Z)) λa f=> ?_
          exact⟨_,gr,m,f.weak ⟨Z,Z,Z,Z,Z,Z,Z,Z,Z,Z,Z,Z,Z,Z,Z,Z,Z,Z,by rw[dR];rfl,trivial⟩⟩
        ·rintro a w ⟨dQ,dS,m,f⟩
         have ac:=rd2 dS ac
         have bu:=od1 dS bu
         have bv:=od2 dS bv
         have bw:=od1 dS bw
         have bx:=od2 dS bx
         have aN:=od1 dS aN
         have aO:=Ow.mono (RSl.mono (RI.mono _)) dS aO
         have aP:=od1 dS aP
         have aQ:=Ow.mono (RSl.mono (RI.mono _)) dS aQ
         refine Aa ?_
         rcases Af hd with⟨dT,hd⟩|⟨dT,hd⟩
         ·refine Al f Z dT ?_
          refine Ae ?_
          refine Ac f Z λa f=>Aa ?_
          refine Aq ?_
          have m:Mem W dQ w H:=Mem.drop (H':=[c0,cy,ib bA 28 [(iv bc.2.2.2.1),bq,bs],ib bz 28 [(iv bc.1),bm,bo],bn,bp,br,bt,ib bb 31 [a8],ib aS 28 [(iv ay.2.2.2.1),aJ,aL],ib aR 28 [(iv ay.1),aF,aH],aG,aI,aK,aM,ib ad 24 [aa]]) m
          obtain rfl:=sj hd
          exact⟨[(.bool false)],f.g Z,f.d,_,[],(gt ah (gt ao (gt aw (gt aD (gt aY (gt bk (gt bS (gt ch (gt ck (gt cn (gt cv (gt cB (gt cO (gt cR (gt cY (gt dq (gt dP dS))))))))))))))))),m,Z,Z⟩
         ·refine Ah f Z dT ?_
          refine Am ?_
          refine Ae ?_
          refine Ac f Z λa f=>Ay ?_
          refine AB 3 0 (ds:=[(iv bc.1),bm,bo]) m Cv f Z Z Z Z Z λa f=>Ab f Z λa f=> ?_
          have m:=m.fr 5
          have m:Mem W dQ w (bn::bp::c0::cy::ib bA 28 [(iv bc.2.2.2.1),bq,bs]::ib bz 28 [(iv bc.1),bm,bo]::br::bt::ib bb 31 [a8]::ib aS 28 [(iv ay.2.2.2.1),aJ,aL]::ib aR 28 [(iv ay.1),aF,aH]::aG::aI::aK::aM::ib ad 24 [aa]::H):=m.fr 5
          have⟨dU,dV,hd⟩:=bind_some hd
          refine AL f Z call11 (Wk.r0 m bu bv dV) λdW dX dY w dZ m d0 a f=> ?_
          obtain⟨d1,d2,rfl,rfl,d3,d4⟩:=d0
          have ac:=rd2 dZ ac
          have bw:=od1 dZ bw
          have bx:=od2 dZ bx
          have aN:=od1 dZ aN
          have aO:=Ow.mono (RSl.mono (RI.mono _)) dZ aO
          have aP:=od1 dZ aP
          have aQ:=Ow.mono (RSl.mono (RI.mono _)) dZ aQ
          refine Ac f Z λa f=>Ay ?_
          refine AB 4 0 (ds:=[(iv bc.2.2.2.1),bq,bs]) m Cv f Z Z Z Z Z λa f=>Ab f Z λa f=> ?_
          have m:=m.fr 7
          have m:Mem W dX w (br::bt::d1::d2::c0::cy::ib bA 28 [(iv bc.2.2.2.1),bq,bs]::ib bz 28 [(iv bc.1),bm,bo]::ib bb 31 [a8]::ib aS 28 [(iv ay.2.2.2.1),aJ,aL]::ib aR 28 [(iv ay.1),aF,aH]::aG::aI::aK::aM::ib ad 24 [aa]::H):=m.fr 7
          have⟨d5,d6,hd⟩:=bind_some hd
          refine AL f Z call11 (Wk.r0 m bw bx d6) λd7 d8 d9 w ea m eb a f=> ?_
          obtain⟨ec,ed,rfl,rfl,ee,ef⟩:=eb
          have ac:=rd2 ea ac
          have d3:=od1 ea d3
          have d4:=od2 ea d4
          have aN:=od1 ea aN
          have aO:=Ow.mono (RSl.mono (RI.mono _)) ea aO
          have aP:=od1 ea aP
          have aQ:=Ow.mono (RSl.mono (RI.mono _)) ea aQ
          refine Ac f Z λa f=>Ay ?_
          refine Ac f Z λa f=>Ay ?_
          refine AB 7 0 (ds:=[(iv bc.1),bm,bo]) m Cv f Z Z Z Z Z λa f=>Ab f Z λa f=> ?_
          have⟨eg,eh,hd⟩:=bind_some hd
          refine AL f Z call12 (Ow.lendCall (RI.mono _) 2 d3 m Z (λei ej m ek=>(Ow2.lendCall (RI.mono _) 2 (od2 ej d4) m Z (λel em m en=>Wk.E m (rd1 em ek) en eh) (λ_ _ _ _ h=>h))) (λ_ _ _ _ h=>h)) λeo ep eq w er m es a f=> ?_
          obtain⟨rfl,rfl⟩:=es
          have ac:=rd2 er ac
          have ee:=od1 er ee
          have ef:=od2 er ef
          have d3:=od1 er d3
          have d4:=od2 er d4
          have aN:=od1 er aN
          have aO:=Ow.mono (RSl.mono (RI.mono _)) er aO
          have aP:=od1 er aP
          have aQ:=Ow.mono (RSl.mono (RI.mono _)) er aQ
          refine Ac f Z λa f=>Aa (Ag (Ae ?_))
          refine Ab f Z λa f=>Ai f Z Z AE λa f=>Aa ?_
          rcases Af hd with⟨et,hd⟩|⟨et,hd⟩
          ·refine Al f Z et ?_
           refine Ae ?_
           refine Ac f Z λa f=>Aa ?_
           refine Aq ?_
           have m:Mem W ep w H:=Mem.drop (H':=[ec,ed,d1,d2,c0,cy,ib bA 28 [(iv bc.2.2.2.1),bq,bs],ib bz 28 [(iv bc.1),bm,bo],ib bb 31 [a8],ib aS 28 [(iv ay.2.2.2.1),aJ,aL],ib aR 28 [(iv ay.1),aF,aH],aG,aI,aK,aM,ib ad 24 [aa]]) m
           obtain rfl:=sj hd
           exact⟨[(.bool false)],f.g Z,f.d,_,[],(gt ah (gt ao (gt aw (gt aD (gt aY (gt bk (gt bS (gt ch (gt ck (gt cn (gt cv (gt cB (gt cO (gt cR (gt cY (gt dq (gt dP (gt dS (gt dZ (gt ea er)))))))))))))))))))),m,Z,Z⟩
          ·refine Ah f Z et ?_
           refine Am ?_
           refine Ae ?_
           refine AB 6 0 (ds:=[(iv bc.2.2.2.1),bq,bs]) m Cv f Z Z Z Z Z λa f=>Ab f Z λa f=> ?_
           have⟨eu,ev,hd⟩:=bind_some hd
           refine AL f Z call12 (Ow.lendCall (RI.mono _) 0 ee m Z (λew ex m ey=>(Ow2.lendCall (RI.mono _) 0 (od2 ex ef) m Z (λez eA m eB=>Wk.E m (rd1 eA ey) eB ev) (λ_ _ _ _ h=>h))) (λ_ _ _ _ h=>h)) λeC eD eE w eF m eG a f=> ?_
           obtain⟨rfl,rfl⟩:=eG
           have ac:=rd2 eF ac
           have ee:=od1 eF ee
           have ef:=od2 eF ef
           have d3:=od1 eF d3
           have d4:=od2 eF d4
           have aN:=od1 eF aN
           have aO:=Ow.mono (RSl.mono (RI.mono _)) eF aO
           have aP:=od1 eF aP
           have aQ:=Ow.mono (RSl.mono (RI.mono _)) eF aQ
           refine Ac f Z λa f=>Aa (Ag (Ae ?_))
           refine Ab f Z λa f=>Ai f Z Z AE λa f=>Aa ?_
           rcases Af hd with⟨eH,hd⟩|⟨eH,hd⟩
           ·refine Al f Z eH ?_
            refine Ae ?_
            refine Ac f Z λa f=>Aa ?_
            refine Aq ?_
            have m:Mem W eD w H:=Mem.drop (H':=[ec,ed,d1,d2,c0,cy,ib bA 28 [(iv bc.2.2.2.1),bq,bs],ib bz 28 [(iv bc.1),bm,bo],ib bb 31 [a8],ib aS 28 [(iv ay.2.2.2.1),aJ,aL],ib aR 28 [(iv ay.1),aF,aH],aG,aI,aK,aM,ib ad 24 [aa]]) m
            obtain rfl:=sj hd
            exact⟨[(.bool false)],f.g Z,f.d,_,[],(gt ah (gt ao (gt aw (gt aD (gt aY (gt bk (gt bS (gt ch (gt ck (gt cn (gt cv (gt cB (gt cO (gt cR (gt cY (gt dq (gt dP (gt dS (gt dZ (gt ea (gt er eF))))))))))))))))))))),m,Z,Z⟩
           ·refine Ah f Z eH ?_
            refine Am ?_
            refine Ag (Ae ?_)
            refine Ab f Z λa f=>Ab f Z λa f=>Ai f Z Z B8 λa f=>Aa ?_
            rcases Af hd with⟨eI,hd⟩|⟨eI,hd⟩
            ·refine Al f Z eI ?_
             refine Ae ?_
             refine Ac f Z λa f=>Aa ?_
             refine Aq ?_
             have m:Mem W eD w H:=Mem.drop (H':=[ec,ed,d1,d2,c0,cy,ib bA 28 [(iv bc.2.2.2.1),bq,bs],ib bz 28 [(iv bc.1),bm,bo],ib bb 31 [a8],ib aS 28 [(iv ay.2.2.2.1),aJ,aL],ib aR 28 [(iv ay.1),aF,aH],aG,aI,aK,aM,ib ad 24 [aa]]) m
             obtain rfl:=sj hd
             exact⟨[(.bool false)],f.g Z,f.d,_,[],(gt ah (gt ao (gt aw (gt aD (gt aY (gt bk (gt bS (gt ch (gt ck (gt cn (gt cv (gt cB (gt cO (gt cR (gt cY (gt dq (gt dP (gt dS (gt dZ (gt ea (gt er eF))))))))))))))))))))),m,Z,Z⟩
            ·refine Ah f Z eI ?_
             refine Am ?_
             refine Ae ?_
             refine AB 15 0 (ds:=[aa]) m Ag24 f Z Z Z Z Z λa f=> ?_
             have⟨eJ,eK,hd⟩:=bind_some hd
             refine AL f Z call6 (Wk.F m ac eK) λeL eM eN w eO m eP a f=> ?_
             obtain⟨eQ,eR,rfl,rfl,eS⟩:=eP
             have ee:=od1 eO ee
             have ef:=od2 eO ef
             have d3:=od1 eO d3
             have d4:=od2 eO d4
             have aN:=od1 eO aN
             have aO:=Ow.mono (RSl.mono (RI.mono _)) eO aO
             have aP:=od1 eO aP
             have aQ:=Ow.mono (RSl.mono (RI.mono _)) eO aQ
             have⟨eT,eU,hd⟩:=bind_some hd
             refine AL f Z call7 (Ow2.lendCall (RI.mono _) 0 eS m Z (λeV eW m eX=>Wk.t0 hW m eX eU) (λ_ G' _ _ ⟨a0,a1,a2,a3,a4,a5,a6,a7,e1,e2,o0,o1,o2,o3⟩=>⟨a0,a1,a2,a3,a4,a5,a6,a7,e1,e2,Ow.free (RI.free _) G' o0,Ow2.free (RI.free _) G' o1,Ow.free (RI.free _) G' o2,Ow2.free (RI.free _) G' o3⟩)) λeY eZ e0 w e3 m e4 a f=> ?_
             obtain⟨e5,e6,e7,e8,e9,fa,fb,fc,rfl,rfl,fd,fe,ff,fg⟩:=e4
             have ee:=od1 e3 ee
             have ef:=od2 e3 ef
             have d3:=od1 e3 d3
             have d4:=od2 e3 d4
             have aN:=od1 e3 aN
             have aO:=Ow.mono (RSl.mono (RI.mono _)) e3 aO
             have aP:=od1 e3 aP
             have aQ:=Ow.mono (RSl.mono (RI.mono _)) e3 aQ
             refine Ab f Z λa f=>l_o f (A9 (f.e Z) Z) λa f=>l_o f (A9 (f.e Z) Z) λa f=>l_o f (A9 (f.e Z) Z) λa f=>Bm (cs:=[(iv 0),sn,sn]) zeroValue28 m f Z Z λfh w a m f=>Bm (cs:=[(iv 0),sn,sn]) zeroValue28 m f Z Z λfi w a m f=>Az 1 0 (ds:=[(iv eT.1),e5,e7]) m sizeOf28 f Z Z Z (An Z (An (Ow.one1 2 m fd Z) (An (Ow2.one1 3 m fe Z) AK))) Z (lb Z) Z λw m=>Az 0 0 (ds:=[(iv eT.2.2.2.1),e9,fb]) m sizeOf28 f Z Z Z (An Z (An (Ow.one1 4 m ff Z) (An (Ow2.one1 5 m fg Z) AK))) Z (lb Z) Z λw m=>Ac f Z λa f=>Aa (Ag (Ae ?_))
             refine AB 1 0 (ds:=[(iv eT.1),e5,e7]) m Cv f Z Z Z Z Z λa f=>AB 17 0 (ds:=[(iv ay.1),aF,aH]) m Cv f Z Z Z Z Z λa f=> ?_
             have⟨fj,fk,hd⟩:=bind_some hd
             refine AL f Z call8 (Ow.lendCall (RI.mono _) 2 fd m Z (λfl fm m fo=>(Ow2.lendCall (RI.mono _) 2 (od2 fm fe) m Z (λfp fq m fs=>(Ow.lendCall (RI.mono _) 16 (od1 fq (od1 fm aN)) m Z (λft fu m fv=>(Ow.lendCall (RSl.mono (RI.mono _)) 16 (Ow.mono (RSl.mono (RI.mono _)) fu (Ow.mono (RSl.mono (RI.mono _)) fq (Ow.mono (RSl.mono (RI.mono _)) fm aO))) m Z (λfw fx m fy=>Wk.v m (rd1 fx (rd1 fu (rd1 fq fo))) (rd2 fx (rd2 fu fs)) (rd1 fx fv) fy fk) (λ_ _ _ _ h=>h))) (λ_ _ _ _ h=>h))) (λ_ _ _ _ h=>h))) (λ_ _ _ _ h=>h)) λfz fA fB w fC m fD a f=> ?_
             obtain⟨rfl,rfl⟩:=fD
             have ff:=od1 fC ff
             have fg:=od2 fC fg
             have ee:=od1 fC ee
             have ef:=od2 fC ef
             have d3:=od1 fC d3
             have d4:=od2 fC d4
             have aP:=od1 fC aP
             have aQ:=Ow.mono (RSl.mono (RI.mono _)) fC aQ
             refine l_o f (Bv (f.e Z)) λa f=>Ab f Z λa f=> ?_
             have⟨fE,fF,hd⟩:=bind_some hd
             refine BH 5 (λa w=>∃fG,GLe fA fG∧Mem W fG w (ib fi 28 [(iv eT.2.2.2.1),e9,fb]::ib fh 28 [(iv eT.1),e5,e7]::e6::e8::fa::fc::eR::ec::ed::d1::d2::c0::cy::ib bA 28 [(iv bc.2.2.2.1),bq,bs]::ib bz 28 [(iv bc.1),bm,bo]::ib bb 31 [a8]::ib aS 28 [(iv ay.2.2.2.1),aJ,aL]::ib aR 28 [(iv ay.1),aF,aH]::aG::aI::aK::aM::ib ad 24 [aa]::H)∧Fr a 133 [(0,(.agg #[aa])),(1,(pb ad)),(3,(iv ae)),(4,(pb aR)),(5,(pb aS)),(6,(.bool ay.2.2.2.2.2.2)),(7,(pb bb)),(8,(pb bz)),(9,(pb bA)),(10,(.bool bc.2.2.2.2.2.2)),(11,(iv cT.1)),(12,(iv d5.1)),(13,(iv eu)),(14,(pb fh)),(15,(pb fi)),(16,(.bool eT.2.2.2.2.2.2)),(105,(.agg #[(iv eT.1),e5,e7])),(106,(.agg #[(iv ay.1),aF,aH])),(107,(.bool fj)),(108,(.bool (!fj))),(109,(.bool (!fj))),(114,(.bool fE))]) ?_ ?_
             ·rcases Af fF with⟨fH,fF⟩|⟨fH,fF⟩
              ·refine AG f fH λa f=> ?_
               refine AG f fH λa f=>AG f fH λa f=>AG f fH λa f=>l_o f (A4 (f.e Z) fH (f.e Z)) λa f=> ?_
               obtain rfl:=sj fF
               exact⟨_,gr,m,f.k Z⟩
              ·refine AF f fH ?_
               refine AB 0 0 (ds:=[(iv eT.2.2.2.1),e9,fb]) m Cv f Z Z Z Z Z λa f=>AF f fH ?_
               refine AB 16 0 (ds:=[(iv ay.2.2.2.1),aJ,aL]) m Cv f Z Z Z Z Z λa f=>AF f fH ?_
               have⟨fI,fJ,fF⟩:=bind_some fF
               refine AL f Z call8 (Ow.lendCall (RI.mono _) 4 ff m Z (λfK fL m fM=>(Ow2.lendCall (RI.mono _) 4 (od2 fL fg) m Z (λfN fO m fP=>(Ow.lendCall (RI.mono _) 18 (od1 fO (od1 fL aP)) m Z (λfQ fR m fS=>(Ow.lendCall (RSl.mono (RI.mono _)) 18 (Ow.mono (RSl.mono (RI.mono _)) fR (Ow.mono (RSl.mono (RI.mono _)) fO (Ow.mono (RSl.mono (RI.mono _)) fL aQ))) m Z (λfT fU m fV=>Wk.v m (rd1 fU (rd1 fR (rd1 fO fM))) (rd2 fU (rd2 fR fP)) (rd1 fU fS) fV fJ) (λ_ _ _ _ h=>h))) (λ_ _ _ _ h=>h))) (λ_ _ _ _ h=>h))) (λ_ _ _ _ h=>h)) λfW fX fY w fZ m f0 a f=> ?_
               obtain⟨rfl,rfl⟩:=f0
               refine AF f fH ?_
               refine l_o f (Bv (f.e Z)) λa f=>l_o f (A5 (f.e Z) fH (f.e Z)) λa f=> ?_
               obtain rfl:=sj fF
               exact⟨_,fZ,m,f.k Z⟩
             ·rintro a w ⟨fG,f1,m,f⟩
              have ee:=od1 f1 ee
              have ef:=od2 f1 ef
              have d3:=od1 f1 d3
              have d4:=od2 f1 d4
              refine Ab f Z λa f=> ?_
              refine BH 4 (λa w=>∃f2,GLe fG f2∧Mem W f2 w (ib fi 28 [(iv eT.2.2.2.1),e9,fb]::ib fh 28 [(iv eT.1),e5,e7]::e6::e8::fa::fc::eR::ec::ed::d1::d2::c0::cy::ib bA 28 [(iv bc.2.2.2.1),bq,bs]::ib bz 28 [(iv bc.1),bm,bo]::ib bb 31 [a8]::ib aS 28 [(iv ay.2.2.2.1),aJ,aL]::ib aR 28 [(iv ay.1),aF,aH]::aG::aI::aK::aM::ib ad 24 [aa]::H)∧Fr a 133 [(0,(.agg #[aa])),(1,(pb ad)),(3,(iv ae)),(4,(pb aR)),(5,(pb aS)),(6,(.bool ay.2.2.2.2.2.2)),(7,(pb bb)),(8,(pb bz)),(9,(pb bA)),(10,(.bool bc.2.2.2.2.2.2)),(11,(iv cT.1)),(12,(iv d5.1)),(13,(iv eu)),(14,(pb fh)),(15,(pb fi)),(16,(.bool eT.2.2.2.2.2.2)),(105,(.agg #[(iv eT.1),e5,e7])),(106,(.agg #[(iv ay.1),aF,aH])),(107,(.bool fj)),(108,(.bool (!fj))),(109,(.bool (!fj))),(114,(.bool fE)),(115,(.bool fE)),(119,(.bool (fE||(eT.2.2.2.2.2.2 !=ay.2.2.2.2.2.2))))]) ?_ ?_
              ·rcases Bool.eq_false_or_eq_true fE with f3|f3
               ·refine AG f f3 λa f=> ?_
                refine AG f f3 λa f=>AG f f3 λa f=>l_o f (A4 (f.e Z) f3 (f.e Z)) λa f=> ?_
                exact⟨_,gr,m,f.weak ⟨Z,Z,Z,Z,Z,Z,Z,Z,Z,Z,Z,Z,Z,Z,Z,Z,Z,Z,Z,Z,Z,Z,Z,by rw[f3];rfl,trivial⟩⟩
               ·refine AF f f3 ?_
                refine Ab f Z λa f=>AF f f3 ?_
                refine Ab f Z λa f=>AF f f3 ?_
                refine l_o f (EM (f.e Z) (f.e Z) underlying4) λa f=>l_o f (A5 (f.e Z) f3 (f.e Z)) λa f=> ?_
                exact⟨_,gr,m,f.weak ⟨Z,Z,Z,Z,Z,Z,Z,Z,Z,Z,Z,Z,Z,Z,Z,Z,Z,Z,Z,Z,Z,Z,Z,by rw[f3];rfl,trivial⟩⟩
              ·rintro a w ⟨f2,f4,m,f⟩
               have ee:=od1 f4 ee
               have ef:=od2 f4 ef
               have d3:=od1 f4 d3
               have d4:=od2 f4 d4
               refine Aa ?_
               rcases Af hd with⟨f5,hd⟩|⟨f5,hd⟩
               ·refine Al f Z f5 ?_
                refine Ae ?_
                refine Ac f Z λa f=>Aa ?_
                refine Aq ?_
                have m:Mem W f2 w H:=Mem.drop (H':=[ib fi 28 [(iv eT.2.2.2.1),e9,fb],ib fh 28 [(iv eT.1),e5,e7],e6,e8,fa,fc,eR,ec,ed,d1,d2,c0,cy,ib bA 28 [(iv bc.2.2.2.1),bq,bs],ib bz 28 [(iv bc.1),bm,bo],ib bb 31 [a8],ib aS 28 [(iv ay.2.2.2.1),aJ,aL],ib aR 28 [(iv ay.1),aF,aH],aG,aI,aK,aM,ib ad 24 [aa]]) m
                obtain rfl:=sj hd
                exact⟨[(.bool false)],f.g Z,f.d,_,[],(gt ah (gt ao (gt aw (gt aD (gt aY (gt bk (gt bS (gt ch (gt ck (gt cn (gt cv (gt cB (gt cO (gt cR (gt cY (gt dq (gt dP (gt dS (gt dZ (gt ea (gt er (gt eF (gt eO (gt e3 (gt fC (gt f1 f4)))))))))))))))))))))))))),m,Z,Z⟩
               ·refine Ah f Z f5 ?_
                refine Am ?_
                refine Ae ?_
                refine Ac f Z λa f=>Ay ?_
                refine AB 14 0 (ds:=[(iv bc.1),bm,bo]) m Cv f Z Z Z Z Z λa f=>Ab f Z λa f=> ?_
                have⟨f6,f7,hd⟩:=bind_some hd
                refine AL f Z call12 (Ow.lendCall (RI.mono _) 9 d3 m Z (λf8 f9 m ga=>(Ow2.lendCall (RI.mono _) 9 (od2 f9 d4) m Z (λgb gc m gd=>Wk.E m (rd1 gc ga) gd f7) (λ_ _ _ _ h=>h))) (λ_ _ _ _ h=>h)) λge gf gg w gh m gi a f=> ?_
                obtain⟨rfl,rfl⟩:=gi
                have ee:=od1 gh ee
                have ef:=od2 gh ef
                refine Ac f Z λa f=>Aa (Ag (Ae ?_))
                refine Ab f Z λa f=>Ai f Z Z AE λa f=>Aa ?_
                rcases Af hd with⟨gj,hd⟩|⟨gj,hd⟩
                ·refine Al f Z gj ?_
                 refine Ae ?_
                 refine Ac f Z λa f=>Aa ?_
                 refine Aq ?_
                 have m:Mem W gf w H:=Mem.drop (H':=[ib fi 28 [(iv eT.2.2.2.1),e9,fb],ib fh 28 [(iv eT.1),e5,e7],e6,e8,fa,fc,eR,ec,ed,d1,d2,c0,cy,ib bA 28 [(iv bc.2.2.2.1),bq,bs],ib bz 28 [(iv bc.1),bm,bo],ib bb 31 [a8],ib aS 28 [(iv ay.2.2.2.1),aJ,aL],ib aR 28 [(iv ay.1),aF,aH],aG,aI,aK,aM,ib ad 24 [aa]]) m
                 obtain rfl:=sj hd
                 exact⟨[(.bool false)],f.g Z,f.d,_,[],(gt ah (gt ao (gt aw (gt aD (gt aY (gt bk (gt bS (gt ch (gt ck (gt cn (gt cv (gt cB (gt cO (gt cR (gt cY (gt dq (gt dP (gt dS (gt dZ (gt ea (gt er (gt eF (gt eO (gt e3 (gt fC (gt f1 (gt f4 gh))))))))))))))))))))))))))),m,Z,Z⟩
                ·refine Ah f Z gj ?_
                 refine Am ?_
                 refine Ae ?_
                 refine AB 13 0 (ds:=[(iv bc.2.2.2.1),bq,bs]) m Cv f Z Z Z Z Z λa f=>Ab f Z λa f=> ?_
                 have⟨gk,gl,hd⟩:=bind_some hd
                 refine AL f Z call12 (Ow.lendCall (RI.mono _) 7 ee m Z (λgm gn m go=>(Ow2.lendCall (RI.mono _) 7 (od2 gn ef) m Z (λgp gq m gs=>Wk.E m (rd1 gq go) gs gl) (λ_ _ _ _ h=>h))) (λ_ _ _ _ h=>h)) λgu gv gw w gx m gy a f=> ?_
                 obtain⟨rfl,rfl⟩:=gy
                 refine Ac f Z λa f=>Aa (Ag (Ae ?_))
                 refine Ab f Z λa f=>Ai f Z Z AE λa f=>Aa ?_
                 rcases Af hd with⟨gz,hd⟩|⟨gz,hd⟩
                 ·refine Al f Z gz ?_
                  refine Ae ?_
                  refine Ac f Z λa f=>Aa ?_
                  refine Aq ?_
                  have m:Mem W gv w H:=Mem.drop (H':=[ib fi 28 [(iv eT.2.2.2.1),e9,fb],ib fh 28 [(iv eT.1),e5,e7],e6,e8,fa,fc,eR,ec,ed,d1,d2,c0,cy,ib bA 28 [(iv bc.2.2.2.1),bq,bs],ib bz 28 [(iv bc.1),bm,bo],ib bb 31 [a8],ib aS 28 [(iv ay.2.2.2.1),aJ,aL],ib aR 28 [(iv ay.1),aF,aH],aG,aI,aK,aM,ib ad 24 [aa]]) m
                  obtain rfl:=sj hd
                  exact⟨[(.bool false)],f.g Z,f.d,_,[],(gt ah (gt ao (gt aw (gt aD (gt aY (gt bk (gt bS (gt ch (gt ck (gt cn (gt cv (gt cB (gt cO (gt cR (gt cY (gt dq (gt dP (gt dS (gt dZ (gt ea (gt er (gt eF (gt eO (gt e3 (gt fC (gt f1 (gt f4 (gt gh gx)))))))))))))))))))))))))))),m,Z,Z⟩
                 ·refine Ah f Z gz ?_
                  refine Am ?_
                  refine Ag (Ae ?_)
                  refine Ab f Z λa f=>Ab f Z λa f=>Ai f Z Z B8 λa f=>Aa ?_
                  rcases Af hd with⟨gA,hd⟩|⟨gA,hd⟩
                  ·refine Al f Z gA ?_
                   refine Ae ?_
                   refine Ac f Z λa f=>Aa ?_
                   refine Aq ?_
                   have m:Mem W gv w H:=Mem.drop (H':=[ib fi 28 [(iv eT.2.2.2.1),e9,fb],ib fh 28 [(iv eT.1),e5,e7],e6,e8,fa,fc,eR,ec,ed,d1,d2,c0,cy,ib bA 28 [(iv bc.2.2.2.1),bq,bs],ib bz 28 [(iv bc.1),bm,bo],ib bb 31 [a8],ib aS 28 [(iv ay.2.2.2.1),aJ,aL],ib aR 28 [(iv ay.1),aF,aH],aG,aI,aK,aM,ib ad 24 [aa]]) m
                   obtain rfl:=sj hd
                   exact⟨[(.bool false)],f.g Z,f.d,_,[],(gt ah (gt ao (gt aw (gt aD (gt aY (gt bk (gt bS (gt ch (gt ck (gt cn (gt cv (gt cB (gt cO (gt cR (gt cY (gt dq (gt dP (gt dS (gt dZ (gt ea (gt er (gt eF (gt eO (gt e3 (gt fC (gt f1 (gt f4 (gt gh gx)))))))))))))))))))))))))))),m,Z,Z⟩
                  ·refine Ah f Z gA ?_
                   refine Am ?_
                   refine Ae ?_
                   refine Ac f Z λa f=>Aa ?_
                   refine Aq ?_
                   have m:Mem W gv w H:=Mem.drop (H':=[ib fi 28 [(iv eT.2.2.2.1),e9,fb],ib fh 28 [(iv eT.1),e5,e7],e6,e8,fa,fc,eR,ec,ed,d1,d2,c0,cy,ib bA 28 [(iv bc.2.2.2.1),bq,bs],ib bz 28 [(iv bc.1),bm,bo],ib bb 31 [a8],ib aS 28 [(iv ay.2.2.2.1),aJ,aL],ib aR 28 [(iv ay.1),aF,aH],aG,aI,aK,aM,ib ad 24 [aa]]) m
                   obtain rfl:=sj hd
                   exact⟨[(.bool true)],f.g Z,f.d,_,[],(gt ah (gt ao (gt aw (gt aD (gt aY (gt bk (gt bS (gt ch (gt ck (gt cn (gt cv (gt cB (gt cO (gt cR (gt cY (gt dq (gt dP (gt dS (gt dZ (gt ea (gt er (gt eF (gt eO (gt e3 (gt fC (gt f1 (gt f4 (gt gh gx)))))))))))))))))))))))))))),m,Z,Z⟩
end Go.Proofs.YtkoehcencogjpaaGreatDoor

namespace Go.Sx
end Go.Sx



namespace Go.Sx
def Sh {α:Type}(xs:List α):Prop:=xs.length≤4294967296
theorem FB (a b c:Int):D.d a b c=some (decide (b≤a)&&decide (a≤c)):=rfl
theorem inRange_eq (a b c:Int):D.Z1 a b c=some (decide (b≤a)&&decide (a≤c)):=rfl
theorem any_beq (xs:LI)(n:Int):xs.any (λx=>x==n)=decide (n∈xs):=by
 rw[Bool.eq_iff_iff,List.any_eq_true];simp
theorem Cb (xs:LI)(n:Int)(h:Sh xs):D.c xs n=some (decide (n∈xs)):=by
 unfold Sh at h
 unfold D.c
 refine(Ej xs.length (λi=>xs.getD i 0==n) true (λi hi=> ?_) ?_ rfl rfl).trans ?_
 ·simp only[dlt hi,cond_true,Au hi,bs,wi' hi (by omega),AD hi]
  cases xs[i]==n<;>rfl
 ·simp only[Ba,cond_false]
 ·rw[EB xs (λx=>x==n) _ (λi hi=>by rw[AD hi]),any_beq]
theorem FT (xs:LI)(n:Int)(h:Sh xs):D.E0 xs n=some (decide (n∈xs)):=by
 unfold Sh at h
 unfold D.E0 D.f2
 have e:As (σ:=Int) (ρ:=(Unit) ⊕ (Int)) (fun(x_26:Int)=>cond (decide (x_26<(xs.length:Int))) ((idx xs x_26).bind λe_39=>cond (n==e_39) (some (.inr (.inr x_26))) (some (.inl (IntKind.i64.wrap (x_26+1))))) (some (.inr (.inl ())))) 0=
   some (((List.range xs.length).findSome? (λi=>if xs.getD i 0==n then some (Sum.inr (i:Int)) else none)).getD (.inl ())):=by
  refine CW xs.length _ _ (λi hi=> ?_) ?_
  ·simp only[dlt hi,cond_true,Au hi,bs,wi' hi (by omega),AD hi]
   rw[show (n==xs[i])=(xs[i]==n) from Bool.beq_comm ..]
   cases xs[i]==n<;>rfl
  ·simp only[Ba,cond_false]
 rw[e,bs]
 cases hf:(List.range xs.length).findSome? (λi=>if xs.getD i 0==n then some (Sum.inr (i:Int):Unit ⊕ Int) else none) with
 |none=>
  have:n∉xs:=λhm=>by
   obtain⟨i,hi,e⟩:=List.getElem_of_mem hm
   have:=(List.findSome?_eq_none_iff.1 hf) i (List.mem_range.2 hi)
   rw[AD hi,e] at this
   simp at this
  simp[this]
 |some r=>
  obtain⟨i,hi,hr⟩:=List.exists_of_findSome?_eq_some hf
  have hi':=List.mem_range.1 hi
  rw[AD hi'] at hr
  split at hr
  ·rename_i hc
   cases hr
   have:n∈xs:=by rw[←(beq_iff_eq.1 hc)];exact List.getElem_mem _
   simp[this]
  ·cases hr
def SetOf (xs:LI)(n:Int):Prop:=Inc xs∧∀x∈xs,0≤x∧x<n
theorem SetOf.len :∀{xs:LI} {n a:Int},Inc xs→(∀x∈xs,a≤x∧x<n)→xs=[]∨(xs.length:Int)≤n-a
 |[],_,_,_,_=> .inl rfl
 |x::xs,n,a,h,hr=>by
  right
  have h':=List.pairwise_cons.1 h
  have hx:=hr x (by simp)
  rcases SetOf.len (a:=x+1) (n:=n) h'.2 (λy hy=>⟨by have:=h'.1 y hy;omega,(hr y (by simp[hy])).2⟩) with e|e
  ·subst e;simp;omega
  ·simp;omega
theorem SetOf.length_le {xs:LI}{n:Int}(h:SetOf xs n)(hn:0≤n):(xs.length:Int)≤n:=by
 rcases SetOf.len h.1 h.2 with e|e
 ·subst e;simpa using hn
 ·omega
theorem inc_iff (xs:LI):Inc xs↔∀i (hi:i+1<xs.length),xs[i]<xs[i+1]:=by
 unfold Inc
 constructor
 ·intro h i hi
  exact List.pairwise_iff_getElem.1 h i (i+1) (by omega) hi (by omega)
 ·intro h
  rw[List.pairwise_iff_getElem]
  intro i j hi hj hij
  have key:∀k,∀hk:i+k+1<xs.length,xs[i]<xs[i+k+1]:=by
   intro k
   induction k with
   |zero=>intro hk;exact h i hk
   |succ k ih=>intro hk;have:=ih (by omega);have:=h (i+k+1) hk;exact Int.lt_trans (ih (by omega)) this
  obtain⟨k,rfl⟩:∃k,j=i+k+1:=⟨j-i-1,by omega⟩
  exact key k hj
def CN (xs:LI)(n:Int):Bool:=(List.range xs.length).all λi=>(decide (0≤xs.getD i 0)&&decide (xs.getD i 0≤n-1))&& !(decide (0<i)&&decide (xs.getD i 0≤xs.getD (i-1) 0))
theorem Ds (xs:LI)(n:Int):CN xs n=true↔SetOf xs n:=by
 unfold CN SetOf
 rw[CZ,inc_iff]
 constructor
 ·intro h
  refine⟨λi hi=> ?_,λx hx=> ?_⟩
  ·have:=h (i+1) hi
   simp[hi,show i<xs.length by omega] at this
   omega
  ·obtain⟨i,hi,rfl⟩:=List.getElem_of_mem hx
   have:=h i hi
   simp[hi] at this
   omega
 ·rintro⟨h1,h2⟩ i hi
  have h3:=h2 _ (List.getElem_mem hi)
  simp[hi]
  refine⟨by omega,?_⟩
  rcases Nat.eq_zero_or_pos i with h0|h0
  ·exact .inl h0
  ·right
   have:=h1 (i-1) (by omega)
   have e:i-1+1=i:=by omega
   simp only[e] at this
   have e2:xs[i-1]?.getD 0=xs[i-1]:=by rw[List.getElem?_eq_getElem (by omega)];rfl
   rw[e2];exact this
theorem increasing_eq (xs:LI)(n:Int)(h:Sh xs)(h0:0≤n)(hn:n≤4294967296):D.u1 xs n=some (CN xs n):=by
 unfold Sh at h
 unfold D.u1
 refine CE xs.length _ false (λi hi=> ?_) ?_ rfl rfl
 ·simp only[dlt hi,cond_true,Au hi,bs,wi' hi (by omega),AD hi,inRange_eq]
  rw[w64 (x:=n-1) (by omega) (by omega)]
  cases (decide (0≤xs[i])&&decide (xs[i]≤n-1))
  ·simp
  ·by_cases h0:0<i
   ·have e1:IntKind.i64.wrap ((i:Int)-1)=((i-1:Nat):Int):=by rw[w64 (by omega) (by omega)];omega
    have hd:decide ((0:Int)<(i:Int))=true:=by simp;omega
    simp only[Bool.not_true,cond_false,hd,cond_true,e1,Au (show i-1<xs.length by omega),bs,AD (show i-1<xs.length by omega),h0,decide_true,Bool.true_and]
    cases decide (xs[i]≤xs[i-1])<;>rfl
   ·have hd:decide ((0:Int)<(i:Int))=false:=by simp;omega
    simp only[Bool.not_true,cond_false,hd,bs,h0,decide_false,Bool.false_and,Bool.not_false,Bool.and_true,if_true]
 ·simp only[Ba,cond_false]
theorem EP (xs:LI)(n:Int)(h:Sh xs)(h0:0≤n)(hn:n≤4294967296):D.J xs n=some (CN xs n):=by
 have hh:=h
 unfold Sh at h
 unfold D.J
 by_cases hl:n<xs.length
 ·have:CN xs n=false:=by
   cases hb:CN xs n
   ·rfl
   ·have:=((Ds xs n).1 hb).length_le h0;omega
  simp[hl,this]
 ·simp only[hl,decide_false,cond_false]
  refine CE xs.length _ false (λi hi=> ?_) ?_ rfl rfl
  ·simp only[dlt hi,cond_true,Au hi,bs,wi' hi (by omega),AD hi,FB]
   rw[w64 (x:=n-1) (by omega) (by omega)]
   cases (decide (0≤xs[i])&&decide (xs[i]≤n-1))
   ·simp
   ·by_cases h0:0<i
    ·have e1:IntKind.i64.wrap ((i:Int)-1)=((i-1:Nat):Int):=by rw[w64 (by omega) (by omega)];omega
     have hd:decide ((0:Int)<(i:Int))=true:=by simp;omega
     simp only[Bool.not_true,cond_false,hd,cond_true,e1,Au (show i-1<xs.length by omega),bs,AD (show i-1<xs.length by omega),h0,decide_true,Bool.true_and]
     cases decide (xs[i]≤xs[i-1])<;>rfl
    ·have hd:decide ((0:Int)<(i:Int))=false:=by simp;omega
     simp only[Bool.not_true,cond_false,hd,bs,h0,decide_false,Bool.false_and,Bool.not_false,Bool.and_true,if_true]
  ·simp only[Ba,cond_false]
def row (g:LL)(v:Nat):LI:=g.getD v []
theorem row_eq {g:LL}{v:Nat}(h:v<g.length):row g v=g[v]:=AD h _
def adj (g:LL)(u v:Nat):Prop:=(v:Int)∈row g u
structure GOk (g:LL):Prop where
 n1:1≤g.length
 n16:g.length≤16
 rows:∀v,v<g.length→SetOf (row g v) g.length
 irr:∀v,v<g.length→¬adj g v v
 sym:∀u v,u<g.length→adj g u v→adj g v u
theorem GOk.mem {g:LL}(h:GOk g){u:Nat}(hu:u<g.length){x:Int}(hx:x∈row g u):∃v:Nat,x=v∧v<g.length∧adj g u v:=by
 have:=(h.rows u hu).2 x hx
 refine⟨x.toNat,by omega,by omega,?_⟩
 unfold adj
 rw[show ((x.toNat:Nat):Int)=x by omega];exact hx
theorem GOk.row_len {g:LL}(h:GOk g){u:Nat}(hu:u<g.length):(row g u).length≤16:=by
 have:=(h.rows u hu).length_le (by omega)
 have:=h.n16
 omega
theorem GOk.lt {g:LL}(h:GOk g){u v:Nat}(hu:u<g.length)(ha:adj g u v):v<g.length:=by
 obtain⟨w,h1,h2,_⟩:=h.mem hu ha
 omega
def Sh2 (g:LL):Prop:=Sh g∧∀r∈g,Sh r
theorem Sh2.row {g:LL}(h:Sh2 g){v:Nat}(hv:v<g.length):Sh (row g v):=by
 rw[row_eq hv];exact h.2 _ (List.getElem_mem hv)
theorem Cj {g:LL}{v:Nat}(h:v<g.length):idx g (v:Int)=some (row g v):=by rw[row_eq h,Au h]
def gB1 (g:LL):Bool:=(List.range g.length).all λv=>CN (row g v) g.length&& !decide ((v:Int)∈row g v)
def gB2 (g:LL):Bool:=(List.range g.length).all λv=>(row g v).all λx=>decide ((v:Int)∈row g x.toNat)
def gB (g:LL):Bool:=decide (1≤g.length)&&decide (g.length≤16)&&gB1 g&&gB2 g
theorem DC (g:LL):gB g=true↔GOk g:=by
 unfold gB gB1 gB2
 simp only[Bool.and_eq_true,decide_eq_true_eq,Ds,Bool.not_eq_true',decide_eq_false_iff_not,List.all_eq_true,List.mem_range]
 constructor
 ·rintro⟨⟨⟨h1,h2⟩,h3⟩,h4⟩
  refine⟨h1,h2,λv hv=>(h3 v hv).1,λv hv=>(h3 v hv).2,λu v hu ha=> ?_⟩
  have:=h4 u hu v ha
  unfold adj
  simpa using this
 ·intro h
  refine⟨⟨⟨h.n1,h.n16⟩,λv hv=>⟨h.rows v hv,h.irr v hv⟩⟩,λv hv x hx=> ?_⟩
  obtain⟨u,rfl,hu,ha⟩:=h.mem hv hx
  have:=h.sym v u hv ha
  simpa [adj] using this
theorem CA (g:LL)(h:Sh2 g):D.I g=some (gB g):=by
 have hl:g.length≤4294967296:=h.1
 unfold D.I D.a
 simp only[bs,FB]
 by_cases hn:1≤g.length∧g.length≤16
 ·have e:(decide ((1:Int)≤(g.length:Int))&&decide ((g.length:Int)≤16))=true:=by simp;omega
  simp only[e,Bool.not_true,cond_false]
  refine(D7 g.length (λv=>CN (row g v) g.length&& !decide ((v:Int)∈row g v)) (.inl ()) (.inr false) (λv hv=> ?_) ?_).trans ?_
  rotate_left
  ·simp only[Ba,cond_false]
  ·show cond (gB1 g) _ _=_
   have e4:gB g=(gB1 g&&gB2 g):=by unfold gB;simp[hn.1,hn.2]
   rw[e4]
   cases hc:gB1 g with
   |false=>rfl
   |true=>
    rw[cond_true,Bool.true_and]
    refine CE g.length _ false (λv hv=> ?_) ?_ rfl rfl
    ·have hset:SetOf (row g v) g.length:=by
      have:=(CZ _ _).1 hc v hv
      simp only[Bool.and_eq_true] at this
      exact(Ds _ _).1 this.1
     simp only[dlt hv,cond_true]
     refine(D7 (row g v).length (λi=>decide ((v:Int)∈row g ((row g v).getD i 0).toNat)) (.inl ()) (.inr false) (λi hi=> ?_) ?_).trans ?_
     ·have hx:=hset.2 _ (List.getElem_mem hi)
      have e5:idx g (row g v)[i]=some (row g ((row g v)[i]).toNat):=by
       have:=Cj (g:=g) (v:=((row g v)[i]).toNat) (by omega)
       rwa [show ((((row g v)[i]).toNat:Nat):Int)=(row g v)[i] by omega] at this
      have hs:=h.row (v:=((row g v)[i]).toNat) (by omega)
      simp only[Cj hv,bs,dlt hi,cond_true,Au hi,e5,Cb _ _ hs,wi (show i<4611686018427387904 by have:=h.row hv;unfold Sh at this;omega),AD hi]
      cases decide ((v:Int)∈row g ((row g v)[i]).toNat)<;>rfl
     ·simp only[Cj hv,bs,Ba,cond_false]
     ·rw[CT (row g v) (λx=>decide ((v:Int)∈row g x.toNat)) _ (λi hi=>by rw[AD hi]),wi' hv (by omega)]
      cases (row g v).all λx=>decide ((v:Int)∈row g x.toNat)<;>rfl
    ·simp only[Ba,cond_false]
  ·simp only[dlt hv,cond_true,Cj hv,bs,EP _ _ (h.row hv) (show (0:Int)≤(g.length:Int) by omega) (by omega),Cb _ _ (h.row hv),wi' hv (by omega)]
   cases CN (row g v) g.length
   ·rfl
   ·cases decide ((v:Int)∈row g v)<;>rfl
 ·have e:(decide ((1:Int)≤(g.length:Int))&&decide ((g.length:Int)≤16))=false:=by
   rw[Bool.eq_false_iff];simp;omega
  simp only[e,Bool.not_false,cond_true]
  unfold gB
  congr 1
  symm
  rw[Bool.eq_false_iff]
  simp
  omega
theorem C8 (g:LL)(h:Sh2 g):D.y0 g=some (gB g):=by
 have hl:g.length≤4294967296:=h.1
 unfold D.y0
 by_cases hn:1≤g.length∧g.length≤16
 ·have e:(decide ((g.length:Int)<(1:Int))||decide ((16:Int)<(g.length:Int)))=false:=by simp;omega
  simp only[e,cond_false]
  refine(D7 g.length (λv=>CN (row g v) g.length&& !decide ((v:Int)∈row g v)) (.inl ()) (.inr false) (λv hv=> ?_) ?_).trans ?_
  rotate_left
  ·simp only[Ba,cond_false]
  ·show cond (gB1 g) _ _=_
   have e4:gB g=(gB1 g&&gB2 g):=by unfold gB;simp[hn.1,hn.2]
   rw[e4]
   cases hc:gB1 g with
   |false=>rfl
   |true=>
    rw[cond_true,Bool.true_and]
    refine CE g.length _ false (λv hv=> ?_) ?_ rfl rfl
    ·have hset:SetOf (row g v) g.length:=by
      have:=(CZ _ _).1 hc v hv
      simp only[Bool.and_eq_true] at this
      exact(Ds _ _).1 this.1
     simp only[dlt hv,cond_true,Cj hv,bs]
     refine(D7 (row g v).length (λi=>decide ((v:Int)∈row g ((row g v).getD i 0).toNat)) (.inl ()) (.inr false) (λi hi=> ?_) ?_).trans ?_
     ·have hx:=hset.2 _ (List.getElem_mem hi)
      have e5:idx g (row g v)[i]=some (row g ((row g v)[i]).toNat):=by
       have:=Cj (g:=g) (v:=((row g v)[i]).toNat) (by omega)
       rwa [show ((((row g v)[i]).toNat:Nat):Int)=(row g v)[i] by omega] at this
      have hs:=h.row (v:=((row g v)[i]).toNat) (by omega)
      simp only[bs,dlt hi,cond_true,Au hi,e5,FT _ _ hs,wi (show i<4611686018427387904 by have:=h.row hv;unfold Sh at this;omega),AD hi]
      cases decide ((v:Int)∈row g ((row g v)[i]).toNat)<;>rfl
     ·simp only[Ba,cond_false]
     ·rw[CT (row g v) (λx=>decide ((v:Int)∈row g x.toNat)) _ (λi hi=>by rw[AD hi]),wi' hv (by omega)]
      cases (row g v).all λx=>decide ((v:Int)∈row g x.toNat)<;>rfl
    ·simp only[Ba,cond_false]
  ·simp only[dlt hv,cond_true,Cj hv,bs,increasing_eq _ _ (h.row hv) (show (0:Int)≤(g.length:Int) by omega) (by omega),FT _ _ (h.row hv),wi' hv (by omega)]
   cases CN (row g v) g.length
   ·rfl
   ·cases decide ((v:Int)∈row g v)<;>rfl
 ·have e:(decide ((g.length:Int)<(1:Int))||decide ((16:Int)<(g.length:Int)))=true:=by
   simp;omega
  simp only[e,cond_true]
  unfold gB
  congr 1
  symm
  rw[Bool.eq_false_iff]
  simp
  omega
structure OOk (g:LL)(o:LI):Prop where
 len:o.length=g.length
 rng:∀x∈o,0≤x∧x<g.length
 nd:o.Nodup
def oB (g:LL)(o:LI):Bool:=(List.range o.length).all λi=>(decide (0≤o.getD i 0)&&decide (o.getD i 0≤(g.length:Int)-1))&& !decide (o.getD i 0∈o.take i)
theorem mem_take_iff {α:Type}{l:List α}{i:Nat}{x:α}:x∈l.take i↔∃j,∃h:j<l.length,j<i∧l[j]=x:=by
 rw[List.mem_take_iff_getElem]
 constructor
 ·rintro⟨j,h,e⟩;exact⟨j,by omega,by omega,e⟩
 ·rintro⟨j,h,h2,e⟩;exact⟨j,by omega,e⟩
theorem nodup_iff {l:LI}:l.Nodup↔∀i (hi:i<l.length),l[i]∉l.take i:=by
 constructor
 ·intro h i hi hm
  obtain⟨j,hj,hji,e⟩:=mem_take_iff.1 hm
  have:=(List.pairwise_iff_getElem.1 h) j i hj hi hji
  exact this e
 ·intro h
  refine List.pairwise_iff_getElem.2 (λi j hi hj hij e=>h j hj (mem_take_iff.2 ⟨i,hi,hij,e⟩))
theorem oB_iff (g:LL)(o:LI)(hl:o.length=g.length):oB g o=true↔OOk g o:=by
 unfold oB
 rw[CZ]
 constructor
 ·intro h
  refine⟨hl,λx hx=> ?_,nodup_iff.2 λi hi=> ?_⟩
  ·obtain⟨i,hi,rfl⟩:=List.getElem_of_mem hx
   have:=h i hi
   rw[AD hi] at this
   simp at this;omega
  ·have:=h i hi
   rw[AD hi] at this
   simp at this;exact this.2
 ·intro h i hi
  have h1:=h.rng _ (List.getElem_mem hi)
  have h2:=nodup_iff.1 h.nd i hi
  rw[AD hi]
  simp[h2];omega
def ordB (g:LL)(o:LI):Bool:=decide (o.length=g.length)&&oB g o
theorem ordB_iff (g:LL)(o:LI):ordB g o=true↔OOk g o:=by
 unfold ordB
 by_cases hl:o.length=g.length
 ·simp[hl,oB_iff g o hl]
 ·simp[hl];intro h;exact hl h.len
theorem F8 (g:LL)(o:LI)(h:Sh2 g)(ho:Sh o):D.n1 g o=some (gB g&&ordB g o):=by
 have hl:g.length≤4294967296:=h.1
 have hol:o.length≤4294967296:=ho
 unfold D.n1
 rw[CA g h,bs]
 cases hg:gB g
 ·rfl
 ·have hg':=(DC g).1 hg
  simp only[cond_true]
  unfold D.j2 D.a ordB
  simp only[bs]
  by_cases hl:o.length=g.length
  ·have e:((o.length:Int) !=(g.length:Int))=false:=by simp[hl]
   simp only[e,cond_false]
   simp only[Option.bind_fun_some,hl,decide_true,Bool.true_and]
   unfold oB
   rw[←hl]
   refine CE o.length _ false (λi hi=> ?_) ?_ rfl rfl
   ·have hsh:Sh (o.take i):=by unfold Sh;rw[List.length_take];omega
    simp only[dlt hi,cond_true,Au hi,bs,wi' hi (by omega),AD hi,←hl,D.l2,D.a,FB,sliceD_pre (show i≤o.length by omega),Cb _ _ hsh]
    rw[w64 (x:=(o.length:Int)-1) (by omega) (by omega)]
    cases (decide (0≤o[i])&&decide (o[i]≤(o.length:Int)-1))
    ·rfl
    ·cases decide (o[i]∈o.take i)<;>rfl
   ·simp only[Ba,cond_false]
  ·have e:((o.length:Int) !=(g.length:Int))=true:=by simp;omega
   simp[e,hl]
theorem B2 (v:Nat):D.f (v:Int)=some (ishl .u32 1 (v:Int)):=by
 unfold D.f
 have:decide ((v:Int)<0)=false:=by simp
 rw[this];rfl
theorem impl_one_eq' {x:Int}(h:0≤x):D.f x=some (ishl .u32 1 x):=by
 have:=B2 x.toNat
 rwa [show ((x.toNat:Nat):Int)=x by omega] at this
def mk (xs:LI):Int:=xs.foldl (λs v=>ior .u32 s (ishl .u32 1 v)) 0
theorem maskOf_eq (xs:LI)(h:Sh xs)(h0:∀x∈xs,0≤x):D.z0 xs=some (mk xs):=by
 unfold Sh at h
 unfold D.z0
 refine(loop_listb xs (λs i=>(s,i)) (λs v=>ior .u32 s (ishl .u32 1 v)) (λs=>s) (λ_=>True) 0 trivial (λs i hi _=>⟨?_,trivial⟩) (λs _=> ?_)).trans rfl
 ·simp only[dlt hi,cond_true,Au hi,bs,wi' hi (by omega),impl_one_eq' (h0 _ (List.getElem_mem hi))]
 ·simp only[Ba,cond_false]
theorem Ff :∀(xs:LI) (s:Int),VS s→VS (xs.foldl (λs v=>ior .u32 s (ishl .u32 1 v)) s)
 |[],s,h=>h
 |x::xs,s,_=>Ff xs _ (VS.ior _ _)
theorem VS.mk (xs:LI):VS (mk xs):=Ff xs 0 VS.zero
theorem E2 (u:Nat):∀(xs:LI) (s:Int),VS s→(∀x∈xs,0≤x∧x<32)→has (xs.foldl (λs v=>ior .u32 s (ishl .u32 1 v)) s) u=(has s u||decide ((u:Int)∈xs))
 |[],s,_,_=>by simp
 |x::xs,s,hs,h=>by
  have hx:=h x (by simp)
  rw[List.foldl_cons,E2 u xs _ (VS.ior _ _) (λy hy=>h y (by simp[hy])),CV hs (VS.ishl _ _)]
  obtain⟨k,rfl⟩:∃k:Nat,x=k:=⟨x.toNat,by omega⟩
  rw[B3 (by omega)]
  by_cases hu:u=k
  ·subst hu;simp
  ·have:¬(u:Int)=(k:Int):=by omega
   simp[hu,this]
theorem Dc {xs:LI}(h:∀x∈xs,0≤x∧x<32)(u:Nat):has (mk xs) u=decide ((u:Int)∈xs):=by
 unfold mk;rw[E2 u xs 0 VS.zero h,Ci,Bool.false_or]
theorem GOk.mem0 {g:LL}(hg:GOk g){r:LI}(hr:r∈g):r.length≤16∧∀x∈r,0≤x∧x<g.length:=by
 obtain⟨v,hv,rfl⟩:=List.getElem_of_mem hr
 rw[←row_eq hv]
 exact⟨hg.row_len hv,(hg.rows v hv).2⟩
theorem netsOf_eq (g:LL)(hg:GOk g):D.i0 g=some (g.map mk):=by
 have h16:=hg.n16
 unfold D.i0
 refine(Ef g (λs i=>(s,i)) mk (by omega) (λs i hi _=> ?_) (λs=> ?_)).trans rfl
 ·obtain⟨h1,h2⟩:=hg.mem0 (List.getElem_mem hi)
  simp only[dlt hi,cond_true,Au hi,bs,wi' hi (by omega),maskOf_eq g[i] (by unfold Sh;omega) (λx hx=>(h2 x hx).1)]
 ·simp only[Ba,cond_false]
theorem wide_eq (xs:LI)(h:Sh xs):D.B1 xs=some xs:=by
 unfold Sh at h
 unfold D.B1
 rw[makeD_zero (by omega) (by omega),bs]
 refine(Ef xs (λs i=>(s,i)) (λx=>x) h (λs i hi _=> ?_) (λs=> ?_)).trans (by simp)
 ·simp only[dlt hi,cond_true,Au hi,bs,wi' hi (by omega)]
 ·simp only[Ba,cond_false]
theorem least_eq {s:Int}(h:VS s)(h0:s≠0):∃k:Nat,k<32∧D.O s=some (k:Int)∧has s k=true∧(∀v,v<k→has s v=false)∧
  (∀v,has (iand .u32 s (IntKind.u32.wrap (s-1))) v=(has s v&& !decide (v=k))):=by
 obtain⟨k,h1,h2,h3,h4,h5⟩:=least_spec h h0
 refine⟨k,h1,?_,h2,h3,h5⟩
 unfold D.O D.T1
 have e:(s==0)=false:=by simpa using h0
 simp only[e,cond_false,h4,tz_table k h1,bs]
 rw[w64 (by omega) (by omega)]
theorem C5 (s:Int)(h:VS s):D.i s=some (Ap s):=by
 unfold D.i
 have key:∀(n:Nat) (x:Int) (l:LI),VS x→(Ap x).length=n→l.length+n≤32→
   As (σ:=Int×LI) (ρ:=(LI)) (fun(s_52:Int×LI)=>match s_52 with|(x_55,l_56)=>cond (x_55 !=0) ((D.O x_55).bind λy_88=>(AN l_56 ([y_88]:LI)).bind λl_99=>some (.inl ((iand .u32 x_55 (IntKind.u32.wrap (x_55-1))),l_99))) (some (.inr l_56))) (x,l)=some (l++Ap x):=by
  intro n
  induction n with
  |zero=>
   intro x l hx hn _
   have e:Ap x=[]:=List.eq_nil_of_length_eq_zero hn
   have e0:x=0:=hx.eq_zero.2 λv hv=>by
    cases hc:has x v
    ·rfl
    ·have:=mem_elems.2 ⟨v,hv,hc,rfl⟩;rw[e] at this;simp at this
   rw[e]
   refine Bd ?_
   have:(x !=0)=false:=by simp[e0]
   simp only[this,cond_false,List.append_nil]
  |succ n ih=>
   intro x l hx hn hl
   have h0:x≠0:=by rintro rfl;rw[Dx] at hn;simp at hn
   obtain⟨k,h1,h2,h3,h4,h5⟩:=least_eq hx h0
   have e:=elems_least h1 h3 h4 h5
   have en:(Ap (iand .u32 x (IntKind.u32.wrap (x-1)))).length=n:=by rw[e] at hn;simpa using hn
   have hstep:=ih (iand .u32 x (IntKind.u32.wrap (x-1))) (l++[(k:Int)]) (VS.iand _ _) en (by simp;omega)
   have e1:(x !=0)=true:=by simpa using h0
   rw[BF (s':=(iand .u32 x (IntKind.u32.wrap (x-1)),l++[(k:Int)]))]
   ·rw[hstep,e];simp
   ·simp only[e1,cond_true,h2,bs,AR (xs:=l) (ys:=[(k:Int)]) (by simp;omega)]
 have:=key (Ap s).length s [] h rfl (by simpa using BO s)
 rw[this];simp
theorem elems_sh (s:Int):Sh (Ap s):=by have:=BO s;unfold Sh;omega
theorem EK (s:Int)(h:VS s):D.p0 s=some (Ap s):=by
 unfold D.p0
 rw[C5 s h,bs,wide_eq _ (elems_sh s)];rfl
theorem results_eq (xs:LI)(h:Sh xs)(hv:∀s∈xs,VS s):D.m0 xs=some (xs.map Ap):=by
 unfold Sh at h
 unfold D.m0
 refine(Ef xs (λs i=>(s,i)) Ap h (λs i hi _=> ?_) (λs=> ?_)).trans rfl
 ·simp only[dlt hi,cond_true,Au hi,bs,wi' hi (by omega),EK _ (hv _ (List.getElem_mem hi))]
 ·simp only[Ba,cond_false]
theorem C9 (xs:LI)(h:Sh xs):D.e xs=some xs:=by
 unfold Sh at h
 unfold D.e
 rw[AR (by simpa using h)];rfl
def into (xs:LI)(n:Int):LI:=if n∈xs then xs else xs.takeWhile (λx=>decide (x<n))++n::xs.dropWhile (λx=>decide (x<n))
theorem mem_into {xs:LI}{n x:Int}:x∈into xs n↔x=n∨x∈xs:=by
 unfold into
 split
 ·constructor
  ·intro h;exact .inr h
  ·rintro(rfl|h)
   ·assumption
   ·exact h
 ·have e:x∈xs↔x∈xs.takeWhile (λx=>decide (x<n))++xs.dropWhile (λx=>decide (x<n)):=by rw[List.takeWhile_append_dropWhile]
  rw[e];simp only[List.mem_append,List.mem_cons]
  constructor
  ·rintro(h|h|h)<;>simp[h]
  ·rintro(h|h|h)<;>simp[h]
theorem EW {xs:LI}{n:Int}(h:Inc xs):∀y∈xs.dropWhile (λx=>decide (x<n)),n≤y:=by
 induction xs with
 |nil=>simp
 |cons x xs ih=>
  have h':=List.pairwise_cons.1 h
  intro y hy
  rw[List.dropWhile_cons] at hy
  split at hy
  ·exact ih h'.2 y hy
  ·rename_i hc
   simp at hc
   rcases List.mem_cons.1 hy with rfl|hy
   ·exact hc
   ·have:=h'.1 y hy;omega
theorem inc_takeWhile {xs:LI}{n:Int}:∀y∈xs.takeWhile (λx=>decide (x<n)),y<n:=by
 intro y hy
 induction xs with
 |nil=>simp at hy
 |cons x xs ih=>
  rw[List.takeWhile_cons] at hy
  split at hy
  ·rename_i hc
   rcases List.mem_cons.1 hy with rfl|hy
   ·simpa using hc
   ·exact ih hy
  ·simp at hy
theorem Inc.into {xs:LI}(h:Inc xs)(n:Int):Inc (into xs n):=by
 unfold Sx.into
 split
 ·exact h
 ·rename_i hn
  unfold Inc
  rw[List.pairwise_append]
  refine⟨List.Pairwise.sublist (List.takeWhile_sublist _) h,List.pairwise_cons.2 ⟨λy hy=> ?_,List.Pairwise.sublist (List.dropWhile_sublist _) h⟩,λa ha b hb=> ?_⟩
  ·have h1:=EW h y hy
   have h2:y≠n:=λe=>hn (e▸(List.dropWhile_sublist _).mem hy)
   omega
  ·have h1:=inc_takeWhile a ha
   rcases List.mem_cons.1 hb with rfl|hb
   ·exact h1
   ·have:=EW h b hb;omega
theorem into_len (xs:LI)(n:Int):(into xs n).length≤xs.length+1:=by
 unfold into
 split
 ·omega
 ·have:(xs.takeWhile (λx=>decide (x<n))++xs.dropWhile (λx=>decide (x<n))).length=xs.length:=by rw[List.takeWhile_append_dropWhile]
  simp only[List.length_append,List.length_cons] at this ⊢;omega
theorem Dk {α:Type}(p:α→Bool):∀(xs:List α),xs.takeWhile p=xs.take (xs.takeWhile p).length∧xs.dropWhile p=xs.drop (xs.takeWhile p).length
 |[]=>by simp
 |x::xs=>by
  rw[List.takeWhile_cons,List.dropWhile_cons]
  cases p x
  ·simp
  ·have:=Dk p xs
   simp only[if_true,List.length_cons,List.take_succ_cons,List.drop_succ_cons,←this.1,←this.2,and_self]
theorem Do {α:Type}(p:α→Bool):∀(xs:List α) (i:Nat) (h:i<(xs.takeWhile p).length) (h':i<xs.length),p xs[i]=true
 |x::xs,i,h,h'=>by
  rw[List.takeWhile_cons] at h
  cases hp:p x
  ·rw[hp] at h;simp at h
  ·rw[hp] at h
   cases i with
   |zero=>simpa using hp
   |succ i=>simp only[if_true,List.length_cons] at h;simpa using Do p xs i (by omega) (by simpa using h')
theorem DH {α:Type}(p:α→Bool):∀(xs:List α) (h:(xs.takeWhile p).length<xs.length),p (xs[(xs.takeWhile p).length])=false
 |x::xs,h=>by
  cases hp:p x
  ·simp[List.takeWhile_cons,hp]
  ·have h2:(xs.takeWhile p).length<xs.length:=by simpa [List.takeWhile_cons,hp] using h
   simpa [List.takeWhile_cons,hp] using DH p xs h2
theorem FX {α:Type}(p:α→Bool)(xs:List α):(xs.takeWhile p).length≤xs.length:=(List.takeWhile_sublist _).length_le
theorem Dt (xs:LI)(n:Int)(h:Inc xs)(hl:xs.length≤4294967295):D.j xs n=some (into xs n):=by
 unfold D.j
 generalize hk:(xs.takeWhile (λx=>decide (x<n))).length=k
 have hkl:k≤xs.length:=by rw[←hk];exact FX _ _
 have htk:xs.takeWhile (λx=>decide (x<n))=xs.take k:=by rw[←hk];exact(Dk _ xs).1
 have hdk:xs.dropWhile (λx=>decide (x<n))=xs.drop k:=by rw[←hk];exact(Dk _ xs).2
 refine(BP (λi=>((i:Nat):Int)) k (k:Int) rfl (λi hi=> ?_) ?_).trans ?_
 ·have hi':i<xs.length:=by omega
  have hp:decide (xs[i]<n)=true:=Do (λx=>decide (x<n)) xs i (by omega) hi'
  simp only[dlt hi',cond_true,Au hi',bs,hp,wq i]
 ·by_cases hlt:k<xs.length
  ·have hp:decide (xs[k]<n)=false:=by
    have:=DH (λx=>decide (x<n)) xs (by omega)
    simp only[hk] at this;exact this
   simp only[dlt hlt,cond_true,Au hlt,bs,hp,cond_false]
  ·obtain rfl:k=xs.length:=by omega
   simp only[Ba,cond_false,bs]
 ·have hS1:Sh (xs.take k):=by unfold Sh;rw[List.length_take];omega
  have hrest:((CC xs 0 (k:Int)).bind λl_135=>(D.e l_135).bind λy_139=>(AN y_139 ([n]:LI)).bind λl_154=>(CC xs (k:Int) (xs.length:Int)).bind λl_160=>(AN l_154 l_160).bind λl_164=>some l_164)=some (xs.take k++n::xs.drop k):=by
   simp only[sliceD_pre hkl,sliceD_post hkl,bs,C9 _ hS1]
   rw[AR (by simp;omega),bs,AR (by simp;omega),bs]
   simp
  by_cases hlt:k<xs.length
  ·simp only[dlt hlt,cond_true,Au hlt,bs]
   by_cases he:xs[k]=n
   ·have hm:n∈xs:=by rw[←he];exact List.getElem_mem _
    have:(xs[k]==n)=true:=by simp[he]
    simp only[this,cond_true]
    unfold into;rw[if_pos hm]
   ·have:(xs[k]==n)=false:=by simpa using he
    simp only[this,cond_false,hrest]
    unfold into
    rw[htk,hdk,if_neg]
    intro hm
    obtain⟨j,hj,e⟩:=List.getElem_of_mem hm
    have hst:decide (xs[k]<n)=false:=by
     have:=DH (λx=>decide (x<n)) xs (by omega)
     simp only[hk] at this;exact this
    simp at hst
    rcases Nat.lt_trichotomy j k with h1|h1|h1
    ·have:=Do (λx=>decide (x<n)) xs j (by omega) hj
     simp at this;omega
    ·subst h1;exact he e
    ·have:=(List.pairwise_iff_getElem.1 h) k j hlt hj h1
     omega
  ·obtain rfl:k=xs.length:=by omega
   simp only[Ba,cond_false,bs,hrest]
   unfold into
   rw[htk,hdk,if_neg]
   intro hm
   obtain⟨j,hj,e⟩:=List.getElem_of_mem hm
   have:=Do (λx=>decide (x<n)) xs j (by omega) hj
   simp at this;omega
theorem Inc.short {s:LI}{n:Nat}(h:Inc s)(hr:∀x∈s,0≤x∧x<n):s.length≤n:=by
 rcases SetOf.len h hr with e|e
 ·subst e;simp
 ·omega
end Go.Sx



namespace Go.Sx
theorem row_set {g:LL}{u v:Nat}{r:LI}(hu:u<g.length):row (g.set u r) v=if v=u then r else row g v:=by
 unfold row
 by_cases h:v=u
 ·subst h;simp[hu]
 ·rw[if_neg h,List.getD_eq_getElem?_getD,List.getElem?_set_ne (λe=>h e.symm),←List.getD_eq_getElem?_getD]
theorem l1Link_ok {g:LL}(hg:GOk g){u v:Nat}(hu:u<g.length)(hv:v<g.length)(huv:u≠v):
  ∃g',D.m1 g (u:Int) (v:Int)=some g'∧GOk g'∧g'.length=g.length∧∀a b,adj g' a b↔adj g a b∨(a=u∧b=v)∨(a=v∧b=u):=by
 have h16:=hg.n16
 have hru:=hg.rows u hu;have hrv:=hg.rows v hv
 have hlu:=hg.row_len hu;have hlv:=hg.row_len hv
 refine⟨(g.set u (into (row g u) v)).set v (into (row g v) u),?_,?_⟩
 ·unfold D.m1
  have e1:row (g.set u (into (row g u) v)) v=row g v:=by rw[row_set hu,if_neg (Ne.symm huv)]
  simp only[Cj hu,bs,Dt _ _ hru.1 (show (row g u).length≤4294967295 by omega),Int.toNat_natCast]
  rw[Cj (show v<(g.set u (into (row g u) v)).length by simpa using hv),e1]
  simp only[bs,Dt _ _ hrv.1 (show (row g v).length≤4294967295 by omega)]
 ·have hrow:∀w,row ((g.set u (into (row g u) v)).set v (into (row g v) u)) w=if w=v then into (row g v) u else if w=u then into (row g u) v else row g w:=by
   intro w
   rw[row_set (by simpa using hv),row_set hu]
  have hadj:∀a b,adj ((g.set u (into (row g u) v)).set v (into (row g v) u)) a b↔adj g a b∨(a=u∧b=v)∨(a=v∧b=u):=by
   intro a b
   unfold adj
   rw[hrow]
   by_cases ha:a=v
   ·subst ha
    rw[if_pos rfl,mem_into]
    constructor
    ·rintro(h|h)
     ·exact .inr (.inr ⟨rfl,by omega⟩)
     ·exact .inl h
    ·rintro(h|⟨h,_⟩|⟨_,h⟩)
     ·exact .inr h
     ·exact absurd h.symm huv
     ·exact .inl (by omega)
   ·rw[if_neg ha]
    by_cases ha':a=u
    ·subst ha'
     rw[if_pos rfl,mem_into]
     constructor
     ·rintro(h|h)
      ·exact .inr (.inl ⟨rfl,by omega⟩)
      ·exact .inl h
     ·rintro(h|⟨_,h⟩|⟨h,_⟩)
      ·exact .inr h
      ·exact .inl (by omega)
      ·exact absurd h ha
    ·rw[if_neg ha']
     constructor
     ·exact .inl
     ·rintro(h|⟨h,_⟩|⟨h,_⟩)
      ·exact h
      ·exact absurd h ha'
      ·exact absurd h ha
  refine⟨⟨by simpa using hg.n1,by simpa using h16,λw hw=> ?_,λw hw=> ?_,λa b ha hab=> ?_⟩,by simp,hadj⟩
  ·simp only[List.length_set] at hw ⊢
   rw[hrow]
   split
   ·refine⟨hrv.1.into _,λx hx=> ?_⟩
    rcases mem_into.1 hx with rfl|hx
    ·omega
    ·exact hrv.2 x hx
   ·split
    ·refine⟨hru.1.into _,λx hx=> ?_⟩
     rcases mem_into.1 hx with rfl|hx
     ·omega
     ·exact hru.2 x hx
    ·exact hg.rows w hw
  ·simp only[List.length_set] at hw
   rw[hadj]
   rintro(h|⟨h1,h2⟩|⟨h1,h2⟩)
   ·exact hg.irr w hw h
   ·omega
   ·omega
  ·simp only[List.length_set] at ha
   rw[hadj] at hab ⊢
   rcases hab with h|h|h
   ·exact .inl (hg.sym a b ha h)
   ·exact .inr (.inr ⟨h.2,h.1⟩)
   ·exact .inr (.inl ⟨h.2,h.1⟩)
end Go.Sx



namespace Go.Sx
theorem ext_getD {a b:LI}(hl:a.length=b.length)(h:∀j,j<a.length→a.getD j 0=b.getD j 0):a=b:=by
 apply List.ext_getElem hl
 intro j h1 h2
 have:=h j h1
 rwa [AD h1,AD h2] at this
theorem Db (l:LI)(i j:Nat)(x:Int)(hi:i<l.length):(l.set i x).getD j 0=if j=i then x else l.getD j 0:=by
 simp only[List.getD_eq_getElem?_getD,List.getElem?_set]
 by_cases h:j=i
 ·subst h;simp[hi]
 ·rw[if_neg (λe=>h e.symm),if_neg h]
def nb (F:LI)(u w:Nat):Bool:=has (F.getD u 0) w
structure FOk (F:LI)(n:Nat):Prop where
 len:F.length=n
 vs:∀u,u<n→VS (F.getD u 0)
 lt:∀u w,u<n→nb F u w=true→w<n
 irr:∀u,u<n→nb F u u=false
 sym:∀u w,u<n→nb F u w=true→nb F w u=true
theorem FOk.ext {F F':LI}{n:Nat}(h:F.length=n)(h':F'.length=n)(v:∀u,u<n→VS (F.getD u 0))(v':∀u,u<n→VS (F'.getD u 0))(e:∀u w,u<n→nb F u w=nb F' u w):F=F':=by
 refine ext_getD (by omega) (λj hj=> ?_)
 exact(v j (by omega)).ext (v' j (by omega)) (λw _=>e j w (by omega))
theorem FJ (g:LL)(u:Nat):(g.map mk).getD u 0=mk (row g u):=by
 unfold row
 simp only[List.getD_eq_getElem?_getD,List.getElem?_map]
 cases g[u]? with
 |none=>simp[mk]
 |some r=>rfl
theorem Dq {g:LL}(hg:GOk g){u w:Nat}(hu:u<g.length):nb (g.map mk) u w=true↔adj g u w:=by
 have h16:=hg.n16
 unfold nb
 rw[FJ,Dc (λx hx=>by have:=(hg.rows u hu).2 x hx;omega)]
 simp[adj]
theorem FOk.of {g:LL}(hg:GOk g):FOk (g.map Sx.mk) g.length:=by
 refine⟨by simp,λu _=>by rw[FJ];exact VS.mk _,λu w hu h=>hg.lt hu ((Dq hg hu).1 h),λu hu=> ?_,λu w hu h=> ?_⟩
 ·cases h:nb (g.map Sx.mk) u u
  ·rfl
  ·exact absurd ((Dq hg hu).1 h) (hg.irr u hu)
 ·have ha:=(Dq hg hu).1 h
  exact(Dq hg (hg.lt hu ha)).2 (hg.sym u w hu ha)
def grow (F:LI):LL:=F.map Ap
theorem row_grow (F:LI)(u:Nat):row (grow F) u=Ap (F.getD u 0):=by
 unfold row grow
 simp only[List.getD_eq_getElem?_getD,List.getElem?_map]
 cases F[u]? with
 |none=>simp[Dx]
 |some r=>rfl
theorem DI {F:LI}{n u w:Nat}(h:FOk F n)(hu:u<n):adj (grow F) u w↔nb F u w=true:=by
 unfold adj nb
 rw[row_grow,AS (h.vs u hu)]
theorem GOk.grow {F:LI}{n:Nat}(h:FOk F n)(h1:1≤n)(h16:n≤16):GOk (grow F):=by
 have hl:(Sx.grow F).length=n:=by unfold Sx.grow;rw[List.length_map,h.len]
 refine⟨by omega,by omega,λv hv=> ?_,λv hv ha=> ?_,λu v hu ha=> ?_⟩
 ·rw[row_grow,hl]
  refine⟨BD _,λx hx=> ?_⟩
  obtain⟨w,_,h2,rfl⟩:=mem_elems.1 hx
  have:=h.lt v w (by omega) h2
  omega
 ·rw[DI h (by omega)] at ha
  rw[h.irr v (by omega)] at ha;cases ha
 ·rw[DI h (by omega)] at ha
  have:=h.lt u v (by omega) ha
  rw[DI h (by omega)]
  exact h.sym u v (by omega) ha
theorem mk_elems {s:Int}(h:VS s):mk (Ap s)=s:=by
 refine(VS.mk _).ext h (λv hv=> ?_)
 rw[Dc (λx hx=>by obtain⟨w,h1,_,rfl⟩:=mem_elems.1 hx;omega),Bool.eq_iff_iff,decide_eq_true_eq,AS h]
theorem all_mask :∀n:Fin 17,∀v:Fin 32,has (IntKind.u32.wrap (ishl .u32 1 (n.val:Int)-1)) v.val=decide (v.val<n.val):=by decide+kernel
theorem FV (F:LI)(h:F.length≤16):∃s,D.n F=some s∧VS s∧∀v,has s v=decide (v<F.length):=by
 refine⟨IntKind.u32.wrap (ishl .u32 1 (F.length:Int)-1),?_,VS.wrap _,λv=> ?_⟩
 ·unfold D.n D.y1
  have:decide ((F.length:Int)<0)=false:=by simp
  rw[this];rfl
 ·by_cases hv:v<32
  ·exact all_mask ⟨F.length,by omega⟩ ⟨v,hv⟩
  ·rw[D4 (VS.wrap _) (by omega)];symm;simp;omega
theorem inner_ok {n v:Nat}(F L:LI)(S:Int)(h16:n≤16)(hF:F.length=n)(hV:∀u,u<n→VS (F.getD u 0))(hS:VS S)(hSn:∀w,has S w=true→w<n)(hL:idx L (v:Int)=some S):
  ∃F',(As (σ:=LI×Int) (ρ:=(LI)) (fun(s_776:LI×Int)=>match s_776 with|(l_779,x_782)=>cond (decide (x_782<((Ap S).length:Int))) ((idx (Ap S) x_782).bind λe_820=>(idx l_779 e_820).bind λe_826=>(idx L (v:Int)).bind λe_832=>(D.f e_820).bind λy_838=>(idx l_779 e_820).bind λe_841=>some (.inl ((l_779.set (Int.toNat e_820) (ior .u32 e_826 (iandNot .u32 e_832 y_838))),(IntKind.i64.wrap (x_782+1))))) (some (.inr l_779))) (F,0))=some F'∧
   (F'.length=n∧(∀u,u<n→VS (F'.getD u 0))∧∀u w,u<n→nb F' u w=(nb F u w||(has S u&&has S w&&decide (w≠u)))):=by
 have key:=AY (k:=λr=>some r) (Q:=λF':LI=>F'.length=n∧(∀u,u<n→VS (F'.getD u 0))∧∀u w,u<n→nb F' u w=(nb F u w||(has S u&&has S w&&decide (w≠u))))
  (step:=(fun(s_776:LI×Int)=>match s_776 with|(l_779,x_782)=>cond (decide (x_782<((Ap S).length:Int))) ((idx (Ap S) x_782).bind λe_820=>(idx l_779 e_820).bind λe_826=>(idx L (v:Int)).bind λe_832=>(D.f e_820).bind λy_838=>(idx l_779 e_820).bind λe_841=>some (.inl ((l_779.set (Int.toNat e_820) (ior .u32 e_826 (iandNot .u32 e_832 y_838))),(IntKind.i64.wrap (x_782+1))))) (some (.inr l_779)))) (s:=(F,0))
  (λs=>∃i:Nat,s.2=(i:Int)∧i≤(Ap S).length∧s.1.length=n∧(∀u,u<n→VS (s.1.getD u 0))∧∀u w,u<n→nb s.1 u w=(nb F u w||(decide ((u:Int)∈(Ap S).take i)&&has S w&&decide (w≠u)))) (λs=>(Ap S).length-s.2.toNat)
  (λF'=>F'.length=n∧(∀u,u<n→VS (F'.getD u 0))∧∀u w,u<n→nb F' u w=(nb F u w||(has S u&&has S w&&decide (w≠u)))) ?_ ⟨0,rfl,by omega,hF,hV,λu w _=>by simp⟩ (λr hr=>⟨r,rfl,hr⟩)
 ·obtain⟨y,hy,hq⟩:=key
  rw[Option.bind_eq_some_iff] at hy
  obtain⟨a,ha,hb⟩:=hy
  cases hb
  exact⟨_,ha,hq⟩
 ·rintro⟨l,_⟩ ⟨i,rfl,hi,hl,hv,hh⟩
  dsimp only at hl hv hh ⊢
  have hle:=BO S
  by_cases hlt:i<(Ap S).length
  ·obtain⟨u0,h1,h2,h3⟩:=mem_elems.1 (List.getElem_mem hlt)
   have h4:=hSn u0 h2
   simp only[dlt hlt,cond_true,Au hlt,bs,h3,Au (show u0<l.length by omega),hL,B2,wq i,Int.toNat_natCast]
   refine⟨_,rfl,⟨i+1,rfl,by omega,by simp[hl],λu hu=> ?_,λu w hu=> ?_⟩,by dsimp only;omega⟩
   ·rw[Db _ _ _ _ (by omega)]
    split
    ·exact VS.ior _ _
    ·exact hv u hu
   ·have hmem:((u:Int)∈(Ap S).take (i+1))↔((u:Int)∈(Ap S).take i∨u=u0):=by
     rw[List.take_succ_eq_append_getElem hlt,List.mem_append,h3]
     simp[Int.natCast_inj]
    unfold nb
    rw[Db _ _ _ _ (by omega)]
    by_cases hc:u=u0
    ·subst hc
     rw[if_pos rfl]
     have hg:l[u]=l.getD u 0:=(AD (by omega) 0).symm
     rw[hg,CV (hv u hu) (VS.iandNot _ _),Bl hS (VS.ishl _ _),B3 (by omega)]
     have:=hh u w hu
     unfold nb at this
     rw[this,decide_eq_true (hmem.2 (.inr rfl))]
     cases has (F.getD u 0) w<;>cases has S w<;>by_cases hw:w=u<;>simp[hw]
    ·rw[if_neg hc]
     have:=hh u w hu
     unfold nb at this
     rw[this]
     have:decide ((u:Int)∈(Ap S).take (i+1))=decide ((u:Int)∈(Ap S).take i):=by
      rw[Bool.eq_iff_iff,decide_eq_true_eq,decide_eq_true_eq,hmem];simp[hc]
     rw[this]
  ·obtain rfl:i=(Ap S).length:=by omega
   simp only[Ba,cond_false]
   refine⟨_,rfl,hl,hv,λu w hu=> ?_⟩
   rw[hh u w hu,List.take_length]
   congr 3
   rw[Bool.eq_iff_iff,decide_eq_true_eq,AS hS]
def PEO (F:LI)(o:LI):Prop:=∀(j:Nat) (v u w:Nat),o[j]? =some (v:Int)→nb F v u=true→nb F v w=true→(u:Int)∉o.take (j+1)→(w:Int)∉o.take (j+1)→u≠w→nb F u w=true
def Lat (F L:LI)(o:LI)(i:Nat):Prop:=∀(j:Nat) (v:Nat),j<i→o[j]? =some (v:Int)→∀w,nb L v w=(nb F v w&&decide ((w:Int)∉o.take (j+1)))
inductive Via (F:LI)(gone:Nat→Prop)(u:Nat):Nat→Prop
 |me:Via F gone u u
 |step {x y:Nat}:Via F gone u x→nb F x y=true→gone y→Via F gone u y
theorem Via.mono {F:LI}{g g':Nat→Prop}{u x:Nat}(h:Via F g u x)(hg:∀y,g y→g' y):Via F g' u x:=by
 induction h with
 |me=>exact .me
 |step _ h1 h2 ih=>exact .step ih h1 (hg _ h2)
theorem Via.end_ {F:LI}{g:Nat→Prop}{u x:Nat}(h:Via F g u x):x=u∨g x:=by
 cases h with
 |me=>exact .inl rfl
 |step _ _ h2=>exact .inr h2
theorem Via.lt {F:LI}{n:Nat}(hF:FOk F n){g:Nat→Prop}{u x:Nat}(hu:u<n)(h:Via F g u x):x<n:=by
 induction h with
 |me=>exact hu
 |step _ h1 _ ih=>exact hF.lt _ _ ih h1
theorem Via.back {F:LI}{n:Nat}(hF:FOk F n){g g':Nat→Prop}(hg:∀y,g y→g' y){v x:Nat}(hv:v<n)(hgv:g' v)(h:Via F g v x):∀z,Via F g' z x→Via F g' z v:=by
 induction h with
 |me=>exact λz h=>h
 |step hx h1 h2 ih=>
  intro z hz
  have hxn:=Via.lt hF hv hx
  refine ih z (.step hz (hF.sym _ _ hxn h1) ?_)
  rcases hx.end_ with e|e
  ·rw[e];exact hgv
  ·exact hg _ e
def Bhd (F:LI)(gone:Nat→Prop)(v w:Nat):Prop:=∃x,Via F gone v x∧nb F x w=true
structure EInv (n:Nat)(F0 o:LI)(i:Nat)(F L:LI)(left:Int):Prop where
 f:FOk F n
 lenL:L.length=n
 vsL:∀u,u<n→VS (L.getD u 0)
 vsl:VS left
 left:∀v,has left v=decide (v<n∧(v:Int)∉o.take i)
 mono:∀u w,u<n→nb F0 u w=true→nb F u w=true
 lat:Lat F L o i
 peo:∀(j:Nat) (v u w:Nat),j<i→o[j]? =some (v:Int)→nb F v u=true→nb F v w=true→(u:Int)∉o.take (j+1)→(w:Int)∉o.take (j+1)→u≠w→nb F u w=true
 same:PEO F0 o→F=F0
 via:∀u w:Nat,u<n→(u:Int)∉o.take i→(w:Int)∉o.take i→u≠w→(nb F u w=true↔Bhd F0 (λx=>(x:Int)∈o.take i) u w)
 latb:∀(j:Nat) (v:Nat),j<i→o[j]? =some (v:Int)→∀w:Nat,nb L v w=true↔(w:Int)∉o.take (j+1)∧Bhd F0 (λx=>(x:Int)∈o.take j) v w
theorem Dn {o:LI}{j i:Nat}(h:j≤i){x:Int}(hx:x∈o.take j):x∈o.take i:=by
 rw[mem_take_iff] at hx ⊢
 obtain⟨k,h1,h2,h3⟩:=hx
 exact⟨k,h1,by omega,h3⟩
theorem EInv.step {n:Nat}{F0 o F L:LI}{i v:Nat}{left:Int}(h16:n≤16)(h0:FOk F0 n)(hn:∀x∈o,0≤x∧x<n)(hnd:o.Nodup)(hi:i<o.length)(hv:o[i]=(v:Int))(h:EInv n F0 o i F L left){F':LI}
  (hl':F'.length=n) (hv':∀u,u<n→VS (F'.getD u 0)) (h':∀u w,u<n→nb F' u w=(nb F u w||(has (iand .u32 (F.getD v 0) (iandNot .u32 left (ishl .u32 1 (v:Int)))) u&&has (iand .u32 (F.getD v 0) (iandNot .u32 left (ishl .u32 1 (v:Int)))) w&&decide (w≠u)))):
  EInv n F0 o (i+1) F' (L.set v (iand .u32 (F.getD v 0) (iandNot .u32 left (ishl .u32 1 (v:Int))))) (iandNot .u32 left (ishl .u32 1 (v:Int))):=by
 have hvn:v<n:=by have:=hn _ (List.getElem_mem hi);omega
 have hvt:(v:Int)∉o.take i:=by rw[←hv];exact nodup_iff.1 hnd i hi
 have htk:∀x:Nat,((x:Int)∈o.take (i+1))↔((x:Int)∈o.take i∨x=v):=λx=>by
  rw[List.take_succ_eq_append_getElem hi,List.mem_append,hv];simp[Int.natCast_inj]
 have hleft:∀w,has (iandNot .u32 left (ishl .u32 1 (v:Int))) w=decide (w<n∧(w:Int)∉o.take (i+1)):=λw=>by
  rw[Bl h.vsl (VS.ishl _ _),B3 (by omega),h.left,Bool.eq_iff_iff]
  simp only[Bool.and_eq_true,decide_eq_true_eq,Bool.not_eq_true',decide_eq_false_iff_not,htk]
  constructor
  ·rintro⟨⟨a,b⟩,c⟩;exact⟨a,λhh=>hh.elim b c⟩
  ·rintro⟨a,b⟩;exact⟨⟨a,λhh=>b (.inl hh)⟩,λhh=>b (.inr hh)⟩
 have hS:∀w,has (iand .u32 (F.getD v 0) (iandNot .u32 left (ishl .u32 1 (v:Int)))) w=(nb F v w&&decide ((w:Int)∉o.take (i+1))):=λw=>by
  rw[Ch (h.f.vs v hvn) (VS.iandNot _ _),hleft,Bool.eq_iff_iff]
  show (nb F v w&&_)=true↔_
  simp only[Bool.and_eq_true,decide_eq_true_eq]
  exact⟨fun⟨a,b,c⟩=>⟨a,c⟩,fun⟨a,c⟩=>⟨a,h.f.lt v w hvn a,c⟩⟩
 have hlV:VS (iandNot .u32 left (ishl .u32 1 (v:Int))):=VS.iandNot _ _
 generalize iandNot .u32 left (ishl .u32 1 (v:Int))=left' at*
 generalize hSS:iand .u32 (F.getD v 0) left'=S at*
 have hSV:VS S:=by rw[←hSS];exact VS.iand _ _
 have hSlt:∀w,has S w=true→w<n∧(w:Int)∉o.take (i+1):=λw hw=>by
  rw[hS] at hw
  simp only[Bool.and_eq_true,decide_eq_true_eq] at hw
  exact⟨h.f.lt v w hvn hw.1,hw.2⟩
 have hmono:∀u w,u<n→nb F u w=true→nb F' u w=true:=λu w hu hh=>by rw[h' u w hu,hh];rfl
 have hold:∀x:Nat,x<n→(x:Int)∈o.take (i+1)→∀w,nb F' x w=nb F x w:=λx hx hm w=>by
  rw[h' x w hx]
  have:has S x=false:=by
   cases hc:has S x
   ·rfl
   ·exact absurd hm (hSlt x hc).2
  simp[this]
 have hf':FOk F' n:=by
  refine⟨hl',hv',λu w hu hh=> ?_,λu hu=> ?_,λu w hu hh=> ?_⟩
  ·rw[h' u w hu] at hh
   simp only[Bool.or_eq_true,Bool.and_eq_true] at hh
   rcases hh with hh|⟨⟨_,hh⟩,_⟩
   ·exact h.f.lt u w hu hh
   ·exact(hSlt w hh).1
  ·rw[h' u u hu,h.f.irr u hu];simp
  ·rw[h' u w hu] at hh
   simp only[Bool.or_eq_true,Bool.and_eq_true,decide_eq_true_eq] at hh
   rcases hh with hh|⟨⟨h1,h2⟩,h3⟩
   ·exact hmono w u (h.f.lt u w hu hh) (h.f.sym u w hu hh)
   ·rw[h' w u (hSlt w h2).1,h1,h2]
    have:decide (u≠w)=true:=by simpa using λe=>h3 e.symm
    simp[this]
 have hjv:∀j (x:Nat),o[j]? =some (x:Int)→j<o.length∧x<n∧(x:Int)∈o.take (j+1):=λj x hx=>by
  obtain⟨h1,h2⟩:=List.getElem?_eq_some_iff.1 hx
  have:=hn _ (List.getElem_mem h1)
  refine⟨h1,by omega,?_⟩
  rw[mem_take_iff];exact⟨j,h1,by omega,h2⟩
 refine⟨hf',by simp[h.lenL],λu hu=> ?_,hlV,hleft,λu w hu hh=>hmono u w hu (h.mono u w hu hh),λj x hj hx w=> ?_,λj x u w hj hx h1 h2 h3 h4 h5=> ?_,λhp=> ?_,λu w hu k1 k2 huw=> ?_,λj x hj hx w=> ?_⟩
 ·rw[Db _ _ _ _ (by rw[h.lenL];exact hvn)]
  split
  ·exact hSV
  ·exact h.vsL u hu
 ·obtain⟨k1,k2,k3⟩:=hjv j x hx
  have k4:=Dn (show j+1≤i+1 by omega) k3
  rw[hold x k2 k4 w]
  unfold nb
  rw[Db _ _ _ _ (by rw[h.lenL];exact hvn)]
  by_cases hji:j=i
  ·subst hji
   rw[List.getElem?_eq_getElem hi,hv] at hx
   have:x=v:=by
    have:(v:Int)=(x:Int):=by simpa using hx
    omega
   subst this
   rw[if_pos rfl,hS];rfl
  ·have hne:x≠v:=λe=>by
    subst e
    exact hvt (Dn (show j+1≤i by omega) k3)
   rw[if_neg hne]
   exact h.lat j x (by omega) hx w
 ·obtain⟨k1,k2,k3⟩:=hjv j x hx
  have k4:=Dn (show j+1≤i+1 by omega) k3
  rw[hold x k2 k4] at h1 h2
  by_cases hji:j=i
  ·subst hji
   rw[List.getElem?_eq_getElem hi,hv] at hx
   have:x=v:=by
    have:(v:Int)=(x:Int):=by simpa using hx
    omega
   subst this
   have hu:has S u=true:=by rw[hS,h1];simpa using h3
   have hw:has S w=true:=by rw[hS,h2];simpa using h4
   rw[h' u w (hSlt u hu).1,hu,hw]
   have:decide (w≠u)=true:=by simpa using λe=>h5 e.symm
   simp[this]
  ·exact hmono u w (h.f.lt x u k2 h1) (h.peo j x u w (by omega) hx h1 h2 h3 h4 h5)
 ·have hFF:=h.same hp
  subst hFF
  refine FOk.ext hl' h.f.len hv' h.f.vs (λu w hu=> ?_)
  rw[h' u w hu,Bool.eq_iff_iff]
  simp only[Bool.or_eq_true,Bool.and_eq_true,decide_eq_true_eq]
  constructor
  ·rintro(hh|⟨⟨h1,h2⟩,h3⟩)
   ·exact hh
   ·have k1:=(hSlt u h1).2;have k2:=(hSlt w h2).2
    rw[hS] at h1 h2
    simp only[Bool.and_eq_true] at h1 h2
    exact hp i v u w (by rw[List.getElem?_eq_getElem hi,hv]) h1.1 h2.1 k1 k2 (λe=>h3 e.symm)
  ·exact .inl
 ·have q1:(u:Int)∉o.take i:=λe=>k1 ((htk u).2 (.inl e))
  have q2:(w:Int)∉o.take i:=λe=>k2 ((htk w).2 (.inl e))
  have huv:u≠v:=λe=>k1 ((htk u).2 (.inr e))
  have hwv:w≠v:=λe=>k2 ((htk w).2 (.inr e))
  have hgg:∀y:Nat,(y:Int)∈o.take i→(y:Int)∈o.take (i+1):=λy hy=>(htk y).2 (.inl hy)
  rw[h' u w hu]
  simp only[Bool.or_eq_true,Bool.and_eq_true,decide_eq_true_eq]
  constructor
  ·rintro(hh|⟨⟨a1,a2⟩,_⟩)
   ·obtain⟨x,hx,e⟩:=(h.via u w hu q1 q2 huw).1 hh
    exact⟨x,hx.mono hgg,e⟩
   ·rw[hS] at a1 a2
    simp only[Bool.and_eq_true,decide_eq_true_eq] at a1 a2
    obtain⟨x,hx,ex⟩:=(h.via v u hvn hvt q1 (λe=>huv e.symm)).1 a1.1
    obtain⟨y,hy,ey⟩:=(h.via v w hvn hvt q2 (λe=>hwv e.symm)).1 a2.1
    have hvg:(v:Int)∈o.take (i+1):=(htk v).2 (.inr rfl)
    have hxn:=Via.lt h0 hvn hx
    have hxg:(x:Int)∈o.take (i+1):=by
     rcases hx.end_ with e|e
     ·rw[e];exact hvg
     ·exact hgg x e
    have hux:Via F0 (λx=>(x:Int)∈o.take (i+1)) u x:= .step .me (h0.sym x u hxn ex) hxg
    have huv':=Via.back h0 (g':=λx=>(x:Int)∈o.take (i+1)) hgg hvn hvg hx u hux
    have hgo:∀y,Via F0 (λx=>(x:Int)∈o.take i) v y→Via F0 (λx=>(x:Int)∈o.take (i+1)) u y:=λy hy=>by
     induction hy with
     |me=>exact huv'
     |step _ b1 b2 ih=>exact .step ih b1 (hgg _ b2)
    exact⟨y,hgo y hy,ey⟩
  ·rintro⟨x,hx,ex⟩
   have hcl:∀x,Via F0 (λx=>(x:Int)∈o.take (i+1)) u x→Via F0 (λx=>(x:Int)∈o.take i) u x∨(Bhd F0 (λx=>(x:Int)∈o.take i) u v∧Via F0 (λx=>(x:Int)∈o.take i) v x):=λx hx=>by
    induction hx with
    |me=>exact .inl .me
    | @step a b _ b1 b2 ih=>
     rcases(htk b).1 b2 with b2|b2
     ·rcases ih with ih|⟨ih1,ih2⟩
      ·exact .inl (.step ih b1 b2)
      ·exact .inr ⟨ih1,.step ih2 b1 b2⟩
     ·rcases ih with ih|⟨ih1,ih2⟩
      ·subst b2;exact .inr ⟨⟨a,ih,b1⟩,.me⟩
      ·subst b2;exact .inr ⟨ih1,.me⟩
   rcases hcl x hx with hx|⟨hx1,hx2⟩
   ·exact .inl ((h.via u w hu q1 q2 huw).2 ⟨x,hx,ex⟩)
   ·right
    have a1:=(h.via u v hu q1 hvt huv).2 hx1
    have a2:=(h.via v w hvn hvt q2 (λe=>hwv e.symm)).2 ⟨x,hx2,ex⟩
    refine⟨⟨?_,?_⟩,λe=>huw e.symm⟩
    ·rw[hS,h.f.sym u v hu a1];simpa using k1
    ·rw[hS,a2];simpa using k2
 ·obtain⟨k1,k2,k3⟩:=hjv j x hx
  unfold nb
  rw[Db _ _ _ _ (by rw[h.lenL];exact hvn)]
  by_cases hji:j=i
  ·subst hji
   rw[List.getElem?_eq_getElem hi,hv] at hx
   have:x=v:=by
    have:(v:Int)=(x:Int):=by simpa using hx
    omega
   subst this
   rw[if_pos rfl,hS,Bool.and_eq_true,decide_eq_true_eq]
   constructor
   ·rintro⟨b1,b2⟩
    have b3:(w:Int)∉o.take j:=λe=>b2 ((htk w).2 (.inl e))
    have b4:x≠w:=λe=>b2 ((htk w).2 (.inr e.symm))
    exact⟨b2,(h.via x w hvn hvt b3 b4).1 b1⟩
   ·rintro⟨b2,b1⟩
    have b3:(w:Int)∉o.take j:=λe=>b2 ((htk w).2 (.inl e))
    have b4:x≠w:=λe=>b2 ((htk w).2 (.inr e.symm))
    exact⟨(h.via x w hvn hvt b3 b4).2 b1,b2⟩
  ·have hne:x≠v:=λe=>by
    subst e
    exact hvt (Dn (show j+1≤i by omega) k3)
   rw[if_neg hne]
   exact h.latb j x (by omega) hx w
theorem elim_ok {n:Nat}{F0 o:LI}(h16:n≤16)(h0:FOk F0 n)(hl:o.length=n)(hn:∀x∈o,0≤x∧x<n)(hnd:o.Nodup):
  ∃y,D.g0 F0 o=some y∧∃left,EInv n F0 o n y.1 y.2 left:=by
 have hlen:=h0.len
 unfold D.g0
 rw[AR (by simp;omega),bs]
 obtain⟨s,e1,hs1,hs2⟩:=FV F0 (by omega)
 rw[e1,bs,CI (by omega) (by omega),bs]
 simp only[bs,List.nil_append]
 refine AY (λst=>∃i:Nat,st.2.2.2=(i:Int)∧i≤n∧EInv n F0 o i st.1 st.2.1 st.2.2.1) (λst=>n-st.2.2.2.toNat) (λr=>∃left,EInv n F0 o n r.1 r.2 left) ?_ ?_ ?_
 ·rintro⟨F,L,left,_⟩ ⟨i,rfl,hi,h⟩
  dsimp only at h ⊢
  rw[hl]
  by_cases hlt:i<n
  ·have hio:i<o.length:=by omega
   obtain⟨v,hv⟩:∃v:Nat,o[i]=(v:Int):=⟨(o[i]).toNat,by have:=hn _ (List.getElem_mem hio);omega⟩
   have hvn:v<n:=by have:=hn _ (List.getElem_mem hio);omega
   have hFv:idx F (v:Int)=some (F.getD v 0):=by rw[Au (by rw[h.f.len];omega),AD (by rw[h.f.len];omega)]
   have hLs:idx (L.set v (iand .u32 (F.getD v 0) (iandNot .u32 left (ishl .u32 1 (v:Int))))) (v:Int)=some (iand .u32 (F.getD v 0) (iandNot .u32 left (ishl .u32 1 (v:Int)))):=by
    rw[Au (by simp[h.lenL];omega)];simp
   simp only[dlt hlt,cond_true,Au hio,hv,bs,B2,hFv,Au (show v<L.length by rw[h.lenL];omega),Int.toNat_natCast]
   rw[hLs]
   simp only[bs,C5 _ (VS.iand _ _)]
   have hSlt:∀w,has (iand .u32 (F.getD v 0) (iandNot .u32 left (ishl .u32 1 (v:Int)))) w=true→w<n:=λw hw=>by
    rw[Ch (h.f.vs v hvn) (VS.iandNot _ _)] at hw
    simp only[Bool.and_eq_true] at hw
    exact h.f.lt v w hvn hw.1
   obtain⟨F',e2,k1,k2,k3⟩:=inner_ok F _ _ h16 h.f.len h.f.vs (VS.iand _ _) hSlt hLs
   rw[hLs] at e2
   refine bind_eq (x:=F') e2 ?_
   rw[wq i]
   exact⟨_,rfl,⟨i+1,rfl,by omega,h.step h16 h0 hn hnd hio hv k1 k2 k3⟩,by dsimp only;omega⟩
  ·obtain rfl:i=n:=by omega
   simp only[Ba,cond_false]
   exact⟨_,rfl,_,h⟩
 ·refine⟨0,rfl,by omega,h0,by simp[hlen],λu hu=> ?_,hs1,λv=>by rw[hs2,hlen];simp,λu w _ h=>h,λj v hj=>by omega,λj v u w hj=>by omega,λ_=>rfl,λu w hu _ _ _=>⟨λhh=>⟨u,.me,hh⟩,fun⟨x,hx,e⟩=> ?_⟩,λj v hj=>by omega⟩
  ·rw[List.getD_eq_getElem?_getD,List.getElem?_replicate]
   split<;>exact VS.zero
  ·rcases hx.end_ with e2|e2
   ·rw[←e2];exact e
   ·simp at e2
 ·rintro⟨F,L⟩ h
  exact⟨_,rfl,h⟩
def cnt (n k:Nat):Nat:=((List.range k).filter (λi=>n.testBit i)).length
theorem cnt_add (n a b:Nat):cnt n (a+b)=cnt n a+cnt (n>>>a) b:=by
 unfold cnt
 rw[List.range_add,List.filter_append,List.length_append,List.filter_map,List.length_map]
 congr 2
 apply List.filter_congr
 intro i _
 simp[Nat.testBit_shiftRight]
theorem cnt_mod (n k:Nat):cnt (n%2^k) k=cnt n k:=by
 unfold cnt
 congr 1
 apply List.filter_congr
 intro i hi
 have:=List.mem_range.1 hi
 rw[Nat.testBit_mod_two_pow];simp[this]
theorem elems_length (n:Nat):(Ap (n:Int)).length=cnt n 32:=by
 unfold Ap cnt
 rw[List.length_map]
 rfl
theorem pop_all :∀b:Fin 256,Em EA (b.val:Int)=some ((cnt b.val 8:Nat):Int):=by decide+kernel
theorem pop_at {b:Nat}(h:b<256):Em EA (b:Int)=some ((cnt b 8:Nat):Int):=pop_all ⟨b,h⟩
theorem cnt_le (n k:Nat):cnt n k≤k:=by
 unfold cnt
 exact Nat.le_trans (List.length_filter_le _ _) (by simp)
theorem wrap8 {x:Int}(h0:0≤x)(h:x<256):IntKind.u8.wrap x=x:=by
 simp[IntKind.wrap,IntKind.signed,IntKind.bits];omega
theorem OnesCount32_eq {s:Int}(h:VS s):D.a1 s=some ((Ap s).length:Int):=by
 obtain⟨n,rfl,hn⟩:=h.nat
 have s24:Cp .u32 (n:Int) 24=((n>>>24:Nat):Int):=shr_eq (n:Int) 24 h (by omega)
 have s16:Cp .u32 (n:Int) 16=((n>>>16:Nat):Int):=shr_eq (n:Int) 16 h (by omega)
 have s8:Cp .u32 (n:Int) 8=((n>>>8:Nat):Int):=shr_eq (n:Int) 8 h (by omega)
 have lt:∀k,n>>>k<4294967296:=λk=>by
  rw[Nat.shiftRight_eq_div_pow];exact Nat.lt_of_le_of_lt (Nat.div_le_self _ _) hn
 have a255:∀m:Nat,m<4294967296→iand .u32 (m:Int) 255=((m%256:Nat):Int):=λm hm=>by
  have:=EO hm (show (255:Nat)<4294967296 by omega)
  rw[show ((255:Nat):Int)=255 from rfl] at this
  rw[this]
  congr 1
  exact Nat.and_two_pow_sub_one_eq_mod (n:=8) m
 have h24:n>>>24<256:=by rw[Nat.shiftRight_eq_div_pow];exact Nat.div_lt_of_lt_mul (by simpa using hn)
 have ec:cnt n 32=cnt (n%256) 8+cnt (n>>>8%256) 8+cnt (n>>>16%256) 8+cnt (n>>>24) 8:=by
  rw[show (32:Nat)=8+(8+(8+8)) from rfl,cnt_add n 8,cnt_add _ 8,cnt_add _ 8]
  have e1:=cnt_mod n 8;have e2:=cnt_mod (n>>>8) 8;have e3:=cnt_mod (n>>>16) 8
  simp only[show (2:Nat)^8=256 from rfl] at e1 e2 e3
  rw[e1,e2,e3]
  simp only[←Nat.shiftRight_add,Nat.reduceAdd]
  omega
 unfold D.a1
 rw[s24,s16,s8,a255 _ (lt 16),a255 _ (lt 8),a255 n hn,pop_at h24,pop_at (Nat.mod_lt _ (by omega)),pop_at (Nat.mod_lt _ (by omega)),pop_at (Nat.mod_lt _ (by omega))]
 simp only[bs]
 have c1:=cnt_le (n>>>24) 8;have c2:=cnt_le (n>>>16%256) 8;have c3:=cnt_le (n>>>8%256) 8;have c4:=cnt_le (n%256) 8
 generalize cnt (n>>>24) 8=a at*;generalize cnt (n>>>16%256) 8=b at*;generalize cnt (n>>>8%256) 8=c at*;generalize cnt (n%256) 8=d at*
 rw[wrap8 (x:=(a:Int)+b) (by omega) (by omega),wrap8 (x:=(a:Int)+b+c) (by omega) (by omega),wrap8 (x:=(a:Int)+b+c+d) (by omega) (by omega),w64 (by omega) (by omega),elems_length,ec]
 congr 1
 omega
theorem size_eq {s:Int}(h:VS s):D.k1 s=some ((Ap s).length:Int):=by
 unfold D.k1;rw[OnesCount32_eq h];rfl
def cz :LI→LI→Int
 |[],[]=>0
 |[],_::_=> -1
 |_::_,[]=>1
 |a::x,b::y=>if a<b then-1 else if b<a then 1 else cz x y
def lk :Nat→LI→Int
 |0,_=>0
 |_+1,[]=>0
 |d+1,a::l=>(a+1)*33^d+lk d l
def lkey (s:Int):Int:=lk 32 (Ap s)
def skey (s:Int):Int:=((Ap s).length:Int)*33^32+lkey s
theorem Cd :∀{l m:LI},l.Nodup→(∀x∈l,x∈m)→l.length≤m.length
 |[],_,_,_=>by simp
 |x::l,m,h,hs=>by
  have h':=List.nodup_cons.1 h
  have hx:=hs x (by simp)
  have:=Cd (l:=l) (m:=m.erase x) h'.2 (λy hy=>by
   have hne:y≠x:=λe=>h'.1 (e▸hy)
   exact(List.mem_erase_of_ne hne).2 (hs y (by simp[hy])))
  rw[List.length_erase_of_mem hx] at this
  have hp:0<m.length:=List.length_pos_of_mem hx
  simp;omega
theorem nodup_all {l m:LI}(hl:l.Nodup)(hm:m.Nodup)(h:∀x∈l,x∈m)(h':∀x∈m,x∈l):l.length=m.length:=
 Nat.le_antisymm (Cd hl h) (Cd hm h')
theorem Inc.nodup {l:LI}(h:Inc l):l.Nodup:=List.Pairwise.imp (λh e=>by omega) h
theorem l1All_eq (n:Nat)(hn:n≤4294967295):D.j1 (n:Int)=some ((List.range n).map Int.ofNat):=by
 unfold D.j1
 refine(BP (λi=>((List.range i).map Int.ofNat,(i:Int))) n ((List.range n).map Int.ofNat) (by simp) (λi hi=> ?_) ?_).trans rfl
 ·simp only[dlt hi,cond_true,wq i]
  rw[AR (by simp;omega),bs,List.range_succ,List.map_append];rfl
 ·simp only[Ba,cond_false]
theorem l8Meet_eq (a b:LI)(ha:Sh a)(hb:Sh b):D.L1 a b=some (a.filter λx=>decide (x∈b)):=by
 unfold Sh at ha
 unfold D.L1
 have key:∀(k i:Nat),i+k=a.length→∃y,(As (σ:=LI×Int) (ρ:=(LI)) (fun(s_78:LI×Int)=>match s_78 with|(l_81,x_86)=>cond (decide (x_86<(a.length:Int))) ((idx a x_86).bind λe_127=>(D.c b e_127).bind λy_133=>cond y_133 ((idx a x_86).bind λe_141=>(AN l_81 ([e_141]:LI)).bind λl_151=>some (.inl (l_151,(IntKind.i64.wrap (x_86+1))))) (some (.inl (l_81,(IntKind.i64.wrap (x_86+1)))))) (some (.inr l_81))) ((a.take i).filter (λx=>decide (x∈b)),(i:Int)))=some y∧y=a.filter λx=>decide (x∈b):=by
  intro k
  induction k with
  |zero=>
   intro i hi
   obtain rfl:i=a.length:=by omega
   rw[List.take_length]
   exact⟨_,Bd (by simp only[Ba,cond_false]),rfl⟩
  |succ k ih=>
   intro i hi
   have hil:i<a.length:=by omega
   obtain⟨y,h1,h2⟩:=ih (i+1) (by omega)
   refine⟨y,?_,h2⟩
   rw[BF]
   ·exact h1
   ·have hlen:((a.take i).filter (λx=>decide (x∈b))).length≤i:=Nat.le_trans (List.length_filter_le _ _) (by simp;omega)
    rw[List.take_succ_eq_append_getElem hil,List.filter_append]
    simp only[dlt hil,cond_true,Au hil,bs,Cb b _ hb,wq i]
    by_cases hc:a[i]∈b
    ·simp only[hc,decide_true,cond_true,List.filter_cons,if_true,List.filter_nil]
     rw[AR (by simp;omega)];rfl
    ·simp[hc]
 obtain⟨y,h1,rfl⟩:=key a.length 0 (by omega)
 simp only[List.take_zero,List.filter_nil] at h1
 rw[show ((0:Nat):Int)=0 from rfl] at h1
 rw[h1];rfl
theorem l9Part_eq (a b:LI)(ha:Sh a)(hb:Sh b):D.B a b=some (a.all λx=>decide (x∈b)):=by
 unfold D.B
 rw[l8Meet_eq a b ha hb,bs]
 congr 1
 rw[Bool.eq_iff_iff,List.all_eq_true]
 constructor
 ·intro h x hx
  have h1:(a.filter λx=>decide (x∈b)).length=a.length:=by have:=beq_iff_eq.1 h;omega
  exact(List.length_filter_eq_length_iff.1 h1) x hx
 ·intro h
  have:(a.filter λx=>decide (x∈b))=a:=List.filter_eq_self.2 h
  simp[this]
theorem l9In_eq (bags links:LL)(l:LI)(hb:Sh2 bags)(hl:Sh l):D.X0 bags links l=some (bags.any λb=>l.all λx=>decide (x∈b)):=by
 have hbl:bags.length≤4294967296:=hb.1
 unfold D.X0
 refine(Ej bags.length (λi=>l.all λx=>decide (x∈bags.getD i [])) true (λi hi=> ?_) ?_ rfl rfl).trans ?_
 ·simp only[dlt hi,cond_true,Au hi,bs,wq i,AD hi,l9Part_eq l _ hl (hb.2 _ (List.getElem_mem hi))]
  cases l.all λx=>decide (x∈bags[i])<;>rfl
 ·simp only[Ba,cond_false]
 ·rw[EB bags (λb=>l.all λx=>decide (x∈b)) _ (λi hi=>by rw[AD hi])]
def Cy (bags:LL)(v:Int):LI:=((List.range bags.length).filter λb=>decide (v∈bags.getD b [])).map Int.ofNat
theorem mem_withV {bags:LL}{v x:Int}:x∈Cy bags v↔∃b:Nat,x=b∧b<bags.length∧v∈bags.getD b []:=by
 unfold Cy
 rw[List.mem_map]
 constructor
 ·rintro⟨b,hb,rfl⟩
  rw[List.mem_filter,List.mem_range] at hb
  exact⟨b,rfl,hb.1,of_decide_eq_true hb.2⟩
 ·rintro⟨b,rfl,h1,h2⟩
  exact⟨b,List.mem_filter.2 ⟨List.mem_range.2 h1,decide_eq_true h2⟩,rfl⟩
theorem withV_inc (bags:LL)(v:Int):Inc (Cy bags v):=by
 unfold Cy Inc
 rw[List.pairwise_map]
 refine List.Pairwise.filter _ ?_
 refine List.Pairwise.imp ?_ (List.pairwise_lt_range (n:=bags.length))
 intro a b h
 show (a:Int)<(b:Int)
 omega
theorem l9With_eq (bags links:LL)(v:Int)(hb:Sh2 bags)(hl:bags.length≤4294967295):D.V0 bags links v=some (Cy bags v):=by
 unfold D.V0
 refine(BP (λi=>(((List.range i).filter λb=>decide (v∈bags.getD b [])).map Int.ofNat,(i:Int))) bags.length (Cy bags v) (by simp) (λi hi=> ?_) ?_).trans rfl
 ·have hlen:(((List.range i).filter λb=>decide (v∈bags.getD b [])).map Int.ofNat).length≤i:=by
   rw[List.length_map];exact Nat.le_trans (List.length_filter_le _ _) (by simp)
  simp only[dlt hi,cond_true,Au hi,bs,Cb _ _ (hb.2 _ (List.getElem_mem hi)),wq i]
  rw[List.range_succ,List.filter_append,List.map_append]
  by_cases hc:v∈bags[i]
  ·have:decide (v∈bags.getD i [])=true:=by rw[AD hi];simpa using hc
   simp only[hc,decide_true,cond_true,List.filter_cons,this,if_true,List.filter_nil]
   rw[AR (by simp;simp at hlen;omega)];rfl
  ·have:decide (v∈bags.getD i [])=false:=by rw[AD hi];simpa using hc
   simp only[hc,decide_false,cond_false,List.filter_cons,this,List.filter_nil,List.map_nil,List.append_nil]
   simp
 ·simp only[Ba,cond_false];rfl
def Lk (links:LL)(x y:Int):Prop:=[x,y]∈links∨[y,x]∈links
def Pairs (links:LL):Prop:=∀l∈links,∃a b:Int,l=[a,b]
theorem l9Near_ok (bags links:LL)(b:Int)(hl:links.length≤1000000)(hp:Pairs links):
  ∃y,D.v1 bags links b=some y∧(Inc y∧(∀w,w∈y↔Lk links b w)∧y.length≤2*links.length):=by
 unfold D.v1
 refine AY (λs=>∃i:Nat,s.2=(i:Int)∧i≤links.length∧Inc s.1∧(∀w,w∈s.1↔Lk (links.take i) b w)∧s.1.length≤2*i) (λs=>links.length-s.2.toNat)
  (λr=>Inc r∧(∀w,w∈r↔Lk links b w)∧r.length≤2*links.length) ?_ ⟨0,rfl,by omega,by simp[Inc],by simp[Lk],by simp⟩ ?_
 ·rintro⟨s,_⟩ ⟨i,rfl,hi,hs,hm,hsl⟩
  dsimp only at hs hm hsl ⊢
  by_cases hil:i<links.length
  ·obtain⟨x,y,exy⟩:=hp _ (List.getElem_mem hil)
   have h0:idx [x,y] 0=some x:=rfl
   have h1:idx [x,y] 1=some y:=rfl
   simp only[dlt hil,cond_true,Au hil,exy,h0,h1,bs,wq i]
   have hLk:∀w,Lk (links.take (i+1)) b w↔Lk (links.take i) b w∨(x=b∧y=w)∨(y=b∧x=w):=by
    intro w
    unfold Lk
    rw[List.take_succ_eq_append_getElem hil,exy]
    simp only[List.mem_append,List.mem_singleton,List.cons.injEq,and_true]
    constructor
    ·rintro((h|⟨rfl,rfl⟩)|(h|⟨rfl,rfl⟩))
     ·exact .inl (.inl h)
     ·exact .inr (.inl ⟨rfl,rfl⟩)
     ·exact .inl (.inr h)
     ·exact .inr (.inr ⟨rfl,rfl⟩)
    ·rintro((h|h)|⟨rfl,rfl⟩|⟨rfl,rfl⟩)
     ·exact .inl (.inl h)
     ·exact .inr (.inl h)
     ·exact .inl (.inr ⟨rfl,rfl⟩)
     ·exact .inr (.inr ⟨rfl,rfl⟩)
   refine Cw (λt=>Inc t∧(∀w,w∈t↔w∈s∨(x=b∧y=w))∧t.length≤s.length+1) ?_ ?_
   ·by_cases hx:x=b
    ·have:(x==b)=true:=by simp[hx]
     simp only[this,cond_true,Dt s y hs (by omega),bs]
     exact⟨_,rfl,hs.into _,λw=>by rw[mem_into];simp[hx];constructor<;>(rintro(h|h)<;>simp[h]),into_len _ _⟩
    ·have:(x==b)=false:=by simpa using hx
     simp only[this,cond_false]
     exact⟨_,rfl,hs,λw=>by simp[hx],by omega⟩
   ·rintro t ⟨ht,htm,htl⟩
    by_cases hy:y=b
    ·have:(y==b)=true:=by simp[hy]
     simp only[this,cond_true,Dt t x ht (by omega),bs]
     refine⟨_,rfl,⟨i+1,rfl,by omega,ht.into _,λw=> ?_,?_⟩,by dsimp only;omega⟩
     ·dsimp only
      rw[hLk,mem_into,htm,hm]
      constructor
      ·rintro(rfl|h|h)
       ·exact .inr (.inr ⟨hy,rfl⟩)
       ·exact .inl h
       ·exact .inr (.inl h)
      ·rintro(h|h|⟨_,rfl⟩)
       ·exact .inr (.inl h)
       ·exact .inr (.inr h)
       ·exact .inl rfl
     ·have:=into_len t x;dsimp only;omega
    ·have:(y==b)=false:=by simpa using hy
     simp only[this,cond_false]
     refine⟨_,rfl,⟨i+1,rfl,by omega,ht,λw=> ?_,by dsimp only;omega⟩,by dsimp only;omega⟩
     dsimp only
     rw[hLk,htm,hm]
     constructor
     ·rintro(h|h)
      ·exact .inl h
      ·exact .inr (.inl h)
     ·rintro(h|h|⟨h,_⟩)
      ·exact .inl h
      ·exact .inr h
      ·exact absurd h hy
  ·obtain rfl:i=links.length:=by omega
   simp only[Ba,cond_false]
   rw[List.take_length] at hm
   exact⟨_,rfl,hs,hm,hsl⟩
 ·rintro r hr
  exact⟨_,rfl,hr⟩
structure Closed (links:LL)(sel m:LI):Prop where
 sub:∀x∈m,x∈sel
 first:∀x,sel.head? =some x→x∈m
 step:∀x∈m,∀y∈sel,Lk links x y→y∈m
theorem l9Reached_ok (bags links:LL)(sel:LI)(hl:links.length≤1000000)(hp:Pairs links)(hs:sel.length≤1000000)(hne:sel≠[]):
  ∃y,D.U bags links sel=some y∧∃m:LI,y=m.length∧m.Nodup∧Closed links sel m∧∀m',Closed links sel m'→∀x∈m,x∈m':=by
 unfold D.U
 obtain⟨x0,sel',rfl⟩:∃x l,sel=x::l:=by cases sel with
  |nil=>exact absurd rfl hne
  |cons x l=>exact⟨x,l,rfl⟩
 generalize hsel:x0::sel'=sel at*
 have hsh:Sh sel:=by unfold Sh;omega
 have e0:((sel.length:Int)==0)=false:=by rw[←hsel];simp;omega
 have e1:idx sel 0=some x0:=by rw[←hsel];rfl
 have hx0:x0∈sel:=by rw[←hsel];simp
 simp only[e0,cond_false,e1,bs]
 refine AY (λs=>∃i:Nat,s.2=(i:Int)∧i≤s.1.length∧s.1.Nodup∧(∀x∈s.1,x∈sel)∧x0∈s.1∧(∀m',Closed links sel m'→∀x∈s.1,x∈m')∧∀x∈s.1.take i,∀y∈sel,Lk links x y→y∈s.1) (λs=>sel.length-s.2.toNat)
  (λr=>r.Nodup∧Closed links sel r∧∀m',Closed links sel m'→∀x∈r,x∈m') ?_ ⟨0,rfl,by simp,by simp,by simpa using hx0,by simp,λm' hm' x hx=>by simp at hx;subst hx;exact hm'.first _ (by rw[←hsel];rfl),by simp⟩ ?_
 ·rintro⟨m,_⟩ ⟨i,rfl,hi,hn,hsub,hx,hmn,hc⟩
  dsimp only at hi hn hsub hx hmn hc ⊢
  have hml:=Cd hn hsub
  by_cases him:i<m.length
  ·simp only[dlt him,cond_true,Au him,bs]
   refine Cw _ (l9Near_ok bags links m[i] hl hp) ?_
   rintro near ⟨hni,hnm,hnl⟩
   refine AY (λs=>∃k:Nat,s.2=(k:Int)∧k≤near.length∧s.1.Nodup∧(∀x∈s.1,x∈sel)∧(∃t,s.1=m++t)∧(∀m',Closed links sel m'→∀x∈s.1,x∈m')∧∀y∈near.take k,y∈sel→y∈s.1) (λs=>near.length-s.2.toNat)
    (λr=>r.Nodup∧(∀x∈r,x∈sel)∧(∃t,r=m++t)∧(∀m',Closed links sel m'→∀x∈r,x∈m')∧∀y∈near,y∈sel→y∈r) ?_ ⟨0,rfl,by simp,hn,hsub,⟨[],by simp⟩,hmn,by simp⟩ ?_
   ·rintro⟨r,_⟩ ⟨k,rfl,hk,hrn,hrs,⟨t,rfl⟩,hrm,hrc⟩
    dsimp only at hrn hrs hrm hrc ⊢
    have hrl:=Cd hrn hrs
    have hrsh:Sh (m++t):=by unfold Sh;omega
    by_cases hkn:k<near.length
    ·have htk:=List.take_succ_eq_append_getElem hkn
     simp only[dlt hkn,cond_true,Au hkn,bs,Cb _ _ hsh,Cb _ _ hrsh,wq k]
     by_cases h1:near[k]∈sel
     ·by_cases h2:near[k]∈m++t
      ·simp only[h1,h2,decide_true,cond_true,Bool.not_true,cond_false,bs]
       refine⟨_,rfl,⟨k+1,rfl,by omega,hrn,hrs,⟨t,rfl⟩,hrm,λy hy hys=> ?_⟩,by dsimp only;omega⟩
       rw[htk] at hy
       rcases List.mem_append.1 hy with hy|hy
       ·exact hrc y hy hys
       ·simp at hy;subst hy;exact h2
      ·simp only[h1,h2,decide_true,decide_false,cond_true,Bool.not_false,bs]
       rw[AR (by simp at hrl ⊢;omega),bs]
       refine⟨_,rfl,⟨k+1,rfl,by omega,?_,λy hy=> ?_,⟨t++[near[k]],by simp⟩,λm' hm' y hy=> ?_,λy hy hys=> ?_⟩,by dsimp only;omega⟩
       ·have hp:(m++t++[near[k]]).Perm (near[k]::(m++t)):=List.perm_append_comm
        exact hp.nodup_iff.2 (List.nodup_cons.2 ⟨h2,hrn⟩)
       ·rcases List.mem_append.1 hy with hy|hy
        ·exact hrs y hy
        ·simp at hy;subst hy;exact h1
       ·rcases List.mem_append.1 hy with hy|hy
        ·exact hrm m' hm' y hy
        ·simp at hy;subst hy
         exact hm'.step m[i] (hmn m' hm' _ (List.getElem_mem him)) _ h1 ((hnm _).1 (List.getElem_mem hkn))
       ·dsimp only
        rw[htk] at hy
        rcases List.mem_append.1 hy with hy|hy
        ·exact List.mem_append_left _ (hrc y hy hys)
        ·simp at hy;subst hy;simp
     ·simp only[h1,decide_false,cond_false,bs]
      refine⟨_,rfl,⟨k+1,rfl,by omega,hrn,hrs,⟨t,rfl⟩,hrm,λy hy hys=> ?_⟩,by dsimp only;omega⟩
      rw[htk] at hy
      rcases List.mem_append.1 hy with hy|hy
      ·exact hrc y hy hys
      ·simp at hy;subst hy;exact absurd hys h1
    ·obtain rfl:k=near.length:=by omega
     simp only[Ba,cond_false]
     rw[List.take_length] at hrc
     exact⟨_,rfl,hrn,hrs,⟨t,rfl⟩,hrm,hrc⟩
   ·rintro r ⟨hrn,hrs,⟨t,rfl⟩,hrm,hrc⟩
    simp only[wq i]
    refine⟨_,rfl,⟨i+1,rfl,by simp;omega,hrn,hrs,List.mem_append_left _ hx,hrm,λx hx' y hy hxy=> ?_⟩,by dsimp only;omega⟩
    dsimp only at hx' ⊢
    rw[List.take_append_of_le_length (by omega),List.take_succ_eq_append_getElem him] at hx'
    rcases List.mem_append.1 hx' with hx'|hx'
    ·exact List.mem_append_left _ (hc x hx' y hy hxy)
    ·simp at hx';subst hx'
     exact hrc y ((hnm y).2 hxy) hy
  ·obtain rfl:i=m.length:=by omega
   simp only[Ba,cond_false]
   rw[List.take_length] at hc
   exact⟨_,rfl,hn,⟨hsub,λx hx'=>by rw[←hsel] at hx';simp at hx';subst hx';exact hx,hc⟩,hmn⟩
 ·rintro r ⟨h1,h2,h3⟩
  exact⟨_,rfl,r,rfl,h1,h2,h3⟩
def DE (links:LL)(sel:LI):Prop:=∀m,Closed links sel m→∀x∈sel,x∈m
def LinkIn (n:Nat)(l:LI):Prop:=∃a b:Nat,l=[(a:Int),(b:Int)]∧a<b∧b<n
theorem l1Edges_ok (g:LL)(hg:GOk g):∃y,D.o0 g=some y∧(y.length≤256∧∀e∈y,∃u v:Nat,e=[(u:Int),(v:Int)]∧u<g.length∧adj g u v∧u<v):=by
 have h16:=hg.n16
 unfold D.o0
 refine AY (λs=>∃u:Nat,s.2=(u:Int)∧u≤g.length∧s.1.length≤16*u∧∀e∈s.1,∃u v:Nat,e=[(u:Int),(v:Int)]∧u<g.length∧adj g u v∧u<v) (λs=>g.length-s.2.toNat)
  (λr=>r.length≤256∧∀e∈r,∃u v:Nat,e=[(u:Int),(v:Int)]∧u<g.length∧adj g u v∧u<v) ?_ ⟨0,rfl,by omega,by simp,by simp⟩ ?_
 ·rintro⟨l,_⟩ ⟨u,rfl,hu,hl,hE⟩
  dsimp only at hl hE ⊢
  unfold D.a
  simp only[bs]
  by_cases hug:u<g.length
  ·have hrl:=hg.row_len hug
   simp only[dlt hug,cond_true]
   refine AY (λs=>∃i:Nat,s.2=(i:Int)∧i≤(row g u).length∧s.1.length≤16*u+i∧∀e∈s.1,∃u v:Nat,e=[(u:Int),(v:Int)]∧u<g.length∧adj g u v∧u<v) (λs=>(row g u).length-s.2.toNat)
    (λr=>r.length≤16*u+16∧∀e∈r,∃u v:Nat,e=[(u:Int),(v:Int)]∧u<g.length∧adj g u v∧u<v) ?_ ⟨0,rfl,by omega,by dsimp only;omega,hE⟩ ?_
   ·rintro⟨l,_⟩ ⟨i,rfl,hi,hl,hE⟩
    dsimp only at hl hE ⊢
    simp only[Cj hug,bs]
    by_cases hir:i<(row g u).length
    ·obtain⟨v,ev,hv,hav⟩:=hg.mem hug (List.getElem_mem hir)
     simp only[dlt hir,cond_true,Au hir,ev,bs,wq i]
     by_cases huv:u<v
     ·simp only[dlt huv,cond_true]
      rw[AR (by simp;omega),bs]
      refine⟨_,rfl,⟨i+1,rfl,by omega,by simp;omega,λe he=> ?_⟩,by dsimp only;omega⟩
      rcases List.mem_append.1 he with he|he
      ·exact hE e he
      ·simp at he;subst he;exact⟨u,v,rfl,hug,hav,huv⟩
     ·have:decide ((u:Int)<(v:Int))=false:=by simp;omega
      simp only[this,cond_false]
      exact⟨_,rfl,⟨i+1,rfl,by omega,by dsimp only;omega,hE⟩,by dsimp only;omega⟩
    ·obtain rfl:i=(row g u).length:=by omega
     simp only[Ba,cond_false]
     exact⟨_,rfl,by omega,hE⟩
   ·rintro r ⟨h1,h2⟩
    simp only[wq u]
    exact⟨_,rfl,⟨u+1,rfl,by omega,by dsimp only;omega,h2⟩,by dsimp only;omega⟩
  ·obtain rfl:u=g.length:=by omega
   simp only[Ba,cond_false]
   exact⟨_,rfl,by omega,hE⟩
 ·rintro r hr
  exact⟨_,rfl,hr⟩
structure TB (g bags links:LL):Prop where
 n1:1≤bags.length
 n16:bags.length≤16
 many:links.length+1=bags.length
 lks:∀l∈links,LinkIn bags.length l
 sets:∀b∈bags,SetOf b g.length
 tree:DE links ((List.range bags.length).map Int.ofNat)
 edges:∀u v:Nat,u<g.length→adj g u v→∃b∈bags,(u:Int)∈b∧(v:Int)∈b
 some:∀v,v<g.length→Cy bags v≠[]
 conn:∀v,v<g.length→DE links (Cy bags v)
def rowF (r:LI)(u:Nat)(s:LL):LL:=(List.range r.length).foldl (λs i=>if(u:Int)<r.getD i 0 then s++[[(u:Int),r.getD i 0]] else s) s
theorem inner_edges (r:LI)(u:Nat)(s0:LL)(h:s0.length+r.length≤4294967296){step:LL×Int→Option ((LL×Int) ⊕ LL)}
  (hstep:∀s (i:Nat) (hi:i<r.length),step (s,(i:Int))=cond (decide ((u:Int)<r[i])) ((AN s [[(u:Int),r[i]]]).bind λl=>some (.inl (l,((i+1:Nat):Int)))) (some (.inl (s,((i+1:Nat):Int)))))
  (hend:∀s,step (s,(r.length:Int))=some (.inr s)):As step (s0,0)=some (rowF r u s0)∧(rowF r u s0).length≤s0.length+r.length:=by
 have key:=Ee (step:=step) r.length (λs i=>(s,i)) (λs i=>if(u:Int)<r.getD i 0 then s++[[(u:Int),r.getD i 0]] else s) (λs=>s) (λi s=>s.length≤s0.length+i) s0 (by omega)
  (λs i hi hs=> ?_) (λs _=>hend s)
 ·exact key
 ·have hg:r.getD i 0=r[i]:=AD hi 0
  refine⟨?_,?_⟩
  ·rw[hstep s i hi,hg]
   by_cases hc:(u:Int)<r[i]
   ·rw[decide_eq_true hc,cond_true,AR (by simp;omega),if_pos hc];rfl
   ·rw[decide_eq_false hc,cond_false,if_neg hc]
  ·rw[hg]
   split
   ·rw[List.length_append,List.length_singleton];omega
   ·omega
def De (g:LL):LL:=(List.range g.length).foldl (λs u=>rowF (row g u) u s) []
theorem l1Edges_eq (g:LL)(hg:GOk g):D.o0 g=some (De g):=by
 have h16:=hg.n16
 unfold D.o0 D.a
 have key:=Ee (ρ:=LL) (step:=(fun(s_482:LL×Int)=>match s_482 with|(l_485,x_490)=>(some (g.length:Int)).bind λy_731=>cond (decide (x_490<y_731)) ((As (σ:=LL×Int) (ρ:=(LL)) (fun(s_848:LL×Int)=>match s_848 with|(l_851,x_856)=>(idx g x_490).bind λe_914=>cond (decide (x_856<(e_914.length:Int))) ((idx g x_490).bind λe_921=>(idx e_921 x_856).bind λe_927=>cond (decide (x_490<e_927)) ((idx g x_490).bind λe_934=>(idx e_934 x_856).bind λe_940=>(AN l_851 ([([x_490,e_940]:LI)]:LL)).bind λl_957=>some (.inl (l_957,(IntKind.i64.wrap (x_856+1))))) (some (.inl (l_851,(IntKind.i64.wrap (x_856+1)))))) (some (.inr l_851))) (l_485,0)).bind λl_908=>some (.inl (l_908,(IntKind.i64.wrap (x_490+1))))) (some (.inr l_485))))
  g.length (λs i=>(s,i)) (λs u=>rowF (row g u) u s) (λs=>s) (λi s=>s.length≤16*i) [] (by simp) (λs u hu hs=> ?_) (λs _=> ?_)
 ·exact congrArg (λz=>Option.bind z λl=>some l) key.1
 ·have hr:=hg.row_len hu
  obtain⟨k1,k2⟩:=inner_edges (row g u) u s (by omega) (step:=(fun(s_848:LL×Int)=>match s_848 with|(l_851,x_856)=>(idx g (u:Int)).bind λe_914=>cond (decide (x_856<(e_914.length:Int))) ((idx g (u:Int)).bind λe_921=>(idx e_921 x_856).bind λe_927=>cond (decide ((u:Int)<e_927)) ((idx g (u:Int)).bind λe_934=>(idx e_934 x_856).bind λe_940=>(AN l_851 ([([(u:Int),e_940]:LI)]:LL)).bind λl_957=>some (.inl (l_957,(IntKind.i64.wrap (x_856+1))))) (some (.inl (l_851,(IntKind.i64.wrap (x_856+1)))))) (some (.inr l_851)))) (λs i hi=>by
    simp only[Cj hu,dlt hi,cond_true,Au hi,bs,wq i]) (λs=>by simp only[Cj hu,bs,Ba,cond_false])
  refine⟨?_,by omega⟩
  simp only[bs,dlt hu,cond_true,wq u]
  exact(congrArg (λz=>Option.bind z _) k1).trans rfl
 ·simp only[bs,Ba,cond_false]
theorem GOk.sh2 {g:LL}(hg:GOk g):Sh2 g:=by
 have h16:=hg.n16
 exact⟨by unfold Sh;omega,λr hr=>by have:=(hg.mem0 hr).1;unfold Sh;omega⟩
theorem gB_true {g:LL}(hg:GOk g):gB g=true:=(DC g).2 hg
theorem OOk.sh {g:LL}{o:LI}(hg:GOk g)(ho:OOk g o):Sh o:=by
 have:=hg.n16;have:=ho.len;unfold Sh;omega
structure Fill (g:LL)(o F L:LI):Prop where
 elim:D.g0 (g.map mk) o=some (F,L)
 f:FOk F g.length
 lenL:L.length=g.length
 vsL:∀u,u<g.length→VS (L.getD u 0)
 mono:∀u w,u<g.length→adj g u w→nb F u w=true
 lat:Lat F L o g.length
 peo:PEO F o
 same:PEO (g.map mk) o→F=g.map mk
 latb:∀(j:Nat) (v:Nat),o[j]? =some (v:Int)→∀w:Nat,nb L v w=true↔(w:Int)∉o.take (j+1)∧Bhd (g.map mk) (λx=>(x:Int)∈o.take j) v w
theorem fill_ex {g:LL}{o:LI}(hg:GOk g)(ho:OOk g o):∃F L,Fill g o F L:=by
 obtain⟨⟨F,L⟩,e,left,h⟩:=elim_ok hg.n16 (FOk.of hg) ho.len ho.rng ho.nd
 refine⟨F,L,e,h.f,h.lenL,h.vsL,λu w hu ha=>h.mono u w hu ((Dq hg hu).2 ha),h.lat,λj v u w hj=> ?_,h.same,λj v hj=>h.latb j v (by have:=(List.getElem?_eq_some_iff.1 hj).1;have:=ho.len;omega) hj⟩
 have hjl:=(List.getElem?_eq_some_iff.1 hj).1
 have:=ho.len
 exact h.peo j v u w (by omega) hj
theorem Dd (F:LI):(grow F).length=F.length:=by simp[grow]
theorem DP {g:LL}{o:LI}(ho:OOk g o){v:Nat}(hv:v<g.length):∃i:Nat,i<g.length∧o[i]? =some (v:Int):=by
 have hsub:∀x∈o,x∈(List.range g.length).map Int.ofNat:=λx hx=>by
  have:=ho.rng x hx
  exact List.mem_map.2 ⟨x.toNat,List.mem_range.2 (by omega),by show ((x.toNat:Nat):Int)=x;omega⟩
 by_cases hm:(v:Int)∈o
 ·obtain⟨i,hi,e⟩:=List.getElem_of_mem hm
  exact⟨i,by have:=ho.len;omega,by rw[List.getElem?_eq_getElem hi,e]⟩
 ·exfalso
  have h1:((v:Int)::o).length≤((List.range g.length).map Int.ofNat).length:=Cd (List.nodup_cons.2 ⟨hm,ho.nd⟩) (λx hx=>by
   rcases List.mem_cons.1 hx with rfl|hx
   ·exact List.mem_map.2 ⟨v,List.mem_range.2 hv,rfl⟩
   ·exact hsub x hx)
  have:=ho.len
  simp at h1
  omega
theorem least_of {P:Nat→Prop}(h:∃j,P j):∃j,P j∧∀i,i<j→¬P i:=by
 obtain⟨j,hj⟩:=h
 induction j using Nat.strongRecOn with
 |ind j ih=>
  by_cases hc:∃i,i<j∧P i
  ·obtain⟨i,h1,h2⟩:=hc;exact ih i h1 h2
  ·exact⟨j,hj,λi hi hp=>hc ⟨i,hi,hp⟩⟩
theorem FZ {α:Type}(p:α→Bool){l:List α}{i:Nat}(hi:i<l.length):(l.take (i+1)).filter p=(l.take i).filter p++(if p l[i] then [l[i]] else []):=by
 rw[List.take_succ_eq_append_getElem hi,List.filter_append]
 congr 1
 rw[List.filter_cons,List.filter_nil]
def lft (g:LL)(v:Nat)(gone:List Bool):LI:=(row g v).filter λx=> !gone.getD x.toNat false
theorem l7Left_eq (g:LL)(hg:GOk g){v:Nat}(hv:v<g.length)(gone:List Bool)(hl:gone.length=g.length):D.L0 g (v:Int) gone=some (lft g v gone):=by
 have hr:=hg.row_len hv
 unfold D.L0 lft
 refine(BP (λi=>(((row g v).take i).filter (λx=> !gone.getD x.toNat false),(i:Int))) (row g v).length ((row g v).filter λx=> !gone.getD x.toNat false) (by simp) (λi hi=> ?_) ?_).trans rfl
 ·obtain⟨w,e1,h1,_⟩:=hg.mem hv (List.getElem_mem hi)
  have hlen:(((row g v).take i).filter (λx=> !gone.getD x.toNat false)).length≤16:=Nat.le_trans (List.length_filter_le _ _) (by simp;omega)
  simp only[Cj hv,bs,dlt hi,cond_true,Au hi,e1,Au (show w<gone.length by omega),wq i]
  have e3:=FZ (λx:Int=> !gone.getD x.toNat false) hi
  rw[e1] at e3
  simp only[Int.toNat_natCast,AD (show w<gone.length by omega)] at e3
  rw[e3]
  cases hc:gone[w]
  ·rw[Bool.not_false,cond_true,AR (by rw[List.length_singleton];omega),bs];rfl
  ·rw[Bool.not_true,cond_false];simp
 ·simp only[Cj hv,bs,Ba,cond_false,List.take_length]
theorem l1Edge_eq (g:LL)(hg:GOk g){u:Nat}(hu:u<g.length)(w:Int):D.r g (u:Int) w=some (decide (w∈row g u)):=by
 unfold D.r
 rw[Cj hu,bs,Cb _ _ (hg.sh2.row hu)];rfl
theorem lft_inc {g:LL}(hg:GOk g){v:Nat}(hv:v<g.length)(gone:List Bool):Inc (lft g v gone):=List.Pairwise.filter _ (hg.rows v hv).1
def sumN (f:Nat→Nat):Nat→Nat
 |0=>0
 |n+1=>sumN f n+f n
def bit (b:Bool):Nat:=if b then 1 else 0
def S2 (n:Nat)(p:Nat→Nat→Bool):Nat:=sumN (λu=>sumN (λw=>bit (p u w)) n) n
def els (s:Int)(i:Nat):LI:=((List.range i).filter (has s)).map Int.ofNat
theorem els_succ (s:Int)(i:Nat):els s (i+1)=if has s i then els s i++[(i:Int)] else els s i:=by
 unfold els
 rw[List.range_succ,List.filter_append,List.map_append]
 cases h:has s i<;>simp[h]
theorem Fv {s:Int}{n:Nat}(hn:n≤32)(h:∀v,has s v=true→v<n):els s n=Ap s:=by
 unfold els Ap
 obtain⟨k,hk⟩:∃k,32=n+k:=⟨32-n,by omega⟩
 rw[hk,List.range_add,List.filter_append]
 have:((List.range k).map (λx=>n+x)).filter (has s)=[]:=by
  rw[List.filter_eq_nil_iff]
  intro x hx hc
  obtain⟨y,_,rfl⟩:=List.mem_map.1 hx
  have:=h _ hc;omega
 rw[this,List.append_nil]
theorem elems_rm {s:Int}{b:Nat}(h:VS s)(hb:has s b=true):(Ap s).length=(Ap (iandNot .u32 s (ishl .u32 1 (b:Int)))).length+1:=by
 have hb32:b<32:=by
  by_cases hv:b<32
  ·exact hv
  ·rw[D4 h (by omega)] at hb;cases hb
 have hm:∀x,x∈Ap s↔x∈(b:Int)::Ap (iandNot .u32 s (ishl .u32 1 (b:Int))):=λx=>by
  rw[List.mem_cons,mem_elems,mem_elems]
  constructor
  ·rintro⟨v,h1,h2,rfl⟩
   by_cases e:v=b
   ·left;omega
   ·right;exact⟨v,h1,by rw[Bl h (VS.ishl _ _),B3 hb32,h2];simp[e],rfl⟩
  ·rintro(rfl|⟨v,h1,h2,rfl⟩)
   ·exact⟨b,hb32,hb,rfl⟩
   ·rw[Bl h (VS.ishl _ _),Bool.and_eq_true] at h2
    exact⟨v,h1,h2.1,rfl⟩
 have hn:((b:Int)::Ap (iandNot .u32 s (ishl .u32 1 (b:Int)))).Nodup:=by
  refine List.nodup_cons.2 ⟨λhc=> ?_,(BD _).nodup⟩
  rw[AS (VS.iandNot _ _),Bl h (VS.ishl _ _),B3 hb32] at hc
  simp at hc
 have:=nodup_all (BD s).nodup hn (λx hx=>(hm x).1 hx) (λx hx=>(hm x).2 hx)
 simpa using this
def full (n:Nat):Int:=IntKind.u32.wrap (ishl .u32 1 (n:Int)-1)
theorem CF (n:Nat):VS (full n):=VS.wrap _
theorem CP {n:Nat}(h:n≤16)(v:Nat):has (full n) v=decide (v<n):=by
 by_cases hv:v<32
 ·exact all_mask ⟨n,by omega⟩ ⟨v,hv⟩
 ·rw[D4 (CF n) (by omega)];symm;simp;omega
theorem Dr (F:LI):D.n F=some (full F.length):=by
 unfold D.n D.y1
 have:decide ((F.length:Int)<0)=false:=by simp
 rw[this];rfl
def Ca (n:Nat)(s:Int):List Bool:=(List.range n).map λv=> !has s v
theorem DU (n:Nat)(s:Int):(Ca n s).length=n:=by simp[Ca]
theorem Fm {n:Nat}{s:Int}{v:Nat}(h:v<n){h':v<(Ca n s).length}:(Ca n s)[v]= !has s v:=by
 simp[Ca]
theorem EQ {n:Nat}{s:Int}{v:Nat}(h:v<n):(Ca n s).getD v false= !has s v:=by
 unfold Ca
 rw[AD (by simpa using h)];simp
theorem goneOf_idx {n:Nat}{s:Int}{v:Nat}(h:v<n):idx (Ca n s) (v:Int)=some (!has s v):=by
 rw[Au (by rw[DU];exact h),←EQ h,AD (by rw[DU];exact h)]
theorem goneOf_set {n b:Nat}{s:Int}(hs:VS s)(hb:b<n)(hn:n≤32):(Ca n s).set b true=Ca n (iandNot .u32 s (ishl .u32 1 (b:Int))):=by
 apply List.ext_getElem
 ·simp[Ca]
 ·intro i h1 h2
  have hi:i<n:=by simpa [Ca] using h2
  rw[List.getElem_set,Fm hi,Fm hi,Bl hs (VS.ishl _ _),B3 (by omega)]
  by_cases e:b=i
  ·subst e;simp
  ·rw[if_neg e]
   have:decide (i=b)=false:=by simp;omega
   simp[this]
theorem FK {n:Nat}(h:n≤16):List.replicate n false=Ca n (full n):=by
 apply List.ext_getElem
 ·simp[Ca]
 ·intro i h1 h2
  have hi:i<n:=by simpa [Ca] using h2
  rw[List.getElem_replicate,Fm hi,CP h]
  simp[hi]
theorem lft_gone {g:LL}(hg:GOk g){s:Int}(hs:VS s){v:Nat}(hv:v<g.length):lft g v (Ca g.length s)=Ap (iand .u32 (mk (row g v)) s):=by
 have h16:=hg.n16
 refine Inc.ext (lft_inc hg hv _) (BD _) (λx=> ?_)
 unfold lft
 rw[List.mem_filter,mem_elems]
 constructor
 ·rintro⟨h1,h2⟩
  obtain⟨w,rfl,hw,ha⟩:=hg.mem hv h1
  rw[Int.toNat_natCast,EQ hw,Bool.not_not] at h2
  refine⟨w,by omega,?_,rfl⟩
  rw[Ch (VS.mk _) hs,h2,Dc (λx hx=>by have:=(hg.rows v hv).2 x hx;omega)]
  simpa using h1
 ·rintro⟨w,_,h2,rfl⟩
  rw[Ch (VS.mk _) hs,Dc (λx hx=>by have:=(hg.rows v hv).2 x hx;omega)] at h2
  simp only[Bool.and_eq_true,decide_eq_true_eq] at h2
  have hw:w<g.length:=by have:=(hg.rows v hv).2 _ h2.1;omega
  exact⟨h2.1,by rw[Int.toNat_natCast,EQ hw,h2.2];rfl⟩
section
variable {g : LL} {o : LI} (hg : GOk g) (ho : OOk g o)
include hg ho
end
end Go.Sx

namespace Go.Sx
section
variable {g : LL} {o : LI} (hg : GOk g) (ho : OOk g o)
include hg ho
omit hg ho in
theorem l1Max_eq (a b:Int):D.K a b=some (max a b):=by
 unfold D.K
 by_cases h:b<a
 ·simp only[h,decide_true,cond_true];congr 1;omega
 ·simp only[h,decide_false,cond_false];congr 1;omega
def mx (f:Nat→Int):Nat→Int
 |0=>0
 |n+1=>max (mx f n) (f n)
end
end Go.Sx

namespace Go.Sx
def dg (g:LL)(s:Int)(v:Int):Int:=((Ap (iand .u32 (mk (row g v.toNat)) s)).length:Int)
structure SQ (n:Nat)(s:Int)(k:Nat):Prop where
 vs:VS s
 lt:∀v,has s v=true→v<n
 card:(Ap s).length=k
theorem SQ.full {n:Nat}(h:n≤16):SQ n (full n) n:=by
 refine⟨CF n,λv hv=>by rw[CP h] at hv;exact of_decide_eq_true hv,?_⟩
 rw[←Fv (n:=n) (by omega) (λv hv=>by rw[CP h] at hv;exact of_decide_eq_true hv)]
 unfold els
 rw[List.length_map,List.filter_eq_self.2 (λv hv=>by rw[CP h];exact decide_eq_true (List.mem_range.1 hv)),List.length_range]
theorem SQ.rm {n k b:Nat}{s:Int}(h:SQ n s (k+1))(hb:has s b=true):SQ n (iandNot .u32 s (ishl .u32 1 (b:Int))) k:=by
 refine⟨VS.iandNot _ _,λv hv=> ?_,?_⟩
 ·rw[Bl h.vs (VS.ishl _ _),Bool.and_eq_true] at hv
  exact h.lt v hv.1
 ·have:=elems_rm h.vs hb
  have:=h.card
  omega
theorem SQ.ne {n k:Nat}{s:Int}(h:SQ n s (k+1)):Ap s≠[]:=λe=>by have:=h.card;rw[e] at this;simp at this
theorem SQ.z {n:Nat}{s:Int}(h:SQ n s 0):s=0:=by
 rw[h.vs.eq_zero]
 intro v hv
 cases hc:has s v
 ·rfl
 ·have:(v:Int)∈Ap s:=(AS h.vs).2 hc
  have h0:=h.card
  rw[List.length_eq_zero_iff] at h0
  rw[h0] at this;simp at this
theorem graph_ext {g g':LL}(hg:GOk g)(hg':GOk g')(hl:g.length=g'.length)(h:∀a b:Nat,a<g.length→(adj g a b↔adj g' a b)):g=g':=by
 apply List.ext_getElem hl
 intro i h1 h2
 rw[←row_eq h1,←row_eq h2]
 refine Inc.ext (hg.rows i h1).1 (hg'.rows i h2).1 (λx=> ?_)
 constructor
 ·intro hx
  obtain⟨w,rfl,_,ha⟩:=hg.mem h1 hx
  exact(h i w h1).1 ha
 ·intro hx
  obtain⟨w,rfl,_,ha⟩:=hg'.mem h2 hx
  exact(h i w h1).2 ha
theorem grow_of {g:LL}(hg:GOk g):grow (g.map mk)=g:=by
 have hf:=FOk.of hg
 refine graph_ext (GOk.grow hf hg.n1 hg.n16) hg (by rw[Dd,hf.len]) (λa b ha=> ?_)
 rw[Dd,hf.len] at ha
 rw[DI hf ha,Dq hg ha]
theorem l7Clique_ok {g:LL}(hg:GOk g){l:LI}(hi:Inc l)(hr:∀x∈l,0≤x∧x<g.length):
  ∃g',D.N0 g l=some g'∧(GOk g'∧g'.length=g.length∧∀a b:Nat,adj g' a b↔adj g a b∨(a≠b∧(a:Int)∈l∧(b:Int)∈l)):=by
 have h16:=hg.n16
 have hl:=hi.short (n:=g.length) hr
 unfold D.N0
 refine AY (λs=>∃i:Nat,s.2=(i:Int)∧i≤l.length∧GOk s.1∧s.1.length=g.length∧∀a b:Nat,adj s.1 a b↔adj g a b∨(a≠b∧(a:Int)∈l.take i∧(b:Int)∈l.take i)) (λs=>l.length-s.2.toNat)
  (λr=>GOk r∧r.length=g.length∧∀a b:Nat,adj r a b↔adj g a b∨(a≠b∧(a:Int)∈l∧(b:Int)∈l)) ?_ ⟨0,rfl,by omega,hg,rfl,λa b=>by simp⟩ (λr h=>⟨r,rfl,h⟩)
 rintro⟨G,_⟩ ⟨i,rfl,hil,hG,hGl,hA⟩
 dsimp only at hG hGl hA ⊢
 by_cases hlt:i<l.length
 ·have r1:=hr _ (List.getElem_mem hlt)
  obtain⟨v,ev⟩:∃v:Nat,l[i]=(v:Int):=⟨l[i].toNat,by omega⟩
  simp only[dlt hlt,cond_true]
  refine AY (λs=>∃k:Nat,s.2=(k:Int)∧k≤i∧GOk s.1∧s.1.length=g.length∧∀a b:Nat,adj s.1 a b↔adj G a b∨(a=v∧(b:Int)∈l.take k)∨(b=v∧(a:Int)∈l.take k)) (λs=>i-s.2.toNat)
   (λr=>GOk r∧r.length=g.length∧∀a b:Nat,adj r a b↔adj G a b∨(a=v∧(b:Int)∈l.take i)∨(b=v∧(a:Int)∈l.take i)) ?_ ⟨0,rfl,by omega,hG,hGl,λa b=>by simp⟩ ?_
  ·rintro⟨G',_⟩ ⟨k,rfl,hk,hG',hGl',hA'⟩
   dsimp only at hG' hGl' hA' ⊢
   by_cases hkl:k<i
   ·have hkk:k<l.length:=by omega
    have r2:=hr _ (List.getElem_mem hkk)
    obtain⟨u,eu⟩:∃u:Nat,l[k]=(u:Int):=⟨l[k].toNat,by omega⟩
    have hne:l[k]<l[i]:=(List.pairwise_iff_getElem.1 hi) k i hkk hlt hkl
    obtain⟨g2,q1,q2,q3,q4⟩:=l1Link_ok hG' (u:=u) (v:=v) (by omega) (by omega) (by omega)
    simp only[dlt hkl,cond_true,Au hkk,Au hlt,bs,eu,ev,q1,wq k]
    refine⟨_,rfl,⟨k+1,rfl,by omega,q2,by dsimp only;omega,λa b=> ?_⟩,by dsimp only;omega⟩
    dsimp only
    rw[q4,hA',List.take_succ_eq_append_getElem hkk,eu]
    simp only[List.mem_append,List.mem_singleton,Int.natCast_inj]
    constructor
    ·rintro((h|⟨h1,h2⟩|⟨h1,h2⟩)|⟨h1,h2⟩|⟨h1,h2⟩)
     ·exact .inl h
     ·exact .inr (.inl ⟨h1,.inl h2⟩)
     ·exact .inr (.inr ⟨h1,.inl h2⟩)
     ·exact .inr (.inr ⟨h2,.inr h1⟩)
     ·exact .inr (.inl ⟨h1,.inr h2⟩)
    ·rintro(h|⟨h1,h2|h2⟩|⟨h1,h2|h2⟩)
     ·exact .inl (.inl h)
     ·exact .inl (.inr (.inl ⟨h1,h2⟩))
     ·exact .inr (.inr ⟨h1,h2⟩)
     ·exact .inl (.inr (.inr ⟨h1,h2⟩))
     ·exact .inr (.inl ⟨h2,h1⟩)
   ·obtain rfl:k=i:=by omega
    simp only[Ba,cond_false]
    exact⟨_,rfl,hG',hGl',hA'⟩
  ·rintro r ⟨q1,q2,q3⟩
   rw[wq i]
   refine⟨_,rfl,⟨i+1,rfl,by omega,q1,q2,λa b=> ?_⟩,by dsimp only;omega⟩
   dsimp only
   have hvt:(v:Int)∉l.take i:=by
    rw[←ev];exact nodup_iff.1 hi.nodup i hlt
   rw[q3,hA,List.take_succ_eq_append_getElem hlt,ev]
   simp only[List.mem_append,List.mem_singleton,Int.natCast_inj]
   constructor
   ·rintro((h|⟨h0,h1,h2⟩)|⟨h1,h2⟩|⟨h1,h2⟩)
    ·exact .inl h
    ·exact .inr ⟨h0,.inl h1,.inl h2⟩
    ·refine .inr ⟨λe=> ?_,.inr h1,.inl h2⟩
     subst e;subst h1;exact hvt h2
    ·refine .inr ⟨λe=> ?_,.inl h2,.inr h1⟩
     subst e;subst h1;exact hvt h2
   ·rintro(h|⟨h0,h1|h1,h2|h2⟩)
    ·exact .inl (.inl h)
    ·exact .inl (.inr ⟨h0,h1,h2⟩)
    ·exact .inr (.inr ⟨h2,h1⟩)
    ·exact .inr (.inl ⟨h1,h2⟩)
    ·exact absurd (h1.trans h2.symm) h0
 ·obtain rfl:i=l.length:=by omega
  simp only[Ba,cond_false]
  rw[List.take_length] at hA
  exact⟨_,rfl,hG,hGl,hA⟩
theorem FOk.clique {F F':LI}{n:Nat}{S:Int}(h:FOk F n)(hS:∀w,has S w=true→w<n)(hl:F'.length=n)(hv:∀u,u<n→VS (F'.getD u 0))(h':∀u w,u<n→nb F' u w=(nb F u w||(has S u&&has S w&&decide (w≠u)))):FOk F' n:=by
 refine⟨hl,hv,λu w hu hh=> ?_,λu hu=> ?_,λu w hu hh=> ?_⟩
 ·rw[h' u w hu] at hh
  simp only[Bool.or_eq_true,Bool.and_eq_true] at hh
  rcases hh with hh|⟨⟨_,hh⟩,_⟩
  ·exact h.lt u w hu hh
  ·exact hS w hh
 ·rw[h' u u hu,h.irr u hu];simp
 ·rw[h' u w hu] at hh
  simp only[Bool.or_eq_true,Bool.and_eq_true,decide_eq_true_eq] at hh
  rcases hh with hh|⟨⟨h1,h2⟩,h3⟩
  ·rw[h' w u (h.lt u w hu hh),h.sym u w hu hh];rfl
  ·rw[h' w u (hS w h2),h1,h2]
   have:decide (u≠w)=true:=by simpa using λe=>h3 e.symm
   simp[this]
theorem eliminate_ok {F:LI}{n b:Nat}{s:Int}(h16:n≤16)(h:FOk F n)(hs:VS s)(hb:b<n):
  ∃F',D.t2 F s (b:Int)=some F'∧(FOk F' n∧∀u w,u<n→nb F' u w=(nb F u w||((nb F b u&&has s u)&&(nb F b w&&has s w)&&decide (w≠u)))):=by
 have hlen:=h.len
 unfold D.t2
 have hFb:idx F (b:Int)=some (F.getD b 0):=by rw[Au (by omega),AD (by omega)]
 rw[hFb]
 simp only[bs,B2]
 have hSV:VS (iandNot .u32 (iand .u32 (F.getD b 0) s) (ishl .u32 1 (b:Int))):=VS.iandNot _ _
 have hS:∀w,has (iandNot .u32 (iand .u32 (F.getD b 0) s) (ishl .u32 1 (b:Int))) w=(nb F b w&&has s w):=λw=>by
  rw[Bl (VS.iand _ _) (VS.ishl _ _),Ch (h.vs b hb) hs,B3 (by omega)]
  by_cases e:w=b
  ·subst e
   have:=h.irr w hb
   unfold nb at this ⊢
   rw[this];simp
  ·unfold nb;simp[e]
 have hSn:∀w,has (iandNot .u32 (iand .u32 (F.getD b 0) s) (ishl .u32 1 (b:Int))) w=true→w<n:=λw hw=>by
  rw[hS,Bool.and_eq_true] at hw
  exact h.lt b w hb hw.1
 generalize iandNot .u32 (iand .u32 (F.getD b 0) s) (ishl .u32 1 (b:Int))=S at*
 rw[C5 S hSV,bs]
 refine AY (λst=>∃i:Nat,st.2=(i:Int)∧i≤(Ap S).length∧st.1.length=n∧(∀u,u<n→VS (st.1.getD u 0))∧∀u w,u<n→nb st.1 u w=(nb F u w||(decide ((u:Int)∈(Ap S).take i)&&has S w&&decide (w≠u)))) (λst=>(Ap S).length-st.2.toNat)
  (λF'=>F'.length=n∧(∀u,u<n→VS (F'.getD u 0))∧∀u w,u<n→nb F' u w=(nb F u w||(has S u&&has S w&&decide (w≠u)))) ?_ ⟨0,rfl,by omega,hlen,h.vs,λu w _=>by simp⟩ ?_
 ·rintro⟨l,_⟩ ⟨i,rfl,hi,hl,hv,hh⟩
  dsimp only at hl hv hh ⊢
  have hle:=BO S
  by_cases hlt:i<(Ap S).length
  ·obtain⟨u0,h1,h2,h3⟩:=mem_elems.1 (List.getElem_mem hlt)
   have h4:=hSn u0 h2
   simp only[dlt hlt,cond_true,Au hlt,bs,h3,Au (show u0<l.length by omega),B2,wq i,Int.toNat_natCast]
   refine⟨_,rfl,⟨i+1,rfl,by omega,by simp[hl],λu hu=> ?_,λu w hu=> ?_⟩,by dsimp only;omega⟩
   ·rw[Db _ _ _ _ (by omega)]
    split
    ·exact VS.ior _ _
    ·exact hv u hu
   ·have hmem:((u:Int)∈(Ap S).take (i+1))↔((u:Int)∈(Ap S).take i∨u=u0):=by
     rw[List.take_succ_eq_append_getElem hlt,List.mem_append,h3]
     simp[Int.natCast_inj]
    unfold nb
    rw[Db _ _ _ _ (by omega)]
    by_cases hc:u=u0
    ·subst hc
     rw[if_pos rfl]
     have hg:l[u]=l.getD u 0:=(AD (by omega) 0).symm
     rw[hg,CV (hv u hu) (VS.iandNot _ _),Bl hSV (VS.ishl _ _),B3 (by omega)]
     have:=hh u w hu
     unfold nb at this
     rw[this,decide_eq_true (hmem.2 (.inr rfl))]
     cases has (F.getD u 0) w<;>cases has S w<;>by_cases hw:w=u<;>simp[hw]
    ·rw[if_neg hc]
     have:=hh u w hu
     unfold nb at this
     rw[this]
     have:decide ((u:Int)∈(Ap S).take (i+1))=decide ((u:Int)∈(Ap S).take i):=by
      rw[Bool.eq_iff_iff,decide_eq_true_eq,decide_eq_true_eq,hmem];simp[hc]
     rw[this]
  ·obtain rfl:i=(Ap S).length:=by omega
   simp only[Ba,cond_false]
   refine⟨_,rfl,hl,hv,λu w hu=> ?_⟩
   rw[hh u w hu,List.take_length]
   congr 3
   rw[Bool.eq_iff_iff,decide_eq_true_eq,AS hSV]
 ·rintro F' ⟨q1,q2,q3⟩
  refine⟨_,rfl,h.clique hSn q1 q2 q3,λu w hu=> ?_⟩
  rw[q3 u w hu,hS,hS]
noncomputable def Eo (F:LI)(s b:Int):LI:=(D.t2 F s b).getD []
theorem elimF_ok {F:LI}{n b:Nat}{s:Int}(h16:n≤16)(h:FOk F n)(hs:VS s)(hb:b<n):
  D.t2 F s (b:Int)=some (Eo F s b)∧FOk (Eo F s b) n∧∀u w,u<n→nb (Eo F s b) u w=(nb F u w||((nb F b u&&has s u)&&(nb F b w&&has s w)&&decide (w≠u))):=by
 obtain⟨F',e,h1,h2⟩:=eliminate_ok h16 h hs hb
 have:Eo F s b=F':=by unfold Eo;rw[e];rfl
 rw[this];exact⟨e,h1,h2⟩
theorem lft_grow {F:LI}{n v:Nat}{s:Int}(h1:1≤n)(h16:n≤16)(h:FOk F n)(hs:VS s)(hv:v<n):lft (grow F) v (Ca n s)=Ap (iand .u32 (F.getD v 0) s):=by
 have hl:(grow F).length=n:=by rw[Dd,h.len]
 have:=lft_gone (GOk.grow h h1 h16) hs (v:=v) (by omega)
 rw[hl,row_grow,mk_elems (h.vs v hv)] at this
 exact this
theorem clique_grow {F:LI}{n b:Nat}{s:Int}(h1:1≤n)(h16:n≤16)(h:FOk F n)(hs:VS s)(hb:b<n):
  D.N0 (grow F) (lft (grow F) b (Ca n (iandNot .u32 s (ishl .u32 1 (b:Int)))))=some (grow (Eo F s b)):=by
 obtain⟨_,e2,e3⟩:=elimF_ok h16 h hs hb
 have hG:=GOk.grow h h1 h16
 have hl:(grow F).length=n:=by rw[Dd,h.len]
 rw[lft_grow h1 h16 h (VS.iandNot _ _) hb]
 have hm:∀w:Nat,(w:Int)∈Ap (iand .u32 (F.getD b 0) (iandNot .u32 s (ishl .u32 1 (b:Int))))↔(nb F b w&&has s w)=true:=λw=>by
  rw[AS (VS.iand _ _),Ch (h.vs b hb) (VS.iandNot _ _),Bl hs (VS.ishl _ _),B3 (by omega)]
  by_cases e:w=b
  ·subst e
   have:=h.irr w hb
   unfold nb at this ⊢
   rw[this];simp
  ·unfold nb;simp[e]
 obtain⟨g',q1,q2,q3,q4⟩:=l7Clique_ok hG (l:=Ap (iand .u32 (F.getD b 0) (iandNot .u32 s (ishl .u32 1 (b:Int))))) (BD _) (λx hx=>by
  obtain⟨w,_,_,rfl⟩:=mem_elems.1 hx
  have:=(hm w).1 hx
  rw[Bool.and_eq_true] at this
  have:=h.lt b w hb this.1
  omega)
 rw[q1]
 congr 1
 refine graph_ext q2 (GOk.grow e2 h1 h16) (by rw[q3,Dd,Dd,h.len,e2.len]) (λu w hu=> ?_)
 have hu':u<n:=by omega
 rw[q4,DI e2 hu',DI h hu',e3 u w hu',hm,hm]
 simp only[Bool.or_eq_true,Bool.and_eq_true,decide_eq_true_eq]
 constructor
 ·rintro(h|⟨h,h1,h2⟩)
  ·exact .inl h
  ·exact .inr ⟨⟨h1,h2⟩,λe=>h e.symm⟩
 ·rintro(h|⟨⟨h1,h2⟩,h⟩)
  ·exact .inl h
  ·exact .inr ⟨λe=>h e.symm,h1,h2⟩
theorem l1CopyGraph_eq {g:LL}(hg:GOk g):D.G1 g=some g:=by
 have h16:=hg.n16
 unfold D.G1
 refine(Ef g (λs i=>(i,s)) (λr=>r) (by omega) (λs i hi _=> ?_) (λs=> ?_)).trans (by simp)
 ·simp only[dlt hi,cond_true,Au hi,bs,C9 _ (hg.sh2.2 _ (List.getElem_mem hi)),wq i]
 ·simp only[Ba,cond_false]
def CQ (F:LI)(K:Int):Prop:=∀u w,has K u=true→has K w=true→u≠w→nb F u w=true
def MX (F:LI)(n:Nat)(K:Int):Prop:=CQ F K∧∀w,w<n→has K w=false→∃u,has K u=true∧nb F u w=false
def In (n:Nat)(K:Int):Prop:=VS K∧∀w,has K w=true→w<n
theorem DY :33≤BL:=by have:=Eu;omega
theorem Into_deep :D.V1=D.j:=rfl
theorem elems_mk {n:Nat}{x:LI}(hn:n≤16)(hi:Inc x)(hr:∀z∈x,0≤z∧z<n):Ap (mk x)=x:=by
 have h32:∀z∈x,0≤z∧z<32:=λz hz=>by have:=hr z hz;omega
 refine Inc.ext (BD _) hi (λz=> ?_)
 rw[mem_elems]
 constructor
 ·rintro⟨v,_,h,rfl⟩
  rw[Dc h32] at h
  exact of_decide_eq_true h
 ·intro hz
  have:=h32 z hz
  refine⟨z.toNat,by omega,?_,by omega⟩
  rw[Dc h32,show ((z.toNat:Nat):Int)=z by omega]
  exact decide_eq_true hz
def Cq (g:LL)(x:LI):Prop:=∀u w:Nat,(u:Int)∈x→(w:Int)∈x→u≠w→adj g u w
theorem inc_len {n:Nat}{x:LI}(hi:Inc x)(hr:∀z∈x,0≤z∧z<n):x.length≤n:=by
 have:=Cd (m:=(List.range n).map Int.ofNat) hi.nodup (λz hz=>by
  have:=hr z hz
  exact List.mem_map.2 ⟨z.toNat,List.mem_range.2 (by omega),by show ((z.toNat:Nat):Int)=z;omega⟩)
 simpa using this
structure GC (g:LL)(l:LI):Prop where
 up:l.Pairwise λa b=>lkey a<lkey b
 mem:∀K,K∈l↔In g.length K∧MX (g.map mk) g.length K
def mis (F:LI)(n:Nat)(S:Int):Nat:=S2 n (λu w=>has S u&&(has S w&&(decide (w<u)&& !nb F w u)))
def cd (F:LI)(s v:Int):Int:=((Ap (iand .u32 (F.getD v.toNat 0) s)).length:Int)
def cf (n:Nat)(F:LI)(s v:Int):Int:=(mis F n (iand .u32 (F.getD v.toNat 0) s):Int)
section
variable {g : LL} (hg : GOk g)
include hg
end
end Go.Sx

namespace Go.Sx
def ch (cs:LI)(i v:Nat):Bool:=has (cs.getD i 0) v
def Opn (cs:LI)(p:Int)(v:Nat):Prop:=(∃i,i<cs.length∧has p i=true∧ch cs i v=true)∧∃i,i<cs.length∧has p i=false∧ch cs i v=true
def Ft (cs:LI)(p:Int)(k:Nat):Prop:=k<cs.length∧has p k=false∧∀v,Opn cs p v→ch cs k v=true
def Goes (cs:LI):Int→LI→Prop
 |p,[]=>∀i,i<cs.length→has p i=true
 |p,x::l=>∃k:Nat,x=(k:Int)∧Ft cs p k∧Goes cs (ior .u32 p (ishl .u32 1 (k:Int))) l
section
variable {cs : LI} (hvs : ∀ s ∈ cs, VS s) (hm : cs.length ≤ 16)
include hvs hm
end
end Go.Sx

namespace Go.Sx
theorem loop_first {ρ:Type}{step:Int→Option (Int ⊕ ρ)}(xs:LI)(p:Int→Bool)(mkr:Int→ρ)(fin:ρ)
  (hstep:∀i (h:i<xs.length),step (i:Int)=if p xs[i] then some (.inr (mkr xs[i])) else some (.inl ((i+1:Nat):Int))) (hend:step (xs.length:Int)=some (.inr fin)):
  As step 0=some (match xs.find? p with|some x=>mkr x|none=>fin):=by
 have key:∀(k i:Nat),i+k=xs.length→As step (i:Int)=some (match(xs.drop i).find? p with|some x=>mkr x|none=>fin):=by
  intro k
  induction k with
  |zero=>
   intro i hi
   obtain rfl:i=xs.length:=by omega
   rw[Bd hend,List.drop_length];rfl
  |succ k ih=>
   intro i hi
   have hil:i<xs.length:=by omega
   rw[List.drop_eq_getElem_cons hil,List.find?_cons]
   by_cases hp:p xs[i]=true
   ·rw[Bd (r:=mkr xs[i]) (by rw[hstep i hil,if_pos hp]),hp]
   ·rw[BF (s':=((i+1:Nat):Int)) (by rw[hstep i hil,if_neg hp]),ih (i+1) (by omega)]
    have:p xs[i]=false:=by simpa using hp
    rw[this]
 exact key xs.length 0 (by omega)
section
variable {g : LL} (hg : GOk g)
include hg
end
end Go.Sx

namespace Go.Sx
structure Iv (g:LL)(L R:Nat→Int):Prop where
 le:∀v,v<g.length→L v≤R v
 ad:∀u v,u<g.length→v<g.length→(adj g u v↔u≠v∧L u≤R v∧L v≤R u)
section
variable {g : LL} (hg : GOk g)
include hg
variable {L R : Nat → Int} (hI : Iv g L R)
include hI
end
end Go.Sx

namespace Go.Sx
structure Un (cs:LI)(m:Nat)(U:LI):Prop where
 len:U.length=2^m
 vs:∀b,b<2^m→VS (U.getD b 0)
 hs:∀b,b<2^m→∀v,has (U.getD b 0) v=true↔∃i,i<m∧b.testBit i=true∧ch cs i v=true
section
variable {cs U : LI} (hs : ∀ s ∈ cs, VS s) (hm : cs.length ≤ 16) (hU : Un cs cs.length U)
include hs hm hU
end
end Go.Sx

namespace Go.Sx
section
variable {F : LI} {n : Nat} (hF : FOk F n) (h1 : 1 ≤ n) (h16 : n ≤ 16) {L : Int} (hL : VS L)
include hF h1 h16 hL
end
end Go.Sx

namespace Go.Sx
noncomputable def ef (g:LL)(o:LI):Nat→LI×LI×Int
 |0=>(g.map mk,List.replicate g.length 0,full g.length)
 |i+1=>(Eo (ef g o i).1 (ef g o i).2.2 (o.getD i 0),(ef g o i).2.1.set (o.getD i 0).toNat (iand .u32 ((ef g o i).1.getD (o.getD i 0).toNat 0) (iandNot .u32 (ef g o i).2.2 (ishl .u32 1 (o.getD i 0)))),
   iandNot .u32 (ef g o i).2.2 (ishl .u32 1 (o.getD i 0)))
section
variable {g : LL} {o : LI} (hg : GOk g) (ho : OOk g o)
include hg ho
theorem Ev :∀i,i≤g.length→EInv g.length (g.map mk) o i (ef g o i).1 (ef g o i).2.1 (ef g o i).2.2
 |0,_=>by
  have h16:=hg.n16
  refine⟨FOk.of hg,by simp[ef],λu hu=> ?_,CF _,λv=> ?_,λu w _ h=>h,λj v hj=>by omega,λj v u w hj=>by omega,λ_=>rfl,λu w hu _ _ _=>⟨λhh=>⟨u,.me,hh⟩,fun⟨x,hx,e⟩=> ?_⟩,λj v hj=>by omega⟩
  ·rw[show (ef g o 0).2.1=List.replicate g.length 0 from rfl,List.getD_eq_getElem?_getD,List.getElem?_replicate]
   split<;>exact VS.zero
  ·rw[show (ef g o 0).2.2=full g.length from rfl,CP h16];simp
  ·rcases hx.end_ with e2|e2
   ·rw[←e2];exact e
   ·simp at e2
 |i+1,hi=>by
  have h16:=hg.n16;have hl:=ho.len
  have ih:=Ev i (by omega)
  have hio:i<o.length:=by omega
  have hr:=ho.rng _ (List.getElem_mem hio)
  obtain⟨v,hv⟩:∃v:Nat,o[i]=(v:Int):=⟨o[i].toNat,by omega⟩
  have hvn:v<g.length:=by omega
  have hd:o.getD i 0=(v:Int):=by rw[AD hio,hv]
  obtain⟨_,k1,k2⟩:=elimF_ok (b:=v) h16 ih.f ih.vsl hvn
  simp only[ef,hd,Int.toNat_natCast]
  refine ih.step h16 (FOk.of hg) ho.rng ho.nd hio hv k1.len k1.vs (λu w hu=> ?_)
  rw[k2 u w hu,Ch (ih.f.vs v hvn) (VS.iandNot _ _),Ch (ih.f.vs v hvn) (VS.iandNot _ _),Bl ih.vsl (VS.ishl _ _),Bl ih.vsl (VS.ishl _ _),B3 (by omega),B3 (by omega)]
  have hirr:=ih.f.irr v hvn
  have e:∀x,(has ((ef g o i).1.getD v 0) x&&(has (ef g o i).2.2 x&& !decide (x=v)))=(nb (ef g o i).1 v x&&has (ef g o i).2.2 x):=λx=>by
   by_cases e:x=v
   ·subst e;rw[show has ((ef g o i).1.getD x 0) x=nb (ef g o i).1 x x from rfl,hirr];simp
   ·unfold nb;simp[e]
  rw[e,e]
theorem elim_ef :D.g0 (g.map mk) o=some ((ef g o g.length).1,(ef g o g.length).2.1):=by
 have h16:=hg.n16;have hl:=ho.len
 have hlen:(g.map mk).length=g.length:=by simp
 unfold D.g0
 rw[AR (by simp;omega),bs]
 obtain⟨s,e1,hs1,hs2⟩:=FV (g.map mk) (by omega)
 rw[e1,bs,CI (by omega) (by omega),bs]
 simp only[bs,List.nil_append]
 have hsf:s=full g.length:=hs1.ext (CF _) (λw _=>by rw[hs2,CP h16,hlen])
 refine(BP (λi=>((ef g o i).1,(ef g o i).2.1,(ef g o i).2.2,(i:Int))) g.length ((ef g o g.length).1,(ef g o g.length).2.1) (by simp[ef,hsf]) (λi hi=> ?_) ?_).trans rfl
 ·have h:=Ev hg ho i (by omega)
  have h':=Ev hg ho (i+1) (by omega)
  have hio:i<o.length:=by omega
  have hr:=ho.rng _ (List.getElem_mem hio)
  obtain⟨v,hv⟩:∃v:Nat,o[i]=(v:Int):=⟨o[i].toNat,by omega⟩
  have hvn:v<g.length:=by omega
  have hd:o.getD i 0=(v:Int):=by rw[AD hio,hv]
  obtain⟨_,q1,q2⟩:=elimF_ok (b:=v) h16 h.f h.vsl hvn
  simp only[ef,hd,Int.toNat_natCast] at h' ⊢
  generalize (ef g o i).1=F at*
  generalize (ef g o i).2.1=L at*
  generalize (ef g o i).2.2=left at*
  have hFv:idx F (v:Int)=some (F.getD v 0):=by rw[Au (by rw[h.f.len];omega),AD (by rw[h.f.len];omega)]
  have hLs:idx (L.set v (iand .u32 (F.getD v 0) (iandNot .u32 left (ishl .u32 1 (v:Int))))) (v:Int)=some (iand .u32 (F.getD v 0) (iandNot .u32 left (ishl .u32 1 (v:Int)))):=by
   rw[Au (by simp[h.lenL];omega)];simp
  simp only[dlt hio,cond_true,Au hio,hv,bs,B2,hFv,Au (show v<L.length by rw[h.lenL];omega),Int.toNat_natCast]
  rw[hLs]
  simp only[bs,C5 _ (VS.iand _ _)]
  have hSlt:∀w,has (iand .u32 (F.getD v 0) (iandNot .u32 left (ishl .u32 1 (v:Int)))) w=true→w<g.length:=λw hw=>by
   rw[Ch (h.f.vs v hvn) (VS.iandNot _ _)] at hw
   simp only[Bool.and_eq_true] at hw
   exact h.f.lt v w hvn hw.1
  obtain⟨F',e2,k1,k2,k3⟩:=inner_ok F _ _ h16 h.f.len h.f.vs (VS.iand _ _) hSlt hLs
  have hFF:F'=Eo F left (v:Int):=by
   refine FOk.ext k1 q1.len k2 q1.vs (λu w hu=> ?_)
   rw[k3 u w hu,q2 u w hu,Ch (h.f.vs v hvn) (VS.iandNot _ _),Ch (h.f.vs v hvn) (VS.iandNot _ _),Bl h.vsl (VS.ishl _ _),Bl h.vsl (VS.ishl _ _),B3 (by omega),B3 (by omega)]
   have hirr:=h.f.irr v hvn
   have e:∀x,(has (F.getD v 0) x&&(has left x&& !decide (x=v)))=(nb F v x&&has left x):=λx=>by
    by_cases e:x=v
    ·subst e;rw[show has (F.getD x 0) x=nb F x x from rfl,hirr];simp
    ·unfold nb;simp[e]
   rw[e,e]
  rw[hLs] at e2
  simp only[bs] at e2
  rw[e2,bs,wq i,hFF]
 ·simp only[hl,Ba,cond_false]
theorem l7Fill_ef :D.T0 g o=some (grow (ef g o g.length).1):=by
 have h16:=hg.n16;have hl:=ho.len;have hn1:=hg.n1
 unfold D.T0 D.a
 rw[l1CopyGraph_eq hg,bs,bs,CI (by omega) (by omega),bs]
 refine(BP (λi=>(Ca g.length (ef g o i).2.2,(i:Int),grow (ef g o i).1)) g.length (grow (ef g o g.length).1) (by simp only[ef];rw[FK h16,grow_of hg];rfl) (λi hi=> ?_) ?_).trans rfl
 ·have h:=Ev hg ho i (by omega)
  have hio:i<o.length:=by omega
  have hr:=ho.rng _ (List.getElem_mem hio)
  obtain⟨v,hv⟩:∃v:Nat,o[i]=(v:Int):=⟨o[i].toNat,by omega⟩
  have hvn:v<g.length:=by omega
  have hd:o.getD i 0=(v:Int):=by rw[AD hio,hv]
  simp only[ef,hd]
  generalize (ef g o i).1=F at*
  generalize (ef g o i).2.1=L at*
  generalize (ef g o i).2.2=s at*
  have hG:=GOk.grow h.f hn1 h16
  have hGl:(grow F).length=g.length:=by rw[Dd,h.f.len]
  have hl7:=l7Left_eq (grow F) hG (show v<(grow F).length by omega) (Ca g.length (iandNot .u32 s (ishl .u32 1 (v:Int)))) (by rw[DU];omega)
  simp only[dlt hio,cond_true,Au hio,hv,bs,goneOf_idx hvn,Int.toNat_natCast,goneOf_set h.vsl hvn (show g.length≤32 by omega),hl7,clique_grow hn1 h16 h.f h.vsl hvn,wq i]
 ·simp only[hl,Ba,cond_false]
end
end Go.Sx

namespace Go.Sx
structure Net (A:LI)(n:Nat):Prop where
 len:A.length=n
 vs:∀u,u<n→VS (A.getD u 0)
 lt:∀u w,u<n→nb A u w=true→w<n
theorem FOk.net {A:LI}{n:Nat}(h:FOk A n):Net A n:=⟨h.len,h.vs,h.lt⟩
structure Rch (A:LI)(W:Int)(v:Nat)(S:Int):Prop where
 vs:VS S
 me:has S v=true
 step:∀x y,has S x=true→nb A x y=true→has W y=true→has S y=true
 least:∀T:Nat→Prop,T v→(∀x y,T x→nb A x y=true→has W y=true→T y)→∀x,has S x=true→T x
theorem reach_ok {A:LI}{n:Nat}(hn:n≤16)(hA:Net A n){v:Nat}(hv:v<n){W:Int}(hW:VS W):∃S,D.V A (v:Int) W=some S∧Rch A W v S∧∀x,has S x=true→x<n:=by
 unfold D.V
 rw[B2,bs]
 refine AY (λS=>VS S∧has S v=true∧(∀x,has S x=true→x<n)∧∀T:Nat→Prop,T v→(∀x y,T x→nb A x y=true→has W y=true→T y)→∀x,has S x=true→T x) (λS=>n-(Ap S).length)
  (λS=>Rch A W v S∧∀x,has S x=true→x<n) ?_ ?_ (λr hr=>⟨r,rfl,hr⟩)
 ·rintro S ⟨hS,hv',hlt,hT⟩
  have hle:=BO S
  simp only[C5 S hS,bs]
  have hin:=AY (step:=(fun(s_223:Int×Int)=>match s_223 with|(x_226,x_227)=>cond (decide (x_227<((Ap S).length:Int))) ((idx (Ap S) x_227).bind λe_246=>(idx A e_246).bind λe_252=>some (.inl ((ior .u32 x_226 (iand .u32 e_252 W)),(IntKind.i64.wrap (x_227+1))))) (some (.inr x_226)))) (s:=(S,0)) (k:=λr=>some r) (Q:=λX:Int=>VS X∧∀y,has X y=true↔has S y=true∨∃u:Nat,has S u=true∧nb A u y=true∧has W y=true)
   (λs=>∃k:Nat,s.2=(k:Int)∧k≤(Ap S).length∧VS s.1∧∀y,has s.1 y=true↔has S y=true∨∃u:Nat,(u:Int)∈(Ap S).take k∧nb A u y=true∧has W y=true) (λs=>(Ap S).length-s.2.toNat) (λX=>VS X∧∀y,has X y=true↔has S y=true∨∃u:Nat,has S u=true∧nb A u y=true∧has W y=true)
   ?_ ⟨0,rfl,by omega,hS,λy=>by simp⟩ (λr hr=>⟨r,rfl,hr⟩)
  ·obtain⟨X,hX,hX1,hX2⟩:=hin
   rw[Option.bind_eq_some_iff] at hX
   obtain⟨z,e1,e2⟩:=hX
   cases e2
   rw[e1,bs]
   by_cases hc:X=S
   ·subst hc
    simp only[beq_self_eq_true,cond_true]
    refine⟨_,rfl,⟨hS,hv',λx y h1 h2 h3=>(hX2 y).2 (.inr ⟨x,h1,h2,h3⟩),hT⟩,hlt⟩
   ·have e3:(X==S)=false:=by simpa using hc
    simp only[e3,cond_false]
    have hXlt:∀x,has X x=true→x<n:=λx hx=>by
     rcases(hX2 x).1 hx with h|⟨u,h1,h2,_⟩
     ·exact hlt x h
     ·exact hA.lt u x (hlt u h1) h2
    refine⟨_,rfl,⟨hX1,(hX2 v).2 (.inl hv'),hXlt,λT h1 h2 x hx=> ?_⟩,?_⟩
    ·rcases(hX2 x).1 hx with h|⟨u,h3,h4,h5⟩
     ·exact hT T h1 h2 x h
     ·exact h2 u x (hT T h1 h2 u h3) h4 h5
    ·
     obtain⟨w,hw,hws⟩:∃w:Nat,has X w=true∧has S w=false:=by
      apply Classical.byContradiction
      intro hno
      refine hc (hX1.ext hS (λw _=> ?_))
      rw[Bool.eq_iff_iff]
      refine⟨λh=> ?_,λh=>(hX2 w).2 (.inl h)⟩
      cases hh:has S w
      ·exact absurd ⟨w,h,hh⟩ hno
      ·rfl
     have h1:((w:Int)::Ap S).length≤(Ap X).length:=Cd (List.nodup_cons.2 ⟨λhm=>by rw[AS hS,hws] at hm;exact Bool.noConfusion hm,(BD S).nodup⟩) (λx hx=>by
      rcases List.mem_cons.1 hx with rfl|hx
      ·rw[AS hX1];exact hw
      ·obtain⟨u,_,h2,rfl⟩:=mem_elems.1 hx
       rw[AS hX1];exact(hX2 u).2 (.inl h2))
     have h2:(Ap X).length≤n:=(BD X).short (n:=n) (λx hx=>by
      obtain⟨u,_,h2,rfl⟩:=mem_elems.1 hx
      have:=hXlt u h2;omega)
     simp at h1
     show n-(Ap X).length<n-(Ap S).length
     omega
  ·rintro⟨X,_⟩ ⟨k,rfl,hk,hX1,hX2⟩
   dsimp only at hX1 hX2 ⊢
   by_cases hkl:k<(Ap S).length
   ·obtain⟨u,_,h2,h3⟩:=mem_elems.1 (List.getElem_mem hkl)
    have hu:=hlt u h2
    have hAu:idx A (u:Int)=some (A.getD u 0):=by rw[Au (by rw[hA.len];exact hu),AD (by rw[hA.len];exact hu)]
    simp only[dlt hkl,cond_true,Au hkl,bs,h3,hAu,wq k]
    refine⟨_,rfl,⟨k+1,rfl,hkl,VS.ior _ _,λy=> ?_⟩,by dsimp only;omega⟩
    dsimp only
    rw[CV hX1 (VS.iand _ _),Bool.or_eq_true,Ch (hA.vs u hu) hW,Bool.and_eq_true,hX2,List.take_succ_eq_append_getElem hkl,h3]
    constructor
    ·rintro((h|⟨u',h4,h5⟩)|⟨h4,h5⟩)
     ·exact .inl h
     ·exact .inr ⟨u',List.mem_append_left _ h4,h5⟩
     ·exact .inr ⟨u,List.mem_append_right _ (by simp),h4,h5⟩
    ·rintro(h|⟨u',h4,h5,h6⟩)
     ·exact .inl (.inl h)
     ·rcases List.mem_append.1 h4 with h4|h4
      ·exact .inl (.inr ⟨u',h4,h5,h6⟩)
      ·simp at h4
       obtain rfl:u'=u:=by omega
       exact .inr ⟨h5,h6⟩
   ·obtain rfl:k=(Ap S).length:=by omega
    simp only[Ba,cond_false]
    refine⟨_,rfl,hX1,λy=> ?_⟩
    rw[hX2,List.take_length]
    constructor
    ·rintro(h|⟨u,h1,h2⟩)
     ·exact .inl h
     ·exact .inr ⟨u,(AS hS).1 h1,h2⟩
    ·rintro(h|⟨u,h1,h2⟩)
     ·exact .inl h
     ·exact .inr ⟨u,(AS hS).2 h1,h2⟩
 ·refine⟨VS.ishl _ _,by rw[B3 (by omega)];simp,λx hx=> ?_,λT h1 _ x hx=> ?_⟩
  ·rw[B3 (by omega)] at hx
   have:=of_decide_eq_true hx;omega
  ·rw[B3 (by omega)] at hx
   rw[of_decide_eq_true hx];exact h1
theorem l1Same_eq (x y:LI)(hx:Sh x):D.l0 x y=some (decide (x=y)):=by
 unfold Sh at hx
 unfold D.l0
 by_cases hl:x.length=y.length
 ·have e:((x.length:Int) !=(y.length:Int))=false:=by simp[hl]
  rw[e,cond_false]
  refine(CE x.length (λi=>x.getD i 0==y.getD i 0) false (λi hi=> ?_) ?_ rfl rfl).trans ?_
  ·have hi':i<y.length:=by omega
   simp only[dlt hi,cond_true,Au hi,Au hi',bs,AD hi,AD hi',wq i]
   by_cases h:x[i]=y[i]
   ·have:(x[i] !=y[i])=false:=by simp[h]
    rw[this,cond_false,if_pos (by simp[h])]
   ·have:(x[i] !=y[i])=true:=by simp[h]
    rw[this,cond_true,if_neg (by simp[h])]
  ·simp only[Ba,cond_false]
  ·congr 1
   rw[Bool.eq_iff_iff,CZ,decide_eq_true_eq]
   constructor
   ·intro h
    exact ext_getD hl (λj hj=>by have:=h j hj;simpa using this)
   ·rintro rfl i _;simp
 ·have e:((x.length:Int) !=(y.length:Int))=true:=by simp;omega
  rw[e,cond_true,decide_eq_false (λh=>hl (by rw[h]))]
abbrev Pr :=Int×Int×Int
theorem loop_set {α S ρ β:Type}{step:S→Option (S ⊕ ρ)}{k:ρ→Option β}{s0:S}(xs ys:List α)(hl:xs.length=ys.length)(enc:List α→Int→S)(r:ρ)(h0:enc ys 0=s0)
  (hstep:∀l (i:Nat) (h:i<xs.length),l.length=xs.length→step (enc l i)=some (.inl (enc (l.set i xs[i]) ((i+1:Nat):Int))))
  (hend:step (enc xs xs.length)=some (.inr r)):(As step s0).bind k=k r:=by
 refine BP (λi=>enc (xs.take i++ys.drop i) (i:Int)) xs.length r (by simpa using h0) (λi hi=> ?_) ?_
 ·have e:(xs.take i++ys.drop i).set i xs[i]=xs.take (i+1)++ys.drop (i+1):=by
   rw[List.take_succ_eq_append_getElem hi,List.drop_eq_getElem_cons (show i<ys.length by omega),List.set_append_right _ _ (by simp;omega)]
   have e0:i-(xs.take i).length=0:=by rw[List.length_take];omega
   rw[e0,List.set_cons_zero,List.append_assoc];rfl
  rw[hstep _ i hi (by simp;omega),e]
 ·rw[←hend,List.take_length,hl,List.drop_length,List.append_nil]
theorem toS_eq (xs:LI)(h:Sh xs):D.z xs=some xs:=by
 unfold Sh at h
 unfold D.z
 rw[CI (by omega) (by omega),bs]
 refine(loop_set xs (List.replicate xs.length 0) (by simp) (λl i=>(l,i)) xs rfl (λl i hi hl=> ?_) ?_).trans rfl
 ·simp only[dlt hi,cond_true,Au hi,Au (show i<l.length by omega),bs,wq i,Int.toNat_natCast]
 ·simp only[Ba,cond_false]
theorem toSS_eq (xs:LL)(h:Sh2 xs):D.E1 xs=some xs:=by
 obtain⟨h,h2⟩:=h
 unfold Sh at h
 unfold D.E1
 rw[CI (by omega) (by omega),bs]
 refine(loop_set xs (List.replicate xs.length []) (by simp) (λl i=>(l,i)) xs rfl (λl i hi hl=> ?_) ?_).trans rfl
 ·simp only[dlt hi,cond_true,Au hi,Au (show i<l.length by omega),bs,wq i,Int.toNat_natCast,toS_eq _ (h2 _ (List.getElem_mem hi))]
 ·simp only[Ba,cond_false]
theorem toGraph_eq (g:LL)(h:Sh2 g):D.F g=some g:=by
 unfold D.F;rw[toSS_eq g h];rfl
theorem FP {α:Type}[DecidableEq α](xs ys:List α)(d:α)(hl:xs.length=ys.length):(List.range xs.length).all (λi=>decide (xs.getD i d=ys.getD i d))=decide (xs=ys):=by
 rw[Bool.eq_iff_iff,CZ,decide_eq_true_eq]
 constructor
 ·intro h
  apply List.ext_getElem hl
  intro i h1 h2
  have:=h i h1
  rw[AD h1,AD h2] at this
  exact of_decide_eq_true this
 ·rintro rfl i _;simp
theorem eqS_eq (xs ys:LI)(h:Sh xs):D.p xs ys=some (decide (xs=ys)):=by
 unfold Sh at h
 unfold D.p
 by_cases hl:xs.length=ys.length
 ·have e:((xs.length:Int) !=(ys.length:Int))=false:=by simp[hl]
  rw[e,cond_false,←FP xs ys 0 hl]
  refine CE xs.length _ false (λi hi=> ?_) ?_ rfl rfl
  ·have hi':i<ys.length:=by omega
   simp only[dlt hi,cond_true,Au hi,Au hi',bs,wq i,AD hi,AD hi']
   by_cases hc:xs[i]=ys[i]
   ·simp[hc]
   ·have:(xs[i] !=ys[i])=true:=by simpa using hc
    simp[hc,this]
  ·simp only[Ba,cond_false]
 ·have e:((xs.length:Int) !=(ys.length:Int))=true:=by simp;omega
  have:xs≠ys:=by rintro rfl;exact hl rfl
  simp[e,this]
theorem eqSS_eq (xs ys:LL)(h:Sh2 xs):D.w0 xs ys=some (decide (xs=ys)):=by
 obtain⟨h,h2⟩:=h
 unfold Sh at h
 unfold D.w0
 by_cases hl:xs.length=ys.length
 ·have e:((xs.length:Int) !=(ys.length:Int))=false:=by simp[hl]
  rw[e,cond_false,←FP xs ys [] hl]
  refine CE xs.length _ false (λi hi=> ?_) ?_ rfl rfl
  ·have hi':i<ys.length:=by omega
   simp only[dlt hi,cond_true,Au hi,Au hi',bs,wq i,AD hi,AD hi',eqS_eq _ _ (h2 _ (List.getElem_mem hi))]
   by_cases hc:xs[i]=ys[i]
   ·simp[hc]
   ·simp[hc]
  ·simp only[Ba,cond_false]
 ·have e:((xs.length:Int) !=(ys.length:Int))=true:=by simp;omega
  have:xs≠ys:=by rintro rfl;exact hl rfl
  simp[e,this]
theorem eqGraph_eq (xs ys:LL)(h:Sh2 xs):D.p1 xs ys=some (decide (xs=ys)):=by
 unfold D.p1;rw[eqSS_eq xs ys h,bs];cases decide (xs=ys)<;>rfl
def tot :LL→Int
 |[]=>0
 |x::xs=>x.length+tot xs
theorem Cg :∀xs,0≤tot xs
 |[]=>Int.le_refl _
 |x::xs=>by have:=Cg xs;simp only[tot];omega
theorem Fy :∀xs ys,tot (xs++ys)=tot xs+tot ys
 |[],ys=>by simp[tot]
 |x::xs,ys=>by simp only[List.cons_append,tot,Fy xs ys];omega
theorem tot_mem :∀{xs:LL} {x},x∈xs→(x.length:Int)≤tot xs
 |y::xs,x,h=>by
  have:=Cg xs
  simp only[tot]
  rcases List.mem_cons.1 h with rfl|h
  ·omega
  ·have:=tot_mem h;omega
theorem tot_take {xs:LL}{i:Nat}(h:i<xs.length):tot (xs.take (i+1))=tot (xs.take i)+xs[i].length:=by
 rw[List.take_succ_eq_append_getElem h,Fy];simp[tot]
theorem tot_le {xs:LL}{n:Int}(h:∀x∈xs,(x.length:Int)≤n):tot xs≤xs.length*n:=by
 induction xs with
 |nil=>simp[tot]
 |cons x xs ih=>
  have:=ih (λy hy=>h y (by simp[hy]))
  have:=h x (by simp)
  simp only[tot,List.length_cons,Int.natCast_add,Int.add_mul];omega
theorem Sh2.of_tot {xs:LL}(h:Sh xs)(h2:tot xs≤4294967296):Sh2 xs:=⟨h,λx hx=>by have:=tot_mem hx;unfold Sh;omega⟩
theorem szS_eq (xs:LI)(k:Int)(hx:(xs.length:Int)≤9223372036854775807)(h0:0≤k)(h1:k≤1048576):
  D.y xs k=some (if(xs.length:Int)≤k then k-xs.length else-1):=by
 unfold D.y
 rw[w64 (by omega) (by omega)]
 by_cases h:k-(xs.length:Int)<0
 ·rw[if_neg (by omega)];simp[h]
 ·rw[if_pos (by omega)];simp[h]
theorem szSS_eq (xs:LL)(k:Int)(hx:(xs.length:Int)≤9223372036854775807)(hx2:∀x∈xs,(x.length:Int)≤9223372036854775807)(h0:0≤k)(h1:k≤1048576):
  ∃y,D.z1 xs k=some y∧(y<0∨(y+xs.length+tot xs=k∧0≤y)):=by
 unfold D.z1
 rw[w64 (by omega) (by omega)]
 by_cases h:k-(xs.length:Int)<0
 ·simp only[h,decide_true,cond_true];exact⟨-1,rfl,.inl (by omega)⟩
 ·simp only[h,decide_false,cond_false]
  have key:∀(n i:Nat) (l:Int),i+n=xs.length→0≤l→l+tot (xs.take i)=k-xs.length→
    ∃r,As (σ:=Int×Int) (ρ:=(Int) ⊕ (Int)) (fun(s_39:Int×Int)=>match s_39 with|(x_42,x_43)=>cond (decide (x_43<(xs.length:Int))) ((idx xs x_43).bind λe_64=>(D.y e_64 x_42).bind λy_70=>cond (decide (y_70<0)) (some (.inr (.inr (-1)))) (some (.inl (y_70,(IntKind.i64.wrap (x_43+1)))))) (some (.inr (.inl x_42)))) (l,(i:Int))=some r∧
     (r= .inr (-1)∨∃y,r= .inl y∧y+xs.length+tot xs=k∧0≤y):=by
   intro n
   induction n with
   |zero=>
    intro i l hi hl he
    obtain rfl:i=xs.length:=by omega
    refine⟨.inl l,Bd (by simp only[Ba,cond_false]),.inr ⟨l,rfl,?_,hl⟩⟩
    rw[List.take_length] at he;omega
   |succ n ih=>
    intro i l hi hl he
    have hil:i<xs.length:=by omega
    have ht:=Cg (xs.take i)
    have e1:=szS_eq xs[i] l (hx2 _ (List.getElem_mem hil)) hl (by omega)
    by_cases hc:(xs[i].length:Int)≤l
    ·rw[if_pos hc] at e1
     obtain⟨r,hr,hp⟩:=ih (i+1) (l-xs[i].length) (by omega) (by omega) (by rw[tot_take hil];omega)
     refine⟨r,?_,hp⟩
     rw[BF (s':=(l-xs[i].length,((i+1:Nat):Int)))]
     ·exact hr
     ·have hd:decide (l-(xs[i].length:Int)<0)=false:=by simp;omega
      simp only[dlt hil,cond_true,Au hil,bs,e1,hd,cond_false,wq i]
    ·rw[if_neg hc] at e1
     refine⟨.inr (-1),Bd ?_,.inl rfl⟩
     have hd:decide ((-1:Int)<0)=true:=by decide
     simp only[dlt hil,cond_true,Au hil,bs,e1,hd]
  obtain⟨r,hr,hp⟩:=key xs.length 0 (k-xs.length) (by omega) (by omega) (by simp[tot])
  rw[show ((0:Nat):Int)=0 from rfl] at hr
  rw[hr,bs]
  rcases hp with rfl|⟨y,rfl,h1,h2⟩
  ·exact⟨-1,rfl,.inl (by omega)⟩
  ·exact⟨y,rfl,.inr ⟨h1,h2⟩⟩
theorem szGraph_eq (xs:LL)(k:Int)(hx:(xs.length:Int)≤9223372036854775807)(hx2:∀x∈xs,(x.length:Int)≤9223372036854775807)(h0:0≤k)(h1:k≤1048576):
  ∃y,D.o1 xs k=some y∧(y<0∨(y+xs.length+tot xs=k∧0≤y)):=by
 obtain⟨y,e,h⟩:=szSS_eq xs k hx hx2 h0 h1
 unfold D.o1
 rw[e,bs]
 by_cases hy:y<0
 ·simp only[hy,decide_true,cond_true];exact⟨-1,rfl,.inl (by omega)⟩
 ·simp only[hy,decide_false,cond_false];exact⟨y,rfl,h⟩
def Cm (k:Int)(n:Nat):LI:=(List.range n).map fun(i:Nat)=>k+(i:Int)
theorem Du (k:Int)(n:Nat):(Cm k n).length=n:=by simp[Cm]
theorem numsI_get (k:Int){n i:Nat}(h:i<(Cm k n).length):(Cm k n)[i]=k+(i:Int):=by simp[Cm]
def BR (k:Int):LL→LL
 |[]=>[]
 |x::xs=>Cm k x.length::BR (k+x.length) xs
theorem marked_app :∀xs ys k,BR k (xs++ys)=BR k xs++BR (k+tot xs) ys
 |[],ys,k=>by simp[BR,tot]
 |x::xs,ys,k=>by simp only[List.cons_append,BR,marked_app xs ys,tot];rw[show k+(x.length:Int)+tot xs=k+(x.length+tot xs) by omega]
theorem Dg :∀xs k,(BR k xs).length=xs.length
 |[],_=>rfl
 |x::xs,k=>by simp[BR,Dg xs]
theorem marked_get :∀(xs:LL) (k:Int) (i:Nat) (h:i<xs.length),(BR k xs)[i]'(by rw[Dg];exact h)=Cm (k+tot (xs.take i)) xs[i].length
 |x::xs,k,0,h=>by simp[BR,tot]
 |x::xs,k,i+1,h=>by
  simp only[BR,List.getElem_cons_succ,List.take_succ_cons,tot]
  rw[marked_get xs (k+x.length) i (by simpa using h)]
  congr 1;omega
theorem markS_eq (xs:LI)(k:Int)(h:Sh xs)(h0:0≤k)(h1:k≤4611686018427387904):D.o xs k=some (k+xs.length,Cm k xs.length):=by
 unfold Sh at h
 unfold D.o
 have e:(Cm k xs.length++xs.drop xs.length)=Cm k xs.length:=by simp
 refine(BP (λi=>(Cm k i++xs.drop i,k+(i:Int),(i:Int))) xs.length (Cm k xs.length,k+(xs.length:Int)) (by simp[Cm]) (λi hi=> ?_) ?_).trans rfl
 ·have hl:(Cm k i++xs.drop i).length=xs.length:=by simp[Du];omega
  have hi':i<(Cm k i++xs.drop i).length:=by omega
  have hset:(Cm k i++xs.drop i).set i (k+i)=Cm k (i+1)++xs.drop (i+1):=by
   rw[List.drop_eq_getElem_cons hi,List.set_append_right _ _ (by rw[Du];omega)]
   simp only[Du,Nat.sub_self,List.set_cons_zero]
   unfold Cm
   rw[List.range_succ,List.map_append];simp
  simp only[dlt hi',cond_true,Au hi',bs,wq i,Int.toNat_natCast,hset]
  rw[w64 (by omega) (by omega)]
  have:k+(i:Int)+1=k+((i+1:Nat):Int):=by omega
  rw[this]
 ·simp only[e,Du,Ba,cond_false]
theorem markSS_eq (xs:LL)(k:Int)(h:Sh2 xs)(h0:0≤k)(h1:k+tot xs≤4611686018427387904):D.C0 xs k=some (k+tot xs,BR k xs):=by
 obtain⟨h,h2⟩:=h
 unfold Sh at h
 unfold D.C0
 have hml:∀i,i≤xs.length→(BR k (xs.take i)).length=i:=λi hi=>by rw[Dg,List.length_take];omega
 refine(BP (λi=>(BR k (xs.take i)++xs.drop i,k+tot (xs.take i),(i:Int))) xs.length (BR k xs,k+tot xs) (by simp[BR,tot]) (λi hi=> ?_) ?_).trans rfl
 ·have hm:=hml i (by omega)
  have hl:(BR k (xs.take i)++xs.drop i).length=xs.length:=by simp[hm];omega
  have hi':i<(BR k (xs.take i)++xs.drop i).length:=by omega
  have hg:(BR k (xs.take i)++xs.drop i)[i]=xs[i]:=by
   rw[List.getElem_append_right (by omega)]
   simp[hm]
  have ht:=tot_take hi
  have htn:tot (xs.take (i+1))≤tot xs:=by
   have:=Fy (xs.take (i+1)) (xs.drop (i+1))
   rw[List.take_append_drop] at this
   have:=Cg (xs.drop (i+1));omega
  have htn0:=Cg (xs.take i)
  have hset:(BR k (xs.take i)++xs.drop i).set i (Cm (k+tot (xs.take i)) xs[i].length)=BR k (xs.take (i+1))++xs.drop (i+1):=by
   have e0:i-(BR k (xs.take i)).length=0:=by omega
   rw[List.drop_eq_getElem_cons hi,List.set_append_right _ _ (by omega),List.take_succ_eq_append_getElem hi,marked_app,e0,List.set_cons_zero,List.append_assoc]
   rfl
  simp only[dlt hi',cond_true,Au hi',hg,bs,wq i,Int.toNat_natCast,markS_eq xs[i] (k+tot (xs.take i)) (h2 _ (List.getElem_mem hi)) (by omega) (by omega),hset]
  rw[ht]
  have:k+tot (xs.take i)+(xs[i].length:Int)=k+(tot (xs.take i)+(xs[i].length:Int)):=by omega
  rw[this]
 ·have e:BR k (xs.take xs.length)++xs.drop xs.length=BR k xs:=by simp
  simp only[e,Dg,Ba,cond_false]
  simp only[List.take_length]
theorem markGraph_eq (xs:LL)(k:Int)(h:Sh2 xs)(h0:0≤k)(h1:k+tot xs≤4611686018427387904):D.M1 xs k=some (k+tot xs,BR k xs):=by
 unfold D.M1;rw[markSS_eq xs k h h0 h1];rfl
theorem heldS_eq (n:Nat)(k:Int)(h:n≤4294967296)(h0:0≤k)(h1:k≤4611686018427387904):D.t (Cm k n) k=some (k+n):=by
 unfold D.t
 rw[Du]
 refine(BP (λi=>(k+(i:Int),(i:Int))) n (.inl (k+(n:Int))) (by simp) (λi hi=> ?_) ?_).trans rfl
 ·have hi':i<(Cm k n).length:=by rw[Du];exact hi
  simp only[dlt hi,cond_true,Au hi',numsI_get,bs,bne_self_eq_false,cond_false,wq i]
  rw[w64 (by omega) (by omega)]
  have:k+(i:Int)+1=k+((i+1:Nat):Int):=by omega
  rw[this]
 ·simp only[Ba,cond_false]
theorem heldSS_eq (xs:LL)(k:Int)(h:Sh2 xs)(h0:0≤k)(h1:k+tot xs≤4611686018427387904):D.r1 (BR k xs) k=some (k+tot xs):=by
 obtain⟨h,h2⟩:=h
 unfold Sh at h
 unfold D.r1
 rw[Dg]
 refine(BP (λi=>(k+tot (xs.take i),(i:Int))) xs.length (.inl (k+tot xs)) (by simp[tot]) (λi hi=> ?_) ?_).trans rfl
 ·have hi':i<(BR k xs).length:=by rw[Dg];exact hi
  have ht:=tot_take hi
  have htn:tot (xs.take (i+1))≤tot xs:=by
   have:=Fy (xs.take (i+1)) (xs.drop (i+1))
   rw[List.take_append_drop] at this
   have:=Cg (xs.drop (i+1));omega
  have htn0:=Cg (xs.take i)
  simp only[dlt hi,cond_true,Au hi',marked_get xs k i hi,bs,heldS_eq xs[i].length (k+tot (xs.take i)) (h2 _ (List.getElem_mem hi)) (by omega) (by omega),wq i]
  have hd:decide (k+tot (xs.take i)+(xs[i].length:Int)<0)=false:=by simp;omega
  simp only[hd,cond_false,ht]
  have:k+tot (xs.take i)+(xs[i].length:Int)=k+(tot (xs.take i)+(xs[i].length:Int)):=by omega
  rw[this]
 ·simp only[Ba,cond_false,List.take_length]
def joinF (n:Nat)(F:LI)(v:Nat)(S:Int):LI:=(List.range n).map λu=>ior .u32 (ior .u32 (F.getD u 0) (if u=v then S else 0)) (if has S u then ishl .u32 1 (v:Int) else 0)
def Cn (ad:Nat→Nat→Prop)(S:Nat→Prop)(x y:Nat):Prop:=∀T:Nat→Prop,T x→(∀a b,T a→ad a b→S b→T b)→T y
section
variable {ad : Nat → Nat → Prop} {S S' : Nat → Prop} {x y z : Nat}
theorem Cn.refl :Cn ad S x x:=λ_ h _=>h
theorem Cn.step (h:Cn ad S x y)(ha:ad y z)(hz:S z):Cn ad S x z:=λT h1 h2=>h2 _ _ (h T h1 h2) ha hz
theorem Cn.trans (h:Cn ad S x y)(h':Cn ad S y z):Cn ad S x z:=λT h1 h2=>h' T (h T h1 h2) h2
theorem Cn.mono (hs:∀w,S w→S' w)(h:Cn ad S x y):Cn ad S' x y:=λT h1 h2=>h T h1 (λa b p q r=>h2 a b p q (hs _ r))
theorem Cn.mem (h:Cn ad S x y)(hx:S x):S y:=h S hx (λ_ _ _ _ h=>h)
end
def Joint (ad:Nat→Nat→Prop)(S:Nat→Prop):Prop:=∀x y,S x→S y→Cn ad S x y
abbrev Ad (F:LI)(a b:Nat):Prop:=nb F a b=true
abbrev El (s:Int)(x:Nat):Prop:=has s x=true
abbrev Mn (s:Int)(v x:Nat):Prop:=has s x=true∧x≠v
structure Parts (F:LI)(W:Nat→Prop)(l:LI):Prop where
 vs:∀s∈l,VS s
 ne:∀s∈l,∃v,El s v
 sub:∀s∈l,∀x,El s x→W x
 cn:∀s∈l,∀x y,El s x→(El s y↔Cn (Ad F) W x y)
 all:∀x,W x→∃s∈l,El s x
 dis:l.Pairwise λs t=>∀x,¬(El s x∧El t x)
section
variable {F : LI} {n : Nat} (hn : n ≤ 16) (hF : FOk F n)
include hn hF
theorem rch_cn {W:Int}{v:Nat}{S:Int}(hR:Rch F W v S)(x:Nat):El S x↔Cn (Ad F) (El W) v x:=
 ⟨λh=>hR.least (λx=>Cn (Ad F) (El W) v x) Cn.refl (λ_ _ p q r=>p.step q r) x h,λh=>h (El S) hR.me (λa b p q r=>hR.step a b p q r)⟩
theorem cn_sym {W:Nat→Prop}(hW:∀x,W x→x<n){x y:Nat}(hx:W x)(h:Cn (Ad F) W x y):Cn (Ad F) W y x:=
 (h (λw=>W w∧Cn (Ad F) W w x) ⟨hx,Cn.refl⟩ (λa b ⟨p1,p2⟩ q r=>⟨r,(Cn.refl.step (hF.sym a b (hW a p1) q) p1).trans p2⟩)).2
theorem partsOf_ok {W:Int}(hW:In n W):∃l,D.C F W=some l∧Parts F (El W) l∧l.length≤16:=by
 have main:=AY (k:=λl=>some l) (Q:=λl=>Parts F (El W) l∧l.length≤16) (step:=fun(s_66:Int×LI)=>match s_66 with|(x_69,l_70)=>cond (x_69 !=0) ((D.O x_69).bind λy_109=>(D.V F y_109 x_69).bind λy_116=>(AN l_70 ([y_116]:LI)).bind λl_127=>some (.inl ((iandNot .u32 x_69 y_116),l_127))) (some (.inr l_70)))
  (s:=(W,([]:LI))) (λq=>VS q.1∧(∀x,El q.1 x→El W x)∧(∀s∈q.2,VS s)∧(∀s∈q.2,∃v,El s v)∧(∀s∈q.2,∀x,El s x→El W x)∧(∀s∈q.2,∀x y,El s x→(El s y↔Cn (Ad F) (El W) x y))∧(∀x,El W x→El q.1 x∨∃s∈q.2,El s x)∧(∀x,El q.1 x→∀s∈q.2,¬El s x)∧(q.2.Pairwise λs t=>∀x,¬(El s x∧El t x))∧q.2.length+(Ap q.1).length≤16)
  (λq=>(Ap q.1).length) (λl=>Parts F (El W) l∧l.length≤16) ?_ ⟨hW.1,λx h=>h,by simp,by simp,by simp,by simp,λx h=> .inl h,by simp,by simp,?_⟩ (λr hr=>⟨r,rfl,hr⟩)
 ·obtain⟨l,e,hl⟩:=main
  refine⟨l,?_,hl⟩
  unfold D.C
  exact e
 ·rintro⟨W',l⟩ ⟨v1,h1,h2,h3,h4,h5,h6,h7,h8,h9⟩
  dsimp only at v1 h1 h2 h3 h4 h5 h6 h7 h8 h9 ⊢
  by_cases h0:W'=0
  ·have:(W' !=0)=false:=by simp[h0]
   rw[this,cond_false]
   refine⟨_,rfl,⟨h2,h3,h4,h5,λx hx=> ?_,h8⟩,by omega⟩
   rcases h6 x hx with h|h
   ·rw[h0] at h;simp[El,Ci] at h
   ·exact h
  ·have:(W' !=0)=true:=by simpa using h0
   rw[this,cond_true]
   obtain⟨k,hk32,ek,hk,_,_⟩:=least_eq v1 h0
   have hkn:=hW.2 k (h1 k hk)
   obtain⟨S,eS,hR,hSn⟩:=reach_ok hn hF.net hkn v1
   have hlen:=BO W'
   rw[ek,bs,eS,bs,AR (by simp;omega),bs]
   have hSW:∀x,El S x→El W' x:=λx hx=>((rch_cn hn hF hR x).1 hx).mem hk
   have hS':∀x,El (iandNot .u32 W' S) x↔El W' x∧¬El S x:=λx=>by
    unfold El
    rw[Bl v1 hR.vs];simp
   have hWn:∀x,El W x→x<n:=λx hx=>hW.2 x hx
   have hW'n:∀x,El W' x→x<n:=λx hx=>hW.2 x (h1 x hx)
   refine⟨_,rfl,⟨VS.iandNot _ _,λx hx=>h1 x ((hS' x).1 hx).1,?_,?_,?_,?_,λx hx=> ?_,λx hx s hs=> ?_,?_,?_⟩,?_⟩
   ·intro s hs
    rcases List.mem_append.1 hs with h|h
    ·exact h2 s h
    ·simp at h;subst h;exact hR.vs
   ·intro s hs
    rcases List.mem_append.1 hs with h|h
    ·exact h3 s h
    ·simp at h;subst h;exact⟨k,hR.me⟩
   ·intro s hs x hx
    rcases List.mem_append.1 hs with h|h
    ·exact h4 s h x hx
    ·simp at h;subst h;exact h1 x (hSW x hx)
   ·intro s hs x y hx
    rcases List.mem_append.1 hs with h|h
    ·exact h5 s h x y hx
    ·simp at h;subst h
     constructor
     ·intro hy
      have c1:=cn_sym hn hF hW'n hk ((rch_cn hn hF hR x).1 hx)
      exact(c1.trans ((rch_cn hn hF hR y).1 hy)).mono h1
     ·intro hc
      refine hc (El s) hx (λa b ha hab hb=> ?_)
      have haW:=hSW a ha
      rcases h6 b hb with h|⟨t,ht,hbt⟩
      ·exact hR.step a b ha hab h
      ·exfalso
       have:El t a:=(h5 t ht b a hbt).2 (Cn.refl.step (hF.sym a b (hW'n a haW) hab) (h1 a haW))
       exact h7 a haW t ht this
   ·by_cases hxS:El S x
    ·exact .inr ⟨S,by simp,hxS⟩
    ·rcases h6 x hx with h|⟨s,hs,h⟩
     ·exact .inl ((hS' x).2 ⟨h,hxS⟩)
     ·exact .inr ⟨s,by simp[hs],h⟩
   ·obtain⟨p,q⟩:=(hS' x).1 hx
    rcases List.mem_append.1 hs with h|h
    ·exact h7 x p s h
    ·simp at h;subst h;exact q
   ·rw[List.pairwise_append]
    refine⟨h8,by simp,λs hs t ht x ⟨p,q⟩=> ?_⟩
    simp at ht;subst ht
    exact h7 x (hSW x q) s hs p
   ·dsimp only
    have hlt:(Ap (iandNot .u32 W' S)).length+1≤(Ap W').length:=by
     have:=Cd (l:=(k:Int)::Ap (iandNot .u32 W' S)) (m:=Ap W') (List.nodup_cons.2 ⟨λhx=> ?_,List.Pairwise.imp (λh e=>by omega) (BD _)⟩) (λx hx=> ?_)
     ·simpa using this
     ·exact((hS' k).1 ((AS (VS.iandNot _ _)).1 hx)).2 hR.me
     ·rcases List.mem_cons.1 hx with rfl|hx
      ·exact(AS v1).2 hk
      ·obtain⟨w,hw,q,rfl⟩:=mem_elems.1 hx
       exact(AS v1).2 ((hS' w).1 q).1
    simp;omega
   ·dsimp only
    have:=Cd (l:=(k:Int)::Ap (iandNot .u32 W' S)) (m:=Ap W') (List.nodup_cons.2 ⟨λhx=> ?_,List.Pairwise.imp (λh e=>by omega) (BD _)⟩) (λx hx=> ?_)
    ·simp at this;omega
    ·exact((hS' k).1 ((AS (VS.iandNot _ _)).1 hx)).2 hR.me
    ·rcases List.mem_cons.1 hx with rfl|hx
     ·exact(AS v1).2 hk
     ·obtain⟨w,hw,q,rfl⟩:=mem_elems.1 hx
      exact(AS v1).2 ((hS' w).1 q).1
 ·have:=inc_len (n:=n) (BD W) (λz hz=>by
   obtain⟨w,_,q,rfl⟩:=mem_elems.1 hz
   have:=hW.2 w q;omega)
  simp;omega
end
end Go.Sx

namespace Go.Sx
def Way (ad:Nat→Nat→Prop):List Nat→Prop
 |[]=>True
 |[_]=>True
 |a::b::l=>ad a b∧Way ad (b::l)
structure Hole (ad:Nat→Nat→Prop)(c:List Nat):Prop where
 len:4≤c.length
 nd:c.Nodup
 step:∀i (h:i+1<c.length),ad c[i] c[i+1]
 close:ad (c[c.length-1]'(by omega)) (c[0]'(by omega))
 no:∀i j (_:i+1<j) (hj:j<c.length),¬(i=0∧j=c.length-1)→¬ad (c[i]'(by omega)) c[j]
def NoHole (ad:Nat→Nat→Prop)(X:Nat→Prop):Prop:=∀c,Hole ad c→¬∀x∈c,X x
section
variable {ad : Nat → Nat → Prop} (hs : ∀ a b, ad a b → ad b a) (hi : ∀ a, ¬ ad a a)
include hs hi
end
end Go.Sx

namespace Go.Sx
def iz (P:List Nat):LI:=P.map Int.ofNat
theorem iz_len (P:List Nat):(iz P).length=P.length:=by simp[iz]
theorem iz_idx {P:List Nat}{i:Nat}(h:i<P.length):idx (iz P) (i:Int)=some ((P[i]:Nat):Int):=by
 rw[Au (by rw[iz_len];exact h)];simp[iz]
section
variable {g : LL} (hg : GOk g)
include hg
end
end Go.Sx

namespace Go.Sx
section
variable {g : LL} (hg : GOk g)
include hg
end
end Go.Sx

namespace Go.Sx
def Nr (ad:Nat→Nat→Prop)(v:Nat):Nat→Nat→Prop
 |0,_=>False
 |k+1,u=>u=v∨∃w,Nr ad v k w∧ad w u
section
variable {g : LL} (hg : GOk g)
include hg
end
end Go.Sx

namespace Go.Sx
section
variable {g : LL} (hg : GOk g)
include hg
theorem adj_ltF {a b:Nat}(h:adj g a b):a<g.length:=by
 apply Classical.byContradiction
 intro hn
 unfold adj row at h
 rw[List.getD_eq_getElem?_getD,List.getElem?_eq_none (by omega)] at h
 simp at h
theorem adj_sym (a b:Nat)(h:adj g a b):adj g b a:=hg.sym _ _ (adj_ltF hg h) h
end
end Go.Sx

namespace Go.Sx
section
variable {g : LL} (hg : GOk g) {c : List Nat} (hH : Hole (adj g) c) (hlt : ∀ x ∈ c, x < g.length)
include hg hH hlt
end
end Go.Sx

namespace Go.Sx
structure Rd (ad:Nat→Nat→Prop)(c:List Nat):Prop where
 len:3≤c.length
 nd:c.Nodup
 step:∀i (h:i+1<c.length),ad c[i] c[i+1]
 close:ad (c[c.length-1]'(by omega)) (c[0]'(by omega))
section
variable {g : LL} (hg : GOk g) {c : List Nat} (hH : Rd (adj g) c) (hlt : ∀ x ∈ c, x < g.length)
include hg hH hlt
end
end Go.Sx

namespace Go.Sx
section
variable {F : LI} {n : Nat} (hF : FOk F n) (h1 : 1 ≤ n) (h16 : n ≤ 16) {L : Int}
include hF h1 h16
end
end Go.Sx

namespace Go.Sx
def Gm (E:Nat→Nat→Prop)(a b c d:Nat):Prop:=E c d∧((a=c∧¬E b d∧b≠d)∨(b=d∧¬E a c∧a≠c))
def Kl (E:Nat→Nat→Prop)(a b c d:Nat):Prop:=∀T:Nat→Nat→Prop,T a b→(∀p q r s,T p q→Gm E p q r s→T r s)→T c d
section
variable {E : Nat → Nat → Prop} (hs : ∀ a b, E a b → E b a) (hi : ∀ a, ¬ E a a)
include hs
include hi
end
section
variable {E : Nat → Nat → Prop} (hs : ∀ a b, E a b → E b a) (hi : ∀ a, ¬ E a a)
include hs hi
end
end Go.Sx

namespace Go.Sx
section
variable {E : Nat → Nat → Prop} (hs : ∀ a b, E a b → E b a) (hi : ∀ a, ¬ E a a)
include hs
include hi
end
end Go.Sx

namespace Go.Sx
def AdW (g:LL)(all:Int)(a b:Nat):Prop:=adj g a b∧has all b=true
def Dst (g:LL)(all:Int)(v j u:Nat):Prop:=Nr (AdW g all) v (j+1) u∧¬Nr (AdW g all) v j u
section
variable {g : LL} (hg : GOk g)
include hg
end
end Go.Sx

namespace Go.Sx
def Av (ad:Nat→Nat→Prop)(X:Nat→Prop)(c z:Nat):Prop:=X z∧z≠c∧¬ad c z
def Apt (ad:Nat→Nat→Prop)(X:Nat→Prop)(a b c:Nat):Prop:=
 X a∧X b∧X c∧a≠b∧a≠c∧b≠c∧¬ad a b∧¬ad a c∧¬ad b c∧Cn ad (Av ad X c) a b∧Cn ad (Av ad X b) a c∧Cn ad (Av ad X a) b c
def Ape (ad:Nat→Nat→Prop)(X S:Nat→Prop)(a b:Nat):Prop:=
 X a∧X b∧a≠b∧¬ad a b∧(∃k,S k∧Cn ad (Av ad X b) a k)∧∃k,S k∧Cn ad (Av ad X a) b k
structure Rp (ad:Nat→Nat→Prop)(X:Nat→Prop)(L R:Nat→Int):Prop where
 le:∀v,X v→L v≤R v
 ad:∀u v,X u→X v→u≠v→(ad u v↔L u≤R v∧L v≤R u)
section
variable {ad : Nat → Nat → Prop} (hs : ∀ a b, ad a b → ad b a)
include hs
end
end Go.Sx

namespace Go.Sx
section
variable {ad : Nat → Nat → Prop}
variable (hs : ∀ a b, ad a b → ad b a) (hi : ∀ a, ¬ ad a a)
include hs
include hi
end
section
variable {ad : Nat → Nat → Prop} (hs : ∀ a b, ad a b → ad b a) (hi : ∀ a, ¬ ad a a)
include hs
include hi
end
end Go.Sx

namespace Go.Sx
section
variable {g : LL} (hg : GOk g)
include hg
end
end Go.Sx

namespace Go.Sx
section
variable {g : LL} (hg : GOk g)
include hg
theorem l8Near_ok {P:List Nat}(hP:∀x∈P,x<g.length)(hl:P.length≤16)(v:Int):D.f0 g (iz P) v=some (((P.countP λu=>decide (v∈row g u)):Nat):Int):=by
 unfold D.f0
 have:=(Ee (step:=fun(s_40:Int×Int)=>match s_40 with|(x_43,x_44)=>cond (decide (x_44<((iz P).length:Int))) ((idx (iz P) x_44).bind λe_65=>(D.r g e_65 v).bind λy_71=>(D.m y_71).bind λy_74=>some (.inl ((IntKind.i64.wrap (x_43+y_74)),(IntKind.i64.wrap (x_44+1))))) (some (.inr x_43)))
  P.length (fun(a:Int) (i:Int)=>(a,i)) (λa i=>a+(if v∈row g (P.getD i 0) then 1 else 0)) (λa=>a) (λi a=>a=(((P.take i).countP λu=>decide (v∈row g u)):Nat)) 0 (by simp)
  (λs i hi hs=>by
   subst hs
   have hpl:P[i]<g.length:=hP _ (List.getElem_mem hi)
   have hil:i<(iz P).length:=by rw[iz_len];exact hi
   have hcl:((P.take i).countP λu=>decide (v∈row g u))≤i:=Nat.le_trans List.countP_le_length (by simp;omega)
   have hge:P.getD i 0=P[i]:=AD hi 0
   refine⟨?_,?_⟩
   ·simp only[dlt hil,cond_true,iz_idx hi,bs,l1Edge_eq g hg hpl,hge,wq i]
    by_cases hv:v∈row g P[i]
    ·rw[decide_eq_true hv,if_pos hv]
     show (D.m true).bind _=_
     have:D.m true=some 1:=by decide+kernel
     rw[this,bs,w64 (by omega) (by omega)]
    ·rw[decide_eq_false hv,if_neg hv]
     show (D.m false).bind _=_
     have:D.m false=some 0:=by decide+kernel
     rw[this,bs,w64 (by omega) (by omega)]
   ·rw[List.take_succ_eq_append_getElem hi,List.countP_append,hge]
    by_cases hv:v∈row g P[i]
    ·simp[hv]
    ·simp[hv])
  (λs hs=>by simp only[iz_len,Ba,cond_false]))
 rw[this.1,bs,this.2,List.take_length]
end
end Go.Sx

namespace Go.Sx
section
variable {g : LL} (hg : GOk g)
include hg
end
end Go.Sx

namespace Go.Sx
section
variable {ad : Nat → Nat → Prop} (hs : ∀ a b, ad a b → ad b a) (hi : ∀ a, ¬ ad a a)
include hs hi
end
end Go.Sx

namespace Go.Sx
section
variable {ad : Nat → Nat → Prop} {X : Nat → Prop} {L R : Nat → Int} (h : Rp ad X L R)
include h
end
end Go.Sx

namespace Go.Sx
def atp (cs o:LI)(k v:Nat):Bool:=ch cs (o.getD k 0).toNat v
section
variable {g : LL} (hg : GOk g) {l o : LI} (hl : GC g l) (h16 : l.length ≤ 16) (ho : Goes l 0 o)
include hg hl
include h16 ho
end
end Go.Sx

namespace Go.Sx
section
variable {g l : LL} {cs : LI} (hg : GOk g)
include hg
end
end Go.Sx

namespace Go.Sx
theorem less2 (a b c d:Int):D.c0 [a,b] [c,d]=some (decide (a<c∨(a=c∧b<d))):=by
 unfold D.c0
 have i0:∀x y:Int,idx [x,y] 0=some x:=λx y=>by unfold idx;simp
 have i1:∀x y:Int,idx [x,y] 1=some y:=λx y=>by unfold idx;simp
 have w1:IntKind.i64.wrap 1=1:=by decide
 have w2:IntKind.i64.wrap 2=2:=by decide
 have e0:((([a,b]:LI).length:Int) !=(([c,d]:LI).length:Int))=false:=by simp
 rw[e0,cond_false]
 by_cases h1:a=c
 ·subst h1
  rw[BF (s':=1) (by simp[i0,w1])]
  by_cases h2:b=d
  ·subst h2
   rw[BF (s':=2) (by simp[i1,w2]),Bd (r:= .inl ()) (by simp)];simp
  ·have e:(b !=d)=true:=by simpa using h2
   rw[Bd (r:= .inr (decide (b<d))) (by simp[i1,e])];simp
 ·have e:(a !=c)=true:=by simpa using h1
  rw[Bd (r:= .inr (decide (a<c))) (by simp[i0,e])];simp[h1]
theorem less_key {x y:LI}(hx:Co x)(hy:Co y):D.c0 x y=some (decide (Bt x<Bt y)):=by
 obtain⟨h1,h2,h3,h4,h5⟩:=hx
 obtain⟨k1,k2,k3,k4,k5⟩:=hy
 obtain⟨a,b,rfl⟩:=list2 h1
 obtain⟨c,d,rfl⟩:=list2 k1
 rw[less2]
 unfold Bt
 simp only[List.getD_cons_zero,List.getD_cons_succ] at*
 congr 1
 rw[decide_eq_decide]
 constructor<;>intro h<;>omega
def Dj (l:LI)(xs:LL):Nat:=xs.findIdx λx=>decide (Bt l<Bt x)
def ins (l:LI)(xs:LL):LL:=xs.take (Dj l xs)++l::xs.drop (Dj l xs)
theorem ins_perm (l:LI)(xs:LL):(ins l xs).Perm (l::xs):=by
 unfold ins
 refine List.perm_middle.trans ?_
 rw[List.take_append_drop]
def DZ (xs:LL):Prop:=xs.Pairwise (λa b=>Bt a≤Bt b)
theorem ins_sorted (l:LI){xs:LL}(h:DZ xs):DZ (ins l xs):=by
 unfold ins DZ
 have hlt:∀x∈xs.take (Dj l xs),Bt x≤Bt l:=λx hx=>by
  obtain⟨j,hj,hji,rfl⟩:=mem_take_iff.1 hx
  have:=List.not_of_lt_findIdx (p:=λx=>decide (Bt l<Bt x)) (xs:=xs) hji
  simp at this
  omega
 have hge:∀x∈xs.drop (Dj l xs),Bt l<Bt x:=λx hx=>by
  obtain⟨j,hj,rfl⟩:=List.getElem_of_mem hx
  have hk:Dj l xs<xs.length:=by simp at hj;omega
  have h1:decide (Bt l<Bt (xs[Dj l xs]))=true:=List.findIdx_getElem (p:=λx=>decide (Bt l<Bt x)) (xs:=xs) (w:=hk)
  have h1:=of_decide_eq_true h1
  rw[List.getElem_drop]
  rcases Nat.eq_zero_or_pos j with e|e
  ·subst e;simpa using h1
  ·have:=(List.pairwise_iff_getElem.1 h) (Dj l xs) (Dj l xs+j) hk (by simp at hj;omega) (by omega)
   omega
 rw[List.pairwise_append]
 refine⟨h.sublist (List.take_sublist _ _),?_,λa ha b hb=> ?_⟩
 ·rw[List.pairwise_cons]
  exact⟨λb hb=>by have:=hge b hb;omega,h.sublist (List.drop_sublist _ _)⟩
 ·have:=hlt a ha
  rcases List.mem_cons.1 hb with rfl|hb
  ·exact this
  ·have:=hge b hb;omega
def B7 (a b:Int):LI:=[min a b,max a b]
theorem l1Min_eq (a b:Int):D.q1 a b=some (min a b):=by
 unfold D.q1
 by_cases h:a<b
 ·simp only[h,decide_true,cond_true];congr 1;omega
 ·simp only[h,decide_false,cond_false];congr 1;omega
theorem l1Max_eq2 (a b:Int):D.K a b=some (max a b):=by
 unfold D.K
 by_cases h:b<a
 ·simp only[h,decide_true,cond_true];congr 1;omega
 ·simp only[h,decide_false,cond_false];congr 1;omega
theorem EY (a b:Int):D.H0 a b=some (B7 a b):=by
 unfold D.H0 B7
 congr 2
 ·split<;>omega
 ·congr 1;split<;>omega
theorem Fa {xs:LL}{a b:Int}(hg:∀x∈xs,Co x)(hl:Co (B7 a b))(hx:xs.length≤1000000):D.R xs a b=some (ins (B7 a b) xs):=by
 unfold D.R
 rw[l1Min_eq,bs,l1Max_eq2,bs]
 have el:([min a b,max a b]:LI)=B7 a b:=rfl
 simp only[el]
 have hk:=List.findIdx_le_length (p:=λx=>decide (Bt (B7 a b)<Bt x)) (xs:=xs)
 generalize hkk:Dj (B7 a b) xs=k
 have hkl:k≤xs.length:=by rw[←hkk];exact hk
 generalize hL:B7 a b=l at*
 have hlo:∀i (hi:i<xs.length),i<k→D.c0 l xs[i]=some false:=λi hi hik=>by
  rw[less_key hl (hg _ (List.getElem_mem hi))]
  have:=List.not_of_lt_findIdx (p:=λx=>decide (Bt l<Bt x)) (xs:=xs) (i:=i) (by unfold Dj at hkk;omega)
  simp at this
  simp;omega
 have hhi:∀(h:k<xs.length),D.c0 l xs[k]=some true:=λh=>by
  rw[less_key hl (hg _ (List.getElem_mem h))]
  unfold Dj at hkk
  have h1:decide (Bt l<Bt (xs[xs.findIdx λx=>decide (Bt l<Bt x)]'(by rw[hkk];exact h)))=true:=List.findIdx_getElem (p:=λx=>decide (Bt l<Bt x)) (xs:=xs) (w:=by rw[hkk];exact h)
  simp only[hkk] at h1
  rw[h1]
 let st:Nat→LI×LL×Bool×Int:=λi=>if i≤k then(l,xs.take i,false,(i:Int)) else(l,xs.take k++l::(xs.drop k).take (i-k),true,(i:Int))
 have hst:st xs.length=(l,if k=xs.length then xs else ins l xs,decide (k<xs.length),(xs.length:Int)):=by
  by_cases e:k=xs.length
  ·simp[st,e]
  ·have h1:¬xs.length≤k:=by omega
   have h2:k<xs.length:=by omega
   simp only[st,h1,if_false,e,h2,decide_true]
   unfold ins;rw[hkk,List.take_of_length_le (l:=xs.drop k) (by simp)]
 refine(BP st xs.length (l,if k=xs.length then xs else ins l xs,decide (k<xs.length)) (by simp[st]) (λi hi=> ?_) ?_).trans ?_
 ·by_cases h1:i<k
  ·have e1:st i=(l,xs.take i,false,(i:Int)):=by simp only[st];rw[if_pos (by omega)]
   have e2:st (i+1)=(l,xs.take (i+1),false,((i+1:Nat):Int)):=by simp only[st];rw[if_pos (by omega)]
   rw[e1,e2]
   simp only[dlt hi,cond_true,Bool.not_false,Au hi,bs,hlo i hi h1,cond_false,wq i]
   rw[AR (by simp;omega),bs,List.take_succ_eq_append_getElem hi]
  ·by_cases h2:i=k
   ·subst h2
    have e1:st i=(l,xs.take i,false,(i:Int)):=by simp only[st];rw[if_pos (by omega)]
    have e2:st (i+1)=(l,xs.take i++l::(xs.drop i).take 1,true,((i+1:Nat):Int)):=by simp only[st];rw[if_neg (by omega)];congr;omega
    rw[e1,e2]
    simp only[dlt hi,cond_true,Bool.not_false,Au hi,bs,hhi hi,wq i]
    rw[AR (by simp;omega),bs,AR (by simp;omega),bs]
    have:(xs.drop i).take 1=[xs[i]]:=by rw[List.drop_eq_getElem_cons hi,List.take_succ_cons,List.take_zero]
    rw[this];simp
   ·have e1:st i=(l,xs.take k++l::(xs.drop k).take (i-k),true,(i:Int)):=by simp only[st];rw[if_neg (by omega)]
    have e2:st (i+1)=(l,xs.take k++l::(xs.drop k).take (i+1-k),true,((i+1:Nat):Int)):=by simp only[st];rw[if_neg (by omega)]
    rw[e1,e2]
    simp only[dlt hi,cond_true,Bool.not_true,cond_false,bs,Au hi,wq i]
    rw[AR (by simp;omega),bs]
    have:(xs.drop k).take (i+1-k)=(xs.drop k).take (i-k)++[xs[i]]:=by
     rw[show i+1-k=(i-k)+1 by omega,List.take_succ_eq_append_getElem (by simp;omega)]
     congr 2
     rw[List.getElem_drop];congr 1;omega
    rw[this];simp
 ·rw[hst]
  simp only[Ba,cond_false]
 ·by_cases e:k=xs.length
  ·simp only[e,if_true,Nat.lt_irrefl,decide_false,Bool.not_false,cond_true]
   rw[AR (by simp;omega),bs]
   unfold ins;rw[hkk,e];simp
  ·have h2:k<xs.length:=by omega
   simp only[e,if_false,h2,decide_true,Bool.not_true,cond_false]
theorem LinkIn.good {n:Nat}(hn:n≤1000){l:LI}(h:LinkIn n l):Co l:=by
 obtain⟨a,b,rfl,h1,h2⟩:=h
 refine⟨rfl,?_⟩
 simp only[List.getD_cons_zero,List.getD_cons_succ]
 omega
end Go.Sx



namespace Go.Sx
section
variable {l : LI} (hn : l.length ≤ 16) (hvs : ∀ s ∈ l, VS s)
include hn hvs
end
section
variable {g : LL} (hg : GOk g)
include hg
end
end Go.Sx

namespace Go.Sx
theorem loop_ex {β:Type}{step:Int→Option (Int ⊕ (Unit ⊕ β))}{n:Nat}(P:Nat→Prop)(Q:β→Prop)(hstep:∀i,i<n→(step (i:Int)=some (.inl ((i+1:Nat):Int))∧¬P i)∨∃z,step (i:Int)=some (.inr (.inr z))∧P i∧Q z)
  (hend:∀i,n≤i→step (i:Int)=some (.inr (.inl ()))):∀(d a:Nat),n≤a+d→(As step (a:Int)=some (.inl ())∧∀i,a≤i→i<n→¬P i)∨∃z,As step (a:Int)=some (.inr z)∧Q z∧∃i,a≤i∧i<n∧P i:=by
 intro d
 induction d with
 |zero=>
  intro a h
  exact .inl ⟨Bd (hend a (by omega)),λi h1 h2=>by omega⟩
 |succ d ih=>
  intro a h
  by_cases ha:a<n
  ·rcases hstep a ha with⟨e,hn⟩|⟨z,e,hp,hq⟩
   ·rcases ih (a+1) (by omega) with⟨e2,h2⟩|⟨z,e2,hq,i,h3,h4,h5⟩
    ·refine .inl ⟨by rw[BF e,e2],λi h3 h4=> ?_⟩
     by_cases hia:i=a
     ·rw[hia];exact hn
     ·exact h2 i (by omega) h4
    ·exact .inr ⟨z,by rw[BF e,e2],hq,i,by omega,h4,h5⟩
   ·exact .inr ⟨z,Bd e,hq,a,Nat.le_refl _,ha,hp⟩
  ·exact .inl ⟨Bd (hend a (by omega)),λi h1 h2=>by omega⟩
section
variable {g : LL} (hg : GOk g)
include hg
end
end Go.Sx

namespace Go.Sx
def nearS (F:LI)(p:Pr):Int:=if p.2.2=2 then ishl .u32 1 p.2.1 else if p.2.2=3 then F.getD p.2.1.toNat 0 else if p.2.2=4 then ior .u32 (F.getD p.2.1.toNat 0) (ishl .u32 1 p.2.1) else 0
def Fs (n:Nat):List Pr→LI
 |[]=>List.replicate n 0
 |p::l=>joinF n (Fs n l) p.1.toNat (nearS (Fs n l) p)
def vsOf (l:List Pr):LI:=l.map (·.1)
def Lsts (g:LL)(K:Int):Prop:=In g.length K∧(∀u w,has K u=true→has K w=true→¬adj g u w)∧∀w,w<g.length→has K w=true∨∃v,has K v=true∧adj g v w
def lf (xs:List (Int×Int))(v:Nat):Int:=(xs.getD v (0,0)).1
def rt (xs:List (Int×Int))(v:Nat):Int:=(xs.getD v (0,0)).2
structure IvL (xs:List (Int×Int)):Prop where
 n1:1≤xs.length
 n16:xs.length≤16
 ok:∀x∈xs,0≤x.1∧x.1≤x.2∧x.2≤100
section
variable {xs : List (Int × Int)} (h : IvL xs)
include h
end
end Go.Sx

namespace Go.Sx
section
variable {g : LL} (hg : GOk g) {l o : LI} (hl : GC g l) (h16 : l.length ≤ 16) (ho : Goes l 0 o) (hol : o.length ≤ 32)
include hg hl h16 ho hol
end
end Go.Sx

namespace Go.Sx
section
variable {g : LL} (hg : GOk g)
include hg
end
end Go.Sx

namespace Go.Sx
section
variable {g : LL} (hg : GOk g)
include hg
end
end Go.Sx

namespace Go.Sx
abbrev ap (a b:Nat):Int×Int:=((a:Int),(b:Int))
section
variable {g : LL} (hg : GOk g)
include hg
end
end Go.Sx

namespace Go.Sx
section
variable {g : LL} (hg : GOk g)
include hg
end
end Go.Sx

namespace Go.Sx
abbrev Vx (n at' x:Nat):Prop:=x<n∧x≠at'
def PP (F:LI)(n:Nat)(S:Nat→Prop):Prop:=∀c x,S c→S x→x≠c→(∀w,Ad F c w→Cn (Ad F) (Vx n c) x w→S w)∧∀y,S y→y≠c→Cn (Ad F) (Vx n c) x y→Cn (Ad F) (λz=>S z∧z≠c) x y
def Two (S:Int):Prop:=∃x y,El S x∧El S y∧x≠y
section
variable {F : LI} {n : Nat} (hn : n ≤ 16) (hF : FOk F n)
include hn hF
end
end Go.Sx

namespace Go.Sx
section
variable {g : LL} (hg : GOk g)
include hg
end
end Go.Sx

namespace Go.Sx
def pr (a b:Nat):LI:=[(a:Int),(b:Int)]
def Clo (g:LL)(u v a b:Nat):Prop:=∀T:Nat→Nat→Prop,T u v→T v u→(∀a b w,T a b→adj g a w→Cn (adj g) (Vx g.length a) b w→T a w∧T w a)→T a b
section
variable {g : LL} (hg : GOk g) {u v : Nat}
include hg
end
end Go.Sx

namespace Go.Sx
section
variable {g : LL} (hg : GOk g) {u v : Nat}
include hg
end
end Go.Sx

namespace Go.Sx
section
variable {g : LL} (hg : GOk g)
include hg
end
end Go.Sx

namespace Go.Sx
section
variable {g : LL} (hg : GOk g)
include hg
end
end Go.Sx
