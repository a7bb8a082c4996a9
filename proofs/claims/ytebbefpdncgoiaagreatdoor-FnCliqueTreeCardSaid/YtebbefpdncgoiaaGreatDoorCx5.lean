/- Parts. -/
import Derived.Test.YtebbefpdncgoiaaGreatDoorCx4
import Derived.Test.YtebbefpdncgoiaaGreatDoorProg
import Derived.KernelRfl
import Derived.Lib.TrailingZeros
set_option linter.unusedVariables false
set_option linter.unusedSimpArgs false
set_option maxRecDepth 100000
namespace Go.Proofs.YtebbefpdncgoiaaGreatDoor
open Go Go.Sx
open Go.Proofs.Tryz Go.Proofs.YtebbefpdncgoiaaGreatDoor.Tryz IntKind
variable {W w : World} {G : GH} {H : List Itm}
theorem Wk.h0 {W:World}(n:Nat):∀{w:World} {G:GH} {H:List Itm} {v0:Value} {it0:Itm} {x0:(List (Value×LI))} {x1 x2 x3:Int} (m:Mem W G w (it0::H)) (o0:Ow (RTg R0) 42 G it0 v0 x0) {y:((List (Value×LI)))} (hd:D.h0 n x0 x1 x2 x3=some y),
  Calls prog 121 #[v0,(iv x1),(iv x2),(iv x3),(.func (.func 58) #[] #[])] w (Res W G H (λG' Ho _=>∃i0:Itm,Ho=[i0]∧Ow (RTg R0) 42 G' i0 v0 y)):=by
 induction n with
 |zero=>intros;rename_i hd;simp[D.h0] at hd
 |succ fuel ih=>
  intro w G H v0 it0 x0 x1 x2 x3 m o0 y hd
  refine As (args:=[v0,(iv x1),(iv x2),(iv x3),(.func (.func 58) #[] #[])]) (N:=148) [] func121 Z Z (lb Z) Z λa f=> ?_
  unfold D.h0 at hd
  refine Ae ?_
  refine Ac f Z λa f=>Au ?_
  refine Ac f Z λa f=>Aa ?_
  have⟨aa,ab,hd⟩:=bind_some hd
  refine Aj ?_
  refine AD (λac a w=>∃ad:List (Value×LI),∃ae:Int,∃af:Int,∃ag:Int,∃ah:Bool,∃ai:Bool,(ad,ae,af,ag,ah,ai)=ac∧∃(aj:GH) (ak:Itm),GLe G aj∧Fr a 148 [(0,v0),(1,(iv ae)),(2,(iv af)),(3,(iv ag)),(4,(.func (.func 58) #[] #[])),(10,(.bool ah)),(11,(.bool ai))]∧Mem W aj w (ak::H)∧Ow (RTg R0) 42 aj ak v0 ad) ab ⟨_,_,_,_,_,_,Z,_,it0,gr,f.k Z,m,o0⟩ ?_
  clear ab f m
  rintro ac al am an a w ⟨ad,ae,af,ag,ah,ai,rfl,aj,ak,ao,f,m,ap⟩
  refine Aj (Ae ?_)
  refine Ab f Z λa f=>Ab f Z λa f=>Ah f Z Z AO λa f=>Ac f Z λa f=>Aa (Af (Ae ?_))
  refine Ab f Z λa f=>Ah f Z Z Ci λa f=>Aa ?_
  rcases Ad am with⟨aq,am⟩|⟨aq,am⟩
  ·refine Ak f Z aq ?_
   refine Ae ?_
   refine Ab f Z λa f=>Ab f Z λa f=>Ab f Z λa f=>Ab f Z λa f=> ?_
   have⟨ar,au,am⟩:=bind_some am
   refine Av f Z call154 (Wk.F1 m ap au) λav aw ax w ay m az a f=> ?_
   obtain⟨aA,rfl,aB⟩:=az
   refine Aa ?_
   refine Ap ?_
   obtain rfl:=sj am
   obtain rfl:=an _ rfl
   obtain rfl:=sj hd
   exact⟨[],trivial,f.d,_,[aA],(gt ao ay),m,_,Z,aB⟩
  ·refine Ai f Z aq ?_
   refine Al ?_
   refine Af (Ae ?_)
   refine Ab f Z λa f=>Ah f Z Z Bq λa f=>Aa ?_
   rcases Ad am with⟨aC,am⟩|⟨aC,am⟩
   ·refine Ak f Z aC ?_
    refine Ae ?_
    refine Ab f Z λa f=>Ab f Z λa f=>Ab f Z λa f=>Ab f Z λa f=> ?_
    have⟨aD,aE,am⟩:=bind_some am
    refine Av f Z call155 (Wk.b2 m ap aE) λaF aG aH w aI m aJ a f=> ?_
    obtain⟨aK,rfl,aL⟩:=aJ
    refine Aa ?_
    refine Ap ?_
    obtain rfl:=sj am
    obtain rfl:=an _ rfl
    obtain rfl:=sj hd
    exact⟨[],trivial,f.d,_,[aK],(gt ao aI),m,_,Z,aL⟩
   ·refine Ai f Z aC ?_
    refine Al ?_
    refine Af (Ae ?_)
    refine Ab f Z λa f=>l_o f (Bj (f.e Z)) λa f=>Aa ?_
    have⟨aM,aN,am⟩:=bind_some am
    refine AF (λa w=>∃aO:List (Value×LI),∃aP:Int,(aO,aP)=aM∧∃(aQ:GH) (aR:Itm),GLe aj aQ∧Fr a 148 [(0,v0),(1,(iv ae)),(2,(iv af)),(3,(iv aP)),(4,(.func (.func 58) #[] #[])),(10,(.bool ah)),(11,(.bool ai)),(12,(iv (i64.wrap (af-ae))))]∧Mem W aQ w (aR::H)∧Ow (RTg R0) 42 aQ aR v0 aO) ?_ ?_
    ·rcases Ad aN with⟨aS,aN⟩|⟨aS,aN⟩
     ·refine Ak f Z aS ?_
      refine Ae ?_
      refine Ab f Z λa f=>Ab f Z λa f=>Ab f Z λa f=>Ab f Z λa f=> ?_
      have⟨aT,aU,aN⟩:=bind_some aN
      refine Av f Z call156 (Wk.Q1 m ap aU) λaV aW aX w aY m aZ a f=> ?_
      obtain⟨a0,rfl,a1⟩:=aZ
      refine Aa (Am ?_)
      refine Ab f Z λa f=>Ah f Z Z AO λa f=>Ac f Z λa f=>Aa ?_
      obtain rfl:=sj aN
      exact⟨_,_,Z,_,a0,aY,f.k Z,m,a1⟩
     ·refine Ai f Z aS ?_
      refine Al ?_
      obtain rfl:=sj aN
      exact⟨_,_,Z,_,ak,gr,f.k Z,m,ap⟩
    ·rintro a w ⟨aO,aP,rfl,aQ,aR,a2,f,m,a3⟩
     refine Ae ?_
     refine Ab f Z λa f=>Ab f Z λa f=>Ab f Z λa f=>Ab f Z λa f=> ?_
     have⟨a4,a5,am⟩:=bind_some am
     refine Av f Z call157 (Wk.Y1 m a3 a5) λa6 a7 a8 w a9 m ba a f=> ?_
     obtain⟨bb,rfl,rfl,bc⟩:=ba
     refine Ab f Z λa f=>l_o f (A7 (f.e Z) Z) λa f=>l_o f (A7 (f.e Z) Z) λa f=>Ac f Z λa f=>Ac f Z λa f=>Aa (Af (Ae ?_))
     refine Ab f Z λa f=>Ah f Z Z Bq λa f=>Aa ?_
     have⟨bd,be,am⟩:=bind_some am
     refine AF (λa w=>∃bf:List (Value×LI),∃bg:Int,∃bh:Int,(bf,bg,bh)=bd∧∃(bi:GH) (bj:Itm),GLe a7 bi∧Fr a 148 [(0,v0),(1,(iv ae)),(2,(iv af)),(3,(iv aP)),(4,(.func (.func 58) #[] #[])),(10,(.bool ah)),(11,(.bool ai)),(12,(iv (i64.wrap (af-ae)))),(13,(iv bg)),(14,(iv bh))]∧Mem W bi w (bj::H)∧Ow (RTg R0) 42 bi bj v0 bf) ?_ ?_
     ·rcases Ad be with⟨bk,be⟩|⟨bk,be⟩
      ·refine Ak f Z bk ?_
       refine Ae ?_
       refine Ab f Z λa f=>Ab f Z λa f=>Ab f Z λa f=>Ab f Z λa f=> ?_
       have⟨bl,bm,be⟩:=bind_some be
       refine Av f Z call158 (Wk.V1 m bc bm) λbn bo bp w bq m br a f=> ?_
       obtain⟨bs,rfl,bt⟩:=br
       refine Au ?_
       refine Ab f Z λa f=>Ah f Z Z AO λa f=>Ab f Z λa f=>Ab f Z λa f=>Ah f Z Z AO λa f=>Ah f Z Z AO λa f=>Ac f Z λa f=>Aa (Am ?_)
       refine Ac f Z λa f=>Aa ?_
       obtain rfl:=sj be
       exact⟨_,_,_,Z,_,bs,bq,f.k Z,m,bt⟩
      ·refine Ai f Z bk ?_
       refine Al ?_
       obtain rfl:=sj be
       exact⟨_,_,_,Z,_,bb,gr,f.k Z,m,bc⟩
     ·rintro a w ⟨bf,bg,bh,rfl,bi,bj,bu,f,m,bv⟩
      refine Af (Ae ?_)
      refine Ab f Z λa f=>Ab f Z λa f=> ?_
      refine BJ 2 (λa w=>∃bw,GLe bi bw∧Mem W bw w (bj::H)∧Fr a 148 [(0,v0),(1,(iv ae)),(2,(iv af)),(3,(iv aP)),(4,(.func (.func 58) #[] #[])),(10,(.bool ah)),(11,(.bool ai)),(12,(iv (i64.wrap (af-ae)))),(13,(iv bg)),(14,(iv bh)),(68,(.bool ah)),(69,(.bool ah)),(71,(.bool (ah&&ai)))]) ?_ ?_
      ·rcases Bool.eq_false_or_eq_true ah with bx|bx
       ·refine AI f bx ?_
        refine Ab f Z λa f=>l_o f (AU (f.e Z) bx (f.e Z)) λa f=> ?_
        exact⟨_,gr,m,f.weak ⟨Z,Z,Z,Z,Z,Z,Z,Z,Z,Z,Z,Z,by rw[bx];rfl,trivial⟩⟩
       ·refine AL f bx λa f=> ?_
        refine l_o f (AV (f.e Z) bx (f.e Z)) λa f=> ?_
        exact⟨_,gr,m,f.weak ⟨Z,Z,Z,Z,Z,Z,Z,Z,Z,Z,Z,Z,by rw[bx];rfl,trivial⟩⟩
      ·rintro a w ⟨bw,bz,m,f⟩
       have bv:=Ow.mono (RTg.mono (RI.mono _)) bz bv
       refine Ab f Z λa f=> ?_
       refine BJ 3 (λa w=>∃bA,GLe bw bA∧Mem W bA w (bj::H)∧Fr a 148 [(0,v0),(1,(iv ae)),(2,(iv af)),(3,(iv aP)),(4,(.func (.func 58) #[] #[])),(10,(.bool ah)),(11,(.bool ai)),(12,(iv (i64.wrap (af-ae)))),(13,(iv bg)),(14,(iv bh)),(68,(.bool ah)),(69,(.bool ah)),(71,(.bool (ah&&ai))),(72,(.bool (ah&&ai))),(75,(.bool ((ah&&ai)&&(bh==1))))]) ?_ ?_
       ·rcases Bool.eq_false_or_eq_true (ah&&ai) with bB|bB
        ·refine AI f bB ?_
         refine Ab f Z λa f=>AI f bB ?_
         refine Ah f Z Z Bq λa f=>l_o f (AU (f.e Z) bB (f.e Z)) λa f=> ?_
         exact⟨_,gr,m,f.weak ⟨Z,Z,Z,Z,Z,Z,Z,Z,Z,Z,Z,Z,Z,Z,by rw[bB];rfl,trivial⟩⟩
        ·refine AL f bB λa f=> ?_
         refine AL f bB λa f=>l_o f (AV (f.e Z) bB (f.e Z)) λa f=> ?_
         exact⟨_,gr,m,f.weak ⟨Z,Z,Z,Z,Z,Z,Z,Z,Z,Z,Z,Z,Z,Z,by rw[bB];rfl,trivial⟩⟩
       ·rintro a w ⟨bA,bC,m,f⟩
        have bv:=Ow.mono (RTg.mono (RI.mono _)) bC bv
        refine Aa ?_
        have⟨bD,bE,am⟩:=bind_some am
        refine AF (λa w=>∃j_513':(List (Value×LI)),bD= .inl j_513'∧∃bF:List (Value×LI),bF=j_513'∧∃(bG:GH) (bH:Itm),GLe bA bG∧Fr a 148 [(0,v0),(1,(iv ae)),(2,(iv af)),(3,(iv aP)),(4,(.func (.func 58) #[] #[])),(10,(.bool ah)),(11,(.bool ai)),(12,(iv (i64.wrap (af-ae)))),(13,(iv bg))]∧Mem W bG w (bH::H)∧Ow (RTg R0) 42 bG bH v0 bF) ?_ ?_
        ·rcases Ad bE with⟨bI,bE⟩|⟨bI,bE⟩
         ·refine Ak f Z bI ?_
          refine Ae ?_
          refine Ab f Z λa f=>Ab f Z λa f=>Ab f Z λa f=>Ab f Z λa f=> ?_
          have⟨bJ,bK,bE⟩:=bind_some bE
          refine Av f Z call159 (Wk.g2 m bv bK) λbL bM bN w bO m bP a f=> ?_
          obtain⟨bQ,rfl,rfl,bR⟩:=bP
          refine Aa ?_
          rcases Ad bE with⟨bS,bE⟩|⟨bS,bE⟩
          ·refine Ak f Z bS ?_
           refine Ap ?_
           obtain rfl:=sj bE
           obtain rfl:=sj am
           obtain rfl:=an _ rfl
           obtain rfl:=sj hd
           exact⟨[],trivial,f.d,_,[bQ],(gt ao (gt a2 (gt a9 (gt bu (gt bz (gt bC bO)))))),m,_,Z,bR⟩
          ·refine Ai f Z bS ?_
           refine Al ?_
           obtain rfl:=sj bE
           exact⟨_,Z,_,Z,_,bQ,bO,f.k Z,m,bR⟩
         ·refine Ai f Z bI ?_
          refine Al ?_
          obtain rfl:=sj bE
          exact⟨_,Z,_,Z,_,bj,gr,f.k Z,m,bv⟩
        ·rintro a w ⟨_,rfl,bF,rfl,bG,bH,bT,f,m,bU⟩
         refine Af (Af ?_)
         refine A3 17 Ay (by kernel_rfl) m ?_
         refine Ag 0 17 Z f Z λa f=>q_p 1 17 Z f (λ_=>AA (f.e Z) (f.e Z) Ce) λa f=>Ag 2 17 Z f Z λa f=> ?_
         have⟨bV,bW,am⟩:=bind_some am
         refine BZ (fuel':=0) (listed':= #[true,true,true,true,true,true,true,true,true,true,true,true,true,true,true,true,true]) (λa=>Fr a 148 [(0,v0),(1,(iv ae)),(2,(iv af)),(3,(iv aP)),(4,(.func (.func 58) #[] #[])),(10,(.bool ah)),(11,(.bool ai)),(12,(iv (i64.wrap (af-ae)))),(13,(iv bg)),(81,(iv ae)),(82,(.bool (decide ((0:Int)<ae)))),(83,(.bool (decide ((0:Int)<ae)))),(97,(.bool bV))]) ?_ ?_
         ·intro a f
          refine AK λbX w bY m=> ?_
          have bU:=Ow.mono (RTg.mono (RI.mono _)) bY bU
          refine Aa ?_
          rcases Ad am with⟨bZ,am⟩|⟨bZ,am⟩
          ·refine Ak f Z bZ ?_
           refine Ae ?_
           refine Ab f Z λa f=>Ab f Z λa f=>Ab f Z λa f=>Ab f Z λa f=>Ab f Z λa f=> ?_
           have⟨b0,b1,am⟩:=bind_some am
           refine Av f Z call160 (Wk.H1 m bU b1) λb2 b3 b4 w b5 m b6 a f=> ?_
           obtain⟨b7,rfl,rfl,b8⟩:=b6
           refine Ac f Z λa f=>Au ?_
           refine Ab f Z λa f=>Ac f Z λa f=>Aa ?_
           refine Ax Z ?_
           obtain rfl:=sj am
           exact⟨_,Z,_,_,_,_,_,_,Z,_,b7,(gt ao (gt a2 (gt a9 (gt bu (gt bz (gt bC (gt bT (gt bY b5)))))))),f.k Z,m,b8⟩
          ·refine Ai f Z bZ ?_
           refine Al ?_
           refine Ae ?_
           refine Ab f Z λa f=>Ab f Z λa f=>Ab f Z λa f=>Ab f Z λa f=>Ab f Z λa f=> ?_
           have⟨b9,ca,am⟩:=bind_some am
           refine Av f Z call161 (Wk.E1 m bU ca) λcb cc cd w ce m cf a f=> ?_
           obtain⟨cg,rfl,rfl,ch⟩:=cf
           refine Ab f Z λa f=>l_o f (A7 (f.e Z) Z) λa f=>l_o f (A7 (f.e Z) Z) λa f=>Ac f Z λa f=>Ac f Z λa f=>Au ?_
           refine Ab f Z λa f=>Ac f Z λa f=>Au ?_
           refine Ab f Z λa f=>Ab f Z λa f=>Ah f Z Z AO λa f=>Ab f Z λa f=>Ab f Z λa f=>Ah f Z Z AO λa f=>Ac f Z λa f=>Ac f Z λa f=>Au ?_
           refine Ab f Z λa f=>Ah f Z Z (Dl Z) λa f=>Ac f Z λa f=>Au ?_
           refine Ab f Z λa f=>Ab f Z λa f=>Ah f Z Z AH λa f=>Aa ?_
           rcases Ad am with⟨ci,am⟩|⟨ci,am⟩
           ·refine Ak f Z ci ?_
            refine Ae ?_
            refine Ab f Z λa f=>Ab f Z λa f=>Ah f Z Z BT λa f=>Ac f Z λa f=>Au ?_
            refine Ab f Z λa f=>Ab f Z λa f=>Ab f Z λa f=>Ab f Z λa f=>Ab f Z λa f=> ?_
            have⟨cj,ck,am⟩:=bind_some am
            refine Av f Z call121 (ih m ch ck) λcl cm cn w co m cp a f=> ?_
            obtain⟨cq,rfl,cr⟩:=cp
            refine Aa (Am ?_)
            refine Ab f Z λa f=>Ah f Z Z Ar λa f=>Ac f Z λa f=>Aa ?_
            obtain rfl:=sj am
            exact⟨_,Z,_,_,_,_,_,_,Z,_,cq,(gt ao (gt a2 (gt a9 (gt bu (gt bz (gt bC (gt bT (gt bY (gt ce co))))))))),f.k Z,m,cr⟩
           ·refine Ai f Z ci ?_
            refine Ae ?_
            refine Ab f Z λa f=>Ab f Z λa f=>Ah f Z Z BT λa f=>Ac f Z λa f=>Au ?_
            refine Ab f Z λa f=>Ab f Z λa f=>Ah f Z Z Ar λa f=>Ab f Z λa f=>Ab f Z λa f=>Ab f Z λa f=> ?_
            have⟨cs,ct,am⟩:=bind_some am
            refine Av f Z call121 (ih m ch ct) λcu cv cw w cx m cy a f=> ?_
            obtain⟨cz,rfl,cA⟩:=cy
            refine Aa (Am ?_)
            refine Ab f Z λa f=>Ac f Z λa f=>Aa ?_
            obtain rfl:=sj am
            exact⟨_,Z,_,_,_,_,_,_,Z,_,cz,(gt ao (gt a2 (gt a9 (gt bu (gt bz (gt bC (gt bT (gt bY (gt ce cx))))))))),f.k Z,m,cA⟩
         ·intro cB
          rcases Ad bW with⟨cC,bW⟩|⟨cC,bW⟩
          ·refine Ag (hw:=wo f cC) 3 17 Z f Z λa f=> ?_
           refine Ag (hw:=wo f cC) 4 17 Z f Z λa f=>Ag (hw:=wo f cC) 5 17 Z f Z λa f=>q_p (hw:=wo f cC) 6 17 Z f (λ_=>AA (f.e Z) (f.e Z) AO) λa f=> ?_
           have⟨cD,cE,bW⟩:=bind_some bW
           refine AG (hw:=wo f cC) 7 17 0 m bU T22 cE Z f Z Z λcF a cG f=>AR (hw:=wo f cC) 8 17 0 bU AZ cG cE Z f Z λcH a cI f=>Ag (hw:=wo f cC) 9 17 Z f Z λa f=>Ag (hw:=wo f cC) 10 17 Z f Z λa f=> ?_
           have⟨cJ,cK,bW⟩:=bind_some bW
           refine AG (hw:=wo f cC) 11 17 0 m bU T22 cK Z f Z Z λcL a cM f=>AR (hw:=wo f cC) 12 17 0 bU AZ cM cK Z f Z λcN a cO f=> ?_
           have⟨cP,cQ,bW⟩:=bind_some bW
           refine BG (i:=13) 17 Z (by kernel_rfl) Z f (Ba f Z Z Z cC) Z Z Z call58 (λ_ _ w cR m=>Wk.c m (rd1 cR (cI.2)) (rd1 cR (cO.2)) cQ) λa f=>q_p (hw:=wo f cC) 14 17 Z f (λ_=>AA (f.e Z) (f.e Z) AH) λa f=>q_p (hw:=wo f cC) 15 17 Z f (λ_=>Bj (f.e Z)) λa f=>q_p 16 17 Z f (λ_=>AU (f.e Z) cC (f.e Z)) λa f=> ?_
           obtain rfl:=sj bW
           exact cB _ (f.k Z)
          ·refine Ao 3 17 Z f cC λa f=> ?_
           refine Ao 4 17 Z f cC λa f=>Ao 5 17 Z f cC λa f=>Ao 6 17 Z f cC λa f=>Ao 7 17 Z f cC λa f=>Ao 8 17 Z f cC λa f=>Ao 9 17 Z f cC λa f=>Ao 10 17 Z f cC λa f=>Ao 11 17 Z f cC λa f=>Ao 12 17 Z f cC λa f=>Ao 13 17 Z f cC λa f=>Ao 14 17 Z f cC λa f=>Ao 15 17 Z f cC λa f=>q_p 16 17 Z f (λ_=>AV (f.e Z) cC (f.e Z)) λa f=> ?_
           obtain rfl:=sj bW
           exact cB _ (f.k Z)
theorem Wk.x {v0:Value}{it0:Itm}{x0:(List (Value×LI))}{x1 x2 x3:Int}(m:Mem W G w (it0::H))(o0:Ow (RTg R0) 42 G it0 v0 x0){y:((List (Value×LI)))}(hd:D.x x0 x1 x2 x3=some y):
  Calls prog 121 #[v0,(iv x1),(iv x2),(iv x3),(.func (.func 58) #[] #[])] w (Res W G H (λG' Ho _=>∃i0:Itm,Ho=[i0]∧Ow (RTg R0) 42 G' i0 v0 y)):=by
 exact Wk.h0 Cf m o0 hd
theorem Wk.B0 {v0:Value}{it0:Itm}{x0:(List (Value×LI))}(m:Mem W G w (it0::H))(o0:Ow (RTg R0) 42 G it0 v0 x0){y:((List (Value×LI)))}(hd:D.B0 x0=some y):
  Calls prog 57 #[v0,(.func (.func 58) #[] #[])] w (Res W G H (λG' Ho _=>∃i0:Itm,Ho=[i0]∧Ow (RTg R0) 42 G' i0 v0 y)):=by
 refine As (args:=[v0,(.func (.func 58) #[] #[])]) (N:=14) [] func57 Z Z (lb Z) Z λa f=> ?_
 unfold D.B0 at hd
 refine Ae ?_
 refine Ab f Z λa f=>Bv 0 m o0 Z underlying22 f Z Z λa f=>Ac f Z λa f=>Aa (Am ?_)
 refine Ab f Z λa f=>Ab f Z λa f=>Ab f Z λa f=>l_o f (DA (f.e Z) ⟨_,underlying3⟩ underlying135) λa f=> ?_
 have⟨aa,ab,hd⟩:=bind_some hd
 refine Av f Z call122 (Wk.E m ab) λac ad ae w af m ag a f=> ?_
 obtain⟨rfl,rfl⟩:=ag
 have o0:=Ow.mono (RTg.mono (RI.mono _)) af o0
 refine Ab f Z λa f=> ?_
 have⟨ah,ai,hd⟩:=bind_some hd
 refine Av f Z call121 (Wk.x m o0 ai) λaj ak al w am m an a f=> ?_
 obtain⟨ao,rfl,ap⟩:=an
 refine Aa ?_
 obtain rfl:=sj hd
 exact⟨[],trivial,f.d,_,[ao],(gt af am),m,_,Z,ap⟩
theorem Wk.d0 {aa:Value}{ab:LL}(hW:B5 W)(m:Mem W G w (H))(ac:R2 G aa ab){y:(LL)×(LL)×Bool}(hd:D.d0 ab=some y):
  Calls prog 11 #[(.agg #[aa])] w (Res W G H (λG' Ho v=>∃r0:Value,∃i0:Itm,∃r2:Value,∃i2:Itm,Ho=[i0,i2]∧v= .tuple #[(.agg #[r0,r2]),(.bool y.2.2)]∧Ow2 R0 42 2 G' i0 r0 y.1∧Ow2 R0 42 2 G' i2 r2 y.2.1)):=by
 refine As (args:=[(.agg #[aa])]) (N:=81) [.cell 2 27,.tmp 3] func11 Z Z (lb Z) Z λa f=> ?_
 unfold D.d0 at hd
 refine Ae ?_
 refine By (cs:=[aa]) m f Z Z Z λad w a m f=>Bm (cs:=[sn,sn]) zeroValue27 m f Z Z λae w a m f=>Ac f Z λa f=>Aa (Af (Ae ?_))
 refine AT 1 0 (ds:=[aa]) m A8 f Z Z Z Z Z λa f=> ?_
 have⟨af,ag,hd⟩:=bind_some hd
 refine Bf f Z call48 (Wk.H0 hW m ac ag) λah w ai m a f=> ?_
 have ac:=rd2 ai ac
 refine l_o f (Bj (f.e Z)) λa f=>Aa ?_
 rcases Ad hd with⟨aj,hd⟩|⟨aj,hd⟩
 ·refine Ak f Z aj ?_
  refine Ae ?_
  have ak:∀w,(Instr.build 27 #[]).run prog w= .ok (.agg #[sn,sn]) w:=by intro w;simp[Instr.build,Instr.fill,Cr,Ch,BV,B7,BS,Cs]
  refine CZ f Z Z ak λa f=>AE 0 0 (ds:=[sn,sn]) m sizeOf27 f Z Z Z (AC Z (AC Z AN)) Z (lb Z) Z λw m=>Ac f Z λa f=>Aa ?_
  refine Ap ?_
  obtain⟨al,m,am⟩:=Ow2.nil R0 42 2 m
  obtain⟨an,m,ao⟩:=Ow2.nil R0 42 2 m
  have ap:=BE (P:=prog) 2 m CS f (s:=2) rfl rfl rfl
  have m:=m.fr 1
  have m:=m.eraseAt 3
  have m:=m.eraseAt 2
  obtain rfl:=sj hd
  exact⟨[(.agg #[sn,sn]),(.bool false)],⟨ap,f.get _ _ Z,trivial⟩,f.d,_,[al,an],ai,m,_,_,_,_,Z,Z,am,ao⟩
 ·refine Ai f Z aj ?_
  refine Al ?_
  refine Ae ?_
  refine AT 1 0 (ds:=[aa]) m A8 f Z Z Z Z Z λa f=> ?_
  have⟨aq,ar,hd⟩:=bind_some hd
  refine Av f Z call50 (Wk.F m ac ar) λau av aw w ax m ay a f=> ?_
  obtain⟨az,aA,rfl,rfl,aB⟩:=ay
  have⟨aC,aD,hd⟩:=bind_some hd
  refine Av f Z call49 (Ow.lendCall (RI.mono _) 0 aB m Z (λaE aF m aG=>Wk.t0 hW m aG aD) (λ_ G' _ _ ⟨a0,a1,e1,e2,o0⟩=>⟨a0,a1,e1,e2,Ow.free (RI.free _) G' o0⟩)) λaH aI aJ w aK m aL a f=> ?_
  obtain⟨aM,aN,rfl,rfl,aO⟩:=aL
  refine Ac f Z λa f=>Aa (Af (Ae ?_))
  refine Ab f Z λa f=>Bv 0 m aO Z underlying71 f Z Z λa f=>Ah f Z Z Ce λa f=>Aa ?_
  rcases Ad hd with⟨aP,hd⟩|⟨aP,hd⟩
  ·refine Ak f Z aP ?_
   refine Ae ?_
   have aQ:∀w,(Instr.build 27 #[]).run prog w= .ok (.agg #[sn,sn]) w:=by intro w;simp[Instr.build,Instr.fill,Cr,Ch,BV,B7,BS,Cs]
   refine CZ f Z Z aQ λa f=>AE 2 0 (ds:=[sn,sn]) m sizeOf27 f Z Z Z (AC Z (AC Z AN)) Z (lb Z) Z λw m=>Ac f Z λa f=>Aa ?_
   refine Ap ?_
   obtain⟨aR,m,aS⟩:=Ow2.nil R0 42 2 m
   obtain⟨aT,m,aU⟩:=Ow2.nil R0 42 2 m
   have aV:=BE (P:=prog) 4 m CS f (s:=2) rfl rfl rfl
   have m:=m.fr 1
   have m:=m.eraseAt 5
   have m:Mem W aI w (aR::aT::aN::aA::H):=m.eraseAt 4
   have m:=m.eraseAt 3
   have m:=m.eraseAt 2
   obtain rfl:=sj hd
   exact⟨[(.agg #[sn,sn]),(.bool false)],⟨aV,f.get _ _ Z,trivial⟩,f.d,_,[aR,aT],(gt ai (gt ax aK)),m,_,_,_,_,Z,Z,aS,aU⟩
  ·refine Ai f Z aP ?_
   refine Al ?_
   refine Ae ?_
   refine Ab f Z λa f=>Bv 0 m aO Z underlying71 f Z Z λa f=> ?_
   have⟨aW,aX,hd⟩:=bind_some hd
   refine E8 (R:=(RI .u32)) m T73 Z (by decide) Z f Z Z Z aX λaY aZ w a m a2 f=>AY (R:=RawS) (xs:=[]) RawS.one m T22 f Z Z Z (by decide) (All2.nil _) λa3 a4 w a m a5 f=> ?_
   obtain⟨a6,m,a7⟩:=Ow2.of_empty R0 2 m a5
   refine Ac f Z λa f=>Ac f Z λa f=>Aa (Af (Ae ?_))
   refine Ac f Z λa f=>Aa ?_
   have⟨a8,a9,hd⟩:=bind_some hd
   refine AF (λa w=>∃ba:LL,ba=a8∧∃(bb:GH) (bc:Value) (bd:Itm),GLe aI bb∧Fr a 81 [(2,(pb ae)),(4,aM),(6,bc)]∧Mem W bb w (ib ae 27 [sn,sn]::aN::bd::H)∧Ow2 R0 42 2 bb bd bc ba) ?_ ?_
   ·refine Aj ?_
    have m:=m.fr 1
    have m:=m.fr 2
    have m:Mem W aI w (ib ae 27 [sn,sn]::aN::aY::a6::aA::ib ad 30 [aa]::H):=m.fr 4
    have m:=m.eraseAt 5
    have m:Mem W aI w (ib ae 27 [sn,sn]::aN::aY::a6::H):=m.eraseAt 4
    refine AD (λbe a w=>∃bf:LI,∃bg:LL,∃bh:Int,(bf,bg,bh)=be∧∃(bi:GH) (bj:Itm) (bk:Value) (bl:Itm),GLe aI bi∧Fr a 81 [(2,(pb ae)),(4,aM),(5,aZ),(6,bk),(7,(iv bh))]∧Mem W bi w (ib ae 27 [sn,sn]::aN::bj::bl::H)∧Ow (RI .u32) 76 bi bj aZ bf∧Ow2 R0 42 2 bi bl bk bg) a9 ⟨_,_,_,Z,_,aY,a4,a6,gr,f.k Z,m,a2,a7⟩ ?_
    clear a9 f m
    rintro be bm bn bo a w ⟨bf,bg,bh,rfl,bi,bj,bk,bl,bp,f,m,bq,br⟩
    have aO:=od1 bp aO
    refine Af (Ae ?_)
    refine Ab f Z λa f=>Ah f Z Z BT λa f=>Aa ?_
    rcases Ad bn with⟨bs,bn⟩|⟨bs,bn⟩
    ·refine Ak f Z bs ?_
     refine Al ?_
     refine Af (Aj (Ae ?_))
     refine Ab f Z λa f=>Bv 1 m aO Z underlying71 f Z Z λa f=>Ab f Z λa f=>Aa ?_
     have⟨bt,bu,bn⟩:=bind_some bn
     refine AF (λa w=>∃bv:LI,∃bw:LL,(bv,bw)=bt∧∃(bx:GH) (bz:Itm) (bA:Value) (bB:Itm),GLe bi bx∧Fr a 81 [(2,(pb ae)),(4,aM),(5,aZ),(6,bA),(7,(iv bh))]∧Mem W bx w (ib ae 27 [sn,sn]::aN::bz::bB::H)∧Ow (RI .u32) 76 bx bz aZ bv∧Ow2 R0 42 2 bx bB bA bw) ?_ ?_
     ·refine Aj ?_
      refine AD (λbC a w=>∃bD:LI,∃bE:LL,∃bF:Int,(bD,bE,bF)=bC∧∃(bG:GH) (bH:Itm) (bI:Value) (bJ:Itm),GLe bi bG∧Fr a 81 [(2,(pb ae)),(4,aM),(5,aZ),(6,bI),(7,(iv bh)),(30,(iv (aC.length:Int))),(31,(iv bF))]∧Mem W bG w (ib ae 27 [sn,sn]::aN::bH::bJ::H)∧Ow (RI .u32) 76 bG bH aZ bD∧Ow2 R0 42 2 bG bJ bI bE) bu ⟨_,_,_,Z,_,bj,bk,bl,gr,f.k Z,m,bq,br⟩ ?_
      clear bu f m
      rintro bC bK bL bM a w ⟨bD,bE,bF,rfl,bG,bH,bI,bJ,bN,f,m,bO,bP⟩
      have aO:=od1 bN aO
      refine Ae ?_
      refine Ah f Z Z AH λa f=>Aa (Af ?_)
      rcases Ad bL with⟨bQ,bL⟩|⟨bQ,bL⟩
      ·refine Ak f Z bQ ?_
       refine Al ?_
       refine Af (Aj (Ae ?_))
       refine Ab f Z λa f=>Ac f Z λa f=>Au ?_
       refine Ab f Z λa f=>Ah f Z Z Ar λa f=>Ac f Z λa f=>Aa ?_
       have⟨bR,bS,bL⟩:=bind_some bL
       refine AF (λa w=>∃bT:LI,∃bU:LL,(bT,bU)=bR∧∃(bV:GH) (bW:Itm) (bX:Value) (bY:Itm),GLe bG bV∧Fr a 81 [(2,(pb ae)),(4,aM),(5,aZ),(6,bX),(7,(iv bh)),(30,(iv (aC.length:Int))),(31,(iv bF))]∧Mem W bV w (ib ae 27 [sn,sn]::aN::bW::bY::H)∧Ow (RI .u32) 76 bV bW aZ bT∧Ow2 R0 42 2 bV bY bX bU) ?_ ?_
       ·refine Aj ?_
        refine AD (λbZ a w=>∃b0:LI,∃b1:LL,∃b2:Int,(b0,b1,b2)=bZ∧∃(b3:GH) (b4:Itm) (b5:Value) (b6:Itm),GLe bG b3∧Fr a 81 [(2,(pb ae)),(4,aM),(5,aZ),(6,b5),(7,(iv bh)),(8,(iv bF)),(9,(iv b2)),(30,(iv (aC.length:Int))),(31,(iv bF))]∧Mem W b3 w (ib ae 27 [sn,sn]::aN::b4::b6::H)∧Ow (RI .u32) 76 b3 b4 aZ b0∧Ow2 R0 42 2 b3 b6 b5 b1) bS ⟨_,_,_,Z,_,bH,bI,bJ,gr,f.k Z,m,bO,bP⟩ ?_
        clear bS f m
        rintro bZ b7 b8 b9 a w ⟨b0,b1,b2,rfl,b3,b4,b5,b6,ca,f,m,cb,cc⟩
        have aO:=od1 ca aO
        refine Af (Ae ?_)
        refine Ab f Z λa f=>Ab f Z λa f=>Bv 1 m aO Z underlying71 f Z Z λa f=>Ah f Z Z AH λa f=>Aa ?_
        rcases Ad b8 with⟨cd,b8⟩|⟨cd,b8⟩
        ·refine Ak f Z cd ?_
         refine Al ?_
         refine Af (Aj (Af ?_))
         refine A3 22 Ay (by kernel_rfl) m ?_
         refine Ag 0 22 Z f Z λa f=>Ag 1 22 Z f Z λa f=> ?_
         have⟨ce,cf,b8⟩:=bind_some b8
         refine AG 2 22 1 m aO T71 cf Z f Z Z λcg a ch f=>AR 3 22 1 aO Bg ch cf Z f Z λci a cj f=> ?_
         subst cj
         refine Ag 4 22 Z f Z λa f=>Ag 5 22 Z f Z λa f=> ?_
         have⟨ck,cl,b8⟩:=bind_some b8
         refine AG 6 22 1 m aO T71 cl Z f Z Z λcm a cn f=>AR 7 22 1 aO Bg cn cl Z f Z λco a cp f=> ?_
         subst cp
         refine q_p 8 22 Z f (λ_=>AA (f.e Z) (f.e Z) Dc) λa f=> ?_
         have⟨cq,cr,b8⟩:=bind_some b8
         refine BX (i:=9) 22 Z (by kernel_rfl) Z f Z Z Z call51 (λ_ _ w ct m=>Wk.P m cr) λa f=>Ag 10 22 Z f Z λa f=>q_p 11 22 Z f (λ_=>AA (f.e Z) (f.e Z) Bq) λa f=>Ag 12 22 Z f Z λa f=> ?_
         have⟨cu,cv,b8⟩:=bind_some b8
         refine BZ (fuel':=0) (listed':= #[true,true,true,true,true,true,true,true,true,true,true,true,true,true,true,true,true,true,true,true,true,true]) (λa=>Fr a 81 [(2,(pb ae)),(4,aM),(5,aZ),(6,b5),(7,(iv bh)),(8,(iv bF)),(9,(iv b2)),(30,(iv (aC.length:Int))),(31,(iv bF)),(39,(.bool (decide (b2<(aC.length:Int))))),(42,aM),(43,(iv bF)),(44,cg),(45,(.int .u32 ce)),(46,aM),(47,(iv b2)),(48,cm),(49,(.int .u32 ck)),(50,(.int .u32 (iand .u32 ce ck))),(51,(iv cq)),(52,(iv bh)),(53,(.bool (cq==bh))),(54,(.bool (cq==bh))),(63,(.bool cu))]) ?_ ?_
         ·intro a f
          refine AK λcw w cx m=> ?_
          have cb:=od1 cx cb
          have cc:=od2 cx cc
          refine Aa ?_
          rcases Ad b8 with⟨cy,b8⟩|⟨cy,b8⟩
          ·refine Ak f Z cy ?_
           refine Ae ?_
           refine Ab f Z λa f=>Ab f Z λa f=>Ab f Z λa f=> ?_
           have m:Mem W cw w (b4::ib ae 27 [sn,sn]::aN::b6::H):=m.fr 2
           have⟨cz,cA,b8⟩:=bind_some b8
           refine Av f Z call55 (Wk.L m cb cA) λcB cC cD w cE m cF a f=> ?_
           obtain⟨cG,rfl,cH⟩:=cF
           have cc:=od2 cE cc
           refine Aa (Am ?_)
           refine Ab f Z λa f=>Ab f Z λa f=>Ab f Z λa f=> ?_
           have⟨cI,cJ,b8⟩:=bind_some b8
           refine Av f Z call56 (Wk.R m cJ) λcK cL cM w cN m cO a f=> ?_
           obtain⟨cP,cQ,rfl,rfl,cR⟩:=cO
           have cH:=od1 cN cH
           have cc:=od2 cN cc
           refine AY (R:=RawS) (xs:=[cP]) RawS.one m T22 f Z Z Z (by decide) (All2.cons ⟨Z,Ow.one1 0 m cR Z,Ow.cells 0 m cR Z⟩ (All2.nil _)) λcS cT w a m cU f=> ?_
           have m:=m.fr 1
           have m:Mem W cL w (b6::cQ::cS::cG::ib ae 27 [sn,sn]::aN::H):=m.fr 5
           have⟨cV,cW,b8⟩:=bind_some b8
           refine EW m cc cR cU T22 Z (by decide) f Z Z Z cW λcX cY w a m cZ f=>Ac f Z λa f=>Aa (Am ?_)
           refine Ab f Z λa f=>Ah f Z Z Ar λa f=>Ac f Z λa f=>Aa ?_
           have m:=m.fr 1
           have m:=m.fr 3
           have m:Mem W cL w (ib ae 27 [sn,sn]::aN::cG::cX::H):=m.fr 3
           obtain rfl:=sj b8
           exact⟨_,Z,_,_,_,Z,_,cG,cY,cX,(gt ca (gt cx (gt cE cN))),f.k Z,m,cH,cZ⟩
          ·refine Ai f Z cy ?_
           refine Al ?_
           refine Am ?_
           refine Ab f Z λa f=>Ah f Z Z Ar λa f=>Ac f Z λa f=>Aa ?_
           obtain rfl:=sj b8
           exact⟨_,Z,_,_,_,Z,_,b4,b5,b6,(gt ca cx),f.k Z,m,cb,cc⟩
         ·intro c0
          rcases Ad cv with⟨c1,cv⟩|⟨c1,cv⟩
          ·refine Ag (hw:=wo f c1) 13 22 Z f Z λa f=> ?_
           refine Ag (hw:=wo f c1) 14 22 Z f Z λa f=>Ag (hw:=wo f c1) 15 22 Z f Z λa f=> ?_
           have⟨c2,c3,cv⟩:=bind_some cv
           refine BX (i:=16) 22 Z (by kernel_rfl) Z f (Ba f Z Z Z c1) Z Z call53 (λ_ _ w c4 m=>(Ow.lendCallR (RI.mono _) 2 (od1 c4 cb) m Z (λc5 c6 m c7=>Wk.r m c7 c3) (λ_ _ _ _ h=>h))) λa f=> ?_
           have⟨c8,c9,cv⟩:=bind_some cv
           refine BX (i:=17) 22 Z (by kernel_rfl) Z f (Ba f Z Z Z c1) Z Z call52 (λ_ _ w da m=>(Ow.lendCallR (RI.mono _) 2 (od1 da cb) m Z (λdb dc m dd=>Wk.K hW m dd c9) (λ_ _ _ _ h=>h))) λa f=>Ag (hw:=wo f c1) 18 22 Z f Z λa f=> ?_
           have⟨de,df,cv⟩:=bind_some cv
           refine BX (i:=19) 22 Z (by kernel_rfl) Z f (Ba f Z Z Z c1) Z Z call54 (λ_ _ w dg m=>Wk.j m df) λa f=>q_p (hw:=wo f c1) 20 22 Z f (λ_=>Bj (f.e Z)) λa f=>q_p 21 22 Z f (λ_=>AU (f.e Z) c1 (f.e Z)) λa f=> ?_
           obtain rfl:=sj cv
           exact c0 _ (f.k Z)
          ·refine Ao 13 22 Z f c1 λa f=> ?_
           refine Ao 14 22 Z f c1 λa f=>Ao 15 22 Z f c1 λa f=>Ao 16 22 Z f c1 λa f=>Ao 17 22 Z f c1 λa f=>Ao 18 22 Z f c1 λa f=>Ao 19 22 Z f c1 λa f=>Ao 20 22 Z f c1 λa f=>q_p 21 22 Z f (λ_=>AV (f.e Z) c1 (f.e Z)) λa f=> ?_
           obtain rfl:=sj cv
           exact c0 _ (f.k Z)
        ·refine Ai f Z cd ?_
         refine Ax Z ?_
         obtain rfl:=sj b8
         obtain rfl:=b9 _ rfl
         exact⟨_,_,Z,_,b4,b5,b6,ca,f.k Z,m,cb,cc⟩
       ·rintro a w ⟨bT,bU,rfl,bV,bW,bX,bY,dh,f,m,di,dj⟩
        refine Am ?_
        refine Ah f Z Z Ar λa f=>Ab f Z λa f=>Aa ?_
        obtain rfl:=sj bL
        exact⟨_,Z,_,_,_,Z,_,bW,bX,bY,(gt bN dh),f.k Z,m,di,dj⟩
      ·refine Ai f Z bQ ?_
       refine Ax Z ?_
       obtain rfl:=sj bL
       obtain rfl:=bM _ rfl
       exact⟨_,_,Z,_,bH,bI,bJ,bN,f.k Z,m,bO,bP⟩
     ·rintro a w ⟨bv,bw,rfl,bx,bz,bA,bB,dk,f,m,dl,dm⟩
      refine Am ?_
      refine Ab f Z λa f=>Ah f Z Z AO λa f=>Ac f Z λa f=>Aa ?_
      obtain rfl:=sj bn
      exact⟨_,Z,_,_,_,Z,_,bz,bA,bB,(gt bp dk),f.k Z,m,dl,dm⟩
    ·refine Ai f Z bs ?_
     refine Ax Z ?_
     have m:=m.fr 3
     have m:=m.fr 2
     have m:Mem W bi w (ib ae 27 [sn,sn]::aN::bl::bj::H):=m.fr 2
     have m:=m.eraseAt 3
     obtain rfl:=sj bn
     obtain rfl:=bo _ rfl
     exact⟨_,Z,_,bk,bl,bp,f.k Z,m,br⟩
   ·rintro a w ⟨ba,rfl,bb,bc,bd,dn,f,m,dp⟩
    have aO:=od1 dn aO
    refine Ae ?_
    refine Ab f Z λa f=> ?_
    have m:=m.fr 2
    have⟨dq,dr,hd⟩:=bind_some hd
    refine Av f Z call57 (Ow2.sortCall (RI.free _) dp m (λZ hZ=>(Bs dr hZ).imp (λzs h=>⟨h.2.1,h.2.2,λ_ _ m o=>Wk.B0 m o h.1⟩))) λdt du dv w dw m dx a f=> ?_
    obtain⟨dy,rfl,dz⟩:=dx
    have aO:=od1 dw aO
    refine Au ?_
    refine Ab f Z λa f=> ?_
    have⟨dA,dB,hd⟩:=bind_some hd
    refine Av f Z call59 (Ow.lendCall (RI.mono _) 2 aO m Z (λdC dD m dE=>Wk.Y hW m dE dB) (λ_ G' _ _ ⟨a0,a1,e1,e2,o0⟩=>⟨a0,a1,e1,e2,Ow2.free (RI.free _) G' o0⟩)) λdF dG dH w dI m dJ a f=> ?_
    obtain⟨dK,dL,rfl,rfl,dM⟩:=dJ
    have dz:=od2 dI dz
    refine Ab f Z λa f=> ?_
    have dN:∀w,(Instr.build 27 #[(0,dK),(1,bc)]).run prog w= .ok (.agg #[dK,bc]) w:=by intro w;simp[Instr.build,Instr.fill,(Ow2.cells 0 m dM rfl),(Ow2.cells 1 m dz rfl),Cr,Ch,BV,B7,BS,Cs]
    refine CZ f Z Z dN λa f=>AE 2 0 (ds:=[dK,bc]) m sizeOf27 f Z Z Z (AC (Ow2.one1 0 m dM Z) (AC (Ow2.one1 1 m dz Z) AN)) Z (lb Z) Z λw m=>Ac f Z λa f=>Aa ?_
    refine Ap ?_
    have dO:=BE (P:=prog) 2 m CS f (s:=2) rfl rfl rfl
    have m:=m.fr 3
    have m:=m.fr 2
    have m:Mem W dG w (dL::dy::aN::ib ae 27 [dK,bc]::H):=m.fr 2
    have m:=m.eraseAt 3
    have m:=m.eraseAt 2
    obtain rfl:=sj hd
    exact⟨[(.agg #[dK,bc]),(.bool true)],⟨dO,f.get _ _ Z,trivial⟩,f.d,_,[dL,dy],(gt ai (gt ax (gt aK (gt dn (gt dw dI))))),m,_,_,_,_,Z,Z,dM,dz⟩
theorem Wk.u {aa:Value}{ab:LL}{x1 x2:Int}(m:Mem W G w (H))(ac:R2 G aa ab){y:Bool}(hd:D.u ab x1 x2=some y):
  Calls prog 201 #[(.agg #[aa]),(iv x1),(iv x2)] w (Res W G H (λ_ Ho v=>Ho=[]∧v=(.bool y))):=by
 refine As (args:=[(.agg #[aa]),(iv x1),(iv x2)]) (N:=14) [.tmp 6] func201 Z Z (lb Z) Z λa f=> ?_
 unfold D.u at hd
 refine Ae ?_
 refine By (cs:=[aa]) m f Z Z Z λad w a m f=>Ac f Z λa f=>Au ?_
 refine Bu underlying30 Z sizeOf22 f Z λa f=>AJ 0 0 m Bd f Z Z Z Z λa f=>Ab f Z λa f=> ?_
 have⟨ae,af,hd⟩:=bind_some hd
 refine Bl T22 f Z Z Z ac af λag ah a ai aj f=>AM m AZ f Z Z ai λa f=>Ab f Z λa f=> ?_
 have⟨ak,al,hd⟩:=bind_some hd
 refine Bf f Z call70 (Wk.i m aj al) λam w an m a f=>Ac f Z λa f=>Aa ?_
 refine Ap ?_
 have m:Mem W am w H:=Mem.drop (H':=[ib ad 30 [aa]]) m
 obtain rfl:=sj hd
 exact⟨[(.bool ak)],f.g Z,f.d,_,[],an,m,Z,Z⟩
theorem Wk.s0 {aa v1:Value}{ab:LL}{x1:LI}(m:Mem W G w (H))(ac:R2 G aa ab)(h1:R1 G v1 x1){y:Int}(hd:D.s0 ab x1=some y):
  Calls prog 177 #[(.agg #[aa]),v1] w (Res W G H (λ_ Ho v=>Ho=[]∧v=(iv y))):=by
 refine As (args:=[(.agg #[aa]),v1]) (N:=33) [.tmp 4] func177 Z Z (lb Z) Z λa f=> ?_
 unfold D.s0 at hd
 refine Ae ?_
 refine By (cs:=[aa]) m f Z Z Z λad w a m f=>Ac f Z λa f=>Au ?_
 refine Ac f Z λa f=>Aa (Af (Ae ?_))
 refine Ac f Z λa f=>Aa ?_
 have⟨ae,af,hd⟩:=bind_some hd
 refine AF (λa w=>∃ag:Int,ag=ae∧∃(ah:GH),GLe G ah∧Fr a 33 [(5,(iv ag))]∧Mem W ah w (H)) ?_ ?_
 ·refine Aj ?_
  refine AD (λai a w=>∃aj:Int,∃ak:Int,(aj,ak)=ai∧∃(al:GH),GLe G al∧Fr a 33 [(1,v1),(2,(pb ad)),(5,(iv aj)),(6,(iv ak))]∧Mem W al w (ib ad 30 [aa]::H)) af ⟨_,_,Z,_,gr,f.k Z,m⟩ ?_
  clear af f m
  rintro ai am an ao a w ⟨aj,ak,rfl,al,ap,f,m⟩
  have h1:=rd1 ap h1
  have ac:=rd2 ap ac
  refine Af (Ae ?_)
  refine Ab f Z λa f=>Ab f Z λa f=>A5 underlying42 f Z Z h1 λa f=>Ah f Z Z AH λa f=>Aa ?_
  rcases Ad an with⟨aq,an⟩|⟨aq,an⟩
  ·refine Ak f Z aq ?_
   refine Al ?_
   refine Af (Aj (Ae ?_))
   refine Ac f Z λa f=>Aa ?_
   have⟨ar,au,an⟩:=bind_some an
   refine AF (λa w=>∃av:Int,av=ar∧∃(aw:GH),GLe al aw∧Fr a 33 [(1,v1),(2,(pb ad)),(5,(iv av)),(6,(iv ak))]∧Mem W aw w (ib ad 30 [aa]::H)) ?_ ?_
   ·refine Aj ?_
    refine AD (λax a w=>∃ay:Int,∃az:Int,(ay,az)=ax∧∃(aA:GH),GLe al aA∧Fr a 33 [(1,v1),(2,(pb ad)),(5,(iv ay)),(6,(iv ak)),(7,(iv az))]∧Mem W aA w (ib ad 30 [aa]::H)) au ⟨_,_,Z,_,gr,f.k Z,m⟩ ?_
    clear au f m
    rintro ax aB aC aD a w ⟨ay,az,rfl,aA,aE,f,m⟩
    have h1:=rd1 aE h1
    have ac:=rd2 aE ac
    refine Af (Ae ?_)
    refine Ab f Z λa f=>Ab f Z λa f=>Ah f Z Z AH λa f=>Aa ?_
    rcases Ad aC with⟨aF,aC⟩|⟨aF,aC⟩
    ·refine Ak f Z aF ?_
     refine Al ?_
     refine Af (Aj (Af ?_))
     refine A3 11 Ay (by kernel_rfl) m ?_
     refine BH (i:=0) (ds:=[aa]) 11 0 A8 Z Z Z Z (by kernel_rfl) Z f Z Z Z λa f=>Ag 1 11 Z f Z λa f=>Ag 2 11 Z f Z λa f=> ?_
     have⟨aG,aH,aC⟩:=bind_some aC
     refine Cj 3 11 T42 h1 aH Z f Z Z λaI aJ a aK aL f=> ?_
     subst aL
     refine Ck 4 11 Pl2 aK Z f Z λa f=>Ag 5 11 Z f Z λa f=>Ag 6 11 Z f Z λa f=> ?_
     have⟨aM,aN,aC⟩:=bind_some aC
     refine Cj 7 11 T42 h1 aN Z f Z Z λaO aP a aQ aR f=> ?_
     subst aR
     refine Ck 8 11 Pl2 aQ Z f Z λa f=> ?_
     have⟨aS,aT,aC⟩:=bind_some aC
     refine BX (i:=9) 11 Z (by kernel_rfl) Z f Z Z Z call201 (λ_ _ w aU m=>Wk.u m (rd2 aU ac) aT) λa f=>q_p 10 11 Z f (λ_=>Bj (f.e Z)) λa f=>AK λaV w aW m=>Aa ?_
     rcases Ad aC with⟨aX,aC⟩|⟨aX,aC⟩
     ·refine Ak f Z aX ?_
      refine Am ?_
      refine Ab f Z λa f=>Ah f Z Z Ar λa f=>Ac f Z λa f=>Aa (Am ?_)
      refine Ab f Z λa f=>Ah f Z Z Ar λa f=>Ac f Z λa f=>Aa ?_
      obtain rfl:=sj aC
      exact⟨_,Z,_,_,Z,_,(gt aE aW),f.k Z,m⟩
     ·refine Ai f Z aX ?_
      refine Al ?_
      refine Am ?_
      refine Ab f Z λa f=>Ah f Z Z Ar λa f=>Ac f Z λa f=>Aa ?_
      obtain rfl:=sj aC
      exact⟨_,Z,_,_,Z,_,(gt aE aW),f.k Z,m⟩
    ·refine Ai f Z aF ?_
     refine Ax Z ?_
     obtain rfl:=sj aC
     obtain rfl:=aD _ rfl
     exact⟨_,Z,_,aE,f.k Z,m⟩
   ·rintro a w ⟨av,rfl,aw,aY,f,m⟩
    refine Am ?_
    refine Ab f Z λa f=>Ah f Z Z Ar λa f=>Ac f Z λa f=>Aa ?_
    obtain rfl:=sj an
    exact⟨_,Z,_,_,Z,_,(gt ap aY),f.k Z,m⟩
  ·refine Ai f Z aq ?_
   refine Ax Z ?_
   have m:Mem W al w H:=Mem.drop (H':=[ib ad 30 [aa]]) m
   obtain rfl:=sj an
   obtain rfl:=ao _ rfl
   exact⟨_,Z,_,ap,f.k Z,m⟩
 ·rintro a w ⟨ag,rfl,ah,aZ,f,m⟩
  refine Ae ?_
  refine Ab f Z λa f=>Ac f Z λa f=>Aa ?_
  refine Ap ?_
  obtain rfl:=sj hd
  exact⟨[(iv ag)],f.g Z,f.d,_,[],aZ,m,Z,Z⟩
theorem Wk.h {aa v1:Value}{ab:LL}{x1:LI}(m:Mem W G w (H))(ac:R2 G aa ab)(h1:R1 G v1 x1){y:Bool}(hd:D.h ab x1=some y):
  Calls prog 140 #[(.agg #[aa]),v1] w (Res W G H (λ_ Ho v=>Ho=[]∧v=(.bool y))):=by
 refine As (args:=[(.agg #[aa]),v1]) (N:=9) [.tmp 4] func140 Z Z (lb Z) Z λa f=> ?_
 unfold D.h at hd
 refine Ae ?_
 refine By (cs:=[aa]) m f Z Z Z λad w a m f=>Ac f Z λa f=>Au ?_
 refine AT 0 0 (ds:=[aa]) m A8 f Z Z Z Z Z λa f=>Ab f Z λa f=> ?_
 have⟨ae,af,hd⟩:=bind_some hd
 refine Bf f Z call177 (Wk.s0 m ac h1 af) λag w ah m a f=>Ah f Z Z Bq λa f=>Ac f Z λa f=>Aa ?_
 refine Ap ?_
 have m:Mem W ag w H:=Mem.drop (H':=[ib ad 30 [aa]]) m
 obtain rfl:=sj hd
 exact⟨[(.bool (ae==0))],f.g Z,f.d,_,[],ah,m,Z,Z⟩
theorem Wk.w0 {aa:Value}{ab:LL}(m:Mem W G w (H))(ac:R2 G aa ab){y:(LI)×Bool}(hd:D.w0 ab=some y):
  Calls prog 76 #[(.agg #[aa])] w (Res W G H (λG' Ho v=>∃r0:Value,∃i0:Itm,Ho=[i0]∧v= .tuple #[r0,(.bool y.2)]∧Ow R0 2 G' i0 r0 y.1)):=by
 refine As (args:=[(.agg #[aa])]) (N:=54) [.tmp 2,.tmp 3] func76 Z Z (lb Z) Z λa f=> ?_
 unfold D.w0 at hd
 refine Ae ?_
 refine By (cs:=[aa]) m f Z Z Z λad w a m f=>Ac f Z λa f=>Ac f Z λa f=>Aa (Af (Ae ?_))
 refine AT 0 0 (ds:=[aa]) m A8 f Z Z Z Z Z λa f=> ?_
 have⟨ae,af,hd⟩:=bind_some hd
 refine Bf f Z call77 (Wk.J m ac af) λag w ah m a f=> ?_
 have ac:=rd2 ah ac
 refine l_o f (Bj (f.e Z)) λa f=>Aa ?_
 rcases Ad hd with⟨ai,hd⟩|⟨ai,hd⟩
 ·refine Ak f Z ai ?_
  refine Ae ?_
  refine AY (R:=R0) (xs:=([]:LI)) (RI.one _) m T42 f Z Z Z (by decide) (All2.nil _) λaj ak w a m al f=>Ac f Z λa f=>Ac f Z λa f=>Aa ?_
  refine Ap ?_
  have m:=m.eraseAt 1
  obtain rfl:=sj hd
  exact⟨[ak,(.bool false)],⟨f.get _ _ Z,f.get _ _ Z,trivial⟩,f.d,_,[aj],ah,m,_,_,Z,Z,al⟩
 ·refine Ai f Z ai ?_
  refine Al ?_
  refine Ae ?_
  refine AT 0 0 (ds:=[aa]) m A8 f Z Z Z Z Z λa f=> ?_
  have⟨am,an,hd⟩:=bind_some hd
  refine Bf f Z call80 (Wk.a m ac an) λao w ap m a f=> ?_
  have ac:=rd2 ap ac
  have⟨aq,ar,hd⟩:=bind_some hd
  refine E8 (R:=RB) m T142 Z (by decide) Z f Z Z Z ar λau av w a m aw f=>Ac f Z λa f=>Au ?_
  refine AY (R:=R0) (xs:=([]:LI)) (RI.one _) m T42 f Z Z Z (by decide) (All2.nil _) λax ay w a m az f=>Ac f Z λa f=>Aa (Af ?_)
  have⟨aA,aB,hd⟩:=bind_some hd
  refine AF (λa w=>∃q_525':LI,aA= .inl q_525'∧∃aC:LI,aC=q_525'∧∃(aD:GH) (aE:Value) (aF:Itm),GLe ao aD∧Fr a 54 [(5,aE)]∧Mem W aD w (aF::H)∧Ow R0 2 aD aF aE aC) ?_ ?_
  ·refine Aj ?_
   have m:=m.fr 1
   have m:=m.fr 2
   refine AD (λaG a w=>∃aH:List Bool,∃aI:LI,(aH,aI)=aG∧∃(aJ:GH) (aK:Itm) (aL:Value) (aM:Itm),GLe ao aJ∧Fr a 54 [(1,(pb ad)),(4,av),(5,aL)]∧Mem W aJ w (ib ad 30 [aa]::aK::aM::H)∧Ow RB 4 aJ aK av aH∧Ow R0 2 aJ aM aL aI) aB ⟨_,_,Z,_,au,ay,ax,gr,f.k Z,m,aw,az⟩ ?_
   clear aB f m
   rintro aG aN aO aP a w ⟨aH,aI,rfl,aJ,aK,aL,aM,aQ,f,m,aR,aS⟩
   have ac:=rd2 aQ ac
   refine Af (Ae ?_)
   refine Ab f Z λa f=>Bv 2 m aS Z underlying42 f Z Z λa f=>AT 0 0 (ds:=[aa]) m A8 f Z Z Z Z Z λa f=> ?_
   have⟨aT,aU,aO⟩:=bind_some aO
   refine Bf f Z call80 (Wk.a m ac aU) λaV w aW m a f=> ?_
   have ac:=rd2 aW ac
   have aR:=Ow.mono RB.mono aW aR
   have aS:=od1 aW aS
   refine Ah f Z Z AH λa f=>Aa ?_
   rcases Ad aO with⟨aX,aO⟩|⟨aX,aO⟩
   ·refine Ak f Z aX ?_
    refine Al ?_
    refine Aj (Ae ?_)
    refine Ac f Z λa f=>Aa (Af ?_)
    have⟨aY,aZ,aO⟩:=bind_some aO
    refine AF (λa w=>∃a2:Int,a2=aY∧∃(a3:GH),GLe aV a3∧Fr a 54 [(1,(pb ad)),(4,av),(5,aL),(6,(iv a2))]∧Mem W a3 w (ib ad 30 [aa]::aK::aM::H)) ?_ ?_
    ·refine Aj ?_
     refine AD (λa4 a w=>∃a5:Int,a5=a4∧∃(a6:GH),GLe aV a6∧Fr a 54 [(1,(pb ad)),(4,av),(5,aL),(6,(iv a5))]∧Mem W a6 w (ib ad 30 [aa]::aK::aM::H)) aZ ⟨_,Z,_,gr,f.k Z,m⟩ ?_
     clear aZ f m
     rintro a4 a7 a8 a9 a w ⟨a5,rfl,a6,ba,f,m⟩
     have ac:=rd2 ba ac
     have aR:=Ow.mono RB.mono ba aR
     refine Af (Af ?_)
     refine A3 19 Ay (by kernel_rfl) m ?_
     refine Ag 0 19 Z f Z λa f=>BH (i:=1) (ds:=[aa]) 19 0 A8 Z Z Z Z (by kernel_rfl) Z f Z Z Z λa f=> ?_
     have⟨bb,bc,a8⟩:=bind_some a8
     refine BX (i:=2) 19 Z (by kernel_rfl) Z f Z Z Z call80 (λ_ _ w bd m=>Wk.a m (rd2 bd ac) bc) λa f=>q_p 3 19 Z f (λ_=>AA (f.e Z) (f.e Z) AH) λa f=>Ag 4 19 Z f Z λa f=> ?_
     rcases Ad a8 with⟨be,a8⟩|⟨be,a8⟩
     ·refine Ag (hw:=wo f be) 5 19 Z f Z λa f=> ?_
      refine Ag (hw:=wo f be) 6 19 Z f Z λa f=> ?_
      have⟨bf,bg,a8⟩:=bind_some a8
      refine AG (hw:=wo f be) 7 19 1 m aR T142 bg Z f Z Z λbh a bi f=>AR (hw:=wo f be) 8 19 1 aR Pl4 bi bg Z f Z λbj a bk f=> ?_
      subst bk
      refine Ag (hw:=wo f be) 9 19 Z f Z λa f=> ?_
      rcases Ad a8 with⟨bl,a8⟩|⟨bl,a8⟩
      ·refine Ao 10 19 Z f bl λa f=> ?_
       refine Ao 11 19 Z f bl λa f=>Ao 12 19 Z f bl λa f=>Ao 13 19 Z f bl λa f=>Ao 14 19 Z f bl λa f=>Ao 15 19 Z f bl λa f=>Ao 16 19 Z f bl λa f=>q_p (hw:=wo f be) 17 19 Z f (λ_=>AU (f.e Z) bl (f.e Z)) λa f=>q_p 18 19 Z f (λ_=>AU (f.e Z) be (f.e Z)) λa f=>AK λbm w bn m=>Aa ?_
       refine Ak f Z Z ?_
       refine Al ?_
       refine Aj (Am ?_)
       refine Ab f Z λa f=>Ah f Z Z Ar λa f=>Ac f Z λa f=>Aa ?_
       obtain rfl:=sj a8
       exact⟨_,Z,_,Z,_,(gt ba bn),f.k Z,m⟩
      ·refine BH (i:=10) (ds:=[aa]) 19 0 A8 Z Z Z Z (by kernel_rfl) Z f (Ba f Z Z Z bl) Z Z λa f=> ?_
       refine BH (i:=11) (ds:=[aa]) 19 0 A8 Z Z Z Z (by kernel_rfl) Z f (Ba f Z Z Z bl) Z Z λa f=>Ag (hw:=wo f bl) 12 19 Z f Z λa f=>Ag (hw:=wo f bl) 13 19 Z f Z λa f=>Bi 14 Z λbo w bp m bq bq=> ?_
       have ac:=rd2 bp ac
       have aR:=Ow.mono RB.mono bp aR
       refine AI f bl ?_
       have⟨br,bs,a8⟩:=bind_some a8
       refine Av f Z call132 (Ow.lendCall RB.mono 1 aR m Z (λbt bu m bv=>Wk.V m (rd2 bu ac) bv bs) (λ_ G' _ _ ⟨a0,a1,e1,e2,o0⟩=>⟨a0,a1,e1,e2,Ow.free (RI.free _) G' o0⟩)) λbw bx bz w bA m bB a f=> ?_
       obtain⟨bC,bD,rfl,rfl,bE⟩:=bB
       have ac:=rd2 bA ac
       refine Aa ?_
       refine bq bx [bD] _ _ bA m ?_
       refine Bi 15 Z λbF w bG m bH bH=> ?_
       have ac:=rd2 bG ac
       have bE:=od1 bG bE
       refine AI f bl ?_
       have⟨bI,bJ,a8⟩:=bind_some a8
       refine Av f Z call140 (Ow.lendCall (RI.mono _) 0 bE m Z (λbK bL m bM=>Wk.h m (rd2 bL ac) bM bJ) (λ_ _ _ _ h=>h)) λbN bO bP w bQ m bR a f=> ?_
       obtain⟨rfl,rfl⟩:=bR
       refine Aa ?_
       refine bH bO [bD] _ _ bQ m ?_
       refine q_p (hw:=wo f bl) 16 19 Z f (λ_=>Bj (f.e Z)) λa f=>q_p (hw:=wo f be) 17 19 Z f (λ_=>AV (f.e Z) bl (f.e Z)) λa f=>q_p 18 19 Z f (λ_=>AU (f.e Z) be (f.e Z)) λa f=>AK λbS w bT m=>Aa ?_
       rcases Ad a8 with⟨bU,a8⟩|⟨bU,a8⟩
       ·refine Ak f Z bU ?_
        refine Al ?_
        refine Aj (Am ?_)
        refine Ab f Z λa f=>Ah f Z Z Ar λa f=>Ac f Z λa f=>Aa ?_
        have m:=m.fr 3
        have m:=m.fr 3
        have m:Mem W bS w (ib ad 30 [aa]::aK::aM::bD::H):=m.fr 3
        have m:=m.eraseAt 3
        obtain rfl:=sj a8
        exact⟨_,Z,_,Z,_,(gt ba (gt bp (gt bA (gt bG (gt bQ bT))))),f.k Z,m⟩
       ·refine Ai f Z bU ?_
        refine Ax Z ?_
        have m:=m.fr 3
        have m:=m.fr 3
        have m:Mem W bS w (ib ad 30 [aa]::aK::aM::bD::H):=m.fr 3
        have m:=m.eraseAt 3
        obtain rfl:=sj a8
        obtain rfl:=a9 _ rfl
        exact⟨_,Z,_,(gt ba (gt bp (gt bA (gt bG (gt bQ bT))))),f.k Z,m⟩
     ·refine Ao 5 19 Z f be λa f=> ?_
      refine Ao 6 19 Z f be λa f=>Ao 7 19 Z f be λa f=>Ao 8 19 Z f be λa f=>Ao 9 19 Z f be λa f=>DD 10 19 Z f λa f=>DD 11 19 Z f λa f=>DD 12 19 Z f λa f=>DD 13 19 Z f λa f=>DD 14 19 Z f λa f=>DD 15 19 Z f λa f=>DD 16 19 Z f λa f=>Ao 17 19 Z f be λa f=>q_p 18 19 Z f (λ_=>AV (f.e Z) be (f.e Z)) λa f=>AK λbV w bW m=>Aa ?_
      refine Ai f Z Z ?_
      refine Ax Z ?_
      obtain rfl:=sj a8
      obtain rfl:=a9 _ rfl
      exact⟨_,Z,_,(gt ba bW),f.k Z,m⟩
    ·rintro a w ⟨a2,rfl,a3,bX,f,m⟩
     have ac:=rd2 bX ac
     have aR:=Ow.mono RB.mono bX aR
     have aS:=od1 bX aS
     refine Af (Ae ?_)
     refine Ab f Z λa f=>AT 0 0 (ds:=[aa]) m A8 f Z Z Z Z Z λa f=> ?_
     have⟨bY,bZ,aO⟩:=bind_some aO
     refine Bf f Z call80 (Wk.a m ac bZ) λb0 w b1 m a f=> ?_
     have aR:=Ow.mono RB.mono b1 aR
     have aS:=od1 b1 aS
     refine Ah f Z Z Bq λa f=>Aa ?_
     rcases Ad aO with⟨b2,aO⟩|⟨b2,aO⟩
     ·refine Ak f Z b2 ?_
      refine Ae ?_
      refine AY (R:=R0) (xs:=([]:LI)) (RI.one _) m T42 f Z Z Z (by decide) (All2.nil _) λb3 b4 w a m b5 f=>Ac f Z λa f=>Ac f Z λa f=>Aa ?_
      refine Ap ?_
      have m:=m.eraseAt 3
      have m:=m.eraseAt 2
      have m:=m.eraseAt 1
      obtain rfl:=sj aO
      obtain rfl:=aP _ rfl
      obtain rfl:=sj hd
      exact⟨[b4,(.bool false)],⟨f.get _ _ Z,f.get _ _ Z,trivial⟩,f.d,_,[b3],(gt ah (gt ap (gt aQ (gt aW (gt bX b1))))),m,_,_,Z,Z,b5⟩
     ·refine Ai f Z b2 ?_
      refine Al ?_
      refine Ae ?_
      refine Ab f Z λa f=>Ab f Z λa f=> ?_
      have⟨b6,b7,aO⟩:=bind_some aO
      refine A6 1 m aR Z T142 f Z Z Z b7 λb8 a b9 f=>Aw 1 m aR Z sizeOf4 f Z Z b9 b7 Z Z Z λca w m cb=>Aa (Am ?_)
      refine Ab f Z λa f=>Ab f Z λa f=>AY (R:=R0) (xs:=([a2]:LI)) (RI.one _) m T42 f Z Z Z (by decide) (All2.cons Z (All2.nil _)) λcc cd w a m ce f=> ?_
      have⟨cf,cg,aO⟩:=bind_some aO
      refine Bh (RI.one _) 3 m aS Z T42 Z (by decide) f Z Z Z (Ow.src (j:=0) ce m Z) cg λch ci w a m cj f=>Ac f Z λa f=>Aa ?_
      have m:=m.fr 3
      have m:=m.fr 3
      have m:Mem W b0 w (ib ad 30 [aa]::ca::ch::cc::H):=m.fr 3
      have m:=m.eraseAt 3
      obtain rfl:=sj aO
      exact⟨_,Z,_,_,Z,_,ca,ci,ch,(gt aQ (gt aW (gt bX b1))),f.k Z,m,cb,cj⟩
   ·refine Ai f Z aX ?_
    refine Ax Z ?_
    have m:=m.fr 2
    have m:=m.eraseAt 2
    have m:=m.eraseAt 1
    obtain rfl:=sj aO
    obtain rfl:=aP _ rfl
    exact⟨_,Z,_,Z,_,aL,aM,(gt aQ aW),f.k Z,m,aS⟩
  ·rintro a w ⟨_,rfl,aC,rfl,aD,aE,aF,ck,f,m,cl⟩
   refine Ae ?_
   refine Ab f Z λa f=>Ac f Z λa f=>Ac f Z λa f=>Aa ?_
   refine Ap ?_
   obtain rfl:=sj hd
   exact⟨[aE,(.bool true)],⟨f.get _ _ Z,f.get _ _ Z,trivial⟩,f.d,_,[aF],(gt ah (gt ap ck)),m,_,_,Z,Z,cl⟩
theorem Wk.T {aa:Value}{ab:LL}(m:Mem W G w (H))(ac:R2 G aa ab){y:Bool}(hd:D.T ab=some y):
  Calls prog 28 #[(.agg #[aa])] w (Res W G H (λ_ Ho v=>Ho=[]∧v=(.bool y))):=by
 refine As (args:=[(.agg #[aa])]) (N:=11) [.tmp 2] func28 Z Z (lb Z) Z λa f=> ?_
 unfold D.T at hd
 refine Ae ?_
 refine By (cs:=[aa]) m f Z Z Z λad w a m f=>Ac f Z λa f=>Au ?_
 refine AT 0 0 (ds:=[aa]) m A8 f Z Z Z Z Z λa f=> ?_
 have⟨ae,af,hd⟩:=bind_some hd
 refine Av f Z call76 (Wk.w0 m ac af) λag ah ai w aj m ak a f=> ?_
 obtain⟨al,am,rfl,rfl,an⟩:=ak
 refine Ab f Z λa f=>l_o f (A7 (f.e Z) Z) λa f=>l_o f (A7 (f.e Z) Z) λa f=>Ac f Z λa f=>Ac f Z λa f=>Au ?_
 refine Ab f Z λa f=>Ac f Z λa f=>Aa ?_
 refine Ap ?_
 have m:Mem W ah w H:=Mem.drop (H':=[am,ib ad 30 [aa]]) m
 obtain rfl:=sj hd
 exact⟨[(.bool ae.2)],f.g Z,f.d,_,[],aj,m,Z,Z⟩

end Go.Proofs.YtebbefpdncgoiaaGreatDoor

set_option maxRecDepth 100000
namespace Go.Proofs.YtebbefpdncgoiaaGreatDoor
open Go Go.Sx
open Go.Proofs.Tryz Go.Proofs.YtebbefpdncgoiaaGreatDoor.Tryz IntKind
variable {W w : World} {G : GH} {H : List Itm}
theorem Wk.m1 {v0:Value}{b1:Nat}{x0:LI}{aa:Int}(m:Mem W G w (ib b1 3 [(iv aa)]::H))(h0:R1 G v0 x0){y:Bool}(hd:D.m1 x0 aa=some y):
  Calls prog 145 #[v0,(pb b1)] w (Res W G H (λ_ Ho v=>Ho=[ib b1 3 [(iv aa)]]∧v=(.bool y))):=by
 refine As (args:=[v0,(pb b1)]) (N:=13) [.tmp 3] func145 Z Z (lb Z) Z λa f=> ?_
 unfold D.m1 at hd
 refine Ae ?_
 refine Ac f Z λa f=>Au ?_
 refine Ab f Z λa f=>A5 underlying42 f Z Z h0 λa f=>Ah f Z Z C4 λa f=>Ab f Z λa f=> ?_
 have⟨ab,ac,hd⟩:=bind_some hd
 refine BJ 5 (λa w=>∃ad,GLe G ad∧Mem W ad w (ib b1 3 [(iv aa)]::H)∧Fr a 13 [(0,v0),(1,(pb b1)),(4,v0),(5,(iv (x0.length:Int))),(6,(.bool ((x0.length:Int) !=2))),(7,(.bool ((x0.length:Int) !=2))),(12,(.bool ab))]) ?_ ?_
 ·rcases Ad ac with⟨ae,ac⟩|⟨ae,ac⟩
  ·refine AL f ae λa f=> ?_
   refine AL f ae λa f=>AL f ae λa f=>AL f ae λa f=>l_o f (AU (f.e Z) ae (f.e Z)) λa f=> ?_
   obtain rfl:=sj ac
   exact⟨_,gr,m,f.k Z⟩
  ·refine AI f ae ?_
   refine Ab f Z λa f=>AI f ae ?_
   refine AJ 0 0 m Pl3 f Z Z Z Z λa f=>AI f ae ?_
   have⟨af,ag,ac⟩:=bind_some ac
   refine Bf f Z call95 (Wk.M m h0 ag) λah w ai m a f=>AI f ae ?_
   refine l_o f (Bj (f.e Z)) λa f=>l_o f (AV (f.e Z) ae (f.e Z)) λa f=> ?_
   obtain rfl:=sj ac
   exact⟨_,ai,m,f.k Z⟩
 ·rintro a w ⟨ad,aj,m,f⟩
  refine Ac f Z λa f=>Aa ?_
  refine Ap ?_
  obtain rfl:=sj hd
  exact⟨[(.bool ab)],f.g Z,f.d,_,[ib b1 3 [(iv aa)]],aj,m,Z,Z⟩
theorem Wk.e2 {v0:Value}{b1c0:Nat}{x0:LL}{aa:Int}(m:Mem W G w (ib b1c0 3 [(iv aa)]::H))(h0:R2 G v0 x0){y:Int}(hd:D.e2 x0 aa=some y):
  Calls prog 178 #[v0,(.func (.func 145) #[] #[(pb b1c0)])] w (Res W G H (λ_ Ho v=>Ho=[ib b1c0 3 [(iv aa)]]∧v=(iv y))):=by
 refine As (args:=[v0,(.func (.func 145) #[] #[(pb b1c0)])]) (N:=19) [.tmp 4] func178 Z Z (lb Z) Z λa f=> ?_
 unfold D.e2 at hd
 refine Ae ?_
 refine Ac f Z λa f=>Aa (Af (Ae ?_))
 refine Ab f Z λa f=>A5 underlying22 f Z Z h0 λa f=>Ab f Z λa f=>Aa ?_
 have⟨ab,ac,hd⟩:=bind_some hd
 refine AF (λa w=>∃q_33':Unit,ab= .inl q_33'∧∃(ad:GH),GLe G ad∧Fr a 19 []∧Mem W ad w (ib b1c0 3 [(iv aa)]::H)) ?_ ?_
 ·refine Aj ?_
  refine AD (λae a w=>∃af:Int,af=ae∧∃(ag:GH),GLe G ag∧Fr a 19 [(0,v0),(1,(.func (.func 145) #[] #[(pb b1c0)])),(7,(iv (x0.length:Int))),(8,(iv af))]∧Mem W ag w (ib b1c0 3 [(iv aa)]::H)) ac ⟨_,Z,_,gr,f.k Z,m⟩ ?_
  clear ac f m
  rintro ae ah ai aj a w ⟨af,rfl,ag,ak,f,m⟩
  have h0:=rd2 ak h0
  refine Ae ?_
  refine Ah f Z Z AH λa f=>Aa (Af ?_)
  rcases Ad ai with⟨al,ai⟩|⟨al,ai⟩
  ·refine Ak f Z al ?_
   refine Al ?_
   refine Af (Aj (Ae ?_))
   refine Ab f Z λa f=>Ac f Z λa f=>Au ?_
   refine Ab f Z λa f=>Ab f Z λa f=>Ab f Z λa f=> ?_
   have⟨am,an,ai⟩:=bind_some ai
   refine Bl T22 f Z Z Z h0 an λao ap a aq ar f=>AM m AZ f Z Z aq λa f=> ?_
   have⟨au,av,ai⟩:=bind_some ai
   refine l_resv0 f Z Z Z call145 (Wk.m1 m ar av) λaw ax ay w az m aA a f=> ?_
   obtain⟨rfl,rfl⟩:=aA
   refine Aa ?_
   rcases Ad ai with⟨aB,ai⟩|⟨aB,ai⟩
   ·refine Ak f Z aB ?_
    refine Ae ?_
    refine Ab f Z λa f=>Ac f Z λa f=>Aa ?_
    refine Ap ?_
    obtain rfl:=sj ai
    obtain rfl:=aj _ rfl
    obtain rfl:=sj hd
    exact⟨[(iv af)],f.g Z,f.d,_,[ib b1c0 3 [(iv aa)]],(gt ak az),m,Z,Z⟩
   ·refine Ai f Z aB ?_
    refine Al ?_
    refine Am ?_
    refine Ah f Z Z Ar λa f=>Ab f Z λa f=>Aa ?_
    obtain rfl:=sj ai
    exact⟨_,Z,_,Z,_,(gt ak az),f.k Z,m⟩
  ·refine Ai f Z al ?_
   refine Ax Z ?_
   obtain rfl:=sj ai
   obtain rfl:=aj _ rfl
   exact⟨_,Z,_,ak,f.weak trivial,m⟩
 ·rintro a w ⟨_,rfl,ad,aC,f,m⟩
  refine Ae ?_
  refine Ac f Z λa f=>Aa ?_
  refine Ap ?_
  obtain rfl:=sj hd
  exact⟨[(iv (-1))],f.g Z,f.d,_,[ib b1c0 3 [(iv aa)]],aC,m,Z,Z⟩
theorem Wk.S1 {v0:Value}{b1c0:Nat}{x0:LL}{aa:Int}(m:Mem W G w (ib b1c0 3 [(iv aa)]::H))(h0:R2 G v0 x0){y:Bool}(hd:D.S1 x0 aa=some y):
  Calls prog 144 #[v0,(.func (.func 145) #[] #[(pb b1c0)])] w (Res W G H (λ_ Ho v=>Ho=[ib b1c0 3 [(iv aa)]]∧v=(.bool y))):=by
 refine As (args:=[v0,(.func (.func 145) #[] #[(pb b1c0)])]) (N:=9) [.tmp 4] func144 Z Z (lb Z) Z λa f=> ?_
 unfold D.S1 at hd
 refine Ae ?_
 refine Ac f Z λa f=>Au ?_
 refine Ab f Z λa f=>Ab f Z λa f=> ?_
 have⟨ab,ac,hd⟩:=bind_some hd
 refine Av f Z call178 (Wk.e2 m h0 ac) λad ae af w ag m ah a f=> ?_
 obtain⟨rfl,rfl⟩:=ah
 refine Ah f Z Z BT λa f=>Ac f Z λa f=>Aa ?_
 refine Ap ?_
 obtain rfl:=sj hd
 exact⟨[(.bool (decide ((0:Int)≤ab)))],f.g Z,f.d,_,[ib b1c0 3 [(iv aa)]],ag,m,Z,Z⟩
theorem Wk.t {v0:Value}{x0:LL}{x1:Int}(m:Mem W G w (H))(h0:R2 G v0 x0){y:Bool}(hd:D.t x0 x1=some y):
  Calls prog 94 #[v0,(iv x1)] w (Res W G H (λ_ Ho v=>Ho=[]∧v=(.bool y))):=by
 refine As (args:=[v0,(iv x1)]) (N:=9) [.tmp 4] func94 Z Z (lb Z) Z λa f=> ?_
 unfold D.t at hd
 refine Ae ?_
 refine By (cs:=[(iv x1)]) m f Z Z Z λaa w a m f=>Ac f Z λa f=>Au ?_
 refine Ab f Z λa f=>l_makeFunc f Z Z Z λa f=> ?_
 have⟨ab,ac,hd⟩:=bind_some hd
 refine Av f Z call144 (Wk.S1 m h0 ac) λad ae af w ag m ah a f=> ?_
 obtain⟨rfl,rfl⟩:=ah
 refine l_o f (Bj (f.e Z)) λa f=>Ac f Z λa f=>Aa ?_
 refine Ap ?_
 have m:Mem W ae w H:=Mem.drop (H':=[ib aa 3 [(iv x1)]]) m
 obtain rfl:=sj hd
 exact⟨[(.bool (!ab))],f.g Z,f.d,_,[],ag,m,Z,Z⟩
theorem Wk.c1 {aa ab:Value}{ac ad:LL}(m:Mem W G w (H))(ae:R2 G aa ac)(af:R2 G ab ad){y:(LI)}(hd:D.c1 ac ad=some y):
  Calls prog 96 #[(.agg #[aa,ab])] w (Res W G H (λG' Ho v=>∃r0:Value,∃i0:Itm,Ho=[i0]∧r0=v∧Ow (RI .u32) 76 G' i0 r0 y)):=by
 refine As (args:=[(.agg #[aa,ab])]) (N:=27) [.tmp 2] func96 Z Z (lb Z) Z λa f=> ?_
 unfold D.c1 at hd
 refine Ae ?_
 refine By (cs:=[aa,ab]) m f Z Z Z λag w a m f=>Ac f Z λa f=>Au ?_
 refine Bu underlying27 Z sizeOf22 f Z λa f=>AJ 0 0 m Bd f Z Z Z Z λa f=>A5 underlying22 f Z Z ae λa f=> ?_
 have⟨ah,ai,hd⟩:=bind_some hd
 refine E8 (R:=(RI .u32)) m T73 Z (by decide) Z f Z Z Z ai λaj ak w a m al f=>Ac f Z λa f=>Aa (Af (Ae ?_))
 refine Bu underlying27 Z sizeOf22 f Z λa f=>AJ 1 1 m Bd f Z Z Z Z λa f=>A5 underlying22 f Z Z af λa f=>Ab f Z λa f=>Aa ?_
 have⟨am,an,hd⟩:=bind_some hd
 refine AF (λa w=>∃ao:LI,ao=am∧∃(ap:GH) (aq:Itm),GLe G ap∧Fr a 27 [(3,ak)]∧Mem W ap w (aq::H)∧Ow (RI .u32) 76 ap aq ak ao) ?_ ?_
 ·refine Aj ?_
  have m:=m.eraseAt 1
  refine AD (λar a w=>∃au:LI,∃av:Int,(au,av)=ar∧∃(aw:GH) (ax:Itm),GLe G aw∧Fr a 27 [(3,ak),(11,ab),(12,(iv (ad.length:Int))),(13,(iv av))]∧Mem W aw w (ax::H)∧Ow (RI .u32) 76 aw ax ak au) an ⟨_,_,Z,_,aj,gr,f.k Z,m,al⟩ ?_
  clear an f m
  rintro ar ay az aA a w ⟨au,av,rfl,aw,ax,aB,f,m,aC⟩
  have af:=rd2 aB af
  refine Ae ?_
  refine Ah f Z Z AH λa f=>Aa (Af ?_)
  rcases Ad az with⟨aD,az⟩|⟨aD,az⟩
  ·refine Ak f Z aD ?_
   refine Al ?_
   refine Af (Aj (Ae ?_))
   have⟨aE,aF,az⟩:=bind_some az
   refine Bl T22 f Z Z Z af aF λaG aH a aI aJ f=>AM m AZ f Z Z aI λa f=>Ac f Z λa f=>Aa ?_
   refine A3 7 Ay (by kernel_rfl) m ?_
   refine Ag 0 7 Z f Z λa f=>Ag 1 7 Z f Z λa f=> ?_
   have⟨aK,aL,az⟩:=bind_some az
   refine Cj 2 7 T42 aJ aL Z f Z Z λaM aN a aO aP f=> ?_
   subst aP
   refine Ck 3 7 Pl2 aO Z f Z λa f=>Ag 4 7 Z f Z λa f=> ?_
   have⟨aQ,aR,az⟩:=bind_some az
   refine Cj 5 7 T42 aJ aR Z f Z Z λaS aT a aU aV f=> ?_
   subst aV
   refine Ck 6 7 Pl2 aU Z f Z λa f=>AK λaW w aX m=> ?_
   have aC:=od1 aX aC
   have⟨aY,aZ,az⟩:=bind_some az
   refine Av f Z call55 (Wk.L m aC aZ) λa0 a1 a2 w a3 m a4 a f=> ?_
   obtain⟨a5,rfl,a6⟩:=a4
   refine Aa (Am ?_)
   refine Ah f Z Z Ar λa f=>Ab f Z λa f=>Aa ?_
   obtain rfl:=sj az
   exact⟨_,Z,_,_,Z,_,a5,(gt aB (gt aX a3)),f.k Z,m,a6⟩
  ·refine Ai f Z aD ?_
   refine Ax Z ?_
   obtain rfl:=sj az
   obtain rfl:=aA _ rfl
   exact⟨_,Z,_,ax,aB,f.k Z,m,aC⟩
 ·rintro a w ⟨ao,rfl,ap,aq,a7,f,m,a8⟩
  refine Ae ?_
  refine Ab f Z λa f=>Ac f Z λa f=>Aa ?_
  refine Ap ?_
  obtain rfl:=sj hd
  exact⟨[ak],f.g Z,f.d,_,[aq],a7,m,_,_,Z,Z,a8⟩
theorem Wk.E0 {v0:Value}{x0:LL}(m:Mem W G w (H))(h0:R2 G v0 x0){y:(LI)}(hd:D.E0 x0=some y):
  Calls prog 97 #[v0] w (Res W G H (λG' Ho v=>∃r0:Value,∃i0:Itm,Ho=[i0]∧r0=v∧Ow (RI .u32) 76 G' i0 r0 y)):=by
 refine As (args:=[v0]) (N:=20) [.tmp 2] func97 Z Z (lb Z) Z λa f=> ?_
 unfold D.E0 at hd
 refine Ae ?_
 refine Ac f Z λa f=>Au ?_
 refine AY (R:=(RI .u32)) (xs:=([]:LI)) (RI.one _) m T71 f Z Z Z (by decide) (All2.nil _) λaa ab w a m ac f=>Ac f Z λa f=>Aa (Af (Ae ?_))
 refine Ab f Z λa f=>A5 underlying22 f Z Z h0 λa f=>Ab f Z λa f=>Aa ?_
 have⟨ad,ae,hd⟩:=bind_some hd
 refine AF (λa w=>∃af:LI,af=ad∧∃(ag:GH) (ah:Value) (ai:Itm),GLe G ag∧Fr a 20 [(3,ah)]∧Mem W ag w (ai::H)∧Ow (RI .u32) 76 ag ai ah af) ?_ ?_
 ·refine Aj ?_
  refine AD (λaj a w=>∃ak:LI,∃al:Int,(ak,al)=aj∧∃(am:GH) (an:Value) (ao:Itm),GLe G am∧Fr a 20 [(3,an),(7,v0),(8,(iv (x0.length:Int))),(9,(iv al))]∧Mem W am w (ao::H)∧Ow (RI .u32) 76 am ao an ak) ae ⟨_,_,Z,_,ab,aa,gr,f.k Z,m,ac⟩ ?_
  clear ae f m
  rintro aj ap aq ar a w ⟨ak,al,rfl,am,an,ao,au,f,m,av⟩
  have h0:=rd2 au h0
  refine Ae ?_
  refine Ah f Z Z AH λa f=>Aa (Af ?_)
  rcases Ad aq with⟨aw,aq⟩|⟨aw,aq⟩
  ·refine Ak f Z aw ?_
   refine Al ?_
   refine Af (Aj (Ae ?_))
   have⟨ax,ay,aq⟩:=bind_some aq
   refine Bl T22 f Z Z Z h0 ay λaz aA a aB aC f=>AM m AZ f Z Z aB λa f=>Ac f Z λa f=>Aa (Am ?_)
   refine Ab f Z λa f=>Ab f Z λa f=> ?_
   have⟨aD,aE,aq⟩:=bind_some aq
   refine Bf f Z call118 (Wk.p0 m aC aE) λaF w aG m a f=> ?_
   have av:=od1 aG av
   refine AY (R:=(RI .u32)) (xs:=([aD]:LI)) (RI.one _) m T71 f Z Z Z (by decide) (All2.cons Z (All2.nil _)) λaH aI w a m aJ f=> ?_
   have⟨aK,aL,aq⟩:=bind_some aq
   refine Bh (RI.one _) 1 m av Z T71 Z (by decide) f Z Z Z (Ow.src (j:=0) aJ m Z) aL λaM aN w a m aO f=>Ac f Z λa f=>Aa (Am ?_)
   refine Ah f Z Z Ar λa f=>Ab f Z λa f=>Aa ?_
   have m:=m.fr 1
   have m:=m.eraseAt 1
   obtain rfl:=sj aq
   exact⟨_,Z,_,_,Z,_,aN,aM,(gt au aG),f.k Z,m,aO⟩
  ·refine Ai f Z aw ?_
   refine Ax Z ?_
   obtain rfl:=sj aq
   obtain rfl:=ar _ rfl
   exact⟨_,Z,_,an,ao,au,f.k Z,m,av⟩
 ·rintro a w ⟨af,rfl,ag,ah,ai,aP,f,m,aQ⟩
  refine Ae ?_
  refine Ab f Z λa f=>Ac f Z λa f=>Aa ?_
  refine Ap ?_
  obtain rfl:=sj hd
  exact⟨[ah],f.g Z,f.d,_,[ai],aP,m,_,_,Z,Z,aQ⟩
theorem Wk.A0 {v0:Value}{x0:LI}{x1:Int}(hW:B5 W)(m:Mem W G w (H))(h0:RSl (RI .u32) G v0 x0){y:Bool}(hd:D.A0 x0 x1=some y):
  Calls prog 98 #[v0,(.int .u32 x1)] w (Res W G H (λ_ Ho v=>Ho=[]∧v=(.bool y))):=by
 refine As (args:=[v0,(.int .u32 x1)]) (N:=16) [.tmp 4] func98 Z Z (lb Z) Z λa f=> ?_
 unfold D.A0 at hd
 refine Ae ?_
 refine Ac f Z λa f=>Au ?_
 refine Ab f Z λa f=>Ah f Z Z C4 λa f=>Ab f Z λa f=> ?_
 have⟨aa,ab,hd⟩:=bind_some hd
 refine BJ 8 (λa w=>∃ac,GLe G ac∧Mem W ac w (H)∧Fr a 16 [(0,v0),(1,(.int .u32 x1)),(5,(.int .u32 x1)),(6,(.bool (x1 !=0))),(7,(.bool (x1 !=0))),(15,(.bool aa))]) ?_ ?_
 ·rcases Ad ab with⟨ad,ab⟩|⟨ad,ab⟩
  ·refine AI f ad ?_
   refine Ab f Z λa f=>AI f ad ?_
   refine Ab f Z λa f=>AI f ad ?_
   have⟨ae,af,ab⟩:=bind_some ab
   refine Bf f Z call147 (Wk.e0 hW m af) λag w ah m a f=> ?_
   have h0:=rd1 ah h0
   refine AI f ad ?_
   refine Ab f Z λa f=>AI f ad ?_
   have⟨ai,aj,ab⟩:=bind_some ab
   refine Bf f Z call52 (Wk.K hW m h0 aj) λak w al m a f=>AI f ad ?_
   refine Ab f Z λa f=>AI f ad ?_
   refine Ah f Z Z Bq λa f=>l_o f (AU (f.e Z) ad (f.e Z)) λa f=> ?_
   obtain rfl:=sj ab
   exact⟨_,(gt ah al),m,f.k Z⟩
  ·refine AL f ad λa f=> ?_
   refine AL f ad λa f=>AL f ad λa f=>AL f ad λa f=>AL f ad λa f=>AL f ad λa f=>AL f ad λa f=>l_o f (AV (f.e Z) ad (f.e Z)) λa f=> ?_
   obtain rfl:=sj ab
   exact⟨_,gr,m,f.k Z⟩
 ·rintro a w ⟨ac,am,m,f⟩
  refine Ac f Z λa f=>Aa ?_
  refine Ap ?_
  obtain rfl:=sj hd
  exact⟨[(.bool aa)],f.g Z,f.d,_,[],am,m,Z,Z⟩
theorem Wk.U0 {v0 v1:Value}{x0 x1:LI}(m:Mem W G w (H))(h0:RSl (RI .u32) G v0 x0)(h1:RSl (RI .u32) G v1 x1){y:Bool}(hd:D.U0 x0 x1=some y):
  Calls prog 99 #[v0,v1] w (Res W G H (λ_ Ho v=>Ho=[]∧v=(.bool y))):=by
 refine As (args:=[v0,v1]) (N:=41) [.tmp 4] func99 Z Z (lb Z) Z λa f=> ?_
 unfold D.U0 at hd
 refine Ae ?_
 refine Ac f Z λa f=>Aa (Af (Ae ?_))
 refine Ab f Z λa f=>A5 underlying73 f Z Z h0 λa f=>Ab f Z λa f=>Aa ?_
 have⟨aa,ab,hd⟩:=bind_some hd
 refine AF (λa w=>∃q_191':Unit,aa= .inl q_191'∧∃(ac:GH),GLe G ac∧Fr a 41 []∧Mem W ac w (H)) ?_ ?_
 ·refine Aj ?_
  refine AD (λad a w=>∃ae:Int,ae=ad∧∃(af:GH),GLe G af∧Fr a 41 [(1,v1),(10,v0),(11,(iv (x0.length:Int))),(12,(iv ae))]∧Mem W af w (H)) ab ⟨_,Z,_,gr,f.k Z,m⟩ ?_
  clear ab f m
  rintro ad ag ah ai a w ⟨ae,rfl,af,aj,f,m⟩
  have h1:=rd1 aj h1
  have h0:=rd1 aj h0
  refine Ae ?_
  refine Ah f Z Z AH λa f=>Aa (Af ?_)
  rcases Ad ah with⟨ak,ah⟩|⟨ak,ah⟩
  ·refine Ak f Z ak ?_
   refine Al ?_
   refine Af (Aj (Ae ?_))
   refine Ab f Z λa f=> ?_
   have⟨al,am,ah⟩:=bind_some ah
   refine Bl T73 f Z Z Z h0 am λan ao a ap aq f=> ?_
   subst aq
   refine AM m Bg f Z Z ap λa f=>Ac f Z λa f=>Ac f Z λa f=>Au ?_
   refine Ac f Z λa f=>Aa (Af (Ae ?_))
   refine Ab f Z λa f=>A5 underlying71 f Z Z h1 λa f=>Ab f Z λa f=>Aa ?_
   have⟨ar,au,ah⟩:=bind_some ah
   refine AF (λa w=>∃av:Int,av=ar∧∃(aw:GH),GLe af aw∧Fr a 41 [(1,v1),(5,(iv ae)),(6,(.int .u32 al)),(7,(.int .u32 av)),(10,v0),(11,(iv (x0.length:Int))),(12,(iv ae))]∧Mem W aw w (H)) ?_ ?_
   ·refine Aj ?_
    refine AD (λax a w=>∃ay:Int,∃az:Int,(ay,az)=ax∧∃(aA:GH),GLe af aA∧Fr a 41 [(1,v1),(5,(iv ae)),(6,(.int .u32 al)),(7,(.int .u32 ay)),(10,v0),(11,(iv (x0.length:Int))),(12,(iv ae)),(17,v1),(18,(iv (x1.length:Int))),(19,(iv az))]∧Mem W aA w (H)) au ⟨_,_,Z,_,gr,f.k Z,m⟩ ?_
    clear au f m
    rintro ax aB aC aD a w ⟨ay,az,rfl,aA,aE,f,m⟩
    have h1:=rd1 aE h1
    refine Ae ?_
    refine Ah f Z Z AH λa f=>Aa (Af ?_)
    rcases Ad aC with⟨aF,aC⟩|⟨aF,aC⟩
    ·refine Ak f Z aF ?_
     refine Al ?_
     refine Af (Aj (Ae ?_))
     have⟨aG,aH,aC⟩:=bind_some aC
     refine Bl T71 f Z Z Z h1 aH λaI aJ a aK aL f=> ?_
     subst aL
     refine AM m Bg f Z Z aK λa f=>Ac f Z λa f=>Au ?_
     refine Ab f Z λa f=>Ab f Z λa f=> ?_
     have⟨aM,aN,aC⟩:=bind_some aC
     refine Bf f Z call54 (Wk.j m aN) λaO w aP m a f=>Aa ?_
     rcases Ad aC with⟨aQ,aC⟩|⟨aQ,aC⟩
     ·refine Ak f Z aQ ?_
      refine Am ?_
      refine Ab f Z λa f=>Ab f Z λa f=>Ah f Z Z b_or λa f=>Ac f Z λa f=>Aa (Am ?_)
      refine Ah f Z Z Ar λa f=>Ab f Z λa f=>Aa ?_
      obtain rfl:=sj aC
      exact⟨_,Z,_,_,Z,_,(gt aE aP),f.k Z,m⟩
     ·refine Ai f Z aQ ?_
      refine Al ?_
      refine Am ?_
      refine Ah f Z Z Ar λa f=>Ab f Z λa f=>Aa ?_
      obtain rfl:=sj aC
      exact⟨_,Z,_,_,Z,_,(gt aE aP),f.k Z,m⟩
    ·refine Ai f Z aF ?_
     refine Ax Z ?_
     obtain rfl:=sj aC
     obtain rfl:=aD _ rfl
     exact⟨_,Z,_,aE,f.k Z,m⟩
   ·rintro a w ⟨av,rfl,aw,aR,f,m⟩
    refine Ae ?_
    refine Ab f Z λa f=>Ab f Z λa f=> ?_
    have⟨aS,aT,ah⟩:=bind_some ah
    refine Bf f Z call54 (Wk.j m aT) λaU w aV m a f=>l_o f (Bj (f.e Z)) λa f=>Ab f Z λa f=> ?_
    refine BJ 5 (λa w=>∃aW,GLe aU aW∧Mem W aW w (H)∧Fr a 41 [(1,v1),(5,(iv ae)),(6,(.int .u32 al)),(7,(.int .u32 av)),(10,v0),(11,(iv (x0.length:Int))),(12,(iv ae)),(30,(.int .u32 av)),(31,(iv ae)),(32,(.bool aS)),(33,(.bool (!aS))),(34,(.bool (!aS))),(39,(.bool ((!aS)||((iandNot .u32 al av) !=0))))]) ?_ ?_
    ·rcases Bool.eq_false_or_eq_true (!aS) with aX|aX
     ·refine AL f aX λa f=> ?_
      refine AL f aX λa f=>AL f aX λa f=>AL f aX λa f=>l_o f (AU (f.e Z) aX (f.e Z)) λa f=> ?_
      exact⟨_,gr,m,f.weak ⟨Z,Z,Z,Z,Z,Z,Z,Z,Z,Z,Z,Z,by rw[aX];rfl,trivial⟩⟩
     ·refine AI f aX ?_
      refine Ab f Z λa f=>AI f aX ?_
      refine Ab f Z λa f=>AI f aX ?_
      refine Ah f Z Z DU λa f=>AI f aX ?_
      refine Ah f Z Z C4 λa f=>l_o f (AV (f.e Z) aX (f.e Z)) λa f=> ?_
      exact⟨_,gr,m,f.weak ⟨Z,Z,Z,Z,Z,Z,Z,Z,Z,Z,Z,Z,by rw[aX];rfl,trivial⟩⟩
    ·rintro a w ⟨aW,aY,m,f⟩
     refine Aa ?_
     rcases Ad ah with⟨aZ,ah⟩|⟨aZ,ah⟩
     ·refine Ak f Z aZ ?_
      refine Ae ?_
      refine Ac f Z λa f=>Aa ?_
      refine Ap ?_
      obtain rfl:=sj ah
      obtain rfl:=ai _ rfl
      obtain rfl:=sj hd
      exact⟨[(.bool false)],f.g Z,f.d,_,[],(gt aj (gt aR (gt aV aY))),m,Z,Z⟩
     ·refine Ai f Z aZ ?_
      refine Al ?_
      refine Am ?_
      refine Ah f Z Z Ar λa f=>Ab f Z λa f=>Aa ?_
      obtain rfl:=sj ah
      exact⟨_,Z,_,Z,_,(gt aj (gt aR (gt aV aY))),f.k Z,m⟩
  ·refine Ai f Z ak ?_
   refine Ax Z ?_
   obtain rfl:=sj ah
   obtain rfl:=ai _ rfl
   exact⟨_,Z,_,aj,f.weak trivial,m⟩
 ·rintro a w ⟨_,rfl,ac,a0,f,m⟩
  refine Ae ?_
  refine Ac f Z λa f=>Aa ?_
  refine Ap ?_
  obtain rfl:=sj hd
  exact⟨[(.bool true)],f.g Z,f.d,_,[],a0,m,Z,Z⟩
theorem Wk.z1 {aa ab ac:Value}{ad ae af:LL}(hW:B5 W)(m:Mem W G w (H))(ag:R2 G aa ad)(ah:R2 G ab ae)(ai:R2 G ac af){y:Bool}(hd:D.z1 ad ae af=some y):
  Calls prog 37 #[(.agg #[aa]),(.agg #[ab,ac])] w (Res W G H (λ_ Ho v=>Ho=[]∧v=(.bool y))):=by
 refine As (args:=[(.agg #[aa]),(.agg #[ab,ac])]) (N:=100) [.tmp 4] func37 Z Z (lb Z) Z λa f=> ?_
 unfold D.z1 at hd
 refine Ae ?_
 refine By (cs:=[aa]) m f Z Z Z λaj w a m f=>By (cs:=[ab,ac]) m f Z Z Z λak w a m f=>Ac f Z λa f=>Au ?_
 refine Bu underlying27 Z sizeOf22 f Z λa f=>AJ 0 0 m Bd f Z Z Z Z λa f=>A5 underlying22 f Z Z ah λa f=>Ac f Z λa f=>Aa (Af (Ae ?_))
 refine AT 1 0 (ds:=[aa]) m A8 f Z Z Z Z Z λa f=> ?_
 have⟨al,am,hd⟩:=bind_some hd
 refine Bf f Z call93 (Wk.Q m ag am) λan w ao m a f=> ?_
 have ag:=rd2 ao ag
 have ah:=rd2 ao ah
 have ai:=rd2 ao ai
 refine l_o f (Bj (f.e Z)) λa f=>Ab f Z λa f=> ?_
 refine BJ 3 (λa w=>∃ap,GLe an ap∧Mem W ap w (ib ak 27 [ab,ac]::ib aj 30 [aa]::H)∧Fr a 100 [(0,(.agg #[aa])),(1,(.agg #[ab,ac])),(2,(pb aj)),(3,(pb ak)),(5,(iv (ae.length:Int))),(17,(.agg #[aa])),(18,(.bool al)),(19,(.bool (!al))),(20,(.bool (!al))),(23,(.bool ((!al)||(decide ((ae.length:Int)<1)))))]) ?_ ?_
 ·rcases Bool.eq_false_or_eq_true (!al) with aq|aq
  ·refine AL f aq λa f=> ?_
   refine AL f aq λa f=>l_o f (AU (f.e Z) aq (f.e Z)) λa f=> ?_
   exact⟨_,gr,m,f.weak ⟨Z,Z,Z,Z,Z,Z,Z,Z,Z,by rw[aq];rfl,trivial⟩⟩
  ·refine AI f aq ?_
   refine Ab f Z λa f=>AI f aq ?_
   refine Ah f Z Z AH λa f=>l_o f (AV (f.e Z) aq (f.e Z)) λa f=> ?_
   exact⟨_,gr,m,f.weak ⟨Z,Z,Z,Z,Z,Z,Z,Z,Z,by rw[aq];rfl,trivial⟩⟩
 ·rintro a w ⟨ap,ar,m,f⟩
  have ag:=rd2 ar ag
  have ah:=rd2 ar ah
  have ai:=rd2 ar ai
  refine Ab f Z λa f=> ?_
  refine BJ 3 (λa w=>∃au,GLe ap au∧Mem W au w (ib ak 27 [ab,ac]::ib aj 30 [aa]::H)∧Fr a 100 [(0,(.agg #[aa])),(1,(.agg #[ab,ac])),(2,(pb aj)),(3,(pb ak)),(5,(iv (ae.length:Int))),(17,(.agg #[aa])),(18,(.bool al)),(19,(.bool (!al))),(20,(.bool (!al))),(23,(.bool ((!al)||(decide ((ae.length:Int)<1))))),(24,(.bool ((!al)||(decide ((ae.length:Int)<1))))),(27,(.bool (((!al)||(decide ((ae.length:Int)<1)))||(decide ((16:Int)<(ae.length:Int))))))]) ?_ ?_
  ·rcases Bool.eq_false_or_eq_true ((!al)||(decide ((ae.length:Int)<1))) with av|av
   ·refine AL f av λa f=> ?_
    refine AL f av λa f=>l_o f (AU (f.e Z) av (f.e Z)) λa f=> ?_
    exact⟨_,gr,m,f.weak ⟨Z,Z,Z,Z,Z,Z,Z,Z,Z,Z,Z,by rw[av];rfl,trivial⟩⟩
   ·refine AI f av ?_
    refine Ab f Z λa f=>AI f av ?_
    refine Ah f Z Z Ce λa f=>l_o f (AV (f.e Z) av (f.e Z)) λa f=> ?_
    exact⟨_,gr,m,f.weak ⟨Z,Z,Z,Z,Z,Z,Z,Z,Z,Z,Z,by rw[av];rfl,trivial⟩⟩
  ·rintro a w ⟨au,aw,m,f⟩
   have ag:=rd2 aw ag
   have ah:=rd2 aw ah
   have ai:=rd2 aw ai
   refine Ab f Z λa f=> ?_
   refine BJ 7 (λa w=>∃ax,GLe au ax∧Mem W ax w (ib ak 27 [ab,ac]::ib aj 30 [aa]::H)∧Fr a 100 [(0,(.agg #[aa])),(1,(.agg #[ab,ac])),(2,(pb aj)),(3,(pb ak)),(5,(iv (ae.length:Int))),(17,(.agg #[aa])),(18,(.bool al)),(19,(.bool (!al))),(20,(.bool (!al))),(23,(.bool ((!al)||(decide ((ae.length:Int)<1))))),(24,(.bool ((!al)||(decide ((ae.length:Int)<1))))),(27,(.bool (((!al)||(decide ((ae.length:Int)<1)))||(decide ((16:Int)<(ae.length:Int)))))),(28,(.bool (((!al)||(decide ((ae.length:Int)<1)))||(decide ((16:Int)<(ae.length:Int)))))),(35,(.bool ((((!al)||(decide ((ae.length:Int)<1)))||(decide ((16:Int)<(ae.length:Int))))||((af.length:Int) !=(i64.wrap ((ae.length:Int)-1))))))]) ?_ ?_
   ·rcases Bool.eq_false_or_eq_true (((!al)||(decide ((ae.length:Int)<1)))||(decide ((16:Int)<(ae.length:Int)))) with ay|ay
    ·refine AL f ay λa f=> ?_
     refine AL f ay λa f=>AL f ay λa f=>AL f ay λa f=>AL f ay λa f=>AL f ay λa f=>l_o f (AU (f.e Z) ay (f.e Z)) λa f=> ?_
     exact⟨_,gr,m,f.weak ⟨Z,Z,Z,Z,Z,Z,Z,Z,Z,Z,Z,Z,Z,by rw[ay];rfl,trivial⟩⟩
    ·refine AI f ay ?_
     refine Bu underlying27 Z sizeOf22 f Z λa f=>AI f ay ?_
     refine AJ 0 1 m Bd f Z Z Z Z λa f=>AI f ay ?_
     refine A5 underlying22 f Z Z ai λa f=>AI f ay ?_
     refine Ab f Z λa f=>AI f ay ?_
     refine Ah f Z Z AO λa f=>AI f ay ?_
     refine Ah f Z Z C4 λa f=>l_o f (AV (f.e Z) ay (f.e Z)) λa f=> ?_
     exact⟨_,gr,m,f.weak ⟨Z,Z,Z,Z,Z,Z,Z,Z,Z,Z,Z,Z,Z,by rw[ay];rfl,trivial⟩⟩
   ·rintro a w ⟨ax,az,m,f⟩
    have ag:=rd2 az ag
    have ah:=rd2 az ah
    have ai:=rd2 az ai
    refine Ab f Z λa f=> ?_
    have⟨aA,aB,hd⟩:=bind_some hd
    refine BJ 6 (λa w=>∃aC,GLe ax aC∧Mem W aC w (ib ak 27 [ab,ac]::ib aj 30 [aa]::H)∧Fr a 100 [(0,(.agg #[aa])),(1,(.agg #[ab,ac])),(2,(pb aj)),(3,(pb ak)),(5,(iv (ae.length:Int))),(17,(.agg #[aa])),(18,(.bool al)),(19,(.bool (!al))),(20,(.bool (!al))),(23,(.bool ((!al)||(decide ((ae.length:Int)<1))))),(24,(.bool ((!al)||(decide ((ae.length:Int)<1))))),(27,(.bool (((!al)||(decide ((ae.length:Int)<1)))||(decide ((16:Int)<(ae.length:Int)))))),(28,(.bool (((!al)||(decide ((ae.length:Int)<1)))||(decide ((16:Int)<(ae.length:Int)))))),(35,(.bool ((((!al)||(decide ((ae.length:Int)<1)))||(decide ((16:Int)<(ae.length:Int))))||((af.length:Int) !=(i64.wrap ((ae.length:Int)-1)))))),(36,(.bool ((((!al)||(decide ((ae.length:Int)<1)))||(decide ((16:Int)<(ae.length:Int))))||((af.length:Int) !=(i64.wrap ((ae.length:Int)-1)))))),(42,(.bool aA))]) ?_ ?_
    ·rcases Ad aB with⟨aD,aB⟩|⟨aD,aB⟩
     ·refine AL f aD λa f=> ?_
      refine AL f aD λa f=>AL f aD λa f=>AL f aD λa f=>AL f aD λa f=>l_o f (AU (f.e Z) aD (f.e Z)) λa f=> ?_
      obtain rfl:=sj aB
      exact⟨_,gr,m,f.k Z⟩
     ·refine AI f aD ?_
      refine Bu underlying27 Z sizeOf22 f Z λa f=>AI f aD ?_
      refine AJ 0 1 m Bd f Z Z Z Z λa f=>AI f aD ?_
      refine Ab f Z λa f=>AI f aD ?_
      have⟨aE,aF,aB⟩:=bind_some aB
      refine Bf f Z call94 (Wk.t m ai aF) λaG w aH m a f=>AI f aD ?_
      refine l_o f (Bj (f.e Z)) λa f=>l_o f (AV (f.e Z) aD (f.e Z)) λa f=> ?_
      obtain rfl:=sj aB
      exact⟨_,aH,m,f.k Z⟩
    ·rintro a w ⟨aC,aI,m,f⟩
     have ag:=rd2 aI ag
     have ah:=rd2 aI ah
     have ai:=rd2 aI ai
     refine Aa ?_
     rcases Ad hd with⟨aJ,hd⟩|⟨aJ,hd⟩
     ·refine Ak f Z aJ ?_
      refine Ae ?_
      refine Ac f Z λa f=>Aa ?_
      refine Ap ?_
      have m:Mem W aC w H:=Mem.drop (H':=[ib ak 27 [ab,ac],ib aj 30 [aa]]) m
      obtain rfl:=sj hd
      exact⟨[(.bool false)],f.g Z,f.d,_,[],(gt ao (gt ar (gt aw (gt az aI)))),m,Z,Z⟩
     ·refine Ai f Z aJ ?_
      refine Al ?_
      refine Af (Ae ?_)
      refine Bu underlying27 Z sizeOf22 f Z λa f=>AJ 0 0 m Bd f Z Z Z Z λa f=>A5 underlying22 f Z Z ah λa f=>Ab f Z λa f=>Aa ?_
      have⟨aK,aL,hd⟩:=bind_some hd
      refine AF (λa w=>∃q_80':Unit,aK= .inl q_80'∧∃(aM:GH),GLe aC aM∧Fr a 100 [(2,(pb aj)),(3,(pb ak))]∧Mem W aM w (ib aj 30 [aa]::ib ak 27 [ab,ac]::H)) ?_ ?_
      ·refine Aj ?_
       have m:=m.fr 1
       refine AD (λaN a w=>∃aO:Int,aO=aN∧∃(aP:GH),GLe aC aP∧Fr a 100 [(2,(pb aj)),(3,(pb ak)),(44,ab),(45,(iv (ae.length:Int))),(46,(iv aO))]∧Mem W aP w (ib aj 30 [aa]::ib ak 27 [ab,ac]::H)) aL ⟨_,Z,_,gr,f.k Z,m⟩ ?_
       clear aL f m
       rintro aN aQ aR aS a w ⟨aO,rfl,aP,aT,f,m⟩
       have ah:=rd2 aT ah
       have ag:=rd2 aT ag
       refine Ae ?_
       refine Ah f Z Z AH λa f=>Aa (Af ?_)
       rcases Ad aR with⟨aU,aR⟩|⟨aU,aR⟩
       ·refine Ak f Z aU ?_
        refine Al ?_
        refine Af (Aj (Ae ?_))
        have⟨aV,aW,aR⟩:=bind_some aR
        refine Bl T22 f Z Z Z ah aW λaX aY a aZ a0 f=>AM m AZ f Z Z aZ λa f=>Ac f Z λa f=>Au ?_
        refine Ab f Z λa f=>Bu underlying30 Z sizeOf22 f Z λa f=>AJ 0 0 m Bd f Z Z Z Z λa f=>A5 underlying22 f Z Z ag λa f=> ?_
        have⟨a1,a2,aR⟩:=bind_some aR
        refine Bf f Z call95 (Wk.M m a0 a2) λa3 w a4 m a f=>l_o f (Bj (f.e Z)) λa f=>Aa ?_
        rcases Ad aR with⟨a5,aR⟩|⟨a5,aR⟩
        ·refine Ak f Z a5 ?_
         refine Ae ?_
         refine Ac f Z λa f=>Aa ?_
         refine Ap ?_
         have m:Mem W a3 w H:=Mem.drop (H':=[ib aj 30 [aa],ib ak 27 [ab,ac]]) m
         obtain rfl:=sj aR
         obtain rfl:=aS _ rfl
         obtain rfl:=sj hd
         exact⟨[(.bool false)],f.g Z,f.d,_,[],(gt ao (gt ar (gt aw (gt az (gt aI (gt aT a4)))))),m,Z,Z⟩
        ·refine Ai f Z a5 ?_
         refine Al ?_
         refine Am ?_
         refine Ah f Z Z Ar λa f=>Ab f Z λa f=>Aa ?_
         obtain rfl:=sj aR
         exact⟨_,Z,_,Z,_,(gt aT a4),f.k Z,m⟩
       ·refine Ai f Z aU ?_
        refine Ax Z ?_
        obtain rfl:=sj aR
        obtain rfl:=aS _ rfl
        exact⟨_,Z,_,aT,f.k Z,m⟩
      ·rintro a w ⟨_,rfl,aM,a6,f,m⟩
       have ag:=rd2 a6 ag
       have ah:=rd2 a6 ah
       have ai:=rd2 a6 ai
       refine Af ?_
       refine A3 7 Ay (by kernel_rfl) m ?_
       refine BH (i:=0) (ds:=[ab,ac]) 7 1 CS Z Z Z Z (by kernel_rfl) Z f Z Z Z λa f=>B9 2 7 underlying27 Z sizeOf22 Z f Z λa f=>BQ 3 7 1 Bd Z Z Z f Z λa f=>Bi 1 Z λa7 w a8 m a9 a9=> ?_
       have ah:=rd2 a8 ah
       have ai:=rd2 a8 ai
       have ag:=rd2 a8 ag
       have⟨ba,bb,hd⟩:=bind_some hd
       refine Av f Z call96 (Wk.c1 m ah ai bb) λbc bd be w bf m bg a f=> ?_
       obtain⟨bh,bi,rfl,rfl,bj⟩:=bg
       have ah:=rd2 bf ah
       have ag:=rd2 bf ag
       refine Aa ?_
       refine a9 bd [bi] _ _ bf m ?_
       refine Bi 4 Z λbk w bl m bm bm=> ?_
       have ah:=rd2 bl ah
       have bj:=od1 bl bj
       have ag:=rd2 bl ag
       have⟨bn,bo,hd⟩:=bind_some hd
       refine Av f Z call97 (Wk.E0 m ah bo) λbp bq br w bs m bt a f=> ?_
       obtain⟨bu,bv,rfl,rfl,bw⟩:=bt
       have bj:=od1 bs bj
       have ag:=rd2 bs ag
       refine Aa ?_
       refine bm bq [bv,bi] _ _ bs m ?_
       refine q_p 5 7 Z f (λ_=>BA (f.e Z)) λa f=>q_p 6 7 Z f (λ_=>BA (f.e Z)) λa f=>AK λbx w bz m=> ?_
       have bw:=od1 bz bw
       have bj:=od1 bz bj
       have ag:=rd2 bz ag
       refine Aa (Af (Ae ?_))
       refine Ab f Z λa f=>Ab f Z λa f=> ?_
       have⟨bA,bB,hd⟩:=bind_some hd
       refine Av f Z call53 (Ow.lendCall (RI.mono _) 1 bj m Z (λbC bD m bE=>Wk.r m bE bB) (λ_ _ _ _ h=>h)) λbF bG bH w bI m bJ a f=> ?_
       obtain⟨rfl,rfl⟩:=bJ
       have bw:=od1 bI bw
       have bj:=od1 bI bj
       have ag:=rd2 bI ag
       have⟨bK,bL,hd⟩:=bind_some hd
       refine Av f Z call98 (Ow.lendCall (RI.mono _) 1 bj m Z (λbM bN m bO=>Wk.A0 hW m bO bL) (λ_ _ _ _ h=>h)) λbP bQ bR w bS m bT a f=> ?_
       obtain⟨rfl,rfl⟩:=bT
       have bw:=od1 bS bw
       have bj:=od1 bS bj
       have ag:=rd2 bS ag
       refine l_o f (Bj (f.e Z)) λa f=>Ab f Z λa f=> ?_
       have⟨bU,bV,hd⟩:=bind_some hd
       refine BJ 6 (λa w=>∃bW,GLe bQ bW∧Mem W bW w (bv::bi::ib aj 30 [aa]::ib ak 27 [ab,ac]::H)∧Fr a 100 [(2,(pb aj)),(3,(pb ak)),(8,bh),(9,bu),(62,bh),(63,bh),(64,(.int .u32 bA)),(65,(.bool bK)),(66,(.bool (!bK))),(67,(.bool (!bK))),(73,(.bool bU))]) ?_ ?_
       ·rcases Ad bV with⟨bX,bV⟩|⟨bX,bV⟩
        ·refine AL f bX λa f=> ?_
         refine AL f bX λa f=>AL f bX λa f=>AL f bX λa f=>AL f bX λa f=>l_o f (AU (f.e Z) bX (f.e Z)) λa f=> ?_
         obtain rfl:=sj bV
         exact⟨_,gr,m,f.k Z⟩
        ·refine AI f bX ?_
         refine AT 2 0 (ds:=[aa]) m A8 f Z Z Z Z Z λa f=>AI f bX ?_
         have⟨bY,bZ,bV⟩:=bind_some bV
         refine Av f Z call50 (Wk.F m ag bZ) λb0 b1 b2 w b3 m b4 a f=> ?_
         obtain⟨b5,b6,rfl,rfl,b7⟩:=b4
         have bw:=od1 b3 bw
         refine AI f bX ?_
         refine Ab f Z λa f=>AI f bX ?_
         have⟨b8,b9,bV⟩:=bind_some bV
         refine Av f Z call99 (Ow.lendCall (RI.mono _) 0 b7 m Z (λca cb m cc=>(Ow.lendCall (RI.mono _) 0 (od1 cb bw) m Z (λcd ce m cf=>Wk.U0 m (rd1 ce cc) cf b9) (λ_ _ _ _ h=>h))) (λ_ _ _ _ h=>h)) λcg ch ci w cj m ck a f=> ?_
         obtain⟨rfl,rfl⟩:=ck
         refine AI f bX ?_
         refine l_o f (Bj (f.e Z)) λa f=>l_o f (AV (f.e Z) bX (f.e Z)) λa f=> ?_
         obtain rfl:=sj bV
         have m:=m.fr 4
         have m:=m.fr 4
         have m:Mem W ch w (bi::ib aj 30 [aa]::ib ak 27 [ab,ac]::b6::bv::H):=m.fr 4
         have m:=m.fr 4
         have m:Mem W ch w (bv::bi::ib aj 30 [aa]::ib ak 27 [ab,ac]::H):=m.eraseAt 4
         exact⟨_,(gt b3 cj),m,f.k Z⟩
       ·rintro a w ⟨bW,cl,m,f⟩
        have bw:=od1 cl bw
        have bj:=od1 cl bj
        have ag:=rd2 cl ag
        refine Aa ?_
        rcases Ad hd with⟨cm,hd⟩|⟨cm,hd⟩
        ·refine Ak f Z cm ?_
         refine Ae ?_
         refine Ac f Z λa f=>Aa ?_
         refine Ap ?_
         have m:Mem W bW w H:=Mem.drop (H':=[bv,bi,ib aj 30 [aa],ib ak 27 [ab,ac]]) m
         obtain rfl:=sj hd
         exact⟨[(.bool false)],f.g Z,f.d,_,[],(gt ao (gt ar (gt aw (gt az (gt aI (gt a6 (gt a8 (gt bf (gt bl (gt bs (gt bz (gt bI (gt bS cl))))))))))))),m,Z,Z⟩
        ·refine Ai f Z cm ?_
         refine Al ?_
         refine Af (Ae ?_)
         refine Bu underlying30 Z sizeOf22 f Z λa f=>AJ 2 0 m Bd f Z Z Z Z λa f=>A5 underlying22 f Z Z ag λa f=>Ab f Z λa f=>Aa ?_
         have⟨cn,co,hd⟩:=bind_some hd
         refine AF (λa w=>∃q_483':Unit,cn= .inl q_483'∧∃(cp:GH),GLe bW cp∧Fr a 100 []∧Mem W cp w (H)) ?_ ?_
         ·refine Aj ?_
          have m:=m.fr 1
          have m:=m.eraseAt 3
          have m:=m.eraseAt 2
          refine AD (λcq a w=>∃cr:Int,cr=cq∧∃(ct:GH),GLe bW ct∧Fr a 100 [(8,bh),(9,bu),(76,(iv (ad.length:Int))),(77,(iv cr))]∧Mem W ct w (bi::bv::H)) co ⟨_,Z,_,gr,f.k Z,m⟩ ?_
          clear co f m
          rintro cq cu cv cw a w ⟨cr,rfl,ct,cx,f,m⟩
          have bj:=od1 cx bj
          have bw:=od1 cx bw
          refine Ae ?_
          refine Ah f Z Z AH λa f=>Aa (Af ?_)
          rcases Ad cv with⟨cy,cv⟩|⟨cy,cv⟩
          ·refine Ak f Z cy ?_
           refine Al ?_
           refine Af (Aj (Ae ?_))
           refine Ab f Z λa f=>Ac f Z λa f=>Au ?_
           refine Ac f Z λa f=>Aa (Af (Ae ?_))
           refine Ab f Z λa f=>Bv 1 m bw Z underlying71 f Z Z λa f=>Ab f Z λa f=>Aa ?_
           have⟨cz,cA,cv⟩:=bind_some cv
           refine AF (λa w=>∃cB:Int,cB=cz∧∃(cC:GH),GLe ct cC∧Fr a 100 [(8,bh),(9,bu),(11,(.int .u32 cB)),(76,(iv (ad.length:Int))),(77,(iv cr))]∧Mem W cC w (bi::bv::H)) ?_ ?_
           ·refine Aj ?_
            refine AD (λcD a w=>∃cE:Int,∃cF:Int,(cE,cF)=cD∧∃(cG:GH),GLe ct cG∧Fr a 100 [(8,bh),(9,bu),(10,(iv cr)),(11,(.int .u32 cE)),(76,(iv (ad.length:Int))),(77,(iv cr)),(80,bu),(81,(iv (bn.length:Int))),(82,(iv cF))]∧Mem W cG w (bi::bv::H)) cA ⟨_,_,Z,_,gr,f.k Z,m⟩ ?_
            clear cA f m
            rintro cD cH cI cJ a w ⟨cE,cF,rfl,cG,cK,f,m⟩
            have bw:=od1 cK bw
            refine Ae ?_
            refine Ah f Z Z AH λa f=>Aa (Af ?_)
            rcases Ad cI with⟨cL,cI⟩|⟨cL,cI⟩
            ·refine Ak f Z cL ?_
             refine Al ?_
             refine Af (Aj (Ae ?_))
             refine Ab f Z λa f=> ?_
             have⟨cM,cN,cI⟩:=bind_some cI
             refine A6 1 m bw Z T71 f Z Z Z cN λcO a cP f=>BU 1 m bw Z Bg f Z Z cP cN λcQ a cR f=> ?_
             subst cR
             refine Ac f Z λa f=>Ac f Z λa f=>Au ?_
             refine Ab f Z λa f=>Ab f Z λa f=> ?_
             have⟨cS,cT,cI⟩:=bind_some cI
             refine Bf f Z call54 (Wk.j m cT) λcU w cV m a f=>Aa ?_
             rcases Ad cI with⟨cW,cI⟩|⟨cW,cI⟩
             ·refine Ak f Z cW ?_
              refine Am ?_
              refine Ab f Z λa f=>Ab f Z λa f=> ?_
              have⟨cX,cY,cI⟩:=bind_some cI
              refine Bf f Z call100 (Wk.e m cY) λcZ w c0 m a f=>Ah f Z Z b_or λa f=>Ac f Z λa f=>Aa (Am ?_)
              refine Ah f Z Z Ar λa f=>Ab f Z λa f=>Aa ?_
              obtain rfl:=sj cI
              exact⟨_,Z,_,_,Z,_,(gt cK (gt cV c0)),f.k Z,m⟩
             ·refine Ai f Z cW ?_
              refine Al ?_
              refine Am ?_
              refine Ah f Z Z Ar λa f=>Ab f Z λa f=>Aa ?_
              obtain rfl:=sj cI
              exact⟨_,Z,_,_,Z,_,(gt cK cV),f.k Z,m⟩
            ·refine Ai f Z cL ?_
             refine Ax Z ?_
             obtain rfl:=sj cI
             obtain rfl:=cJ _ rfl
             exact⟨_,Z,_,cK,f.k Z,m⟩
           ·rintro a w ⟨cB,rfl,cC,c1,f,m⟩
            have bj:=od1 c1 bj
            refine Ae ?_
            refine Ab f Z λa f=>Ab f Z λa f=> ?_
            have⟨c2,c3,cv⟩:=bind_some cv
            refine Av f Z call98 (Ow.lendCall (RI.mono _) 0 bj m Z (λc4 c5 m c6=>Wk.A0 hW m c6 c3) (λ_ _ _ _ h=>h)) λc7 c8 c9 w da m db a f=> ?_
            obtain⟨rfl,rfl⟩:=db
            refine l_o f (Bj (f.e Z)) λa f=>Aa ?_
            rcases Ad cv with⟨dc,cv⟩|⟨dc,cv⟩
            ·refine Ak f Z dc ?_
             refine Ae ?_
             refine Ac f Z λa f=>Aa ?_
             refine Ap ?_
             have m:Mem W c8 w H:=Mem.drop (H':=[bi,bv]) m
             obtain rfl:=sj cv
             obtain rfl:=cw _ rfl
             obtain rfl:=sj hd
             exact⟨[(.bool false)],f.g Z,f.d,_,[],(gt ao (gt ar (gt aw (gt az (gt aI (gt a6 (gt a8 (gt bf (gt bl (gt bs (gt bz (gt bI (gt bS (gt cl (gt cx (gt c1 da)))))))))))))))),m,Z,Z⟩
            ·refine Ai f Z dc ?_
             refine Al ?_
             refine Am ?_
             refine Ah f Z Z Ar λa f=>Ab f Z λa f=>Aa ?_
             obtain rfl:=sj cv
             exact⟨_,Z,_,Z,_,(gt cx (gt c1 da)),f.k Z,m⟩
          ·refine Ai f Z cy ?_
           refine Ax Z ?_
           have m:Mem W ct w H:=Mem.drop (H':=[bi,bv]) m
           obtain rfl:=sj cv
           obtain rfl:=cw _ rfl
           exact⟨_,Z,_,cx,f.weak trivial,m⟩
         ·rintro a w ⟨_,rfl,cp,dd,f,m⟩
          refine Ae ?_
          refine Ac f Z λa f=>Aa ?_
          refine Ap ?_
          obtain rfl:=sj hd
          exact⟨[(.bool true)],f.g Z,f.d,_,[],(gt ao (gt ar (gt aw (gt az (gt aI (gt a6 (gt a8 (gt bf (gt bl (gt bs (gt bz (gt bI (gt bS (gt cl dd)))))))))))))),m,Z,Z⟩
theorem Wk.q0 {b1 b2:Nat}{x0 aa ab:Int}(m:Mem W G w (ib b1 3 [(iv aa)]::ib b2 3 [(iv ab)]::H)){y:Int}(hd:D.q0 x0 aa ab=some y):
  Calls prog 165 #[(iv x0),(pb b1),(pb b2)] w (Res W G H (λ_ Ho v=>Ho=[ib b1 3 [(iv aa)],ib b2 3 [(iv ab)]]∧v=(iv y))):=by
 refine As (args:=[(iv x0),(pb b1),(pb b2)]) (N:=15) [.tmp 4] func165 Z Z (lb Z) Z λa f=> ?_
 unfold D.q0 at hd
 refine Ae ?_
 refine Ac f Z λa f=>Aa (Af (Ae ?_))
 refine Ab f Z λa f=>AJ 0 0 m Pl3 f Z Z Z Z λa f=>Ah f Z Z Bq λa f=>Aa ?_
 rcases Ad hd with⟨ac,hd⟩|⟨ac,hd⟩
 ·refine Ak f Z ac ?_
  refine Am ?_
  refine AJ 1 0 m Pl3 f Z Z Z Z λa f=>Ac f Z λa f=>Aa (Af (Ae ?_))
  refine Ab f Z λa f=>AJ 0 0 m Pl3 f Z Z Z Z λa f=>Ah f Z Z Ce λa f=>Aa ?_
  rcases Ad hd with⟨ad,hd⟩|⟨ad,hd⟩
  ·refine Ak f Z ad ?_
   refine Am ?_
   refine Ab f Z λa f=>Ah f Z Z AO λa f=>Ac f Z λa f=>Au ?_
   refine Ab f Z λa f=>Ac f Z λa f=>Aa ?_
   refine Ap ?_
   obtain rfl:=sj hd
   exact⟨[(iv (i64.wrap (ab-1)))],f.g Z,f.d,_,[ib b1 3 [(iv aa)],ib b2 3 [(iv ab)]],gr,m,Z,Z⟩
  ·refine Ai f Z ad ?_
   refine Al ?_
   refine Ae ?_
   refine Ab f Z λa f=>Ac f Z λa f=>Aa ?_
   refine Ap ?_
   obtain rfl:=sj hd
   exact⟨[(iv ab)],f.g Z,f.d,_,[ib b1 3 [(iv aa)],ib b2 3 [(iv ab)]],gr,m,Z,Z⟩
 ·refine Ai f Z ac ?_
  refine Al ?_
  refine Af (Ae ?_)
  refine Ab f Z λa f=>AJ 0 0 m Pl3 f Z Z Z Z λa f=>Ah f Z Z Ce λa f=>Aa ?_
  rcases Ad hd with⟨ae,hd⟩|⟨ae,hd⟩
  ·refine Ak f Z ae ?_
   refine Am ?_
   refine Ab f Z λa f=>Ah f Z Z AO λa f=>Ac f Z λa f=>Au ?_
   refine Ab f Z λa f=>Ac f Z λa f=>Aa ?_
   refine Ap ?_
   obtain rfl:=sj hd
   exact⟨[(iv (i64.wrap (x0-1)))],f.g Z,f.d,_,[ib b1 3 [(iv aa)],ib b2 3 [(iv ab)]],gr,m,Z,Z⟩
  ·refine Ai f Z ae ?_
   refine Al ?_
   refine Ae ?_
   refine Ab f Z λa f=>Ac f Z λa f=>Aa ?_
   refine Ap ?_
   obtain rfl:=sj hd
   exact⟨[(iv x0)],f.g Z,f.d,_,[ib b1 3 [(iv aa)],ib b2 3 [(iv ab)]],gr,m,Z,Z⟩
theorem Wk.k {v0 v1:Value}{x0:LI}{x1:LL}{x2 x3:Int}(m:Mem W G w (H))(h0:RSl (RI .u32) G v0 x0)(h1:R2 G v1 x1){y:(LI)×(LL)}(hd:D.k x0 x1 x2 x3=some y):
  Calls prog 129 #[v0,v1,(iv x2),(iv x3)] w (Res W G H (λG' Ho v=>∃r0:Value,∃i0:Itm,∃r2:Value,∃i2:Itm,Ho=[i0,i2]∧v= .tuple #[r0,r2]∧Ow (RI .u32) 76 G' i0 r0 y.1∧Ow R1 42 G' i2 r2 y.2)):=by
 refine As (args:=[v0,v1,(iv x2),(iv x3)]) (N:=53) [.tmp 8,.tmp 9] func129 Z Z (lb Z) Z λa f=> ?_
 unfold D.k at hd
 refine Ae ?_
 refine By (cs:=[(iv x2)]) m f Z Z Z λaa w a m f=>By (cs:=[(iv x3)]) m f Z Z Z λab w a m f=>Ac f Z λa f=>Ac f Z λa f=>Au ?_
 refine l_makeFunc f Z Z Z λa f=>Ac f Z λa f=>Au ?_
 refine AY (R:=R1) (xs:=([]:LL)) (RSl.one _) m T22 f Z Z Z (by decide) (All2.nil _) λac ad w a m ae f=>Ac f Z λa f=>Aa (Af (Ae ?_))
 refine Ab f Z λa f=>A5 underlying22 f Z Z h1 λa f=>Ab f Z λa f=>Aa ?_
 have⟨af,ag,hd⟩:=bind_some hd
 refine AF (λa w=>∃ah:LL,ah=af∧∃(ai:GH) (aj:Value) (ak:Itm),GLe G ai∧Fr a 53 [(0,v0),(6,(pb aa)),(11,aj)]∧Mem W ai w (ib aa 3 [(iv x2)]::ak::H)∧Ow R1 42 ai ak aj ah) ?_ ?_
 ·refine Aj ?_
  have m:=m.fr 1
  have m:=m.fr 2
  refine AD (λal a w=>∃am:LL,∃an:Int,(am,an)=al∧∃(ao:GH) (ap:Value) (aq:Itm),GLe G ao∧Fr a 53 [(0,v0),(6,(pb aa)),(10,(.func (.func 165) #[] #[(pb aa),(pb ab)])),(11,ap),(18,v1),(19,(iv (x1.length:Int))),(20,(iv an))]∧Mem W ao w (ib aa 3 [(iv x2)]::ib ab 3 [(iv x3)]::aq::H)∧Ow R1 42 ao aq ap am) ag ⟨_,_,Z,_,ad,ac,gr,f.k Z,m,ae⟩ ?_
  clear ag f m
  rintro al ar au av a w ⟨am,an,rfl,ao,ap,aq,aw,f,m,ax⟩
  have h1:=rd2 aw h1
  refine Ae ?_
  refine Ah f Z Z AH λa f=>Aa (Af ?_)
  rcases Ad au with⟨ay,au⟩|⟨ay,au⟩
  ·refine Ak f Z ay ?_
   refine Al ?_
   refine Af (Aj (Ae ?_))
   have⟨az,aA,au⟩:=bind_some au
   refine Bl T22 f Z Z Z h1 aA λaB aC a aD aE f=>AM m AZ f Z Z aD λa f=>Ac f Z λa f=>Aa (Af ?_)
   refine A3 12 Ay (by kernel_rfl) m ?_
   refine Ag 0 12 Z f Z λa f=>Ag 1 12 Z f Z λa f=> ?_
   have⟨aF,aG,au⟩:=bind_some au
   refine Cj 2 12 T42 aE aG Z f Z Z λaH aI a aJ aK f=> ?_
   subst aK
   refine Ck 3 12 Pl2 aJ Z f Z λa f=>Ag 5 12 Z f Z λa f=>Ag 6 12 Z f Z λa f=> ?_
   have⟨aL,aM,au⟩:=bind_some au
   refine Cj 7 12 T42 aE aM Z f Z Z λaN aO a aP aQ f=> ?_
   subst aQ
   refine Ck 8 12 Pl2 aP Z f Z λa f=>Bi 4 Z λaR w aS m aT aT=> ?_
   have ax:=Ow.mono (RSl.mono (RI.mono _)) aS ax
   have⟨aU,aV,au⟩:=bind_some au
   refine l_resv0 f Z Z Z call165 (Wk.q0 m aV) λaW aX aY w aZ m a0 a f=> ?_
   obtain⟨rfl,rfl⟩:=a0
   have ax:=Ow.mono (RSl.mono (RI.mono _)) aZ ax
   refine Aa ?_
   refine aT aX [] _ _ aZ m ?_
   refine Bi 9 Z λa1 w a2 m a3 a3=> ?_
   have ax:=Ow.mono (RSl.mono (RI.mono _)) a2 ax
   have⟨a4,a5,au⟩:=bind_some au
   refine l_resv0 f Z Z Z call165 (Wk.q0 m a5) λa6 a7 a8 w a9 m ba a f=> ?_
   obtain⟨rfl,rfl⟩:=ba
   have ax:=Ow.mono (RSl.mono (RI.mono _)) a9 ax
   refine Aa ?_
   refine a3 a7 [] _ _ a9 m ?_
   refine q_p 10 12 Z f (λ_=>BA (f.e Z)) λa f=>q_p 11 12 Z f (λ_=>BA (f.e Z)) λa f=>AK λbb w bc m=> ?_
   have ax:=Ow.mono (RSl.mono (RI.mono _)) bc ax
   refine Au ?_
   refine Ab f Z λa f=>Ab f Z λa f=>Ah f Z Z C4 λa f=>Aa ?_
   rcases Ad au with⟨bd,au⟩|⟨bd,au⟩
   ·refine Ak f Z bd ?_
    refine Am ?_
    refine Ab f Z λa f=>Ab f Z λa f=>Ab f Z λa f=> ?_
    have⟨be,bf,au⟩:=bind_some au
    refine Av f Z call56 (Wk.R m bf) λbg bh bi w bj m bk a f=> ?_
    obtain⟨bl,bm,rfl,rfl,bn⟩:=bk
    have ax:=Ow.mono (RSl.mono (RI.mono _)) bj ax
    obtain⟨bo,bp,m,bq⟩:=Ow.stamp (RI.mono _) bn m
    have ax:=Ow.mono (RSl.mono (RI.mono _)) bp ax
    refine AY (R:=R1) (xs:=([be]:LL)) (RSl.one _) m T22 f Z Z Z (by decide) (All2.cons bq (All2.nil _)) λbr bs w a m bt f=> ?_
    have⟨bu,bv,au⟩:=bind_some au
    refine Bh (RSl.one _) 3 m ax Z T22 Z (by decide) f Z Z Z (Ow.src (j:=0) bt m Z) bv λbw bx w a m bz f=>Ac f Z λa f=>Aa (Am ?_)
    refine Ah f Z Z Ar λa f=>Ab f Z λa f=>Aa ?_
    have m:=m.fr 3
    have m:=m.fr 3
    have m:Mem W bo w (ib aa 3 [(iv x2)]::ib ab 3 [(iv x3)]::bw::br::H):=m.fr 3
    have m:=m.eraseAt 3
    obtain rfl:=sj au
    exact⟨_,Z,_,_,Z,_,bx,bw,(gt aw (gt aS (gt aZ (gt a2 (gt a9 (gt bc (gt bj bp))))))),f.k Z,m,bz⟩
   ·refine Ai f Z bd ?_
    refine Al ?_
    refine Am ?_
    refine Ah f Z Z Ar λa f=>Ab f Z λa f=>Aa ?_
    obtain rfl:=sj au
    exact⟨_,Z,_,_,Z,_,ap,aq,(gt aw (gt aS (gt aZ (gt a2 (gt a9 bc))))),f.k Z,m,ax⟩
  ·refine Ai f Z ay ?_
   refine Ax Z ?_
   have m:=m.fr 2
   have m:=m.fr 1
   have m:=m.eraseAt 2
   obtain rfl:=sj au
   obtain rfl:=av _ rfl
   exact⟨_,Z,_,ap,aq,aw,f.k Z,m,ax⟩
 ·rintro a w ⟨ah,rfl,ai,aj,ak,bA,f,m,bB⟩
  have h0:=rd1 bA h0
  refine Ae ?_
  refine Ab f Z λa f=> ?_
  have m:=m.fr 1
  have⟨bC,bD,hd⟩:=bind_some hd
  refine Av f Z call57 (Ow.sortCall bB m (λZ hZ=>(Bs bD hZ).imp (λzs h=>⟨h.2.1,h.2.2,λ_ _ m o=>Wk.B0 m o h.1⟩))) λbE bF bG w bH m bI a f=> ?_
  obtain⟨bJ,rfl,bK⟩:=bI
  have h0:=rd1 bH h0
  refine Aa (Af ?_)
  refine A3 8 Ay (by kernel_rfl) m ?_
  refine Ag 0 8 Z f Z λa f=>BQ 2 8 1 Pl3 Z Z Z f Z λa f=>BQ 3 8 1 Pl3 Z Z Z f Z λa f=>q_p 4 8 Z f (λ_=>AA (f.e Z) (f.e Z) Ar) λa f=>Ag 6 8 Z f Z λa f=>Bi 1 Z λbL w bM m bN bN=> ?_
  have h0:=rd1 bM h0
  have bK:=Ow.mono (RSl.mono (RI.mono _)) bM bK
  have⟨bO,bP,hd⟩:=bind_some hd
  refine Av f Z call167 (Wk.P1 m h0 bP) λbQ bR bS w bT m bU a f=> ?_
  obtain⟨bV,bW,rfl,rfl,bX⟩:=bU
  have bK:=Ow.mono (RSl.mono (RI.mono _)) bT bK
  refine Aa ?_
  refine bN bR [bW] _ _ bT m ?_
  refine Bi 5 Z λbY w bZ m b0 b0=> ?_
  have bX:=od1 bZ bX
  have bK:=Ow.mono (RSl.mono (RI.mono _)) bZ bK
  have⟨b1,b2,hd⟩:=bind_some hd
  refine Av f Z call166 (Wk.C1 m bX b2) λb3 b4 b5 w b6 m b7 a f=> ?_
  obtain⟨b8,b9,rfl,rfl,ca⟩:=b7
  have bK:=Ow.mono (RSl.mono (RI.mono _)) b6 bK
  refine Aa ?_
  refine b0 b4 [b9] _ _ b6 m ?_
  refine q_p 7 8 Z f (λ_=>BA (f.e Z)) λa f=>AK λcb w cc m=> ?_
  have ca:=od1 cc ca
  have bK:=Ow.mono (RSl.mono (RI.mono _)) cc bK
  refine Ac f Z λa f=>Aa ?_
  refine Ap ?_
  have m:=m.eraseAt 2
  obtain rfl:=sj hd
  exact⟨[b8,aj],⟨f.get _ _ Z,f.get _ _ Z,trivial⟩,f.d,_,[b9,bJ],(gt bA (gt bH (gt bM (gt bT (gt bZ (gt b6 cc)))))),m,_,_,_,_,Z,Z,ca,bK⟩
theorem Wk.Y0 {aa ab:Value}{ac ad:LL}(hW:B5 W)(m:Mem W G w (H))(ae:R2 G aa ac)(af:R2 G ab ad){y:(LL)×(LL)}(hd:D.Y0 ac ad=some y):
  Calls prog 66 #[(.agg #[aa,ab])] w (Res W G H (λG' Ho v=>∃r0:Value,∃i0:Itm,∃r2:Value,∃i2:Itm,Ho=[i0,i2]∧v=(.agg #[r0,r2])∧Ow2 R0 42 2 G' i0 r0 y.1∧Ow2 R0 42 2 G' i2 r2 y.2)):=by
 refine As (args:=[(.agg #[aa,ab])]) (N:=91) [.cell 2 27] func66 Z Z (lb Z) Z λa f=> ?_
 unfold D.Y0 at hd
 refine Ae ?_
 refine By (cs:=[aa,ab]) m f Z Z Z λag w a m f=>Bm (cs:=[sn,sn]) zeroValue27 m f Z Z λah w a m f=>Aa (Af ?_)
 refine A3 8 Ay (by kernel_rfl) m ?_
 refine B9 0 8 underlying27 Z sizeOf22 Z f Z λa f=>BQ 1 8 1 Bd Z Z Z f Z λa f=>B9 3 8 underlying27 Z sizeOf22 Z f Z λa f=>BQ 4 8 1 Bd Z Z Z f Z λa f=>Bi 2 Z λai w aj m ak ak=> ?_
 have ae:=rd2 aj ae
 have af:=rd2 aj af
 have⟨al,am,hd⟩:=bind_some hd
 refine Av f Z call97 (Wk.E0 m ae am) λan ao ap w aq m ar a f=> ?_
 obtain⟨au,av,rfl,rfl,aw⟩:=ar
 have af:=rd2 aq af
 refine Aa ?_
 refine ak ao [av] _ _ aq m ?_
 refine Bi 5 Z λax w ay m az az=> ?_
 have af:=rd2 ay af
 have aw:=od1 ay aw
 have⟨aA,aB,hd⟩:=bind_some hd
 refine Av f Z call128 (Wk.a2 m af aB) λaC aD aE w aF m aG a f=> ?_
 obtain⟨aH,aI,rfl,rfl,aJ⟩:=aG
 have aw:=od1 aF aw
 refine Aa ?_
 refine az aD [aI,av] _ _ aF m ?_
 refine q_p 6 8 Z f (λ_=>BA (f.e Z)) λa f=>q_p 7 8 Z f (λ_=>BA (f.e Z)) λa f=>AK λaK w aL m=> ?_
 have aJ:=Ow.mono (RSl.mono (RI.mono _)) aL aJ
 have aw:=od1 aL aw
 refine Au ?_
 refine Ab f Z λa f=> ?_
 have⟨aM,aN,hd⟩:=bind_some hd
 refine Av f Z call57 (Ow.sortCall aJ m (λZ hZ=>(Bs aN hZ).imp (λzs h=>⟨h.2.1,h.2.2,λ_ _ m o=>Wk.B0 m o h.1⟩))) λaO aP aQ w aR m aS a f=> ?_
 obtain⟨aT,rfl,aU⟩:=aS
 have aw:=od1 aR aw
 refine Aa (Af (Ae ?_))
 refine Ac f Z λa f=>Aa ?_
 have⟨aV,aW,hd⟩:=bind_some hd
 refine AF (λa w=>∃aX:LI,∃aY:LL,(aX,aY)=aV∧∃(aZ:GH) (a2:Value) (a3:Itm) (a4:Value) (a5:Itm),GLe aP aZ∧Fr a 91 [(2,(pb ah)),(3,a2),(4,a4)]∧Mem W aZ w (ib ah 27 [sn,sn]::a3::a5::H)∧Ow (RI .u32) 76 aZ a3 a2 aX∧Ow R1 42 aZ a5 a4 aY) ?_ ?_
 ·refine Aj ?_
  have m:=m.fr 1
  have m:=m.fr 2
  have m:=m.eraseAt 3
  refine AD (λa6 a w=>∃a7:LI,∃a8:LL,∃a9:Bool,(a7,a8,a9)=a6∧∃(ba:GH) (bb:Value) (bc:Itm) (bd:Value) (be:Itm),GLe aP ba∧Fr a 91 [(2,(pb ah)),(3,bb),(4,bd),(5,(.bool a9))]∧Mem W ba w (ib ah 27 [sn,sn]::bc::be::H)∧Ow (RI .u32) 76 ba bc bb a7∧Ow R1 42 ba be bd a8) aW ⟨_,_,_,Z,_,au,av,aH,aT,gr,f.k Z,m,aw,aU⟩ ?_
  clear aW f m
  rintro a6 bf bg bh a w ⟨a7,a8,a9,rfl,ba,bb,bc,bd,be,bi,f,m,bj,bk⟩
  refine Af (Ae ?_)
  refine Ab f Z λa f=>Aa ?_
  rcases Ad bg with⟨bl,bg⟩|⟨bl,bg⟩
  ·refine Ak f Z bl ?_
   refine Al ?_
   refine Aj (Ae ?_)
   refine Ac f Z λa f=>Au ?_
   refine Ab f Z λa f=>Bv 2 m bk Z underlying22 f Z Z λa f=>Ab f Z λa f=>Aa ?_
   have⟨bm,bn,bg⟩:=bind_some bg
   refine AF (λa w=>∃bo:LI,∃bp:LL,∃bq:Bool,(bo,bp,bq)=bm∧∃(br:GH) (bs:Value) (bt:Itm) (bu:Value) (bv:Itm),GLe ba br∧Fr a 91 [(2,(pb ah)),(3,bs),(4,bu),(5,(.bool bq))]∧Mem W br w (ib ah 27 [sn,sn]::bt::bv::H)∧Ow (RI .u32) 76 br bt bs bo∧Ow R1 42 br bv bu bp) ?_ ?_
   ·refine Aj ?_
    refine AD (λbw a w=>∃bx:Int,bx=bw∧∃(bz:GH),GLe ba bz∧Fr a 91 [(2,(pb ah)),(3,bb),(4,bd),(5,(.bool false)),(22,bd),(23,(iv (a8.length:Int))),(24,(iv bx))]∧Mem W bz w (ib ah 27 [sn,sn]::bc::be::H)) bn ⟨_,Z,_,gr,f.k Z,m⟩ ?_
    clear bn f m
    rintro bw bA bB bC a w ⟨bx,rfl,bz,bD,f,m⟩
    have bj:=od1 bD bj
    have bk:=Ow.mono (RSl.mono (RI.mono _)) bD bk
    refine Ae ?_
    refine Ah f Z Z AH λa f=>Aa (Af ?_)
    rcases Ad bB with⟨bE,bB⟩|⟨bE,bB⟩
    ·refine Ak f Z bE ?_
     refine Al ?_
     refine Af (Aj (Ae ?_))
     have⟨bF,bG,bB⟩:=bind_some bB
     refine A6 2 m bk Z T22 f Z Z Z bG λbH a bI f=>BU 2 m bk Z AZ f Z Z bI bG λbJ a bK f=>Ac f Z λa f=>Aa (Af ?_)
     refine A3 8 Ay (by kernel_rfl) m ?_
     refine Ag 0 8 Z f Z λa f=> ?_
     have⟨bL,bM,bB⟩:=bind_some bB
     refine Cj 1 8 T42 bK bM Z f Z Z λbN bO a bP bQ f=> ?_
     subst bQ
     refine Ck 2 8 Pl2 bP Z f Z λa f=>Ag 3 8 Z f Z λa f=> ?_
     have⟨bR,bS,bB⟩:=bind_some bB
     refine Cj 4 8 T42 bK bS Z f Z Z λbT bU a bV bW f=> ?_
     subst bW
     refine Ck 5 8 Pl2 bV Z f Z λa f=>q_p 6 8 Z f (λ_=>BA (f.e Z)) λa f=>q_p 7 8 Z f (λ_=>BA (f.e Z)) λa f=>AK λbX w bY m=> ?_
     have bj:=od1 bY bj
     have bk:=Ow.mono (RSl.mono (RI.mono _)) bY bk
     refine Aa (Af (Aj (Af ?_)))
     refine A3 11 Ay (by kernel_rfl) m ?_
     refine Ag 0 11 Z f Z λa f=>Ag 1 11 Z f Z λa f=> ?_
     have⟨bZ,b0,bB⟩:=bind_some bB
     refine AG 2 11 1 m bj T71 b0 Z f Z Z λb1 a b2 f=>AR 3 11 1 bj Bg b2 b0 Z f Z λb3 a b4 f=> ?_
     subst b4
     refine Ag 4 11 Z f Z λa f=>Ag 5 11 Z f Z λa f=> ?_
     have⟨b5,b6,bB⟩:=bind_some bB
     refine AG 6 11 1 m bj T71 b6 Z f Z Z λb7 a b8 f=>AR 7 11 1 bj Bg b8 b6 Z f Z λb9 a ca f=> ?_
     subst ca
     refine q_p 8 11 Z f (λ_=>AA (f.e Z) (f.e Z) DU) λa f=>q_p 9 11 Z f (λ_=>AA (f.e Z) (f.e Z) Bq) λa f=>q_p 10 11 Z f (λ_=>BA (f.e Z)) λa f=>AK λcb w cc m=> ?_
     have bj:=od1 cc bj
     have bk:=Ow.mono (RSl.mono (RI.mono _)) cc bk
     refine Aa ?_
     rcases Ad bB with⟨cd,bB⟩|⟨cd,bB⟩
     ·refine Ak f Z cd ?_
      refine Am ?_
      refine Ab f Z λa f=>Ab f Z λa f=>Ab f Z λa f=>Ab f Z λa f=> ?_
      have m:Mem W cb w (bc::ib ah 27 [sn,sn]::be::H):=m.fr 1
      obtain⟨ce,cf,m,cg⟩:=Ow.stamp (RI.mono _) bj m
      have bk:=Ow.mono (RSl.mono (RI.mono _)) cf bk
      have m:=m.fr 1
      obtain⟨ch,ci,m,cj⟩:=Ow.stamp (RSl.mono (RI.mono _)) bk m
      have cg:=rd1 ci cg
      have⟨ck,cl,bB⟩:=bind_some bB
      refine Av f Z call129 (Wk.k m cg cj cl) λcm cn co w cp m cq a f=> ?_
      obtain⟨cr,ct,cu,cv,rfl,rfl,cw,cx⟩:=cq
      refine Ab f Z λa f=>l_o f (A7 (f.e Z) Z) λa f=>l_o f (A7 (f.e Z) Z) λa f=>Ac f Z λa f=>Ac f Z λa f=>Au ?_
      refine Ac f Z λa f=>Aa ?_
      refine Ax Z ?_
      have m:Mem W cn w (ib ah 27 [sn,sn]::ct::cv::H):=m.fr 2
      obtain rfl:=sj bB
      obtain rfl:=bC _ rfl
      exact⟨_,_,_,Z,_,cr,ct,cu,cv,(gt bD (gt bY (gt cc (gt cf (gt ci cp))))),f.k Z,m,cw,cx⟩
     ·refine Ai f Z cd ?_
      refine Af ?_
      refine A3 11 Ay (by kernel_rfl) m ?_
      refine Ag 0 11 Z f Z λa f=>Ag 1 11 Z f Z λa f=> ?_
      have⟨cy,cz,bB⟩:=bind_some bB
      refine AG 2 11 1 m bj T71 cz Z f Z Z λcA a cB f=>AR 3 11 1 bj Bg cB cz Z f Z λcC a cD f=> ?_
      subst cD
      refine Ag 4 11 Z f Z λa f=>Ag 5 11 Z f Z λa f=> ?_
      have⟨cE,cF,bB⟩:=bind_some bB
      refine AG 6 11 1 m bj T71 cF Z f Z Z λcG a cH f=>AR 7 11 1 bj Bg cH cF Z f Z λcI a cJ f=> ?_
      subst cJ
      refine q_p 8 11 Z f (λ_=>AA (f.e Z) (f.e Z) DU) λa f=>q_p 9 11 Z f (λ_=>AA (f.e Z) (f.e Z) Bq) λa f=>q_p 10 11 Z f (λ_=>BA (f.e Z)) λa f=>AK λcK w cL m=> ?_
      have bj:=od1 cL bj
      have bk:=Ow.mono (RSl.mono (RI.mono _)) cL bk
      refine Aa ?_
      rcases Ad bB with⟨cM,bB⟩|⟨cM,bB⟩
      ·refine Ak f Z cM ?_
       refine Am ?_
       refine Ab f Z λa f=>Ab f Z λa f=>Ab f Z λa f=>Ab f Z λa f=> ?_
       have m:Mem W cK w (bc::ib ah 27 [sn,sn]::be::H):=m.fr 1
       obtain⟨cN,cO,m,cP⟩:=Ow.stamp (RI.mono _) bj m
       have bk:=Ow.mono (RSl.mono (RI.mono _)) cO bk
       have m:=m.fr 1
       obtain⟨cQ,cR,m,cS⟩:=Ow.stamp (RSl.mono (RI.mono _)) bk m
       have cP:=rd1 cR cP
       have⟨cT,cU,bB⟩:=bind_some bB
       refine Av f Z call129 (Wk.k m cP cS cU) λcV cW cX w cY m cZ a f=> ?_
       obtain⟨c0,c1,c2,c3,rfl,rfl,c4,c5⟩:=cZ
       refine Ab f Z λa f=>l_o f (A7 (f.e Z) Z) λa f=>l_o f (A7 (f.e Z) Z) λa f=>Ac f Z λa f=>Ac f Z λa f=>Au ?_
       refine Ac f Z λa f=>Aa ?_
       refine Ax Z ?_
       have m:Mem W cW w (ib ah 27 [sn,sn]::c1::c3::H):=m.fr 2
       obtain rfl:=sj bB
       obtain rfl:=bC _ rfl
       exact⟨_,_,_,Z,_,c0,c1,c2,c3,(gt bD (gt bY (gt cc (gt cL (gt cO (gt cR cY)))))),f.k Z,m,c4,c5⟩
      ·refine Ai f Z cM ?_
       refine Ax Z ?_
       refine Am ?_
       refine Ah f Z Z Ar λa f=>Ab f Z λa f=>Aa ?_
       obtain rfl:=sj bB
       exact⟨_,Z,_,Z,_,(gt bD (gt bY (gt cc cL))),f.k Z,m⟩
    ·refine Ai f Z bE ?_
     refine Ax Z ?_
     obtain rfl:=sj bB
     obtain rfl:=bC _ rfl
     exact⟨_,_,_,Z,_,bb,bc,bd,be,bD,f.k Z,m,bj,bk⟩
   ·rintro a w ⟨bo,bp,bq,rfl,br,bs,bt,bu,bv,c6,f,m,c7,c8⟩
    obtain rfl:=sj bg
    exact⟨_,Z,_,_,_,Z,_,bs,bt,bu,bv,(gt bi c6),f.k Z,m,c7,c8⟩
  ·refine Ai f Z bl ?_
   refine Ax Z ?_
   obtain rfl:=sj bg
   obtain rfl:=bh _ rfl
   exact⟨_,_,Z,_,bb,bc,bd,be,bi,f.k Z,m,bj,bk⟩
 ·rintro a w ⟨aX,aY,rfl,aZ,a2,a3,a4,a5,c9,f,m,da,db⟩
  refine Ae ?_
  refine Ab f Z λa f=> ?_
  have⟨dc,dd,hd⟩:=bind_some hd
  refine Av f Z call59 (Ow.lendCall (RI.mono _) 1 da m Z (λde df m dg=>Wk.Y hW m dg dd) (λ_ G' _ _ ⟨a0,a1,e1,e2,o0⟩=>⟨a0,a1,e1,e2,Ow2.free (RI.free _) G' o0⟩)) λdh di dj w dk m dl a f=> ?_
  obtain⟨dm,dn,rfl,rfl,dp⟩:=dl
  have db:=Ow.mono (RSl.mono (RI.mono _)) dk db
  have dq:∀w,(Instr.build 27 #[(0,dm)]).run prog w= .ok (.agg #[dm,sn]) w:=by intro w;simp[Instr.build,Instr.fill,(Ow2.cells 0 m dp rfl),Cr,Ch,BV,B7,BS,Cs]
  refine CZ f Z Z dq λa f=>Bm (cs:=[sn,sn]) zeroValue27 m f Z Z λdr w a m f=>AE 0 0 (ds:=[dm,sn]) m sizeOf27 f Z Z Z (AC (Ow2.one1 1 m dp Z) (AC Z AN)) Z (lb Z) Z λw m=>Aa (Af (Ae ?_))
  refine Ab f Z λa f=>Bv 4 m db Z underlying22 f Z Z λa f=>Ab f Z λa f=>Aa ?_
  obtain⟨dt,m,du⟩:=Ow2.nil R0 42 2 m
  have⟨dv,dw,hd⟩:=bind_some hd
  refine AF (λa w=>∃dx:LL,dx=dv∧∃(dy:GH) (dz:Value) (dA:Itm),GLe di dy∧Fr a 91 [(2,(pb ah)),(10,(pb dr))]∧Mem W dy w (ib ah 27 [sn,sn]::ib dr 27 [dm,dz]::dn::dA::H)∧Ow2 R0 42 2 dy dA dz dx) ?_ ?_
  ·refine Aj ?_
   have m:=m.fr 2
   have m:=m.fr 5
   have m:Mem W di w (ib dr 27 [dm,sn]::a5::dn::dt::ib ah 27 [sn,sn]::a3::H):=m.fr 3
   have m:=m.fr 4
   have m:Mem W di w (ib ah 27 [sn,sn]::ib dr 27 [dm,sn]::a5::dn::dt::H):=m.eraseAt 5
   refine AD (λdB a w=>∃dC:Int,∃dD:LL,(dC,dD)=dB∧∃(dE:GH) (dF:Value) (dG:Itm),GLe di dE∧Fr a 91 [(2,(pb ah)),(10,(pb dr)),(76,a4),(77,(iv (aY.length:Int))),(78,(iv dC))]∧Mem W dE w (ib ah 27 [sn,sn]::ib dr 27 [dm,dF]::a5::dn::dG::H)∧Ow2 R0 42 2 dE dG dF dD) dw ⟨_,_,Z,_,sn,dt,gr,f.k Z,m,du⟩ ?_
   clear dw f m
   rintro dB dH dI dJ a w ⟨dC,dD,rfl,dE,dF,dG,dK,f,m,dL⟩
   have db:=Ow.mono (RSl.mono (RI.mono _)) dK db
   refine Ae ?_
   refine Ah f Z Z AH λa f=>Aa (Af ?_)
   rcases Ad dI with⟨dM,dI⟩|⟨dM,dI⟩
   ·refine Ak f Z dM ?_
    refine Al ?_
    refine Af (Aj (Ae ?_))
    have⟨dN,dO,dI⟩:=bind_some dI
    refine A6 2 m db Z T22 f Z Z Z dO λdP a dQ f=>BU 2 m db Z AZ f Z Z dQ dO λdR a dS f=>Ac f Z λa f=>Aa ?_
    refine A3 5 Ay (by kernel_rfl) m ?_
    refine B9 0 5 underlying27 Z sizeOf22 Z f Z λa f=>BQ 1 5 1 Bd Z Z Z f Z λa f=>Ag 2 5 Z f Z λa f=>Bi 3 Z λdT w dU m dV dV=> ?_
    have dS:=rd1 dU dS
    have dL:=od2 dU dL
    have⟨dW,dX,dI⟩:=bind_some dI
    refine Av f Z call130 (Wk.Q0 m dS dX) λdY dZ d0 w d1 m d2 a f=> ?_
    obtain⟨d3,d4,rfl,rfl,d5⟩:=d2
    have dL:=od2 d1 dL
    refine Aa ?_
    refine dV dZ [d4] _ _ d1 m ?_
    refine Bi 4 Z λd6 w d7 m d8 d8=> ?_
    have d5:=od1 d7 d5
    have dL:=od2 d7 dL
    refine AY (R:=RawS) (xs:=[d3]) RawS.one m T22 f Z Z Z (by decide) (All2.cons ⟨Z,Ow.one1 0 m d5 Z,Ow.cells 0 m d5 Z⟩ (All2.nil _)) λd9 ea w a m eb f=>Aa ?_
    refine d8 d6 [d9,d4] _ _ gr m ?_
    refine AK λec w ed m=> ?_
    have eb:=Ow.mono RawS.mono ed eb
    have d5:=od1 ed d5
    have dL:=od2 ed dL
    have m:=m.fr 1
    have m:Mem W ec w (dG::d4::d9::ib ah 27 [sn,sn]::ib dr 27 [dm,dF]::a5::dn::H):=m.fr 6
    have⟨ee,ef,dI⟩:=bind_some dI
    refine EW m dL d5 eb T22 Z (by decide) f Z Z Z ef λeg eh w a m ei f=>Bu underlying27 Z sizeOf22 f Z λa f=>AE 2 1 (ds:=[eh]) m sizeOf22 f Z Z (Ow2.cells 0 m ei Z) (AC (Ow2.one1 0 m ei Z) AN) Z (lb Z) Z λw m=>Aa (Am ?_)
    refine Ah f Z Z Ar λa f=>Ab f Z λa f=>Aa ?_
    have m:=m.fr 4
    have m:=m.fr 4
    have m:Mem W ec w (ib dr 27 [dm,eh]::a5::dn::eg::ib ah 27 [sn,sn]::H):=m.fr 4
    have m:Mem W ec w (ib ah 27 [sn,sn]::ib dr 27 [dm,eh]::a5::dn::eg::H):=m.fr 4
    obtain rfl:=sj dI
    exact⟨_,Z,_,_,Z,_,eh,eg,(gt dK (gt dU (gt d1 (gt d7 ed)))),f.k Z,m,ei⟩
   ·refine Ai f Z dM ?_
    refine Ax Z ?_
    have m:=m.fr 4
    have m:=m.fr 4
    have m:Mem W dE w (ib dr 27 [dm,dF]::dn::dG::ib ah 27 [sn,sn]::a5::H):=m.fr 3
    have m:=m.fr 3
    have m:Mem W dE w (ib ah 27 [sn,sn]::ib dr 27 [dm,dF]::dn::dG::H):=m.eraseAt 4
    obtain rfl:=sj dI
    obtain rfl:=dJ _ rfl
    exact⟨_,Z,_,dF,dG,dK,f.k Z,m,dL⟩
  ·rintro a w ⟨dx,rfl,dy,dz,dA,ej,f,m,ek⟩
   have dp:=od2 ej dp
   refine Ae ?_
   refine AT 1 0 (ds:=[dm,dz]) m CS f Z Z Z Z Z λa f=>AE 0 0 (ds:=[dm,dz]) m sizeOf27 f Z Z Z (AC (Ow2.one1 2 m dp Z) (AC (Ow2.one1 3 m ek Z) AN)) Z (lb Z) Z λw m=>Aa ?_
   refine Ap ?_
   have el:=BE (P:=prog) 0 m CS f (s:=2) rfl rfl rfl
   have m:=m.fr 3
   have m:=m.fr 3
   have m:Mem W dy w (dn::dA::ib ah 27 [dm,dz]::H):=m.eraseAt 3
   have m:=m.eraseAt 2
   obtain rfl:=sj hd
   exact⟨[(.agg #[dm,dz])],⟨el,trivial⟩,f.d,_,[dn,dA],(gt aj (gt aq (gt ay (gt aF (gt aL (gt aR (gt c9 (gt dk ej)))))))),m,_,_,_,_,Z,Z,dp,ek⟩
theorem Wk.k1 {aa ab ac:Value}{ad ae af:LL}(hW:B5 W)(m:Mem W G w (H))(ag:R2 G aa ad)(ah:R2 G ab ae)(ai:R2 G ac af){y:(LL)×(LL)×Bool}(hd:D.k1 ad ae af=some y):
  Calls prog 20 #[(.agg #[aa]),(.agg #[ab,ac])] w (Res W G H (λG' Ho v=>∃r0:Value,∃i0:Itm,∃r2:Value,∃i2:Itm,Ho=[i0,i2]∧v= .tuple #[(.agg #[r0,r2]),(.bool y.2.2)]∧Ow2 R0 42 2 G' i0 r0 y.1∧Ow2 R0 42 2 G' i2 r2 y.2.1)):=by
 refine As (args:=[(.agg #[aa]),(.agg #[ab,ac])]) (N:=13) [.cell 4 27,.tmp 5] func20 Z Z (lb Z) Z λa f=> ?_
 unfold D.k1 at hd
 refine Ae ?_
 refine By (cs:=[aa]) m f Z Z Z λaj w a m f=>By (cs:=[ab,ac]) m f Z Z Z λak w a m f=>Bm (cs:=[sn,sn]) zeroValue27 m f Z Z λal w a m f=>Ac f Z λa f=>Aa (Af (Ae ?_))
 refine AT 2 0 (ds:=[aa]) m A8 f Z Z Z Z Z λa f=>AT 1 0 (ds:=[ab,ac]) m CS f Z Z Z Z Z λa f=> ?_
 have⟨am,an,hd⟩:=bind_some hd
 refine Bf f Z call37 (Wk.z1 hW m ag ah ai an) λao w ap m a f=> ?_
 have ah:=rd2 ap ah
 have ai:=rd2 ap ai
 refine l_o f (Bj (f.e Z)) λa f=>Aa ?_
 rcases Ad hd with⟨aq,hd⟩|⟨aq,hd⟩
 ·refine Ak f Z aq ?_
  refine Ae ?_
  have ar:∀w,(Instr.build 27 #[]).run prog w= .ok (.agg #[sn,sn]) w:=by intro w;simp[Instr.build,Instr.fill,Cr,Ch,BV,B7,BS,Cs]
  refine CZ f Z Z ar λa f=>AE 0 0 (ds:=[sn,sn]) m sizeOf27 f Z Z Z (AC Z (AC Z AN)) Z (lb Z) Z λw m=>Ac f Z λa f=>Aa ?_
  refine Ap ?_
  obtain⟨au,m,av⟩:=Ow2.nil R0 42 2 m
  obtain⟨aw,m,ax⟩:=Ow2.nil R0 42 2 m
  have ay:=BE (P:=prog) 2 m CS f (s:=4) rfl rfl rfl
  have m:=m.fr 1
  have m:=m.eraseAt 4
  have m:Mem W ao w (au::aw::ib al 27 [sn,sn]::H):=m.eraseAt 3
  have m:=m.eraseAt 2
  obtain rfl:=sj hd
  exact⟨[(.agg #[sn,sn]),(.bool false)],⟨ay,f.get _ _ Z,trivial⟩,f.d,_,[au,aw],ap,m,_,_,_,_,Z,Z,av,ax⟩
 ·refine Ai f Z aq ?_
  refine Al ?_
  refine Ae ?_
  refine AT 1 0 (ds:=[ab,ac]) m CS f Z Z Z Z Z λa f=> ?_
  have⟨az,aA,hd⟩:=bind_some hd
  refine Av f Z call66 (Wk.Y0 hW m ah ai aA) λaB aC aD w aE m aF a f=> ?_
  obtain⟨aG,aH,aI,aJ,rfl,rfl,aK,aL⟩:=aF
  refine AE 2 0 (ds:=[aG,aI]) m sizeOf27 f Z Z Z (AC (Ow2.one1 0 m aK Z) (AC (Ow2.one1 1 m aL Z) AN)) Z (lb Z) Z λw m=>Ac f Z λa f=>Aa ?_
  refine Ap ?_
  have aM:=BE (P:=prog) 2 m CS f (s:=4) rfl rfl rfl
  have m:=m.eraseAt 4
  have m:=m.eraseAt 3
  have m:=m.eraseAt 2
  obtain rfl:=sj hd
  exact⟨[(.agg #[aG,aI]),(.bool true)],⟨aM,f.get _ _ Z,trivial⟩,f.d,_,[aH,aJ],(gt ap aE),m,_,_,_,_,Z,Z,aK,aL⟩
theorem Wk.g0 {aa ab:Value}{ac ad:LL}(m:Mem W G w (H))(ae:R2 G aa ac)(af:R2 G ab ad){y:Bool}(hd:D.g0 ac ad=some y):
  Calls prog 90 #[(.agg #[aa,ab])] w (Res W G H (λ_ Ho v=>Ho=[]∧v=(.bool y))):=by
 refine As (args:=[(.agg #[aa,ab])]) (N:=41) [.tmp 2] func90 Z Z (lb Z) Z λa f=> ?_
 unfold D.g0 at hd
 refine Ae ?_
 refine By (cs:=[aa,ab]) m f Z Z Z λag w a m f=>Ac f Z λa f=>Au ?_
 refine Bu underlying27 Z sizeOf22 f Z λa f=>AJ 0 0 m Bd f Z Z Z Z λa f=>A5 underlying22 f Z Z ae λa f=>Ac f Z λa f=>Aa (Af (Ae ?_))
 refine Ab f Z λa f=> ?_
 have⟨ah,ai,hd⟩:=bind_some hd
 refine Bf f Z call141 (Wk.f m ai) λaj w ak m a f=> ?_
 have af:=rd2 ak af
 refine l_o f (Bj (f.e Z)) λa f=>Ab f Z λa f=> ?_
 refine BJ 5 (λa w=>∃al,GLe aj al∧Mem W al w (ib ag 27 [aa,ab]::H)∧Fr a 41 [(0,(.agg #[aa,ab])),(1,(pb ag)),(3,(iv (ac.length:Int))),(8,(iv (ac.length:Int))),(9,(.bool ah)),(10,(.bool (!ah))),(11,(.bool (!ah))),(16,(.bool ((!ah)||(decide ((16:Int)<(ad.length:Int))))))]) ?_ ?_
 ·rcases Bool.eq_false_or_eq_true (!ah) with am|am
  ·refine AL f am λa f=> ?_
   refine AL f am λa f=>AL f am λa f=>AL f am λa f=>l_o f (AU (f.e Z) am (f.e Z)) λa f=> ?_
   exact⟨_,gr,m,f.weak ⟨Z,Z,Z,Z,Z,Z,Z,by rw[am];rfl,trivial⟩⟩
  ·refine AI f am ?_
   refine Bu underlying27 Z sizeOf22 f Z λa f=>AI f am ?_
   refine AJ 0 1 m Bd f Z Z Z Z λa f=>AI f am ?_
   refine A5 underlying22 f Z Z af λa f=>AI f am ?_
   refine Ah f Z Z Ce λa f=>l_o f (AV (f.e Z) am (f.e Z)) λa f=> ?_
   exact⟨_,gr,m,f.weak ⟨Z,Z,Z,Z,Z,Z,Z,by rw[am];rfl,trivial⟩⟩
 ·rintro a w ⟨al,an,m,f⟩
  have af:=rd2 an af
  refine Aa ?_
  rcases Ad hd with⟨ao,hd⟩|⟨ao,hd⟩
  ·refine Ak f Z ao ?_
   refine Ae ?_
   refine Ac f Z λa f=>Aa ?_
   refine Ap ?_
   have m:Mem W al w H:=Mem.drop (H':=[ib ag 27 [aa,ab]]) m
   obtain rfl:=sj hd
   exact⟨[(.bool false)],f.g Z,f.d,_,[],(gt ak an),m,Z,Z⟩
  ·refine Ai f Z ao ?_
   refine Al ?_
   refine Af (Ae ?_)
   refine Ac f Z λa f=>Aa ?_
   have⟨ap,aq,hd⟩:=bind_some hd
   refine AF (λa w=>∃q_120':Unit,ap= .inl q_120'∧∃(ar:GH),GLe al ar∧Fr a 41 []∧Mem W ar w (H)) ?_ ?_
   ·refine Aj ?_
    refine AD (λau a w=>∃av:Int,av=au∧∃(aw:GH),GLe al aw∧Fr a 41 [(1,(pb ag)),(3,(iv (ac.length:Int))),(4,(iv av))]∧Mem W aw w (ib ag 27 [aa,ab]::H)) aq ⟨_,Z,_,gr,f.k Z,m⟩ ?_
    clear aq f m
    rintro au ax ay az a w ⟨av,rfl,aw,aA,f,m⟩
    have af:=rd2 aA af
    refine Af (Ae ?_)
    refine Ab f Z λa f=>Bu underlying27 Z sizeOf22 f Z λa f=>AJ 0 1 m Bd f Z Z Z Z λa f=>A5 underlying22 f Z Z af λa f=>Ah f Z Z AH λa f=>Aa ?_
    rcases Ad ay with⟨aB,ay⟩|⟨aB,ay⟩
    ·refine Ak f Z aB ?_
     refine Al ?_
     refine Af (Aj (Ae ?_))
     refine Bu underlying27 Z sizeOf22 f Z λa f=>AJ 0 1 m Bd f Z Z Z Z λa f=>Ab f Z λa f=> ?_
     have⟨aC,aD,ay⟩:=bind_some ay
     refine Bl T22 f Z Z Z af aD λaE aF a aG aH f=>AM m AZ f Z Z aG λa f=>A5 underlying42 f Z Z aH λa f=>Ah f Z Z C4 λa f=>Ab f Z λa f=> ?_
     have⟨aI,aJ,ay⟩:=bind_some ay
     refine BJ 9 (λa w=>∃aK,GLe aw aK∧Mem W aK w (ib ag 27 [aa,ab]::H)∧Fr a 41 [(1,(pb ag)),(3,(iv (ac.length:Int))),(4,(iv av)),(21,(.bool (decide (av<(ad.length:Int))))),(24,(.pointer (some ⟨ag,1,none⟩))),(25,ab),(26,(iv av)),(27,aE),(28,aF),(29,(iv (aC.length:Int))),(30,(.bool ((aC.length:Int) !=2))),(31,(.bool ((aC.length:Int) !=2))),(40,(.bool aI))]) ?_ ?_
     ·rcases Ad aJ with⟨aL,aJ⟩|⟨aL,aJ⟩
      ·refine AL f aL λa f=> ?_
       refine AL f aL λa f=>AL f aL λa f=>AL f aL λa f=>AL f aL λa f=>AL f aL λa f=>AL f aL λa f=>AL f aL λa f=>l_o f (AU (f.e Z) aL (f.e Z)) λa f=> ?_
       obtain rfl:=sj aJ
       exact⟨_,gr,m,f.k Z⟩
      ·refine AI f aL ?_
       refine Bu underlying27 Z sizeOf22 f Z λa f=>AI f aL ?_
       refine AJ 0 1 m Bd f Z Z Z Z λa f=>AI f aL ?_
       refine Ab f Z λa f=>AI f aL ?_
       have⟨aM,aN,aJ⟩:=bind_some aJ
       refine Bl T22 f Z Z Z af aN λaO aP a aQ aR f=>AI f aL ?_
       refine AM m AZ f Z Z aQ λa f=>AI f aL ?_
       refine Ab f Z λa f=>AI f aL ?_
       have⟨aS,aT,aJ⟩:=bind_some aJ
       refine Bf f Z call79 (Wk.c0 m aR aT) λaU w aV m a f=>AI f aL ?_
       refine l_o f (Bj (f.e Z)) λa f=>l_o f (AV (f.e Z) aL (f.e Z)) λa f=> ?_
       obtain rfl:=sj aJ
       exact⟨_,aV,m,f.k Z⟩
     ·rintro a w ⟨aK,aW,m,f⟩
      refine Aa ?_
      rcases Ad ay with⟨aX,ay⟩|⟨aX,ay⟩
      ·refine Ak f Z aX ?_
       refine Ae ?_
       refine Ac f Z λa f=>Aa ?_
       refine Ap ?_
       have m:Mem W aK w H:=Mem.drop (H':=[ib ag 27 [aa,ab]]) m
       obtain rfl:=sj ay
       obtain rfl:=az _ rfl
       obtain rfl:=sj hd
       exact⟨[(.bool false)],f.g Z,f.d,_,[],(gt ak (gt an (gt aA aW))),m,Z,Z⟩
      ·refine Ai f Z aX ?_
       refine Al ?_
       refine Am ?_
       refine Ab f Z λa f=>Ah f Z Z Ar λa f=>Ac f Z λa f=>Aa ?_
       obtain rfl:=sj ay
       exact⟨_,Z,_,Z,_,(gt aA aW),f.k Z,m⟩
    ·refine Ai f Z aB ?_
     refine Ax Z ?_
     have m:Mem W aw w H:=Mem.drop (H':=[ib ag 27 [aa,ab]]) m
     obtain rfl:=sj ay
     obtain rfl:=az _ rfl
     exact⟨_,Z,_,aA,f.weak trivial,m⟩
   ·rintro a w ⟨_,rfl,ar,aY,f,m⟩
    refine Ae ?_
    refine Ac f Z λa f=>Aa ?_
    refine Ap ?_
    obtain rfl:=sj hd
    exact⟨[(.bool true)],f.g Z,f.d,_,[],(gt ak (gt an aY)),m,Z,Z⟩
theorem Wk.u0 {aa ab:Value}{ac ad:LL}{x1:Int}(m:Mem W G w (H))(ae:R2 G aa ac)(af:R2 G ab ad){y:(LI)}(hd:D.u0 ac ad x1=some y):
  Calls prog 111 #[(.agg #[aa,ab]),(iv x1)] w (Res W G H (λG' Ho v=>∃r0:Value,Ho=[]∧r0=v∧R1 G' r0 y)):=by
 refine As (args:=[(.agg #[aa,ab]),(iv x1)]) (N:=52) [.tmp 4] func111 Z Z (lb Z) Z λa f=> ?_
 unfold D.u0 at hd
 refine Ae ?_
 refine By (cs:=[aa,ab]) m f Z Z Z λag w a m f=>Ac f Z λa f=>Au ?_
 refine AY (R:=R0) (xs:=([]:LI)) (RI.one _) m T42 f Z Z Z (by decide) (All2.nil _) λah ai w a m aj f=>Ac f Z λa f=>Aa (Af (Ae ?_))
 refine Ac f Z λa f=>Aa ?_
 obtain⟨ak,al,m,am⟩:=Ow.stamp (RI.mono _) aj m
 have af:=rd2 al af
 have⟨an,ao,hd⟩:=bind_some hd
 refine AF (λa w=>∃ap:LI,ap=an∧∃(aq:GH) (ar:Value),GLe ak aq∧Fr a 52 [(5,ar)]∧Mem W aq w (H)∧R1 aq ar ap) ?_ ?_
 ·refine Aj ?_
  refine AD (λau a w=>∃av:LI,∃aw:Int,(av,aw)=au∧∃(ax:GH) (ay:Value),GLe ak ax∧Fr a 52 [(1,(iv x1)),(2,(pb ag)),(5,ay),(6,(iv aw))]∧Mem W ax w (ib ag 27 [aa,ab]::H)∧R1 ax ay av) ao ⟨_,_,Z,_,ai,gr,f.k Z,m,am⟩ ?_
  clear ao f m
  rintro au az aA aB a w ⟨av,aw,rfl,ax,ay,aC,f,m,aD⟩
  have af:=rd2 aC af
  refine Af (Ae ?_)
  refine Ab f Z λa f=>Bu underlying27 Z sizeOf22 f Z λa f=>AJ 0 1 m Bd f Z Z Z Z λa f=>A5 underlying22 f Z Z af λa f=>Ah f Z Z AH λa f=>Aa ?_
  rcases Ad aA with⟨aE,aA⟩|⟨aE,aA⟩
  ·refine Ak f Z aE ?_
   refine Al ?_
   refine Af (Aj (Af (Ae ?_)))
   refine Bu underlying27 Z sizeOf22 f Z λa f=>AJ 0 1 m Bd f Z Z Z Z λa f=>Ab f Z λa f=> ?_
   have⟨aF,aG,aA⟩:=bind_some aA
   refine Bl T22 f Z Z Z af aG λaH aI a aJ aK f=>AM m AZ f Z Z aJ λa f=> ?_
   have⟨aL,aM,aA⟩:=bind_some aA
   refine Bl T42 f Z Z Z aK aM λaN aO a aP aQ f=> ?_
   subst aQ
   refine AM m Pl2 f Z Z aP λa f=>Ab f Z λa f=>Ah f Z Z Bq λa f=>Aa ?_
   have⟨aR,aS,aA⟩:=bind_some aA
   refine AF (λa w=>∃aT:LI,aT=aR∧∃(aU:GH) (aV:Value),GLe ax aU∧Fr a 52 [(1,(iv x1)),(2,(pb ag)),(5,aV),(6,(iv aw))]∧Mem W aU w (ib ag 27 [aa,ab]::H)∧R1 aU aV aT) ?_ ?_
   ·rcases Ad aS with⟨aW,aS⟩|⟨aW,aS⟩
    ·refine Ak f Z aW ?_
     refine Am ?_
     refine Ab f Z λa f=>Bu underlying27 Z sizeOf22 f Z λa f=>AJ 0 1 m Bd f Z Z Z Z λa f=>Ab f Z λa f=> ?_
     have⟨aX,aY,aS⟩:=bind_some aS
     refine Bl T22 f Z Z Z af aY λaZ a0 a a1 a2 f=>AM m AZ f Z Z a1 λa f=> ?_
     have⟨a3,a4,aS⟩:=bind_some aS
     refine Bl T42 f Z Z Z a2 a4 λa5 a6 a a7 a8 f=> ?_
     subst a8
     refine AM m Pl2 f Z Z a7 λa f=> ?_
     have⟨a9,ba,aS⟩:=bind_some aS
     refine Av f Z call68 (Wk.n m aD ba) λbb bc bd w be m bf a f=> ?_
     obtain⟨bg,rfl,rfl,bh⟩:=bf
     refine Ac f Z λa f=>Aa ?_
     obtain rfl:=sj aS
     exact⟨_,Z,_,bg,be,f.k Z,m,bh⟩
    ·refine Ai f Z aW ?_
     refine Al ?_
     obtain rfl:=sj aS
     exact⟨_,Z,_,ay,gr,f.k Z,m,aD⟩
   ·rintro a w ⟨aT,rfl,aU,aV,bi,f,m,bj⟩
    have af:=rd2 bi af
    refine Ae ?_
    refine Bu underlying27 Z sizeOf22 f Z λa f=>AJ 0 1 m Bd f Z Z Z Z λa f=>Ab f Z λa f=> ?_
    have⟨bk,bl,aA⟩:=bind_some aA
    refine Bl T22 f Z Z Z af bl λbm bn a bo bp f=>AM m AZ f Z Z bo λa f=> ?_
    have⟨bq,br,aA⟩:=bind_some aA
    refine Bl T42 f Z Z Z bp br λbs bt a bu bv f=> ?_
    subst bv
    refine AM m Pl2 f Z Z bu λa f=>Ab f Z λa f=>Ah f Z Z Bq λa f=>Aa ?_
    rcases Ad aA with⟨bw,aA⟩|⟨bw,aA⟩
    ·refine Ak f Z bw ?_
     refine Am ?_
     refine Ab f Z λa f=>Bu underlying27 Z sizeOf22 f Z λa f=>AJ 0 1 m Bd f Z Z Z Z λa f=>Ab f Z λa f=> ?_
     have⟨bx,bz,aA⟩:=bind_some aA
     refine Bl T22 f Z Z Z af bz λbA bB a bC bD f=>AM m AZ f Z Z bC λa f=> ?_
     have⟨bE,bF,aA⟩:=bind_some aA
     refine Bl T42 f Z Z Z bD bF λbG bH a bI bJ f=> ?_
     subst bJ
     refine AM m Pl2 f Z Z bI λa f=> ?_
     have⟨bK,bL,aA⟩:=bind_some aA
     refine Av f Z call68 (Wk.n m bj bL) λbM bN bO w bP m bQ a f=> ?_
     obtain⟨bR,rfl,rfl,bS⟩:=bQ
     refine Ac f Z λa f=>Aa (Am ?_)
     refine Ab f Z λa f=>Ah f Z Z Ar λa f=>Ac f Z λa f=>Aa ?_
     obtain rfl:=sj aA
     exact⟨_,Z,_,_,Z,_,bR,(gt aC (gt bi bP)),f.k Z,m,bS⟩
    ·refine Ai f Z bw ?_
     refine Al ?_
     refine Am ?_
     refine Ab f Z λa f=>Ah f Z Z Ar λa f=>Ac f Z λa f=>Aa ?_
     obtain rfl:=sj aA
     exact⟨_,Z,_,_,Z,_,aV,(gt aC bi),f.k Z,m,bj⟩
  ·refine Ai f Z aE ?_
   refine Ax Z ?_
   have m:Mem W ax w H:=Mem.drop (H':=[ib ag 27 [aa,ab]]) m
   obtain rfl:=sj aA
   obtain rfl:=aB _ rfl
   exact⟨_,Z,_,ay,aC,f.k Z,m,aD⟩
 ·rintro a w ⟨ap,rfl,aq,ar,bT,f,m,bU⟩
  refine Ae ?_
  refine Ab f Z λa f=>Ac f Z λa f=>Aa ?_
  refine Ap ?_
  obtain rfl:=sj hd
  exact⟨[ar],f.g Z,f.d,_,[],(gt al bT),m,_,Z,Z,bU⟩
theorem Wk.X {aa ab v1:Value}{ac ad:LL}{x1:LI}(m:Mem W G w (H))(ae:R2 G aa ac)(af:R2 G ab ad)(h1:R1 G v1 x1){y:Int}(hd:D.X ac ad x1=some y):
  Calls prog 84 #[(.agg #[aa,ab]),v1] w (Res W G H (λ_ Ho v=>Ho=[]∧v=(iv y))):=by
 refine As (args:=[(.agg #[aa,ab]),v1]) (N:=58) [.tmp 4] func84 Z Z (lb Z) Z λa f=> ?_
 unfold D.X at hd
 refine Ae ?_
 refine By (cs:=[aa,ab]) m f Z Z Z λag w a m f=>Ac f Z λa f=>Aa (Af (Ae ?_))
 refine Ab f Z λa f=>A5 underlying42 f Z Z h1 λa f=>Ah f Z Z Bq λa f=>Aa ?_
 rcases Ad hd with⟨ah,hd⟩|⟨ah,hd⟩
 ·refine Ak f Z ah ?_
  refine Ae ?_
  refine Ac f Z λa f=>Aa ?_
  refine Ap ?_
  have m:Mem W G w H:=Mem.drop (H':=[ib ag 27 [aa,ab]]) m
  obtain rfl:=sj hd
  exact⟨[(iv 0)],f.g Z,f.d,_,[],gr,m,Z,Z⟩
 ·refine Ai f Z ah ?_
  refine Al ?_
  refine Ae ?_
  refine Ab f Z λa f=> ?_
  have⟨ai,aj,hd⟩:=bind_some hd
  refine Bl T42 f Z Z Z h1 aj λak al a am an f=> ?_
  subst an
  refine AM m Pl2 f Z Z am λa f=>AY (R:=R0) (xs:=([ai]:LI)) (RI.one _) m T42 f Z Z Z (by decide) (All2.cons Z (All2.nil _)) λao ap w a m aq f=>Ac f Z λa f=>Aa (Af (Ae ?_))
  refine Ac f Z λa f=>Aa ?_
  have⟨ar,au,hd⟩:=bind_some hd
  refine AF (λa w=>∃av:LI,av=ar∧∃(aw:GH) (ax:Value) (ay:Itm),GLe G aw∧Fr a 58 [(5,ax)]∧Mem W aw w (ay::H)∧Ow R0 2 aw ay ax av) ?_ ?_
  ·refine Aj ?_
   have m:=m.fr 1
   refine AD (λaz a w=>∃aA:LI,∃aB:Int,(aA,aB)=az∧∃(aC:GH) (aD:Value) (aE:Itm),GLe G aC∧Fr a 58 [(1,v1),(2,(pb ag)),(5,aD),(6,(iv aB))]∧Mem W aC w (ib ag 27 [aa,ab]::aE::H)∧Ow R0 2 aC aE aD aA) au ⟨_,_,Z,_,ap,ao,gr,f.k Z,m,aq⟩ ?_
   clear au f m
   rintro az aF aG aH a w ⟨aA,aB,rfl,aC,aD,aE,aI,f,m,aJ⟩
   have h1:=rd1 aI h1
   have ae:=rd2 aI ae
   have af:=rd2 aI af
   refine Af (Ae ?_)
   refine Ab f Z λa f=>Ab f Z λa f=>Bv 1 m aJ Z underlying42 f Z Z λa f=>Ah f Z Z AH λa f=>Aa ?_
   rcases Ad aG with⟨aK,aG⟩|⟨aK,aG⟩
   ·refine Ak f Z aK ?_
    refine Al ?_
    refine Af (Aj (Af ?_))
    refine A3 7 Ay (by kernel_rfl) m ?_
    refine BH (i:=0) (ds:=[aa,ab]) 7 0 CS Z Z Z Z (by kernel_rfl) Z f Z Z Z λa f=>Ag 1 7 Z f Z λa f=>Ag 2 7 Z f Z λa f=> ?_
    have⟨aL,aM,aG⟩:=bind_some aG
    refine AG 3 7 1 m aJ T42 aM Z f Z Z λaN a aO f=>AR 4 7 1 aJ Pl2 aO aM Z f Z λaP a aQ f=> ?_
    subst aQ
    refine Bi 5 Z λaR w aS m aT aT=> ?_
    have h1:=rd1 aS h1
    have ae:=rd2 aS ae
    have af:=rd2 aS af
    have aJ:=od1 aS aJ
    have⟨aU,aV,aG⟩:=bind_some aG
    refine Av f Z call111 (Wk.u0 m ae af aV) λaW aX aY w aZ m a0 a f=> ?_
    obtain⟨a1,rfl,rfl,a2⟩:=a0
    have h1:=rd1 aZ h1
    have aJ:=od1 aZ aJ
    refine Aa ?_
    refine aT aX [] _ _ aZ m ?_
    refine q_p 6 7 Z f (λ_=>BA (f.e Z)) λa f=>AK λa3 w a4 m=> ?_
    have h1:=rd1 a4 h1
    have a2:=rd1 a4 a2
    have aJ:=od1 a4 aJ
    refine Au ?_
    refine Ac f Z λa f=>Aa ?_
    have⟨a5,a6,aG⟩:=bind_some aG
    refine AF (λa w=>∃a7:LI,a7=a5∧∃(a8:GH) (a9:Value) (ba:Itm),GLe a3 a8∧Fr a 58 [(1,v1),(2,(pb ag)),(5,a9),(6,(iv aB))]∧Mem W a8 w (ib ag 27 [aa,ab]::ba::H)∧Ow R0 2 a8 ba a9 a7) ?_ ?_
    ·refine Aj ?_
     refine AD (λbb a w=>∃bc:LI,∃bd:Int,(bc,bd)=bb∧∃(be:GH) (bf:Value) (bg:Itm),GLe a3 be∧Fr a 58 [(1,v1),(2,(pb ag)),(5,bf),(6,(iv aB)),(7,a1),(8,(iv bd))]∧Mem W be w (ib ag 27 [aa,ab]::bg::H)∧Ow R0 2 be bg bf bc) a6 ⟨_,_,Z,_,aD,aE,gr,f.k Z,m,aJ⟩ ?_
     clear a6 f m
     rintro bb bh bi bj a w ⟨bc,bd,rfl,be,bf,bg,bk,f,m,bl⟩
     have h1:=rd1 bk h1
     have a2:=rd1 bk a2
     refine Af (Ae ?_)
     refine Ab f Z λa f=>Ab f Z λa f=>A5 underlying42 f Z Z a2 λa f=>Ah f Z Z AH λa f=>Aa ?_
     rcases Ad bi with⟨bm,bi⟩|⟨bm,bi⟩
     ·refine Ak f Z bm ?_
      refine Al ?_
      refine Af (Aj (Ae ?_))
      refine Ab f Z λa f=>Ab f Z λa f=>Ab f Z λa f=> ?_
      have⟨bn,bo,bi⟩:=bind_some bi
      refine Bl T42 f Z Z Z a2 bo λbp bq a br bs f=> ?_
      subst bs
      refine AM m Pl2 f Z Z br λa f=> ?_
      have⟨bt,bu,bi⟩:=bind_some bi
      refine Bf f Z call70 (Wk.i m h1 bu) λbv w bw m a f=> ?_
      have a2:=rd1 bw a2
      have bl:=od1 bw bl
      refine Ab f Z λa f=> ?_
      have⟨bx,bz,bi⟩:=bind_some bi
      refine BJ 8 (λa w=>∃bA,GLe bv bA∧Mem W bA w (ib ag 27 [aa,ab]::bg::H)∧Fr a 58 [(1,v1),(2,(pb ag)),(5,bf),(6,(iv aB)),(7,a1),(8,(iv bd)),(31,(.bool (decide (bd<(aU.length:Int))))),(34,v1),(35,a1),(36,(iv bd)),(37,bp),(38,(iv bn)),(39,(.bool bt)),(40,(.bool bt)),(48,(.bool bx))]) ?_ ?_
      ·rcases Ad bz with⟨bB,bz⟩|⟨bB,bz⟩
       ·refine AI f bB ?_
        refine Ab f Z λa f=>AI f bB ?_
        refine Ab f Z λa f=>AI f bB ?_
        refine Ab f Z λa f=>AI f bB ?_
        have⟨bC,bD,bz⟩:=bind_some bz
        refine Bl T42 f Z Z Z a2 bD λbE bF a bG bH f=> ?_
        subst bH
        refine AI f bB ?_
        refine AM m Pl2 f Z Z bG λa f=>AI f bB ?_
        have⟨bI,bJ,bz⟩:=bind_some bz
        refine Av f Z call70 (Ow.lendCall (RI.mono _) 1 bl m Z (λbK bL m bM=>Wk.i m bM bJ) (λ_ _ _ _ h=>h)) λbN bO bP w bQ m bR a f=> ?_
        obtain⟨rfl,rfl⟩:=bR
        refine AI f bB ?_
        refine l_o f (Bj (f.e Z)) λa f=>l_o f (AU (f.e Z) bB (f.e Z)) λa f=> ?_
        obtain rfl:=sj bz
        exact⟨_,bQ,m,f.k Z⟩
       ·refine AL f bB λa f=> ?_
        refine AL f bB λa f=>AL f bB λa f=>AL f bB λa f=>AL f bB λa f=>AL f bB λa f=>AL f bB λa f=>l_o f (AV (f.e Z) bB (f.e Z)) λa f=> ?_
        obtain rfl:=sj bz
        exact⟨_,gr,m,f.k Z⟩
      ·rintro a w ⟨bA,bS,m,f⟩
       have a2:=rd1 bS a2
       have bl:=od1 bS bl
       refine Aa ?_
       rcases Ad bi with⟨bT,bi⟩|⟨bT,bi⟩
       ·refine Ak f Z bT ?_
        refine Am ?_
        refine Ab f Z λa f=>Ab f Z λa f=>Ab f Z λa f=> ?_
        have⟨bU,bV,bi⟩:=bind_some bi
        refine Bl T42 f Z Z Z a2 bV λbW bX a bY bZ f=> ?_
        subst bZ
        refine AM m Pl2 f Z Z bY λa f=>AY (R:=R0) (xs:=([bU]:LI)) (RI.one _) m T42 f Z Z Z (by decide) (All2.cons Z (All2.nil _)) λb0 b1 w a m b2 f=> ?_
        have⟨b3,b4,bi⟩:=bind_some bi
        refine Bh (RI.one _) 2 m bl Z T42 Z (by decide) f Z Z Z (Ow.src (j:=0) b2 m Z) b4 λb5 b6 w a m b7 f=>Ac f Z λa f=>Aa (Am ?_)
        refine Ab f Z λa f=>Ah f Z Z Ar λa f=>Ac f Z λa f=>Aa ?_
        have m:=m.fr 2
        have m:=m.fr 2
        have m:=m.eraseAt 2
        obtain rfl:=sj bi
        exact⟨_,Z,_,_,Z,_,b6,b5,(gt bk (gt bw bS)),f.k Z,m,b7⟩
       ·refine Ai f Z bT ?_
        refine Al ?_
        refine Am ?_
        refine Ab f Z λa f=>Ah f Z Z Ar λa f=>Ac f Z λa f=>Aa ?_
        obtain rfl:=sj bi
        exact⟨_,Z,_,_,Z,_,bf,bg,(gt bk (gt bw bS)),f.k Z,m,bl⟩
     ·refine Ai f Z bm ?_
      refine Ax Z ?_
      obtain rfl:=sj bi
      obtain rfl:=bj _ rfl
      exact⟨_,Z,_,bf,bg,bk,f.k Z,m,bl⟩
    ·rintro a w ⟨a7,rfl,a8,a9,ba,b8,f,m,b9⟩
     refine Am ?_
     refine Ab f Z λa f=>Ah f Z Z Ar λa f=>Ac f Z λa f=>Aa ?_
     obtain rfl:=sj aG
     exact⟨_,Z,_,_,Z,_,a9,ba,(gt aI (gt aS (gt aZ (gt a4 b8)))),f.k Z,m,b9⟩
   ·refine Ai f Z aK ?_
    refine Ax Z ?_
    have m:=m.fr 1
    have m:=m.eraseAt 1
    obtain rfl:=sj aG
    obtain rfl:=aH _ rfl
    exact⟨_,Z,_,aD,aE,aI,f.k Z,m,aJ⟩
  ·rintro a w ⟨av,rfl,aw,ax,ay,ca,f,m,cb⟩
   refine Ae ?_
   refine Ab f Z λa f=>Bv 0 m cb Z underlying42 f Z Z λa f=>Ac f Z λa f=>Aa ?_
   refine Ap ?_
   have m:Mem W aw w H:=Mem.drop (H':=[ay]) m
   obtain rfl:=sj hd
   exact⟨[(iv (av.length:Int))],f.g Z,f.d,_,[],ca,m,Z,Z⟩
theorem Wk.M1 {aa ab:Value}{ac ad:LL}(m:Mem W G w (H))(ae:R2 G aa ac)(af:R2 G ab ad){y:Bool}(hd:D.M1 ac ad=some y):
  Calls prog 78 #[(.agg #[aa,ab])] w (Res W G H (λ_ Ho v=>Ho=[]∧v=(.bool y))):=by
 refine As (args:=[(.agg #[aa,ab])]) (N:=27) [.tmp 2] func78 Z Z (lb Z) Z λa f=> ?_
 unfold D.M1 at hd
 refine Ae ?_
 refine By (cs:=[aa,ab]) m f Z Z Z λag w a m f=>Ac f Z λa f=>Aa (Af ?_)
 refine A3 25 Ay (by kernel_rfl) m ?_
 refine BH (i:=0) (ds:=[aa,ab]) 25 0 CS Z Z Z Z (by kernel_rfl) Z f Z Z Z λa f=> ?_
 have⟨ah,ai,hd⟩:=bind_some hd
 refine BX (i:=1) 25 Z (by kernel_rfl) Z f Z Z Z call90 (λ_ _ w aj m=>Wk.g0 m (rd2 aj ae) (rd2 aj af) ai) λa f=>Ag 2 25 Z f Z λa f=>BZ (fuel':=13) (listed':= #[true,true,true,true,true,true,true,true,true,true,true,true,false,false,false,false,false,false,false,false,false,false,false,false,false]) (λa=>Fr a 27 [(0,(.agg #[aa,ab])),(1,(pb ag)),(3,(.agg #[aa,ab])),(4,(.bool ah)),(5,(.bool ah)),(14,(.bool (ah&&((ad.length:Int)==(i64.wrap ((ac.length:Int)-1))))))]) ?_ ?_
 ·intro a f
  refine Ag 12 25 Z f Z λa f=> ?_
  rcases Ad hd with⟨ak,hd⟩|⟨ak,hd⟩
  ·refine BH (i:=13) (ds:=[aa,ab]) 25 0 CS Z Z Z Z (by kernel_rfl) Z f (Ba f Z Z Z ak) Z Z λa f=> ?_
   refine B9 (hw:=wo f ak) 14 25 underlying27 Z sizeOf22 Z f Z λa f=>BQ (hw:=wo f ak) 15 25 0 Bd Z Z Z f Z λa f=>q_len (i:=16) 25 underlying22 ae Z (by kernel_rfl) Z f (Ba f Z Z Z ak) Z Z λa f=>B9 (hw:=wo f ak) 19 25 underlying27 Z sizeOf22 Z f Z λa f=>BQ (hw:=wo f ak) 20 25 0 Bd Z Z Z f Z λa f=>q_len (i:=21) 25 underlying22 ae Z (by kernel_rfl) Z f (Ba f Z Z Z ak) Z Z λa f=>Bi 17 Z λal w am m an an=> ?_
   have ae:=rd2 am ae
   have af:=rd2 am af
   refine AI f ak ?_
   have⟨ao,ap,hd⟩:=bind_some hd
   refine Av f Z call87 (Wk.A m ap) λaq ar au w av m aw a f=> ?_
   obtain⟨ax,ay,rfl,rfl,az⟩:=aw
   have ae:=rd2 av ae
   have af:=rd2 av af
   refine Aa ?_
   refine an ar [ay] _ _ av m ?_
   refine Bi 18 Z λaA w aB m aC aC=> ?_
   have ae:=rd2 aB ae
   have af:=rd2 aB af
   have az:=od1 aB az
   refine AI f ak ?_
   have⟨aD,aE,hd⟩:=bind_some hd
   refine Av f Z call84 (Ow.lendCall (RI.mono _) 0 az m Z (λaF aG m aH=>Wk.X m (rd2 aG ae) (rd2 aG af) aH aE) (λ_ _ _ _ h=>h)) λaI aJ aK w aL m aM a f=> ?_
   obtain⟨rfl,rfl⟩:=aM
   refine Aa ?_
   refine aC aJ [ay] _ _ aL m ?_
   refine q_p (hw:=wo f ak) 22 25 Z f (λ_=>AA (f.e Z) (f.e Z) Bq) λa f=>q_p 23 25 Z f (λ_=>AU (f.e Z) ak (f.e Z)) λa f=>q_p 24 25 Z f (λ_=>BA (f.e Z)) λa f=>AK λaN w aO m=>Aa ?_
   refine Ap ?_
   have m:Mem W aN w H:=Mem.drop (H':=[ay,ib ag 27 [aa,ab]]) m
   obtain rfl:=sj hd
   exact⟨[(.bool (aD==(ac.length:Int)))],f.g Z,f.d,_,[],(gt am (gt av (gt aB (gt aL aO)))),m,Z,Z⟩
  ·refine Ao 13 25 Z f ak λa f=> ?_
   refine Ao 14 25 Z f ak λa f=>Ao 15 25 Z f ak λa f=>Ao 16 25 Z f ak λa f=>Ao 17 25 Z f ak λa f=>Ao 18 25 Z f ak λa f=>Ao 19 25 Z f ak λa f=>Ao 20 25 Z f ak λa f=>Ao 21 25 Z f ak λa f=>Ao 22 25 Z f ak λa f=>q_p 23 25 Z f (λ_=>AV (f.e Z) ak (f.e Z)) λa f=>q_p 24 25 Z f (λ_=>BA (f.e Z)) λa f=>AK λaP w aQ m=>Aa ?_
   refine Ap ?_
   have m:Mem W aP w H:=Mem.drop (H':=[ib ag 27 [aa,ab]]) m
   obtain rfl:=sj hd
   exact⟨[(.bool false)],f.g Z,f.d,_,[],aQ,m,Z,Z⟩
 ·intro aR
  rcases Bool.eq_false_or_eq_true ah with aS|aS
  ·refine B9 (hw:=wo f aS) 3 25 underlying27 Z sizeOf22 Z f Z λa f=> ?_
   refine BQ (hw:=wo f aS) 4 25 0 Bd Z Z Z f Z λa f=>q_len (i:=5) 25 underlying22 af Z (by kernel_rfl) Z f (Ba f Z Z Z aS) Z Z λa f=>B9 (hw:=wo f aS) 6 25 underlying27 Z sizeOf22 Z f Z λa f=>BQ (hw:=wo f aS) 7 25 0 Bd Z Z Z f Z λa f=>q_len (i:=8) 25 underlying22 ae Z (by kernel_rfl) Z f (Ba f Z Z Z aS) Z Z λa f=>q_p (hw:=wo f aS) 9 25 Z f (λ_=>AA (f.e Z) (f.e Z) AO) λa f=>q_p (hw:=wo f aS) 10 25 Z f (λ_=>AA (f.e Z) (f.e Z) Bq) λa f=>q_p 11 25 Z f (λ_=>AU (f.e Z) aS (f.e Z)) λa f=> ?_
   exact aR _ (f.weak ⟨Z,Z,Z,Z,Z,by rw[aS];rfl,trivial⟩)
  ·refine Ao 3 25 Z f aS λa f=> ?_
   refine Ao 4 25 Z f aS λa f=>Ao 5 25 Z f aS λa f=>Ao 6 25 Z f aS λa f=>Ao 7 25 Z f aS λa f=>Ao 8 25 Z f aS λa f=>Ao 9 25 Z f aS λa f=>Ao 10 25 Z f aS λa f=>q_p 11 25 Z f (λ_=>AV (f.e Z) aS (f.e Z)) λa f=> ?_
   exact aR _ (f.weak ⟨Z,Z,Z,Z,Z,by rw[aS];rfl,trivial⟩)
theorem Wk.l0 {aa:Value}{ab:LL}(m:Mem W G w (H))(ac:R2 G aa ab){y:(LL)}(hd:D.l0 ab=some y):
  Calls prog 81 #[(.agg #[aa])] w (Res W G H (λG' Ho v=>∃r0:Value,∃i0:Itm,Ho=[i0]∧r0=v∧Ow R1 42 G' i0 r0 y)):=by
 refine As (args:=[(.agg #[aa])]) (N:=47) [.tmp 2] func81 Z Z (lb Z) Z λa f=> ?_
 unfold D.l0 at hd
 refine Ae ?_
 refine By (cs:=[aa]) m f Z Z Z λad w a m f=>Ac f Z λa f=>Au ?_
 refine AY (R:=R1) (xs:=([]:LL)) (RSl.one _) m T22 f Z Z Z (by decide) (All2.nil _) λae af w a m ag f=>Ac f Z λa f=>Aa (Af (Ae ?_))
 refine Ac f Z λa f=>Aa ?_
 have⟨ah,ai,hd⟩:=bind_some hd
 refine AF (λa w=>∃aj:LL,aj=ah∧∃(ak:GH) (al:Value) (am:Itm),GLe G ak∧Fr a 47 [(3,al)]∧Mem W ak w (am::H)∧Ow R1 42 ak am al aj) ?_ ?_
 ·refine Aj ?_
  have m:=m.fr 1
  refine AD (λan a w=>∃ao:LL,∃ap:Int,(ao,ap)=an∧∃(aq:GH) (ar:Value) (au:Itm),GLe G aq∧Fr a 47 [(1,(pb ad)),(3,ar),(4,(iv ap))]∧Mem W aq w (ib ad 30 [aa]::au::H)∧Ow R1 42 aq au ar ao) ai ⟨_,_,Z,_,af,ae,gr,f.k Z,m,ag⟩ ?_
  clear ai f m
  rintro an av aw ax a w ⟨ao,ap,rfl,aq,ar,au,ay,f,m,az⟩
  have ac:=rd2 ay ac
  refine Af (Ae ?_)
  refine Ab f Z λa f=>AT 0 0 (ds:=[aa]) m A8 f Z Z Z Z Z λa f=> ?_
  have⟨aA,aB,aw⟩:=bind_some aw
  refine Bf f Z call80 (Wk.a m ac aB) λaC w aD m a f=> ?_
  have ac:=rd2 aD ac
  have az:=Ow.mono (RSl.mono (RI.mono _)) aD az
  refine Ah f Z Z AH λa f=>Aa ?_
  rcases Ad aw with⟨aE,aw⟩|⟨aE,aw⟩
  ·refine Ak f Z aE ?_
   refine Al ?_
   refine Af (Aj (Ae ?_))
   refine Ac f Z λa f=>Aa ?_
   have⟨aF,aG,aw⟩:=bind_some aw
   refine AF (λa w=>∃aH:LL,aH=aF∧∃(aI:GH) (aJ:Value) (aK:Itm),GLe aC aI∧Fr a 47 [(1,(pb ad)),(3,aJ),(4,(iv ap))]∧Mem W aI w (ib ad 30 [aa]::aK::H)∧Ow R1 42 aI aK aJ aH) ?_ ?_
   ·refine Aj ?_
    refine AD (λaL a w=>∃aM:LL,∃aN:Int,(aM,aN)=aL∧∃(aO:GH) (aP:Value) (aQ:Itm),GLe aC aO∧Fr a 47 [(1,(pb ad)),(3,aP),(4,(iv ap)),(5,(iv aN))]∧Mem W aO w (ib ad 30 [aa]::aQ::H)∧Ow R1 42 aO aQ aP aM) aG ⟨_,_,Z,_,ar,au,gr,f.k Z,m,az⟩ ?_
    clear aG f m
    rintro aL aR aS aT a w ⟨aM,aN,rfl,aO,aP,aQ,aU,f,m,aV⟩
    have ac:=rd2 aU ac
    refine Af (Ae ?_)
    refine Ab f Z λa f=>Bu underlying30 Z sizeOf22 f Z λa f=>AJ 0 0 m Bd f Z Z Z Z λa f=>Ab f Z λa f=> ?_
    have⟨aW,aX,aS⟩:=bind_some aS
    refine Bl T22 f Z Z Z ac aX λaY aZ a a0 a1 f=>AM m AZ f Z Z a0 λa f=>A5 underlying42 f Z Z a1 λa f=>Ah f Z Z AH λa f=>Aa ?_
    rcases Ad aS with⟨a2,aS⟩|⟨a2,aS⟩
    ·refine Ak f Z a2 ?_
     refine Al ?_
     refine Af (Aj (Ae ?_))
     refine Bu underlying30 Z sizeOf22 f Z λa f=>AJ 0 0 m Bd f Z Z Z Z λa f=>Ab f Z λa f=> ?_
     have⟨a3,a4,aS⟩:=bind_some aS
     refine Bl T22 f Z Z Z ac a4 λa5 a6 a a7 a8 f=>AM m AZ f Z Z a7 λa f=>Ab f Z λa f=> ?_
     have⟨a9,ba,aS⟩:=bind_some aS
     refine Bl T42 f Z Z Z a8 ba λbb bc a bd be f=> ?_
     subst be
     refine AM m Pl2 f Z Z bd λa f=>Ab f Z λa f=>Ah f Z Z Ce λa f=>Aa ?_
     rcases Ad aS with⟨bf,aS⟩|⟨bf,aS⟩
     ·refine Ak f Z bf ?_
      refine Am ?_
      refine Ab f Z λa f=>Ab f Z λa f=>Bu underlying30 Z sizeOf22 f Z λa f=>AJ 0 0 m Bd f Z Z Z Z λa f=>Ab f Z λa f=> ?_
      have⟨bg,bh,aS⟩:=bind_some aS
      refine Bl T22 f Z Z Z ac bh λbi bj a bk bl f=>AM m AZ f Z Z bk λa f=>Ab f Z λa f=> ?_
      have⟨bm,bn,aS⟩:=bind_some aS
      refine Bl T42 f Z Z Z bl bn λbo bp a bq br f=> ?_
      subst br
      refine AM m Pl2 f Z Z bq λa f=>AY (R:=R0) (xs:=([ap,bm]:LI)) (RI.one _) m T42 f Z Z Z (by decide) (All2.cons Z (All2.cons Z (All2.nil _))) λbs bt w a m bu f=> ?_
      obtain⟨bv,bw,m,bx⟩:=Ow.stamp (RI.mono _) bu m
      have aV:=Ow.mono (RSl.mono (RI.mono _)) bw aV
      refine AY (R:=R1) (xs:=([([ap,bm]:LI)]:LL)) (RSl.one _) m T22 f Z Z Z (by decide) (All2.cons bx (All2.nil _)) λbz bA w a m bB f=> ?_
      have⟨bC,bD,aS⟩:=bind_some aS
      refine Bh (RSl.one _) 2 m aV Z T22 Z (by decide) f Z Z Z (Ow.src (j:=0) bB m Z) bD λbE bF w a m bG f=>Ac f Z λa f=>Aa (Am ?_)
      refine Ab f Z λa f=>Ah f Z Z Ar λa f=>Ac f Z λa f=>Aa ?_
      have m:=m.fr 2
      have m:=m.fr 2
      have m:=m.eraseAt 2
      obtain rfl:=sj aS
      exact⟨_,Z,_,_,Z,_,bF,bE,(gt aU bw),f.k Z,m,bG⟩
     ·refine Ai f Z bf ?_
      refine Al ?_
      refine Am ?_
      refine Ab f Z λa f=>Ah f Z Z Ar λa f=>Ac f Z λa f=>Aa ?_
      obtain rfl:=sj aS
      exact⟨_,Z,_,_,Z,_,aP,aQ,aU,f.k Z,m,aV⟩
    ·refine Ai f Z a2 ?_
     refine Ax Z ?_
     obtain rfl:=sj aS
     obtain rfl:=aT _ rfl
     exact⟨_,Z,_,aP,aQ,aU,f.k Z,m,aV⟩
   ·rintro a w ⟨aH,rfl,aI,aJ,aK,bH,f,m,bI⟩
    refine Am ?_
    refine Ab f Z λa f=>Ah f Z Z Ar λa f=>Ac f Z λa f=>Aa ?_
    obtain rfl:=sj aw
    exact⟨_,Z,_,_,Z,_,aJ,aK,(gt ay (gt aD bH)),f.k Z,m,bI⟩
  ·refine Ai f Z aE ?_
   refine Ax Z ?_
   have m:=m.fr 1
   have m:=m.eraseAt 1
   obtain rfl:=sj aw
   obtain rfl:=ax _ rfl
   exact⟨_,Z,_,ar,au,(gt ay aD),f.k Z,m,az⟩
 ·rintro a w ⟨aj,rfl,ak,al,am,bJ,f,m,bK⟩
  refine Ae ?_
  refine Ab f Z λa f=>Ac f Z λa f=>Aa ?_
  refine Ap ?_
  obtain rfl:=sj hd
  exact⟨[al],f.g Z,f.d,_,[am],bJ,m,_,_,Z,Z,bK⟩
theorem Wk.s {v0 v1:Value}{x0 x1:LI}(m:Mem W G w (H))(h0:R1 G v0 x0)(h1:R1 G v1 x1){y:(LI)}(hd:D.s x0 x1=some y):
  Calls prog 44 #[v0,v1] w (Res W G H (λG' Ho v=>∃r0:Value,∃i0:Itm,Ho=[i0]∧r0=v∧Ow R0 2 G' i0 r0 y)):=by
 refine As (args:=[v0,v1]) (N:=28) [.tmp 4] func44 Z Z (lb Z) Z λa f=> ?_
 unfold D.s at hd
 refine Ae ?_
 refine Ac f Z λa f=>Au ?_
 refine AY (R:=R0) (xs:=([]:LI)) (RI.one _) m T42 f Z Z Z (by decide) (All2.nil _) λaa ab w a m ac f=>Ac f Z λa f=>Aa (Af (Ae ?_))
 refine Ac f Z λa f=>Aa ?_
 have⟨ad,ae,hd⟩:=bind_some hd
 refine AF (λa w=>∃af:LI,af=ad∧∃(ag:GH) (ah:Value) (ai:Itm),GLe G ag∧Fr a 28 [(5,ah)]∧Mem W ag w (ai::H)∧Ow R0 2 ag ai ah af) ?_ ?_
 ·refine Aj ?_
  refine AD (λaj a w=>∃ak:LI,∃al:Int,(ak,al)=aj∧∃(am:GH) (an:Value) (ao:Itm),GLe G am∧Fr a 28 [(0,v0),(1,v1),(5,an),(6,(iv al))]∧Mem W am w (ao::H)∧Ow R0 2 am ao an ak) ae ⟨_,_,Z,_,ab,aa,gr,f.k Z,m,ac⟩ ?_
  clear ae f m
  rintro aj ap aq ar a w ⟨ak,al,rfl,am,an,ao,au,f,m,av⟩
  have h0:=rd1 au h0
  have h1:=rd1 au h1
  refine Af (Ae ?_)
  refine Ab f Z λa f=>Ab f Z λa f=>A5 underlying42 f Z Z h0 λa f=>Ah f Z Z AH λa f=>Aa ?_
  rcases Ad aq with⟨aw,aq⟩|⟨aw,aq⟩
  ·refine Ak f Z aw ?_
   refine Al ?_
   refine Af (Aj (Ae ?_))
   refine Ab f Z λa f=>Ab f Z λa f=>Ab f Z λa f=> ?_
   have⟨ax,ay,aq⟩:=bind_some aq
   refine Bl T42 f Z Z Z h0 ay λaz aA a aB aC f=> ?_
   subst aC
   refine AM m Pl2 f Z Z aB λa f=> ?_
   have⟨aD,aE,aq⟩:=bind_some aq
   refine Bf f Z call70 (Wk.i m h1 aE) λaF w aG m a f=> ?_
   have h0:=rd1 aG h0
   have av:=od1 aG av
   refine Aa ?_
   rcases Ad aq with⟨aH,aq⟩|⟨aH,aq⟩
   ·refine Ak f Z aH ?_
    refine Am ?_
    refine Ab f Z λa f=>Ab f Z λa f=>Ab f Z λa f=> ?_
    have⟨aI,aJ,aq⟩:=bind_some aq
    refine Bl T42 f Z Z Z h0 aJ λaK aL a aM aN f=> ?_
    subst aN
    refine AM m Pl2 f Z Z aM λa f=>AY (R:=R0) (xs:=([aI]:LI)) (RI.one _) m T42 f Z Z Z (by decide) (All2.cons Z (All2.nil _)) λaO aP w a m aQ f=> ?_
    have⟨aR,aS,aq⟩:=bind_some aq
    refine Bh (RI.one _) 1 m av Z T42 Z (by decide) f Z Z Z (Ow.src (j:=0) aQ m Z) aS λaT aU w a m aV f=>Ac f Z λa f=>Aa (Am ?_)
    refine Ab f Z λa f=>Ah f Z Z Ar λa f=>Ac f Z λa f=>Aa ?_
    have m:=m.fr 1
    have m:=m.eraseAt 1
    obtain rfl:=sj aq
    exact⟨_,Z,_,_,Z,_,aU,aT,(gt au aG),f.k Z,m,aV⟩
   ·refine Ai f Z aH ?_
    refine Al ?_
    refine Am ?_
    refine Ab f Z λa f=>Ah f Z Z Ar λa f=>Ac f Z λa f=>Aa ?_
    obtain rfl:=sj aq
    exact⟨_,Z,_,_,Z,_,an,ao,(gt au aG),f.k Z,m,av⟩
  ·refine Ai f Z aw ?_
   refine Ax Z ?_
   obtain rfl:=sj aq
   obtain rfl:=ar _ rfl
   exact⟨_,Z,_,an,ao,au,f.k Z,m,av⟩
 ·rintro a w ⟨af,rfl,ag,ah,ai,aW,f,m,aX⟩
  refine Ae ?_
  refine Ab f Z λa f=>Ac f Z λa f=>Aa ?_
  refine Ap ?_
  obtain rfl:=sj hd
  exact⟨[ah],f.g Z,f.d,_,[ai],aW,m,_,_,Z,Z,aX⟩
theorem Wk.N {v0 v1:Value}{x0 x1:LI}(m:Mem W G w (H))(h0:R1 G v0 x0)(h1:R1 G v1 x1){y:Bool}(hd:D.N x0 x1=some y):
  Calls prog 126 #[v0,v1] w (Res W G H (λ_ Ho v=>Ho=[]∧v=(.bool y))):=by
 refine As (args:=[v0,v1]) (N:=12) [.tmp 4] func126 Z Z (lb Z) Z λa f=> ?_
 unfold D.N at hd
 refine Ae ?_
 refine Ac f Z λa f=>Au ?_
 refine Ab f Z λa f=>Ab f Z λa f=> ?_
 have⟨aa,ab,hd⟩:=bind_some hd
 refine Av f Z call44 (Wk.s m h0 h1 ab) λac ad ae w af m ag a f=> ?_
 obtain⟨ah,ai,rfl,rfl,aj⟩:=ag
 have h0:=rd1 af h0
 refine Bv 0 m aj Z underlying42 f Z Z λa f=>Ab f Z λa f=>A5 underlying42 f Z Z h0 λa f=>Ah f Z Z Bq λa f=>Ac f Z λa f=>Aa ?_
 refine Ap ?_
 have m:Mem W ad w H:=Mem.drop (H':=[ai]) m
 obtain rfl:=sj hd
 exact⟨[(.bool ((aa.length:Int)==(x0.length:Int)))],f.g Z,f.d,_,[],af,m,Z,Z⟩
theorem Wk.g1 {aa ab v1:Value}{ac ad:LL}{x1:LI}(m:Mem W G w (H))(ae:R2 G aa ac)(af:R2 G ab ad)(h1:R1 G v1 x1){y:Bool}(hd:D.g1 ac ad x1=some y):
  Calls prog 82 #[(.agg #[aa,ab]),v1] w (Res W G H (λ_ Ho v=>Ho=[]∧v=(.bool y))):=by
 refine As (args:=[(.agg #[aa,ab]),v1]) (N:=20) [.tmp 4] func82 Z Z (lb Z) Z λa f=> ?_
 unfold D.g1 at hd
 refine Ae ?_
 refine By (cs:=[aa,ab]) m f Z Z Z λag w a m f=>Ac f Z λa f=>Aa (Af (Ae ?_))
 refine Ac f Z λa f=>Aa ?_
 have⟨ah,ai,hd⟩:=bind_some hd
 refine AF (λa w=>∃q_35':Unit,ah= .inl q_35'∧∃(aj:GH),GLe G aj∧Fr a 20 []∧Mem W aj w (H)) ?_ ?_
 ·refine Aj ?_
  refine AD (λak a w=>∃al:Int,al=ak∧∃(am:GH),GLe G am∧Fr a 20 [(1,v1),(2,(pb ag)),(5,(iv al))]∧Mem W am w (ib ag 27 [aa,ab]::H)) ai ⟨_,Z,_,gr,f.k Z,m⟩ ?_
  clear ai f m
  rintro ak an ao ap a w ⟨al,rfl,am,aq,f,m⟩
  have h1:=rd1 aq h1
  have ae:=rd2 aq ae
  refine Af (Ae ?_)
  refine Ab f Z λa f=>Bu underlying27 Z sizeOf22 f Z λa f=>AJ 0 0 m Bd f Z Z Z Z λa f=>A5 underlying22 f Z Z ae λa f=>Ah f Z Z AH λa f=>Aa ?_
  rcases Ad ao with⟨ar,ao⟩|⟨ar,ao⟩
  ·refine Ak f Z ar ?_
   refine Al ?_
   refine Af (Aj (Ae ?_))
   refine Ab f Z λa f=>Bu underlying27 Z sizeOf22 f Z λa f=>AJ 0 0 m Bd f Z Z Z Z λa f=>Ab f Z λa f=> ?_
   have⟨au,av,ao⟩:=bind_some ao
   refine Bl T22 f Z Z Z ae av λaw ax a ay az f=>AM m AZ f Z Z ay λa f=> ?_
   have⟨aA,aB,ao⟩:=bind_some ao
   refine Bf f Z call126 (Wk.N m h1 az aB) λaC w aD m a f=>Aa ?_
   rcases Ad ao with⟨aE,ao⟩|⟨aE,ao⟩
   ·refine Ak f Z aE ?_
    refine Ae ?_
    refine Ac f Z λa f=>Aa ?_
    refine Ap ?_
    have m:Mem W aC w H:=Mem.drop (H':=[ib ag 27 [aa,ab]]) m
    obtain rfl:=sj ao
    obtain rfl:=ap _ rfl
    obtain rfl:=sj hd
    exact⟨[(.bool true)],f.g Z,f.d,_,[],(gt aq aD),m,Z,Z⟩
   ·refine Ai f Z aE ?_
    refine Al ?_
    refine Am ?_
    refine Ab f Z λa f=>Ah f Z Z Ar λa f=>Ac f Z λa f=>Aa ?_
    obtain rfl:=sj ao
    exact⟨_,Z,_,Z,_,(gt aq aD),f.k Z,m⟩
  ·refine Ai f Z ar ?_
   refine Ax Z ?_
   have m:Mem W am w H:=Mem.drop (H':=[ib ag 27 [aa,ab]]) m
   obtain rfl:=sj ao
   obtain rfl:=ap _ rfl
   exact⟨_,Z,_,aq,f.weak trivial,m⟩
 ·rintro a w ⟨_,rfl,aj,aF,f,m⟩
  refine Ae ?_
  refine Ac f Z λa f=>Aa ?_
  refine Ap ?_
  obtain rfl:=sj hd
  exact⟨[(.bool false)],f.g Z,f.d,_,[],aF,m,Z,Z⟩
theorem Wk.h1 {aa ab:Value}{ac ad:LL}{x1:Int}(m:Mem W G w (H))(ae:R2 G aa ac)(af:R2 G ab ad){y:(LI)}(hd:D.h1 ac ad x1=some y):
  Calls prog 83 #[(.agg #[aa,ab]),(iv x1)] w (Res W G H (λG' Ho v=>∃r0:Value,∃i0:Itm,Ho=[i0]∧r0=v∧Ow R0 2 G' i0 r0 y)):=by
 refine As (args:=[(.agg #[aa,ab]),(iv x1)]) (N:=27) [.tmp 4] func83 Z Z (lb Z) Z λa f=> ?_
 unfold D.h1 at hd
 refine Ae ?_
 refine By (cs:=[aa,ab]) m f Z Z Z λag w a m f=>Ac f Z λa f=>Au ?_
 refine AY (R:=R0) (xs:=([]:LI)) (RI.one _) m T42 f Z Z Z (by decide) (All2.nil _) λah ai w a m aj f=>Ac f Z λa f=>Aa (Af (Ae ?_))
 refine Ac f Z λa f=>Aa ?_
 have⟨ak,al,hd⟩:=bind_some hd
 refine AF (λa w=>∃am:LI,am=ak∧∃(an:GH) (ao:Value) (ap:Itm),GLe G an∧Fr a 27 [(5,ao)]∧Mem W an w (ap::H)∧Ow R0 2 an ap ao am) ?_ ?_
 ·refine Aj ?_
  have m:=m.fr 1
  refine AD (λaq a w=>∃ar:LI,∃au:Int,(ar,au)=aq∧∃(av:GH) (aw:Value) (ax:Itm),GLe G av∧Fr a 27 [(1,(iv x1)),(2,(pb ag)),(5,aw),(6,(iv au))]∧Mem W av w (ib ag 27 [aa,ab]::ax::H)∧Ow R0 2 av ax aw ar) al ⟨_,_,Z,_,ai,ah,gr,f.k Z,m,aj⟩ ?_
  clear al f m
  rintro aq ay az aA a w ⟨ar,au,rfl,av,aw,ax,aB,f,m,aC⟩
  have ae:=rd2 aB ae
  refine Af (Ae ?_)
  refine Ab f Z λa f=>Bu underlying27 Z sizeOf22 f Z λa f=>AJ 0 0 m Bd f Z Z Z Z λa f=>A5 underlying22 f Z Z ae λa f=>Ah f Z Z AH λa f=>Aa ?_
  rcases Ad az with⟨aD,az⟩|⟨aD,az⟩
  ·refine Ak f Z aD ?_
   refine Al ?_
   refine Af (Aj (Ae ?_))
   refine Bu underlying27 Z sizeOf22 f Z λa f=>AJ 0 0 m Bd f Z Z Z Z λa f=>Ab f Z λa f=> ?_
   have⟨aE,aF,az⟩:=bind_some az
   refine Bl T22 f Z Z Z ae aF λaG aH a aI aJ f=>AM m AZ f Z Z aI λa f=>Ab f Z λa f=> ?_
   have⟨aK,aL,az⟩:=bind_some az
   refine Bf f Z call70 (Wk.i m aJ aL) λaM w aN m a f=> ?_
   have aC:=od1 aN aC
   refine Aa ?_
   rcases Ad az with⟨aO,az⟩|⟨aO,az⟩
   ·refine Ak f Z aO ?_
    refine Am ?_
    refine Ab f Z λa f=>Ab f Z λa f=>AY (R:=R0) (xs:=([au]:LI)) (RI.one _) m T42 f Z Z Z (by decide) (All2.cons Z (All2.nil _)) λaP aQ w a m aR f=> ?_
    have⟨aS,aT,az⟩:=bind_some az
    refine Bh (RI.one _) 2 m aC Z T42 Z (by decide) f Z Z Z (Ow.src (j:=0) aR m Z) aT λaU aV w a m aW f=>Ac f Z λa f=>Aa (Am ?_)
    refine Ab f Z λa f=>Ah f Z Z Ar λa f=>Ac f Z λa f=>Aa ?_
    have m:=m.fr 2
    have m:=m.fr 2
    have m:=m.eraseAt 2
    obtain rfl:=sj az
    exact⟨_,Z,_,_,Z,_,aV,aU,(gt aB aN),f.k Z,m,aW⟩
   ·refine Ai f Z aO ?_
    refine Al ?_
    refine Am ?_
    refine Ab f Z λa f=>Ah f Z Z Ar λa f=>Ac f Z λa f=>Aa ?_
    obtain rfl:=sj az
    exact⟨_,Z,_,_,Z,_,aw,ax,(gt aB aN),f.k Z,m,aC⟩
  ·refine Ai f Z aD ?_
   refine Ax Z ?_
   have m:=m.fr 1
   have m:=m.eraseAt 1
   obtain rfl:=sj az
   obtain rfl:=aA _ rfl
   exact⟨_,Z,_,aw,ax,aB,f.k Z,m,aC⟩
 ·rintro a w ⟨am,rfl,an,ao,ap,aX,f,m,aY⟩
  refine Ae ?_
  refine Ab f Z λa f=>Ac f Z λa f=>Aa ?_
  refine Ap ?_
  obtain rfl:=sj hd
  exact⟨[ao],f.g Z,f.d,_,[ap],aX,m,_,_,Z,Z,aY⟩
theorem Wk.f1 {aa ab ac:Value}{ad ae af:LL}(m:Mem W G w (H))(ag:R2 G aa ad)(ah:R2 G ab ae)(ai:R2 G ac af){y:Bool}(hd:D.f1 ad ae af=some y):
  Calls prog 29 #[(.agg #[aa]),(.agg #[ab,ac])] w (Res W G H (λ_ Ho v=>Ho=[]∧v=(.bool y))):=by
 refine As (args:=[(.agg #[aa]),(.agg #[ab,ac])]) (N:=69) [.tmp 4] func29 Z Z (lb Z) Z λa f=> ?_
 unfold D.f1 at hd
 refine Ae ?_
 refine By (cs:=[aa]) m f Z Z Z λaj w a m f=>By (cs:=[ab,ac]) m f Z Z Z λak w a m f=>Ac f Z λa f=>Aa (Af (Ae ?_))
 refine AT 1 0 (ds:=[aa]) m A8 f Z Z Z Z Z λa f=> ?_
 have⟨al,am,hd⟩:=bind_some hd
 refine Bf f Z call77 (Wk.J m ag am) λan w ao m a f=> ?_
 have ag:=rd2 ao ag
 have ah:=rd2 ao ah
 have ai:=rd2 ao ai
 refine l_o f (Bj (f.e Z)) λa f=>Ab f Z λa f=> ?_
 have⟨ap,aq,hd⟩:=bind_some hd
 refine BJ 4 (λa w=>∃ar,GLe an ar∧Mem W ar w (ib ak 27 [ab,ac]::ib aj 30 [aa]::H)∧Fr a 69 [(0,(.agg #[aa])),(1,(.agg #[ab,ac])),(2,(pb aj)),(3,(pb ak)),(10,(.agg #[aa])),(11,(.bool al)),(12,(.bool (!al))),(13,(.bool (!al))),(17,(.bool ap))]) ?_ ?_
 ·rcases Ad aq with⟨au,aq⟩|⟨au,aq⟩
  ·refine AL f au λa f=> ?_
   refine AL f au λa f=>AL f au λa f=>l_o f (AU (f.e Z) au (f.e Z)) λa f=> ?_
   obtain rfl:=sj aq
   exact⟨_,gr,m,f.k Z⟩
  ·refine AI f au ?_
   refine AT 0 0 (ds:=[ab,ac]) m CS f Z Z Z Z Z λa f=>AI f au ?_
   have⟨av,aw,aq⟩:=bind_some aq
   refine Bf f Z call78 (Wk.M1 m ah ai aw) λax w ay m a f=>AI f au ?_
   refine l_o f (Bj (f.e Z)) λa f=>l_o f (AV (f.e Z) au (f.e Z)) λa f=> ?_
   obtain rfl:=sj aq
   exact⟨_,ay,m,f.k Z⟩
 ·rintro a w ⟨ar,az,m,f⟩
  have ag:=rd2 az ag
  have ah:=rd2 az ah
  have ai:=rd2 az ai
  refine Aa ?_
  rcases Ad hd with⟨aA,hd⟩|⟨aA,hd⟩
  ·refine Ak f Z aA ?_
   refine Ae ?_
   refine Ac f Z λa f=>Aa ?_
   refine Ap ?_
   have m:Mem W ar w H:=Mem.drop (H':=[ib ak 27 [ab,ac],ib aj 30 [aa]]) m
   obtain rfl:=sj hd
   exact⟨[(.bool false)],f.g Z,f.d,_,[],(gt ao az),m,Z,Z⟩
  ·refine Ai f Z aA ?_
   refine Al ?_
   refine Af (Ae ?_)
   refine Ac f Z λa f=>Aa ?_
   have⟨aB,aC,hd⟩:=bind_some hd
   refine AF (λa w=>∃q_73':Unit,aB= .inl q_73'∧∃(aD:GH),GLe ar aD∧Fr a 69 [(2,(pb aj)),(3,(pb ak))]∧Mem W aD w (ib aj 30 [aa]::ib ak 27 [ab,ac]::H)) ?_ ?_
   ·refine Aj ?_
    have m:=m.fr 1
    refine AD (λaE a w=>∃aF:Int,aF=aE∧∃(aG:GH),GLe ar aG∧Fr a 69 [(2,(pb aj)),(3,(pb ak)),(5,(iv aF))]∧Mem W aG w (ib aj 30 [aa]::ib ak 27 [ab,ac]::H)) aC ⟨_,Z,_,gr,f.k Z,m⟩ ?_
    clear aC f m
    rintro aE aH aI aJ a w ⟨aF,rfl,aG,aK,f,m⟩
    have ag:=rd2 aK ag
    have ah:=rd2 aK ah
    refine Af (Ae ?_)
    refine Ab f Z λa f=>Bu underlying27 Z sizeOf22 f Z λa f=>AJ 1 0 m Bd f Z Z Z Z λa f=>A5 underlying22 f Z Z ah λa f=>Ah f Z Z AH λa f=>Aa ?_
    rcases Ad aI with⟨aL,aI⟩|⟨aL,aI⟩
    ·refine Ak f Z aL ?_
     refine Al ?_
     refine Af (Aj (Af ?_))
     refine A3 9 Ay (by kernel_rfl) m ?_
     refine B9 0 9 underlying27 Z sizeOf22 Z f Z λa f=>BQ 1 9 1 Bd Z Z Z f Z λa f=>Ag 2 9 Z f Z λa f=> ?_
     have⟨aM,aN,aI⟩:=bind_some aI
     refine Cj 3 9 T22 ah aN Z f Z Z λaO aP a aQ aR f=>Ck 4 9 AZ aQ Z f Z λa f=>BH (i:=5) (ds:=[aa]) 9 0 A8 Z Z Z Z (by kernel_rfl) Z f Z Z Z λa f=> ?_
     have⟨aS,aT,aI⟩:=bind_some aI
     refine BX (i:=6) 9 Z (by kernel_rfl) Z f Z Z Z call80 (λ_ _ w aU m=>Wk.a m (rd2 aU ag) aT) λa f=> ?_
     have⟨aV,aW,aI⟩:=bind_some aI
     refine BX (i:=7) 9 Z (by kernel_rfl) Z f Z Z Z call79 (λ_ _ w aX m=>Wk.c0 m (rd1 aX aR) aW) λa f=>q_p 8 9 Z f (λ_=>Bj (f.e Z)) λa f=>AK λaY w aZ m=>Aa ?_
     rcases Ad aI with⟨a0,aI⟩|⟨a0,aI⟩
     ·refine Ak f Z a0 ?_
      refine Ae ?_
      refine Ac f Z λa f=>Aa ?_
      refine Ap ?_
      have m:Mem W aY w H:=Mem.drop (H':=[ib aj 30 [aa],ib ak 27 [ab,ac]]) m
      obtain rfl:=sj aI
      obtain rfl:=aJ _ rfl
      obtain rfl:=sj hd
      exact⟨[(.bool false)],f.g Z,f.d,_,[],(gt ao (gt az (gt aK aZ))),m,Z,Z⟩
     ·refine Ai f Z a0 ?_
      refine Al ?_
      refine Am ?_
      refine Ab f Z λa f=>Ah f Z Z Ar λa f=>Ac f Z λa f=>Aa ?_
      obtain rfl:=sj aI
      exact⟨_,Z,_,Z,_,(gt aK aZ),f.k Z,m⟩
    ·refine Ai f Z aL ?_
     refine Ax Z ?_
     obtain rfl:=sj aI
     obtain rfl:=aJ _ rfl
     exact⟨_,Z,_,aK,f.k Z,m⟩
   ·rintro a w ⟨_,rfl,aD,a1,f,m⟩
    have ag:=rd2 a1 ag
    have ah:=rd2 a1 ah
    have ai:=rd2 a1 ai
    refine Ae ?_
    refine AT 0 0 (ds:=[aa]) m A8 f Z Z Z Z Z λa f=> ?_
    have⟨a2,a3,hd⟩:=bind_some hd
    refine Av f Z call81 (Wk.l0 m ag a3) λa4 a5 a6 w a7 m a8 a f=> ?_
    obtain⟨a9,ba,rfl,rfl,bb⟩:=a8
    have ag:=rd2 a7 ag
    have ah:=rd2 a7 ah
    have ai:=rd2 a7 ai
    refine Ac f Z λa f=>Aa (Af (Ae ?_))
    refine Ac f Z λa f=>Aa ?_
    have⟨bc,bd,hd⟩:=bind_some hd
    refine AF (λa w=>∃q_155':Unit,bc= .inl q_155'∧∃(be:GH),GLe a5 be∧Fr a 69 [(2,(pb aj)),(3,(pb ak))]∧Mem W be w (ib aj 30 [aa]::ib ak 27 [ab,ac]::H)) ?_ ?_
    ·refine Aj ?_
     have m:=m.fr 2
     have m:=m.fr 2
     refine AD (λbf a w=>∃bg:Int,bg=bf∧∃(bh:GH),GLe a5 bh∧Fr a 69 [(2,(pb aj)),(3,(pb ak)),(6,a9),(7,(iv bg))]∧Mem W bh w (ib aj 30 [aa]::ib ak 27 [ab,ac]::ba::H)) bd ⟨_,Z,_,gr,f.k Z,m⟩ ?_
     clear bd f m
     rintro bf bi bj bk a w ⟨bg,rfl,bh,bl,f,m⟩
     have ah:=rd2 bl ah
     have ai:=rd2 bl ai
     have bb:=Ow.mono (RSl.mono (RI.mono _)) bl bb
     refine Af (Ae ?_)
     refine Ab f Z λa f=>Ab f Z λa f=>Bv 2 m bb Z underlying22 f Z Z λa f=>Ah f Z Z AH λa f=>Aa ?_
     rcases Ad bj with⟨bm,bj⟩|⟨bm,bj⟩
     ·refine Ak f Z bm ?_
      refine Al ?_
      refine Af (Aj (Af ?_))
      refine A3 7 Ay (by kernel_rfl) m ?_
      refine BH (i:=0) (ds:=[ab,ac]) 7 1 CS Z Z Z Z (by kernel_rfl) Z f Z Z Z λa f=>Ag 1 7 Z f Z λa f=>Ag 2 7 Z f Z λa f=> ?_
      have⟨bn,bo,bj⟩:=bind_some bj
      refine AG 3 7 2 m bb T22 bo Z f Z Z λbp a bq f=>AR 4 7 2 bb AZ bq bo Z f Z λbr a bs f=> ?_
      have⟨bt,bu,bj⟩:=bind_some bj
      refine BX (i:=5) 7 Z (by kernel_rfl) Z f Z Z Z call82 (λ_ _ w bv m=>Wk.g1 m (rd2 bv ah) (rd2 bv ai) (rd1 bv bs) bu) λa f=>q_p 6 7 Z f (λ_=>Bj (f.e Z)) λa f=>AK λbw w bx m=>Aa ?_
      rcases Ad bj with⟨bz,bj⟩|⟨bz,bj⟩
      ·refine Ak f Z bz ?_
       refine Ae ?_
       refine Ac f Z λa f=>Aa ?_
       refine Ap ?_
       have m:Mem W bw w H:=Mem.drop (H':=[ib aj 30 [aa],ib ak 27 [ab,ac],ba]) m
       obtain rfl:=sj bj
       obtain rfl:=bk _ rfl
       obtain rfl:=sj hd
       exact⟨[(.bool false)],f.g Z,f.d,_,[],(gt ao (gt az (gt a1 (gt a7 (gt bl bx))))),m,Z,Z⟩
      ·refine Ai f Z bz ?_
       refine Al ?_
       refine Am ?_
       refine Ab f Z λa f=>Ah f Z Z Ar λa f=>Ac f Z λa f=>Aa ?_
       obtain rfl:=sj bj
       exact⟨_,Z,_,Z,_,(gt bl bx),f.k Z,m⟩
     ·refine Ai f Z bm ?_
      refine Ax Z ?_
      have m:=m.eraseAt 2
      obtain rfl:=sj bj
      obtain rfl:=bk _ rfl
      exact⟨_,Z,_,bl,f.k Z,m⟩
    ·rintro a w ⟨_,rfl,be,bA,f,m⟩
     have ag:=rd2 bA ag
     have ah:=rd2 bA ah
     have ai:=rd2 bA ai
     refine Af (Ae ?_)
     refine Ac f Z λa f=>Aa ?_
     have⟨bB,bC,hd⟩:=bind_some hd
     refine AF (λa w=>∃q_304':Unit,bB= .inl q_304'∧∃(bD:GH),GLe be bD∧Fr a 69 []∧Mem W bD w (H)) ?_ ?_
     ·refine Aj ?_
      refine AD (λbE a w=>∃bF:Int,bF=bE∧∃(bG:GH),GLe be bG∧Fr a 69 [(2,(pb aj)),(3,(pb ak)),(8,(iv bF))]∧Mem W bG w (ib aj 30 [aa]::ib ak 27 [ab,ac]::H)) bC ⟨_,Z,_,gr,f.k Z,m⟩ ?_
      clear bC f m
      rintro bE bH bI bJ a w ⟨bF,rfl,bG,bK,f,m⟩
      have ag:=rd2 bK ag
      have ah:=rd2 bK ah
      have ai:=rd2 bK ai
      refine Af (Ae ?_)
      refine Ab f Z λa f=>AT 0 0 (ds:=[aa]) m A8 f Z Z Z Z Z λa f=> ?_
      have⟨bL,bM,bI⟩:=bind_some bI
      refine Bf f Z call80 (Wk.a m ag bM) λbN w bO m a f=> ?_
      have ah:=rd2 bO ah
      have ai:=rd2 bO ai
      refine Ah f Z Z AH λa f=>Aa ?_
      rcases Ad bI with⟨bP,bI⟩|⟨bP,bI⟩
      ·refine Ak f Z bP ?_
       refine Al ?_
       refine Af (Aj (Ae ?_))
       refine AT 1 0 (ds:=[ab,ac]) m CS f Z Z Z Z Z λa f=>Ab f Z λa f=> ?_
       have⟨bQ,bR,bI⟩:=bind_some bI
       refine Av f Z call83 (Wk.h1 m ah ai bR) λbS bT bU w bV m bW a f=> ?_
       obtain⟨bX,bY,rfl,rfl,bZ⟩:=bW
       have ah:=rd2 bV ah
       have ai:=rd2 bV ai
       refine Ac f Z λa f=>Au ?_
       refine Ab f Z λa f=>Bv 0 m bZ Z underlying42 f Z Z λa f=>Ah f Z Z Bq λa f=>Ab f Z λa f=> ?_
       have⟨b0,b1,bI⟩:=bind_some bI
       refine BJ 7 (λa w=>∃b2,GLe bT b2∧Mem W b2 w (bY::ib aj 30 [aa]::ib ak 27 [ab,ac]::H)∧Fr a 69 [(2,(pb aj)),(3,(pb ak)),(8,(iv bF)),(9,bX),(58,bX),(59,(iv (bQ.length:Int))),(60,(.bool ((bQ.length:Int)==0))),(61,(.bool ((bQ.length:Int)==0))),(68,(.bool b0))]) ?_ ?_
       ·rcases Ad b1 with⟨b3,b1⟩|⟨b3,b1⟩
        ·refine AL f b3 λa f=> ?_
         refine AL f b3 λa f=>AL f b3 λa f=>AL f b3 λa f=>AL f b3 λa f=>AL f b3 λa f=>l_o f (AU (f.e Z) b3 (f.e Z)) λa f=> ?_
         obtain rfl:=sj b1
         exact⟨_,gr,m,f.k Z⟩
        ·refine AI f b3 ?_
         refine AT 2 0 (ds:=[ab,ac]) m CS f Z Z Z Z Z λa f=>AI f b3 ?_
         refine Ab f Z λa f=>AI f b3 ?_
         have⟨b4,b5,b1⟩:=bind_some b1
         refine Av f Z call84 (Ow.lendCall (RI.mono _) 0 bZ m Z (λb6 b7 m b8=>Wk.X m (rd2 b7 ah) (rd2 b7 ai) b8 b5) (λ_ _ _ _ h=>h)) λb9 ca cb w cc m cd a f=> ?_
         obtain⟨rfl,rfl⟩:=cd
         have bZ:=od1 cc bZ
         refine AI f b3 ?_
         refine Ab f Z λa f=>AI f b3 ?_
         refine Bv 0 m bZ Z underlying42 f Z Z λa f=>AI f b3 ?_
         refine Ah f Z Z C4 λa f=>l_o f (AV (f.e Z) b3 (f.e Z)) λa f=> ?_
         obtain rfl:=sj b1
         exact⟨_,cc,m,f.k Z⟩
       ·rintro a w ⟨b2,ce,m,f⟩
        refine Aa ?_
        rcases Ad bI with⟨cf,bI⟩|⟨cf,bI⟩
        ·refine Ak f Z cf ?_
         refine Ae ?_
         refine Ac f Z λa f=>Aa ?_
         refine Ap ?_
         have m:Mem W b2 w H:=Mem.drop (H':=[bY,ib aj 30 [aa],ib ak 27 [ab,ac]]) m
         obtain rfl:=sj bI
         obtain rfl:=bJ _ rfl
         obtain rfl:=sj hd
         exact⟨[(.bool false)],f.g Z,f.d,_,[],(gt ao (gt az (gt a1 (gt a7 (gt bA (gt bK (gt bO (gt bV ce)))))))),m,Z,Z⟩
        ·refine Ai f Z cf ?_
         refine Al ?_
         refine Am ?_
         refine Ab f Z λa f=>Ah f Z Z Ar λa f=>Ac f Z λa f=>Aa ?_
         have m:=m.fr 2
         have m:=m.fr 2
         have m:=m.eraseAt 2
         obtain rfl:=sj bI
         exact⟨_,Z,_,Z,_,(gt bK (gt bO (gt bV ce))),f.k Z,m⟩
      ·refine Ai f Z bP ?_
       refine Ax Z ?_
       have m:Mem W bN w H:=Mem.drop (H':=[ib aj 30 [aa],ib ak 27 [ab,ac]]) m
       obtain rfl:=sj bI
       obtain rfl:=bJ _ rfl
       exact⟨_,Z,_,(gt bK bO),f.weak trivial,m⟩
     ·rintro a w ⟨_,rfl,bD,cg,f,m⟩
      refine Ae ?_
      refine Ac f Z λa f=>Aa ?_
      refine Ap ?_
      obtain rfl:=sj hd
      exact⟨[(.bool true)],f.g Z,f.d,_,[],(gt ao (gt az (gt a1 (gt a7 (gt bA cg))))),m,Z,Z⟩
theorem Wk.m0 {W:World}(n:Nat):∀{w:World} {G:GH} {H:List Itm} {aa v1 v2 v3:Value} {ab:LL} {x1 x2 x3:LI} (m:Mem W G w (H)) (ac:R2 G aa ab) (h1:R1 G v1 x1) (h2:R1 G v2 x2) (h3:R1 G v3 x3) {y:(LL)} (hd:D.m0 n ab x1 x2 x3=some y),
  Calls prog 86 #[(.agg #[aa]),v1,v2,v3] w (Res W G H (λG' Ho v=>∃r0:Value,∃i0:Itm,Ho=[i0]∧r0=v∧Ow R1 42 G' i0 r0 y)):=by
 induction n with
 |zero=>intros;rename_i hd;simp[D.m0] at hd
 |succ fuel ih=>
  intro w G H aa v1 v2 v3 ab x1 x2 x3 m ac h1 h2 h3 y hd
  refine As (args:=[(.agg #[aa]),v1,v2,v3]) (N:=67) [.tmp 8] func86 Z Z (lb Z) Z λa f=> ?_
  unfold D.m0 at hd
  refine Ae ?_
  refine By (cs:=[aa]) m f Z Z Z λad w a m f=>Ac f Z λa f=>Aa (Af (Ae ?_))
  refine Ab f Z λa f=>A5 underlying42 f Z Z h2 λa f=>Ah f Z Z Bq λa f=>Ab f Z λa f=> ?_
  refine BJ 4 (λa w=>∃ae,GLe G ae∧Mem W ae w (ib ad 30 [aa]::H)∧Fr a 67 [(0,(.agg #[aa])),(1,v1),(2,v2),(3,v3),(4,(pb ad)),(13,v2),(14,(iv (x2.length:Int))),(15,(.bool ((x2.length:Int)==0))),(16,(.bool ((x2.length:Int)==0))),(20,(.bool (((x2.length:Int)==0)&&((x3.length:Int)==0))))]) ?_ ?_
  ·rcases Bool.eq_false_or_eq_true ((x2.length:Int)==0) with af|af
   ·refine AI f af ?_
    refine Ab f Z λa f=>AI f af ?_
    refine A5 underlying42 f Z Z h3 λa f=>AI f af ?_
    refine Ah f Z Z Bq λa f=>l_o f (AU (f.e Z) af (f.e Z)) λa f=> ?_
    exact⟨_,gr,m,f.weak ⟨Z,Z,Z,Z,Z,Z,Z,Z,Z,by rw[af];rfl,trivial⟩⟩
   ·refine AL f af λa f=> ?_
    refine AL f af λa f=>AL f af λa f=>l_o f (AV (f.e Z) af (f.e Z)) λa f=> ?_
    exact⟨_,gr,m,f.weak ⟨Z,Z,Z,Z,Z,Z,Z,Z,Z,by rw[af];rfl,trivial⟩⟩
  ·rintro a w ⟨ae,ag,m,f⟩
   have ac:=rd2 ag ac
   have h1:=rd1 ag h1
   have h2:=rd1 ag h2
   have h3:=rd1 ag h3
   refine Aa ?_
   rcases Ad hd with⟨ah,hd⟩|⟨ah,hd⟩
   ·refine Ak f Z ah ?_
    refine Ae ?_
    refine Ab f Z λa f=>AY (R:=R1) (xs:=([x1]:LL)) (RSl.one _) m T22 f Z Z Z (by decide) (All2.cons h1 (All2.nil _)) λai aj w a m ak f=>Ac f Z λa f=>Aa ?_
    refine Ap ?_
    have m:=m.eraseAt 1
    obtain rfl:=sj hd
    exact⟨[aj],f.g Z,f.d,_,[ai],ag,m,_,_,Z,Z,ak⟩
   ·refine Ai f Z ah ?_
    refine Al ?_
    refine Ae ?_
    refine AY (R:=R1) (xs:=([]:LL)) (RSl.one _) m T22 f Z Z Z (by decide) (All2.nil _) λal am w a m an f=>Ac f Z λa f=>Aa (Af (Ae ?_))
    refine Ac f Z λa f=>Aa ?_
    have⟨ao,ap,hd⟩:=bind_some hd
    refine AF (λa w=>∃aq:LL,aq=ao∧∃(ar:GH) (au:Value) (av:Itm),GLe ae ar∧Fr a 67 [(9,au)]∧Mem W ar w (av::H)∧Ow R1 42 ar av au aq) ?_ ?_
    ·refine Aj ?_
     have m:=m.fr 1
     refine AD (λaw a w=>∃ax:LL,∃ay:Int,(ax,ay)=aw∧∃(az:GH) (aA:Value) (aB:Itm),GLe ae az∧Fr a 67 [(1,v1),(2,v2),(3,v3),(4,(pb ad)),(9,aA),(10,(iv ay))]∧Mem W az w (ib ad 30 [aa]::aB::H)∧Ow R1 42 az aB aA ax) ap ⟨_,_,Z,_,am,al,gr,f.k Z,m,an⟩ ?_
     clear ap f m
     rintro aw aC aD aE a w ⟨ax,ay,rfl,az,aA,aB,aF,f,m,aG⟩
     have h1:=rd1 aF h1
     have h2:=rd1 aF h2
     have h3:=rd1 aF h3
     have ac:=rd2 aF ac
     refine Af (Ae ?_)
     refine Ab f Z λa f=>Ab f Z λa f=>A5 underlying42 f Z Z h2 λa f=>Ah f Z Z AH λa f=>Aa ?_
     rcases Ad aD with⟨aH,aD⟩|⟨aH,aD⟩
     ·refine Ak f Z aH ?_
      refine Al ?_
      refine Af (Aj (Ae ?_))
      refine Ab f Z λa f=>Ab f Z λa f=> ?_
      have⟨aI,aJ,aD⟩:=bind_some aD
      refine Bl T42 f Z Z Z h2 aJ λaK aL a aM aN f=> ?_
      subst aN
      refine AM m Pl2 f Z Z aM λa f=>Ac f Z λa f=>Aa (Af ?_)
      have⟨aO,aP,aD⟩:=bind_some aD
      refine AF (λa w=>∃aQ:LL,aQ=aO∧∃(aR:GH) (aS:Value) (aT:Itm),GLe az aR∧Fr a 67 [(1,v1),(2,v2),(3,v3),(4,(pb ad)),(9,aA),(10,(iv ay)),(12,aS)]∧Mem W aR w (ib ad 30 [aa]::aB::aT::H)∧Ow R1 42 aR aT aS aQ) ?_ ?_
      ·refine A3 28 Ay (by kernel_rfl) m ?_
       refine BH (i:=0) (ds:=[aa]) 28 0 A8 Z Z Z Z (by kernel_rfl) Z f Z Z Z λa f=>Ag 1 28 Z f Z λa f=>Ag 3 28 Z f Z λa f=>Ag 6 28 Z f Z λa f=>Ag 7 28 Z f Z λa f=>q_p 8 28 Z f (λ_=>AA (f.e Z) (f.e Z) Ar) λa f=> ?_
       have⟨aU,aV,aP⟩:=bind_some aP
       refine Fc (i:=9) 28 T42 h2 aV Z (by kernel_rfl) Z f Z Z Z (.inr ⟨_,_,Z,Z⟩) (.inl ⟨Z,Z⟩) λaW a aX f=>B9 10 28 underlying30 Z sizeOf22 Z f Z λa f=>BQ 11 28 0 Bd Z Z Z f Z λa f=>Ag 12 28 Z f Z λa f=> ?_
       have⟨aY,aZ,aP⟩:=bind_some aP
       refine Cj 13 28 T22 ac aZ Z f Z Z λa2 a3 a a4 a5 f=>Ck 14 28 AZ a4 Z f Z λa f=>Ag 16 28 Z f Z λa f=>Ag 18 28 Z f Z λa f=>Ag 19 28 Z f Z λa f=> ?_
       have⟨a6,a7,aP⟩:=bind_some aP
       refine Fc (i:=20) 28 T42 h2 a7 Z (by kernel_rfl) Z f Z Z Z (.inl ⟨Z,Z⟩) (.inr ⟨_,_,Z,Z⟩) λa8 a a9 f=>B9 22 28 underlying30 Z sizeOf22 Z f Z λa f=>BQ 23 28 0 Bd Z Z Z f Z λa f=>Ag 24 28 Z f Z λa f=> ?_
       have⟨ba,bb,aP⟩:=bind_some aP
       refine Cj 25 28 T22 ac bb Z f Z Z λbc bd a be bf f=>Ck 26 28 AZ be Z f Z λa f=>D9 (i:=2) (j:=4) (l1:= #[true,true,true,true,false,false,true,true,true,true,true,true,true,true,true,false,true,false,true,true,true,false,true,true,true,true,true,false,false,false]) (l2:= #[true,true,false,true,true,false,true,true,true,true,true,true,true,true,true,false,true,false,true,true,true,false,true,true,true,true,true,false,false,false]) Z Z (by kernel_rfl) Z Z ?_ ?_
       ·intro bg w bh m bi bi
        have h1:=rd1 bh h1
        have h3:=rd1 bh h3
        have ac:=rd2 bh ac
        have aX:=rd1 bh aX
        have a5:=rd1 bh a5
        have a9:=rd1 bh a9
        have bf:=rd1 bh bf
        have⟨bj,bk,aP⟩:=bind_some aP
        refine Av f Z call69 (Wk.g m h1 bk) λbl bm bn w bo m bp a f=> ?_
        obtain⟨bq,br,rfl,rfl,bs⟩:=bp
        have h3:=rd1 bo h3
        have ac:=rd2 bo ac
        have aX:=rd1 bo aX
        have a5:=rd1 bo a5
        have a9:=rd1 bo a9
        have bf:=rd1 bo bf
        refine Aa ?_
        refine bi bm [br] _ _ bo m ?_
        refine Bi 4 Z λbt w bu m bv bv=> ?_
        have h3:=rd1 bu h3
        have ac:=rd2 bu ac
        have aX:=rd1 bu aX
        have a5:=rd1 bu a5
        have a9:=rd1 bu a9
        have bf:=rd1 bu bf
        have bs:=od1 bu bs
        refine AY (R:=R0) (xs:=([aI]:LI)) (RI.one _) m T42 f Z Z Z (by decide) (All2.cons Z (All2.nil _)) λbw bx w a m bz f=>Aa ?_
        refine bv bt [bw,br] _ _ gr m ?_
        refine Bi 5 Z λbA w bB m bC bC=> ?_
        have h3:=rd1 bB h3
        have ac:=rd2 bB ac
        have aX:=rd1 bB aX
        have a5:=rd1 bB a5
        have a9:=rd1 bB a9
        have bf:=rd1 bB bf
        have bz:=od1 bB bz
        have bs:=od1 bB bs
        have⟨bD,bE,aP⟩:=bind_some aP
        refine Bh (RI.one _) 1 m bs Z T42 Z (by decide) f Z Z Z (Ow.src (j:=0) bz m Z) bE λbF bG w a m bH f=>Aa ?_
        refine bC bA [bw,bF] _ _ gr m ?_
        refine Bi 15 Z λbI w bJ m bK bK=> ?_
        have h3:=rd1 bJ h3
        have ac:=rd2 bJ ac
        have aX:=rd1 bJ aX
        have a5:=rd1 bJ a5
        have a9:=rd1 bJ a9
        have bf:=rd1 bJ bf
        have bH:=od1 bJ bH
        have⟨bL,bM,aP⟩:=bind_some aP
        refine Av f Z call44 (Wk.s m aX a5 bM) λbN bO bP w bQ m bR a f=> ?_
        obtain⟨bS,bT,rfl,rfl,bU⟩:=bR
        have h3:=rd1 bQ h3
        have ac:=rd2 bQ ac
        have a9:=rd1 bQ a9
        have bf:=rd1 bQ bf
        have bH:=od1 bQ bH
        refine Aa ?_
        refine bK bO [bT,bw,bF] _ _ bQ m ?_
        refine Bi 17 Z λbV w bW m bX bX=> ?_
        have h3:=rd1 bW h3
        have ac:=rd2 bW ac
        have a9:=rd1 bW a9
        have bf:=rd1 bW bf
        have bU:=od1 bW bU
        have bH:=od1 bW bH
        have⟨bY,bZ,aP⟩:=bind_some aP
        refine Av f Z call69 (Wk.g m h3 bZ) λb0 b1 b2 w b3 m b4 a f=> ?_
        obtain⟨b5,b6,rfl,rfl,b7⟩:=b4
        have ac:=rd2 b3 ac
        have a9:=rd1 b3 a9
        have bf:=rd1 b3 bf
        have bU:=od1 b3 bU
        have bH:=od1 b3 bH
        refine Aa ?_
        refine bX b1 [b6,bT,bw,bF] _ _ b3 m ?_
        refine Bi 21 Z λb8 w b9 m ca ca=> ?_
        have ac:=rd2 b9 ac
        have a9:=rd1 b9 a9
        have bf:=rd1 b9 bf
        have b7:=od1 b9 b7
        have bU:=od1 b9 bU
        have bH:=od1 b9 bH
        have⟨cb,cc,aP⟩:=bind_some aP
        refine Bh (RI.one _) 0 m b7 Z T42 Z (by decide) f Z Z Z (a9.src m) cc λcd ce w a m cf f=>Aa ?_
        refine ca b8 [cd,bT,bw,bF] _ _ gr m ?_
        refine Bi 27 Z λcg w ch m ci ci=> ?_
        have ac:=rd2 ch ac
        have bf:=rd1 ch bf
        have cf:=od1 ch cf
        have bU:=od1 ch bU
        have bH:=od1 ch bH
        have⟨cj,ck,aP⟩:=bind_some aP
        refine Av f Z call44 (Ow.lendCall (RI.mono _) 0 cf m Z (λcl cm m cn=>Wk.s m cn (rd1 cm bf) ck) (λ_ G' _ _ ⟨a0,a1,e1,e2,o0⟩=>⟨a0,a1,e1,e2,Ow.free (RI.free _) G' o0⟩)) λco cp cq w cr m ct a f=> ?_
        obtain⟨cu,cv,rfl,rfl,cw⟩:=ct
        have ac:=rd2 cr ac
        have bU:=od1 cr bU
        have bH:=od1 cr bH
        refine Aa ?_
        refine ci cp [cv,cd,bT,bw,bF] _ _ cr m ?_
        refine AK λcx w cy m=> ?_
        have ac:=rd2 cy ac
        have cw:=od1 cy cw
        have bU:=od1 cy bU
        have bH:=od1 cy bH
        have m:Mem W cx w (bF::cv::cd::bT::bw::ib ad 30 [aa]::aB::H):=m.fr 4
        obtain⟨cz,cA,m,cB⟩:=Ow.stamp (RI.mono _) bH m
        have ac:=rd2 cA ac
        have cw:=od1 cA cw
        have bU:=od1 cA bU
        have m:Mem W cz w (bT::cv::cd::bw::ib ad 30 [aa]::aB::H):=m.fr 2
        obtain⟨cC,cD,m,cE⟩:=Ow.stamp (RI.mono _) bU m
        have ac:=rd2 cD ac
        have cB:=rd1 cD cB
        have cw:=od1 cD cw
        obtain⟨cF,cG,m,cH⟩:=Ow.stamp (RI.mono _) cw m
        have ac:=rd2 cG ac
        have cB:=rd1 cG cB
        have cE:=rd1 cG cE
        have⟨cI,cJ,aP⟩:=bind_some aP
        refine Av f Z call86 (ih m ac cB cE cH cJ) λcK cL cM w cN m cO a f=> ?_
        obtain⟨cP,cQ,rfl,rfl,cR⟩:=cO
        refine Ac f Z λa f=>Aa ?_
        have m:=m.fr 4
        have m:=m.fr 4
        have m:Mem W cL w (ib ad 30 [aa]::aB::cQ::cd::H):=m.eraseAt 4
        have m:=m.eraseAt 3
        obtain rfl:=sj aP
        exact⟨_,Z,_,cP,cQ,(gt bh (gt bo (gt bu (gt bB (gt bJ (gt bQ (gt bW (gt b3 (gt b9 (gt ch (gt cr (gt cy (gt cA (gt cD (gt cG cN))))))))))))))),f.k Z,m,cR⟩
       ·intro bt w bu m bv bv
        have⟨bj,bk,aP⟩:=bind_some aP
        have⟨bD,bE,aP⟩:=bind_some aP
        have⟨bL,bM,aP⟩:=bind_some aP
        have⟨bY,bZ,aP⟩:=bind_some aP
        have⟨cb,cc,aP⟩:=bind_some aP
        have⟨cj,ck,aP⟩:=bind_some aP
        have⟨cI,cJ,aP⟩:=bind_some aP
        have h1:=rd1 bu h1
        have h3:=rd1 bu h3
        have ac:=rd2 bu ac
        have aX:=rd1 bu aX
        have a5:=rd1 bu a5
        have a9:=rd1 bu a9
        have bf:=rd1 bu bf
        refine AY (R:=R0) (xs:=([aI]:LI)) (RI.one _) m T42 f Z Z Z (by decide) (All2.cons Z (All2.nil _)) λbw bx w a m bz f=>Aa ?_
        refine bv bt [bw] _ _ gr m ?_
        refine Bi 2 Z λbg w bh m bi bi=> ?_
        have h1:=rd1 bh h1
        have h3:=rd1 bh h3
        have ac:=rd2 bh ac
        have aX:=rd1 bh aX
        have a5:=rd1 bh a5
        have a9:=rd1 bh a9
        have bf:=rd1 bh bf
        have bz:=od1 bh bz
        refine Av f Z call69 (Wk.g m h1 bk) λbl bm bn w bo m bp a f=> ?_
        obtain⟨bq,br,rfl,rfl,bs⟩:=bp
        have h3:=rd1 bo h3
        have ac:=rd2 bo ac
        have aX:=rd1 bo aX
        have a5:=rd1 bo a5
        have a9:=rd1 bo a9
        have bf:=rd1 bo bf
        have bz:=od1 bo bz
        refine Aa ?_
        refine bi bm [br,bw] _ _ bo m ?_
        refine Bi 5 Z λbA w bB m bC bC=> ?_
        have h3:=rd1 bB h3
        have ac:=rd2 bB ac
        have aX:=rd1 bB aX
        have a5:=rd1 bB a5
        have a9:=rd1 bB a9
        have bf:=rd1 bB bf
        have bs:=od1 bB bs
        have bz:=od1 bB bz
        refine Bh (RI.one _) 0 m bs Z T42 Z (by decide) f Z Z Z (Ow.src (j:=1) bz m Z) bE λbF bG w a m bH f=>Aa ?_
        refine bC bA [bF,bw] _ _ gr m ?_
        refine Bi 15 Z λbI w bJ m bK bK=> ?_
        have h3:=rd1 bJ h3
        have ac:=rd2 bJ ac
        have aX:=rd1 bJ aX
        have a5:=rd1 bJ a5
        have a9:=rd1 bJ a9
        have bf:=rd1 bJ bf
        have bH:=od1 bJ bH
        refine Av f Z call44 (Wk.s m aX a5 bM) λbN bO bP w bQ m bR a f=> ?_
        obtain⟨bS,bT,rfl,rfl,bU⟩:=bR
        have h3:=rd1 bQ h3
        have ac:=rd2 bQ ac
        have a9:=rd1 bQ a9
        have bf:=rd1 bQ bf
        have bH:=od1 bQ bH
        refine Aa ?_
        refine bK bO [bT,bF,bw] _ _ bQ m ?_
        refine Bi 17 Z λbV w bW m bX bX=> ?_
        have h3:=rd1 bW h3
        have ac:=rd2 bW ac
        have a9:=rd1 bW a9
        have bf:=rd1 bW bf
        have bU:=od1 bW bU
        have bH:=od1 bW bH
        refine Av f Z call69 (Wk.g m h3 bZ) λb0 b1 b2 w b3 m b4 a f=> ?_
        obtain⟨b5,b6,rfl,rfl,b7⟩:=b4
        have ac:=rd2 b3 ac
        have a9:=rd1 b3 a9
        have bf:=rd1 b3 bf
        have bU:=od1 b3 bU
        have bH:=od1 b3 bH
        refine Aa ?_
        refine bX b1 [b6,bT,bF,bw] _ _ b3 m ?_
        refine Bi 21 Z λb8 w b9 m ca ca=> ?_
        have ac:=rd2 b9 ac
        have a9:=rd1 b9 a9
        have bf:=rd1 b9 bf
        have b7:=od1 b9 b7
        have bU:=od1 b9 bU
        have bH:=od1 b9 bH
        refine Bh (RI.one _) 0 m b7 Z T42 Z (by decide) f Z Z Z (a9.src m) cc λcd ce w a m cf f=>Aa ?_
        refine ca b8 [cd,bT,bF,bw] _ _ gr m ?_
        refine Bi 27 Z λcg w ch m ci ci=> ?_
        have ac:=rd2 ch ac
        have bf:=rd1 ch bf
        have cf:=od1 ch cf
        have bU:=od1 ch bU
        have bH:=od1 ch bH
        refine Av f Z call44 (Ow.lendCall (RI.mono _) 0 cf m Z (λcl cm m cn=>Wk.s m cn (rd1 cm bf) ck) (λ_ G' _ _ ⟨a0,a1,e1,e2,o0⟩=>⟨a0,a1,e1,e2,Ow.free (RI.free _) G' o0⟩)) λco cp cq w cr m ct a f=> ?_
        obtain⟨cu,cv,rfl,rfl,cw⟩:=ct
        have ac:=rd2 cr ac
        have bU:=od1 cr bU
        have bH:=od1 cr bH
        refine Aa ?_
        refine ci cp [cv,cd,bT,bF,bw] _ _ cr m ?_
        refine AK λcx w cy m=> ?_
        have ac:=rd2 cy ac
        have cw:=od1 cy cw
        have bU:=od1 cy bU
        have bH:=od1 cy bH
        have m:Mem W cx w (bF::cv::cd::bT::bw::ib ad 30 [aa]::aB::H):=m.fr 3
        obtain⟨cz,cA,m,cB⟩:=Ow.stamp (RI.mono _) bH m
        have ac:=rd2 cA ac
        have cw:=od1 cA cw
        have bU:=od1 cA bU
        have m:Mem W cz w (bT::cv::cd::bw::ib ad 30 [aa]::aB::H):=m.fr 2
        obtain⟨cC,cD,m,cE⟩:=Ow.stamp (RI.mono _) bU m
        have ac:=rd2 cD ac
        have cB:=rd1 cD cB
        have cw:=od1 cD cw
        obtain⟨cF,cG,m,cH⟩:=Ow.stamp (RI.mono _) cw m
        have ac:=rd2 cG ac
        have cB:=rd1 cG cB
        have cE:=rd1 cG cE
        refine Av f Z call86 (ih m ac cB cE cH cJ) λcK cL cM w cN m cO a f=> ?_
        obtain⟨cP,cQ,rfl,rfl,cR⟩:=cO
        refine Ac f Z λa f=>Aa ?_
        have m:=m.fr 4
        have m:=m.fr 4
        have m:Mem W cL w (ib ad 30 [aa]::aB::cQ::cd::H):=m.eraseAt 4
        have m:=m.eraseAt 3
        obtain rfl:=sj aP
        exact⟨_,Z,_,cP,cQ,(gt bu (gt bh (gt bo (gt bB (gt bJ (gt bQ (gt bW (gt b3 (gt b9 (gt ch (gt cr (gt cy (gt cA (gt cD (gt cG cN))))))))))))))),f.k Z,m,cR⟩
      ·rintro a w ⟨aQ,rfl,aR,aS,aT,cS,f,m,cT⟩
       have aG:=Ow.mono (RSl.mono (RI.mono _)) cS aG
       refine Am ?_
       refine Ab f Z λa f=>Ab f Z λa f=> ?_
       have⟨cU,cV,aD⟩:=bind_some aD
       refine Bh (RSl.one _) 1 m aG Z T22 Z (by decide) f Z Z Z (Ow.src (j:=2) cT m Z) cV λcW cX w a m cY f=>Ac f Z λa f=>Aa (Am ?_)
       refine Ab f Z λa f=>Ah f Z Z Ar λa f=>Ac f Z λa f=>Aa ?_
       have m:=m.eraseAt 2
       obtain rfl:=sj aD
       exact⟨_,Z,_,_,Z,_,cX,cW,(gt aF cS),f.k Z,m,cY⟩
     ·refine Ai f Z aH ?_
      refine Ax Z ?_
      have m:=m.fr 1
      have m:=m.eraseAt 1
      obtain rfl:=sj aD
      obtain rfl:=aE _ rfl
      exact⟨_,Z,_,aA,aB,aF,f.k Z,m,aG⟩
    ·rintro a w ⟨aq,rfl,ar,au,av,cZ,f,m,c0⟩
     refine Ae ?_
     refine Ab f Z λa f=>Ac f Z λa f=>Aa ?_
     refine Ap ?_
     obtain rfl:=sj hd
     exact⟨[au],f.g Z,f.d,_,[av],(gt ag cZ),m,_,_,Z,Z,c0⟩
theorem Wk.o {aa v1 v2 v3:Value}{ab:LL}{x1 x2 x3:LI}(m:Mem W G w (H))(ac:R2 G aa ab)(h1:R1 G v1 x1)(h2:R1 G v2 x2)(h3:R1 G v3 x3){y:(LL)}(hd:D.o ab x1 x2 x3=some y):
  Calls prog 86 #[(.agg #[aa]),v1,v2,v3] w (Res W G H (λG' Ho v=>∃r0:Value,∃i0:Itm,Ho=[i0]∧r0=v∧Ow R1 42 G' i0 r0 y)):=by
 exact Wk.m0 Cf m ac h1 h2 h3 hd
end Go.Proofs.YtebbefpdncgoiaaGreatDoor

set_option maxRecDepth 100000
namespace Go.Proofs.YtebbefpdncgoiaaGreatDoor
open Go Go.Sx
open Go.Proofs.Tryz Go.Proofs.YtebbefpdncgoiaaGreatDoor.Tryz IntKind
variable {W w : World} {G : GH} {H : List Itm}
theorem Wk.v0 {aa:Value}{ab:LL}(m:Mem W G w (H))(ac:R2 G aa ab){y:(LL)}(hd:D.v0 ab=some y):
  Calls prog 31 #[(.agg #[aa])] w (Res W G H (λG' Ho v=>∃r0:Value,∃i0:Itm,Ho=[i0]∧r0=v∧Ow R1 42 G' i0 r0 y)):=by
 refine As (args:=[(.agg #[aa])]) (N:=14) [.tmp 2] func31 Z Z (lb Z) Z λa f=> ?_
 unfold D.v0 at hd
 refine Ae ?_
 refine By (cs:=[aa]) m f Z Z Z λad w a m f=>Ac f Z λa f=>Aa (Af (Ae ?_))
 refine AT 0 0 (ds:=[aa]) m A8 f Z Z Z Z Z λa f=> ?_
 have⟨ae,af,hd⟩:=bind_some hd
 refine Bf f Z call77 (Wk.J m ac af) λag w ah m a f=> ?_
 have ac:=rd2 ah ac
 refine l_o f (Bj (f.e Z)) λa f=>Aa ?_
 rcases Ad hd with⟨ai,hd⟩|⟨ai,hd⟩
 ·refine Ak f Z ai ?_
  refine Ae ?_
  refine AY (R:=R1) (xs:=([]:LL)) (RSl.one _) m T22 f Z Z Z (by decide) (All2.nil _) λaj ak w a m al f=>Ac f Z λa f=>Aa ?_
  refine Ap ?_
  have m:=m.eraseAt 1
  obtain rfl:=sj hd
  exact⟨[ak],f.g Z,f.d,_,[aj],ah,m,_,_,Z,Z,al⟩
 ·refine Ai f Z ai ?_
  refine Al ?_
  refine Af ?_
  have⟨am,an,hd⟩:=bind_some hd
  refine AF (λa w=>∃ao:LL,ao=am∧∃(ap:GH) (aq:Value) (ar:Itm),GLe ag ap∧Fr a 14 [(2,aq)]∧Mem W ap w (ar::H)∧Ow R1 42 ap ar aq ao) ?_ ?_
  ·refine A3 8 Ay (by kernel_rfl) m ?_
   refine BH (i:=0) (ds:=[aa]) 8 0 A8 Z Z Z Z (by kernel_rfl) Z f Z Z Z λa f=>BH (i:=2) (ds:=[aa]) 8 0 A8 Z Z Z Z (by kernel_rfl) Z f Z Z Z λa f=> ?_
   have⟨au,av,an⟩:=bind_some an
   refine BX (i:=3) 8 Z (by kernel_rfl) Z f Z Z Z call80 (λ_ _ w aw m=>Wk.a m (rd2 aw ac) av) λa f=>q_three (i:=1) (j:=4) (k:=5) (l1:= #[true,true,true,true,false,false,false,false]) (l2:= #[true,false,true,true,true,false,false,false]) (l3:= #[true,false,true,true,false,true,false,false]) Z Z Z (by kernel_rfl) Z Z Z ?_ ?_ ?_
   ·intro ax w ay m az az
    have ac:=rd2 ay ac
    refine AY (R:=R0) (xs:=([]:LI)) (RI.one _) m T42 f Z Z Z (by decide) (All2.nil _) λaA aB w a m aC f=>Aa ?_
    refine az ax [aA] _ _ gr m ?_
    refine D9 (i:=4) (j:=5) (l1:= #[true,true,true,true,true,false,false,false]) (l2:= #[true,true,true,true,false,true,false,false]) Z Z (by kernel_rfl) Z Z ?_ ?_
    ·intro aD w aE m aF aF
     have ac:=rd2 aE ac
     have aC:=od1 aE aC
     have⟨aG,aH,an⟩:=bind_some an
     refine Av f Z call87 (Wk.A m aH) λaI aJ aK w aL m aM a f=> ?_
     obtain⟨aN,aO,rfl,rfl,aP⟩:=aM
     have ac:=rd2 aL ac
     have aC:=od1 aL aC
     refine Aa ?_
     refine aF aJ [aO,aA] _ _ aL m ?_
     refine Bi 5 Z λaQ w aR m aS aS=> ?_
     have ac:=rd2 aR ac
     have aP:=od1 aR aP
     have aC:=od1 aR aC
     refine AY (R:=R0) (xs:=([]:LI)) (RI.one _) m T42 f Z Z Z (by decide) (All2.nil _) λaT aU w a m aV f=>Aa ?_
     refine aS aQ [aT,aO,aA] _ _ gr m ?_
     refine Bi 6 Z λaW w aX m aY aY=> ?_
     have ac:=rd2 aX ac
     have aV:=od1 aX aV
     have aP:=od1 aX aP
     have aC:=od1 aX aC
     have m:=m.fr 2
     obtain⟨aZ,a0,m,a1⟩:=Ow.stamp (RI.mono _) aC m
     have ac:=rd2 a0 ac
     have aV:=od1 a0 aV
     have aP:=od1 a0 aP
     have m:=m.fr 1
     obtain⟨a2,a3,m,a4⟩:=Ow.stamp (RI.mono _) aP m
     have ac:=rd2 a3 ac
     have a1:=rd1 a3 a1
     have aV:=od1 a3 aV
     obtain⟨a5,a6,m,a7⟩:=Ow.stamp (RI.mono _) aV m
     have ac:=rd2 a6 ac
     have a1:=rd1 a6 a1
     have a4:=rd1 a6 a4
     have⟨a8,a9,an⟩:=bind_some an
     refine Av f Z call86 (Wk.o m ac a1 a4 a7 a9) λba bb bc w bd m be a f=> ?_
     obtain⟨bf,bg,rfl,rfl,bh⟩:=be
     refine Aa ?_
     refine aY bb [bg] _ _ (gt a0 (gt a3 (gt a6 bd))) m ?_
     refine q_p 7 8 Z f (λ_=>BA (f.e Z)) λa f=>AK λbi w bj m=> ?_
     have bh:=Ow.mono (RSl.mono (RI.mono _)) bj bh
     refine Aa ?_
     have m:=m.eraseAt 1
     obtain rfl:=sj an
     exact⟨_,Z,_,bf,bg,(gt ay (gt aE (gt aL (gt aR (gt aX (gt a0 (gt a3 (gt a6 (gt bd bj))))))))),f.k Z,m,bh⟩
    ·intro aQ w aR m aS aS
     have⟨aG,aH,an⟩:=bind_some an
     have⟨a8,a9,an⟩:=bind_some an
     have ac:=rd2 aR ac
     have aC:=od1 aR aC
     refine AY (R:=R0) (xs:=([]:LI)) (RI.one _) m T42 f Z Z Z (by decide) (All2.nil _) λaT aU w a m aV f=>Aa ?_
     refine aS aQ [aT,aA] _ _ gr m ?_
     refine Bi 4 Z λaD w aE m aF aF=> ?_
     have ac:=rd2 aE ac
     have aV:=od1 aE aV
     have aC:=od1 aE aC
     refine Av f Z call87 (Wk.A m aH) λaI aJ aK w aL m aM a f=> ?_
     obtain⟨aN,aO,rfl,rfl,aP⟩:=aM
     have ac:=rd2 aL ac
     have aV:=od1 aL aV
     have aC:=od1 aL aC
     refine Aa ?_
     refine aF aJ [aO,aT,aA] _ _ aL m ?_
     refine Bi 6 Z λaW w aX m aY aY=> ?_
     have ac:=rd2 aX ac
     have aP:=od1 aX aP
     have aV:=od1 aX aV
     have aC:=od1 aX aC
     have m:=m.fr 2
     obtain⟨aZ,a0,m,a1⟩:=Ow.stamp (RI.mono _) aC m
     have ac:=rd2 a0 ac
     have aP:=od1 a0 aP
     have aV:=od1 a0 aV
     obtain⟨a2,a3,m,a4⟩:=Ow.stamp (RI.mono _) aP m
     have ac:=rd2 a3 ac
     have a1:=rd1 a3 a1
     have aV:=od1 a3 aV
     obtain⟨a5,a6,m,a7⟩:=Ow.stamp (RI.mono _) aV m
     have ac:=rd2 a6 ac
     have a1:=rd1 a6 a1
     have a4:=rd1 a6 a4
     refine Av f Z call86 (Wk.o m ac a1 a4 a7 a9) λba bb bc w bd m be a f=> ?_
     obtain⟨bf,bg,rfl,rfl,bh⟩:=be
     refine Aa ?_
     refine aY bb [bg] _ _ (gt a0 (gt a3 (gt a6 bd))) m ?_
     refine q_p 7 8 Z f (λ_=>BA (f.e Z)) λa f=>AK λbi w bj m=> ?_
     have bh:=Ow.mono (RSl.mono (RI.mono _)) bj bh
     refine Aa ?_
     have m:=m.eraseAt 1
     obtain rfl:=sj an
     exact⟨_,Z,_,bf,bg,(gt ay (gt aR (gt aE (gt aL (gt aX (gt a0 (gt a3 (gt a6 (gt bd bj))))))))),f.k Z,m,bh⟩
   ·intro aD w aE m aF aF
    have⟨aG,aH,an⟩:=bind_some an
    have⟨a8,a9,an⟩:=bind_some an
    have ac:=rd2 aE ac
    refine Av f Z call87 (Wk.A m aH) λaI aJ aK w aL m aM a f=> ?_
    obtain⟨aN,aO,rfl,rfl,aP⟩:=aM
    have ac:=rd2 aL ac
    refine Aa ?_
    refine aF aJ [aO] _ _ aL m ?_
    refine D9 (i:=1) (j:=5) (l1:= #[true,true,true,true,true,false,false,false]) (l2:= #[true,false,true,true,true,true,false,false]) Z Z (by kernel_rfl) Z Z ?_ ?_
    ·intro ax w ay m az az
     have ac:=rd2 ay ac
     have aP:=od1 ay aP
     refine AY (R:=R0) (xs:=([]:LI)) (RI.one _) m T42 f Z Z Z (by decide) (All2.nil _) λaA aB w a m aC f=>Aa ?_
     refine az ax [aA,aO] _ _ gr m ?_
     refine Bi 5 Z λaQ w aR m aS aS=> ?_
     have ac:=rd2 aR ac
     have aC:=od1 aR aC
     have aP:=od1 aR aP
     refine AY (R:=R0) (xs:=([]:LI)) (RI.one _) m T42 f Z Z Z (by decide) (All2.nil _) λaT aU w a m aV f=>Aa ?_
     refine aS aQ [aT,aA,aO] _ _ gr m ?_
     refine Bi 6 Z λaW w aX m aY aY=> ?_
     have ac:=rd2 aX ac
     have aV:=od1 aX aV
     have aC:=od1 aX aC
     have aP:=od1 aX aP
     have m:=m.fr 1
     obtain⟨aZ,a0,m,a1⟩:=Ow.stamp (RI.mono _) aC m
     have ac:=rd2 a0 ac
     have aV:=od1 a0 aV
     have aP:=od1 a0 aP
     have m:=m.fr 1
     obtain⟨a2,a3,m,a4⟩:=Ow.stamp (RI.mono _) aP m
     have ac:=rd2 a3 ac
     have a1:=rd1 a3 a1
     have aV:=od1 a3 aV
     obtain⟨a5,a6,m,a7⟩:=Ow.stamp (RI.mono _) aV m
     have ac:=rd2 a6 ac
     have a1:=rd1 a6 a1
     have a4:=rd1 a6 a4
     refine Av f Z call86 (Wk.o m ac a1 a4 a7 a9) λba bb bc w bd m be a f=> ?_
     obtain⟨bf,bg,rfl,rfl,bh⟩:=be
     refine Aa ?_
     refine aY bb [bg] _ _ (gt a0 (gt a3 (gt a6 bd))) m ?_
     refine q_p 7 8 Z f (λ_=>BA (f.e Z)) λa f=>AK λbi w bj m=> ?_
     have bh:=Ow.mono (RSl.mono (RI.mono _)) bj bh
     refine Aa ?_
     have m:=m.eraseAt 1
     obtain rfl:=sj an
     exact⟨_,Z,_,bf,bg,(gt aE (gt aL (gt ay (gt aR (gt aX (gt a0 (gt a3 (gt a6 (gt bd bj))))))))),f.k Z,m,bh⟩
    ·intro aQ w aR m aS aS
     have ac:=rd2 aR ac
     have aP:=od1 aR aP
     refine AY (R:=R0) (xs:=([]:LI)) (RI.one _) m T42 f Z Z Z (by decide) (All2.nil _) λaT aU w a m aV f=>Aa ?_
     refine aS aQ [aT,aO] _ _ gr m ?_
     refine Bi 1 Z λax w ay m az az=> ?_
     have ac:=rd2 ay ac
     have aV:=od1 ay aV
     have aP:=od1 ay aP
     refine AY (R:=R0) (xs:=([]:LI)) (RI.one _) m T42 f Z Z Z (by decide) (All2.nil _) λaA aB w a m aC f=>Aa ?_
     refine az ax [aA,aT,aO] _ _ gr m ?_
     refine Bi 6 Z λaW w aX m aY aY=> ?_
     have ac:=rd2 aX ac
     have aC:=od1 aX aC
     have aV:=od1 aX aV
     have aP:=od1 aX aP
     obtain⟨aZ,a0,m,a1⟩:=Ow.stamp (RI.mono _) aC m
     have ac:=rd2 a0 ac
     have aV:=od1 a0 aV
     have aP:=od1 a0 aP
     have m:=m.fr 1
     obtain⟨a2,a3,m,a4⟩:=Ow.stamp (RI.mono _) aP m
     have ac:=rd2 a3 ac
     have a1:=rd1 a3 a1
     have aV:=od1 a3 aV
     obtain⟨a5,a6,m,a7⟩:=Ow.stamp (RI.mono _) aV m
     have ac:=rd2 a6 ac
     have a1:=rd1 a6 a1
     have a4:=rd1 a6 a4
     refine Av f Z call86 (Wk.o m ac a1 a4 a7 a9) λba bb bc w bd m be a f=> ?_
     obtain⟨bf,bg,rfl,rfl,bh⟩:=be
     refine Aa ?_
     refine aY bb [bg] _ _ (gt a0 (gt a3 (gt a6 bd))) m ?_
     refine q_p 7 8 Z f (λ_=>BA (f.e Z)) λa f=>AK λbi w bj m=> ?_
     have bh:=Ow.mono (RSl.mono (RI.mono _)) bj bh
     refine Aa ?_
     have m:=m.eraseAt 1
     obtain rfl:=sj an
     exact⟨_,Z,_,bf,bg,(gt aE (gt aL (gt aR (gt ay (gt aX (gt a0 (gt a3 (gt a6 (gt bd bj))))))))),f.k Z,m,bh⟩
   ·intro aQ w aR m aS aS
    have⟨aG,aH,an⟩:=bind_some an
    have⟨a8,a9,an⟩:=bind_some an
    have ac:=rd2 aR ac
    refine AY (R:=R0) (xs:=([]:LI)) (RI.one _) m T42 f Z Z Z (by decide) (All2.nil _) λaT aU w a m aV f=>Aa ?_
    refine aS aQ [aT] _ _ gr m ?_
    refine D9 (i:=1) (j:=4) (l1:= #[true,true,true,true,false,true,false,false]) (l2:= #[true,false,true,true,true,true,false,false]) Z Z (by kernel_rfl) Z Z ?_ ?_
    ·intro ax w ay m az az
     have ac:=rd2 ay ac
     have aV:=od1 ay aV
     refine AY (R:=R0) (xs:=([]:LI)) (RI.one _) m T42 f Z Z Z (by decide) (All2.nil _) λaA aB w a m aC f=>Aa ?_
     refine az ax [aA,aT] _ _ gr m ?_
     refine Bi 4 Z λaD w aE m aF aF=> ?_
     have ac:=rd2 aE ac
     have aC:=od1 aE aC
     have aV:=od1 aE aV
     refine Av f Z call87 (Wk.A m aH) λaI aJ aK w aL m aM a f=> ?_
     obtain⟨aN,aO,rfl,rfl,aP⟩:=aM
     have ac:=rd2 aL ac
     have aC:=od1 aL aC
     have aV:=od1 aL aV
     refine Aa ?_
     refine aF aJ [aO,aA,aT] _ _ aL m ?_
     refine Bi 6 Z λaW w aX m aY aY=> ?_
     have ac:=rd2 aX ac
     have aP:=od1 aX aP
     have aC:=od1 aX aC
     have aV:=od1 aX aV
     have m:=m.fr 1
     obtain⟨aZ,a0,m,a1⟩:=Ow.stamp (RI.mono _) aC m
     have ac:=rd2 a0 ac
     have aP:=od1 a0 aP
     have aV:=od1 a0 aV
     obtain⟨a2,a3,m,a4⟩:=Ow.stamp (RI.mono _) aP m
     have ac:=rd2 a3 ac
     have a1:=rd1 a3 a1
     have aV:=od1 a3 aV
     obtain⟨a5,a6,m,a7⟩:=Ow.stamp (RI.mono _) aV m
     have ac:=rd2 a6 ac
     have a1:=rd1 a6 a1
     have a4:=rd1 a6 a4
     refine Av f Z call86 (Wk.o m ac a1 a4 a7 a9) λba bb bc w bd m be a f=> ?_
     obtain⟨bf,bg,rfl,rfl,bh⟩:=be
     refine Aa ?_
     refine aY bb [bg] _ _ (gt a0 (gt a3 (gt a6 bd))) m ?_
     refine q_p 7 8 Z f (λ_=>BA (f.e Z)) λa f=>AK λbi w bj m=> ?_
     have bh:=Ow.mono (RSl.mono (RI.mono _)) bj bh
     refine Aa ?_
     have m:=m.eraseAt 1
     obtain rfl:=sj an
     exact⟨_,Z,_,bf,bg,(gt aR (gt ay (gt aE (gt aL (gt aX (gt a0 (gt a3 (gt a6 (gt bd bj))))))))),f.k Z,m,bh⟩
    ·intro aD w aE m aF aF
     have ac:=rd2 aE ac
     have aV:=od1 aE aV
     refine Av f Z call87 (Wk.A m aH) λaI aJ aK w aL m aM a f=> ?_
     obtain⟨aN,aO,rfl,rfl,aP⟩:=aM
     have ac:=rd2 aL ac
     have aV:=od1 aL aV
     refine Aa ?_
     refine aF aJ [aO,aT] _ _ aL m ?_
     refine Bi 1 Z λax w ay m az az=> ?_
     have ac:=rd2 ay ac
     have aP:=od1 ay aP
     have aV:=od1 ay aV
     refine AY (R:=R0) (xs:=([]:LI)) (RI.one _) m T42 f Z Z Z (by decide) (All2.nil _) λaA aB w a m aC f=>Aa ?_
     refine az ax [aA,aO,aT] _ _ gr m ?_
     refine Bi 6 Z λaW w aX m aY aY=> ?_
     have ac:=rd2 aX ac
     have aC:=od1 aX aC
     have aP:=od1 aX aP
     have aV:=od1 aX aV
     obtain⟨aZ,a0,m,a1⟩:=Ow.stamp (RI.mono _) aC m
     have ac:=rd2 a0 ac
     have aP:=od1 a0 aP
     have aV:=od1 a0 aV
     obtain⟨a2,a3,m,a4⟩:=Ow.stamp (RI.mono _) aP m
     have ac:=rd2 a3 ac
     have a1:=rd1 a3 a1
     have aV:=od1 a3 aV
     obtain⟨a5,a6,m,a7⟩:=Ow.stamp (RI.mono _) aV m
     have ac:=rd2 a6 ac
     have a1:=rd1 a6 a1
     have a4:=rd1 a6 a4
     refine Av f Z call86 (Wk.o m ac a1 a4 a7 a9) λba bb bc w bd m be a f=> ?_
     obtain⟨bf,bg,rfl,rfl,bh⟩:=be
     refine Aa ?_
     refine aY bb [bg] _ _ (gt a0 (gt a3 (gt a6 bd))) m ?_
     refine q_p 7 8 Z f (λ_=>BA (f.e Z)) λa f=>AK λbi w bj m=> ?_
     have bh:=Ow.mono (RSl.mono (RI.mono _)) bj bh
     refine Aa ?_
     have m:=m.eraseAt 1
     obtain rfl:=sj an
     exact⟨_,Z,_,bf,bg,(gt aR (gt aE (gt aL (gt ay (gt aX (gt a0 (gt a3 (gt a6 (gt bd bj))))))))),f.k Z,m,bh⟩
  ·rintro a w ⟨ao,rfl,ap,aq,ar,bk,f,m,bl⟩
   refine Ap ?_
   obtain rfl:=sj hd
   exact⟨[aq],f.g Z,f.d,_,[ar],(gt ah bk),m,_,_,Z,Z,bl⟩
theorem Wk.q1 {v0 v1:Value}{x0 x1:LI}(m:Mem W G w (H))(h0:R1 G v0 x0)(h1:R1 G v1 x1){y:Bool}(hd:D.q1 x0 x1=some y):
  Calls prog 85 #[v0,v1] w (Res W G H (λ_ Ho v=>Ho=[]∧v=(.bool y))):=by
 refine As (args:=[v0,v1]) (N:=26) [.tmp 4] func85 Z Z (lb Z) Z λa f=> ?_
 unfold D.q1 at hd
 refine Ae ?_
 refine Ac f Z λa f=>Aa (Af (Ae ?_))
 refine Ab f Z λa f=>A5 underlying42 f Z Z h0 λa f=>Ab f Z λa f=>A5 underlying42 f Z Z h1 λa f=>Ah f Z Z C4 λa f=>Aa ?_
 rcases Ad hd with⟨aa,hd⟩|⟨aa,hd⟩
 ·refine Ak f Z aa ?_
  refine Ae ?_
  refine Ac f Z λa f=>Aa ?_
  refine Ap ?_
  obtain rfl:=sj hd
  exact⟨[(.bool false)],f.g Z,f.d,_,[],gr,m,Z,Z⟩
 ·refine Ai f Z aa ?_
  refine Al ?_
  refine Af (Ae ?_)
  refine Ac f Z λa f=>Aa ?_
  have⟨ab,ac,hd⟩:=bind_some hd
  refine AF (λa w=>∃q_36':Unit,ab= .inl q_36'∧∃(ad:GH),GLe G ad∧Fr a 26 []∧Mem W ad w (H)) ?_ ?_
  ·refine Aj ?_
   refine AD (λae a w=>∃af:Int,af=ae∧∃(ag:GH),GLe G ag∧Fr a 26 [(0,v0),(1,v1),(5,(iv af))]∧Mem W ag w (H)) ac ⟨_,Z,_,gr,f.k Z,m⟩ ?_
   clear ac f m
   rintro ae ah ai aj a w ⟨af,rfl,ag,ak,f,m⟩
   have h0:=rd1 ak h0
   have h1:=rd1 ak h1
   refine Af (Ae ?_)
   refine Ab f Z λa f=>Ab f Z λa f=>A5 underlying42 f Z Z h0 λa f=>Ah f Z Z AH λa f=>Aa ?_
   rcases Ad ai with⟨al,ai⟩|⟨al,ai⟩
   ·refine Ak f Z al ?_
    refine Al ?_
    refine Af (Aj (Af ?_))
    refine A3 9 Ay (by kernel_rfl) m ?_
    refine Ag 0 9 Z f Z λa f=>Ag 1 9 Z f Z λa f=> ?_
    have⟨am,an,ai⟩:=bind_some ai
    refine Cj 2 9 T42 h0 an Z f Z Z λao ap a aq ar f=> ?_
    subst ar
    refine Ck 3 9 Pl2 aq Z f Z λa f=>Ag 4 9 Z f Z λa f=>Ag 5 9 Z f Z λa f=> ?_
    have⟨au,av,ai⟩:=bind_some ai
    refine Cj 6 9 T42 h1 av Z f Z Z λaw ax a ay az f=> ?_
    subst az
    refine Ck 7 9 Pl2 ay Z f Z λa f=>q_p 8 9 Z f (λ_=>AA (f.e Z) (f.e Z) C4) λa f=>AK λaA w aB m=>Aa ?_
    rcases Ad ai with⟨aC,ai⟩|⟨aC,ai⟩
    ·refine Ak f Z aC ?_
     refine Ae ?_
     refine Ac f Z λa f=>Aa ?_
     refine Ap ?_
     obtain rfl:=sj ai
     obtain rfl:=aj _ rfl
     obtain rfl:=sj hd
     exact⟨[(.bool false)],f.g Z,f.d,_,[],(gt ak aB),m,Z,Z⟩
    ·refine Ai f Z aC ?_
     refine Al ?_
     refine Am ?_
     refine Ab f Z λa f=>Ah f Z Z Ar λa f=>Ac f Z λa f=>Aa ?_
     obtain rfl:=sj ai
     exact⟨_,Z,_,Z,_,(gt ak aB),f.k Z,m⟩
   ·refine Ai f Z al ?_
    refine Ax Z ?_
    obtain rfl:=sj ai
    obtain rfl:=aj _ rfl
    exact⟨_,Z,_,ak,f.weak trivial,m⟩
  ·rintro a w ⟨_,rfl,ad,aD,f,m⟩
   refine Ae ?_
   refine Ac f Z λa f=>Aa ?_
   refine Ap ?_
   obtain rfl:=sj hd
   exact⟨[(.bool true)],f.g Z,f.d,_,[],aD,m,Z,Z⟩
theorem Wk.N0 {v0 v1:Value}{x0 x1:LL}(m:Mem W G w (H))(h0:R2 G v0 x0)(h1:R2 G v1 x1){y:Bool}(hd:D.N0 x0 x1=some y):
  Calls prog 30 #[v0,v1] w (Res W G H (λ_ Ho v=>Ho=[]∧v=(.bool y))):=by
 refine As (args:=[v0,v1]) (N:=27) [.tmp 4] func30 Z Z (lb Z) Z λa f=> ?_
 unfold D.N0 at hd
 refine Ae ?_
 refine Ac f Z λa f=>Aa (Af (Ae ?_))
 refine Ab f Z λa f=>A5 underlying22 f Z Z h0 λa f=>Ab f Z λa f=>A5 underlying22 f Z Z h1 λa f=>Ah f Z Z C4 λa f=>Aa ?_
 rcases Ad hd with⟨aa,hd⟩|⟨aa,hd⟩
 ·refine Ak f Z aa ?_
  refine Ae ?_
  refine Ac f Z λa f=>Aa ?_
  refine Ap ?_
  obtain rfl:=sj hd
  exact⟨[(.bool false)],f.g Z,f.d,_,[],gr,m,Z,Z⟩
 ·refine Ai f Z aa ?_
  refine Al ?_
  refine Af (Ae ?_)
  refine Ac f Z λa f=>Aa ?_
  have⟨ab,ac,hd⟩:=bind_some hd
  refine AF (λa w=>∃q_42':Unit,ab= .inl q_42'∧∃(ad:GH),GLe G ad∧Fr a 27 []∧Mem W ad w (H)) ?_ ?_
  ·refine Aj ?_
   refine AD (λae a w=>∃af:Int,af=ae∧∃(ag:GH),GLe G ag∧Fr a 27 [(0,v0),(1,v1),(5,(iv af))]∧Mem W ag w (H)) ac ⟨_,Z,_,gr,f.k Z,m⟩ ?_
   clear ac f m
   rintro ae ah ai aj a w ⟨af,rfl,ag,ak,f,m⟩
   have h0:=rd2 ak h0
   have h1:=rd2 ak h1
   refine Af (Ae ?_)
   refine Ab f Z λa f=>Ab f Z λa f=>A5 underlying22 f Z Z h0 λa f=>Ah f Z Z AH λa f=>Aa ?_
   rcases Ad ai with⟨al,ai⟩|⟨al,ai⟩
   ·refine Ak f Z al ?_
    refine Al ?_
    refine Af (Aj (Af ?_))
    refine A3 10 Ay (by kernel_rfl) m ?_
    refine Ag 0 10 Z f Z λa f=>Ag 1 10 Z f Z λa f=> ?_
    have⟨am,an,ai⟩:=bind_some ai
    refine Cj 2 10 T22 h0 an Z f Z Z λao ap a aq ar f=>Ck 3 10 AZ aq Z f Z λa f=>Ag 4 10 Z f Z λa f=>Ag 5 10 Z f Z λa f=> ?_
    have⟨au,av,ai⟩:=bind_some ai
    refine Cj 6 10 T22 h1 av Z f Z Z λaw ax a ay az f=>Ck 7 10 AZ ay Z f Z λa f=> ?_
    have⟨aA,aB,ai⟩:=bind_some ai
    refine BX (i:=8) 10 Z (by kernel_rfl) Z f Z Z Z call85 (λ_ _ w aC m=>Wk.q1 m (rd1 aC ar) (rd1 aC az) aB) λa f=>q_p 9 10 Z f (λ_=>Bj (f.e Z)) λa f=>AK λaD w aE m=>Aa ?_
    rcases Ad ai with⟨aF,ai⟩|⟨aF,ai⟩
    ·refine Ak f Z aF ?_
     refine Ae ?_
     refine Ac f Z λa f=>Aa ?_
     refine Ap ?_
     obtain rfl:=sj ai
     obtain rfl:=aj _ rfl
     obtain rfl:=sj hd
     exact⟨[(.bool false)],f.g Z,f.d,_,[],(gt ak aE),m,Z,Z⟩
    ·refine Ai f Z aF ?_
     refine Al ?_
     refine Am ?_
     refine Ab f Z λa f=>Ah f Z Z Ar λa f=>Ac f Z λa f=>Aa ?_
     obtain rfl:=sj ai
     exact⟨_,Z,_,Z,_,(gt ak aE),f.k Z,m⟩
   ·refine Ai f Z al ?_
    refine Ax Z ?_
    obtain rfl:=sj ai
    obtain rfl:=aj _ rfl
    exact⟨_,Z,_,ak,f.weak trivial,m⟩
  ·rintro a w ⟨_,rfl,ad,aG,f,m⟩
   refine Ae ?_
   refine Ac f Z λa f=>Aa ?_
   refine Ap ?_
   obtain rfl:=sj hd
   exact⟨[(.bool true)],f.g Z,f.d,_,[],aG,m,Z,Z⟩
theorem Wk.s1 {aa ab:Value}{ac ad:LL}(m:Mem W G w (H))(ae:R2 G aa ac)(af:R2 G ab ad){y:Bool}(hd:D.s1 ac ad=some y):
  Calls prog 88 #[(.agg #[aa,ab])] w (Res W G H (λ_ Ho v=>Ho=[]∧v=(.bool y))):=by
 refine As (args:=[(.agg #[aa,ab])]) (N:=25) [.tmp 2] func88 Z Z (lb Z) Z λa f=> ?_
 unfold D.s1 at hd
 refine Ae ?_
 refine By (cs:=[aa,ab]) m f Z Z Z λag w a m f=>Ac f Z λa f=>Au ?_
 refine Bu underlying27 Z sizeOf22 f Z λa f=>AJ 0 0 m Bd f Z Z Z Z λa f=>A5 underlying22 f Z Z ae λa f=>Ac f Z λa f=>Au ?_
 refine Ab f Z λa f=>Ah f Z Z BT λa f=>Ab f Z λa f=> ?_
 refine BJ 3 (λa w=>∃ah,GLe G ah∧Mem W ah w (ib ag 27 [aa,ab]::H)∧Fr a 25 [(0,(.agg #[aa,ab])),(1,(pb ag)),(3,(iv (ac.length:Int))),(7,(iv (ac.length:Int))),(8,(.bool (decide ((1:Int)≤(ac.length:Int))))),(9,(.bool (decide ((1:Int)≤(ac.length:Int))))),(12,(.bool ((decide ((1:Int)≤(ac.length:Int)))&&(decide ((ac.length:Int)≤16)))))]) ?_ ?_
 ·rcases Bool.eq_false_or_eq_true (decide ((1:Int)≤(ac.length:Int))) with ai|ai
  ·refine AI f ai ?_
   refine Ab f Z λa f=>AI f ai ?_
   refine Ah f Z Z Ci λa f=>l_o f (AU (f.e Z) ai (f.e Z)) λa f=> ?_
   exact⟨_,gr,m,f.weak ⟨Z,Z,Z,Z,Z,Z,by rw[ai];rfl,trivial⟩⟩
  ·refine AL f ai λa f=> ?_
   refine AL f ai λa f=>l_o f (AV (f.e Z) ai (f.e Z)) λa f=> ?_
   exact⟨_,gr,m,f.weak ⟨Z,Z,Z,Z,Z,Z,by rw[ai];rfl,trivial⟩⟩
 ·rintro a w ⟨ah,aj,m,f⟩
  have af:=rd2 aj af
  refine Ab f Z λa f=> ?_
  refine BJ 5 (λa w=>∃ak,GLe ah ak∧Mem W ak w (ib ag 27 [aa,ab]::H)∧Fr a 25 [(0,(.agg #[aa,ab])),(1,(pb ag)),(3,(iv (ac.length:Int))),(7,(iv (ac.length:Int))),(8,(.bool (decide ((1:Int)≤(ac.length:Int))))),(9,(.bool (decide ((1:Int)≤(ac.length:Int))))),(12,(.bool ((decide ((1:Int)≤(ac.length:Int)))&&(decide ((ac.length:Int)≤16))))),(13,(.bool ((decide ((1:Int)≤(ac.length:Int)))&&(decide ((ac.length:Int)≤16))))),(18,(.bool (((decide ((1:Int)≤(ac.length:Int)))&&(decide ((ac.length:Int)≤16)))&&(decide ((ad.length:Int)≤16)))))]) ?_ ?_
  ·rcases Bool.eq_false_or_eq_true ((decide ((1:Int)≤(ac.length:Int)))&&(decide ((ac.length:Int)≤16))) with al|al
   ·refine AI f al ?_
    refine Bu underlying27 Z sizeOf22 f Z λa f=>AI f al ?_
    refine AJ 0 1 m Bd f Z Z Z Z λa f=>AI f al ?_
    refine A5 underlying22 f Z Z af λa f=>AI f al ?_
    refine Ah f Z Z Ci λa f=>l_o f (AU (f.e Z) al (f.e Z)) λa f=> ?_
    exact⟨_,gr,m,f.weak ⟨Z,Z,Z,Z,Z,Z,Z,Z,by rw[al];rfl,trivial⟩⟩
   ·refine AL f al λa f=> ?_
    refine AL f al λa f=>AL f al λa f=>AL f al λa f=>l_o f (AV (f.e Z) al (f.e Z)) λa f=> ?_
    exact⟨_,gr,m,f.weak ⟨Z,Z,Z,Z,Z,Z,Z,Z,by rw[al];rfl,trivial⟩⟩
  ·rintro a w ⟨ak,am,m,f⟩
   have af:=rd2 am af
   refine Ab f Z λa f=> ?_
   have⟨an,ao,hd⟩:=bind_some hd
   refine BJ 5 (λa w=>∃ap,GLe ak ap∧Mem W ap w (ib ag 27 [aa,ab]::H)∧Fr a 25 [(0,(.agg #[aa,ab])),(1,(pb ag)),(3,(iv (ac.length:Int))),(7,(iv (ac.length:Int))),(8,(.bool (decide ((1:Int)≤(ac.length:Int))))),(9,(.bool (decide ((1:Int)≤(ac.length:Int))))),(12,(.bool ((decide ((1:Int)≤(ac.length:Int)))&&(decide ((ac.length:Int)≤16))))),(13,(.bool ((decide ((1:Int)≤(ac.length:Int)))&&(decide ((ac.length:Int)≤16))))),(18,(.bool (((decide ((1:Int)≤(ac.length:Int)))&&(decide ((ac.length:Int)≤16)))&&(decide ((ad.length:Int)≤16))))),(19,(.bool (((decide ((1:Int)≤(ac.length:Int)))&&(decide ((ac.length:Int)≤16)))&&(decide ((ad.length:Int)≤16))))),(24,(.bool an))]) ?_ ?_
   ·rcases Ad ao with⟨aq,ao⟩|⟨aq,ao⟩
    ·refine AI f aq ?_
     refine Bu underlying27 Z sizeOf22 f Z λa f=>AI f aq ?_
     refine AJ 0 1 m Bd f Z Z Z Z λa f=>AI f aq ?_
     refine Ab f Z λa f=>AI f aq ?_
     have⟨ar,au,ao⟩:=bind_some ao
     refine Bf f Z call94 (Wk.t m af au) λav w aw m a f=>l_o f (AU (f.e Z) aq (f.e Z)) λa f=> ?_
     obtain rfl:=sj ao
     exact⟨_,aw,m,f.k Z⟩
    ·refine AL f aq λa f=> ?_
     refine AL f aq λa f=>AL f aq λa f=>AL f aq λa f=>l_o f (AV (f.e Z) aq (f.e Z)) λa f=> ?_
     obtain rfl:=sj ao
     exact⟨_,gr,m,f.k Z⟩
   ·rintro a w ⟨ap,ax,m,f⟩
    refine Ac f Z λa f=>Aa ?_
    refine Ap ?_
    have m:Mem W ap w H:=Mem.drop (H':=[ib ag 27 [aa,ab]]) m
    obtain rfl:=sj hd
    exact⟨[(.bool an)],f.g Z,f.d,_,[],(gt aj (gt am ax)),m,Z,Z⟩
theorem Wk.p1 {aa ab:Value}{ac ad:LL}(m:Mem W G w (H))(ae:R2 G aa ac)(af:R2 G ab ad){y:Bool}(hd:D.p1 ac ad=some y):
  Calls prog 32 #[(.agg #[aa,ab])] w (Res W G H (λ_ Ho v=>Ho=[]∧v=(.bool y))):=by
 refine As (args:=[(.agg #[aa,ab])]) (N:=40) [.tmp 2] func32 Z Z (lb Z) Z λa f=> ?_
 unfold D.p1 at hd
 refine Ae ?_
 refine By (cs:=[aa,ab]) m f Z Z Z λag w a m f=>Ac f Z λa f=>Aa (Af (Ae ?_))
 refine AT 0 0 (ds:=[aa,ab]) m CS f Z Z Z Z Z λa f=> ?_
 have⟨ah,ai,hd⟩:=bind_some hd
 refine Bf f Z call88 (Wk.s1 m ae af ai) λaj w ak m a f=> ?_
 have ae:=rd2 ak ae
 have af:=rd2 ak af
 refine l_o f (Bj (f.e Z)) λa f=>Aa ?_
 rcases Ad hd with⟨al,hd⟩|⟨al,hd⟩
 ·refine Ak f Z al ?_
  refine Ae ?_
  refine Ac f Z λa f=>Aa ?_
  refine Ap ?_
  have m:Mem W aj w H:=Mem.drop (H':=[ib ag 27 [aa,ab]]) m
  obtain rfl:=sj hd
  exact⟨[(.bool false)],f.g Z,f.d,_,[],ak,m,Z,Z⟩
 ·refine Ai f Z al ?_
  refine Al ?_
  refine Ae ?_
  refine Bu underlying27 Z sizeOf22 f Z λa f=>AJ 0 0 m Bd f Z Z Z Z λa f=>A5 underlying22 f Z Z ae λa f=> ?_
  have⟨am,an,hd⟩:=bind_some hd
  refine E8 (R:=R0) m T94 Z (by decide) Z f Z Z Z an λao ap w a m aq f=>Ac f Z λa f=>Aa (Af (Ae ?_))
  refine Bu underlying27 Z sizeOf22 f Z λa f=>AJ 1 1 m Bd f Z Z Z Z λa f=>A5 underlying22 f Z Z af λa f=>Ab f Z λa f=>Aa ?_
  have⟨ar,au,hd⟩:=bind_some hd
  refine AF (λa w=>∃av:LI,av=ar∧∃(aw:GH) (ax:Itm),GLe aj aw∧Fr a 40 [(3,ap)]∧Mem W aw w (ax::H)∧Ow R0 3 aw ax ap av) ?_ ?_
  ·refine Aj ?_
   have m:=m.eraseAt 1
   refine AD (λay a w=>∃az:LI,∃aA:Int,(az,aA)=ay∧∃(aB:GH) (aC:Itm),GLe aj aB∧Fr a 40 [(3,ap),(14,ab),(15,(iv (ad.length:Int))),(16,(iv aA))]∧Mem W aB w (aC::H)∧Ow R0 3 aB aC ap az) au ⟨_,_,Z,_,ao,gr,f.k Z,m,aq⟩ ?_
   clear au f m
   rintro ay aD aE aF a w ⟨az,aA,rfl,aB,aC,aG,f,m,aH⟩
   have af:=rd2 aG af
   refine Ae ?_
   refine Ah f Z Z AH λa f=>Aa (Af ?_)
   rcases Ad aE with⟨aI,aE⟩|⟨aI,aE⟩
   ·refine Ak f Z aI ?_
    refine Al ?_
    refine Af (Aj (Ae ?_))
    have⟨aJ,aK,aE⟩:=bind_some aE
    refine Bl T22 f Z Z Z af aK λaL aM a aN aO f=>AM m AZ f Z Z aN λa f=>Ac f Z λa f=>Au ?_
    refine Ab f Z λa f=>Ab f Z λa f=> ?_
    have⟨aP,aQ,aE⟩:=bind_some aE
    refine Bl T42 f Z Z Z aO aQ λaR aS a aT aU f=> ?_
    subst aU
    refine AM m Pl2 f Z Z aT λa f=> ?_
    have⟨aV,aW,aE⟩:=bind_some aE
    refine A6 0 m aH Z T94 f Z Z Z aW λaX a aY f=>BU 0 m aH Z Pl3 f Z Z aY aW λaZ a a0 f=> ?_
    subst a0
    refine Ah f Z Z Ar λa f=> ?_
    have⟨a1,a2,aE⟩:=bind_some aE
    refine A6 0 m aH Z T94 f Z Z Z a2 λa3 a a4 f=>Aw 0 m aH Z sizeOf3 f Z Z a4 a2 Z Z Z λa5 w m a6=>Aa (Am ?_)
    refine Ab f Z λa f=>Ab f Z λa f=> ?_
    have⟨a7,a8,aE⟩:=bind_some aE
    refine Bl T42 f Z Z Z aO a8 λa9 ba a bb bc f=> ?_
    subst bc
    refine AM m Pl2 f Z Z bb λa f=> ?_
    have⟨bd,be,aE⟩:=bind_some aE
    refine A6 0 m a6 Z T94 f Z Z Z be λbf a bg f=>BU 0 m a6 Z Pl3 f Z Z bg be λbh a bi f=> ?_
    subst bi
    refine Ah f Z Z Ar λa f=> ?_
    have⟨bj,bk,aE⟩:=bind_some aE
    refine A6 0 m a6 Z T94 f Z Z Z bk λbl a bm f=>Aw 0 m a6 Z sizeOf3 f Z Z bm bk Z Z Z λbn w m bo=>Aa (Am ?_)
    refine Ah f Z Z Ar λa f=>Ab f Z λa f=>Aa ?_
    obtain rfl:=sj aE
    exact⟨_,Z,_,_,Z,_,bn,aG,f.k Z,m,bo⟩
   ·refine Ai f Z aI ?_
    refine Ax Z ?_
    obtain rfl:=sj aE
    obtain rfl:=aF _ rfl
    exact⟨_,Z,_,aC,aG,f.k Z,m,aH⟩
  ·rintro a w ⟨av,rfl,aw,ax,bp,f,m,bq⟩
   refine Ae ?_
   refine Ab f Z λa f=> ?_
   have⟨br,bs,hd⟩:=bind_some hd
   refine Av f Z call89 (Ow.lendCall (RI.mono _) 0 bq m Z (λbt bu m bv=>Wk.o1 m bv bs) (λ_ _ _ _ h=>h)) λbw bx bz w bA m bB a f=> ?_
   obtain⟨rfl,rfl⟩:=bB
   refine Ah f Z Z Ci λa f=>Ac f Z λa f=>Aa ?_
   refine Ap ?_
   have m:Mem W bx w H:=Mem.drop (H':=[ax]) m
   obtain rfl:=sj hd
   exact⟨[(.bool (decide (br≤2)))],f.g Z,f.d,_,[],(gt ak (gt bp bA)),m,Z,Z⟩
theorem Wk.Z0 {aa ab:Value}{ac ad:LL}(m:Mem W G w (H))(ae:R2 G aa ac)(af:R2 G ab ad){y:Bool}(hd:D.Z0 ac ad=some y):
  Calls prog 33 #[(.agg #[aa,ab])] w (Res W G H (λ_ Ho v=>Ho=[]∧v=(.bool y))):=by
 refine As (args:=[(.agg #[aa,ab])]) (N:=34) [.tmp 2] func33 Z Z (lb Z) Z λa f=> ?_
 unfold D.Z0 at hd
 refine Ae ?_
 refine By (cs:=[aa,ab]) m f Z Z Z λag w a m f=>Ac f Z λa f=>Aa (Af (Ae ?_))
 refine AT 0 0 (ds:=[aa,ab]) m CS f Z Z Z Z Z λa f=> ?_
 have⟨ah,ai,hd⟩:=bind_some hd
 refine Bf f Z call90 (Wk.g0 m ae af ai) λaj w ak m a f=> ?_
 have ae:=rd2 ak ae
 have af:=rd2 ak af
 refine l_o f (Bj (f.e Z)) λa f=>Aa ?_
 rcases Ad hd with⟨al,hd⟩|⟨al,hd⟩
 ·refine Ak f Z al ?_
  refine Ae ?_
  refine Ac f Z λa f=>Aa ?_
  refine Ap ?_
  have m:Mem W aj w H:=Mem.drop (H':=[ib ag 27 [aa,ab]]) m
  obtain rfl:=sj hd
  exact⟨[(.bool false)],f.g Z,f.d,_,[],ak,m,Z,Z⟩
 ·refine Ai f Z al ?_
  refine Al ?_
  refine Af (Ae ?_)
  refine Ac f Z λa f=>Aa ?_
  have⟨am,an,hd⟩:=bind_some hd
  refine AF (λa w=>∃q_169':Unit,am= .inl q_169'∧∃(ao:GH),GLe aj ao∧Fr a 34 []∧Mem W ao w (H)) ?_ ?_
  ·refine Aj ?_
   refine AD (λap a w=>∃aq:Int,aq=ap∧∃(ar:GH),GLe aj ar∧Fr a 34 [(1,(pb ag)),(3,(iv aq))]∧Mem W ar w (ib ag 27 [aa,ab]::H)) an ⟨_,Z,_,gr,f.k Z,m⟩ ?_
   clear an f m
   rintro ap au av aw a w ⟨aq,rfl,ar,ax,f,m⟩
   have ae:=rd2 ax ae
   have af:=rd2 ax af
   refine Af (Ae ?_)
   refine Ab f Z λa f=>Bu underlying27 Z sizeOf22 f Z λa f=>AJ 0 0 m Bd f Z Z Z Z λa f=>A5 underlying22 f Z Z ae λa f=>Ah f Z Z AH λa f=>Aa ?_
   rcases Ad av with⟨ay,av⟩|⟨ay,av⟩
   ·refine Ak f Z ay ?_
    refine Al ?_
    refine Af (Aj (Ae ?_))
    refine Ac f Z λa f=>Aa (Af (Ae ?_))
    refine Ac f Z λa f=>Aa ?_
    have⟨az,aA,av⟩:=bind_some av
    refine AF (λa w=>∃aB:Int,aB=az∧∃(aC:GH),GLe ar aC∧Fr a 34 [(1,(pb ag)),(3,(iv aq)),(4,(iv aB))]∧Mem W aC w (ib ag 27 [aa,ab]::H)) ?_ ?_
    ·refine Aj ?_
     refine AD (λaD a w=>∃aE:Int,∃aF:Int,(aE,aF)=aD∧∃(aG:GH),GLe ar aG∧Fr a 34 [(1,(pb ag)),(3,(iv aq)),(4,(iv aE)),(5,(iv aF))]∧Mem W aG w (ib ag 27 [aa,ab]::H)) aA ⟨_,_,Z,_,gr,f.k Z,m⟩ ?_
     clear aA f m
     rintro aD aH aI aJ a w ⟨aE,aF,rfl,aG,aK,f,m⟩
     have af:=rd2 aK af
     refine Af (Ae ?_)
     refine Ab f Z λa f=>Bu underlying27 Z sizeOf22 f Z λa f=>AJ 0 1 m Bd f Z Z Z Z λa f=>A5 underlying22 f Z Z af λa f=>Ah f Z Z AH λa f=>Aa ?_
     rcases Ad aI with⟨aL,aI⟩|⟨aL,aI⟩
     ·refine Ak f Z aL ?_
      refine Al ?_
      refine Af (Aj (Ae ?_))
      refine Bu underlying27 Z sizeOf22 f Z λa f=>AJ 0 1 m Bd f Z Z Z Z λa f=>Ab f Z λa f=> ?_
      have⟨aM,aN,aI⟩:=bind_some aI
      refine Bl T22 f Z Z Z af aN λaO aP a aQ aR f=>AM m AZ f Z Z aQ λa f=>Ab f Z λa f=> ?_
      have⟨aS,aT,aI⟩:=bind_some aI
      refine Bf f Z call70 (Wk.i m aR aT) λaU w aV m a f=>Aa ?_
      rcases Ad aI with⟨aW,aI⟩|⟨aW,aI⟩
      ·refine Ak f Z aW ?_
       refine Am ?_
       refine Ab f Z λa f=>Ah f Z Z Ar λa f=>Ac f Z λa f=>Aa (Am ?_)
       refine Ab f Z λa f=>Ah f Z Z Ar λa f=>Ac f Z λa f=>Aa ?_
       obtain rfl:=sj aI
       exact⟨_,Z,_,_,Z,_,(gt aK aV),f.k Z,m⟩
      ·refine Ai f Z aW ?_
       refine Al ?_
       refine Am ?_
       refine Ab f Z λa f=>Ah f Z Z Ar λa f=>Ac f Z λa f=>Aa ?_
       obtain rfl:=sj aI
       exact⟨_,Z,_,_,Z,_,(gt aK aV),f.k Z,m⟩
     ·refine Ai f Z aL ?_
      refine Ax Z ?_
      obtain rfl:=sj aI
      obtain rfl:=aJ _ rfl
      exact⟨_,Z,_,aK,f.k Z,m⟩
    ·rintro a w ⟨aB,rfl,aC,aX,f,m⟩
     refine Ae ?_
     refine Ab f Z λa f=>Ah f Z Z Ce λa f=>Aa ?_
     rcases Ad av with⟨aY,av⟩|⟨aY,av⟩
     ·refine Ak f Z aY ?_
      refine Ae ?_
      refine Ac f Z λa f=>Aa ?_
      refine Ap ?_
      have m:Mem W aC w H:=Mem.drop (H':=[ib ag 27 [aa,ab]]) m
      obtain rfl:=sj av
      obtain rfl:=aw _ rfl
      obtain rfl:=sj hd
      exact⟨[(.bool false)],f.g Z,f.d,_,[],(gt ak (gt ax aX)),m,Z,Z⟩
     ·refine Ai f Z aY ?_
      refine Al ?_
      refine Am ?_
      refine Ab f Z λa f=>Ah f Z Z Ar λa f=>Ac f Z λa f=>Aa ?_
      obtain rfl:=sj av
      exact⟨_,Z,_,Z,_,(gt ax aX),f.k Z,m⟩
   ·refine Ai f Z ay ?_
    refine Ax Z ?_
    have m:Mem W ar w H:=Mem.drop (H':=[ib ag 27 [aa,ab]]) m
    obtain rfl:=sj av
    obtain rfl:=aw _ rfl
    exact⟨_,Z,_,ax,f.weak trivial,m⟩
  ·rintro a w ⟨_,rfl,ao,aZ,f,m⟩
   refine Ae ?_
   refine Ac f Z λa f=>Aa ?_
   refine Ap ?_
   obtain rfl:=sj hd
   exact⟨[(.bool true)],f.g Z,f.d,_,[],(gt ak aZ),m,Z,Z⟩
set_option maxHeartbeats 1000000 in
theorem Wk.A1 {v0:Value}{x0:LI}(hW:B5 W)(m:Mem W G w (H))(h0:RSl (RI .u8) G v0 x0){y:Bool}(hd:D.A1 x0=some y):
  Calls prog 6 #[v0] w (Res W G H (λ_ Ho v=>Ho=[]∧v=(.bool y))):=by
 refine As (args:=[v0]) (N:=62) [.tmp 2] func6 Z Z (lb Z) Z λa f=> ?_
 unfold D.A1 at hd
 refine Ae ?_
 refine Ac f Z λa f=>Aa (Af (Ae ?_))
 refine Ab f Z λa f=> ?_
 have⟨aa,ab,hd⟩:=bind_some hd
 refine Bf f Z call26 (Wk.O1 m h0 ab) λac w ad m a f=> ?_
 have h0:=rd1 ad h0
 refine Aa ?_
 rcases Ad hd with⟨ae,hd⟩|⟨ae,hd⟩
 ·refine Ak f Z ae ?_
  refine Ae ?_
  refine Ac f Z λa f=>Aa ?_
  refine Ap ?_
  obtain rfl:=sj hd
  exact⟨[(.bool true)],f.g Z,f.d,_,[],ad,m,Z,Z⟩
 ·refine Ai f Z ae ?_
  refine Al ?_
  refine Ae ?_
  refine Ab f Z λa f=> ?_
  have⟨af,ag,hd⟩:=bind_some hd
  refine Av f Z call27 (Wk.M0 m h0 ag) λah ai aj w ak m al a f=> ?_
  obtain⟨am,rfl,rfl,an⟩:=al
  refine Bm (cs:=[sn]) zeroValue30 m f Z Z λao w a m f=>AE 0 0 (ds:=[am]) m sizeOf30 f Z Z Z (AC an.one1 AN) Z (lb Z) Z λw m=>Au ?_
  refine AT 0 0 (ds:=[am]) m A8 f Z Z Z Z Z λa f=> ?_
  have⟨ap,aq,hd⟩:=bind_some hd
  refine Av f Z call11 (Wk.d0 hW m an aq) λar au av w aw m ax a f=> ?_
  obtain⟨ay,az,aA,aB,rfl,rfl,aC,aD⟩:=ax
  have an:=rd2 aw an
  refine Ab f Z λa f=>l_o f (A7 (f.e Z) Z) λa f=>l_o f (A7 (f.e Z) Z) λa f=>Bm (cs:=[sn,sn]) zeroValue27 m f Z Z λaE w a m f=>AE 0 0 (ds:=[ay,aA]) m sizeOf27 f Z Z Z (AC (Ow2.one1 1 m aC Z) (AC (Ow2.one1 2 m aD Z) AN)) Z (lb Z) Z λw m=>Ac f Z λa f=>Aa (Af (Ae ?_))
  refine Ab f Z λa f=>AT 3 0 (ds:=[am]) m A8 f Z Z Z Z Z λa f=> ?_
  have⟨aF,aG,hd⟩:=bind_some hd
  refine Bf f Z call28 (Wk.T m an aG) λaH w aI m a f=> ?_
  have an:=rd2 aI an
  have aC:=od2 aI aC
  have aD:=od2 aI aD
  refine l_o f (r_bool_neq (f.e Z) (f.e Z) underlying4) λa f=>Aa ?_
  rcases Ad hd with⟨aJ,hd⟩|⟨aJ,hd⟩
  ·refine Ak f Z aJ ?_
   refine Ae ?_
   refine Ac f Z λa f=>Aa ?_
   refine Ap ?_
   have m:Mem W aH w H:=Mem.drop (H':=[ib aE 27 [ay,aA],az,aB,ib ao 30 [am]]) m
   obtain rfl:=sj hd
   exact⟨[(.bool false)],f.g Z,f.d,_,[],(gt ad (gt ak (gt aw aI))),m,Z,Z⟩
  ·refine Ai f Z aJ ?_
   refine Al ?_
   refine Af (Ae ?_)
   refine Ab f Z λa f=>l_o f (Bj (f.e Z)) λa f=>Aa ?_
   rcases Ad hd with⟨aK,hd⟩|⟨aK,hd⟩
   ·refine Ak f Z aK ?_
    refine Ae ?_
    refine Bu underlying27 Z sizeOf22 f Z λa f=>AJ 0 0 m Bd f Z Z Z Z λa f=>l_own2_len 1 m aC Z underlying22 f Z Z λa f=>Ah f Z Z Bq λa f=>Ac f Z λa f=>Aa ?_
    refine Ap ?_
    have m:Mem W aH w H:=Mem.drop (H':=[ib aE 27 [ay,aA],az,aB,ib ao 30 [am]]) m
    obtain rfl:=sj hd
    exact⟨[(.bool ((ap.1.length:Int)==0))],f.g Z,f.d,_,[],(gt ad (gt ak (gt aw aI))),m,Z,Z⟩
   ·refine Ai f Z aK ?_
    refine Al ?_
    refine Ae ?_
    refine AT 3 0 (ds:=[am]) m A8 f Z Z Z Z Z λa f=>AT 0 0 (ds:=[ay,aA]) m CS f Z Z Z Z Z λa f=> ?_
    have⟨aL,aM,hd⟩:=bind_some hd
    refine Av f Z call20 (Ow2.lendCall (RI.mono _) 1 aC m Z (λaN aO m aP=>(Ow2.lendCall (RI.mono _) 1 (od2 aO aD) m Z (λaQ aR m aS=>Wk.k1 hW m (rd2 aR (rd2 aO an)) (rd2 aR aP) aS aM) (λ_ G' _ _ ⟨a0,a1,a2,a3,e1,e2,o0,o1⟩=>⟨a0,a1,a2,a3,e1,e2,Ow2.free (RI.free _) G' o0,Ow2.free (RI.free _) G' o1⟩))) (λ_ G' _ _ ⟨a0,a1,a2,a3,e1,e2,o0,o1⟩=>⟨a0,a1,a2,a3,e1,e2,Ow2.free (RI.free _) G' o0,Ow2.free (RI.free _) G' o1⟩)) λaT aU aV w aW m aX a f=> ?_
    obtain⟨aY,aZ,a4,a5,rfl,rfl,a6,a7⟩:=aX
    have an:=rd2 aW an
    have aC:=od2 aW aC
    have aD:=od2 aW aD
    refine Ab f Z λa f=>l_o f (A7 (f.e Z) Z) λa f=>l_o f (A7 (f.e Z) Z) λa f=>Bm (cs:=[sn,sn]) zeroValue27 m f Z Z λa8 w a m f=>AE 0 0 (ds:=[aY,a4]) m sizeOf27 f Z Z Z (AC (Ow2.one1 1 m a6 Z) (AC (Ow2.one1 2 m a7 Z) AN)) Z (lb Z) Z λw m=>Ac f Z λa f=>Aa (Af ?_)
    refine A3 30 Ay (by kernel_rfl) m ?_
    refine BH (i:=0) (ds:=[am]) 30 6 A8 Z Z Z Z (by kernel_rfl) Z f Z Z Z λa f=>BH (i:=1) (ds:=[ay,aA]) 30 3 CS Z Z Z Z (by kernel_rfl) Z f Z Z Z λa f=> ?_
    have⟨a9,ba,hd⟩:=bind_some hd
    refine BX (i:=2) 30 Z (by kernel_rfl) Z f Z Z Z call29 (λ_ _ w bb m=>(Ow2.lendCallR (RI.mono _) 4 (od2 bb aC) m Z (λbc bd m be=>(Ow2.lendCallR (RI.mono _) 4 (od2 bd (od2 bb aD)) m Z (λbf bg m bh=>Wk.f1 m (rd2 bg (rd2 bd (rd2 bb an))) (rd2 bg be) bh ba) (λ_ _ _ _ h=>h))) (λ_ _ _ _ h=>h))) λa f=>Ag 3 30 Z f Z λa f=>BZ (fuel':=24) (listed':= #[true,true,true,true,true,true,false,false,false,false,false,false,false,false,false,false,false,false,false,false,false,false,false,false,false,false,false,false,false,false]) (λa=>Fr a 62 [(0,v0),(3,(pb ao)),(4,(pb aE)),(5,(.bool ap.2.2)),(6,(pb a8)),(7,(.bool aL.2.2)),(33,(.agg #[am])),(34,(.agg #[ay,aA])),(35,(.bool a9)),(36,(.bool a9)),(38,(.bool (a9&&aL.2.2)))]) ?_ ?_
    ·intro a f
     refine Ag 6 30 Z f Z λa f=>BZ (fuel':=15) (listed':= #[true,true,true,true,true,true,true,true,true,true,true,true,true,true,true,false,false,false,false,false,false,false,false,false,false,false,false,false,false,false]) (λa=>Fr a 62 [(0,v0),(3,(pb ao)),(4,(pb aE)),(5,(.bool ap.2.2)),(6,(pb a8)),(7,(.bool aL.2.2)),(33,(.agg #[am])),(34,(.agg #[ay,aA])),(35,(.bool a9)),(36,(.bool a9)),(38,(.bool (a9&&aL.2.2))),(39,(.bool (a9&&aL.2.2))),(47,(.bool ((a9&&aL.2.2)&&((aL.1.length:Int)==(ap.1.length:Int)))))]) ?_ ?_
     ·intro a f
      refine Ag 15 30 Z f Z λa f=> ?_
      rcases Ad hd with⟨bi,hd⟩|⟨bi,hd⟩
      ·refine B9 (hw:=wo f bi) 16 30 underlying27 Z sizeOf22 Z f Z λa f=> ?_
       refine BQ (hw:=wo f bi) 17 30 3 Bd Z Z Z f Z λa f=>BH (i:=18) (ds:=[am]) 30 6 A8 Z Z Z Z (by kernel_rfl) Z f (Ba f Z Z Z bi) Z Z λa f=>Bi 19 Z λbj w bk m bl bl=> ?_
       have an:=rd2 bk an
       have aC:=od2 bk aC
       have aD:=od2 bk aD
       refine AI f bi ?_
       have⟨bm,bn,hd⟩:=bind_some hd
       refine Av f Z call31 (Wk.v0 m an bn) λbo bp bq w br m bs a f=> ?_
       obtain⟨bt,bu,rfl,rfl,bv⟩:=bs
       have aC:=od2 br aC
       have aD:=od2 br aD
       refine Aa ?_
       refine bl bp [bu] _ _ br m ?_
       refine Bi 20 Z λbw w bx m bz bz=> ?_
       have bv:=Ow.mono (RSl.mono (RI.mono _)) bx bv
       have aC:=od2 bx aC
       have aD:=od2 bx aD
       refine AI f bi ?_
       have⟨bA,bB,hd⟩:=bind_some hd
       refine Av f Z call30 (Ow2.lendCall (RI.mono _) 5 aC m Z (λbC bD m bE=>(Ow.lendCall (RSl.mono (RI.mono _)) 0 (Ow.mono (RSl.mono (RI.mono _)) bD bv) m Z (λbF bG m bH=>Wk.N0 m (rd2 bG bE) bH bB) (λ_ _ _ _ h=>h))) (λ_ _ _ _ h=>h)) λbI bJ bK w bL m bM a f=> ?_
       obtain⟨rfl,rfl⟩:=bM
       have aC:=od2 bL aC
       have aD:=od2 bL aD
       refine Aa ?_
       refine bz bJ [bu] _ _ bL m ?_
       refine q_p 21 30 Z f (λ_=>AU (f.e Z) bi (f.e Z)) λa f=>Ag 22 30 Z f Z λa f=> ?_
       have⟨bN,bO,hd⟩:=bind_some hd
       refine BZ (fuel':=1) (listed':= #[true,true,true,true,true,true,true,true,true,true,true,true,true,true,true,true,true,true,true,true,true,true,true,true,true,true,true,true,true,false]) (λa=>Fr a 62 [(0,v0),(3,(pb ao)),(4,(pb aE)),(5,(.bool ap.2.2)),(6,(pb a8)),(7,(.bool aL.2.2)),(33,(.agg #[am])),(34,(.agg #[ay,aA])),(35,(.bool a9)),(36,(.bool a9)),(38,(.bool (a9&&aL.2.2))),(39,(.bool (a9&&aL.2.2))),(47,(.bool ((a9&&aL.2.2)&&((aL.1.length:Int)==(ap.1.length:Int))))),(48,(.bool ((a9&&aL.2.2)&&((aL.1.length:Int)==(ap.1.length:Int))))),(49,(pb aE)),(50,ay),(51,(.agg #[am])),(52,bt),(53,(.bool bA)),(54,(.bool bA)),(55,(.bool bA)),(61,(.bool bN))]) ?_ ?_
       ·intro a f
        refine q_p 29 30 Z f (λ_=>BA (f.e Z)) λa f=>AK λbP w bQ m=>Aa ?_
        refine Ap ?_
        have m:Mem W bP w H:=Mem.drop (H':=[bu,ib a8 27 [aY,a4],aZ,a5,ib aE 27 [ay,aA],az,aB,ib ao 30 [am]]) m
        obtain rfl:=sj hd
        exact⟨[(.bool bN)],f.g Z,f.d,_,[],(gt ad (gt ak (gt aw (gt aI (gt aW (gt bk (gt br (gt bx (gt bL bQ))))))))),m,Z,Z⟩
       ·intro bR
        rcases Ad bO with⟨bS,bO⟩|⟨bS,bO⟩
        ·refine BH (i:=23) (ds:=[ay,aA]) 30 3 CS Z Z Z Z (by kernel_rfl) Z f (Ba f Z Z Z bS) Z Z λa f=> ?_
         have⟨bT,bU,bO⟩:=bind_some bO
         refine BX (i:=24) 30 Z (by kernel_rfl) Z f (Ba f Z Z Z bS) Z Z call32 (λ_ _ w bV m=>(Ow2.lendCallR (RI.mono _) 4 (od2 bV aC) m Z (λbW bX m bY=>(Ow2.lendCallR (RI.mono _) 4 (od2 bX (od2 bV aD)) m Z (λbZ b0 m b1=>Wk.p1 m (rd2 b0 bY) b1 bU) (λ_ _ _ _ h=>h))) (λ_ _ _ _ h=>h))) λa f=>BH (i:=25) (ds:=[ay,aA]) 30 3 CS Z Z Z Z (by kernel_rfl) Z f (Ba f Z Z Z bS) Z Z λa f=> ?_
         have⟨b2,b3,bO⟩:=bind_some bO
         refine BX (i:=26) 30 Z (by kernel_rfl) Z f (Ba f Z Z Z bS) Z Z call33 (λ_ _ w b4 m=>(Ow2.lendCallR (RI.mono _) 4 (od2 b4 aC) m Z (λb5 b6 m b7=>(Ow2.lendCallR (RI.mono _) 4 (od2 b6 (od2 b4 aD)) m Z (λb8 b9 m ca=>Wk.Z0 m (rd2 b9 b7) ca b3) (λ_ _ _ _ h=>h))) (λ_ _ _ _ h=>h))) λa f=>q_p (hw:=wo f bS) 27 30 Z f (λ_=>r_bool_eql (f.e Z) (f.e Z) underlying4) λa f=>q_p 28 30 Z f (λ_=>AU (f.e Z) bS (f.e Z)) λa f=> ?_
         obtain rfl:=sj bO
         exact bR _ (f.k Z)
        ·refine Ao 23 30 Z f bS λa f=> ?_
         refine Ao 24 30 Z f bS λa f=>Ao 25 30 Z f bS λa f=>Ao 26 30 Z f bS λa f=>Ao 27 30 Z f bS λa f=>q_p 28 30 Z f (λ_=>AV (f.e Z) bS (f.e Z)) λa f=> ?_
         obtain rfl:=sj bO
         exact bR _ (f.k Z)
      ·refine Ao 16 30 Z f bi λa f=> ?_
       refine Ao 17 30 Z f bi λa f=>Ao 18 30 Z f bi λa f=>Ao 19 30 Z f bi λa f=>Ao 20 30 Z f bi λa f=>q_p 21 30 Z f (λ_=>AV (f.e Z) bi (f.e Z)) λa f=>Ag 22 30 Z f Z λa f=>Ao 23 30 Z f Z λa f=>Ao 24 30 Z f Z λa f=>Ao 25 30 Z f Z λa f=>Ao 26 30 Z f Z λa f=>Ao 27 30 Z f Z λa f=>q_p 28 30 Z f (λ_=>AV (f.e Z) Z (f.e Z)) λa f=>q_p 29 30 Z f (λ_=>BA (f.e Z)) λa f=>AK λcb w cc m=>Aa ?_
       refine Ap ?_
       have m:Mem W cb w H:=Mem.drop (H':=[ib a8 27 [aY,a4],aZ,a5,ib aE 27 [ay,aA],az,aB,ib ao 30 [am]]) m
       obtain rfl:=sj hd
       exact⟨[(.bool false)],f.g Z,f.d,_,[],(gt ad (gt ak (gt aw (gt aI (gt aW cc))))),m,Z,Z⟩
     ·intro cd
      rcases Bool.eq_false_or_eq_true (a9&&aL.2.2) with ce|ce
      ·refine B9 (hw:=wo f ce) 7 30 underlying27 Z sizeOf22 Z f Z λa f=> ?_
       refine BQ (hw:=wo f ce) 8 30 0 Bd Z Z Z f Z λa f=>q_own2_len (i:=9) (listed':= #[true,true,true,true,true,true,true,true,true,true,false,false,false,false,false,false,false,false,false,false,false,false,false,false,false,false,false,false,false,false]) 30 1 m a6 Z underlying22 Z (by kernel_rfl) Z f (Ba f Z Z Z ce) Z Z λa f=>B9 (hw:=wo f ce) 10 30 underlying27 Z sizeOf22 Z f Z λa f=>BQ (hw:=wo f ce) 11 30 3 Bd Z Z Z f Z λa f=>q_own2_len (i:=12) (listed':= #[true,true,true,true,true,true,true,true,true,true,true,true,true,false,false,false,false,false,false,false,false,false,false,false,false,false,false,false,false,false]) 30 4 m aC Z underlying22 Z (by kernel_rfl) Z f (Ba f Z Z Z ce) Z Z λa f=>q_p (hw:=wo f ce) 13 30 Z f (λ_=>AA (f.e Z) (f.e Z) Bq) λa f=> ?_
       refine q_p 14 30 Z f (λ_=>AU (f.e Z) ce (f.e Z)) λa f=> ?_
       exact cd _ (f.weak ⟨Z,Z,Z,Z,Z,Z,Z,Z,Z,Z,Z,Z,by rw[ce];rfl,trivial⟩)
      ·refine Ao 7 30 Z f ce λa f=> ?_
       refine Ao 8 30 Z f ce λa f=>Ao 9 30 Z f ce λa f=>Ao 10 30 Z f ce λa f=>Ao 11 30 Z f ce λa f=>Ao 12 30 Z f ce λa f=>Ao 13 30 Z f ce λa f=>q_p 14 30 Z f (λ_=>AV (f.e Z) ce (f.e Z)) λa f=> ?_
       exact cd _ (f.weak ⟨Z,Z,Z,Z,Z,Z,Z,Z,Z,Z,Z,Z,by rw[ce];rfl,trivial⟩)
    ·intro cf
     rcases Bool.eq_false_or_eq_true a9 with cg|cg
     ·refine Ag (hw:=wo f cg) 4 30 Z f Z λa f=> ?_
      refine q_p 5 30 Z f (λ_=>AU (f.e Z) cg (f.e Z)) λa f=> ?_
      exact cf _ (f.weak ⟨Z,Z,Z,Z,Z,Z,Z,Z,Z,Z,by rw[cg];rfl,trivial⟩)
     ·refine Ao 4 30 Z f cg λa f=> ?_
      refine q_p 5 30 Z f (λ_=>AV (f.e Z) cg (f.e Z)) λa f=> ?_
      exact cf _ (f.weak ⟨Z,Z,Z,Z,Z,Z,Z,Z,Z,Z,by rw[cg];rfl,trivial⟩)
end Go.Proofs.YtebbefpdncgoiaaGreatDoor

namespace Go.Sx
theorem EE (n:Int):IntKind.u32.wrap n=n%4294967296:=by simp[IntKind.wrap,IntKind.signed,IntKind.bits]
def VS (s:Int):Prop:=0≤s∧s<4294967296
def has (s:Int)(v:Nat):Bool:=s.toNat.testBit v
theorem VS.nat {s:Int}(h:VS s):∃n:Nat,s=n∧n<4294967296:=⟨s.toNat,by have:=h.1;omega,by have:=h.1;have:=h.2;omega⟩
theorem VS.zero :VS 0:=⟨by omega,by omega⟩
theorem VS.wrap (n:Int):VS (IntKind.u32.wrap n):=by rw[EE];exact⟨by omega,by omega⟩
theorem VS.ofNat {n:Nat}(h:n<4294967296):VS (n:Int):=⟨by omega,by omega⟩
theorem Cp (n v:Nat):has (n:Int) v=n.testBit v:=by simp[has]
theorem BI (v:Nat):has 0 v=false:=by simp[has]
theorem DX (n:Nat)(h:n<4294967296):(BitVec.ofInt 32 (n:Int)).toNat=n:=by
 rw[BitVec.toNat_ofInt]
 omega
theorem ior_nat {a b:Nat}(ha:a<4294967296)(hb:b<4294967296):ior .u32 (a:Int) (b:Int)=((a|||b:Nat):Int):=by
 have hw:a|||b<4294967296:=Nat.or_lt_two_pow (n:=32) ha hb
 show IntKind.u32.wrap (((BitVec.ofInt 32 (a:Int)|||BitVec.ofInt 32 (b:Int)).toNat:Nat):Int)=_
 rw[BitVec.toNat_or,DX a ha,DX b hb,EE];omega
theorem EA {a b:Nat}(ha:a<4294967296)(hb:b<4294967296):iand .u32 (a:Int) (b:Int)=((a&&&b:Nat):Int):=by
 have hw:a&&&b<4294967296:=Nat.and_lt_two_pow (n:=32) _ hb
 show IntKind.u32.wrap (((BitVec.ofInt 32 (a:Int)&&&BitVec.ofInt 32 (b:Int)).toNat:Nat):Int)=_
 rw[BitVec.toNat_and,DX a ha,DX b hb,EE];omega
theorem VS.ior (a b:Int):VS (ior .u32 a b):=VS.wrap _
theorem VS.iand (a b:Int):VS (iand .u32 a b):=VS.wrap _
theorem VS.iandNot (a b:Int):VS (iandNot .u32 a b):=VS.wrap _
theorem VS.ishl (a b:Int):VS (ishl .u32 a b):=VS.wrap _
theorem Cu {a b:Int}(ha:VS a)(hb:VS b)(v:Nat):has (ior .u32 a b) v=(has a v||has b v):=by
 obtain⟨m,rfl,hm⟩:=ha.nat;obtain⟨n,rfl,hn⟩:=hb.nat
 rw[ior_nat hm hn];simp only[Cp,Nat.testBit_or]
theorem B6 {a b:Int}(ha:VS a)(hb:VS b)(v:Nat):has (iand .u32 a b) v=(has a v&&has b v):=by
 obtain⟨m,rfl,hm⟩:=ha.nat;obtain⟨n,rfl,hn⟩:=hb.nat
 rw[EA hm hn];simp only[Cp,Nat.testBit_and]
theorem Bw {a b:Int}(ha:VS a)(hb:VS b)(v:Nat):has (iandNot .u32 a b) v=(has a v&& !has b v):=by
 obtain⟨m,rfl,hm⟩:=ha.nat;obtain⟨n,rfl,hn⟩:=hb.nat
 have e:iandNot .u32 (m:Int) (n:Int)=(((BitVec.ofInt 32 (m:Int)&&& ~~~(BitVec.ofInt 32 (n:Int))).toNat:Nat):Int):=by
  have hw:=(BitVec.ofInt 32 (m:Int)&&& ~~~(BitVec.ofInt 32 (n:Int))).isLt
  show IntKind.u32.wrap (((BitVec.ofInt 32 (m:Int)&&& ~~~(BitVec.ofInt 32 (n:Int))).toNat:Nat):Int)=_
  rw[EE];omega
 rw[e,Cp,Cp,Cp]
 have h1:∀i,(BitVec.ofInt 32 (m:Int)).getLsbD i=m.testBit i:=λi=>by rw[BitVec.getLsbD,DX m hm]
 have h2:∀i,(BitVec.ofInt 32 (n:Int)).getLsbD i=n.testBit i:=λi=>by rw[BitVec.getLsbD,DX n hn]
 rw[←BitVec.getLsbD,BitVec.getLsbD_and,BitVec.getLsbD_not,h1,h2]
 by_cases hv:v<32
 ·simp[hv]
 ·have:m.testBit v=false:=Nat.testBit_lt_two_pow (Nat.lt_of_lt_of_le hm (Nat.pow_le_pow_right (n:=2) (by omega) (show 32≤v by omega)))
  simp[this]
theorem Ey {a:Int}(ha:VS a){v:Nat}(hv:32≤v):has a v=false:=by
 obtain⟨m,rfl,hm⟩:=ha.nat
 rw[Cp]
 exact Nat.testBit_lt_two_pow (Nat.lt_of_lt_of_le hm (Nat.pow_le_pow_right (n:=2) (by omega) hv))
theorem VS.ext {a b:Int}(ha:VS a)(hb:VS b)(h:∀v,v<32→has a v=has b v):a=b:=by
 have:∀v,has a v=has b v:=λv=>by
  by_cases hv:v<32
  ·exact h v hv
  ·rw[Ey ha (by omega),Ey hb (by omega)]
 obtain⟨m,rfl,hm⟩:=ha.nat;obtain⟨n,rfl,hn⟩:=hb.nat
 congr 1
 apply Nat.eq_of_testBit_eq
 intro v
 have:=this v
 rwa [Cp,Cp] at this
theorem VS.eq_zero {a:Int}(ha:VS a):a=0↔∀v,v<32→has a v=false:=
 ⟨λh v _=>by rw[h,BI],λh=>ha.ext VS.zero (λv hv=>by rw[h v hv,BI])⟩
theorem one_eq {v:Nat}(hv:v<32):ishl .u32 1 (v:Int)=((2^v:Nat):Int):=by
 have h:(2:Nat)^v<2^32:=Nat.pow_lt_pow_right (by omega) hv
 have h':(2:Nat)^32=4294967296:=by decide
 rw[h'] at h
 show IntKind.u32.wrap (1*2^(min ((v:Int)).toNat 32))=_
 rw[EE,show min ((v:Int)).toNat 32=v by simp;omega,Int.one_mul]
 have e:((2^v:Nat):Int)=(2:Int)^v:=by simp
 rw[←e]
 generalize 2^v=p at h ⊢
 omega
theorem BY {v:Nat}(hv:v<32)(u:Nat):has (ishl .u32 1 (v:Int)) u=decide (u=v):=by
 rw[one_eq hv,Cp,Nat.testBit_two_pow]
 simp[eq_comm]
theorem shr_eq (s:Int)(v:Nat)(h:VS s)(hv:v<32):BN .u32 s (v:Int)=((s.toNat>>>v:Nat):Int):=by
 obtain⟨m,rfl,hm⟩:=h.nat
 show Int.fdiv (m:Int) (2^(min ((v:Int)).toNat 32))=_
 rw[show min ((v:Int)).toNat 32=v by simp;omega]
 have e:((2^v:Nat):Int)=(2:Int)^v:=by simp
 rw[←e,Int.fdiv_eq_ediv_of_nonneg _ (Int.natCast_nonneg _),Nat.shiftRight_eq_div_pow]
 simp
theorem Fm {s:Int}{v:Nat}(h:VS s)(hv:v<32):(iand .u32 (BN .u32 s (v:Int)) 1==1)=has s v:=by
 rw[shr_eq s v h hv]
 have hs:s.toNat>>>v<4294967296:=by
  obtain⟨m,rfl,hm⟩:=h.nat
  rw[Nat.shiftRight_eq_div_pow]
  exact Nat.lt_of_le_of_lt (Nat.div_le_self _ _) hm
 have:=EA hs (show (1:Nat)<4294967296 by omega)
 rw[show (1:Int)=((1:Nat):Int) from rfl,this,has,Nat.testBit]
 rw[Nat.and_comm]
 have h1:1&&&(s.toNat>>>v)=0∨1&&&(s.toNat>>>v)=1:=by
  rw[Nat.and_comm,Nat.and_one_is_mod];omega
 rcases h1 with e|e<;>rw[e]<;>rfl
def An (s:Int):LI:=((List.range 32).filter (has s)).map Int.ofNat
theorem mem_elems {s:Int}{x:Int}:x∈An s↔∃v:Nat,v<32∧has s v=true∧x=v:=by
 unfold An
 rw[List.mem_map]
 constructor
 ·rintro⟨v,hv,rfl⟩
  rw[List.mem_filter,List.mem_range] at hv
  exact⟨v,hv.1,hv.2,rfl⟩
 ·rintro⟨v,h1,h2,rfl⟩
  exact⟨v,List.mem_filter.2 ⟨List.mem_range.2 h1,h2⟩,rfl⟩
theorem AQ {s:Int}(h:VS s){v:Nat}:(v:Int)∈An s↔has s v=true:=by
 rw[mem_elems]
 constructor
 ·rintro⟨u,_,h2,h3⟩;obtain rfl:v=u:=by omega
  exact h2
 ·intro h2
  refine⟨v,?_,h2,rfl⟩
  by_cases hv:v<32
  ·exact hv
  ·rw[Ey h (by omega)] at h2;cases h2
theorem BF (s:Int):(An s).length≤32:=by
 unfold An
 rw[List.length_map]
 exact Nat.le_trans (List.length_filter_le _ _) (by simp)
def Inc (l:LI):Prop:=l.Pairwise (·<·)
theorem Bz (s:Int):Inc (An s):=by
 unfold An Inc
 rw[List.pairwise_map]
 refine List.Pairwise.filter _ ?_
 refine List.Pairwise.imp ?_ (List.pairwise_lt_range (n:=32))
 intro a b h
 show (a:Int)<(b:Int)
 omega
theorem Inc.ext :∀{l l':LI},Inc l→Inc l'→(∀x,x∈l↔x∈l')→l=l'
 |[],[],_,_,_=>rfl
 |[],y::l',_,_,h=>by have:=(h y).2 (by simp);simp at this
 |x::l,[],_,_,h=>by have:=(h x).1 (by simp);simp at this
 |x::l,y::l',h1,h2,h=>by
  have h1':=List.pairwise_cons.1 h1;have h2':=List.pairwise_cons.1 h2
  have e:x=y:=by
   rcases List.mem_cons.1 ((h x).1 (by simp)) with e|e
   ·exact e
   ·rcases List.mem_cons.1 ((h y).2 (by simp)) with e'|e'
    ·exact e'.symm
    ·have:=h2'.1 x e;have:=h1'.1 y e';omega
  subst e
  have:l=l':=by
   refine Inc.ext h1'.2 h2'.2 (λz=> ?_)
   constructor
   ·intro hz
    rcases List.mem_cons.1 ((h z).1 (List.mem_cons_of_mem _ hz)) with e|e
    ·have:=h1'.1 z hz;omega
    ·exact e
   ·intro hz
    rcases List.mem_cons.1 ((h z).2 (List.mem_cons_of_mem _ hz)) with e|e
    ·have:=h2'.1 z hz;omega
    ·exact e
  rw[this]
theorem least_spec {s:Int}(h:VS s)(h0:s≠0):∃k:Nat,k<32∧has s k=true∧(∀v,v<k→has s v=false)∧
  iand .u32 s (IntKind.u32.wrap (0-s))=((2^k:Nat):Int)∧(∀v,has (iand .u32 s (IntKind.u32.wrap (s-1))) v=(has s v&& !decide (v=k))):=by
 obtain⟨m,rfl,hm⟩:=h.nat
 have hm0:m≠0:=by omega
 obtain⟨q,hq,hk⟩:=Lib.ctzFrom_spec 32 m (by omega) hm
 have hc:Lib.ctz 32 m=Lib.ctzFrom 32 m:=by unfold Lib.ctz;rw[if_neg hm0]
 obtain⟨hl,_⟩:=Lib.lowest_bit 32 m hm0 hm
 rw[hc] at hl
 generalize Lib.ctzFrom 32 m=k at*
 have hpos:0<2^k:=Nat.pow_pos (by omega)
 have hb:∀v,m.testBit v=(decide (v≥k)&&(2*q+1).testBit (v-k)):=λv=>by rw[hq,Nat.mul_comm,Nat.testBit_mul_two_pow,Bool.and_comm]
 refine⟨k,hk,?_,λv hv=> ?_,?_,λv=> ?_⟩
 ·rw[Cp,hb];simp
 ·rw[Cp,hb];simp;intro hc;omega
 ·have e:IntKind.u32.wrap (0-(m:Int))=((4294967296-m:Nat):Int):=by rw[EE];omega
  rw[e,EA hm (by omega)]
  rw[←hl]
 ·have e:IntKind.u32.wrap ((m:Int)-1)=((m-1:Nat):Int):=by rw[EE];omega
  rw[e,EA hm (by omega),Cp,Cp,Nat.testBit_and]
  have hm1:m-1=2^k*(2*q)+(2^k-1):=by rw[hq,Nat.mul_add];omega
  have hb1:(m-1).testBit v=if v<k then true else(2*q).testBit (v-k):=by
   rw[hm1,Nat.testBit_two_pow_mul_add _ (by omega)]
   split
   ·rename_i hv;rw[Nat.testBit_two_pow_sub_one];simp[hv]
   ·rfl
  rw[hb1,hb]
  by_cases hv:v<k
  ·simp[hv];intro hc;omega
  ·rw[if_neg hv]
   by_cases hvk:v=k
   ·subst hvk;simp
   ·obtain⟨t,ht⟩:∃t,v-k=t+1:=⟨v-k-1,by omega⟩
    rw[ht,Nat.testBit_succ,Nat.testBit_succ]
    have e1:(2*q+1)/2=q:=by omega
    have e2:2*q/2=q:=by omega
    rw[e1,e2]
    simp[hvk]
theorem elems_least {s t:Int}{k:Nat}(hk:k<32)(h1:has s k=true)(h2:∀v,v<k→has s v=false)(h3:∀v,has t v=(has s v&& !decide (v=k))):
  An s=(k:Int)::An t:=by
 refine Inc.ext (Bz s) ?_ (λx=> ?_)
 ·refine List.pairwise_cons.2 ⟨λx hx=> ?_,Bz t⟩
  obtain⟨v,hv,h4,rfl⟩:=mem_elems.1 hx
  rw[h3] at h4
  simp at h4
  by_cases hc:v<k
  ·rw[h2 v hc] at h4;simp at h4
  ·omega
 ·rw[List.mem_cons,mem_elems,mem_elems]
  constructor
  ·rintro⟨v,hv,h4,rfl⟩
   by_cases e:v=k
   ·left;omega
   ·right;exact⟨v,hv,by rw[h3,h4];simp[e],rfl⟩
  ·rintro(rfl|⟨v,hv,h4,rfl⟩)
   ·exact⟨k,hk,h1,rfl⟩
   ·rw[h3] at h4;simp at h4
    exact⟨v,hv,h4.1,rfl⟩
theorem Es :An 0=[]:=by
 unfold An
 rw[List.filter_eq_nil_iff.2 (λv _=>by simp[BI])];rfl
theorem tz_table :∀k:Nat,k<32→idx tab32 (BN .u32 (IntKind.u32.wrap (((2^k:Nat):Int)*125613361)) 27)=some (k:Int):=by decide+kernel
def Out (l:LI)(a0 b0 a b:Int):Prop:=∀i j,a0≤i→i<j→j<b0→¬(a≤i∧j<b)→at' l i≤at' l j
theorem Out.keep {a0 a b b0:Int}{l l':LI}(h:Rg a b l l')(h0:0≤a0)(ha:a0≤a)(hb:b≤b0)(c:Out l a0 b0 a b):Out l' a0 b0 a b:=by
 intro i j h1 h2 h3 h4
 by_cases hi:a≤i∧i<b
 ·rw[h.out j (by omega) (by omega)]
  exact h.all (λx=>x≤at' l j) (λk k1 k2=>c k j (by omega) (by omega) h3 (by omega)) i hi.1 hi.2
 ·rw[h.out i (by omega) (by omega)]
  by_cases hj:a≤j∧j<b
  ·exact h.all (λx=>at' l i≤x) (λk k1 k2=>c i k (by omega) (by omega) (by omega) (by omega)) j hj.1 hj.2
  ·rw[h.out j (by omega) (by omega)];exact c i j h1 h2 h3 h4
theorem EM :∀(n:Nat) (l0:LI) (a0 b0 lim:Int),0≤a0→a0≤b0→b0≤l0.length→l0.length≤1000000→b0-a0≤16→b0-a0≤12+lim→0≤lim→lim≤64→
  (0<a0→∀k,a0≤k→k<b0→at' l0 (a0-1)≤at' l0 k)→b0-a0<n→∃l',D.j2 n l0 a0 b0 lim=some l'∧Rg a0 b0 l0 l'∧Srt l' a0 b0:=by
 intro n
 induction n with
 |zero=>intro l0 a0 b0 lim h1 h2 h3 h4 h5 h6 h7 h8 h9 h10;omega
 |succ n ih=>
  intro l0 a0 b0 lim h1 h2 h3 h4 h5 h6 h7 h8 h9 h10
  unfold D.j2
  refine AP (λs=>Rg a0 b0 l0 s.1∧Out s.1 a0 b0 s.2.1 s.2.2.1∧a0≤s.2.1∧s.2.1≤s.2.2.1∧s.2.2.1≤b0∧s.2.2.1-s.2.1≤12+s.2.2.2.1∧0≤s.2.2.2.1∧s.2.2.2.1≤64∧(0<s.2.1→∀k,s.2.1≤k→k<s.2.2.1→at' s.1 (s.2.1-1)≤at' s.1 k))
   (λs=>(s.2.2.1-s.2.1).toNat) (λr=>Rg a0 b0 l0 r∧Srt r a0 b0) ?_ ?_ ?_
  ·rintro⟨l,a,b,lm,bal,par⟩ ⟨hR,hO,g1,g2,g3,g4,g5,g6,g7⟩
   dsimp only at hR hO g1 g2 g3 g4 g5 g6 g7 ⊢
   have hll:=hR.len
   have fin:∀l',Rg a b l l'→Srt l' a b→Rg a0 b0 l0 l'∧Srt l' a0 b0:=λl' hr hs=>
    ⟨hR.trans (hr.widen g1 g3 h1),λi j k1 k2 k3=>by
     by_cases hc:a≤i∧j<b
     ·exact hs i j hc.1 k2 hc.2
     ·exact(hO.keep hr h1 g1 g3) i j k1 k2 k3 hc⟩
   rw[w64 (show-9223372036854775808≤b-a by omega) (by omega)]
   by_cases hs:b-a≤12
   ·obtain⟨l',e,r1,r2⟩:=DC l a b (by omega) g2 (by omega) (by omega)
    refine⟨.inr l',?_,fin l' r1 r2⟩
    simp only[hs,decide_true,cond_true,e,bs]
   ·have hl0:(lm==0)=false:=by simp;omega
    simp only[hs,decide_false,cond_false,hl0]
    refine BO (λq:LI×Int=>Rg a b l q.1∧b-a≤13+q.2∧0≤q.2∧q.2≤64) ?_ ?_
    ·cases bal
     ·obtain⟨l1,e,r1⟩:=Dx l a b (by omega) (by omega) (by omega) (by omega) (by omega)
      refine⟨(l1,lm-1),?_,r1,by dsimp only;omega,by dsimp only;omega,by dsimp only;omega⟩
      simp only[Bool.not_false,cond_true,e,bs]
      rw[w64 (by omega) (by omega)]
     ·exact⟨(l,lm),rfl,Rg.refl _ _ _,by dsimp only;omega,by dsimp only;omega,by dsimp only;omega⟩
    rintro⟨l1,lm1⟩ ⟨hr1,k1,k2,k3⟩
    dsimp only at hr1 k1 k2 k3 ⊢
    have hl1:=hr1.len
    obtain⟨y,ey,c1,c2,c3⟩:=DT l1 a b (by omega) (by omega) (by omega) (by omega) (by omega)
    rw[ey,bs]
    refine BO (λq:LI×Int×Int=>Rg a b l q.1∧a≤q.2.1∧q.2.1<b) ?_ ?_
    ·cases (y.2.1==2)
     ·exact⟨_,rfl,by dsimp only;rw[c1];exact hr1,c2,c3⟩
     ·obtain⟨l2,e2,r2⟩:=DL l1 a b (by omega) (by omega) (by omega) (by omega)
      rw[c1]
      simp only[cond_true,e2,bs]
      rw[w64 (show-9223372036854775808≤b-1 by omega) (by omega),w64 (show-9223372036854775808≤y.1-a by omega) (by omega),w64 (show-9223372036854775808≤b-1-(y.1-a) by omega) (by omega)]
      exact⟨_,rfl,hr1.trans r2,by dsimp only;omega,by dsimp only;omega⟩
    rintro⟨l2,p,hint⟩ ⟨hr2,p1,p2⟩
    dsimp only at hr2 p1 p2 ⊢
    have hl2:=hr2.len
    refine BO (λq:LI ⊕ LI=>match q with| .inl q=>q=l2| .inr q=>q=l2∧Srt l2 a b) ?_ ?_
    ·cases ((bal&&par)&&(hint==1))
     ·exact⟨.inl l2,rfl,rfl⟩
     ·obtain⟨y2,e2,d1,d2⟩:=Dg l2 a b (by omega) (by omega) (by omega) (by omega) (by omega)
      simp only[cond_true,e2,bs,d1]
      cases hy:y2.1
      ·exact⟨.inl l2,rfl,rfl⟩
      ·exact⟨.inr l2,rfl,rfl,d2 hy⟩
    rintro(q|q) hq
    case inr=>
     obtain⟨rfl,hq⟩:=hq
     exact⟨.inr q,rfl,fin q hr2 hq⟩
    dsimp only at hq ⊢
    subst hq
    have hO2:=hO.keep hr2 h1 g1 g3
    have g7':0<a→∀k,a≤k→k<b→at' q (a-1)≤at' q k:=λha k m1 m2=>by
     rw[hr2.out (a-1) (by omega) (.inl (by omega))]
     exact hr2.all (λx=>at' l (a-1)≤x) (g7 ha) k m1 m2
    refine BO (λc:Bool=>c=true→0<a∧at' q p≤at' q (a-1)) ?_ ?_
    ·by_cases ha:0<a
     ·have r1:idx q (a-1)=some (at' q (a-1)):=AW (by omega) (by omega)
      have r2:idx q p=some (at' q p):=AW (by omega) (by omega)
      rw[w64 (show-9223372036854775808≤a-1 by omega) (by omega)]
      simp only[ha,decide_true,cond_true,r1,r2,CF,bs]
      exact⟨_,rfl,λh=>⟨by trivial,by simpa using h⟩⟩
     ·simp only[ha,decide_false,cond_false]
      exact⟨_,rfl,λh=>by cases h⟩
    intro c hc
    cases c
    ·
     simp only[cond_false]
     obtain⟨⟨mid,par',l3⟩,e3,P⟩:=Ed q a b p (by omega) (by omega) (by omega) p1 p2
     rw[e3,bs]
     obtain⟨hr3,m1,m2,m3,m4⟩:=P
     dsimp only at hr3 m1 m2 m3 m4 ⊢
     have hl3:=hr3.len
     have hO3:=hO2.keep hr3 h1 g1 g3
     have g7'':0<a→∀k,a≤k→k<b→at' l3 (a-1)≤at' l3 k:=λha k n1 n2=>by
      rw[hr3.out (a-1) (by omega) (.inl (by omega))]
      exact hr3.all (λx=>at' q (a-1)≤x) (g7' ha) k n1 n2
     have hR3:Rg a0 b0 l0 l3:=hR.trans ((hr2.trans hr3).widen g1 g3 h1)
     rw[w64 (show-9223372036854775808≤mid-a by omega) (by omega),w64 (show-9223372036854775808≤b-mid by omega) (by omega),w64 (show-9223372036854775808≤mid+1 by omega) (by omega)]
     by_cases hside:mid-a<b-mid
     ·simp only[hside,decide_true,cond_true]
      obtain⟨l4,e4,r4,s4⟩:=ih l3 a mid lm1 (by omega) m1 (by omega) (by omega) (by omega) (by omega) k2 k3 (λha k n1 n2=>g7'' ha k n1 (by omega)) (by omega)
      rw[e4,bs]
      have hl4:=r4.len
      have em:∀k,mid≤k→at' l4 k=at' l3 k:=λk hk=>r4.out k (by omega) (.inr hk)
      have lf:∀k,a≤k→k<mid→at' l4 k≤at' l4 mid:=λk n1 n2=>by
       rw[em mid (Int.le_refl _)];exact r4.all (λx=>x≤at' l3 mid) m3 k n1 n2
      refine⟨.inl _,rfl,⟨hR3.trans (r4.widen g1 (by omega) h1),?_,by dsimp only;omega,by dsimp only;omega,g3,by dsimp only;omega,k2,k3,?_⟩,by dsimp only;omega⟩
      ·have hO4:=hO3.keep (r4.widen (Int.le_refl a) (by omega) (by omega)) h1 g1 g3
       intro i j n1 n2 n3 n4
       dsimp only at n4 ⊢
       by_cases hin:a≤i∧j<b
       ·by_cases hj:j<mid
        ·exact s4 i j hin.1 n2 hj
        ·have hi:i≤mid:=by omega
         have e1:at' l4 i≤at' l4 mid:=by
          by_cases e:i=mid
          ·rw[e];exact Int.le_refl _
          ·exact lf i hin.1 (by omega)
         have e2:at' l4 mid≤at' l4 j:=by
          by_cases e:j=mid
          ·rw[e];exact Int.le_refl _
          ·rw[em mid (Int.le_refl _),em j (by omega)];exact m4 j (by omega) hin.2
         omega
       ·exact hO4 i j n1 n2 n3 hin
      ·intro _ k n1 n2
       dsimp only at n1 n2 ⊢
       rw[show mid+1-1=mid by omega,em mid (Int.le_refl _),em k (by omega)]
       exact m4 k (by omega) n2
     ·simp only[hside,decide_false,cond_false]
      obtain⟨l4,e4,r4,s4⟩:=ih l3 (mid+1) b lm1 (by omega) (by omega) (by omega) (by omega) (by omega) (by omega) k2 k3 (λ_ k n1 n2=>by rw[show mid+1-1=mid by omega];exact m4 k (by omega) n2) (by omega)
      rw[e4,bs]
      have hl4:=r4.len
      have em:∀k,0≤k→k≤mid→at' l4 k=at' l3 k:=λk h0 hk=>r4.out k h0 (.inl (by omega))
      have rt:∀k,mid<k→k<b→at' l4 mid≤at' l4 k:=λk n1 n2=>by
       rw[em mid (by omega) (Int.le_refl _)];exact r4.all (λx=>at' l3 mid≤x) (λk q1 q2=>m4 k (by omega) q2) k (by omega) n2
      refine⟨.inl _,rfl,⟨hR3.trans (r4.widen (by omega) g3 h1),?_,g1,m1,by dsimp only;omega,by dsimp only;omega,k2,k3,?_⟩,by dsimp only;omega⟩
      ·have hO4:=hO3.keep (r4.widen (by omega) (Int.le_refl b) (by omega)) h1 g1 g3
       intro i j n1 n2 n3 n4
       dsimp only at n4 ⊢
       by_cases hin:a≤i∧j<b
       ·by_cases hi:mid<i
        ·exact s4 i j (by omega) n2 hin.2
        ·have hj:mid≤j:=by omega
         have e1:at' l4 i≤at' l4 mid:=by
          by_cases e:i=mid
          ·rw[e];exact Int.le_refl _
          ·rw[em i (by omega) (by omega),em mid (by omega) (Int.le_refl _)];exact m3 i hin.1 (by omega)
         have e2:at' l4 mid≤at' l4 j:=by
          by_cases e:j=mid
          ·rw[e];exact Int.le_refl _
          ·exact rt j (by omega) hin.2
         omega
       ·exact hO4 i j n1 n2 n3 hin
      ·intro ha k n1 n2
       dsimp only at ha n1 n2 ⊢
       rw[em (a-1) (by omega) (by omega),em k (by omega) (by omega)]
       exact g7'' ha k n1 (by omega)
    ·
     simp only[cond_true]
     obtain⟨hc1,hc2⟩:=hc rfl
     obtain⟨⟨mid,l3⟩,e3,hr3,m1,m2,m3,m4⟩:=Ds q a b p (by omega) (by omega) (by omega) p1 p2
     rw[e3,bs]
     dsimp only at hr3 m1 m2 m3 m4 ⊢
     have hl3:=hr3.len
     have hO3:=hO2.keep hr3 h1 g1 g3
     have lw:∀k,a≤k→k<b→at' q p≤at' l3 k:=λk n1 n2=>
      hr3.all (λx=>at' q p≤x) (λk q1 q2=>Int.le_trans hc2 (g7' hc1 k q1 q2)) k n1 n2
     refine⟨.inl _,rfl,⟨hR.trans ((hr2.trans hr3).widen g1 g3 h1),?_,by dsimp only;omega,m2,g3,by dsimp only;omega,k2,k3,?_⟩,by dsimp only;omega⟩
     ·intro i j n1 n2 n3 n4
      dsimp only at n4 ⊢
      by_cases hin:a≤i∧j<b
      ·have:=m3 i hin.1 (by omega)
       have:=lw j (by omega) hin.2
       omega
      ·exact hO3 i j n1 n2 n3 hin
     ·intro _ k n1 n2
      dsimp only at n1 n2 ⊢
      have:=m3 (mid-1) (by omega) (by omega)
      have:=m4 k n1 n2
      omega
  ·exact⟨Rg.refl _ _ _,λi j n1 n2 n3 n4=>by dsimp only at n4;omega,Int.le_refl _,h2,Int.le_refl _,h6,h7,h8,h9⟩
  ·rintro r hr
   exact⟨r,rfl,hr⟩
theorem sorted_spec (l:LI)(hl:l.length≤16):∃y,D.z2 l=some y∧List.Perm y l∧Srt y 0 y.length:=by
 unfold D.z2 D.G2 D.N2 D.K2 D.K0 D.E
 rw[if_pos (show l.length≤1000000 by omega)]
 simp only[bs]
 rw[wu64 (by omega) (by omega),if_pos (by omega)]
 simp only[bs]
 have hk:∀k:Nat,k≤16→k≤12+Lib.bitLen k∧Lib.bitLen k≤64:=by decide
 obtain⟨k1,k2⟩:=hk l.length hl
 have e:((l.length:Int)).toNat=l.length:=by omega
 have hb:=E6
 obtain⟨y,hy,hr,hs⟩:=EM Cf l 0 l.length (Lib.bitLen l.length:Nat) (by omega) (by omega) (by omega) (by omega) (by omega) (by omega) (by omega) (by omega) (λh=>absurd h (by omega)) (by omega)
 rw[e,hy]
 refine⟨y,rfl,hr.perm,?_⟩
 rw[hr.len];exact hs
end Go.Sx


