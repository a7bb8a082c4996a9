/- Parts. -/
import Derived.Test.YtehkdflfnampdaaGreatDoorCh3
import Derived.Test.YtehkdflfnampdaaGreatDoorProg
import Derived.KernelRfl
import Derived.Lib.TrailingZeros
set_option linter.unusedVariables false
set_option linter.unusedSimpArgs false
set_option maxRecDepth 100000
namespace Go.Proofs.YtehkdflfnampdaaGreatDoor
open Go Go.Sx
open Go.Proofs.Tryz Go.Proofs.YtehkdflfnampdaaGreatDoor.Tryz IntKind
variable {W w : World} {G : GH} {H : List Itm}
theorem Dl :BS prog 3:=isAgg3
theorem B2 :BS prog 38:=isAgg38
theorem DF :BS prog 41:=isAgg41
theorem Cv :BS prog 44:=isAgg44
theorem gPl46 :BS prog 46:=isAgg46
theorem BV :SlT prog 38 3 1 8 (iv 0):=⟨underlying38,Tryz.t3,by kernel_rfl,by kernel_rfl,by kernel_rfl,by kernel_rfl⟩
theorem gT41 :SlT prog 41 44 1 4 (.int .u32 0):=⟨underlying41,Tryz.t44,by kernel_rfl,by kernel_rfl,by kernel_rfl,by kernel_rfl⟩
theorem gAg26 :Agg prog 26 1:=⟨isAgg26,sizeOf26⟩
section
variable {P : Program} {ops : Array Oper} {nn r : A7} {x : List (Nat × A7)} {a : Act} {W : World} {T : Act → World → Prop} {H E : List Itm} {G : GH} {N fuel : Nat} {L : Bf} {listed listed' : Array Bool}
theorem q_callc {i d:Nat}{g:FuncId}{fo:Operand}{cs:List Value}{args:List Operand}{tys:Array TypeId}{vs:List Value}{t:TypeId}{pos:String}{af:Array Edge}{gd:Option (Nat×Bool)}{v:Value}(n:Nat)
  (hi:ops[i]? =some ⟨some d,.call {callee:= .value fo,args:=args.toArray,argTypes:=tys},t,pos,af,gd⟩) (hck:BN ops n fuel listed i=true) (hl:listed.setIfInBounds i true=listed') (f:Fr a N L)
  (hw:Region.wanted ⟨some d,.call {callee:= .value fo,args:=args.toArray,argTypes:=tys},t,pos,af,gd⟩ (yielded ops a.tmps)=true)
  (hN:Nat.blt d N=true) (hfo:AQ L fo=some (.func (.func g) #[] cs.toArray)) (hargs:evalAll L args=some vs) (hcall:∀(ars:Array Value) (w:World),(callFunc g ars).run P w= .ok (.enter g ars) w)
  (hc:∀G' Ho w,GLe G G'→Mem W G' w (Ho++H)→Calls P g (vs++cs).toArray w (Res W G' (Ho++H) λ_ Ho' v'=>Ho'=[]∧v'=v))
  (k:∀a',Fr a' N ((d,v)::L)→AnyB W P ops (Qk nn x r) T H fuel G E listed' a'):AnyB W P ops (Qk nn x r) T H (fuel+1) G E listed a:=by
 refine q_take n hi hck hl (.inl ⟨hw,λG' Ho w hG ⟨G₂,h2,m⟩=> ?_⟩) (k _ (f.put hN v))
 have hargs':(args.toArray.map a.eval)=vs.toArray:=by rw[List.map_toArray,f.evalAll hargs]
 have hr:(execOp a.eval ⟨some d,.call {callee:= .value fo,args:=args.toArray,argTypes:=tys},t,pos,af,gd⟩).run P w= .ok (.enter g (vs++cs).toArray) w:=by
  simp only[execOp,resolve,Deferred.ofValue,f.eval hfo,Sem.run_bind,Sem.run_pure,Result.andThen_ok,invoke,hargs']
  have:=hcall (vs++cs).toArray w
  simpa using this
 unfold Oper.quietAt
 rw[hr]
 refine⟨Z,(hc G₂ Ho w (hG.trans h2) m).mono λe w' ⟨v',he,G₃,Ho',h3,m',h4,h5⟩=> ?_⟩
 subst h4 h5
 exact⟨he,G₃,h2.trans h3,m'⟩
end
abbrev pt (b:Nat):Value:= .pointer (some ⟨b,0,none⟩)
abbrev gA (ba:Nat)(va:Value):Itm:=ib ba 41 [va]
abbrev gF (bf ba:Nat):Itm:=ib bf 46 [.func (.func 22) #[] #[pt ba]]
abbrev gL (bl:Nat)(long:Int):Itm:=ib bl 3 [.int .i64 long]
abbrev fnO (ba bf bl:Nat):Value:= .func (.func 27) #[] #[pt ba,pt bf,pt bl]
abbrev gX (bx:Nat)(va vf:Value)(long:Int)(vp:Value)(used:Int)(ba bf bl:Nat):Itm:=ib bx 52 [va,vf,.int .i64 long,vp,.int .u32 used,fnO ba bf bl]
set_option maxHeartbeats 1000000 in
theorem Wk.z0 {vp va:Value}{path F:LI}{v:Int}{ba j:Nat}(m:Mem W G w H)(hP:R1 G vp path)(hF:RSl (RI .u32) G va F)(hA:H[j]? =some (gA ba va)){y:Bool}(hd:D.z0 F path v=some y):
  Calls prog 22 #[vp,(iv v),pt ba] w (Res W G H (λ_ Ho z=>Ho=[]∧z= .bool y)):=by
 refine Au (args:=[vp,(iv v),pt ba]) (N:=30) [.tmp 5] func22 Z Z (lb Z) Z λa f=> ?_
 unfold D.z0 at hd
 have⟨pre,hpre,hd⟩:=bind_some hd
 refine Af ?_
 refine Ac f Z λa f=>Aa (Ag (Af ?_))
 refine Ab f Z λa f=>Ab f Z λa f=>A8 underlying38 f Z Z hP λa f=>Ai f Z Z AS λa f=>Ef BV f Z Z hP (.inl ⟨Z,Z⟩) (.inr ⟨_,_,Z,Z⟩) hpre λnv a hN f=>A8 underlying38 f Z Z hN λa f=>Ab f Z λa f=>Aa ?_
 refine AM (λa w=>y=true∧∃(G':GH),GLe G G'∧Fr a 30 []∧Mem W G' w H) ?_ ?_
 ·refine Ak ?_
  refine AL (fun(i:Int) a w=>∃(G':GH),GLe G G'∧Fr a 30 [(1,(iv v)),(2,pt ba),(12,nv),(13,(iv (pre.length:Int))),(14,(iv i))]∧Mem W G' w H) hd ⟨_,gr,f.k Z,m⟩ ?_
  clear hd f m
  rintro i o hs hqq a w ⟨G1,hl1,f,m⟩
  have hN:=rd1 hl1 hN
  have hF:=rd1 hl1 hF
  refine Af ?_
  refine Ai f Z Z AR λa f=>Aa (Ag ?_)
  rcases Ae hs with⟨hc,hs⟩|⟨hc,hs⟩
  ·refine Al f Z hc ?_
   refine Ap ?_
   have⟨u,hu,hs⟩:=bind_some hs
   have⟨b,hb,hs⟩:=bind_some hs
   refine Ag (Ak (Af ?_))
   refine Ab f Z λa f=>Bu BV f Z Z Z hN hu λp c a g h f=> ?_
   subst h
   refine AT m Dl f Z Z g λa f=>Ac f Z λa f=>Ac f Z λa f=>Aa (Ag ?_)
   refine AM (λa w=>∃(G':GH),GLe G G'∧Fr a 30 [(1,(iv v)),(2,pt ba),(12,nv),(13,(iv (pre.length:Int))),(14,(iv i)),(28,(.bool b))]∧Mem W G' w H) ?_ ?_
   ·refine Ao ?_
    refine Ab f Z λa f=>Ai f Z Z Ce λa f=>Ab f Z λa f=> ?_
    rcases Ae hb with⟨hc1,hb⟩|⟨hc1,hb⟩
    ·have⟨r,hr,hb⟩:=bind_some hb
     refine AC f hc1 ?_
     refine AA j 0 m DF f Z Z hA Z λa f=>AC f hc1 ?_
     refine Ab f Z λa f=>AC f hc1 ?_
     refine Bu gT41 f Z Z Z hF hr λp c a g h f=> ?_
     subst h
     refine AC f hc1 ?_
     refine AT m Cv f Z Z g λa f=>AC f hc1 ?_
     refine Ab f Z λa f=>AC f hc1 ?_
     refine Bc f Z call23 (Wk.m m hb) λG2 w hl2 m a f=>l_o f (AK (f.e Z) hc1 (f.e Z)) λa f=>Aa ?_
     exact⟨G2,gt hl1 hl2,f.k Z,m⟩
    ·obtain rfl:=sj hb
     refine AE f hc1 λa f=>AE f hc1 λa f=>AE f hc1 λa f=>AE f hc1 λa f=>AE f hc1 λa f=>AE f hc1 λa f=>l_o f (AP (f.e Z) hc1 (f.e Z)) λa f=>Aa ?_
     exact⟨G1,hl1,f.k Z,m⟩
   ·clear f m
    rintro a w ⟨G2,hl2,f,m⟩
    rcases Ae hs with⟨hc1,hs⟩|⟨hc1,hs⟩
    ·subst hc1
     refine Al f Z Z ?_
     obtain rfl:=sj hs
     obtain rfl:=hqq _ rfl
     refine Af ?_
     refine Ac f Z λa f=>Aa ?_
     refine Aq ?_
     exact⟨[.bool false],f.g Z,f.d,G2,[],hl2,m,Z,Z⟩
    ·subst hc1
     refine Aj f Z Z ?_
     obtain rfl:=sj hs
     refine Ap ?_
     refine Ao ?_
     refine Ai f Z Z Ax λa f=>Ab f Z λa f=>Aa ?_
     exact⟨_,Z,G2,hl2,f.k Z,m⟩
  ·refine Aj f Z hc ?_
   refine AH Z ?_
   obtain rfl:=sj hs
   obtain rfl:=hqq _ rfl
   exact⟨Z,G1,hl1,f.weak trivial,m⟩
 ·clear hd f m
  rintro a w ⟨rfl,G2,hl2,f,m⟩
  refine Af ?_
  refine Ac f Z λa f=>Aa ?_
  refine Aq ?_
  exact⟨[.bool true],f.g Z,f.d,G2,[],hl2,m,Z,Z⟩
set_option maxHeartbeats 1000000 in
theorem Wk.A0 {vp va:Value}{path F:LI}{u long:Int}{ba bf bl jA jF jL:Nat}(m:Mem W G w H)(hP:R1 G vp path)(hF:RSl (RI .u32) G va F)(hA:H[jA]? =some (gA ba va))(hf:H[jF]? =some (gF bf ba))(hL:H[jL]? =some (gL bl long)){y:Bool}(hd:D.A0 F long path u=some y):
  Calls prog 27 #[vp,(iv u),pt ba,pt bf,pt bl] w (Res W G H (λ_ Ho z=>Ho=[]∧z= .bool y)):=by
 refine Au (args:=[vp,(iv u),pt ba,pt bf,pt bl]) (N:=40) [.tmp 7] func27 Z Z (lb Z) Z λa f=> ?_
 unfold D.A0 at hd
 have⟨t,ht,hd⟩:=bind_some hd
 have⟨b,hb,hd⟩:=bind_some hd
 refine Af ?_
 refine Ac f Z λa f=>Aa (Ag ?_)
 refine AM (λa w=>∃(G':GH),GLe G G'∧Fr a 40 [(0,vp),(1,(iv u)),(2,pt ba),(3,pt bf),(4,pt bl),(8,(.bool t))]∧Mem W G' w H) ?_ ?_
 ·refine A2 13 AG (by kernel_rfl) m ?_
  refine Ah 0 13 Z f Z λa f=>q_len (i:=1) 13 underlying38 hP Z (by kernel_rfl) Z f Z Z Z λa f=>q_p 2 13 Z f (λ_=>AF (f.e Z) (f.e Z) Ce) λa f=>Ah 3 13 Z f Z λa f=> ?_
  rcases Ae ht with⟨hc,ht⟩|⟨hc,ht⟩
  ·have⟨r,hr,ht⟩:=bind_some ht
   have⟨p0,hp0,ht⟩:=bind_some ht
   refine q_boxCell (i:=4) 13 jA DF hA Z Z (by kernel_rfl) Z f (Ba f Z Z Z hc) Z Z λa f=>Ah (hw:=wo f hc) 5 13 Z f Z λa f=>BF (hw:=wo f hc) 6 13 gT41 hF hr Z f Z Z λp c a g h f=> ?_
   subst h
   refine BG (hw:=wo f hc) 7 13 Cv g Z f Z λa f=>Ah (hw:=wo f hc) 8 13 Z f Z λa f=>BF (hw:=wo f hc) 9 13 BV hP hp0 Z f Z Z λp c a g h f=> ?_
   subst h
   refine BG (hw:=wo f hc) 10 13 Dl g Z f Z λa f=>AW (i:=11) 13 Z (by kernel_rfl) Z f (Ba f Z Z Z hc) Z Z call23 (λ_ _ w hG m=>Wk.m m ht) λa f=>q_p 12 13 Z f (λ_=>AK (f.e Z) hc (f.e Z)) λa f=>AJ λG1 w hl1 m=>Ac f Z λa f=>Aa ?_
   exact⟨G1,hl1,f.k Z,m⟩
  ·obtain rfl:=sj ht
   refine Am 4 13 Z f hc λa f=>Am 5 13 Z f hc λa f=>Am 6 13 Z f hc λa f=>Am 7 13 Z f hc λa f=>Am 8 13 Z f hc λa f=>Am 9 13 Z f hc λa f=>Am 10 13 Z f hc λa f=>Am 11 13 Z f hc λa f=>q_p 12 13 Z f (λ_=>AP (f.e Z) hc (f.e Z)) λa f=>AJ λG1 w hl1 m=>Ac f Z λa f=>Aa ?_
   exact⟨G1,hl1,f.k Z,m⟩
 ·clear f m
  rintro a w ⟨G1,hl1,f,m⟩
  have hP:=rd1 hl1 hP
  have hF:=rd1 hl1 hF
  refine Af ?_
  refine AA jF 0 m gPl46 f Z Z hf Z λa f=>Ab f Z λa f=>Ab f Z λa f=>l_resv0 (cs:=[pt ba]) f Z Z Z call22 (Wk.z0 m hP hF hA hb) λv2 G2 Ho2 w hl2 m hQ2 a f=> ?_
  obtain⟨rfl,rfl⟩:=hQ2
  have m:Mem W G2 w H:=m
  have hP:=rd1 hl2 hP
  refine Ab f Z λa f=> ?_
  rcases Ae hd with⟨hc,hd⟩|⟨hc,hd⟩
  ·subst hc
   refine AC f Z ?_
   refine Ab f Z λa f=>AC f Z ?_
   refine Ab f Z λa f=>AC f Z ?_
   refine A8 underlying38 f Z Z hP λa f=>AC f Z ?_
   refine Ai f Z Z Ce λa f=>AC f Z ?_
   refine Ab f Z λa f=> ?_
   have hle:=gt hl1 hl2
   cases hc1:decide ((1:Int)<(path.length:Int))
   ·rw[hc1] at f hd
    obtain rfl:=sj hd
    refine AE f Z λa f=>AE f Z λa f=>AE f Z λa f=>AE f Z λa f=>AE f Z λa f=>AC f Z ?_
    refine l_o f (AP (f.e Z) Z (f.e Z)) λa f=>AC f Z ?_
    refine l_o f (Ep (f.e Z) (f.e Z) underlying4) λa f=>l_o f (AK (f.e Z) Z (f.e Z)) λa f=>Ac f Z λa f=>Aa ?_
    refine Aq ?_
    exact⟨[.bool _],f.g Z,f.d,G2,[],hle,m,Z,Z⟩
   ·rw[hc1] at f hd
    obtain rfl:=sj hd
    refine AC f Z ?_
    refine Ab f Z λa f=>AC f Z ?_
    refine A8 underlying38 f Z Z hP λa f=>AC f Z ?_
    refine AA jL 0 m Dl f Z Z hL Z λa f=>AC f Z ?_
    refine Ai f Z Z AS λa f=>AC f Z ?_
    refine Ai f Z Z By λa f=>AC f Z ?_
    refine l_o f (AK (f.e Z) Z (f.e Z)) λa f=>AC f Z ?_
    refine l_o f (Ep (f.e Z) (f.e Z) underlying4) λa f=>l_o f (AK (f.e Z) Z (f.e Z)) λa f=>Ac f Z λa f=>Aa ?_
    refine Aq ?_
    exact⟨[.bool _],f.g Z,f.d,G2,[],hle,m,Z,Z⟩
  ·subst hc
   obtain rfl:=sj hd
   refine AE f Z λa f=>AE f Z λa f=>AE f Z λa f=>AE f Z λa f=>AE f Z λa f=>CP f Z Z Z λa f=>CP f Z Z Z λa f=>CP f Z Z Z λa f=>CP f Z Z Z λa f=>CP f Z Z Z λa f=>AE f Z λa f=>AE f Z λa f=>l_o f (AP (f.e Z) Z (f.e Z)) λa f=>Ac f Z λa f=>Aa ?_
   refine Aq ?_
   exact⟨[.bool _],f.g Z,f.d,G2,[],(gt hl1 hl2),m,Z,Z⟩
def LGrow (W:World)(F far:LI)(long:Int)(n:Nat):Prop:=∀(w:World) (G:GH) (H:List Itm) (bx ba bf bl:Nat) (va vf vp:Value) (itP:Itm) (path:LI) (used:Int) (y:Bool×LI×Int),
 Mem W G w (gX bx va vf long vp used ba bf bl::itP::gL bl long::gF bf ba::gA ba va::H)→RSl (RI .u32) G va F→R1 G vf far→Ow R0 3 G itP vp path→D.L n F far long path used=some y→
 Calls prog 28 #[pt bx] w (Res W G (gL bl long::gF bf ba::gA ba va::H) (λG' Ho z=>∃(vp':Value) (it':Itm),Ho=[gX bx va vf long vp' y.2.2 ba bf bl,it']∧Ow R0 3 G' it' vp' y.2.1∧z= .bool y.1))
set_option maxHeartbeats 4000000 in
theorem Wk.C1 {W:World}(hW:CF W){F far:LI}{long:Int}(n:Nat):LGrow W F far long n:=by
 induction n with
 |zero=>intro w G H bx ba bf bl va vf vp itP path used y m hF hR oP hd;simp[D.L] at hd
 |succ n ih=>
  intro w G H bx ba bf bl va vf vp itP path used y m hF hR oP hd
  refine Au (args:=[pt bx]) (N:=148) [.tmp 2] func28 Z Z (lb Z) Z λa f=> ?_
  unfold D.L at hd
  have⟨last,hlast,hd⟩:=bind_some hd
  have⟨r0,hr0,hd⟩:=bind_some hd
  refine Af ?_
  refine Ac f Z λa f=>Aa (Ag ?_)
  refine A2 12 AG (by kernel_rfl) m ?_
  refine Ah 0 12 Z f Z λa f=>q_p 1 12 Z f (λ_=>Av (f.e Z)) λa f=>Bg 2 12 underlying52 Z sizeOf38 Z f Z λa f=>Bp 3 12 0 B2 Z Z Z f Z λa f=>Ah 4 12 Z f Z λa f=>q_p 5 12 Z f (λ_=>Av (f.e Z)) λa f=>Bg 6 12 underlying52 Z sizeOf38 Z f Z λa f=>Bp 7 12 0 B2 Z Z Z f Z λa f=>CH (i:=8) 12 1 m oP Z underlying38 Z (by kernel_rfl) Z f Z Z Z λa f=>q_p 9 12 Z f (λ_=>AF (f.e Z) (f.e Z) AS) λa f=>AV 10 12 1 m oP BV hlast Z f Z Z λp a ha f=>Bd 11 12 1 oP Dl ha hlast Z f Z λc a h f=> ?_
  subst h
  refine AJ λG1 w hl1 m=> ?_
  have hF:=rd1 hl1 hF
  have hR:=rd1 hl1 hR
  have oP:=od1 hl1 oP
  refine Ac f Z λa f=>Aa (Ag (Ag ?_))
  refine A2 10 AG (by kernel_rfl) m ?_
  refine Ah 0 10 Z f Z λa f=>q_p 1 10 Z f (λ_=>Av (f.e Z)) λa f=>Bg 2 10 underlying52 Z sizeOf38 Z f Z λa f=>Bp 3 10 0 B2 Z Z Z f Z λa f=>CH (i:=4) 10 1 m oP Z underlying38 Z (by kernel_rfl) Z f Z Z Z λa f=>Ah 5 10 Z f Z λa f=>q_p 6 10 Z f (λ_=>Av (f.e Z)) λa f=>Bg 7 10 underlying52 Z sizeOf3 Z f Z λa f=>Bp 8 10 0 Dl Z Z Z f Z λa f=>q_p 9 10 Z f (λ_=>AF (f.e Z) (f.e Z) By) λa f=>AJ λG2 w hl2 m=> ?_
  have hF:=rd1 hl2 hF
  have hR:=rd1 hl2 hR
  have oP:=od1 hl2 oP
  refine Aa ?_
  have hle2:=gt hl1 hl2
  rcases Ae hd with⟨hc,hd⟩|⟨hc,hd⟩
  ·refine Al f Z hc ?_
   have⟨p0,hp0,hd⟩:=bind_some hd
   have⟨b,hb,hd⟩:=bind_some hd
   obtain rfl:=sj hd
   refine Ag ?_
   refine A2 14 AG (by kernel_rfl) m ?_
   refine Ah 0 14 Z f Z λa f=>q_p 1 14 Z f (λ_=>Av (f.e Z)) λa f=>Bg 2 14 underlying52 Z sizeOf41 Z f Z λa f=>Bp 3 14 0 DF Z Z Z f Z λa f=>Ah 4 14 Z f Z λa f=>BF 5 14 gT41 hF hr0 Z f Z Z λp c a g h f=> ?_
   subst h
   refine BG 6 14 Cv g Z f Z λa f=>Ah 7 14 Z f Z λa f=>q_p 8 14 Z f (λ_=>Av (f.e Z)) λa f=>Bg 9 14 underlying52 Z sizeOf38 Z f Z λa f=>Bp 10 14 0 B2 Z Z Z f Z λa f=>AV 11 14 1 m oP BV hp0 Z f Z Z λp a ha f=>Bd 12 14 1 oP Dl ha hp0 Z f Z λc a h f=> ?_
   subst h
   refine AW (i:=13) 14 Z (by kernel_rfl) Z f Z Z Z call23 (λ_ _ w hG m=>Wk.m m hb) λa f=>AJ λG3 w hl3 m=> ?_
   have oP:=od1 hl3 oP
   refine Ac f Z λa f=>Aa ?_
   refine Aq ?_
   exact⟨[.bool b],f.g Z,f.d,G3,[gX bx va vf long vp used ba bf bl,itP],gt hle2 hl3,m,_,_,Z,oP,Z⟩
  ·refine Aj f Z hc ?_
   refine Ap ?_
   have⟨us,hus,hd⟩:=bind_some hd
   refine Ag (Ag ?_)
   refine A2 15 AG (by kernel_rfl) m ?_
   refine Ah 0 15 Z f Z λa f=>q_p 1 15 Z f (λ_=>Av (f.e Z)) λa f=>Bg 2 15 underlying52 Z sizeOf41 Z f Z λa f=>Bp 3 15 0 DF Z Z Z f Z λa f=>Ah 4 15 Z f Z λa f=>BF 5 15 gT41 hF hr0 Z f Z Z λp c a g h f=> ?_
   subst h
   refine BG 6 15 Cv g Z f Z λa f=>Ah 7 15 Z f Z λa f=>q_p 8 15 Z f (λ_=>Av (f.e Z)) λa f=>Bg 9 15 underlying52 Z sizeOf44 Z f Z λa f=>Bp 10 15 0 Cv Z Z Z f Z λa f=>q_p 11 15 Z f (λ_=>AF (f.e Z) (f.e Z) B5) λa f=>Ah 14 15 Z f Z λa f=>AU 12 Z λG3 w hl3 m K K=> ?_
   have hF:=rd1 hl3 hF
   have hR:=rd1 hl3 hR
   have oP:=od1 hl3 oP
   refine AD f Z call48 (Wk.h hW m hus) λv1 G4 Ho4 w hl4 m hQ4 a f=> ?_
   obtain⟨vu,itu,rfl,rfl,ou⟩:=hQ4
   obtain⟨G5,hl5,m,hu⟩:=ou.stamp (RI.mono _) m
   have hl45:=gt hl4 hl5
   have hF:=rd1 hl45 hF
   have hR:=rd1 hl45 hR
   have oP:=od1 hl45 oP
   refine Aa ?_
   refine K G5 [] _ _ hl45 m ?_
   refine q_len (i:=13) 15 underlying38 hu Z (by kernel_rfl) Z f Z Z Z λa f=>AJ λG6 w hl6 m=> ?_
   have hF:=rd1 hl6 hF
   have hR:=rd1 hl6 hR
   have oP:=od1 hl6 oP
   have hu:=rd1 hl6 hu
   refine Aa ?_
   have hle6:GLe G G6:=gt hle2 (gt hl3 (gt hl45 hl6))
   refine AM (λa w=>y.1=false∧∃(G':GH) (vp':Value) (it':Itm),GLe G6 G'∧Fr a 148 []∧Mem W G' w (gX bx va vf long vp' y.2.2 ba bf bl::it'::gL bl long::gF bf ba::gA ba va::H)∧Ow R0 3 G' it' vp' y.2.1) ?_ ?_
   ·refine Ak ?_
    refine AL (fun(s:LI×Int×Int) a w=>∃(G':GH) (vp':Value) (it':Itm),GLe G6 G'∧Fr a 148 [(0,pt bx),(3,(iv last)),(54,vu),(55,(iv (us.length:Int))),(56,(iv s.2.2))]∧Mem W G' w (gX bx va vf long vp' s.2.1 ba bf bl::it'::gL bl long::gF bf ba::gA ba va::H)∧Ow R0 3 G' it' vp' s.1) hd ⟨G6,vp,itP,gr,f.k Z,m,oP⟩ ?_
    clear hd f m oP hlast hc
    rintro⟨path,used,i⟩ o hs hqq a w ⟨G7,vp,itP,hl7,f,m,oP⟩
    dsimp only at f m oP
    have hF:=rd1 hl7 hF
    have hR:=rd1 hl7 hR
    have hu:=rd1 hl7 hu
    unfold D.w1 at hs
    dsimp only at hs
    refine Af ?_
    refine Ai f Z Z AR λa f=>Aa (Ag ?_)
    rcases Ae hs with⟨hc2,hs⟩|⟨hc2,hs⟩
    ·refine Al f Z hc2 ?_
     refine Ap ?_
     have⟨v,hv,hs⟩:=bind_some hs
     have⟨skip,hsk,hs⟩:=bind_some hs
     refine Ag (Ak (Af ?_))
     refine Bu BV f Z Z Z hu hv λp c a g h f=> ?_
     subst h
     refine AT m Dl f Z Z g λa f=>Ac f Z λa f=>Aa (Ag (Ag ?_))
     refine A2 41 AG (by kernel_rfl) m ?_
     unfold D.z1 at hsk
     have⟨fv,hfv,hsk⟩:=bind_some hsk
     refine Ah 0 41 Z f Z λa f=>q_p 1 41 Z f (λ_=>Av (f.e Z)) λa f=>Bg 2 41 underlying52 Z sizeOf38 Z f Z λa f=>Bp 3 41 0 B2 Z Z Z f Z λa f=>Ah 4 41 Z f Z λa f=>BF 5 41 BV hR hfv Z f Z Z λp c a g h f=> ?_
     subst h
     refine BG 6 41 Dl g Z f Z λa f=>q_p 7 41 Z f (λ_=>AF (f.e Z) (f.e Z) AR) λa f=>Ah 8 41 Z f Z λa f=>BU (fuel':=0) (listed':= #[true,true,true,true,true,true,true,true,true,true,true,true,true,true,true,true,true,true,true,true,true,true,true,true,true,true,true,true,true,true,true,true,true,true,true,true,true,true,true,true,true]) (λa=>Fr a 148 [(0,pt bx),(3,(iv last)),(5,(iv v)),(54,vu),(55,(iv (us.length:Int))),(56,(iv i)),(100,(.bool skip))]) ?_ ?_
     ·intro a f
      refine AJ λG8 w hl8 m=> ?_
      have hF:=rd1 hl8 hF
      have hR:=rd1 hl8 hR
      have oP:=od1 hl8 oP
      refine Aa ?_
      have hl8:=gt hl7 hl8
      rcases Ae hs with⟨hc3,hs⟩|⟨hc3,hs⟩
      ·subst hc3
       obtain rfl:=sj hs
       refine Al f Z Z ?_
       refine AH Z ?_
       refine Ao ?_
       refine Ai f Z Z Ax λa f=>Ab f Z λa f=>Aa ?_
       exact⟨_,Z,G8,vp,itP,hl8,f.k Z,m,oP⟩
      ·subst hc3
       refine Aj f Z Z ?_
       refine Ap ?_
       have⟨p1,hp1,hs⟩:=bind_some hs
       have⟨oo,hoo,hs⟩:=bind_some hs
       have⟨r,hr,hs⟩:=bind_some hs
       refine Ag ?_
       refine AM (λa w=>∃(G':GH) (vp':Value) (it':Itm),GLe G8 G'∧Fr a 148 [(0,pt bx),(3,(iv last)),(5,(iv v)),(54,vu),(55,(iv (us.length:Int))),(56,(iv i))]∧Mem W G' w (gX bx va vf long vp' (ior .u32 used oo) ba bf bl::it'::gL bl long::gF bf ba::gA ba va::H)∧Ow R0 3 G' it' vp' p1) ?_ ?_
       ·have m:Mem W G8 w (itP::gX bx va vf long vp used ba bf bl::gL bl long::gF bf ba::gA ba va::H):=m.fr 1
        refine DH [itP,gX bx va vf long vp used ba bf bl] (gL bl long::gF bf ba::gA ba va::H) 19 AG (by kernel_rfl) m ?_
        have hch:=GLe.refl G8
        refine Ah 0 19 Z f Z λa f=>Ah 1 19 Z f Z λa f=>Ah 2 19 Z f Z λa f=>q_p 3 19 Z f (λ_=>Av (f.e Z)) λa f=>Bg 4 19 underlying52 Z sizeOf38 Z f Z λa f=>Ah 6 19 Z f Z λa f=>Ah 9 19 Z f Z λa f=>q_p 10 19 Z f (λ_=>Av (f.e Z)) λa f=>Bg 11 19 underlying52 Z sizeOf44 Z f Z λa f=>Ah 13 19 Z f Z λa f=>q_three (i:=5) (j:=7) (k:=12) (l1:= #[true,true,true,true,true,true,true,false,false,true,true,true,false,true,false,false,false,false,false,false,false,false]) (l2:= #[true,true,true,true,true,false,true,true,false,true,true,true,false,true,false,false,false,false,false,false,false,false]) (l3:= #[true,true,true,true,true,false,true,false,false,true,true,true,true,true,false,false,false,false,false,false,false,false]) Z Z Z (by kernel_rfl) Z Z Z ?_ ?_ ?_
        ·intro Gq w hq m K K
         have oP:=od1 hq oP
         have hch:=gt hch hq
         refine AA 1 3 m B2 f Z Z Z Z λa f=>Aa ?_
         refine K Gq [itP,gX bx va vf long vp used ba bf bl] _ _ gr m ?_
         refine Cs (i:=7) (j:=12) (l1:= #[true,true,true,true,true,true,true,true,false,true,true,true,false,true,false,false,false,false,false,false,false,false]) (l2:= #[true,true,true,true,true,true,true,false,false,true,true,true,true,true,false,false,false,false,false,false,false,false]) Z Z (by kernel_rfl) Z Z ?_ ?_
         ·intro Gq w hq m K K
          have oP:=od1 hq oP
          have hch:=gt hch hq
          refine A4 (R:=R0) (xs:=([v]:LI)) (RI.one _) m BV f Z Z Z (by decide) (All2.cons Z (All2.nil _)) λit7 v7 w a m o7 f=>Aa ?_
          refine K Gq [it7,itP,gX bx va vf long vp used ba bf bl] _ _ gr m ?_
          refine Cs (i:=8) (j:=12) (l1:= #[true,true,true,true,true,true,true,true,true,true,true,true,false,true,false,false,false,false,false,false,false,false]) (l2:= #[true,true,true,true,true,true,true,true,false,true,true,true,true,true,false,false,false,false,false,false,false,false]) Z Z (by kernel_rfl) Z Z ?_ ?_
          ·intro Gq w hq m K K
           have oP:=od1 hq oP
           have o7:=od1 hq o7
           have hch:=gt hch hq
           refine A6 (RI.one _) 1 m oP Z BV Z (by decide) f Z Z Z (Ow.src (j:=0) o7 m Z) hp1 λit8 v8 w a m oP f=>Aa ?_
           refine K Gq [it7,it8,gX bx va vf long vp used ba bf bl] _ _ gr m ?_
           refine AW (i:=14) 19 Z (by kernel_rfl) Z f Z Z Z call26 (λ_ _ w hG m=>Wk.a m hoo) λa f=>AU 12 Z ?_
           intro Gq w hq m K K
           have oP:=od1 hq oP
           have hch:=gt hch hq
           refine AA 2 4 m Cv f Z Z Z Z λa f=>Aa ?_
           refine K Gq [it7,it8,gX bx va vf long vp used ba bf bl] _ _ gr m ?_
           refine q_p 15 19 Z f (λ_=>AF (f.e Z) (f.e Z) Dj) λa f=>q_p 16 19 Z f (λ_=>Av (f.e Z)) λa f=>Bg 17 19 underlying52 Z sizeOf38 Z f Z λa f=>AU 18 Z ?_
           intro Gq w hq m K K
           have oP:=od1 hq oP
           have hch:=gt hch hq
           refine An 2 3 (ds:=[v8]) m sizeOf38 f Z Z (Ow.cells 1 m oP Z) (Ar (Ow.one1 1 m oP Z) As) Z (lb Z) Z λw m=>Aa ?_
           refine K Gq [it7,it8,gX bx va vf long v8 used ba bf bl] _ _ gr m ?_
           refine AJ λGe w hle m=> ?_
           have oP:=od1 hle oP
           have hch:=gt hch hle
           refine l_o f (Av (f.e Z)) λa f=>Bo underlying52 Z sizeOf44 f Z λa f=>An 2 4 (ds:=[(.int .u32 (ior .u32 used oo))]) m sizeOf44 f Z Z Z (Ar Z As) Z (lb Z) Z λw m=>Aa ?_
           have m:Mem W Ge w (it8::gX bx va vf long v8 (ior .u32 used oo) ba bf bl::gL bl long::gF bf ba::gA ba va::H):=Mem.tail m
           exact⟨Ge,v8,it8,hch,f.k Z,m.front 1 Z,oP⟩
          ·intro Gq w hq m K K
           have oP:=od1 hq oP
           have o7:=od1 hq o7
           have hch:=gt hch hq
           refine AA 2 4 m Cv f Z Z Z Z λa f=>Aa ?_
           refine K Gq [it7,itP,gX bx va vf long vp used ba bf bl] _ _ gr m ?_
           refine AU 8 Z ?_
           intro Gq w hq m K K
           have oP:=od1 hq oP
           have o7:=od1 hq o7
           have hch:=gt hch hq
           refine A6 (RI.one _) 1 m oP Z BV Z (by decide) f Z Z Z (Ow.src (j:=0) o7 m Z) hp1 λit8 v8 w a m oP f=>Aa ?_
           refine K Gq [it7,it8,gX bx va vf long vp used ba bf bl] _ _ gr m ?_
           refine AW (i:=14) 19 Z (by kernel_rfl) Z f Z Z Z call26 (λ_ _ w hG m=>Wk.a m hoo) λa f=>q_p 15 19 Z f (λ_=>AF (f.e Z) (f.e Z) Dj) λa f=>q_p 16 19 Z f (λ_=>Av (f.e Z)) λa f=>Bg 17 19 underlying52 Z sizeOf38 Z f Z λa f=>AU 18 Z ?_
           intro Gq w hq m K K
           have oP:=od1 hq oP
           have hch:=gt hch hq
           refine An 2 3 (ds:=[v8]) m sizeOf38 f Z Z (Ow.cells 1 m oP Z) (Ar (Ow.one1 1 m oP Z) As) Z (lb Z) Z λw m=>Aa ?_
           refine K Gq [it7,it8,gX bx va vf long v8 used ba bf bl] _ _ gr m ?_
           refine AJ λGe w hle m=> ?_
           have oP:=od1 hle oP
           have hch:=gt hch hle
           refine l_o f (Av (f.e Z)) λa f=>Bo underlying52 Z sizeOf44 f Z λa f=>An 2 4 (ds:=[(.int .u32 (ior .u32 used oo))]) m sizeOf44 f Z Z Z (Ar Z As) Z (lb Z) Z λw m=>Aa ?_
           have m:Mem W Ge w (it8::gX bx va vf long v8 (ior .u32 used oo) ba bf bl::gL bl long::gF bf ba::gA ba va::H):=Mem.tail m
           exact⟨Ge,v8,it8,hch,f.k Z,m.front 1 Z,oP⟩
         ·intro Gq w hq m K K
          have oP:=od1 hq oP
          have hch:=gt hch hq
          refine AA 1 4 m Cv f Z Z Z Z λa f=>Aa ?_
          refine K Gq [itP,gX bx va vf long vp used ba bf bl] _ _ gr m ?_
          refine AU 7 Z ?_
          intro Gq w hq m K K
          have oP:=od1 hq oP
          have hch:=gt hch hq
          refine A4 (R:=R0) (xs:=([v]:LI)) (RI.one _) m BV f Z Z Z (by decide) (All2.cons Z (All2.nil _)) λit7 v7 w a m o7 f=>Aa ?_
          refine K Gq [it7,itP,gX bx va vf long vp used ba bf bl] _ _ gr m ?_
          refine AU 8 Z ?_
          intro Gq w hq m K K
          have oP:=od1 hq oP
          have o7:=od1 hq o7
          have hch:=gt hch hq
          refine A6 (RI.one _) 1 m oP Z BV Z (by decide) f Z Z Z (Ow.src (j:=0) o7 m Z) hp1 λit8 v8 w a m oP f=>Aa ?_
          refine K Gq [it7,it8,gX bx va vf long vp used ba bf bl] _ _ gr m ?_
          refine AW (i:=14) 19 Z (by kernel_rfl) Z f Z Z Z call26 (λ_ _ w hG m=>Wk.a m hoo) λa f=>q_p 15 19 Z f (λ_=>AF (f.e Z) (f.e Z) Dj) λa f=>q_p 16 19 Z f (λ_=>Av (f.e Z)) λa f=>Bg 17 19 underlying52 Z sizeOf38 Z f Z λa f=>AU 18 Z ?_
          intro Gq w hq m K K
          have oP:=od1 hq oP
          have hch:=gt hch hq
          refine An 2 3 (ds:=[v8]) m sizeOf38 f Z Z (Ow.cells 1 m oP Z) (Ar (Ow.one1 1 m oP Z) As) Z (lb Z) Z λw m=>Aa ?_
          refine K Gq [it7,it8,gX bx va vf long v8 used ba bf bl] _ _ gr m ?_
          refine AJ λGe w hle m=> ?_
          have oP:=od1 hle oP
          have hch:=gt hch hle
          refine l_o f (Av (f.e Z)) λa f=>Bo underlying52 Z sizeOf44 f Z λa f=>An 2 4 (ds:=[(.int .u32 (ior .u32 used oo))]) m sizeOf44 f Z Z Z (Ar Z As) Z (lb Z) Z λw m=>Aa ?_
          have m:Mem W Ge w (it8::gX bx va vf long v8 (ior .u32 used oo) ba bf bl::gL bl long::gF bf ba::gA ba va::H):=Mem.tail m
          exact⟨Ge,v8,it8,hch,f.k Z,m.front 1 Z,oP⟩
        ·intro Gq w hq m K K
         have oP:=od1 hq oP
         have hch:=gt hch hq
         refine A4 (R:=R0) (xs:=([v]:LI)) (RI.one _) m BV f Z Z Z (by decide) (All2.cons Z (All2.nil _)) λit7 v7 w a m o7 f=>Aa ?_
         refine K Gq [it7,itP,gX bx va vf long vp used ba bf bl] _ _ gr m ?_
         refine Cs (i:=5) (j:=12) (l1:= #[true,true,true,true,true,true,true,true,false,true,true,true,false,true,false,false,false,false,false,false,false,false]) (l2:= #[true,true,true,true,true,false,true,true,false,true,true,true,true,true,false,false,false,false,false,false,false,false]) Z Z (by kernel_rfl) Z Z ?_ ?_
         ·intro Gq w hq m K K
          have oP:=od1 hq oP
          have o7:=od1 hq o7
          have hch:=gt hch hq
          refine AA 2 3 m B2 f Z Z Z Z λa f=>Aa ?_
          refine K Gq [it7,itP,gX bx va vf long vp used ba bf bl] _ _ gr m ?_
          refine Cs (i:=8) (j:=12) (l1:= #[true,true,true,true,true,true,true,true,true,true,true,true,false,true,false,false,false,false,false,false,false,false]) (l2:= #[true,true,true,true,true,true,true,true,false,true,true,true,true,true,false,false,false,false,false,false,false,false]) Z Z (by kernel_rfl) Z Z ?_ ?_
          ·intro Gq w hq m K K
           have oP:=od1 hq oP
           have o7:=od1 hq o7
           have hch:=gt hch hq
           refine A6 (RI.one _) 1 m oP Z BV Z (by decide) f Z Z Z (Ow.src (j:=0) o7 m Z) hp1 λit8 v8 w a m oP f=>Aa ?_
           refine K Gq [it7,it8,gX bx va vf long vp used ba bf bl] _ _ gr m ?_
           refine AW (i:=14) 19 Z (by kernel_rfl) Z f Z Z Z call26 (λ_ _ w hG m=>Wk.a m hoo) λa f=>AU 12 Z ?_
           intro Gq w hq m K K
           have oP:=od1 hq oP
           have hch:=gt hch hq
           refine AA 2 4 m Cv f Z Z Z Z λa f=>Aa ?_
           refine K Gq [it7,it8,gX bx va vf long vp used ba bf bl] _ _ gr m ?_
           refine q_p 15 19 Z f (λ_=>AF (f.e Z) (f.e Z) Dj) λa f=>q_p 16 19 Z f (λ_=>Av (f.e Z)) λa f=>Bg 17 19 underlying52 Z sizeOf38 Z f Z λa f=>AU 18 Z ?_
           intro Gq w hq m K K
           have oP:=od1 hq oP
           have hch:=gt hch hq
           refine An 2 3 (ds:=[v8]) m sizeOf38 f Z Z (Ow.cells 1 m oP Z) (Ar (Ow.one1 1 m oP Z) As) Z (lb Z) Z λw m=>Aa ?_
           refine K Gq [it7,it8,gX bx va vf long v8 used ba bf bl] _ _ gr m ?_
           refine AJ λGe w hle m=> ?_
           have oP:=od1 hle oP
           have hch:=gt hch hle
           refine l_o f (Av (f.e Z)) λa f=>Bo underlying52 Z sizeOf44 f Z λa f=>An 2 4 (ds:=[(.int .u32 (ior .u32 used oo))]) m sizeOf44 f Z Z Z (Ar Z As) Z (lb Z) Z λw m=>Aa ?_
           have m:Mem W Ge w (it8::gX bx va vf long v8 (ior .u32 used oo) ba bf bl::gL bl long::gF bf ba::gA ba va::H):=Mem.tail m
           exact⟨Ge,v8,it8,hch,f.k Z,m.front 1 Z,oP⟩
          ·intro Gq w hq m K K
           have oP:=od1 hq oP
           have o7:=od1 hq o7
           have hch:=gt hch hq
           refine AA 2 4 m Cv f Z Z Z Z λa f=>Aa ?_
           refine K Gq [it7,itP,gX bx va vf long vp used ba bf bl] _ _ gr m ?_
           refine AU 8 Z ?_
           intro Gq w hq m K K
           have oP:=od1 hq oP
           have o7:=od1 hq o7
           have hch:=gt hch hq
           refine A6 (RI.one _) 1 m oP Z BV Z (by decide) f Z Z Z (Ow.src (j:=0) o7 m Z) hp1 λit8 v8 w a m oP f=>Aa ?_
           refine K Gq [it7,it8,gX bx va vf long vp used ba bf bl] _ _ gr m ?_
           refine AW (i:=14) 19 Z (by kernel_rfl) Z f Z Z Z call26 (λ_ _ w hG m=>Wk.a m hoo) λa f=>q_p 15 19 Z f (λ_=>AF (f.e Z) (f.e Z) Dj) λa f=>q_p 16 19 Z f (λ_=>Av (f.e Z)) λa f=>Bg 17 19 underlying52 Z sizeOf38 Z f Z λa f=>AU 18 Z ?_
           intro Gq w hq m K K
           have oP:=od1 hq oP
           have hch:=gt hch hq
           refine An 2 3 (ds:=[v8]) m sizeOf38 f Z Z (Ow.cells 1 m oP Z) (Ar (Ow.one1 1 m oP Z) As) Z (lb Z) Z λw m=>Aa ?_
           refine K Gq [it7,it8,gX bx va vf long v8 used ba bf bl] _ _ gr m ?_
           refine AJ λGe w hle m=> ?_
           have oP:=od1 hle oP
           have hch:=gt hch hle
           refine l_o f (Av (f.e Z)) λa f=>Bo underlying52 Z sizeOf44 f Z λa f=>An 2 4 (ds:=[(.int .u32 (ior .u32 used oo))]) m sizeOf44 f Z Z Z (Ar Z As) Z (lb Z) Z λw m=>Aa ?_
           have m:Mem W Ge w (it8::gX bx va vf long v8 (ior .u32 used oo) ba bf bl::gL bl long::gF bf ba::gA ba va::H):=Mem.tail m
           exact⟨Ge,v8,it8,hch,f.k Z,m.front 1 Z,oP⟩
         ·intro Gq w hq m K K
          have oP:=od1 hq oP
          have o7:=od1 hq o7
          have hch:=gt hch hq
          refine AA 2 4 m Cv f Z Z Z Z λa f=>Aa ?_
          refine K Gq [it7,itP,gX bx va vf long vp used ba bf bl] _ _ gr m ?_
          refine AU 5 Z ?_
          intro Gq w hq m K K
          have oP:=od1 hq oP
          have o7:=od1 hq o7
          have hch:=gt hch hq
          refine AA 2 3 m B2 f Z Z Z Z λa f=>Aa ?_
          refine K Gq [it7,itP,gX bx va vf long vp used ba bf bl] _ _ gr m ?_
          refine AU 8 Z ?_
          intro Gq w hq m K K
          have oP:=od1 hq oP
          have o7:=od1 hq o7
          have hch:=gt hch hq
          refine A6 (RI.one _) 1 m oP Z BV Z (by decide) f Z Z Z (Ow.src (j:=0) o7 m Z) hp1 λit8 v8 w a m oP f=>Aa ?_
          refine K Gq [it7,it8,gX bx va vf long vp used ba bf bl] _ _ gr m ?_
          refine AW (i:=14) 19 Z (by kernel_rfl) Z f Z Z Z call26 (λ_ _ w hG m=>Wk.a m hoo) λa f=>q_p 15 19 Z f (λ_=>AF (f.e Z) (f.e Z) Dj) λa f=>q_p 16 19 Z f (λ_=>Av (f.e Z)) λa f=>Bg 17 19 underlying52 Z sizeOf38 Z f Z λa f=>AU 18 Z ?_
          intro Gq w hq m K K
          have oP:=od1 hq oP
          have hch:=gt hch hq
          refine An 2 3 (ds:=[v8]) m sizeOf38 f Z Z (Ow.cells 1 m oP Z) (Ar (Ow.one1 1 m oP Z) As) Z (lb Z) Z λw m=>Aa ?_
          refine K Gq [it7,it8,gX bx va vf long v8 used ba bf bl] _ _ gr m ?_
          refine AJ λGe w hle m=> ?_
          have oP:=od1 hle oP
          have hch:=gt hch hle
          refine l_o f (Av (f.e Z)) λa f=>Bo underlying52 Z sizeOf44 f Z λa f=>An 2 4 (ds:=[(.int .u32 (ior .u32 used oo))]) m sizeOf44 f Z Z Z (Ar Z As) Z (lb Z) Z λw m=>Aa ?_
          have m:Mem W Ge w (it8::gX bx va vf long v8 (ior .u32 used oo) ba bf bl::gL bl long::gF bf ba::gA ba va::H):=Mem.tail m
          exact⟨Ge,v8,it8,hch,f.k Z,m.front 1 Z,oP⟩
        ·intro Gq w hq m K K
         have oP:=od1 hq oP
         have hch:=gt hch hq
         refine AA 1 4 m Cv f Z Z Z Z λa f=>Aa ?_
         refine K Gq [itP,gX bx va vf long vp used ba bf bl] _ _ gr m ?_
         refine Cs (i:=5) (j:=7) (l1:= #[true,true,true,true,true,true,true,false,false,true,true,true,true,true,false,false,false,false,false,false,false,false]) (l2:= #[true,true,true,true,true,false,true,true,false,true,true,true,true,true,false,false,false,false,false,false,false,false]) Z Z (by kernel_rfl) Z Z ?_ ?_
         ·intro Gq w hq m K K
          have oP:=od1 hq oP
          have hch:=gt hch hq
          refine AA 1 3 m B2 f Z Z Z Z λa f=>Aa ?_
          refine K Gq [itP,gX bx va vf long vp used ba bf bl] _ _ gr m ?_
          refine AU 7 Z ?_
          intro Gq w hq m K K
          have oP:=od1 hq oP
          have hch:=gt hch hq
          refine A4 (R:=R0) (xs:=([v]:LI)) (RI.one _) m BV f Z Z Z (by decide) (All2.cons Z (All2.nil _)) λit7 v7 w a m o7 f=>Aa ?_
          refine K Gq [it7,itP,gX bx va vf long vp used ba bf bl] _ _ gr m ?_
          refine AU 8 Z ?_
          intro Gq w hq m K K
          have oP:=od1 hq oP
          have o7:=od1 hq o7
          have hch:=gt hch hq
          refine A6 (RI.one _) 1 m oP Z BV Z (by decide) f Z Z Z (Ow.src (j:=0) o7 m Z) hp1 λit8 v8 w a m oP f=>Aa ?_
          refine K Gq [it7,it8,gX bx va vf long vp used ba bf bl] _ _ gr m ?_
          refine AW (i:=14) 19 Z (by kernel_rfl) Z f Z Z Z call26 (λ_ _ w hG m=>Wk.a m hoo) λa f=>q_p 15 19 Z f (λ_=>AF (f.e Z) (f.e Z) Dj) λa f=>q_p 16 19 Z f (λ_=>Av (f.e Z)) λa f=>Bg 17 19 underlying52 Z sizeOf38 Z f Z λa f=>AU 18 Z ?_
          intro Gq w hq m K K
          have oP:=od1 hq oP
          have hch:=gt hch hq
          refine An 2 3 (ds:=[v8]) m sizeOf38 f Z Z (Ow.cells 1 m oP Z) (Ar (Ow.one1 1 m oP Z) As) Z (lb Z) Z λw m=>Aa ?_
          refine K Gq [it7,it8,gX bx va vf long v8 used ba bf bl] _ _ gr m ?_
          refine AJ λGe w hle m=> ?_
          have oP:=od1 hle oP
          have hch:=gt hch hle
          refine l_o f (Av (f.e Z)) λa f=>Bo underlying52 Z sizeOf44 f Z λa f=>An 2 4 (ds:=[(.int .u32 (ior .u32 used oo))]) m sizeOf44 f Z Z Z (Ar Z As) Z (lb Z) Z λw m=>Aa ?_
          have m:Mem W Ge w (it8::gX bx va vf long v8 (ior .u32 used oo) ba bf bl::gL bl long::gF bf ba::gA ba va::H):=Mem.tail m
          exact⟨Ge,v8,it8,hch,f.k Z,m.front 1 Z,oP⟩
         ·intro Gq w hq m K K
          have oP:=od1 hq oP
          have hch:=gt hch hq
          refine A4 (R:=R0) (xs:=([v]:LI)) (RI.one _) m BV f Z Z Z (by decide) (All2.cons Z (All2.nil _)) λit7 v7 w a m o7 f=>Aa ?_
          refine K Gq [it7,itP,gX bx va vf long vp used ba bf bl] _ _ gr m ?_
          refine AU 5 Z ?_
          intro Gq w hq m K K
          have oP:=od1 hq oP
          have o7:=od1 hq o7
          have hch:=gt hch hq
          refine AA 2 3 m B2 f Z Z Z Z λa f=>Aa ?_
          refine K Gq [it7,itP,gX bx va vf long vp used ba bf bl] _ _ gr m ?_
          refine AU 8 Z ?_
          intro Gq w hq m K K
          have oP:=od1 hq oP
          have o7:=od1 hq o7
          have hch:=gt hch hq
          refine A6 (RI.one _) 1 m oP Z BV Z (by decide) f Z Z Z (Ow.src (j:=0) o7 m Z) hp1 λit8 v8 w a m oP f=>Aa ?_
          refine K Gq [it7,it8,gX bx va vf long vp used ba bf bl] _ _ gr m ?_
          refine AW (i:=14) 19 Z (by kernel_rfl) Z f Z Z Z call26 (λ_ _ w hG m=>Wk.a m hoo) λa f=>q_p 15 19 Z f (λ_=>AF (f.e Z) (f.e Z) Dj) λa f=>q_p 16 19 Z f (λ_=>Av (f.e Z)) λa f=>Bg 17 19 underlying52 Z sizeOf38 Z f Z λa f=>AU 18 Z ?_
          intro Gq w hq m K K
          have oP:=od1 hq oP
          have hch:=gt hch hq
          refine An 2 3 (ds:=[v8]) m sizeOf38 f Z Z (Ow.cells 1 m oP Z) (Ar (Ow.one1 1 m oP Z) As) Z (lb Z) Z λw m=>Aa ?_
          refine K Gq [it7,it8,gX bx va vf long v8 used ba bf bl] _ _ gr m ?_
          refine AJ λGe w hle m=> ?_
          have oP:=od1 hle oP
          have hch:=gt hch hle
          refine l_o f (Av (f.e Z)) λa f=>Bo underlying52 Z sizeOf44 f Z λa f=>An 2 4 (ds:=[(.int .u32 (ior .u32 used oo))]) m sizeOf44 f Z Z Z (Ar Z As) Z (lb Z) Z λw m=>Aa ?_
          have m:Mem W Ge w (it8::gX bx va vf long v8 (ior .u32 used oo) ba bf bl::gL bl long::gF bf ba::gA ba va::H):=Mem.tail m
          exact⟨Ge,v8,it8,hch,f.k Z,m.front 1 Z,oP⟩
       ·clear f m oP
        rintro a w ⟨G9,vp,itP,hl9,f,m,oP⟩
        have hF:=rd1 hl9 hF
        have hR:=rd1 hl9 hR
        refine Ag (Af ?_)
        refine Ab f Z λa f=>AD f Z call28 (ih _ _ _ _ _ _ _ _ _ _ _ _ _ _ m hF hR oP hr) λv1 G10 Ho10 w hl10 m hQ10 a f=> ?_
        clear oP
        obtain⟨vp,itP,rfl,oP,rfl⟩:=hQ10
        have hl10:GLe G6 G10:=gt hl8 (gt hl9 hl10)
        refine Aa ?_
        rcases Ae hs with⟨hc4,hs⟩|⟨hc4,hs⟩
        ·refine Al f Z hc4 ?_
         obtain rfl:=sj hs
         obtain rfl:=hqq _ rfl
         refine Af ?_
         refine Ac f Z λa f=>Aa ?_
         refine Aq ?_
         exact⟨[.bool true],f.g Z,f.d,G10,[gX bx va vf long vp r.2.2 ba bf bl,itP],gt hle6 hl10,m,_,_,Z,oP,Z⟩
        ·refine Aj f Z hc4 ?_
         refine Ap ?_
         have⟨p2,hp2,hs⟩:=bind_some hs
         obtain rfl:=sj hs
         refine AM (λa w=>∃(G':GH) (vp':Value) (it':Itm),GLe G10 G'∧Fr a 148 [(0,pt bx),(3,(iv last)),(54,vu),(55,(iv (us.length:Int))),(56,(iv i))]∧Mem W G' w (gX bx va vf long vp' (iandNot .u32 r.2.2 oo) ba bf bl::it'::gL bl long::gF bf ba::gA ba va::H)∧Ow R0 3 G' it' vp' p2) ?_ ?_
         ·have m:Mem W G10 w (itP::gX bx va vf long vp r.2.2 ba bf bl::gL bl long::gF bf ba::gA ba va::H):=m.fr 1
          refine DH [itP,gX bx va vf long vp r.2.2 ba bf bl] (gL bl long::gF bf ba::gA ba va::H) 23 AG (by kernel_rfl) m ?_
          have hch:=GLe.refl G10
          refine Ah 0 23 Z f Z λa f=>Ah 1 23 Z f Z λa f=>Ah 2 23 Z f Z λa f=>q_p 3 23 Z f (λ_=>Av (f.e Z)) λa f=>Bg 4 23 underlying52 Z sizeOf38 Z f Z λa f=>Ah 6 23 Z f Z λa f=>q_p 7 23 Z f (λ_=>Av (f.e Z)) λa f=>Bg 8 23 underlying52 Z sizeOf38 Z f Z λa f=>Ah 13 23 Z f Z λa f=>q_p 14 23 Z f (λ_=>Av (f.e Z)) λa f=>Bg 15 23 underlying52 Z sizeOf44 Z f Z λa f=>Ah 17 23 Z f Z λa f=>AW (i:=18) 23 Z (by kernel_rfl) Z f Z Z Z call26 (λ_ _ w hG m=>Wk.a m hoo) λa f=>q_three (i:=5) (j:=9) (k:=16) (l1:= #[true,true,true,true,true,true,true,true,true,false,false,false,false,true,true,true,false,true,true,false,false,false,false,false,false,false]) (l2:= #[true,true,true,true,true,false,true,true,true,true,false,false,false,true,true,true,false,true,true,false,false,false,false,false,false,false]) (l3:= #[true,true,true,true,true,false,true,true,true,false,false,false,false,true,true,true,true,true,true,false,false,false,false,false,false,false]) Z Z Z (by kernel_rfl) Z Z Z ?_ ?_ ?_
          ·intro Gq w hq m K K
           have oP:=od1 hq oP
           have hch:=gt hch hq
           refine AA 1 3 m B2 f Z Z Z Z λa f=>Aa ?_
           refine K Gq [itP,gX bx va vf long vp r.2.2 ba bf bl] _ _ gr m ?_
           refine Cs (i:=9) (j:=16) (l1:= #[true,true,true,true,true,true,true,true,true,true,false,false,false,true,true,true,false,true,true,false,false,false,false,false,false,false]) (l2:= #[true,true,true,true,true,true,true,true,true,false,false,false,false,true,true,true,true,true,true,false,false,false,false,false,false,false]) Z Z (by kernel_rfl) Z Z ?_ ?_
           ·intro Gq w hq m K K
            have oP:=od1 hq oP
            have hch:=gt hch hq
            refine AA 1 3 m B2 f Z Z Z Z λa f=>Aa ?_
            refine K Gq [itP,gX bx va vf long vp r.2.2 ba bf bl] _ _ gr m ?_
            refine CH (i:=10) 23 0 m oP Z underlying38 Z (by kernel_rfl) Z f Z Z Z λa f=>q_p 11 23 Z f (λ_=>AF (f.e Z) (f.e Z) AS) λa f=>Cs (i:=12) (j:=16) (l1:= #[true,true,true,true,true,true,true,true,true,true,true,true,true,true,true,true,false,true,true,false,false,false,false,false,false,false]) (l2:= #[true,true,true,true,true,true,true,true,true,true,true,true,false,true,true,true,true,true,true,false,false,false,false,false,false,false]) Z Z (by kernel_rfl) Z Z ?_ ?_
            ·intro Gq w hq m K K
             have oP:=od1 hq oP
             have hch:=gt hch hq
             refine CI 0 m oP Z BV f Z Z (.inl Z) Z hp2 λit8 v8 a m oP f=>Aa ?_
             refine K Gq [it8,gX bx va vf long vp r.2.2 ba bf bl] _ _ gr m ?_
             refine AU 16 Z ?_
             intro Gq w hq m K K
             have oP:=od1 hq oP
             have hch:=gt hch hq
             refine AA 1 4 m Cv f Z Z Z Z λa f=>Aa ?_
             refine K Gq [it8,gX bx va vf long vp r.2.2 ba bf bl] _ _ gr m ?_
             refine q_p 19 23 Z f (λ_=>AF (f.e Z) (f.e Z) B5) λa f=>q_p 20 23 Z f (λ_=>Av (f.e Z)) λa f=>Bg 21 23 underlying52 Z sizeOf38 Z f Z λa f=>AU 22 Z ?_
             intro Gq w hq m K K
             have oP:=od1 hq oP
             have hch:=gt hch hq
             refine An 1 3 (ds:=[v8]) m sizeOf38 f Z Z (Ow.cells 0 m oP Z) (Ar (Ow.one1 0 m oP Z) As) Z (lb Z) Z λw m=>Aa ?_
             refine K Gq [it8,gX bx va vf long v8 r.2.2 ba bf bl] _ _ gr m ?_
             refine AJ λGe w hle m=> ?_
             have oP:=od1 hle oP
             have hch:=gt hch hle
             refine l_o f (Av (f.e Z)) λa f=>Bo underlying52 Z sizeOf44 f Z λa f=>An 1 4 (ds:=[(.int .u32 (iandNot .u32 r.2.2 oo))]) m sizeOf44 f Z Z Z (Ar Z As) Z (lb Z) Z λw m=>Aa ?_
             exact⟨Ge,v8,it8,hch,f.k Z,m.front 1 Z,oP⟩
            ·intro Gq w hq m K K
             have oP:=od1 hq oP
             have hch:=gt hch hq
             refine AA 1 4 m Cv f Z Z Z Z λa f=>Aa ?_
             refine K Gq [itP,gX bx va vf long vp r.2.2 ba bf bl] _ _ gr m ?_
             refine q_p 19 23 Z f (λ_=>AF (f.e Z) (f.e Z) B5) λa f=>AU 12 Z ?_
             intro Gq w hq m K K
             have oP:=od1 hq oP
             have hch:=gt hch hq
             refine CI 0 m oP Z BV f Z Z (.inl Z) Z hp2 λit8 v8 a m oP f=>Aa ?_
             refine K Gq [it8,gX bx va vf long vp r.2.2 ba bf bl] _ _ gr m ?_
             refine q_p 20 23 Z f (λ_=>Av (f.e Z)) λa f=>Bg 21 23 underlying52 Z sizeOf38 Z f Z λa f=>AU 22 Z ?_
             intro Gq w hq m K K
             have oP:=od1 hq oP
             have hch:=gt hch hq
             refine An 1 3 (ds:=[v8]) m sizeOf38 f Z Z (Ow.cells 0 m oP Z) (Ar (Ow.one1 0 m oP Z) As) Z (lb Z) Z λw m=>Aa ?_
             refine K Gq [it8,gX bx va vf long v8 r.2.2 ba bf bl] _ _ gr m ?_
             refine AJ λGe w hle m=> ?_
             have oP:=od1 hle oP
             have hch:=gt hch hle
             refine l_o f (Av (f.e Z)) λa f=>Bo underlying52 Z sizeOf44 f Z λa f=>An 1 4 (ds:=[(.int .u32 (iandNot .u32 r.2.2 oo))]) m sizeOf44 f Z Z Z (Ar Z As) Z (lb Z) Z λw m=>Aa ?_
             exact⟨Ge,v8,it8,hch,f.k Z,m.front 1 Z,oP⟩
           ·intro Gq w hq m K K
            have oP:=od1 hq oP
            have hch:=gt hch hq
            refine AA 1 4 m Cv f Z Z Z Z λa f=>Aa ?_
            refine K Gq [itP,gX bx va vf long vp r.2.2 ba bf bl] _ _ gr m ?_
            refine q_p 19 23 Z f (λ_=>AF (f.e Z) (f.e Z) B5) λa f=>AU 9 Z ?_
            intro Gq w hq m K K
            have oP:=od1 hq oP
            have hch:=gt hch hq
            refine AA 1 3 m B2 f Z Z Z Z λa f=>Aa ?_
            refine K Gq [itP,gX bx va vf long vp r.2.2 ba bf bl] _ _ gr m ?_
            refine CH (i:=10) 23 0 m oP Z underlying38 Z (by kernel_rfl) Z f Z Z Z λa f=>q_p 11 23 Z f (λ_=>AF (f.e Z) (f.e Z) AS) λa f=>AU 12 Z ?_
            intro Gq w hq m K K
            have oP:=od1 hq oP
            have hch:=gt hch hq
            refine CI 0 m oP Z BV f Z Z (.inl Z) Z hp2 λit8 v8 a m oP f=>Aa ?_
            refine K Gq [it8,gX bx va vf long vp r.2.2 ba bf bl] _ _ gr m ?_
            refine q_p 20 23 Z f (λ_=>Av (f.e Z)) λa f=>Bg 21 23 underlying52 Z sizeOf38 Z f Z λa f=>AU 22 Z ?_
            intro Gq w hq m K K
            have oP:=od1 hq oP
            have hch:=gt hch hq
            refine An 1 3 (ds:=[v8]) m sizeOf38 f Z Z (Ow.cells 0 m oP Z) (Ar (Ow.one1 0 m oP Z) As) Z (lb Z) Z λw m=>Aa ?_
            refine K Gq [it8,gX bx va vf long v8 r.2.2 ba bf bl] _ _ gr m ?_
            refine AJ λGe w hle m=> ?_
            have oP:=od1 hle oP
            have hch:=gt hch hle
            refine l_o f (Av (f.e Z)) λa f=>Bo underlying52 Z sizeOf44 f Z λa f=>An 1 4 (ds:=[(.int .u32 (iandNot .u32 r.2.2 oo))]) m sizeOf44 f Z Z Z (Ar Z As) Z (lb Z) Z λw m=>Aa ?_
            exact⟨Ge,v8,it8,hch,f.k Z,m.front 1 Z,oP⟩
          ·intro Gq w hq m K K
           have oP:=od1 hq oP
           have hch:=gt hch hq
           refine AA 1 3 m B2 f Z Z Z Z λa f=>Aa ?_
           refine K Gq [itP,gX bx va vf long vp r.2.2 ba bf bl] _ _ gr m ?_
           refine CH (i:=10) 23 0 m oP Z underlying38 Z (by kernel_rfl) Z f Z Z Z λa f=>q_p 11 23 Z f (λ_=>AF (f.e Z) (f.e Z) AS) λa f=>Cs (i:=5) (j:=16) (l1:= #[true,true,true,true,true,true,true,true,true,true,true,true,false,true,true,true,false,true,true,false,false,false,false,false,false,false]) (l2:= #[true,true,true,true,true,false,true,true,true,true,true,true,false,true,true,true,true,true,true,false,false,false,false,false,false,false]) Z Z (by kernel_rfl) Z Z ?_ ?_
           ·intro Gq w hq m K K
            have oP:=od1 hq oP
            have hch:=gt hch hq
            refine AA 1 3 m B2 f Z Z Z Z λa f=>Aa ?_
            refine K Gq [itP,gX bx va vf long vp r.2.2 ba bf bl] _ _ gr m ?_
            refine Cs (i:=12) (j:=16) (l1:= #[true,true,true,true,true,true,true,true,true,true,true,true,true,true,true,true,false,true,true,false,false,false,false,false,false,false]) (l2:= #[true,true,true,true,true,true,true,true,true,true,true,true,false,true,true,true,true,true,true,false,false,false,false,false,false,false]) Z Z (by kernel_rfl) Z Z ?_ ?_
            ·intro Gq w hq m K K
             have oP:=od1 hq oP
             have hch:=gt hch hq
             refine CI 0 m oP Z BV f Z Z (.inl Z) Z hp2 λit8 v8 a m oP f=>Aa ?_
             refine K Gq [it8,gX bx va vf long vp r.2.2 ba bf bl] _ _ gr m ?_
             refine AU 16 Z ?_
             intro Gq w hq m K K
             have oP:=od1 hq oP
             have hch:=gt hch hq
             refine AA 1 4 m Cv f Z Z Z Z λa f=>Aa ?_
             refine K Gq [it8,gX bx va vf long vp r.2.2 ba bf bl] _ _ gr m ?_
             refine q_p 19 23 Z f (λ_=>AF (f.e Z) (f.e Z) B5) λa f=>q_p 20 23 Z f (λ_=>Av (f.e Z)) λa f=>Bg 21 23 underlying52 Z sizeOf38 Z f Z λa f=>AU 22 Z ?_
             intro Gq w hq m K K
             have oP:=od1 hq oP
             have hch:=gt hch hq
             refine An 1 3 (ds:=[v8]) m sizeOf38 f Z Z (Ow.cells 0 m oP Z) (Ar (Ow.one1 0 m oP Z) As) Z (lb Z) Z λw m=>Aa ?_
             refine K Gq [it8,gX bx va vf long v8 r.2.2 ba bf bl] _ _ gr m ?_
             refine AJ λGe w hle m=> ?_
             have oP:=od1 hle oP
             have hch:=gt hch hle
             refine l_o f (Av (f.e Z)) λa f=>Bo underlying52 Z sizeOf44 f Z λa f=>An 1 4 (ds:=[(.int .u32 (iandNot .u32 r.2.2 oo))]) m sizeOf44 f Z Z Z (Ar Z As) Z (lb Z) Z λw m=>Aa ?_
             exact⟨Ge,v8,it8,hch,f.k Z,m.front 1 Z,oP⟩
            ·intro Gq w hq m K K
             have oP:=od1 hq oP
             have hch:=gt hch hq
             refine AA 1 4 m Cv f Z Z Z Z λa f=>Aa ?_
             refine K Gq [itP,gX bx va vf long vp r.2.2 ba bf bl] _ _ gr m ?_
             refine q_p 19 23 Z f (λ_=>AF (f.e Z) (f.e Z) B5) λa f=>AU 12 Z ?_
             intro Gq w hq m K K
             have oP:=od1 hq oP
             have hch:=gt hch hq
             refine CI 0 m oP Z BV f Z Z (.inl Z) Z hp2 λit8 v8 a m oP f=>Aa ?_
             refine K Gq [it8,gX bx va vf long vp r.2.2 ba bf bl] _ _ gr m ?_
             refine q_p 20 23 Z f (λ_=>Av (f.e Z)) λa f=>Bg 21 23 underlying52 Z sizeOf38 Z f Z λa f=>AU 22 Z ?_
             intro Gq w hq m K K
             have oP:=od1 hq oP
             have hch:=gt hch hq
             refine An 1 3 (ds:=[v8]) m sizeOf38 f Z Z (Ow.cells 0 m oP Z) (Ar (Ow.one1 0 m oP Z) As) Z (lb Z) Z λw m=>Aa ?_
             refine K Gq [it8,gX bx va vf long v8 r.2.2 ba bf bl] _ _ gr m ?_
             refine AJ λGe w hle m=> ?_
             have oP:=od1 hle oP
             have hch:=gt hch hle
             refine l_o f (Av (f.e Z)) λa f=>Bo underlying52 Z sizeOf44 f Z λa f=>An 1 4 (ds:=[(.int .u32 (iandNot .u32 r.2.2 oo))]) m sizeOf44 f Z Z Z (Ar Z As) Z (lb Z) Z λw m=>Aa ?_
             exact⟨Ge,v8,it8,hch,f.k Z,m.front 1 Z,oP⟩
           ·intro Gq w hq m K K
            have oP:=od1 hq oP
            have hch:=gt hch hq
            refine AA 1 4 m Cv f Z Z Z Z λa f=>Aa ?_
            refine K Gq [itP,gX bx va vf long vp r.2.2 ba bf bl] _ _ gr m ?_
            refine q_p 19 23 Z f (λ_=>AF (f.e Z) (f.e Z) B5) λa f=>AU 5 Z ?_
            intro Gq w hq m K K
            have oP:=od1 hq oP
            have hch:=gt hch hq
            refine AA 1 3 m B2 f Z Z Z Z λa f=>Aa ?_
            refine K Gq [itP,gX bx va vf long vp r.2.2 ba bf bl] _ _ gr m ?_
            refine AU 12 Z ?_
            intro Gq w hq m K K
            have oP:=od1 hq oP
            have hch:=gt hch hq
            refine CI 0 m oP Z BV f Z Z (.inl Z) Z hp2 λit8 v8 a m oP f=>Aa ?_
            refine K Gq [it8,gX bx va vf long vp r.2.2 ba bf bl] _ _ gr m ?_
            refine q_p 20 23 Z f (λ_=>Av (f.e Z)) λa f=>Bg 21 23 underlying52 Z sizeOf38 Z f Z λa f=>AU 22 Z ?_
            intro Gq w hq m K K
            have oP:=od1 hq oP
            have hch:=gt hch hq
            refine An 1 3 (ds:=[v8]) m sizeOf38 f Z Z (Ow.cells 0 m oP Z) (Ar (Ow.one1 0 m oP Z) As) Z (lb Z) Z λw m=>Aa ?_
            refine K Gq [it8,gX bx va vf long v8 r.2.2 ba bf bl] _ _ gr m ?_
            refine AJ λGe w hle m=> ?_
            have oP:=od1 hle oP
            have hch:=gt hch hle
            refine l_o f (Av (f.e Z)) λa f=>Bo underlying52 Z sizeOf44 f Z λa f=>An 1 4 (ds:=[(.int .u32 (iandNot .u32 r.2.2 oo))]) m sizeOf44 f Z Z Z (Ar Z As) Z (lb Z) Z λw m=>Aa ?_
            exact⟨Ge,v8,it8,hch,f.k Z,m.front 1 Z,oP⟩
          ·intro Gq w hq m K K
           have oP:=od1 hq oP
           have hch:=gt hch hq
           refine AA 1 4 m Cv f Z Z Z Z λa f=>Aa ?_
           refine K Gq [itP,gX bx va vf long vp r.2.2 ba bf bl] _ _ gr m ?_
           refine q_p 19 23 Z f (λ_=>AF (f.e Z) (f.e Z) B5) λa f=>Cs (i:=5) (j:=9) (l1:= #[true,true,true,true,true,true,true,true,true,false,false,false,false,true,true,true,true,true,true,true,false,false,false,false,false,false]) (l2:= #[true,true,true,true,true,false,true,true,true,true,false,false,false,true,true,true,true,true,true,true,false,false,false,false,false,false]) Z Z (by kernel_rfl) Z Z ?_ ?_
           ·intro Gq w hq m K K
            have oP:=od1 hq oP
            have hch:=gt hch hq
            refine AA 1 3 m B2 f Z Z Z Z λa f=>Aa ?_
            refine K Gq [itP,gX bx va vf long vp r.2.2 ba bf bl] _ _ gr m ?_
            refine AU 9 Z ?_
            intro Gq w hq m K K
            have oP:=od1 hq oP
            have hch:=gt hch hq
            refine AA 1 3 m B2 f Z Z Z Z λa f=>Aa ?_
            refine K Gq [itP,gX bx va vf long vp r.2.2 ba bf bl] _ _ gr m ?_
            refine CH (i:=10) 23 0 m oP Z underlying38 Z (by kernel_rfl) Z f Z Z Z λa f=>q_p 11 23 Z f (λ_=>AF (f.e Z) (f.e Z) AS) λa f=>AU 12 Z ?_
            intro Gq w hq m K K
            have oP:=od1 hq oP
            have hch:=gt hch hq
            refine CI 0 m oP Z BV f Z Z (.inl Z) Z hp2 λit8 v8 a m oP f=>Aa ?_
            refine K Gq [it8,gX bx va vf long vp r.2.2 ba bf bl] _ _ gr m ?_
            refine q_p 20 23 Z f (λ_=>Av (f.e Z)) λa f=>Bg 21 23 underlying52 Z sizeOf38 Z f Z λa f=>AU 22 Z ?_
            intro Gq w hq m K K
            have oP:=od1 hq oP
            have hch:=gt hch hq
            refine An 1 3 (ds:=[v8]) m sizeOf38 f Z Z (Ow.cells 0 m oP Z) (Ar (Ow.one1 0 m oP Z) As) Z (lb Z) Z λw m=>Aa ?_
            refine K Gq [it8,gX bx va vf long v8 r.2.2 ba bf bl] _ _ gr m ?_
            refine AJ λGe w hle m=> ?_
            have oP:=od1 hle oP
            have hch:=gt hch hle
            refine l_o f (Av (f.e Z)) λa f=>Bo underlying52 Z sizeOf44 f Z λa f=>An 1 4 (ds:=[(.int .u32 (iandNot .u32 r.2.2 oo))]) m sizeOf44 f Z Z Z (Ar Z As) Z (lb Z) Z λw m=>Aa ?_
            exact⟨Ge,v8,it8,hch,f.k Z,m.front 1 Z,oP⟩
           ·intro Gq w hq m K K
            have oP:=od1 hq oP
            have hch:=gt hch hq
            refine AA 1 3 m B2 f Z Z Z Z λa f=>Aa ?_
            refine K Gq [itP,gX bx va vf long vp r.2.2 ba bf bl] _ _ gr m ?_
            refine CH (i:=10) 23 0 m oP Z underlying38 Z (by kernel_rfl) Z f Z Z Z λa f=>q_p 11 23 Z f (λ_=>AF (f.e Z) (f.e Z) AS) λa f=>AU 5 Z ?_
            intro Gq w hq m K K
            have oP:=od1 hq oP
            have hch:=gt hch hq
            refine AA 1 3 m B2 f Z Z Z Z λa f=>Aa ?_
            refine K Gq [itP,gX bx va vf long vp r.2.2 ba bf bl] _ _ gr m ?_
            refine AU 12 Z ?_
            intro Gq w hq m K K
            have oP:=od1 hq oP
            have hch:=gt hch hq
            refine CI 0 m oP Z BV f Z Z (.inl Z) Z hp2 λit8 v8 a m oP f=>Aa ?_
            refine K Gq [it8,gX bx va vf long vp r.2.2 ba bf bl] _ _ gr m ?_
            refine q_p 20 23 Z f (λ_=>Av (f.e Z)) λa f=>Bg 21 23 underlying52 Z sizeOf38 Z f Z λa f=>AU 22 Z ?_
            intro Gq w hq m K K
            have oP:=od1 hq oP
            have hch:=gt hch hq
            refine An 1 3 (ds:=[v8]) m sizeOf38 f Z Z (Ow.cells 0 m oP Z) (Ar (Ow.one1 0 m oP Z) As) Z (lb Z) Z λw m=>Aa ?_
            refine K Gq [it8,gX bx va vf long v8 r.2.2 ba bf bl] _ _ gr m ?_
            refine AJ λGe w hle m=> ?_
            have oP:=od1 hle oP
            have hch:=gt hch hle
            refine l_o f (Av (f.e Z)) λa f=>Bo underlying52 Z sizeOf44 f Z λa f=>An 1 4 (ds:=[(.int .u32 (iandNot .u32 r.2.2 oo))]) m sizeOf44 f Z Z Z (Ar Z As) Z (lb Z) Z λw m=>Aa ?_
            exact⟨Ge,v8,it8,hch,f.k Z,m.front 1 Z,oP⟩
         ·clear f m oP
          rintro a w ⟨G11,vp,itP,hl11,f,m,oP⟩
          refine Ao ?_
          refine Ai f Z Z Ax λa f=>Ab f Z λa f=>Aa ?_
          exact⟨_,Z,G11,vp,itP,gt hl10 hl11,f.k Z,m,oP⟩
     ·intro K
      rcases Ae hsk with⟨hc5,hsk⟩|⟨hc5,hsk⟩
      ·obtain rfl:=sj hsk
       refine Am 9 41 Z f hc5 λa f=>Am 10 41 Z f hc5 λa f=>Am 11 41 Z f hc5 λa f=>Am 12 41 Z f hc5 λa f=>Am 13 41 Z f hc5 λa f=>Am 14 41 Z f hc5 λa f=>Am 15 41 Z f hc5 λa f=>Am 16 41 Z f hc5 λa f=>Am 17 41 Z f hc5 λa f=>Am 18 41 Z f hc5 λa f=>Am 19 41 Z f hc5 λa f=>Am 20 41 Z f hc5 λa f=>Am 21 41 Z f hc5 λa f=>Am 22 41 Z f hc5 λa f=>Am 23 41 Z f hc5 λa f=>Am 24 41 Z f hc5 λa f=>Am 25 41 Z f hc5 λa f=>Am 26 41 Z f hc5 λa f=>q_p 27 41 Z f (λ_=>AK (f.e Z) hc5 (f.e Z)) λa f=>Ah 28 41 Z f Z λa f=>Am 29 41 Z f Z λa f=>Am 30 41 Z f Z λa f=>Am 31 41 Z f Z λa f=>Am 32 41 Z f Z λa f=>Am 33 41 Z f Z λa f=>Am 34 41 Z f Z λa f=>Am 35 41 Z f Z λa f=>Am 36 41 Z f Z λa f=>Am 37 41 Z f Z λa f=> ?_
       refine Am 38 41 Z f Z λa f=>Am 39 41 Z f Z λa f=>q_p 40 41 Z f (λ_=>AK (f.e Z) Z (f.e Z)) λa f=> ?_
       exact K _ (f.k Z)
      ·skip
       refine Ah (hw:=wo f hc5) 9 41 Z f Z λa f=>q_p (hw:=wo f hc5) 10 41 Z f (λ_=>Av (f.e Z)) λa f=>Bg (hw:=wo f hc5) 11 41 underlying52 Z sizeOf38 Z f Z λa f=>Bp (hw:=wo f hc5) 12 41 0 B2 Z Z Z f Z λa f=>Ah (hw:=wo f hc5) 13 41 Z f Z λa f=>BF (hw:=wo f hc5) 14 41 BV hR hfv Z f Z Z λp c a g h f=> ?_
       subst h
       refine BG (hw:=wo f hc5) 15 41 Dl g Z f Z λa f=>Ah (hw:=wo f hc5) 16 41 Z f Z λa f=>q_p (hw:=wo f hc5) 17 41 Z f (λ_=>Av (f.e Z)) λa f=>Bg (hw:=wo f hc5) 18 41 underlying52 Z sizeOf3 Z f Z λa f=>Bp (hw:=wo f hc5) 19 41 0 Dl Z Z Z f Z λa f=>Ah (hw:=wo f hc5) 20 41 Z f Z λa f=>q_p (hw:=wo f hc5) 21 41 Z f (λ_=>Av (f.e Z)) λa f=>Bg (hw:=wo f hc5) 22 41 underlying52 Z sizeOf38 Z f Z λa f=>Bp (hw:=wo f hc5) 23 41 0 B2 Z Z Z f Z λa f=>CH (i:=24) 41 1 m oP Z underlying38 Z (by kernel_rfl) Z f (Ba f Z Z Z hc5) Z Z λa f=>q_p (hw:=wo f hc5) 25 41 Z f (λ_=>AF (f.e Z) (f.e Z) AS) λa f=>q_p (hw:=wo f hc5) 26 41 Z f (λ_=>AF (f.e Z) (f.e Z) Ce) λa f=>q_p 27 41 Z f (λ_=>AP (f.e Z) hc5 (f.e Z)) λa f=>Ah 28 41 Z f Z λa f=> ?_
       rcases Ae hsk with⟨hc6,hsk⟩|⟨hc6,hsk⟩
       ·obtain rfl:=sj hsk
        refine Am 29 41 Z f hc6 λa f=>Am 30 41 Z f hc6 λa f=>Am 31 41 Z f hc6 λa f=>Am 32 41 Z f hc6 λa f=>Am 33 41 Z f hc6 λa f=>Am 34 41 Z f hc6 λa f=>Am 35 41 Z f hc6 λa f=>Am 36 41 Z f hc6 λa f=>Am 37 41 Z f hc6 λa f=>Am 38 41 Z f hc6 λa f=>Am 39 41 Z f hc6 λa f=>q_p 40 41 Z f (λ_=>AK (f.e Z) hc6 (f.e Z)) λa f=> ?_
        exact K _ (f.k Z)
       ·have⟨b,hb,hsk⟩:=bind_some hsk
        obtain rfl:=sj hsk
        refine Ah (hw:=wo f hc6) 29 41 Z f Z λa f=>q_p (hw:=wo f hc6) 30 41 Z f (λ_=>Av (f.e Z)) λa f=>Bg (hw:=wo f hc6) 31 41 underlying52 Z sizeOf46 Z f Z λa f=>Bp (hw:=wo f hc6) 32 41 0 gPl46 Z Z Z f Z λa f=>Ah (hw:=wo f hc6) 33 41 Z f Z λa f=>q_p (hw:=wo f hc6) 34 41 Z f (λ_=>Av (f.e Z)) λa f=>Bg (hw:=wo f hc6) 35 41 underlying52 Z sizeOf38 Z f Z λa f=>Bp (hw:=wo f hc6) 36 41 0 B2 Z Z Z f Z λa f=>Ah (hw:=wo f hc6) 37 41 Z f Z λa f=>q_callc (cs:=[pt ba,pt bf,pt bl]) (i:=38) (listed':= #[true,true,true,true,true,true,true,true,true,true,true,true,true,true,true,true,true,true,true,true,true,true,true,true,true,true,true,true,true,true,true,true,true,true,true,true,true,true,true,false,false]) 41 Z (by kernel_rfl) Z f (Ba f Z Z Z hc6) Z Z Z call27 (λ_ _ w hG m=>Ow.lendCallR (RI.mono _) 1 (od1 hG oP) m Z (λG9 hl9 m hP=>Wk.A0 m hP (rd1 (gt hG hl9) hF) (Dt (j:=3) Z) (Dt (j:=2) Z) (Dt (j:=1) Z) hb) (λ_ _ _ _ h=>h)) λa f=> ?_
        refine q_p (hw:=wo f hc6) 39 41 Z f (λ_=>Bh (f.e Z)) λa f=>q_p 40 41 Z f (λ_=>AP (f.e Z) hc6 (f.e Z)) λa f=> ?_
        exact K _ (f.k Z)
    ·refine Aj f Z hc2 ?_
     refine AH Z ?_
     obtain rfl:=sj hs
     obtain rfl:=hqq _ rfl
     exact⟨Z,G7,vp,itP,hl7,f.weak trivial,m,oP⟩
   ·clear hd f m oP
    rintro a w ⟨hy,G7,vp,itP,hl7,f,m,oP⟩
    refine Af ?_
    refine Ac f Z λa f=>Aa ?_
    refine Aq ?_
    exact⟨[.bool false],f.g Z,f.d,G7,[gX bx va vf long vp y.2.2 ba bf bl,itP],gt hle6 hl7,m,_,_,Z,oP,congrArg Value.bool hy.symm⟩
set_option maxHeartbeats 2000000 in
theorem Wk.I {aa:Value}{ab:LL}(hW:CF W)(m:Mem W G w (H))(ac:R2 G aa ab){y:LI×Bool}(hd:D.I ab=some y):
  Calls prog 7 #[(.agg #[aa])] w (Res W G H (λG' Ho v=>∃r0:Value,∃i0:Itm,Ho=[i0]∧v= .tuple #[r0,(.bool y.2)]∧Ow R0 2 G' i0 r0 y.1)):=by
 refine Au (args:=[(.agg #[aa])]) (N:=56) [.tmp 2,.tmp 3] func7 Z Z (lb Z) Z λa f=> ?_
 unfold D.I at hd
 have⟨ok,hok,hd⟩:=bind_some hd
 have⟨stop,hst,hd⟩:=bind_some hd
 refine Af ?_
 refine Bj (cs:=[aa]) m f Z Z Z λbg w a m f=>Ac f Z λa f=>Ac f Z λa f=>Aa (Ag (Ag ?_))
 refine AM (λa w=>∃(G':GH),GLe G G'∧Fr a 56 [(1,pt bg),(15,(.bool stop))]∧Mem W G' w (ib bg 26 [aa]::H)) ?_ ?_
 ·refine Ao ?_
  refine Az 0 0 (ds:=[aa]) m gAg26 f Z Z Z Z Z λa f=>Bc f Z call21 (Wk.l m ac hok) λG1 w hl1 m a f=> ?_
  have ac:=rd2 hl1 ac
  refine l_o f (Bh (f.e Z)) λa f=>Ab f Z λa f=> ?_
  rcases Ae hst with⟨hc,hst⟩|⟨hc,hst⟩
  ·obtain rfl:=sj hst
   refine AE f hc λa f=>AE f hc λa f=>l_o f (AK (f.e Z) hc (f.e Z)) λa f=>Aa ?_
   exact⟨G1,hl1,f.k Z,m⟩
  ·refine AC f hc ?_
   refine Az 0 0 (ds:=[aa]) m gAg26 f Z Z Z Z Z λa f=>AC f hc ?_
   refine Bc f Z call9 (Wk.s hW m ac hst) λG2 w hl2 m a f=>l_o f (AP (f.e Z) hc (f.e Z)) λa f=>Aa ?_
   exact⟨G2,gt hl1 hl2,f.k Z,m⟩
 ·clear f m hst
  rintro a w ⟨G2,hl2,f,m⟩
  have ac:=rd2 hl2 ac
  rcases Ae hd with⟨hc,hd⟩|⟨hc,hd⟩
  ·obtain rfl:=sj hd
   refine Al f Z hc ?_
   refine Af ?_
   refine Ac f Z λa f=>Ac f Z λa f=>Aa ?_
   refine Aq ?_
   have m:Mem W G2 w H:=m.tail
   obtain⟨itN,m,oN⟩:=Ow.nil R0 2 m
   exact⟨[.slice none 0 0,.bool false],⟨f.get _ _ Z,f.get _ _ Z,trivial⟩,f.d,G2,[itN],hl2,m,_,_,Z,Z,oN⟩
  ·refine Aj f Z hc ?_
   refine Ap ?_
   have⟨F,hF,hd⟩:=bind_some hd
   refine Af ?_
   refine Az 0 0 (ds:=[aa]) m gAg26 f Z Z Z Z Z λa f=>AD f Z call20 (Wk.j m ac hF) λv3 G3 Ho3 w hl3 m hQ3 a f=> ?_
   obtain⟨vF,itF,rfl,rfl,oF⟩:=hQ3
   obtain⟨G4,hl4,m,hA⟩:=oF.stamp (RI.mono _) m
   refine A9 (cs:=[sn]) zeroValue41 m f Z Z λba w a m f=>An 0 0 (ds:=[vF]) m sizeOf41 f Z Z hA.cells (Ar hA.one1 As) Z (lb Z) Z λw m=>AB ?_
   refine l_makeFunc (vs:=[]) (us:=[pt ba]) f Z Z Z λa f=>A9 (cs:=[.nilFunc]) zeroValue46 m f Z Z λbf w a m f=>An 0 0 (ds:=[.func (.func 22) #[] #[pt ba]]) m sizeOf46 f Z Z Z (Ar Z As) Z (lb Z) Z λw m=>Aa (Ag (Af ?_))
   refine A9 (cs:=[(iv 0)]) zeroValue3 m f Z Z λbl w a m f=>An 0 0 (ds:=[(iv 4)]) m sizeOf3 f Z Z Z (Ar Z As) Z (lb Z) Z λw m=>Aa ?_
   have hle4:GLe G G4:=gt hl2 (gt hl3 hl4)
   refine AM (λa w=>y=([],false)∧∃(G':GH),GLe G4 G'∧Fr a 56 []∧Mem W G' w H) ?_ ?_
   ·refine Ak ?_
    refine AL (fun(long:Int) a w=>∃(G':GH) (bl:Nat),GLe G4 G'∧Fr a 56 [(4,pt ba),(5,pt bf),(6,pt bl)]∧Mem W G' w (gL bl long::gF bf ba::gA ba vF::ib bg 26 [aa]::H)) hd ⟨G4,bl,gr,f.k Z,m⟩ ?_
    clear hd f m
    rintro long o hs hqq a w ⟨G5,bl,hl5,f,m⟩
    have hA:=rd1 hl5 hA
    unfold D.x1 at hs
    refine Ag (Af ?_)
    refine AA 0 0 m Dl f Z Z Z Z λa f=>AA 2 0 m DF f Z Z Z Z λa f=>A8 underlying41 f Z Z hA λa f=>Ai f Z Z CN λa f=>Aa ?_
    rcases Ae hs with⟨hc1,hs⟩|⟨hc1,hs⟩
    ·refine Al f Z hc1 ?_
     refine Ap ?_
     have⟨q,hq,hs⟩:=bind_some hs
     refine Ag (Ak (Af ?_))
     refine AA 2 0 m DF f Z Z Z Z λa f=>A8 underlying41 f Z Z hA λa f=>Ab f Z λa f=>Aa ?_
     refine AM (λa w=>q=none∧∃(G':GH),GLe G5 G'∧Fr a 56 [(4,pt ba),(5,pt bf),(6,pt bl)]∧Mem W G' w (gL bl long::gF bf ba::gA ba vF::ib bg 26 [aa]::H)) ?_ ?_
     ·refine Ak ?_
      refine AL (fun(v:Int) a w=>∃(G':GH),GLe G5 G'∧Fr a 56 [(4,pt ba),(5,pt bf),(6,pt bl),(26,(iv (F.length:Int))),(27,(iv v))]∧Mem W G' w (gL bl long::gF bf ba::gA ba vF::ib bg 26 [aa]::H)) hq ⟨G5,gr,f.k Z,m⟩ ?_
      clear hq f m
      rintro v o2 hs2 hqq2 a w ⟨G6,hl6,f,m⟩
      have hA:=rd1 hl6 hA
      unfold D.A1 at hs2
      refine Af ?_
      refine Ai f Z Z AR λa f=>Aa (Ag ?_)
      rcases Ae hs2 with⟨hc2,hs2⟩|⟨hc2,hs2⟩
      ·refine Al f Z hc2 ?_
       refine Ap ?_
       have⟨all,hall,hs2⟩:=bind_some hs2
       have⟨far,hfar,hs2⟩:=bind_some hs2
       have⟨oo,hoo,hs2⟩:=bind_some hs2
       have⟨r,hr,hs2⟩:=bind_some hs2
       refine Ag (Ak (Af ?_))
       refine Ab f Z λa f=>Ac f Z λa f=>Aa (Ag ?_)
       refine AM (λa w=>∃(G':GH) (bx:Nat) (vf vp:Value) (itP:Itm),GLe G6 G'∧Fr a 56 [(4,pt ba),(5,pt bf),(6,pt bl),(8,pt bx),(26,(iv (F.length:Int))),(27,(iv v))]∧Mem W G' w (ib bx 52 [vF,vf,.int .i64 long,vp,.int .u32 oo,.nilFunc]::itP::gL bl long::gF bf ba::gA ba vF::ib bg 26 [aa]::H)∧R1 G' vf far∧Ow R0 3 G' itP vp [v]) ?_ ?_
       ·refine A2 11 AG (by kernel_rfl) m ?_
        refine Bp 0 11 2 DF Z Z Z f Z λa f=>Bp 1 11 2 DF Z Z Z f Z λa f=>Ah 2 11 Z f Z λa f=>Bp 3 11 2 DF Z Z Z f Z λa f=>AW (i:=4) 11 Z (by kernel_rfl) Z f Z Z Z call25 (λ_ _ w hG m=>Wk.u m (rd1 hG hA) hall) λa f=>Bp 6 11 0 Dl Z Z Z f Z λa f=>Ah 7 11 Z f Z λa f=>Ah 9 11 Z f Z λa f=>Cs (i:=5) (j:=8) (l1:= #[true,true,true,true,true,true,true,true,false,true,false,false,false,false]) (l2:= #[true,true,true,true,true,false,true,true,true,true,false,false,false,false]) Z Z (by kernel_rfl) Z Z ?_ ?_
        ·intro Gq w hq m K K
         have hA:=rd1 hq hA
         refine AD f Z call24 (Wk.m0 hW m hA hfar) λv7 G7 Ho7 w hl7 m hQ7 a f=> ?_
         obtain⟨vf,itf,rfl,rfl,of⟩:=hQ7
         obtain⟨G8,hl8,m,hf⟩:=of.stamp (RI.mono _) m
         have hl78:=gt hl7 hl8
         refine Aa ?_
         refine K G8 [] _ _ hl78 m ?_
         have hA:=rd1 hl78 hA
         refine AW (i:=10) 11 Z (by kernel_rfl) Z f Z Z Z call26 (λ_ _ w hG m=>Wk.a m hoo) λa f=>AU 8 Z ?_
         intro Gr w hr2 m K K
         have hA:=rd1 hr2 hA
         have hf:=rd1 hr2 hf
         refine A4 (R:=R0) (xs:=([v]:LI)) (RI.one _) m BV f Z Z Z (by decide) (All2.cons Z (All2.nil _)) λitP vp w a m oP f=>Aa ?_
         refine K Gr [itP] _ _ gr m ?_
         have hch:=gt hq (gt hl78 hr2)
         have hA0:=hA
         refine AJ λGe w hle m=> ?_
         have oP:=od1 hle oP
         have hf:=rd1 hle hf
         have hA:=rd1 hle hA
         have hb:∀w,(Instr.build 52 #[(0,vF),(1,vf),(2,.int .i64 long),(3,vp),(4,.int .u32 oo)]).run prog w= .ok (.agg #[vF,vf,.int .i64 long,vp,.int .u32 oo,.nilFunc]) w:=by
          intro w
          simp[Instr.build,Instr.fill,hA.cells,hf.cells,Ow.cells 0 m oP rfl,Cm,Cp]
         refine CG f Z Z hb λa f=>Bj (cs:=[vF,vf,.int .i64 long,vp,.int .u32 oo,.nilFunc]) m f Z Z Z λbx w a m f=>Ac f Z λa f=>Aa ?_
         exact⟨Ge,bx,vf,vp,itP,gt hch hle,f.k Z,m,hf,oP⟩
        ·intro Gq w hq m K K
         have hA:=rd1 hq hA
         refine A4 (R:=R0) (xs:=([v]:LI)) (RI.one _) m BV f Z Z Z (by decide) (All2.cons Z (All2.nil _)) λitP vp w a m oP f=>Aa ?_
         refine K Gq [itP] _ _ gr m ?_
         refine AU 5 Z ?_
         intro Gr w hr2 m K K
         have hA:=rd1 hr2 hA
         have oP:=od1 hr2 oP
         refine AD f Z call24 (Wk.m0 hW m hA hfar) λv7 G7 Ho7 w hl7 m hQ7 a f=> ?_
         obtain⟨vf,itf,rfl,rfl,of⟩:=hQ7
         obtain⟨G8,hl8,m,hf⟩:=of.stamp (RI.mono _) m
         have hl78:=gt hl7 hl8
         refine Aa ?_
         refine K G8 [itP] _ _ hl78 m ?_
         have hA:=rd1 hl78 hA
         have oP:=od1 hl78 oP
         have hch:=gt hq (gt hr2 hl78)
         refine AW (i:=10) 11 Z (by kernel_rfl) Z f Z Z Z call26 (λ_ _ w hG m=>Wk.a m hoo) λa f=>AJ λGe w hle m=> ?_
         have oP:=od1 hle oP
         have hf:=rd1 hle hf
         have hA:=rd1 hle hA
         have hb:∀w,(Instr.build 52 #[(0,vF),(1,vf),(2,.int .i64 long),(3,vp),(4,.int .u32 oo)]).run prog w= .ok (.agg #[vF,vf,.int .i64 long,vp,.int .u32 oo,.nilFunc]) w:=by
          intro w
          simp[Instr.build,Instr.fill,hA.cells,hf.cells,Ow.cells 0 m oP rfl,Cm,Cp]
         refine CG f Z Z hb λa f=>Bj (cs:=[vF,vf,.int .i64 long,vp,.int .u32 oo,.nilFunc]) m f Z Z Z λbx w a m f=>Ac f Z λa f=>Aa ?_
         exact⟨Ge,bx,vf,vp,itP,gt hch hle,f.k Z,m,hf,oP⟩
       ·clear f m
        rintro a w ⟨G8,bx,vf,vp,itP,hl8,f,m,hf,oP⟩
        have hA:=rd1 hl8 hA
        refine Af ?_
        refine Ab f Z λa f=>l_makeFunc (vs:=[]) (us:=[pt ba,pt bf,pt bl]) f Z Z Z λa f=>l_o f (Av (f.e Z)) λa f=>Bo underlying52 Z sizeOf46 f Z λa f=>An 0 5 (ds:=[fnO ba bf bl]) m sizeOf46 f Z Z Z (Ar Z As) Z (lb Z) Z λw m=>AB ?_
        refine Ab f Z λa f=>AD f Z call28 (Wk.C1 hW CS _ _ _ _ _ _ _ _ _ _ _ _ _ _ m hA hf oP hr) λv9 G9 Ho9 w hl9 m hQ9 a f=> ?_
        clear oP
        obtain⟨vp,itP,rfl,oP,rfl⟩:=hQ9
        refine Aa ?_
        have hl9:GLe G5 G9:=gt hl6 (gt hl8 hl9)
        rcases Ae hs2 with⟨hc3,hs2⟩|⟨hc3,hs2⟩
        ·refine Al f Z hc3 ?_
         have⟨wd,hwd,hs2⟩:=bind_some hs2
         obtain rfl:=sj hs2
         obtain rfl:=hqq2 _ rfl
         obtain rfl:=sj hs
         obtain rfl:=hqq _ rfl
         refine Af ?_
         refine Ab f Z λa f=>l_o f (Av (f.e Z)) λa f=>Bo underlying52 Z sizeOf38 f Z λa f=>AA 0 3 m B2 f Z Z Z Z λa f=> ?_
         have m:Mem W G9 w (itP::gX bx vF vf long vp r.2.2 ba bf bl::gL bl long::gF bf ba::gA ba vF::ib bg 26 [aa]::H):=m.fr 1
         obtain⟨G10,hl10,m,hP⟩:=oP.stamp (RI.mono _) m
         refine AD f Z call18 (Wk.z m hP hwd) λv11 G11 Ho11 w hl11 m hQ11 a f=> ?_
         obtain⟨vw,itw,rfl,rfl,ow⟩:=hQ11
         refine Ac f Z λa f=>Ac f Z λa f=>Aa ?_
         refine Aq ?_
         have m:Mem W G11 w (itw::H):=((((m.eraseAt 1).eraseAt 1).eraseAt 1).eraseAt 1).eraseAt 1
         exact⟨[vw,.bool true],⟨f.get _ _ Z,f.get _ _ Z,trivial⟩,f.d,G11,[itw],gt hle4 (gt hl5 (gt hl9 (gt hl10 hl11))),m,_,_,Z,Z,ow⟩
        ·refine Aj f Z hc3 ?_
         obtain rfl:=sj hs2
         refine Ap ?_
         refine Ao ?_
         refine Ai f Z Z Ax λa f=>Ab f Z λa f=>Aa ?_
         exact⟨_,Z,G9,hl9,f.k Z,m.tail.tail⟩
      ·refine Aj f Z hc2 ?_
       refine AH Z ?_
       obtain rfl:=sj hs2
       obtain rfl:=hqq2 _ rfl
       exact⟨Z,G6,hl6,f.k Z,m⟩
     ·clear hq f m
      rintro a w ⟨rfl,G6,hl6,f,m⟩
      obtain rfl:=sj hs
      refine Ag (Af ?_)
      refine AA 0 0 m Dl f Z Z Z Z λa f=>Aa (Ao ?_)
      refine A9 (cs:=[(iv 0)]) zeroValue3 m f Z Z λbl2 w a m f=>An 0 0 (ds:=[(iv long)]) m sizeOf3 f Z Z Z (Ar Z As) Z (lb Z) Z λw m=> ?_
      have m:=m.eraseAt 1
      refine Aa (Ao ?_)
      refine AA 0 0 m Dl f Z Z Z Z λa f=>Ai f Z Z Ax λa f=>An 0 0 (ds:=[(iv (i64.wrap (long+1)))]) m sizeOf3 f Z Z Z (Ar Z As) Z (lb Z) Z λw m=>Aa ?_
      exact⟨_,Z,G6,bl2,gt hl5 hl6,f.k Z,m⟩
    ·refine Aj f Z hc1 ?_
     refine AH Z ?_
     obtain rfl:=sj hs
     obtain rfl:=hqq _ rfl
     exact⟨Z,G5,hl5,f.weak trivial,(((m.tail).tail).tail).tail⟩
   ·clear hd f m
    rintro a w ⟨rfl,G5,hl5,f,m⟩
    refine Af ?_
    refine Ac f Z λa f=>Ac f Z λa f=>Aa ?_
    refine Aq ?_
    obtain⟨itN,m,oN⟩:=Ow.nil R0 2 m
    exact⟨[.slice none 0 0,.bool false],⟨f.get _ _ Z,f.get _ _ Z,trivial⟩,f.d,G5,[itN],gt hle4 hl5,m,_,_,Z,Z,oN⟩
end Go.Proofs.YtehkdflfnampdaaGreatDoor

set_option maxRecDepth 100000
namespace Go.Proofs.YtehkdflfnampdaaGreatDoor
open Go Go.Sx
open Go.Proofs.Tryz Go.Proofs.YtehkdflfnampdaaGreatDoor.Tryz IntKind
variable {W w : World} {G : GH} {H : List Itm}
theorem Wk.f {aa:Value}{ab:LL}{x1 x2:Int}(m:Mem W G w (H))(ac:R2 G aa ab){y:Bool}(hd:D.f ab x1 x2=some y):
  Calls prog 62 #[(.agg #[aa]),(iv x1),(iv x2)] w (Res W G H (λ_ Ho v=>Ho=[]∧v=(.bool y))):=by
 refine Au (args:=[(.agg #[aa]),(iv x1),(iv x2)]) (N:=14) [.tmp 6] func62 Z Z (lb Z) Z λa f=> ?_
 unfold D.f at hd
 refine Af ?_
 refine Bj (cs:=[aa]) m f Z Z Z λad w a m f=>Ac f Z λa f=>AB ?_
 refine Bo underlying26 Z sizeOf24 f Z λa f=>AA 0 0 m Bt f Z Z Z Z λa f=>Ab f Z λa f=> ?_
 have⟨ae,af,hd⟩:=bind_some hd
 refine Bu T24 f Z Z Z ac af λag ah a ai aj f=>AT m B3 f Z Z ai λa f=>Ab f Z λa f=> ?_
 have⟨ak,al,hd⟩:=bind_some hd
 refine Bc f Z call34 (Wk.q m aj al) λam w an m a f=>Ac f Z λa f=>Aa ?_
 refine Aq ?_
 have m:Mem W am w H:=Mem.drop (H':=[ib ad 26 [aa]]) m
 obtain rfl:=sj hd
 exact⟨[(.bool ak)],f.g Z,f.d,_,[],an,m,Z,Z⟩
theorem Wk.a0 {aa v1:Value}{ab:LL}{x1:LI}(m:Mem W G w (H))(ac:R2 G aa ab)(h1:R1 G v1 x1){y:Int}(hd:D.a0 ab x1=some y):
  Calls prog 73 #[(.agg #[aa]),v1] w (Res W G H (λ_ Ho v=>Ho=[]∧v=(iv y))):=by
 refine Au (args:=[(.agg #[aa]),v1]) (N:=33) [.tmp 4] func73 Z Z (lb Z) Z λa f=> ?_
 unfold D.a0 at hd
 refine Af ?_
 refine Bj (cs:=[aa]) m f Z Z Z λad w a m f=>Ac f Z λa f=>AB ?_
 refine Ac f Z λa f=>Aa (Ag (Af ?_))
 refine Ac f Z λa f=>Aa ?_
 have⟨ae,af,hd⟩:=bind_some hd
 refine AM (λa w=>∃ag:Int,ag=ae∧∃(ah:GH),GLe G ah∧Fr a 33 [(5,(iv ag))]∧Mem W ah w (H)) ?_ ?_
 ·refine Ak ?_
  refine AL (λai a w=>∃aj:Int,∃ak:Int,(aj,ak)=ai∧∃(al:GH),GLe G al∧Fr a 33 [(1,v1),(2,(pb ad)),(5,(iv aj)),(6,(iv ak))]∧Mem W al w (ib ad 26 [aa]::H)) af ⟨_,_,Z,_,gr,f.k Z,m⟩ ?_
  clear af f m
  rintro ai am an ao a w ⟨aj,ak,rfl,al,ap,f,m⟩
  have h1:=rd1 ap h1
  have ac:=rd2 ap ac
  refine Ag (Af ?_)
  refine Ab f Z λa f=>Ab f Z λa f=>A8 underlying28 f Z Z h1 λa f=>Ai f Z Z AR λa f=>Aa ?_
  rcases Ae an with⟨aq,an⟩|⟨aq,an⟩
  ·refine Al f Z aq ?_
   refine Ap ?_
   refine Ag (Ak (Af ?_))
   refine Ac f Z λa f=>Aa ?_
   have⟨ar,au,an⟩:=bind_some an
   refine AM (λa w=>∃av:Int,av=ar∧∃(aw:GH),GLe al aw∧Fr a 33 [(1,v1),(2,(pb ad)),(5,(iv av)),(6,(iv ak))]∧Mem W aw w (ib ad 26 [aa]::H)) ?_ ?_
   ·refine Ak ?_
    refine AL (λax a w=>∃ay:Int,∃az:Int,(ay,az)=ax∧∃(aA:GH),GLe al aA∧Fr a 33 [(1,v1),(2,(pb ad)),(5,(iv ay)),(6,(iv ak)),(7,(iv az))]∧Mem W aA w (ib ad 26 [aa]::H)) au ⟨_,_,Z,_,gr,f.k Z,m⟩ ?_
    clear au f m
    rintro ax aB aC aD a w ⟨ay,az,rfl,aA,aE,f,m⟩
    have h1:=rd1 aE h1
    have ac:=rd2 aE ac
    refine Ag (Af ?_)
    refine Ab f Z λa f=>Ab f Z λa f=>Ai f Z Z AR λa f=>Aa ?_
    rcases Ae aC with⟨aF,aC⟩|⟨aF,aC⟩
    ·refine Al f Z aF ?_
     refine Ap ?_
     refine Ag (Ak (Ag ?_))
     refine A2 11 AG (by kernel_rfl) m ?_
     refine Bx (i:=0) (ds:=[aa]) 11 0 AI Z Z Z Z (by kernel_rfl) Z f Z Z Z λa f=>Ah 1 11 Z f Z λa f=>Ah 2 11 Z f Z λa f=> ?_
     have⟨aG,aH,aC⟩:=bind_some aC
     refine BF 3 11 T28 h1 aH Z f Z Z λaI aJ a aK aL f=> ?_
     subst aL
     refine BG 4 11 Pl2 aK Z f Z λa f=>Ah 5 11 Z f Z λa f=>Ah 6 11 Z f Z λa f=> ?_
     have⟨aM,aN,aC⟩:=bind_some aC
     refine BF 7 11 T28 h1 aN Z f Z Z λaO aP a aQ aR f=> ?_
     subst aR
     refine BG 8 11 Pl2 aQ Z f Z λa f=> ?_
     have⟨aS,aT,aC⟩:=bind_some aC
     refine AW (i:=9) 11 Z (by kernel_rfl) Z f Z Z Z call62 (λ_ _ w aU m=>Wk.f m (rd2 aU ac) aT) λa f=>q_p 10 11 Z f (λ_=>Bh (f.e Z)) λa f=>AJ λaV w aW m=>Aa ?_
     rcases Ae aC with⟨aX,aC⟩|⟨aX,aC⟩
     ·refine Al f Z aX ?_
      refine Ao ?_
      refine Ab f Z λa f=>Ai f Z Z Ax λa f=>Ac f Z λa f=>Aa (Ao ?_)
      refine Ab f Z λa f=>Ai f Z Z Ax λa f=>Ac f Z λa f=>Aa ?_
      obtain rfl:=sj aC
      exact⟨_,Z,_,_,Z,_,(gt aE aW),f.k Z,m⟩
     ·refine Aj f Z aX ?_
      refine Ap ?_
      refine Ao ?_
      refine Ab f Z λa f=>Ai f Z Z Ax λa f=>Ac f Z λa f=>Aa ?_
      obtain rfl:=sj aC
      exact⟨_,Z,_,_,Z,_,(gt aE aW),f.k Z,m⟩
    ·refine Aj f Z aF ?_
     refine AH Z ?_
     obtain rfl:=sj aC
     obtain rfl:=aD _ rfl
     exact⟨_,Z,_,aE,f.k Z,m⟩
   ·rintro a w ⟨av,rfl,aw,aY,f,m⟩
    refine Ao ?_
    refine Ab f Z λa f=>Ai f Z Z Ax λa f=>Ac f Z λa f=>Aa ?_
    obtain rfl:=sj an
    exact⟨_,Z,_,_,Z,_,(gt ap aY),f.k Z,m⟩
  ·refine Aj f Z aq ?_
   refine AH Z ?_
   have m:Mem W al w H:=Mem.drop (H':=[ib ad 26 [aa]]) m
   obtain rfl:=sj an
   obtain rfl:=ao _ rfl
   exact⟨_,Z,_,ap,f.k Z,m⟩
 ·rintro a w ⟨ag,rfl,ah,aZ,f,m⟩
  refine Af ?_
  refine Ab f Z λa f=>Ac f Z λa f=>Aa ?_
  refine Aq ?_
  obtain rfl:=sj hd
  exact⟨[(iv ag)],f.g Z,f.d,_,[],aZ,m,Z,Z⟩
theorem Wk.N {aa v1:Value}{ab:LL}{x1:LI}(m:Mem W G w (H))(ac:R2 G aa ab)(h1:R1 G v1 x1){y:Bool}(hd:D.N ab x1=some y):
  Calls prog 52 #[(.agg #[aa]),v1] w (Res W G H (λ_ Ho v=>Ho=[]∧v=(.bool y))):=by
 refine Au (args:=[(.agg #[aa]),v1]) (N:=9) [.tmp 4] func52 Z Z (lb Z) Z λa f=> ?_
 unfold D.N at hd
 refine Af ?_
 refine Bj (cs:=[aa]) m f Z Z Z λad w a m f=>Ac f Z λa f=>AB ?_
 refine Az 0 0 (ds:=[aa]) m AI f Z Z Z Z Z λa f=>Ab f Z λa f=> ?_
 have⟨ae,af,hd⟩:=bind_some hd
 refine Bc f Z call73 (Wk.a0 m ac h1 af) λag w ah m a f=>Ai f Z Z By λa f=>Ac f Z λa f=>Aa ?_
 refine Aq ?_
 have m:Mem W ag w H:=Mem.drop (H':=[ib ad 26 [aa]]) m
 obtain rfl:=sj hd
 exact⟨[(.bool (ae==0))],f.g Z,f.d,_,[],ah,m,Z,Z⟩
theorem Wk.P {aa:Value}{ab:LL}(m:Mem W G w (H))(ac:R2 G aa ab){y:(LI)×Bool}(hd:D.P ab=some y):
  Calls prog 29 #[(.agg #[aa])] w (Res W G H (λG' Ho v=>∃r0:Value,∃i0:Itm,Ho=[i0]∧v= .tuple #[r0,(.bool y.2)]∧Ow R0 2 G' i0 r0 y.1)):=by
 refine Au (args:=[(.agg #[aa])]) (N:=54) [.tmp 2,.tmp 3] func29 Z Z (lb Z) Z λa f=> ?_
 unfold D.P at hd
 refine Af ?_
 refine Bj (cs:=[aa]) m f Z Z Z λad w a m f=>Ac f Z λa f=>Ac f Z λa f=>Aa (Ag (Af ?_))
 refine Az 0 0 (ds:=[aa]) m AI f Z Z Z Z Z λa f=> ?_
 have⟨ae,af,hd⟩:=bind_some hd
 refine Bc f Z call10 (Wk.p m ac af) λag w ah m a f=> ?_
 have ac:=rd2 ah ac
 refine l_o f (Bh (f.e Z)) λa f=>Aa ?_
 rcases Ae hd with⟨ai,hd⟩|⟨ai,hd⟩
 ·refine Al f Z ai ?_
  refine Af ?_
  refine A4 (R:=R0) (xs:=([]:LI)) (RI.one _) m T28 f Z Z Z (by decide) (All2.nil _) λaj ak w a m al f=>Ac f Z λa f=>Ac f Z λa f=>Aa ?_
  refine Aq ?_
  have m:=m.eraseAt 1
  obtain rfl:=sj hd
  exact⟨[ak,(.bool false)],⟨f.get _ _ Z,f.get _ _ Z,trivial⟩,f.d,_,[aj],ah,m,_,_,Z,Z,al⟩
 ·refine Aj f Z ai ?_
  refine Ap ?_
  refine Af ?_
  refine Az 0 0 (ds:=[aa]) m AI f Z Z Z Z Z λa f=> ?_
  have⟨am,an,hd⟩:=bind_some hd
  refine Bc f Z call31 (Wk.b m ac an) λao w ap m a f=> ?_
  have ac:=rd2 ap ac
  have⟨aq,ar,hd⟩:=bind_some hd
  refine Dv (R:=RB) m T71 Z (by decide) Z f Z Z Z ar λau av w a m aw f=>Ac f Z λa f=>AB ?_
  refine A4 (R:=R0) (xs:=([]:LI)) (RI.one _) m T28 f Z Z Z (by decide) (All2.nil _) λax ay w a m az f=>Ac f Z λa f=>Aa (Ag ?_)
  have⟨aA,aB,hd⟩:=bind_some hd
  refine AM (λa w=>∃q_525':LI,aA= .inl q_525'∧∃aC:LI,aC=q_525'∧∃(aD:GH) (aE:Value) (aF:Itm),GLe ao aD∧Fr a 54 [(5,aE)]∧Mem W aD w (aF::H)∧Ow R0 2 aD aF aE aC) ?_ ?_
  ·refine Ak ?_
   have m:=m.fr 1
   have m:=m.fr 2
   refine AL (λaG a w=>∃aH:List Bool,∃aI:LI,(aH,aI)=aG∧∃(aJ:GH) (aK:Itm) (aL:Value) (aM:Itm),GLe ao aJ∧Fr a 54 [(1,(pb ad)),(4,av),(5,aL)]∧Mem W aJ w (ib ad 26 [aa]::aK::aM::H)∧Ow RB 4 aJ aK av aH∧Ow R0 2 aJ aM aL aI) aB ⟨_,_,Z,_,au,ay,ax,gr,f.k Z,m,aw,az⟩ ?_
   clear aB f m
   rintro aG aN aO aP a w ⟨aH,aI,rfl,aJ,aK,aL,aM,aQ,f,m,aR,aS⟩
   have ac:=rd2 aQ ac
   refine Ag (Af ?_)
   refine Ab f Z λa f=>Bv 2 m aS Z underlying28 f Z Z λa f=>Az 0 0 (ds:=[aa]) m AI f Z Z Z Z Z λa f=> ?_
   have⟨aT,aU,aO⟩:=bind_some aO
   refine Bc f Z call31 (Wk.b m ac aU) λaV w aW m a f=> ?_
   have ac:=rd2 aW ac
   have aR:=Ow.mono RB.mono aW aR
   have aS:=od1 aW aS
   refine Ai f Z Z AR λa f=>Aa ?_
   rcases Ae aO with⟨aX,aO⟩|⟨aX,aO⟩
   ·refine Al f Z aX ?_
    refine Ap ?_
    refine Ak (Af ?_)
    refine Ac f Z λa f=>Aa (Ag ?_)
    have⟨aY,aZ,aO⟩:=bind_some aO
    refine AM (λa w=>∃a2:Int,a2=aY∧∃(a3:GH),GLe aV a3∧Fr a 54 [(1,(pb ad)),(4,av),(5,aL),(6,(iv a2))]∧Mem W a3 w (ib ad 26 [aa]::aK::aM::H)) ?_ ?_
    ·refine Ak ?_
     refine AL (λa4 a w=>∃a5:Int,a5=a4∧∃(a6:GH),GLe aV a6∧Fr a 54 [(1,(pb ad)),(4,av),(5,aL),(6,(iv a5))]∧Mem W a6 w (ib ad 26 [aa]::aK::aM::H)) aZ ⟨_,Z,_,gr,f.k Z,m⟩ ?_
     clear aZ f m
     rintro a4 a7 a8 a9 a w ⟨a5,rfl,a6,ba,f,m⟩
     have ac:=rd2 ba ac
     have aR:=Ow.mono RB.mono ba aR
     refine Ag (Ag ?_)
     refine A2 19 AG (by kernel_rfl) m ?_
     refine Ah 0 19 Z f Z λa f=>Bx (i:=1) (ds:=[aa]) 19 0 AI Z Z Z Z (by kernel_rfl) Z f Z Z Z λa f=> ?_
     have⟨bb,bc,a8⟩:=bind_some a8
     refine AW (i:=2) 19 Z (by kernel_rfl) Z f Z Z Z call31 (λ_ _ w bd m=>Wk.b m (rd2 bd ac) bc) λa f=>q_p 3 19 Z f (λ_=>AF (f.e Z) (f.e Z) AR) λa f=>Ah 4 19 Z f Z λa f=> ?_
     rcases Ae a8 with⟨be,a8⟩|⟨be,a8⟩
     ·refine Ah (hw:=wo f be) 5 19 Z f Z λa f=> ?_
      refine Ah (hw:=wo f be) 6 19 Z f Z λa f=> ?_
      have⟨bf,bg,a8⟩:=bind_some a8
      refine AV (hw:=wo f be) 7 19 1 m aR T71 bg Z f Z Z λbh a bi f=>Bd (hw:=wo f be) 8 19 1 aR Pl4 bi bg Z f Z λbj a bk f=> ?_
      subst bk
      refine Ah (hw:=wo f be) 9 19 Z f Z λa f=> ?_
      rcases Ae a8 with⟨bl,a8⟩|⟨bl,a8⟩
      ·refine Am 10 19 Z f bl λa f=> ?_
       refine Am 11 19 Z f bl λa f=>Am 12 19 Z f bl λa f=>Am 13 19 Z f bl λa f=>Am 14 19 Z f bl λa f=>Am 15 19 Z f bl λa f=>Am 16 19 Z f bl λa f=>q_p (hw:=wo f be) 17 19 Z f (λ_=>AK (f.e Z) bl (f.e Z)) λa f=>q_p 18 19 Z f (λ_=>AK (f.e Z) be (f.e Z)) λa f=>AJ λbm w bn m=>Aa ?_
       refine Al f Z Z ?_
       refine Ap ?_
       refine Ak (Ao ?_)
       refine Ab f Z λa f=>Ai f Z Z Ax λa f=>Ac f Z λa f=>Aa ?_
       obtain rfl:=sj a8
       exact⟨_,Z,_,Z,_,(gt ba bn),f.k Z,m⟩
      ·refine Bx (i:=10) (ds:=[aa]) 19 0 AI Z Z Z Z (by kernel_rfl) Z f (Ba f Z Z Z bl) Z Z λa f=> ?_
       refine Bx (i:=11) (ds:=[aa]) 19 0 AI Z Z Z Z (by kernel_rfl) Z f (Ba f Z Z Z bl) Z Z λa f=>Ah (hw:=wo f bl) 12 19 Z f Z λa f=>Ah (hw:=wo f bl) 13 19 Z f Z λa f=>AU 14 Z λbo w bp m bq bq=> ?_
       have ac:=rd2 bp ac
       have aR:=Ow.mono RB.mono bp aR
       refine AC f bl ?_
       have⟨br,bs,a8⟩:=bind_some a8
       refine AD f Z call53 (Ow.lendCall RB.mono 1 aR m Z (λbt bu m bv=>Wk.E m (rd2 bu ac) bv bs) (λ_ G' _ _ ⟨a0,a1,e1,e2,o0⟩=>⟨a0,a1,e1,e2,Ow.free (RI.free _) G' o0⟩)) λbw bx bz w bA m bB a f=> ?_
       obtain⟨bC,bD,rfl,rfl,bE⟩:=bB
       have ac:=rd2 bA ac
       refine Aa ?_
       refine bq bx [bD] _ _ bA m ?_
       refine AU 15 Z λbF w bG m bH bH=> ?_
       have ac:=rd2 bG ac
       have bE:=od1 bG bE
       refine AC f bl ?_
       have⟨bI,bJ,a8⟩:=bind_some a8
       refine AD f Z call52 (Ow.lendCall (RI.mono _) 0 bE m Z (λbK bL m bM=>Wk.N m (rd2 bL ac) bM bJ) (λ_ _ _ _ h=>h)) λbN bO bP w bQ m bR a f=> ?_
       obtain⟨rfl,rfl⟩:=bR
       refine Aa ?_
       refine bH bO [bD] _ _ bQ m ?_
       refine q_p (hw:=wo f bl) 16 19 Z f (λ_=>Bh (f.e Z)) λa f=>q_p (hw:=wo f be) 17 19 Z f (λ_=>AP (f.e Z) bl (f.e Z)) λa f=>q_p 18 19 Z f (λ_=>AK (f.e Z) be (f.e Z)) λa f=>AJ λbS w bT m=>Aa ?_
       rcases Ae a8 with⟨bU,a8⟩|⟨bU,a8⟩
       ·refine Al f Z bU ?_
        refine Ap ?_
        refine Ak (Ao ?_)
        refine Ab f Z λa f=>Ai f Z Z Ax λa f=>Ac f Z λa f=>Aa ?_
        have m:=m.fr 3
        have m:=m.fr 3
        have m:Mem W bS w (ib ad 26 [aa]::aK::aM::bD::H):=m.fr 3
        have m:=m.eraseAt 3
        obtain rfl:=sj a8
        exact⟨_,Z,_,Z,_,(gt ba (gt bp (gt bA (gt bG (gt bQ bT))))),f.k Z,m⟩
       ·refine Aj f Z bU ?_
        refine AH Z ?_
        have m:=m.fr 3
        have m:=m.fr 3
        have m:Mem W bS w (ib ad 26 [aa]::aK::aM::bD::H):=m.fr 3
        have m:=m.eraseAt 3
        obtain rfl:=sj a8
        obtain rfl:=a9 _ rfl
        exact⟨_,Z,_,(gt ba (gt bp (gt bA (gt bG (gt bQ bT))))),f.k Z,m⟩
     ·refine Am 5 19 Z f be λa f=> ?_
      refine Am 6 19 Z f be λa f=>Am 7 19 Z f be λa f=>Am 8 19 Z f be λa f=>Am 9 19 Z f be λa f=>Bw 10 19 Z f λa f=>Bw 11 19 Z f λa f=>Bw 12 19 Z f λa f=>Bw 13 19 Z f λa f=>Bw 14 19 Z f λa f=>Bw 15 19 Z f λa f=>Bw 16 19 Z f λa f=>Am 17 19 Z f be λa f=>q_p 18 19 Z f (λ_=>AP (f.e Z) be (f.e Z)) λa f=>AJ λbV w bW m=>Aa ?_
      refine Aj f Z Z ?_
      refine AH Z ?_
      obtain rfl:=sj a8
      obtain rfl:=a9 _ rfl
      exact⟨_,Z,_,(gt ba bW),f.k Z,m⟩
    ·rintro a w ⟨a2,rfl,a3,bX,f,m⟩
     have ac:=rd2 bX ac
     have aR:=Ow.mono RB.mono bX aR
     have aS:=od1 bX aS
     refine Ag (Af ?_)
     refine Ab f Z λa f=>Az 0 0 (ds:=[aa]) m AI f Z Z Z Z Z λa f=> ?_
     have⟨bY,bZ,aO⟩:=bind_some aO
     refine Bc f Z call31 (Wk.b m ac bZ) λb0 w b1 m a f=> ?_
     have aR:=Ow.mono RB.mono b1 aR
     have aS:=od1 b1 aS
     refine Ai f Z Z By λa f=>Aa ?_
     rcases Ae aO with⟨b2,aO⟩|⟨b2,aO⟩
     ·refine Al f Z b2 ?_
      refine Af ?_
      refine A4 (R:=R0) (xs:=([]:LI)) (RI.one _) m T28 f Z Z Z (by decide) (All2.nil _) λb3 b4 w a m b5 f=>Ac f Z λa f=>Ac f Z λa f=>Aa ?_
      refine Aq ?_
      have m:=m.eraseAt 3
      have m:=m.eraseAt 2
      have m:=m.eraseAt 1
      obtain rfl:=sj aO
      obtain rfl:=aP _ rfl
      obtain rfl:=sj hd
      exact⟨[b4,(.bool false)],⟨f.get _ _ Z,f.get _ _ Z,trivial⟩,f.d,_,[b3],(gt ah (gt ap (gt aQ (gt aW (gt bX b1))))),m,_,_,Z,Z,b5⟩
     ·refine Aj f Z b2 ?_
      refine Ap ?_
      refine Af ?_
      refine Ab f Z λa f=>Ab f Z λa f=> ?_
      have⟨b6,b7,aO⟩:=bind_some aO
      refine A5 1 m aR Z T71 f Z Z Z b7 λb8 a b9 f=>AO 1 m aR Z sizeOf4 f Z Z b9 b7 Z Z Z λca w m cb=>Aa (Ao ?_)
      refine Ab f Z λa f=>Ab f Z λa f=>A4 (R:=R0) (xs:=([a2]:LI)) (RI.one _) m T28 f Z Z Z (by decide) (All2.cons Z (All2.nil _)) λcc cd w a m ce f=> ?_
      have⟨cf,cg,aO⟩:=bind_some aO
      refine A6 (RI.one _) 3 m aS Z T28 Z (by decide) f Z Z Z (Ow.src (j:=0) ce m Z) cg λch ci w a m cj f=>Ac f Z λa f=>Aa ?_
      have m:=m.fr 3
      have m:=m.fr 3
      have m:Mem W b0 w (ib ad 26 [aa]::ca::ch::cc::H):=m.fr 3
      have m:=m.eraseAt 3
      obtain rfl:=sj aO
      exact⟨_,Z,_,_,Z,_,ca,ci,ch,(gt aQ (gt aW (gt bX b1))),f.k Z,m,cb,cj⟩
   ·refine Aj f Z aX ?_
    refine AH Z ?_
    have m:=m.fr 2
    have m:=m.eraseAt 2
    have m:=m.eraseAt 1
    obtain rfl:=sj aO
    obtain rfl:=aP _ rfl
    exact⟨_,Z,_,Z,_,aL,aM,(gt aQ aW),f.k Z,m,aS⟩
  ·rintro a w ⟨_,rfl,aC,rfl,aD,aE,aF,ck,f,m,cl⟩
   refine Af ?_
   refine Ab f Z λa f=>Ac f Z λa f=>Ac f Z λa f=>Aa ?_
   refine Aq ?_
   obtain rfl:=sj hd
   exact⟨[aE,(.bool true)],⟨f.get _ _ Z,f.get _ _ Z,trivial⟩,f.d,_,[aF],(gt ah (gt ap ck)),m,_,_,Z,Z,cl⟩
theorem Wk.t0 {v0 v1:Value}{x0 x1:LI}(m:Mem W G w (H))(h0:R1 G v0 x0)(h1:R1 G v1 x1){y:Bool}(hd:D.t0 x0 x1=some y):
  Calls prog 30 #[v0,v1] w (Res W G H (λ_ Ho v=>Ho=[]∧v=(.bool y))):=by
 refine Au (args:=[v0,v1]) (N:=26) [.tmp 4] func30 Z Z (lb Z) Z λa f=> ?_
 unfold D.t0 at hd
 refine Af ?_
 refine Ac f Z λa f=>Aa (Ag (Af ?_))
 refine Ab f Z λa f=>A8 underlying28 f Z Z h0 λa f=>Ab f Z λa f=>A8 underlying28 f Z Z h1 λa f=>Ai f Z Z DG λa f=>Aa ?_
 rcases Ae hd with⟨aa,hd⟩|⟨aa,hd⟩
 ·refine Al f Z aa ?_
  refine Af ?_
  refine Ac f Z λa f=>Aa ?_
  refine Aq ?_
  obtain rfl:=sj hd
  exact⟨[(.bool false)],f.g Z,f.d,_,[],gr,m,Z,Z⟩
 ·refine Aj f Z aa ?_
  refine Ap ?_
  refine Ag (Af ?_)
  refine Ac f Z λa f=>Aa ?_
  have⟨ab,ac,hd⟩:=bind_some hd
  refine AM (λa w=>∃q_36':Unit,ab= .inl q_36'∧∃(ad:GH),GLe G ad∧Fr a 26 []∧Mem W ad w (H)) ?_ ?_
  ·refine Ak ?_
   refine AL (λae a w=>∃af:Int,af=ae∧∃(ag:GH),GLe G ag∧Fr a 26 [(0,v0),(1,v1),(5,(iv af))]∧Mem W ag w (H)) ac ⟨_,Z,_,gr,f.k Z,m⟩ ?_
   clear ac f m
   rintro ae ah ai aj a w ⟨af,rfl,ag,ak,f,m⟩
   have h0:=rd1 ak h0
   have h1:=rd1 ak h1
   refine Ag (Af ?_)
   refine Ab f Z λa f=>Ab f Z λa f=>A8 underlying28 f Z Z h0 λa f=>Ai f Z Z AR λa f=>Aa ?_
   rcases Ae ai with⟨al,ai⟩|⟨al,ai⟩
   ·refine Al f Z al ?_
    refine Ap ?_
    refine Ag (Ak (Ag ?_))
    refine A2 9 AG (by kernel_rfl) m ?_
    refine Ah 0 9 Z f Z λa f=>Ah 1 9 Z f Z λa f=> ?_
    have⟨am,an,ai⟩:=bind_some ai
    refine BF 2 9 T28 h0 an Z f Z Z λao ap a aq ar f=> ?_
    subst ar
    refine BG 3 9 Pl2 aq Z f Z λa f=>Ah 4 9 Z f Z λa f=>Ah 5 9 Z f Z λa f=> ?_
    have⟨au,av,ai⟩:=bind_some ai
    refine BF 6 9 T28 h1 av Z f Z Z λaw ax a ay az f=> ?_
    subst az
    refine BG 7 9 Pl2 ay Z f Z λa f=>q_p 8 9 Z f (λ_=>AF (f.e Z) (f.e Z) DG) λa f=>AJ λaA w aB m=>Aa ?_
    rcases Ae ai with⟨aC,ai⟩|⟨aC,ai⟩
    ·refine Al f Z aC ?_
     refine Af ?_
     refine Ac f Z λa f=>Aa ?_
     refine Aq ?_
     obtain rfl:=sj ai
     obtain rfl:=aj _ rfl
     obtain rfl:=sj hd
     exact⟨[(.bool false)],f.g Z,f.d,_,[],(gt ak aB),m,Z,Z⟩
    ·refine Aj f Z aC ?_
     refine Ap ?_
     refine Ao ?_
     refine Ab f Z λa f=>Ai f Z Z Ax λa f=>Ac f Z λa f=>Aa ?_
     obtain rfl:=sj ai
     exact⟨_,Z,_,Z,_,(gt ak aB),f.k Z,m⟩
   ·refine Aj f Z al ?_
    refine AH Z ?_
    obtain rfl:=sj ai
    obtain rfl:=aj _ rfl
    exact⟨_,Z,_,ak,f.weak trivial,m⟩
  ·rintro a w ⟨_,rfl,ad,aD,f,m⟩
   refine Af ?_
   refine Ac f Z λa f=>Aa ?_
   refine Aq ?_
   obtain rfl:=sj hd
   exact⟨[(.bool true)],f.g Z,f.d,_,[],aD,m,Z,Z⟩
theorem Wk.B {aa v1:Value}{ab:LL}{x1:LI}(m:Mem W G w (H))(ac:R2 G aa ab)(h1:R1 G v1 x1){y:Bool}(hd:D.B ab x1=some y):
  Calls prog 8 #[(.agg #[aa]),v1] w (Res W G H (λ_ Ho v=>Ho=[]∧v=(.bool y))):=by
 refine Au (args:=[(.agg #[aa]),v1]) (N:=15) [.tmp 4] func8 Z Z (lb Z) Z λa f=> ?_
 unfold D.B at hd
 refine Af ?_
 refine Bj (cs:=[aa]) m f Z Z Z λad w a m f=>Ac f Z λa f=>AB ?_
 refine Az 0 0 (ds:=[aa]) m AI f Z Z Z Z Z λa f=> ?_
 have⟨ae,af,hd⟩:=bind_some hd
 refine AD f Z call29 (Wk.P m ac af) λag ah ai w aj m ak a f=> ?_
 obtain⟨al,am,rfl,rfl,an⟩:=ak
 have h1:=rd1 aj h1
 refine Ab f Z λa f=>l_o f (AZ (f.e Z) Z) λa f=>l_o f (AZ (f.e Z) Z) λa f=>Ac f Z λa f=>Ac f Z λa f=>AB ?_
 refine Ab f Z λa f=>Ab f Z λa f=> ?_
 have⟨ao,ap,hd⟩:=bind_some hd
 refine AD f Z call30 (Ow.lendCall (RI.mono _) 0 an m Z (λaq ar m au=>Wk.t0 m (rd1 ar h1) au ap) (λ_ _ _ _ h=>h)) λav aw ax w ay m az a f=> ?_
 obtain⟨rfl,rfl⟩:=az
 refine Ac f Z λa f=>Aa ?_
 refine Aq ?_
 have m:Mem W aw w H:=Mem.drop (H':=[am,ib ad 26 [aa]]) m
 obtain rfl:=sj hd
 exact⟨[(.bool ao)],f.g Z,f.d,_,[],(gt aj ay),m,Z,Z⟩
theorem Wk.w0 {aa:Value}{ab:LL}(m:Mem W G w (H))(ac:R2 G aa ab){y:(LL)}(hd:D.w0 ab=some y):
  Calls prog 75 #[(.agg #[aa])] w (Res W G H (λG' Ho v=>∃r0:Value,∃i0:Itm,Ho=[i0]∧r0=v∧Ow R1 28 G' i0 r0 y)):=by
 refine Au (args:=[(.agg #[aa])]) (N:=47) [.tmp 2] func75 Z Z (lb Z) Z λa f=> ?_
 unfold D.w0 at hd
 refine Af ?_
 refine Bj (cs:=[aa]) m f Z Z Z λad w a m f=>Ac f Z λa f=>AB ?_
 refine A4 (R:=R1) (xs:=([]:LL)) (RSl.one _) m T24 f Z Z Z (by decide) (All2.nil _) λae af w a m ag f=>Ac f Z λa f=>Aa (Ag (Af ?_))
 refine Ac f Z λa f=>Aa ?_
 have⟨ah,ai,hd⟩:=bind_some hd
 refine AM (λa w=>∃aj:LL,aj=ah∧∃(ak:GH) (al:Value) (am:Itm),GLe G ak∧Fr a 47 [(3,al)]∧Mem W ak w (am::H)∧Ow R1 28 ak am al aj) ?_ ?_
 ·refine Ak ?_
  have m:=m.fr 1
  refine AL (λan a w=>∃ao:LL,∃ap:Int,(ao,ap)=an∧∃(aq:GH) (ar:Value) (au:Itm),GLe G aq∧Fr a 47 [(1,(pb ad)),(3,ar),(4,(iv ap))]∧Mem W aq w (ib ad 26 [aa]::au::H)∧Ow R1 28 aq au ar ao) ai ⟨_,_,Z,_,af,ae,gr,f.k Z,m,ag⟩ ?_
  clear ai f m
  rintro an av aw ax a w ⟨ao,ap,rfl,aq,ar,au,ay,f,m,az⟩
  have ac:=rd2 ay ac
  refine Ag (Af ?_)
  refine Ab f Z λa f=>Az 0 0 (ds:=[aa]) m AI f Z Z Z Z Z λa f=> ?_
  have⟨aA,aB,aw⟩:=bind_some aw
  refine Bc f Z call31 (Wk.b m ac aB) λaC w aD m a f=> ?_
  have ac:=rd2 aD ac
  have az:=Ow.mono (RSl.mono (RI.mono _)) aD az
  refine Ai f Z Z AR λa f=>Aa ?_
  rcases Ae aw with⟨aE,aw⟩|⟨aE,aw⟩
  ·refine Al f Z aE ?_
   refine Ap ?_
   refine Ag (Ak (Af ?_))
   refine Ac f Z λa f=>Aa ?_
   have⟨aF,aG,aw⟩:=bind_some aw
   refine AM (λa w=>∃aH:LL,aH=aF∧∃(aI:GH) (aJ:Value) (aK:Itm),GLe aC aI∧Fr a 47 [(1,(pb ad)),(3,aJ),(4,(iv ap))]∧Mem W aI w (ib ad 26 [aa]::aK::H)∧Ow R1 28 aI aK aJ aH) ?_ ?_
   ·refine Ak ?_
    refine AL (λaL a w=>∃aM:LL,∃aN:Int,(aM,aN)=aL∧∃(aO:GH) (aP:Value) (aQ:Itm),GLe aC aO∧Fr a 47 [(1,(pb ad)),(3,aP),(4,(iv ap)),(5,(iv aN))]∧Mem W aO w (ib ad 26 [aa]::aQ::H)∧Ow R1 28 aO aQ aP aM) aG ⟨_,_,Z,_,ar,au,gr,f.k Z,m,az⟩ ?_
    clear aG f m
    rintro aL aR aS aT a w ⟨aM,aN,rfl,aO,aP,aQ,aU,f,m,aV⟩
    have ac:=rd2 aU ac
    refine Ag (Af ?_)
    refine Ab f Z λa f=>Bo underlying26 Z sizeOf24 f Z λa f=>AA 0 0 m Bt f Z Z Z Z λa f=>Ab f Z λa f=> ?_
    have⟨aW,aX,aS⟩:=bind_some aS
    refine Bu T24 f Z Z Z ac aX λaY aZ a a0 a1 f=>AT m B3 f Z Z a0 λa f=>A8 underlying28 f Z Z a1 λa f=>Ai f Z Z AR λa f=>Aa ?_
    rcases Ae aS with⟨a2,aS⟩|⟨a2,aS⟩
    ·refine Al f Z a2 ?_
     refine Ap ?_
     refine Ag (Ak (Af ?_))
     refine Bo underlying26 Z sizeOf24 f Z λa f=>AA 0 0 m Bt f Z Z Z Z λa f=>Ab f Z λa f=> ?_
     have⟨a3,a4,aS⟩:=bind_some aS
     refine Bu T24 f Z Z Z ac a4 λa5 a6 a a7 a8 f=>AT m B3 f Z Z a7 λa f=>Ab f Z λa f=> ?_
     have⟨a9,ba,aS⟩:=bind_some aS
     refine Bu T28 f Z Z Z a8 ba λbb bc a bd be f=> ?_
     subst be
     refine AT m Pl2 f Z Z bd λa f=>Ab f Z λa f=>Ai f Z Z Ce λa f=>Aa ?_
     rcases Ae aS with⟨bf,aS⟩|⟨bf,aS⟩
     ·refine Al f Z bf ?_
      refine Ao ?_
      refine Ab f Z λa f=>Ab f Z λa f=>Bo underlying26 Z sizeOf24 f Z λa f=>AA 0 0 m Bt f Z Z Z Z λa f=>Ab f Z λa f=> ?_
      have⟨bg,bh,aS⟩:=bind_some aS
      refine Bu T24 f Z Z Z ac bh λbi bj a bk bl f=>AT m B3 f Z Z bk λa f=>Ab f Z λa f=> ?_
      have⟨bm,bn,aS⟩:=bind_some aS
      refine Bu T28 f Z Z Z bl bn λbo bp a bq br f=> ?_
      subst br
      refine AT m Pl2 f Z Z bq λa f=>A4 (R:=R0) (xs:=([ap,bm]:LI)) (RI.one _) m T28 f Z Z Z (by decide) (All2.cons Z (All2.cons Z (All2.nil _))) λbs bt w a m bu f=> ?_
      obtain⟨bv,bw,m,bx⟩:=Ow.stamp (RI.mono _) bu m
      have aV:=Ow.mono (RSl.mono (RI.mono _)) bw aV
      refine A4 (R:=R1) (xs:=([([ap,bm]:LI)]:LL)) (RSl.one _) m T24 f Z Z Z (by decide) (All2.cons bx (All2.nil _)) λbz bA w a m bB f=> ?_
      have⟨bC,bD,aS⟩:=bind_some aS
      refine A6 (RSl.one _) 2 m aV Z T24 Z (by decide) f Z Z Z (Ow.src (j:=0) bB m Z) bD λbE bF w a m bG f=>Ac f Z λa f=>Aa (Ao ?_)
      refine Ab f Z λa f=>Ai f Z Z Ax λa f=>Ac f Z λa f=>Aa ?_
      have m:=m.fr 2
      have m:=m.fr 2
      have m:=m.eraseAt 2
      obtain rfl:=sj aS
      exact⟨_,Z,_,_,Z,_,bF,bE,(gt aU bw),f.k Z,m,bG⟩
     ·refine Aj f Z bf ?_
      refine Ap ?_
      refine Ao ?_
      refine Ab f Z λa f=>Ai f Z Z Ax λa f=>Ac f Z λa f=>Aa ?_
      obtain rfl:=sj aS
      exact⟨_,Z,_,_,Z,_,aP,aQ,aU,f.k Z,m,aV⟩
    ·refine Aj f Z a2 ?_
     refine AH Z ?_
     obtain rfl:=sj aS
     obtain rfl:=aT _ rfl
     exact⟨_,Z,_,aP,aQ,aU,f.k Z,m,aV⟩
   ·rintro a w ⟨aH,rfl,aI,aJ,aK,bH,f,m,bI⟩
    refine Ao ?_
    refine Ab f Z λa f=>Ai f Z Z Ax λa f=>Ac f Z λa f=>Aa ?_
    obtain rfl:=sj aw
    exact⟨_,Z,_,_,Z,_,aJ,aK,(gt ay (gt aD bH)),f.k Z,m,bI⟩
  ·refine Aj f Z aE ?_
   refine AH Z ?_
   have m:=m.fr 1
   have m:=m.eraseAt 1
   obtain rfl:=sj aw
   obtain rfl:=ax _ rfl
   exact⟨_,Z,_,ar,au,(gt ay aD),f.k Z,m,az⟩
 ·rintro a w ⟨aj,rfl,ak,al,am,bJ,f,m,bK⟩
  refine Af ?_
  refine Ab f Z λa f=>Ac f Z λa f=>Aa ?_
  refine Aq ?_
  obtain rfl:=sj hd
  exact⟨[al],f.g Z,f.d,_,[am],bJ,m,_,_,Z,Z,bK⟩
theorem Wk.b0 {aa:Value}{ab:LL}(m:Mem W G w (H))(ac:R2 G aa ab){y:Int}(hd:D.b0 ab=some y):
  Calls prog 55 #[(.agg #[aa])] w (Res W G H (λ_ Ho v=>Ho=[]∧v=(iv y))):=by
 refine Au (args:=[(.agg #[aa])]) (N:=9) [.tmp 2] func55 Z Z (lb Z) Z λa f=> ?_
 unfold D.b0 at hd
 refine Af ?_
 refine Bj (cs:=[aa]) m f Z Z Z λad w a m f=>Ac f Z λa f=>Aa (Ag (Af ?_))
 refine Az 0 0 (ds:=[aa]) m AI f Z Z Z Z Z λa f=> ?_
 have⟨ae,af,hd⟩:=bind_some hd
 refine Bc f Z call10 (Wk.p m ac af) λag w ah m a f=> ?_
 have ac:=rd2 ah ac
 refine l_o f (Bh (f.e Z)) λa f=>Aa ?_
 rcases Ae hd with⟨ai,hd⟩|⟨ai,hd⟩
 ·refine Al f Z ai ?_
  refine Af ?_
  refine Ac f Z λa f=>Aa ?_
  refine Aq ?_
  have m:Mem W ag w H:=Mem.drop (H':=[ib ad 26 [aa]]) m
  obtain rfl:=sj hd
  exact⟨[(iv 0)],f.g Z,f.d,_,[],ah,m,Z,Z⟩
 ·refine Aj f Z ai ?_
  refine Ap ?_
  refine Af ?_
  refine Az 0 0 (ds:=[aa]) m AI f Z Z Z Z Z λa f=> ?_
  have⟨aj,ak,hd⟩:=bind_some hd
  refine AD f Z call75 (Wk.w0 m ac ak) λal am an w ao m ap a f=> ?_
  obtain⟨aq,ar,rfl,rfl,au⟩:=ap
  refine Bv 0 m au Z underlying24 f Z Z λa f=>Ac f Z λa f=>Aa ?_
  refine Aq ?_
  have m:Mem W am w H:=Mem.drop (H':=[ar,ib ad 26 [aa]]) m
  obtain rfl:=sj hd
  exact⟨[(iv (aj.length:Int))],f.g Z,f.d,_,[],(gt ah ao),m,Z,Z⟩
theorem Wk.t1 {aa v1:Value}{ab:LL}{x1:LI}(m:Mem W G w (H))(ac:R2 G aa ab)(h1:R1 G v1 x1){y:Int}(hd:D.t1 ab x1=some y):
  Calls prog 35 #[(.agg #[aa]),v1] w (Res W G H (λ_ Ho v=>Ho=[]∧v=(iv y))):=by
 refine Au (args:=[(.agg #[aa]),v1]) (N:=16) [.tmp 4] func35 Z Z (lb Z) Z λa f=> ?_
 unfold D.t1 at hd
 refine Af ?_
 refine Bj (cs:=[aa]) m f Z Z Z λad w a m f=>Ac f Z λa f=>Aa (Ag (Af ?_))
 refine Az 0 0 (ds:=[aa]) m AI f Z Z Z Z Z λa f=>Ab f Z λa f=> ?_
 have⟨ae,af,hd⟩:=bind_some hd
 refine Bc f Z call54 (Wk.i0 m ac h1 af) λag w ah m a f=> ?_
 have ac:=rd2 ah ac
 have h1:=rd1 ah h1
 refine l_o f (Bh (f.e Z)) λa f=>Aa ?_
 rcases Ae hd with⟨ai,hd⟩|⟨ai,hd⟩
 ·refine Al f Z ai ?_
  refine Af ?_
  refine Ac f Z λa f=>Aa ?_
  refine Aq ?_
  have m:Mem W ag w H:=Mem.drop (H':=[ib ad 26 [aa]]) m
  obtain rfl:=sj hd
  exact⟨[(iv (-1))],f.g Z,f.d,_,[],ah,m,Z,Z⟩
 ·refine Aj f Z ai ?_
  refine Ap ?_
  refine Ag ?_
  refine A2 8 AG (by kernel_rfl) m ?_
  refine Bx (i:=0) (ds:=[aa]) 8 0 AI Z Z Z Z (by kernel_rfl) Z f Z Z Z λa f=>Ah 1 8 Z f Z λa f=>Bx (i:=4) (ds:=[aa]) 8 0 AI Z Z Z Z (by kernel_rfl) Z f Z Z Z λa f=>AU 2 Z λaj w ak m al al=> ?_
  have ac:=rd2 ak ac
  have h1:=rd1 ak h1
  have⟨am,an,hd⟩:=bind_some hd
  refine AD f Z call56 (Wk.x m ac h1 an) λao ap aq w ar m au a f=> ?_
  obtain⟨av,aw,rfl,rfl,ax⟩:=au
  have ac:=rd2 ar ac
  refine Aa ?_
  refine al ap [aw] _ _ ar m ?_
  refine AU 3 Z λay w az m aA aA=> ?_
  have ac:=rd2 az ac
  have ax:=Ow.mono (RSl.mono (RI.mono _)) az ax
  have⟨aB,aC,hd⟩:=bind_some hd
  refine AD f Z call55 (Ow.lendCall (RSl.mono (RI.mono _)) 0 ax m Z (λaD aE m aF=>Wk.b0 m aF aC) (λ_ _ _ _ h=>h)) λaG aH aI w aJ m aK a f=> ?_
  obtain⟨rfl,rfl⟩:=aK
  have ac:=rd2 aJ ac
  refine Aa ?_
  refine aA aH [aw] _ _ aJ m ?_
  have⟨aL,aM,hd⟩:=bind_some hd
  refine AW (i:=5) 8 Z (by kernel_rfl) Z f Z Z Z call55 (λ_ _ w aN m=>Wk.b0 m (rd2 aN ac) aM) λa f=>q_p 6 8 Z f (λ_=>AF (f.e Z) (f.e Z) AS) λa f=>q_p 7 8 Z f (λ_=>Ct (f.e Z)) λa f=>AJ λaO w aP m=>Aa ?_
  refine Aq ?_
  have m:Mem W aO w H:=Mem.drop (H':=[aw,ib ad 26 [aa]]) m
  obtain rfl:=sj hd
  exact⟨[(iv (i64.wrap (aB-aL)))],f.g Z,f.d,_,[],(gt ah (gt ak (gt ar (gt az (gt aJ aP))))),m,Z,Z⟩
theorem Wk.Z0 {aa v1:Value}{ab:LL}{x1:LI}(m:Mem W G w (H))(ac:R2 G aa ab)(h1:R1 G v1 x1){y:Bool}(hd:D.Z0 ab x1=some y):
  Calls prog 11 #[(.agg #[aa]),v1] w (Res W G H (λ_ Ho v=>Ho=[]∧v=(.bool y))):=by
 refine Au (args:=[(.agg #[aa]),v1]) (N:=9) [.tmp 4] func11 Z Z (lb Z) Z λa f=> ?_
 unfold D.Z0 at hd
 refine Af ?_
 refine Bj (cs:=[aa]) m f Z Z Z λad w a m f=>Ac f Z λa f=>AB ?_
 refine Az 0 0 (ds:=[aa]) m AI f Z Z Z Z Z λa f=>Ab f Z λa f=> ?_
 have⟨ae,af,hd⟩:=bind_some hd
 refine Bc f Z call35 (Wk.t1 m ac h1 af) λag w ah m a f=>Ai f Z Z By λa f=>Ac f Z λa f=>Aa ?_
 refine Aq ?_
 have m:Mem W ag w H:=Mem.drop (H':=[ib ad 26 [aa]]) m
 obtain rfl:=sj hd
 exact⟨[(.bool (ae==0))],f.g Z,f.d,_,[],ah,m,Z,Z⟩
theorem Wk.n0 {aa v1:Value}{ab:LL}{x1:LI}(m:Mem W G w (H))(ac:R2 G aa ab)(h1:R1 G v1 x1){y:Bool}(hd:D.n0 ab x1=some y):
  Calls prog 78 #[(.agg #[aa]),v1] w (Res W G H (λ_ Ho v=>Ho=[]∧v=(.bool y))):=by
 refine Au (args:=[(.agg #[aa]),v1]) (N:=25) [.tmp 4] func78 Z Z (lb Z) Z λa f=> ?_
 unfold D.n0 at hd
 refine Af ?_
 refine Bj (cs:=[aa]) m f Z Z Z λad w a m f=>Ac f Z λa f=>Aa (Ag (Af ?_))
 refine Az 0 0 (ds:=[aa]) m AI f Z Z Z Z Z λa f=> ?_
 have⟨ae,af,hd⟩:=bind_some hd
 refine Bc f Z call21 (Wk.l m ac af) λag w ah m a f=> ?_
 have ac:=rd2 ah ac
 have h1:=rd1 ah h1
 refine l_o f (Bh (f.e Z)) λa f=>Ab f Z λa f=> ?_
 refine Bz 7 (λa w=>∃ai,GLe ag ai∧Mem W ai w (ib ad 26 [aa]::H)∧Fr a 25 [(0,(.agg #[aa])),(1,v1),(2,(pb ad)),(6,(.agg #[aa])),(7,(.bool ae)),(8,(.bool (!ae))),(9,(.bool (!ae))),(16,(.bool ((!ae)||((x1.length:Int) !=(ab.length:Int)))))]) ?_ ?_
 ·rcases Bool.eq_false_or_eq_true (!ae) with aj|aj
  ·refine AE f aj λa f=> ?_
   refine AE f aj λa f=>AE f aj λa f=>AE f aj λa f=>AE f aj λa f=>AE f aj λa f=>l_o f (AK (f.e Z) aj (f.e Z)) λa f=> ?_
   exact⟨_,gr,m,f.weak ⟨Z,Z,Z,Z,Z,Z,Z,by rw[aj];rfl,trivial⟩⟩
  ·refine AC f aj ?_
   refine Ab f Z λa f=>AC f aj ?_
   refine A8 underlying28 f Z Z h1 λa f=>AC f aj ?_
   refine Bo underlying26 Z sizeOf24 f Z λa f=>AC f aj ?_
   refine AA 0 0 m Bt f Z Z Z Z λa f=>AC f aj ?_
   refine A8 underlying24 f Z Z ac λa f=>AC f aj ?_
   refine Ai f Z Z DG λa f=>l_o f (AP (f.e Z) aj (f.e Z)) λa f=> ?_
   exact⟨_,gr,m,f.weak ⟨Z,Z,Z,Z,Z,Z,Z,by rw[aj];rfl,trivial⟩⟩
 ·rintro a w ⟨ai,ak,m,f⟩
  have ac:=rd2 ak ac
  have h1:=rd1 ak h1
  refine Aa ?_
  rcases Ae hd with⟨al,hd⟩|⟨al,hd⟩
  ·refine Al f Z al ?_
   refine Af ?_
   refine Ac f Z λa f=>Aa ?_
   refine Aq ?_
   have m:Mem W ai w H:=Mem.drop (H':=[ib ad 26 [aa]]) m
   obtain rfl:=sj hd
   exact⟨[(.bool false)],f.g Z,f.d,_,[],(gt ah ak),m,Z,Z⟩
  ·refine Aj f Z al ?_
   refine Ap ?_
   refine Af ?_
   refine Ab f Z λa f=>AD f Z call93 (Wk.B1 m h1) λam an ao w ap m aq a f=> ?_
   obtain⟨ar,rfl,rfl⟩:=aq
   have ac:=rd2 ap ac
   have h1:=rd1 ap h1
   have⟨au,av,hd⟩:=bind_some hd
   refine AD f Z call92 (Wk.F0 m h1 av) λaw ax ay w az m aA a f=> ?_
   obtain⟨aB,aC,rfl,rfl,aD⟩:=aA
   have ac:=rd2 az ac
   refine Ac f Z λa f=>AB ?_
   refine Ab f Z λa f=>Bo underlying26 Z sizeOf24 f Z λa f=>AA 1 0 m Bt f Z Z Z Z λa f=>A8 underlying24 f Z Z ac λa f=> ?_
   have⟨aE,aF,hd⟩:=bind_some hd
   refine AD f Z call49 (Ow.lendCall (RI.mono _) 0 aD m Z (λaG aH m aI=>Wk.T m aI aF) (λ_ _ _ _ h=>h)) λaJ aK aL w aM m aN a f=> ?_
   obtain⟨rfl,rfl⟩:=aN
   refine Ac f Z λa f=>Aa ?_
   refine Aq ?_
   have m:Mem W aK w H:=Mem.drop (H':=[aC,ib ad 26 [aa]]) m
   obtain rfl:=sj hd
   exact⟨[(.bool aE)],f.g Z,f.d,_,[],(gt ah (gt ak (gt ap (gt az aM)))),m,Z,Z⟩
theorem Wk.S0 {v0:Value}{x0:LI}(m:Mem W G w (H))(h0:R1 G v0 x0){y:(LI)}(hd:D.S0 x0=some y):
  Calls prog 80 #[v0] w (Res W G H (λG' Ho v=>∃r0:Value,∃i0:Itm,Ho=[i0]∧r0=v∧Ow R0 3 G' i0 r0 y)):=by
 refine Au (args:=[v0]) (N:=21) [.tmp 2] func80 Z Z (lb Z) Z λa f=> ?_
 unfold D.S0 at hd
 refine Af ?_
 refine Ac f Z λa f=>AB ?_
 refine Ab f Z λa f=>A8 underlying28 f Z Z h0 λa f=> ?_
 have⟨aa,ab,hd⟩:=bind_some hd
 refine Dv (R:=R0) m T38 Z (by decide) Z f Z Z Z ab λac ad w a m ae f=>Ac f Z λa f=>Aa (Ag (Af ?_))
 refine Ab f Z λa f=>A8 underlying28 f Z Z h0 λa f=>Ab f Z λa f=>Aa ?_
 have⟨af,ag,hd⟩:=bind_some hd
 refine AM (λa w=>∃ah:LI,ah=af∧∃(ai:GH) (aj:Value) (ak:Itm),GLe G ai∧Fr a 21 [(3,aj)]∧Mem W ai w (ak::H)∧Ow R0 3 ai ak aj ah) ?_ ?_
 ·refine Ak ?_
  refine AL (λal a w=>∃am:LI,∃an:Int,(am,an)=al∧∃(ao:GH) (ap:Value) (aq:Itm),GLe G ao∧Fr a 21 [(3,ap),(9,v0),(10,(iv (x0.length:Int))),(11,(iv an))]∧Mem W ao w (aq::H)∧Ow R0 3 ao aq ap am) ag ⟨_,_,Z,_,ad,ac,gr,f.k Z,m,ae⟩ ?_
  clear ag f m
  rintro al ar au av a w ⟨am,an,rfl,ao,ap,aq,aw,f,m,ax⟩
  have h0:=rd1 aw h0
  refine Af ?_
  refine Ai f Z Z AR λa f=>Aa (Ag ?_)
  rcases Ae au with⟨ay,au⟩|⟨ay,au⟩
  ·refine Al f Z ay ?_
   refine Ap ?_
   refine Ag (Ak (Af ?_))
   have⟨az,aA,au⟩:=bind_some au
   refine Bu T28 f Z Z Z h0 aA λaB aC a aD aE f=> ?_
   subst aE
   refine AT m Pl2 f Z Z aD λa f=>Ac f Z λa f=>Aa (Ao ?_)
   refine Ab f Z λa f=>Ab f Z λa f=>A4 (R:=R0) (xs:=([az]:LI)) (RI.one _) m T38 f Z Z Z (by decide) (All2.cons Z (All2.nil _)) λaF aG w a m aH f=> ?_
   have⟨aI,aJ,au⟩:=bind_some au
   refine A6 (RI.one _) 1 m ax Z T38 Z (by decide) f Z Z Z (Ow.src (j:=0) aH m Z) aJ λaK aL w a m aM f=>Ac f Z λa f=>Aa (Ao ?_)
   refine Ai f Z Z Ax λa f=>Ab f Z λa f=>Aa ?_
   have m:=m.fr 1
   have m:=m.eraseAt 1
   obtain rfl:=sj au
   exact⟨_,Z,_,_,Z,_,aL,aK,aw,f.k Z,m,aM⟩
  ·refine Aj f Z ay ?_
   refine AH Z ?_
   obtain rfl:=sj au
   obtain rfl:=av _ rfl
   exact⟨_,Z,_,ap,aq,aw,f.k Z,m,ax⟩
 ·rintro a w ⟨ah,rfl,ai,aj,ak,aN,f,m,aO⟩
  refine Af ?_
  refine Ab f Z λa f=>Ac f Z λa f=>Aa ?_
  refine Aq ?_
  obtain rfl:=sj hd
  exact⟨[aj],f.g Z,f.d,_,[ak],aN,m,_,_,Z,Z,aO⟩
theorem Wk.R {v0 v1:Value}{x0 x1:LI}(hW:CF W)(m:Mem W G w (H))(h0:RSl (RI .u32) G v0 x0)(h1:R1 G v1 x1){y:(LI)×(LI)}(hd:D.R x0 x1=some y):
  Calls prog 79 #[v0,v1] w (Res W G H (λG' Ho v=>∃r0:Value,∃i0:Itm,∃r2:Value,∃i2:Itm,Ho=[i0,i2]∧v= .tuple #[r0,r2]∧Ow (RI .u32) 44 G' i0 r0 y.1∧Ow (RI .u32) 44 G' i2 r2 y.2)):=by
 refine Au (args:=[v0,v1]) (N:=67) [.tmp 4,.tmp 5] func79 Z Z (lb Z) Z λa f=> ?_
 unfold D.R at hd
 refine Af ?_
 refine Ac f Z λa f=>Ac f Z λa f=>Aa (Ag ?_)
 have⟨aa,ab,hd⟩:=bind_some hd
 refine AM (λa w=>∃ac:LI,∃ad:LI,∃ae:Int,(ac,ad,ae)=aa∧∃(af:GH) (ag:Value) (ah:Itm) (ai:Value) (aj:Itm),GLe G af∧Fr a 67 [(1,v1),(6,ag),(7,ai),(8,(.int .u32 ae))]∧Mem W af w (ah::aj::H)∧Ow (RI .u32) 44 af ah ag ac∧Ow (RI .u32) 44 af aj ai ad) ?_ ?_
 ·refine A2 9 AG (by kernel_rfl) m ?_
  refine Ah 1 9 Z f Z λa f=>Ah 3 9 Z f Z λa f=>q_len (i:=4) 9 underlying41 h0 Z (by kernel_rfl) Z f Z Z Z λa f=>Ah 6 9 Z f Z λa f=>Cs (i:=0) (j:=5) (l1:= #[true,true,false,true,true,false,true,false,false,false,false]) (l2:= #[false,true,false,true,true,true,true,false,false,false,false]) Z Z (by kernel_rfl) Z Z ?_ ?_
  ·intro ak w al m am am
   have h0:=rd1 al h0
   refine A4 (R:=(RI .u32)) (xs:=([]:LI)) (RI.one _) m T41 f Z Z Z (by decide) (All2.nil _) λan ao w a m ap f=>Aa ?_
   refine am ak [an] _ _ gr m ?_
   refine Cs (i:=2) (j:=5) (l1:= #[true,true,true,true,true,false,true,false,false,false,false]) (l2:= #[true,true,false,true,true,true,true,false,false,false,false]) Z Z (by kernel_rfl) Z Z ?_ ?_
   ·intro aq w ar m au au
    have h0:=rd1 ar h0
    have ap:=od1 ar ap
    have⟨av,aw,ab⟩:=bind_some ab
    refine A6 (RI.one _) 0 m ap Z T41 Z (by decide) f Z Z Z (h0.src m) aw λax ay w a m az f=>Aa ?_
    refine au aq [ax] _ _ gr m ?_
    have⟨aA,aB,ab⟩:=bind_some ab
    refine AW (i:=7) 9 Z (by kernel_rfl) Z f Z Z Z call25 (λ_ _ w aC m=>Wk.u m (rd1 aC h0) aB) λa f=>q_p 8 9 Z f (λ_=>Ct (f.e Z)) λa f=>AU 5 Z λaD w aE m aF aF=> ?_
    have az:=od1 aE az
    have⟨aG,aH,ab⟩:=bind_some ab
    refine Dv (R:=(RI .u32)) m T41 Z (by decide) Z f Z Z Z aH λaI aJ w a m aK f=>Aa ?_
    refine aF aD [aI,ax] _ _ gr m ?_
    refine AJ λaL w aM m=> ?_
    have aK:=od1 aM aK
    have az:=od1 aM az
    refine Ac f Z λa f=>Ac f Z λa f=>Aa ?_
    have m:=m.fr 1
    obtain rfl:=sj ab
    exact⟨_,_,_,Z,_,ay,ax,aJ,aI,(gt al (gt ar (gt aE aM))),f.k Z,m,az,aK⟩
   ·intro aD w aE m aF aF
    have⟨av,aw,ab⟩:=bind_some ab
    have⟨aA,aB,ab⟩:=bind_some ab
    have⟨aG,aH,ab⟩:=bind_some ab
    have h0:=rd1 aE h0
    have ap:=od1 aE ap
    refine Dv (R:=(RI .u32)) m T41 Z (by decide) Z f Z Z Z aH λaI aJ w a m aK f=>Aa ?_
    refine aF aD [aI,an] _ _ gr m ?_
    refine AU 2 Z λaq w ar m au au=> ?_
    have h0:=rd1 ar h0
    have aK:=od1 ar aK
    have ap:=od1 ar ap
    refine A6 (RI.one _) 1 m ap Z T41 Z (by decide) f Z Z Z (h0.src m) aw λax ay w a m az f=>Aa ?_
    refine au aq [aI,ax] _ _ gr m ?_
    refine AW (i:=7) 9 Z (by kernel_rfl) Z f Z Z Z call25 (λ_ _ w aC m=>Wk.u m (rd1 aC h0) aB) λa f=>q_p 8 9 Z f (λ_=>Ct (f.e Z)) λa f=>AJ λaL w aM m=> ?_
    have aK:=od1 aM aK
    have az:=od1 aM az
    refine Ac f Z λa f=>Ac f Z λa f=>Aa ?_
    have m:=m.fr 1
    obtain rfl:=sj ab
    exact⟨_,_,_,Z,_,ay,ax,aJ,aI,(gt al (gt aE (gt ar aM))),f.k Z,m,az,aK⟩
  ·intro aD w aE m aF aF
   have⟨av,aw,ab⟩:=bind_some ab
   have⟨aA,aB,ab⟩:=bind_some ab
   have⟨aG,aH,ab⟩:=bind_some ab
   have h0:=rd1 aE h0
   refine Dv (R:=(RI .u32)) m T41 Z (by decide) Z f Z Z Z aH λaI aJ w a m aK f=>Aa ?_
   refine aF aD [aI] _ _ gr m ?_
   refine AU 0 Z λak w al m am am=> ?_
   have h0:=rd1 al h0
   have aK:=od1 al aK
   refine A4 (R:=(RI .u32)) (xs:=([]:LI)) (RI.one _) m T41 f Z Z Z (by decide) (All2.nil _) λan ao w a m ap f=>Aa ?_
   refine am ak [an,aI] _ _ gr m ?_
   refine AU 2 Z λaq w ar m au au=> ?_
   have h0:=rd1 ar h0
   have ap:=od1 ar ap
   have aK:=od1 ar aK
   refine A6 (RI.one _) 0 m ap Z T41 Z (by decide) f Z Z Z (h0.src m) aw λax ay w a m az f=>Aa ?_
   refine au aq [ax,aI] _ _ gr m ?_
   refine AW (i:=7) 9 Z (by kernel_rfl) Z f Z Z Z call25 (λ_ _ w aC m=>Wk.u m (rd1 aC h0) aB) λa f=>q_p 8 9 Z f (λ_=>Ct (f.e Z)) λa f=>AJ λaL w aM m=> ?_
   have az:=od1 aM az
   have aK:=od1 aM aK
   refine Ac f Z λa f=>Ac f Z λa f=>Aa ?_
   obtain rfl:=sj ab
   exact⟨_,_,_,Z,_,ay,ax,aJ,aI,(gt aE (gt al (gt ar aM))),f.k Z,m,az,aK⟩
 ·rintro a w ⟨ac,ad,ae,rfl,af,ag,ah,ai,aj,aN,f,m,aO,aP⟩
  have h1:=rd1 aN h1
  refine Ag (Af ?_)
  refine Ab f Z λa f=>A8 underlying38 f Z Z h1 λa f=>Ab f Z λa f=>Aa ?_
  have⟨aQ,aR,hd⟩:=bind_some hd
  refine AM (λa w=>∃aS:LI,∃aT:LI,(aS,aT)=aQ∧∃(aU:GH) (aV:Itm) (aW:Itm),GLe af aU∧Fr a 67 [(6,ag),(7,ai)]∧Mem W aU w (aV::aW::H)∧Ow (RI .u32) 44 aU aV ag aS∧Ow (RI .u32) 44 aU aW ai aT) ?_ ?_
  ·refine Ak ?_
   refine AL (λaX a w=>∃aY:LI,∃aZ:LI,∃a0:Int,∃a1:Int,(aY,aZ,a0,a1)=aX∧∃(a2:GH) (a3:Itm) (a4:Itm),GLe af a2∧Fr a 67 [(6,ag),(7,ai),(8,(.int .u32 a0)),(21,v1),(22,(iv (x1.length:Int))),(23,(iv a1))]∧Mem W a2 w (a3::a4::H)∧Ow (RI .u32) 44 a2 a3 ag aY∧Ow (RI .u32) 44 a2 a4 ai aZ) aR ⟨_,_,_,_,Z,_,ah,aj,gr,f.k Z,m,aO,aP⟩ ?_
   clear aR f m
   rintro aX a5 a6 a7 a w ⟨aY,aZ,a0,a1,rfl,a2,a3,a4,a8,f,m,a9,ba⟩
   have h1:=rd1 a8 h1
   refine Af ?_
   refine Ai f Z Z AR λa f=>Aa (Ag ?_)
   rcases Ae a6 with⟨bb,a6⟩|⟨bb,a6⟩
   ·refine Al f Z bb ?_
    refine Ap ?_
    refine Ag (Ak (Af ?_))
    have⟨bc,bd,a6⟩:=bind_some a6
    refine Bu T38 f Z Z Z h1 bd λbe bf a bg bh f=> ?_
    subst bh
    refine AT m Pl3 f Z Z bg λa f=>Ac f Z λa f=>AB ?_
    refine Ab f Z λa f=>Ab f Z λa f=> ?_
    have⟨bi,bj,a6⟩:=bind_some a6
    refine Bc f Z call26 (Wk.a m bj) λbk w bl m a f=> ?_
    have a9:=od1 bl a9
    have ba:=od1 bl ba
    refine Ai f Z Z B5 λa f=>Ac f Z λa f=>AB ?_
    refine Ab f Z λa f=>Ab f Z λa f=>Ab f Z λa f=>Ab f Z λa f=> ?_
    have⟨bm,bn,a6⟩:=bind_some a6
    refine A5 0 m a9 Z T41 f Z Z Z bn λbo a bp f=>BB 0 m a9 Z Pl44 f Z Z bp bn λbq a br f=> ?_
    subst br
    refine Ab f Z λa f=>Ai f Z Z CT λa f=> ?_
    have⟨bs,bt,a6⟩:=bind_some a6
    refine A5 1 m ba Z T41 f Z Z Z bt λbu a bv f=>AO 1 m ba Z sizeOf44 f Z Z bv bt Z Z Z λbw w m bx=>AB ?_
    refine Ab f Z λa f=>Ab f Z λa f=> ?_
    have⟨bz,bA,a6⟩:=bind_some a6
    refine A5 1 m bx Z T41 f Z Z Z bA λbB a bC f=>BB 1 m bx Z Pl44 f Z Z bC bA λbD a bE f=> ?_
    subst bE
    have⟨bF,bG,a6⟩:=bind_some a6
    refine AD f Z call48 (Wk.h hW m bG) λbH bI bJ w bK m bL a f=> ?_
    obtain⟨bM,bN,rfl,rfl,bO⟩:=bL
    have a9:=od1 bK a9
    have bx:=od1 bK bx
    refine Bv 0 m bO Z underlying38 f Z Z λa f=>Ab f Z λa f=>Aa ?_
    have⟨bP,bQ,a6⟩:=bind_some a6
    refine AM (λa w=>∃bR:LI,bR=bP∧∃(bS:GH) (bT:Itm),GLe bI bS∧Fr a 67 [(6,ag),(7,ai),(8,(.int .u32 (iandNot .u32 a0 bi))),(21,v1),(22,(iv (x1.length:Int))),(23,(iv a1))]∧Mem W bS w (bT::bw::H)∧Ow (RI .u32) 44 bS bT ag bR) ?_ ?_
    ·refine Ak ?_
     have m:=m.fr 2
     have m:=m.fr 2
     refine AL (λbU a w=>∃bV:LI,∃bW:Int,(bV,bW)=bU∧∃(bX:GH) (bY:Itm),GLe bI bX∧Fr a 67 [(6,ag),(7,ai),(8,(.int .u32 (iandNot .u32 a0 bi))),(10,(iv bc)),(21,v1),(22,(iv (x1.length:Int))),(23,(iv a1)),(44,bM),(45,(iv (bF.length:Int))),(46,(iv bW))]∧Mem W bX w (bY::bw::bN::H)∧Ow (RI .u32) 44 bX bY ag bV) bQ ⟨_,_,Z,_,a3,gr,f.k Z,m,a9⟩ ?_
     clear bQ f m
     rintro bU bZ b0 b1 a w ⟨bV,bW,rfl,bX,bY,b2,f,m,b3⟩
     have bx:=od1 b2 bx
     have bO:=od1 b2 bO
     refine Af ?_
     refine Ai f Z Z AR λa f=>Aa (Ag ?_)
     rcases Ae b0 with⟨b4,b0⟩|⟨b4,b0⟩
     ·refine Al f Z b4 ?_
      refine Ap ?_
      refine Ag (Ak (Af ?_))
      have⟨b5,b6,b0⟩:=bind_some b0
      refine A5 2 m bO Z T38 f Z Z Z b6 λb7 a b8 f=>BB 2 m bO Z Pl3 f Z Z b8 b6 λb9 a ca f=> ?_
      subst ca
      refine Ac f Z λa f=>Aa ?_
      refine A2 13 AG (by kernel_rfl) m ?_
      refine Ah 0 13 Z f Z λa f=>Ah 1 13 Z f Z λa f=> ?_
      have⟨cb,cc,b0⟩:=bind_some b0
      refine AV 2 13 0 m b3 T41 cc Z f Z Z λcd a ce f=>Bd 3 13 0 b3 Pl44 ce cc Z f Z λcf a cg f=> ?_
      subst cg
      refine Ah 4 13 Z f Z λa f=>Ah 5 13 Z f Z λa f=> ?_
      have⟨ch,ci,b0⟩:=bind_some b0
      refine AV 6 13 1 m bx T41 ci Z f Z Z λcj a ck f=>Bd 7 13 1 bx Pl44 ck ci Z f Z λcl a cm f=> ?_
      subst cm
      refine Ah 8 13 Z f Z λa f=> ?_
      have⟨cn,co,b0⟩:=bind_some b0
      refine AW (i:=9) 13 Z (by kernel_rfl) Z f Z Z Z call26 (λ_ _ w cp m=>Wk.a m co) λa f=>q_p 10 13 Z f (λ_=>AF (f.e Z) (f.e Z) B5) λa f=>q_p 11 13 Z f (λ_=>AF (f.e Z) (f.e Z) Dj) λa f=> ?_
      have⟨cq,cr,b0⟩:=bind_some b0
      refine AV 12 13 0 m b3 T41 cr Z f Z Z λcs a ct f=>AJ λcu w cv m=> ?_
      have b3:=od1 cv b3
      refine AO 0 m b3 Z sizeOf44 f Z Z ct cr Z Z Z λcw w m cx=>Aa (Ao ?_)
      refine Ai f Z Z Ax λa f=>Ab f Z λa f=>Aa ?_
      obtain rfl:=sj b0
      exact⟨_,Z,_,_,Z,_,cw,(gt b2 cv),f.k Z,m,cx⟩
     ·refine Aj f Z b4 ?_
      refine AH Z ?_
      have m:=m.eraseAt 2
      obtain rfl:=sj b0
      obtain rfl:=b1 _ rfl
      exact⟨_,Z,_,bY,b2,f.k Z,m,b3⟩
    ·rintro a w ⟨bR,rfl,bS,bT,cy,f,m,cz⟩
     have bx:=od1 cy bx
     refine Ao ?_
     refine Ai f Z Z Ax λa f=>Ab f Z λa f=>Aa ?_
     obtain rfl:=sj a6
     exact⟨_,Z,_,_,_,_,Z,_,bT,bw,(gt a8 (gt bl (gt bK cy))),f.k Z,m,cz,bx⟩
   ·refine Aj f Z bb ?_
    refine AH Z ?_
    obtain rfl:=sj a6
    obtain rfl:=a7 _ rfl
    exact⟨_,_,Z,_,a3,a4,a8,f.k Z,m,a9,ba⟩
  ·rintro a w ⟨aS,aT,rfl,aU,aV,aW,cA,f,m,cB,cC⟩
   refine Af ?_
   refine Ab f Z λa f=>Ab f Z λa f=>Ac f Z λa f=>Ac f Z λa f=>Aa ?_
   refine Aq ?_
   obtain rfl:=sj hd
   exact⟨[ag,ai],⟨f.get _ _ Z,f.get _ _ Z,trivial⟩,f.d,_,[aV,aW],(gt aN cA),m,_,_,_,_,Z,Z,cB,cC⟩
theorem Wk.g0 {x0:Int}(hW:CF W)(m:Mem W G w (H)){y:(LI)}(hd:D.g0 x0=some y):
  Calls prog 38 #[(.int .u32 x0)] w (Res W G H (λG' Ho v=>∃r0:Value,∃i0:Itm,Ho=[i0]∧r0=v∧Ow R0 2 G' i0 r0 y)):=by
 refine Au (args:=[(.int .u32 x0)]) (N:=6) [.tmp 2] func38 Z Z (lb Z) Z λa f=> ?_
 unfold D.g0 at hd
 refine Af ?_
 refine Ac f Z λa f=>AB ?_
 refine Ab f Z λa f=> ?_
 have⟨aa,ab,hd⟩:=bind_some hd
 refine AD f Z call48 (Wk.h hW m ab) λac ad ae w af m ag a f=> ?_
 obtain⟨ah,ai,rfl,rfl,aj⟩:=ag
 have⟨ak,al,hd⟩:=bind_some hd
 refine AD f Z call18 (Ow.lendCall (RI.mono _) 0 aj m Z (λam an m ao=>Wk.z m ao al) (λ_ G' _ _ ⟨a0,a1,e1,e2,o0⟩=>⟨a0,a1,e1,e2,Ow.free (RI.free _) G' o0⟩)) λap aq ar w au m av a f=> ?_
 obtain⟨aw,ax,rfl,rfl,ay⟩:=av
 refine Ac f Z λa f=>Aa ?_
 refine Aq ?_
 have m:=m.eraseAt 1
 obtain rfl:=sj hd
 exact⟨[aw],f.g Z,f.d,_,[ax],(gt af au),m,_,_,Z,Z,ay⟩
theorem Wk.E0 {v0:Value}{x0:LI}(hW:CF W)(m:Mem W G w (H))(h0:RSl (RI .u32) G v0 x0){y:(LL)}(hd:D.E0 x0=some y):
  Calls prog 81 #[v0] w (Res W G H (λG' Ho v=>∃r0:Value,∃i0:Itm,Ho=[i0]∧v=(.agg #[r0])∧Ow R1 28 G' i0 r0 y)):=by
 refine Au (args:=[v0]) (N:=22) [.cell 2 26] func81 Z Z (lb Z) Z λa f=> ?_
 unfold D.E0 at hd
 refine Af ?_
 refine A9 (cs:=[sn]) zeroValue26 m f Z Z λaa w a m f=>AB ?_
 have ab:∀w,(Instr.build 26 #[]).run prog w= .ok (.agg #[sn]) w:=by intro w;simp[Instr.build,Instr.fill,Cm,Cw,B6,Cf,BT,Cp]
 refine CG f Z Z ab λa f=>A9 (cs:=[sn]) zeroValue26 m f Z Z λac w a m f=>An 0 0 (ds:=[sn]) m sizeOf26 f Z Z Z (Ar Z As) Z (lb Z) Z λw m=>Aa (Ag (Af ?_))
 refine Ab f Z λa f=>A8 underlying41 f Z Z h0 λa f=>Ab f Z λa f=>Aa ?_
 obtain⟨ad,m,ae⟩:=Ow.nil R1 28 m
 have⟨af,ag,hd⟩:=bind_some hd
 refine AM (λa w=>∃ah:LL,ah=af∧∃(ai:GH) (aj:Value) (ak:Itm),GLe G ai∧Fr a 22 [(2,(pb aa)),(3,(pb ac))]∧Mem W ai w (ib aa 26 [sn]::ib ac 26 [aj]::ak::H)∧Ow R1 28 ai ak aj ah) ?_ ?_
 ·refine Ak ?_
  have m:=m.fr 1
  have m:=m.fr 2
  refine AL (λal a w=>∃am:Int,∃an:LL,(am,an)=al∧∃(ao:GH) (ap:Value) (aq:Itm),GLe G ao∧Fr a 22 [(2,(pb aa)),(3,(pb ac)),(7,v0),(8,(iv (x0.length:Int))),(9,(iv am))]∧Mem W ao w (ib aa 26 [sn]::ib ac 26 [ap]::aq::H)∧Ow R1 28 ao aq ap an) ag ⟨_,_,Z,_,sn,ad,gr,f.k Z,m,ae⟩ ?_
  clear ag f m
  rintro al ar au av a w ⟨am,an,rfl,ao,ap,aq,aw,f,m,ax⟩
  have h0:=rd1 aw h0
  refine Af ?_
  refine Ai f Z Z AR λa f=>Aa (Ag ?_)
  rcases Ae au with⟨ay,au⟩|⟨ay,au⟩
  ·refine Al f Z ay ?_
   refine Ap ?_
   refine Ag (Ak (Af ?_))
   have⟨az,aA,au⟩:=bind_some au
   refine Bu T41 f Z Z Z h0 aA λaB aC a aD aE f=> ?_
   subst aE
   refine AT m Pl44 f Z Z aD λa f=>Ac f Z λa f=>Aa ?_
   refine A2 5 AG (by kernel_rfl) m ?_
   refine Bg 0 5 underlying26 Z sizeOf24 Z f Z λa f=>Bp 1 5 1 Bt Z Z Z f Z λa f=>Ah 2 5 Z f Z λa f=>AU 3 Z λaF w aG m aH aH=> ?_
   have ax:=Ow.mono (RSl.mono (RI.mono _)) aG ax
   have⟨aI,aJ,au⟩:=bind_some au
   refine AD f Z call38 (Wk.g0 hW m aJ) λaK aL aM w aN m aO a f=> ?_
   obtain⟨aP,aQ,rfl,rfl,aR⟩:=aO
   have ax:=Ow.mono (RSl.mono (RI.mono _)) aN ax
   refine Aa ?_
   refine aH aL [aQ] _ _ aN m ?_
   refine AU 4 Z λaS w aT m aU aU=> ?_
   have aR:=od1 aT aR
   have ax:=Ow.mono (RSl.mono (RI.mono _)) aT ax
   obtain⟨aV,aW,m,aX⟩:=Ow.stamp (RI.mono _) aR m
   have ax:=Ow.mono (RSl.mono (RI.mono _)) aW ax
   refine A4 (R:=R1) (xs:=([aI]:LL)) (RSl.one _) m T24 f Z Z Z (by decide) (All2.cons aX (All2.nil _)) λaY aZ w a m a0 f=>Aa ?_
   refine aU aV [aY] _ _ aW m ?_
   refine AJ λa1 w a2 m=> ?_
   have a0:=Ow.mono (RSl.mono (RI.mono _)) a2 a0
   have ax:=Ow.mono (RSl.mono (RI.mono _)) a2 ax
   have⟨a3,a4,au⟩:=bind_some au
   refine A6 (RSl.one _) 3 m ax Z T24 Z (by decide) f Z Z Z (Ow.src (j:=0) a0 m Z) a4 λa5 a6 w a m a7 f=>Bo underlying26 Z sizeOf24 f Z λa f=>An 2 0 (ds:=[a6]) m sizeOf24 f Z Z (Ow.cells 3 m a7 Z) (Ar (Ow.one1 3 m a7 Z) As) Z (lb Z) Z λw m=>Aa (Ao ?_)
   refine Ai f Z Z Ax λa f=>Ab f Z λa f=>Aa ?_
   have m:=m.fr 3
   have m:=m.fr 3
   have m:Mem W a1 w (ib aa 26 [sn]::ib ac 26 [a6]::a5::aY::H):=m.fr 3
   have m:=m.eraseAt 3
   obtain rfl:=sj au
   exact⟨_,Z,_,_,Z,_,a6,a5,(gt aw (gt aG (gt aN (gt aT (gt aW a2))))),f.k Z,m,a7⟩
  ·refine Aj f Z ay ?_
   refine AH Z ?_
   obtain rfl:=sj au
   obtain rfl:=av _ rfl
   exact⟨_,Z,_,ap,aq,aw,f.k Z,m,ax⟩
 ·rintro a w ⟨ah,rfl,ai,aj,ak,a8,f,m,a9⟩
  refine Af ?_
  refine Az 1 0 (ds:=[aj]) m AI f Z Z Z Z Z λa f=>An 0 0 (ds:=[aj]) m sizeOf26 f Z Z Z (Ar (Ow.one1 2 m a9 Z) As) Z (lb Z) Z λw m=>Aa ?_
  refine Aq ?_
  have ba:=Bq (P:=prog) 0 m AI f (s:=2) rfl rfl rfl
  have m:=m.fr 2
  have m:=m.eraseAt 2
  have m:=m.eraseAt 1
  obtain rfl:=sj hd
  exact⟨[(.agg #[aj])],⟨ba,trivial⟩,f.d,_,[ak],a8,m,_,_,Z,Z,a9⟩
theorem Wk.D0 {aa v1:Value}{ab:LL}{x1:LI}(hW:CF W)(m:Mem W G w (H))(ac:R2 G aa ab)(h1:R1 G v1 x1){y:(LL)×Bool}(hd:D.D0 ab x1=some y):
  Calls prog 57 #[(.agg #[aa]),v1] w (Res W G H (λG' Ho v=>∃r0:Value,∃i0:Itm,Ho=[i0]∧v= .tuple #[(.agg #[r0]),(.bool y.2)]∧Ow R1 28 G' i0 r0 y.1)):=by
 refine Au (args:=[(.agg #[aa]),v1]) (N:=23) [.cell 4 26,.tmp 5] func57 Z Z (lb Z) Z λa f=> ?_
 unfold D.D0 at hd
 refine Af ?_
 refine Bj (cs:=[aa]) m f Z Z Z λad w a m f=>A9 (cs:=[sn]) zeroValue26 m f Z Z λae w a m f=>Ac f Z λa f=>Aa (Ag (Af ?_))
 refine Az 1 0 (ds:=[aa]) m AI f Z Z Z Z Z λa f=>Ab f Z λa f=> ?_
 have⟨af,ag,hd⟩:=bind_some hd
 refine Bc f Z call78 (Wk.n0 m ac h1 ag) λah w ai m a f=> ?_
 have ac:=rd2 ai ac
 have h1:=rd1 ai h1
 refine l_o f (Bh (f.e Z)) λa f=>Aa ?_
 rcases Ae hd with⟨aj,hd⟩|⟨aj,hd⟩
 ·refine Al f Z aj ?_
  refine Af ?_
  have ak:∀w,(Instr.build 26 #[]).run prog w= .ok (.agg #[sn]) w:=by intro w;simp[Instr.build,Instr.fill,Cm,Cw,B6,Cf,BT,Cp]
  refine CG f Z Z ak λa f=>An 0 0 (ds:=[sn]) m sizeOf26 f Z Z Z (Ar Z As) Z (lb Z) Z λw m=>Ac f Z λa f=>Aa ?_
  refine Aq ?_
  obtain⟨al,m,am⟩:=Ow.nil R1 28 m
  have an:=Bq (P:=prog) 1 m AI f (s:=4) rfl rfl rfl
  have m:=m.eraseAt 2
  have m:=m.eraseAt 1
  obtain rfl:=sj hd
  exact⟨[(.agg #[sn]),(.bool false)],⟨an,f.get _ _ Z,trivial⟩,f.d,_,[al],ai,m,_,_,Z,Z,am⟩
 ·refine Aj f Z aj ?_
  refine Ap ?_
  refine Af ?_
  refine Az 1 0 (ds:=[aa]) m AI f Z Z Z Z Z λa f=> ?_
  have⟨ao,ap,hd⟩:=bind_some hd
  refine AD f Z call20 (Wk.j m ac ap) λaq ar au w av m aw a f=> ?_
  obtain⟨ax,ay,rfl,rfl,az⟩:=aw
  have h1:=rd1 av h1
  refine Ab f Z λa f=> ?_
  have⟨aA,aB,hd⟩:=bind_some hd
  refine AD f Z call80 (Wk.S0 m h1 aB) λaC aD aE w aF m aG a f=> ?_
  obtain⟨aH,aI,rfl,rfl,aJ⟩:=aG
  have az:=od1 aF az
  have⟨aK,aL,hd⟩:=bind_some hd
  refine AD f Z call79 (Ow.lendCall (RI.mono _) 1 az m Z (λaM aN m aO=>(Ow.lendCall (RI.mono _) 0 (od1 aN aJ) m Z (λaP aQ m aR=>Wk.R hW m (rd1 aQ aO) aR aL) (λ_ G' _ _ ⟨a0,a1,a2,a3,e1,e2,o0,o1⟩=>⟨a0,a1,a2,a3,e1,e2,Ow.free (RI.free _) G' o0,Ow.free (RI.free _) G' o1⟩))) (λ_ G' _ _ ⟨a0,a1,a2,a3,e1,e2,o0,o1⟩=>⟨a0,a1,a2,a3,e1,e2,Ow.free (RI.free _) G' o0,Ow.free (RI.free _) G' o1⟩)) λaS aT aU w aV m aW a f=> ?_
  obtain⟨aX,aY,aZ,a4,rfl,rfl,a5,a6⟩:=aW
  refine Ab f Z λa f=>l_o f (AZ (f.e Z) Z) λa f=>l_o f (AZ (f.e Z) Z) λa f=>Ac f Z λa f=>Ac f Z λa f=>AB ?_
  refine Ab f Z λa f=> ?_
  obtain⟨a7,a8,m,a9⟩:=Ow.stamp (RI.mono _) a5 m
  have⟨ba,bb,hd⟩:=bind_some hd
  refine AD f Z call81 (Wk.E0 hW m a9 bb) λbc bd be w bf m bg a f=> ?_
  obtain⟨bh,bi,rfl,rfl,bj⟩:=bg
  refine An 4 0 (ds:=[bh]) m sizeOf26 f Z Z Z (Ar (Ow.one1 0 m bj Z) As) Z (lb Z) Z λw m=>Ac f Z λa f=>Aa ?_
  refine Aq ?_
  have bk:=Bq (P:=prog) 4 m AI f (s:=4) rfl rfl rfl
  have m:=m.eraseAt 5
  have m:=m.eraseAt 4
  have m:Mem W bd w (bi::a4::aI::H):=m.eraseAt 3
  have m:=m.eraseAt 2
  have m:=m.eraseAt 1
  obtain rfl:=sj hd
  exact⟨[(.agg #[bh]),(.bool true)],⟨bk,f.get _ _ Z,trivial⟩,f.d,_,[bi],(gt ai (gt av (gt aF (gt aV (gt a8 bf))))),m,_,_,Z,Z,bj⟩
theorem Wk.a1 {aa:Value}{ab:LL}(m:Mem W G w (H))(ac:R2 G aa ab){y:(LL)}(hd:D.a1 ab=some y):
  Calls prog 94 #[(.agg #[aa])] w (Res W G H (λG' Ho v=>∃r0:Value,∃i0:Itm,Ho=[i0]∧r0=v∧Ow R1 28 G' i0 r0 y)):=by
 refine Au (args:=[(.agg #[aa])]) (N:=35) [.tmp 2] func94 Z Z (lb Z) Z λa f=> ?_
 unfold D.a1 at hd
 refine Af ?_
 refine Bj (cs:=[aa]) m f Z Z Z λad w a m f=>Ac f Z λa f=>AB ?_
 refine A4 (R:=R1) (xs:=([]:LL)) (RSl.one _) m T24 f Z Z Z (by decide) (All2.nil _) λae af w a m ag f=>Ac f Z λa f=>Aa (Ag (Af ?_))
 refine Bo underlying26 Z sizeOf24 f Z λa f=>AA 1 0 m Bt f Z Z Z Z λa f=>A8 underlying24 f Z Z ac λa f=>Ab f Z λa f=>Aa ?_
 have⟨ah,ai,hd⟩:=bind_some hd
 refine AM (λa w=>∃aj:LL,aj=ah∧∃(ak:GH) (al:Value) (am:Itm),GLe G ak∧Fr a 35 [(3,al)]∧Mem W ak w (am::H)∧Ow R1 28 ak am al aj) ?_ ?_
 ·refine Ak ?_
  have m:=m.eraseAt 1
  refine AL (λan a w=>∃ao:LL,∃ap:Int,(ao,ap)=an∧∃(aq:GH) (ar:Value) (au:Itm),GLe G aq∧Fr a 35 [(3,ar),(10,aa),(11,(iv (ab.length:Int))),(12,(iv ap))]∧Mem W aq w (au::H)∧Ow R1 28 aq au ar ao) ai ⟨_,_,Z,_,af,ae,gr,f.k Z,m,ag⟩ ?_
  clear ai f m
  rintro an av aw ax a w ⟨ao,ap,rfl,aq,ar,au,ay,f,m,az⟩
  have ac:=rd2 ay ac
  refine Af ?_
  refine Ai f Z Z AR λa f=>Aa (Ag ?_)
  rcases Ae aw with⟨aA,aw⟩|⟨aA,aw⟩
  ·refine Al f Z aA ?_
   refine Ap ?_
   refine Ag (Ak (Af ?_))
   refine Ab f Z λa f=> ?_
   have⟨aB,aC,aw⟩:=bind_some aw
   refine Bu T24 f Z Z Z ac aC λaD aE a aF aG f=>AT m B3 f Z Z aF λa f=>Ac f Z λa f=>Ac f Z λa f=>AB ?_
   refine Ab f Z λa f=>A8 underlying28 f Z Z aG λa f=>Ab f Z λa f=>Aa ?_
   have⟨aH,aI,aw⟩:=bind_some aw
   refine AM (λa w=>∃aJ:LL,aJ=aH∧∃(aK:GH) (aL:Value) (aM:Itm),GLe aq aK∧Fr a 35 [(3,aL),(10,aa),(11,(iv (ab.length:Int))),(12,(iv ap))]∧Mem W aK w (aM::H)∧Ow R1 28 aK aM aL aJ) ?_ ?_
   ·refine Ak ?_
    refine AL (λaN a w=>∃aO:LL,∃aP:Int,(aO,aP)=aN∧∃(aQ:GH) (aR:Value) (aS:Itm),GLe aq aQ∧Fr a 35 [(3,aR),(4,(iv ap)),(10,aa),(11,(iv (ab.length:Int))),(12,(iv ap)),(17,aE),(18,(iv (aB.length:Int))),(19,(iv aP))]∧Mem W aQ w (aS::H)∧Ow R1 28 aQ aS aR aO) aI ⟨_,_,Z,_,ar,au,gr,f.k Z,m,az⟩ ?_
    clear aI f m
    rintro aN aT aU aV a w ⟨aO,aP,rfl,aQ,aR,aS,aW,f,m,aX⟩
    have aG:=rd1 aW aG
    refine Af ?_
    refine Ai f Z Z AR λa f=>Aa (Ag ?_)
    rcases Ae aU with⟨aY,aU⟩|⟨aY,aU⟩
    ·refine Al f Z aY ?_
     refine Ap ?_
     refine Ag (Ak (Af ?_))
     have⟨aZ,a0,aU⟩:=bind_some aU
     refine Bu T28 f Z Z Z aG a0 λa1 a2 a a3 a4 f=> ?_
     subst a4
     refine AT m Pl2 f Z Z a3 λa f=>Ac f Z λa f=>AB ?_
     refine Ab f Z λa f=>Ab f Z λa f=>Ai f Z Z AR λa f=>Aa ?_
     rcases Ae aU with⟨a5,aU⟩|⟨a5,aU⟩
     ·refine Al f Z a5 ?_
      refine Ao ?_
      refine Ab f Z λa f=>Ab f Z λa f=>Ab f Z λa f=>A4 (R:=R0) (xs:=([ap,aZ]:LI)) (RI.one _) m T28 f Z Z Z (by decide) (All2.cons Z (All2.cons Z (All2.nil _))) λa6 a7 w a m a8 f=> ?_
      obtain⟨a9,ba,m,bb⟩:=Ow.stamp (RI.mono _) a8 m
      have aX:=Ow.mono (RSl.mono (RI.mono _)) ba aX
      refine A4 (R:=R1) (xs:=([([ap,aZ]:LI)]:LL)) (RSl.one _) m T24 f Z Z Z (by decide) (All2.cons bb (All2.nil _)) λbc bd w a m be f=> ?_
      have⟨bf,bg,aU⟩:=bind_some aU
      refine A6 (RSl.one _) 1 m aX Z T24 Z (by decide) f Z Z Z (Ow.src (j:=0) be m Z) bg λbh bi w a m bj f=>Ac f Z λa f=>Aa (Ao ?_)
      refine Ai f Z Z Ax λa f=>Ab f Z λa f=>Aa ?_
      have m:=m.fr 1
      have m:=m.eraseAt 1
      obtain rfl:=sj aU
      exact⟨_,Z,_,_,Z,_,bi,bh,(gt aW ba),f.k Z,m,bj⟩
     ·refine Aj f Z a5 ?_
      refine Ap ?_
      refine Ao ?_
      refine Ai f Z Z Ax λa f=>Ab f Z λa f=>Aa ?_
      obtain rfl:=sj aU
      exact⟨_,Z,_,_,Z,_,aR,aS,aW,f.k Z,m,aX⟩
    ·refine Aj f Z aY ?_
     refine AH Z ?_
     obtain rfl:=sj aU
     obtain rfl:=aV _ rfl
     exact⟨_,Z,_,aR,aS,aW,f.k Z,m,aX⟩
   ·rintro a w ⟨aJ,rfl,aK,aL,aM,bk,f,m,bl⟩
    refine Ao ?_
    refine Ai f Z Z Ax λa f=>Ab f Z λa f=>Aa ?_
    obtain rfl:=sj aw
    exact⟨_,Z,_,_,Z,_,aL,aM,(gt ay bk),f.k Z,m,bl⟩
  ·refine Aj f Z aA ?_
   refine AH Z ?_
   obtain rfl:=sj aw
   obtain rfl:=ax _ rfl
   exact⟨_,Z,_,ar,au,ay,f.k Z,m,az⟩
 ·rintro a w ⟨aj,rfl,ak,al,am,bm,f,m,bn⟩
  refine Af ?_
  refine Ab f Z λa f=>Ac f Z λa f=>Aa ?_
  refine Aq ?_
  obtain rfl:=sj hd
  exact⟨[al],f.g Z,f.d,_,[am],bm,m,_,_,Z,Z,bn⟩
theorem Wk.j1 {aa:Value}{ab:LL}(m:Mem W G w (H))(ac:R2 G aa ab){y:(LL)}(hd:D.j1 ab=some y):
  Calls prog 82 #[(.agg #[aa])] w (Res W G H (λG' Ho v=>∃r0:Value,∃i0:Itm,Ho=[i0]∧r0=v∧Ow R1 28 G' i0 r0 y)):=by
 refine Au (args:=[(.agg #[aa])]) (N:=8) [.tmp 2] func82 Z Z (lb Z) Z λa f=> ?_
 unfold D.j1 at hd
 refine Af ?_
 refine Bj (cs:=[aa]) m f Z Z Z λad w a m f=>Ac f Z λa f=>Aa (Ag (Af ?_))
 refine Az 0 0 (ds:=[aa]) m AI f Z Z Z Z Z λa f=> ?_
 have⟨ae,af,hd⟩:=bind_some hd
 refine Bc f Z call21 (Wk.l m ac af) λag w ah m a f=> ?_
 have ac:=rd2 ah ac
 refine l_o f (Bh (f.e Z)) λa f=>Aa ?_
 rcases Ae hd with⟨ai,hd⟩|⟨ai,hd⟩
 ·refine Al f Z ai ?_
  refine Af ?_
  refine Ac f Z λa f=>Aa ?_
  refine Aq ?_
  obtain⟨aj,m,ak⟩:=Ow.nil R1 28 m
  have m:=m.eraseAt 1
  obtain rfl:=sj hd
  exact⟨[sn],f.g Z,f.d,_,[aj],ah,m,_,_,Z,Z,ak⟩
 ·refine Aj f Z ai ?_
  refine Ap ?_
  refine Af ?_
  refine Az 0 0 (ds:=[aa]) m AI f Z Z Z Z Z λa f=> ?_
  have⟨al,am,hd⟩:=bind_some hd
  refine AD f Z call94 (Wk.a1 m ac am) λan ao ap w aq m ar a f=> ?_
  obtain⟨au,av,rfl,rfl,aw⟩:=ar
  refine Ac f Z λa f=>Aa ?_
  refine Aq ?_
  have m:=m.eraseAt 1
  obtain rfl:=sj hd
  exact⟨[au],f.g Z,f.d,_,[av],(gt ah aq),m,_,_,Z,Z,aw⟩
theorem Wk.X {aa:Value}{ab:LL}(m:Mem W G w (H))(ac:R2 G aa ab){y:Int}(hd:D.X ab=some y):
  Calls prog 58 #[(.agg #[aa])] w (Res W G H (λ_ Ho v=>Ho=[]∧v=(iv y))):=by
 refine Au (args:=[(.agg #[aa])]) (N:=6) [.tmp 2] func58 Z Z (lb Z) Z λa f=> ?_
 unfold D.X at hd
 refine Af ?_
 refine Bj (cs:=[aa]) m f Z Z Z λad w a m f=>Ac f Z λa f=>AB ?_
 refine Az 0 0 (ds:=[aa]) m AI f Z Z Z Z Z λa f=> ?_
 have⟨ae,af,hd⟩:=bind_some hd
 refine AD f Z call82 (Wk.j1 m ac af) λag ah ai w aj m ak a f=> ?_
 obtain⟨al,am,rfl,rfl,an⟩:=ak
 refine Bv 0 m an Z underlying24 f Z Z λa f=>Ac f Z λa f=>Aa ?_
 refine Aq ?_
 have m:Mem W ah w H:=Mem.drop (H':=[am,ib ad 26 [aa]]) m
 obtain rfl:=sj hd
 exact⟨[(iv (ae.length:Int))],f.g Z,f.d,_,[],aj,m,Z,Z⟩
theorem Wk.u0 {aa v1:Value}{ab:LL}{x1:LI}(hW:CF W)(m:Mem W G w (H))(ac:R2 G aa ab)(h1:R1 G v1 x1){y:Int}(hd:D.u0 ab x1=some y):
  Calls prog 36 #[(.agg #[aa]),v1] w (Res W G H (λ_ Ho v=>Ho=[]∧v=(iv y))):=by
 refine Au (args:=[(.agg #[aa]),v1]) (N:=20) [.tmp 4] func36 Z Z (lb Z) Z λa f=> ?_
 unfold D.u0 at hd
 refine Af ?_
 refine Bj (cs:=[aa]) m f Z Z Z λad w a m f=>Ac f Z λa f=>AB ?_
 refine Az 0 0 (ds:=[aa]) m AI f Z Z Z Z Z λa f=>Ab f Z λa f=> ?_
 have⟨ae,af,hd⟩:=bind_some hd
 refine AD f Z call57 (Wk.D0 hW m ac h1 af) λag ah ai w aj m ak a f=> ?_
 obtain⟨al,am,rfl,rfl,an⟩:=ak
 have ac:=rd2 aj ac
 refine Ab f Z λa f=>l_o f (AZ (f.e Z) Z) λa f=>l_o f (AZ (f.e Z) Z) λa f=>A9 (cs:=[sn]) zeroValue26 m f Z Z λao w a m f=>An 0 0 (ds:=[al]) m sizeOf26 f Z Z Z (Ar (Ow.one1 1 m an Z) As) Z (lb Z) Z λw m=>Ac f Z λa f=>Aa (Ag (Af ?_))
 refine Ab f Z λa f=>l_o f (Bh (f.e Z)) λa f=>Aa ?_
 rcases Ae hd with⟨ap,hd⟩|⟨ap,hd⟩
 ·refine Al f Z ap ?_
  refine Af ?_
  refine Ac f Z λa f=>Aa ?_
  refine Aq ?_
  have m:Mem W ah w H:=Mem.drop (H':=[ib ao 26 [al],am,ib ad 26 [aa]]) m
  obtain rfl:=sj hd
  exact⟨[(iv (-1))],f.g Z,f.d,_,[],aj,m,Z,Z⟩
 ·refine Aj f Z ap ?_
  refine Ap ?_
  refine Ag ?_
  refine A2 6 AG (by kernel_rfl) m ?_
  refine Bx (i:=0) (ds:=[al]) 6 0 AI Z Z Z Z (by kernel_rfl) Z f Z Z Z λa f=> ?_
  have⟨aq,ar,hd⟩:=bind_some hd
  refine AW (i:=1) 6 Z (by kernel_rfl) Z f Z Z Z call58 (λ_ _ w au m=>(Ow.lendCallR (RSl.mono (RI.mono _)) 1 (Ow.mono (RSl.mono (RI.mono _)) au an) m Z (λav aw m ax=>Wk.X m ax ar) (λ_ _ _ _ h=>h))) λa f=>Bx (i:=2) (ds:=[aa]) 6 2 AI Z Z Z Z (by kernel_rfl) Z f Z Z Z λa f=> ?_
  have⟨ay,az,hd⟩:=bind_some hd
  refine AW (i:=3) 6 Z (by kernel_rfl) Z f Z Z Z call58 (λ_ _ w aA m=>Wk.X m (rd2 aA ac) az) λa f=>q_p 4 6 Z f (λ_=>AF (f.e Z) (f.e Z) AS) λa f=>q_p 5 6 Z f (λ_=>Ct (f.e Z)) λa f=>AJ λaB w aC m=>Aa ?_
  refine Aq ?_
  have m:Mem W aB w H:=Mem.drop (H':=[ib ao 26 [al],am,ib ad 26 [aa]]) m
  obtain rfl:=sj hd
  exact⟨[(iv (i64.wrap (aq-ay)))],f.g Z,f.d,_,[],(gt aj aC),m,Z,Z⟩
theorem Wk.x0 {aa v1:Value}{ab:LL}{x1:LI}(hW:CF W)(m:Mem W G w (H))(ac:R2 G aa ab)(h1:R1 G v1 x1){y:Bool}(hd:D.x0 ab x1=some y):
  Calls prog 12 #[(.agg #[aa]),v1] w (Res W G H (λ_ Ho v=>Ho=[]∧v=(.bool y))):=by
 refine Au (args:=[(.agg #[aa]),v1]) (N:=9) [.tmp 4] func12 Z Z (lb Z) Z λa f=> ?_
 unfold D.x0 at hd
 refine Af ?_
 refine Bj (cs:=[aa]) m f Z Z Z λad w a m f=>Ac f Z λa f=>AB ?_
 refine Az 0 0 (ds:=[aa]) m AI f Z Z Z Z Z λa f=>Ab f Z λa f=> ?_
 have⟨ae,af,hd⟩:=bind_some hd
 refine Bc f Z call36 (Wk.u0 hW m ac h1 af) λag w ah m a f=>Ai f Z Z By λa f=>Ac f Z λa f=>Aa ?_
 refine Aq ?_
 have m:Mem W ag w H:=Mem.drop (H':=[ib ad 26 [aa]]) m
 obtain rfl:=sj hd
 exact⟨[(.bool (ae==0))],f.g Z,f.d,_,[],ah,m,Z,Z⟩
theorem Wk.Y0 {aa:Value}{ab:LL}(hW:CF W)(m:Mem W G w (H))(ac:R2 G aa ab){y:(LI)}(hd:D.Y0 ab=some y):
  Calls prog 13 #[(.agg #[aa])] w (Res W G H (λG' Ho v=>∃r0:Value,∃i0:Itm,Ho=[i0]∧r0=v∧Ow R0 2 G' i0 r0 y)):=by
 refine Au (args:=[(.agg #[aa])]) (N:=30) [.tmp 2] func13 Z Z (lb Z) Z λa f=> ?_
 unfold D.Y0 at hd
 refine Af ?_
 refine Bj (cs:=[aa]) m f Z Z Z λad w a m f=>Ac f Z λa f=>Aa (Ag (Af ?_))
 refine Az 0 0 (ds:=[aa]) m AI f Z Z Z Z Z λa f=> ?_
 have⟨ae,af,hd⟩:=bind_some hd
 refine Bc f Z call21 (Wk.l m ac af) λag w ah m a f=> ?_
 have ac:=rd2 ah ac
 refine l_o f (Bh (f.e Z)) λa f=>Aa ?_
 rcases Ae hd with⟨ai,hd⟩|⟨ai,hd⟩
 ·refine Al f Z ai ?_
  refine Af ?_
  refine Ac f Z λa f=>Aa ?_
  refine Aq ?_
  obtain⟨aj,m,ak⟩:=Ow.nil R0 2 m
  have m:=m.eraseAt 1
  obtain rfl:=sj hd
  exact⟨[sn],f.g Z,f.d,_,[aj],ah,m,_,_,Z,Z,ak⟩
 ·refine Aj f Z ai ?_
  refine Ap ?_
  refine Af ?_
  refine Az 0 0 (ds:=[aa]) m AI f Z Z Z Z Z λa f=> ?_
  have⟨al,am,hd⟩:=bind_some hd
  refine AD f Z call20 (Wk.j m ac am) λan ao ap w aq m ar a f=> ?_
  obtain⟨au,av,rfl,rfl,aw⟩:=ar
  refine Ac f Z λa f=>Ac f Z λa f=>Aa (Ag (Af ?_))
  refine Ab f Z λa f=>Bv 0 m aw Z underlying41 f Z Z λa f=>Ab f Z λa f=>Aa ?_
  have⟨ax,ay,hd⟩:=bind_some hd
  refine AM (λa w=>∃az:Int,az=ax∧∃(aA:GH),GLe ao aA∧Fr a 30 [(4,(.int .u32 az))]∧Mem W aA w (H)) ?_ ?_
  ·refine Ak ?_
   have m:=m.eraseAt 1
   refine AL (λaB a w=>∃aC:Int,∃aD:Int,(aC,aD)=aB∧∃(aE:GH),GLe ao aE∧Fr a 30 [(3,au),(4,(.int .u32 aC)),(12,au),(13,(iv (al.length:Int))),(14,(iv aD))]∧Mem W aE w (av::H)) ay ⟨_,_,Z,_,gr,f.k Z,m⟩ ?_
   clear ay f m
   rintro aB aF aG aH a w ⟨aC,aD,rfl,aE,aI,f,m⟩
   have aw:=od1 aI aw
   refine Af ?_
   refine Ai f Z Z AR λa f=>Aa (Ag ?_)
   rcases Ae aG with⟨aJ,aG⟩|⟨aJ,aG⟩
   ·refine Al f Z aJ ?_
    refine Ap ?_
    refine Ag (Ak (Af ?_))
    refine Ab f Z λa f=> ?_
    have⟨aK,aL,aG⟩:=bind_some aG
    refine A5 0 m aw Z T41 f Z Z Z aL λaM a aN f=>BB 0 m aw Z Pl44 f Z Z aN aL λaO a aP f=> ?_
    subst aP
    refine Ac f Z λa f=>Ac f Z λa f=>AB ?_
    refine Ab f Z λa f=>Ab f Z λa f=> ?_
    have⟨aQ,aR,aG⟩:=bind_some aG
    refine AD f Z call37 (Ow.lendCall (RI.mono _) 0 aw m Z (λaS aT m aU=>Wk.A hW m aU aR) (λ_ _ _ _ h=>h)) λaV aW aX w aY m aZ a f=> ?_
    obtain⟨rfl,rfl⟩:=aZ
    refine Ai f Z Z By λa f=>Aa ?_
    rcases Ae aG with⟨a0,aG⟩|⟨a0,aG⟩
    ·refine Al f Z a0 ?_
     refine Ao ?_
     refine Ab f Z λa f=>Ab f Z λa f=> ?_
     have⟨a1,a2,aG⟩:=bind_some aG
     refine Bc f Z call26 (Wk.a m a2) λa3 w a4 m a f=>Ai f Z Z Dj λa f=>Ac f Z λa f=>Aa (Ao ?_)
     refine Ai f Z Z Ax λa f=>Ab f Z λa f=>Aa ?_
     obtain rfl:=sj aG
     exact⟨_,Z,_,_,Z,_,(gt aI (gt aY a4)),f.k Z,m⟩
    ·refine Aj f Z a0 ?_
     refine Ap ?_
     refine Ao ?_
     refine Ai f Z Z Ax λa f=>Ab f Z λa f=>Aa ?_
     obtain rfl:=sj aG
     exact⟨_,Z,_,_,Z,_,(gt aI aY),f.k Z,m⟩
   ·refine Aj f Z aJ ?_
    refine AH Z ?_
    have m:Mem W aE w H:=Mem.drop (H':=[av]) m
    obtain rfl:=sj aG
    obtain rfl:=aH _ rfl
    exact⟨_,Z,_,aI,f.k Z,m⟩
  ·rintro a w ⟨az,rfl,aA,a5,f,m⟩
   refine Af ?_
   refine Ab f Z λa f=> ?_
   have⟨a6,a7,hd⟩:=bind_some hd
   refine AD f Z call38 (Wk.g0 hW m a7) λa8 a9 ba w bb m bc a f=> ?_
   obtain⟨bd,be,rfl,rfl,bf⟩:=bc
   refine Ac f Z λa f=>Aa ?_
   refine Aq ?_
   obtain rfl:=sj hd
   exact⟨[bd],f.g Z,f.d,_,[be],(gt ah (gt aq (gt a5 bb))),m,_,_,Z,Z,bf⟩
end Go.Proofs.YtehkdflfnampdaaGreatDoor

set_option maxRecDepth 100000
namespace Go.Proofs.YtehkdflfnampdaaGreatDoor
open Go Go.Sx
open Go.Proofs.Tryz Go.Proofs.YtehkdflfnampdaaGreatDoor.Tryz IntKind
variable {W w : World} {G : GH} {H : List Itm}
theorem Wk.P0 {aa v1:Value}{ab:LL}{x1:LI}(m:Mem W G w (H))(ac:R2 G aa ab)(h1:R1 G v1 x1){y:Bool}(hd:D.P0 ab x1=some y):
  Calls prog 59 #[(.agg #[aa]),v1] w (Res W G H (λ_ Ho v=>Ho=[]∧v=(.bool y))):=by
 refine Au (args:=[(.agg #[aa]),v1]) (N:=50) [.tmp 4] func59 Z Z (lb Z) Z λa f=> ?_
 unfold D.P0 at hd
 refine Af ?_
 refine Bj (cs:=[aa]) m f Z Z Z λad w a m f=>Ac f Z λa f=>AB ?_
 refine Ac f Z λa f=>Aa (Ag (Af ?_))
 refine Ab f Z λa f=>A8 underlying28 f Z Z h1 λa f=>Ab f Z λa f=>Aa ?_
 have⟨ae,af,hd⟩:=bind_some hd
 refine AM (λa w=>∃q_210':Unit,ae= .inl q_210'∧∃(ag:GH),GLe G ag∧Fr a 50 []∧Mem W ag w (H)) ?_ ?_
 ·refine Ak ?_
  refine AL (λah a w=>∃ai:Int,∃aj:Int,(ai,aj)=ah∧∃(ak:GH),GLe G ak∧Fr a 50 [(1,v1),(2,(pb ad)),(5,(.int .u32 ai)),(8,v1),(9,(iv (x1.length:Int))),(10,(iv aj))]∧Mem W ak w (ib ad 26 [aa]::H)) af ⟨_,_,Z,_,gr,f.k Z,m⟩ ?_
  clear af f m
  rintro ah al am an a w ⟨ai,aj,rfl,ak,ao,f,m⟩
  have h1:=rd1 ao h1
  have ac:=rd2 ao ac
  refine Af ?_
  refine Ai f Z Z AR λa f=>Aa (Ag ?_)
  rcases Ae am with⟨ap,am⟩|⟨ap,am⟩
  ·refine Al f Z ap ?_
   refine Ap ?_
   refine Ag (Ak (Af ?_))
   refine Ab f Z λa f=> ?_
   have⟨aq,ar,am⟩:=bind_some am
   refine Bu T28 f Z Z Z h1 ar λau av a aw ax f=> ?_
   subst ax
   refine AT m Pl2 f Z Z aw λa f=>Ac f Z λa f=>Ac f Z λa f=>Aa (Ag (Ag ?_))
   refine A2 30 AG (by kernel_rfl) m ?_
   refine Ah 0 30 Z f Z λa f=>Bg 1 30 underlying26 Z sizeOf24 Z f Z λa f=>Bp 2 30 0 Bt Z Z Z f Z λa f=>q_len (i:=3) 30 underlying24 ac Z (by kernel_rfl) Z f Z Z Z λa f=>q_p 4 30 Z f (λ_=>AF (f.e Z) (f.e Z) AS) λa f=> ?_
   have⟨ay,az,am⟩:=bind_some am
   refine AW (i:=5) 30 Z (by kernel_rfl) Z f Z Z Z call71 (λ_ _ w aA m=>Wk.c0 m az) λa f=>q_p 6 30 Z f (λ_=>Bh (f.e Z)) λa f=>Ah 7 30 Z f Z λa f=> ?_
   have⟨aB,aC,am⟩:=bind_some am
   refine BU (fuel':=18) (listed':= #[true,true,true,true,true,true,true,true,true,true,true,true,false,false,false,false,false,false,false,false,false,false,false,false,false,false,false,false,false,false]) (λa=>Fr a 50 [(1,v1),(2,(pb ad)),(5,(.int .u32 ai)),(6,(iv aj)),(7,(iv aq)),(8,v1),(9,(iv (x1.length:Int))),(10,(iv aj)),(15,(iv aq)),(16,(pb ad)),(17,aa),(18,(iv (ab.length:Int))),(19,(iv (i64.wrap ((ab.length:Int)-1)))),(20,(.bool ay)),(21,(.bool (!ay))),(22,(.bool (!ay))),(26,(.bool aB))]) ?_ ?_
   ·intro a f
    refine Ah 12 30 Z f Z λa f=> ?_
    have⟨aD,aE,am⟩:=bind_some am
    refine BU (fuel':=0) (listed':= #[true,true,true,true,true,true,true,true,true,true,true,true,true,true,true,true,true,true,true,true,true,true,true,true,true,true,true,true,true,true]) (λa=>Fr a 50 [(1,v1),(2,(pb ad)),(5,(.int .u32 ai)),(6,(iv aj)),(7,(iv aq)),(8,v1),(9,(iv (x1.length:Int))),(10,(iv aj)),(15,(iv aq)),(16,(pb ad)),(17,aa),(18,(iv (ab.length:Int))),(19,(iv (i64.wrap ((ab.length:Int)-1)))),(20,(.bool ay)),(21,(.bool (!ay))),(22,(.bool (!ay))),(26,(.bool aB)),(27,(.bool aB)),(44,(.bool aD))]) ?_ ?_
    ·intro a f
     refine AJ λaF w aG m=>Aa ?_
     rcases Ae am with⟨aH,am⟩|⟨aH,am⟩
     ·refine Al f Z aH ?_
      refine Af ?_
      refine Ac f Z λa f=>Aa ?_
      refine Aq ?_
      have m:Mem W aF w H:=Mem.drop (H':=[ib ad 26 [aa]]) m
      obtain rfl:=sj am
      obtain rfl:=an _ rfl
      obtain rfl:=sj hd
      exact⟨[(.bool false)],f.g Z,f.d,_,[],(gt ao aG),m,Z,Z⟩
     ·refine Aj f Z aH ?_
      refine Ap ?_
      refine Ao ?_
      refine Ab f Z λa f=>Ab f Z λa f=> ?_
      have⟨aI,aJ,am⟩:=bind_some am
      refine Bc f Z call26 (Wk.a m aJ) λaK w aL m a f=>Ai f Z Z Dj λa f=>Ac f Z λa f=>Aa (Ao ?_)
      refine Ai f Z Z Ax λa f=>Ab f Z λa f=>Aa ?_
      obtain rfl:=sj am
      exact⟨_,Z,_,_,Z,_,(gt ao (gt aG aL)),f.k Z,m⟩
    ·intro aM
     rcases Ae aE with⟨aN,aE⟩|⟨aN,aE⟩
     ·refine Am 13 30 Z f aN λa f=> ?_
      refine Am 14 30 Z f aN λa f=>Am 15 30 Z f aN λa f=>Bw 16 30 Z f λa f=>Bw 17 30 Z f λa f=>Bw 18 30 Z f λa f=>Bw 19 30 Z f λa f=>Bw 20 30 Z f λa f=>Bw 21 30 Z f λa f=>Bw 22 30 Z f λa f=>Bw 23 30 Z f λa f=>Bw 24 30 Z f λa f=>Bw 25 30 Z f λa f=>Bw 26 30 Z f λa f=>Bw 27 30 Z f λa f=>Am 28 30 Z f aN λa f=>q_p 29 30 Z f (λ_=>AK (f.e Z) aN (f.e Z)) λa f=> ?_
      obtain rfl:=sj aE
      exact aM _ (f.k Z)
     ·refine Ah (hw:=wo f aN) 13 30 Z f Z λa f=> ?_
      refine q_p (hw:=wo f aN) 14 30 Z f (λ_=>AF (f.e Z) (f.e Z) Ce) λa f=>Ah (hw:=wo f aN) 15 30 Z f Z λa f=> ?_
      have⟨aO,aP,aE⟩:=bind_some aE
      refine BU (fuel':=1) (listed':= #[true,true,true,true,true,true,true,true,true,true,true,true,true,true,true,true,true,true,true,true,true,true,true,true,true,true,true,true,true,false]) (λa=>Fr a 50 [(1,v1),(2,(pb ad)),(5,(.int .u32 ai)),(6,(iv aj)),(7,(iv aq)),(8,v1),(9,(iv (x1.length:Int))),(10,(iv aj)),(15,(iv aq)),(16,(pb ad)),(17,aa),(18,(iv (ab.length:Int))),(19,(iv (i64.wrap ((ab.length:Int)-1)))),(20,(.bool ay)),(21,(.bool (!ay))),(22,(.bool (!ay))),(26,(.bool aB)),(27,(.bool aB)),(28,(iv aj)),(29,(.bool (decide ((0:Int)<aj)))),(30,(.bool (decide ((0:Int)<aj)))),(43,(.bool aO))]) ?_ ?_
      ·intro a f
       refine q_p 29 30 Z f (λ_=>AP (f.e Z) aN (f.e Z)) λa f=> ?_
       obtain rfl:=sj aE
       exact aM _ (f.k Z)
      ·intro aQ
       rcases Ae aP with⟨aR,aP⟩|⟨aR,aP⟩
       ·refine Bg (hw:=wo f aR) 16 30 underlying26 Z sizeOf24 Z f Z λa f=> ?_
        refine Bp (hw:=wo f aR) 17 30 0 Bt Z Z Z f Z λa f=>Ah (hw:=wo f aR) 18 30 Z f Z λa f=> ?_
        have⟨aS,aT,aP⟩:=bind_some aP
        refine BF (hw:=wo f aR) 19 30 T24 ac aT Z f Z Z λaU aV a aW aX f=>BG (hw:=wo f aR) 20 30 B3 aW Z f Z λa f=>Ah (hw:=wo f aR) 21 30 Z f Z λa f=>Ah (hw:=wo f aR) 22 30 Z f Z λa f=>q_p (hw:=wo f aR) 23 30 Z f (λ_=>AF (f.e Z) (f.e Z) AS) λa f=> ?_
        have⟨aY,aZ,aP⟩:=bind_some aP
        refine BF (hw:=wo f aR) 24 30 T28 h1 aZ Z f Z Z λa0 a1 a a2 a3 f=> ?_
        subst a3
        refine BG (hw:=wo f aR) 25 30 Pl2 a2 Z f Z λa f=> ?_
        have⟨a4,a5,aP⟩:=bind_some aP
        refine AW (i:=26) 30 Z (by kernel_rfl) Z f (Ba f Z Z Z aR) Z Z call50 (λ_ _ w a6 m=>Wk.t m (rd1 a6 aX) a5) λa f=>q_p (hw:=wo f aR) 27 30 Z f (λ_=>Bh (f.e Z)) λa f=>q_p (hw:=wo f aN) 28 30 Z f (λ_=>AK (f.e Z) aR (f.e Z)) λa f=> ?_
        obtain rfl:=sj aP
        exact aQ _ (f.k Z)
       ·refine Am 16 30 Z f aR λa f=> ?_
        refine Am 17 30 Z f aR λa f=>Am 18 30 Z f aR λa f=>Am 19 30 Z f aR λa f=>Am 20 30 Z f aR λa f=>Am 21 30 Z f aR λa f=>Am 22 30 Z f aR λa f=>Am 23 30 Z f aR λa f=>Am 24 30 Z f aR λa f=>Am 25 30 Z f aR λa f=>Am 26 30 Z f aR λa f=>Am 27 30 Z f aR λa f=>q_p (hw:=wo f aN) 28 30 Z f (λ_=>AP (f.e Z) aR (f.e Z)) λa f=> ?_
        obtain rfl:=sj aP
        exact aQ _ (f.k Z)
   ·intro a7
    rcases Ae aC with⟨a8,aC⟩|⟨a8,aC⟩
    ·refine Am 8 30 Z f a8 λa f=> ?_
     refine Am 9 30 Z f a8 λa f=>Am 10 30 Z f a8 λa f=>q_p 11 30 Z f (λ_=>AK (f.e Z) a8 (f.e Z)) λa f=> ?_
     obtain rfl:=sj aC
     exact a7 _ (f.k Z)
    ·refine Ah (hw:=wo f a8) 8 30 Z f Z λa f=> ?_
     refine Ah (hw:=wo f a8) 9 30 Z f Z λa f=> ?_
     have⟨a9,ba,aC⟩:=bind_some aC
     refine AW (i:=10) 30 Z (by kernel_rfl) Z f (Ba f Z Z Z a8) Z Z call23 (λ_ _ w bb m=>Wk.m m ba) λa f=>q_p 11 30 Z f (λ_=>AP (f.e Z) a8 (f.e Z)) λa f=> ?_
     obtain rfl:=sj aC
     exact a7 _ (f.k Z)
  ·refine Aj f Z ap ?_
   refine AH Z ?_
   have m:Mem W ak w H:=Mem.drop (H':=[ib ad 26 [aa]]) m
   obtain rfl:=sj am
   obtain rfl:=an _ rfl
   exact⟨_,Z,_,ao,f.weak trivial,m⟩
 ·rintro a w ⟨_,rfl,ag,bc,f,m⟩
  refine Af ?_
  refine Ac f Z λa f=>Aa ?_
  refine Aq ?_
  obtain rfl:=sj hd
  exact⟨[(.bool true)],f.g Z,f.d,_,[],bc,m,Z,Z⟩
theorem Wk.f1 {aa v1:Value}{ab:LL}{x1:LI}(m:Mem W G w (H))(ac:R2 G aa ab)(h1:R1 G v1 x1){y:Bool}(hd:D.f1 ab x1=some y):
  Calls prog 39 #[(.agg #[aa]),v1] w (Res W G H (λ_ Ho v=>Ho=[]∧v=(.bool y))):=by
 refine Au (args:=[(.agg #[aa]),v1]) (N:=34) [.tmp 4] func39 Z Z (lb Z) Z λa f=> ?_
 unfold D.f1 at hd
 refine Af ?_
 refine Bj (cs:=[aa]) m f Z Z Z λad w a m f=>Ac f Z λa f=>AB ?_
 refine Ab f Z λa f=>A8 underlying28 f Z Z h1 λa f=>Ac f Z λa f=>Aa (Ag ?_)
 refine A2 27 AG (by kernel_rfl) m ?_
 refine Bx (i:=0) (ds:=[aa]) 27 0 AI Z Z Z Z (by kernel_rfl) Z f Z Z Z λa f=> ?_
 have⟨ae,af,hd⟩:=bind_some hd
 refine AW (i:=1) 27 Z (by kernel_rfl) Z f Z Z Z call21 (λ_ _ w ag m=>Wk.l m (rd2 ag ac) af) λa f=>Ah 2 27 Z f Z λa f=>BU (fuel':=21) (listed':= #[true,true,true,true,true,true,false,false,false,false,false,false,false,false,false,false,false,false,false,false,false,false,false,false,false,false,false]) (λa=>Fr a 34 [(0,(.agg #[aa])),(1,v1),(2,(pb ad)),(5,(iv (x1.length:Int))),(8,(.agg #[aa])),(9,(.bool ae)),(10,(.bool ae)),(13,(.bool (ae&&(decide ((3:Int)≤(x1.length:Int))))))]) ?_ ?_
 ·intro a f
  refine Ah 6 27 Z f Z λa f=> ?_
  have⟨ah,ai,hd⟩:=bind_some hd
  refine BU (fuel':=16) (listed':= #[true,true,true,true,true,true,true,true,true,true,true,false,false,false,false,false,false,false,false,false,false,false,false,false,false,false,false]) (λa=>Fr a 34 [(0,(.agg #[aa])),(1,v1),(2,(pb ad)),(5,(iv (x1.length:Int))),(8,(.agg #[aa])),(9,(.bool ae)),(10,(.bool ae)),(13,(.bool (ae&&(decide ((3:Int)≤(x1.length:Int)))))),(14,(.bool (ae&&(decide ((3:Int)≤(x1.length:Int)))))),(18,(.bool ah))]) ?_ ?_
  ·intro a f
   refine Ah 11 27 Z f Z λa f=> ?_
   have⟨aj,ak,hd⟩:=bind_some hd
   refine BU (fuel':=1) (listed':= #[true,true,true,true,true,true,true,true,true,true,true,true,true,true,true,true,true,true,true,true,true,true,true,true,true,true,false]) (λa=>Fr a 34 [(0,(.agg #[aa])),(1,v1),(2,(pb ad)),(5,(iv (x1.length:Int))),(8,(.agg #[aa])),(9,(.bool ae)),(10,(.bool ae)),(13,(.bool (ae&&(decide ((3:Int)≤(x1.length:Int)))))),(14,(.bool (ae&&(decide ((3:Int)≤(x1.length:Int)))))),(18,(.bool ah)),(19,(.bool ah)),(33,(.bool aj))]) ?_ ?_
   ·intro a f
    refine q_p 26 27 Z f (λ_=>Ct (f.e Z)) λa f=>AJ λal w am m=>Aa ?_
    refine Aq ?_
    have m:Mem W al w H:=Mem.drop (H':=[ib ad 26 [aa]]) m
    obtain rfl:=sj hd
    exact⟨[(.bool aj)],f.g Z,f.d,_,[],am,m,Z,Z⟩
   ·intro an
    rcases Ae ak with⟨ao,ak⟩|⟨ao,ak⟩
    ·refine Bg (hw:=wo f ao) 12 27 underlying26 Z sizeOf24 Z f Z λa f=> ?_
     refine Bp (hw:=wo f ao) 13 27 0 Bt Z Z Z f Z λa f=>Ah (hw:=wo f ao) 14 27 Z f Z λa f=> ?_
     have⟨ap,aq,ak⟩:=bind_some ak
     refine BF (hw:=wo f ao) 15 27 T28 h1 aq Z f Z Z λar au a av aw f=> ?_
     subst aw
     refine BG (hw:=wo f ao) 16 27 Pl2 av Z f Z λa f=> ?_
     have⟨ax,ay,ak⟩:=bind_some ak
     refine BF (hw:=wo f ao) 17 27 T24 ac ay Z f Z Z λaz aA a aB aC f=>BG (hw:=wo f ao) 18 27 B3 aB Z f Z λa f=>Ah (hw:=wo f ao) 19 27 Z f Z λa f=>Ah (hw:=wo f ao) 20 27 Z f Z λa f=>q_p (hw:=wo f ao) 21 27 Z f (λ_=>AF (f.e Z) (f.e Z) AS) λa f=> ?_
     have⟨aD,aE,ak⟩:=bind_some ak
     refine BF (hw:=wo f ao) 22 27 T28 h1 aE Z f Z Z λaF aG a aH aI f=> ?_
     subst aI
     refine BG (hw:=wo f ao) 23 27 Pl2 aH Z f Z λa f=> ?_
     have⟨aJ,aK,ak⟩:=bind_some ak
     refine AW (i:=24) 27 Z (by kernel_rfl) Z f (Ba f Z Z Z ao) Z Z call50 (λ_ _ w aL m=>Wk.t m (rd1 aL aC) aK) λa f=>q_p 25 27 Z f (λ_=>AK (f.e Z) ao (f.e Z)) λa f=> ?_
     obtain rfl:=sj ak
     exact an _ (f.k Z)
    ·refine Am 12 27 Z f ao λa f=> ?_
     refine Am 13 27 Z f ao λa f=>Am 14 27 Z f ao λa f=>Am 15 27 Z f ao λa f=>Am 16 27 Z f ao λa f=>Am 17 27 Z f ao λa f=>Am 18 27 Z f ao λa f=>Am 19 27 Z f ao λa f=>Am 20 27 Z f ao λa f=>Am 21 27 Z f ao λa f=>Am 22 27 Z f ao λa f=>Am 23 27 Z f ao λa f=>Am 24 27 Z f ao λa f=>q_p 25 27 Z f (λ_=>AP (f.e Z) ao (f.e Z)) λa f=> ?_
     obtain rfl:=sj ak
     exact an _ (f.k Z)
  ·intro aM
   rcases Ae ai with⟨aN,ai⟩|⟨aN,ai⟩
   ·refine Bx (i:=7) (ds:=[aa]) 27 0 AI Z Z Z Z (by kernel_rfl) Z f (Ba f Z Z Z aN) Z Z λa f=> ?_
    refine Ah (hw:=wo f aN) 8 27 Z f Z λa f=> ?_
    have⟨aO,aP,ai⟩:=bind_some ai
    refine AW (i:=9) 27 Z (by kernel_rfl) Z f (Ba f Z Z Z aN) Z Z call59 (λ_ _ w aQ m=>Wk.P0 m (rd2 aQ ac) (rd1 aQ h1) aP) λa f=>q_p 10 27 Z f (λ_=>AK (f.e Z) aN (f.e Z)) λa f=> ?_
    obtain rfl:=sj ai
    exact aM _ (f.k Z)
   ·refine Am 7 27 Z f aN λa f=> ?_
    refine Am 8 27 Z f aN λa f=>Am 9 27 Z f aN λa f=>q_p 10 27 Z f (λ_=>AP (f.e Z) aN (f.e Z)) λa f=> ?_
    obtain rfl:=sj ai
    exact aM _ (f.k Z)
 ·intro aR
  rcases Bool.eq_false_or_eq_true ae with aS|aS
  ·refine Ah (hw:=wo f aS) 3 27 Z f Z λa f=> ?_
   refine q_p (hw:=wo f aS) 4 27 Z f (λ_=>AF (f.e Z) (f.e Z) CE) λa f=>q_p 5 27 Z f (λ_=>AK (f.e Z) aS (f.e Z)) λa f=> ?_
   exact aR _ (f.weak ⟨Z,Z,Z,Z,Z,Z,Z,by rw[aS];rfl,trivial⟩)
  ·refine Am 3 27 Z f aS λa f=> ?_
   refine Am 4 27 Z f aS λa f=>q_p 5 27 Z f (λ_=>AP (f.e Z) aS (f.e Z)) λa f=> ?_
   exact aR _ (f.weak ⟨Z,Z,Z,Z,Z,Z,Z,by rw[aS];rfl,trivial⟩)
theorem Wk.O0 {aa v1:Value}{ab:LL}{x1:LI}(m:Mem W G w (H))(ac:R2 G aa ab)(h1:R1 G v1 x1){y:Bool}(hd:D.O0 ab x1=some y):
  Calls prog 14 #[(.agg #[aa]),v1] w (Res W G H (λ_ Ho v=>Ho=[]∧v=(.bool y))):=by
 refine Au (args:=[(.agg #[aa]),v1]) (N:=37) [.tmp 4] func14 Z Z (lb Z) Z λa f=> ?_
 unfold D.O0 at hd
 refine Af ?_
 refine Bj (cs:=[aa]) m f Z Z Z λad w a m f=>Ac f Z λa f=>Aa (Ag (Af ?_))
 refine Az 0 0 (ds:=[aa]) m AI f Z Z Z Z Z λa f=>Ab f Z λa f=> ?_
 have⟨ae,af,hd⟩:=bind_some hd
 refine Bc f Z call39 (Wk.f1 m ac h1 af) λag w ah m a f=> ?_
 have ac:=rd2 ah ac
 have h1:=rd1 ah h1
 refine l_o f (Bh (f.e Z)) λa f=>Ab f Z λa f=> ?_
 refine Bz 4 (λa w=>∃ai,GLe ag ai∧Mem W ai w (ib ad 26 [aa]::H)∧Fr a 37 [(0,(.agg #[aa])),(1,v1),(2,(pb ad)),(9,(.agg #[aa])),(10,v1),(11,(.bool ae)),(12,(.bool (!ae))),(13,(.bool (!ae))),(17,(.bool ((!ae)||(decide ((x1.length:Int)<4)))))]) ?_ ?_
 ·rcases Bool.eq_false_or_eq_true (!ae) with aj|aj
  ·refine AE f aj λa f=> ?_
   refine AE f aj λa f=>AE f aj λa f=>l_o f (AK (f.e Z) aj (f.e Z)) λa f=> ?_
   exact⟨_,gr,m,f.weak ⟨Z,Z,Z,Z,Z,Z,Z,Z,by rw[aj];rfl,trivial⟩⟩
  ·refine AC f aj ?_
   refine Ab f Z λa f=>AC f aj ?_
   refine A8 underlying28 f Z Z h1 λa f=>AC f aj ?_
   refine Ai f Z Z AR λa f=>l_o f (AP (f.e Z) aj (f.e Z)) λa f=> ?_
   exact⟨_,gr,m,f.weak ⟨Z,Z,Z,Z,Z,Z,Z,Z,by rw[aj];rfl,trivial⟩⟩
 ·rintro a w ⟨ai,ak,m,f⟩
  have ac:=rd2 ak ac
  have h1:=rd1 ak h1
  refine Aa ?_
  rcases Ae hd with⟨al,hd⟩|⟨al,hd⟩
  ·refine Al f Z al ?_
   refine Af ?_
   refine Ac f Z λa f=>Aa ?_
   refine Aq ?_
   have m:Mem W ai w H:=Mem.drop (H':=[ib ad 26 [aa]]) m
   obtain rfl:=sj hd
   exact⟨[(.bool false)],f.g Z,f.d,_,[],(gt ah ak),m,Z,Z⟩
  ·refine Aj f Z al ?_
   refine Ap ?_
   refine Af ?_
   refine Az 0 0 (ds:=[aa]) m AI f Z Z Z Z Z λa f=> ?_
   have⟨am,an,hd⟩:=bind_some hd
   refine AD f Z call20 (Wk.j m ac an) λao ap aq w ar m au a f=> ?_
   obtain⟨av,aw,rfl,rfl,ax⟩:=au
   have h1:=rd1 ar h1
   refine Ab f Z λa f=> ?_
   have⟨ay,az,hd⟩:=bind_some hd
   refine Bc f Z call40 (Wk.d0 m h1 az) λaA w aB m a f=> ?_
   have h1:=rd1 aB h1
   have ax:=od1 aB ax
   refine Ac f Z λa f=>Ac f Z λa f=>Aa (Ag (Af ?_))
   refine Ab f Z λa f=>A8 underlying28 f Z Z h1 λa f=>Ab f Z λa f=>Aa ?_
   have⟨aC,aD,hd⟩:=bind_some hd
   refine AM (λa w=>∃q_76':Unit,aC= .inl q_76'∧∃(aE:GH),GLe aA aE∧Fr a 37 []∧Mem W aE w (H)) ?_ ?_
   ·refine Ak ?_
    have m:=m.eraseAt 1
    refine AL (λaF a w=>∃aG:Int,aG=aF∧∃(aH:GH),GLe aA aH∧Fr a 37 [(5,av),(6,(.int .u32 ay)),(22,v1),(23,(iv (x1.length:Int))),(24,(iv aG))]∧Mem W aH w (aw::H)) aD ⟨_,Z,_,gr,f.k Z,m⟩ ?_
    clear aD f m
    rintro aF aI aJ aK a w ⟨aG,rfl,aH,aL,f,m⟩
    have h1:=rd1 aL h1
    have ax:=od1 aL ax
    refine Af ?_
    refine Ai f Z Z AR λa f=>Aa (Ag ?_)
    rcases Ae aJ with⟨aM,aJ⟩|⟨aM,aJ⟩
    ·refine Al f Z aM ?_
     refine Ap ?_
     refine Ag (Ak (Af ?_))
     have⟨aN,aO,aJ⟩:=bind_some aJ
     refine Bu T28 f Z Z Z h1 aO λaP aQ a aR aS f=> ?_
     subst aS
     refine AT m Pl2 f Z Z aR λa f=>Ac f Z λa f=>AB ?_
     refine Ab f Z λa f=>Ab f Z λa f=> ?_
     have⟨aT,aU,aJ⟩:=bind_some aJ
     refine A5 0 m ax Z T41 f Z Z Z aU λaV a aW f=>BB 0 m ax Z Pl44 f Z Z aW aU λaX a aY f=> ?_
     subst aY
     refine Ab f Z λa f=>Ai f Z Z CT λa f=> ?_
     have⟨aZ,a0,aJ⟩:=bind_some aJ
     refine Bc f Z call41 (Wk.h0 m a0) λa1 w a2 m a f=>Ai f Z Z DG λa f=>Aa ?_
     rcases Ae aJ with⟨a3,aJ⟩|⟨a3,aJ⟩
     ·refine Al f Z a3 ?_
      refine Af ?_
      refine Ac f Z λa f=>Aa ?_
      refine Aq ?_
      have m:Mem W a1 w H:=Mem.drop (H':=[aw]) m
      obtain rfl:=sj aJ
      obtain rfl:=aK _ rfl
      obtain rfl:=sj hd
      exact⟨[(.bool false)],f.g Z,f.d,_,[],(gt ah (gt ak (gt ar (gt aB (gt aL a2))))),m,Z,Z⟩
     ·refine Aj f Z a3 ?_
      refine Ap ?_
      refine Ao ?_
      refine Ai f Z Z Ax λa f=>Ab f Z λa f=>Aa ?_
      obtain rfl:=sj aJ
      exact⟨_,Z,_,Z,_,(gt aL a2),f.k Z,m⟩
    ·refine Aj f Z aM ?_
     refine AH Z ?_
     have m:Mem W aH w H:=Mem.drop (H':=[aw]) m
     obtain rfl:=sj aJ
     obtain rfl:=aK _ rfl
     exact⟨_,Z,_,aL,f.weak trivial,m⟩
   ·rintro a w ⟨_,rfl,aE,a4,f,m⟩
    refine Af ?_
    refine Ac f Z λa f=>Aa ?_
    refine Aq ?_
    obtain rfl:=sj hd
    exact⟨[(.bool true)],f.g Z,f.d,_,[],(gt ah (gt ak (gt ar (gt aB a4)))),m,Z,Z⟩
theorem Wk.p0 {aa v1:Value}{ab:LL}{x1:LI}(m:Mem W G w (H))(ac:R2 G aa ab)(h1:R1 G v1 x1){y:Bool}(hd:D.p0 ab x1=some y):
  Calls prog 61 #[(.agg #[aa]),v1] w (Res W G H (λ_ Ho v=>Ho=[]∧v=(.bool y))):=by
 refine Au (args:=[(.agg #[aa]),v1]) (N:=47) [.tmp 4] func61 Z Z (lb Z) Z λa f=> ?_
 unfold D.p0 at hd
 refine Af ?_
 refine Bj (cs:=[aa]) m f Z Z Z λad w a m f=>Ac f Z λa f=>Aa (Ag (Af ?_))
 refine Ac f Z λa f=>Aa ?_
 have⟨ae,af,hd⟩:=bind_some hd
 refine AM (λa w=>∃q_235':Unit,ae= .inl q_235'∧∃(ag:GH),GLe G ag∧Fr a 47 []∧Mem W ag w (H)) ?_ ?_
 ·refine Ak ?_
  refine AL (λah a w=>∃ai:Int,ai=ah∧∃(aj:GH),GLe G aj∧Fr a 47 [(1,v1),(2,(pb ad)),(5,(iv ai))]∧Mem W aj w (ib ad 26 [aa]::H)) af ⟨_,Z,_,gr,f.k Z,m⟩ ?_
  clear af f m
  rintro ah ak al am a w ⟨ai,rfl,aj,an,f,m⟩
  have h1:=rd1 an h1
  have ac:=rd2 an ac
  refine Ag (Af ?_)
  refine Ab f Z λa f=>Ab f Z λa f=>A8 underlying28 f Z Z h1 λa f=>Ai f Z Z AR λa f=>Aa ?_
  rcases Ae al with⟨ao,al⟩|⟨ao,al⟩
  ·refine Al f Z ao ?_
   refine Ap ?_
   refine Ag (Ak (Ag ?_))
   refine A2 35 AG (by kernel_rfl) m ?_
   refine Bx (i:=0) (ds:=[aa]) 35 0 AI Z Z Z Z (by kernel_rfl) Z f Z Z Z λa f=>Ah 1 35 Z f Z λa f=>Ah 2 35 Z f Z λa f=> ?_
   have⟨ap,aq,al⟩:=bind_some al
   refine BF 3 35 T28 h1 aq Z f Z Z λar au a av aw f=> ?_
   subst aw
   refine BG 4 35 Pl2 av Z f Z λa f=> ?_
   have⟨ax,ay,al⟩:=bind_some al
   refine AW (i:=5) 35 Z (by kernel_rfl) Z f Z Z Z call83 (λ_ _ w az m=>Wk.O m (rd2 az ac) ay) λa f=>q_p 6 35 Z f (λ_=>Bh (f.e Z)) λa f=>Ah 7 35 Z f Z λa f=> ?_
   have⟨aA,aB,al⟩:=bind_some al
   refine BU (fuel':=18) (listed':= #[true,true,true,true,true,true,true,true,true,true,true,true,true,true,true,true,true,false,false,false,false,false,false,false,false,false,false,false,false,false,false,false,false,false,false]) (λa=>Fr a 47 [(1,v1),(2,(pb ad)),(5,(iv ai)),(9,(.bool (decide (ai<(x1.length:Int))))),(12,(.agg #[aa])),(13,v1),(14,(iv ai)),(15,ar),(16,(iv ap)),(17,(.bool ax)),(18,(.bool (!ax))),(19,(.bool (!ax))),(28,(.bool aA))]) ?_ ?_
   ·intro a f
    refine Ah 17 35 Z f Z λa f=> ?_
    have⟨aC,aD,al⟩:=bind_some al
    refine BU (fuel':=0) (listed':= #[true,true,true,true,true,true,true,true,true,true,true,true,true,true,true,true,true,true,true,true,true,true,true,true,true,true,true,true,true,true,true,true,true,true,true]) (λa=>Fr a 47 [(1,v1),(2,(pb ad)),(5,(iv ai)),(9,(.bool (decide (ai<(x1.length:Int))))),(12,(.agg #[aa])),(13,v1),(14,(iv ai)),(15,ar),(16,(iv ap)),(17,(.bool ax)),(18,(.bool (!ax))),(19,(.bool (!ax))),(28,(.bool aA)),(29,(.bool aA)),(46,(.bool aC))]) ?_ ?_
    ·intro a f
     refine AJ λaE w aF m=>Aa ?_
     rcases Ae al with⟨aG,al⟩|⟨aG,al⟩
     ·refine Al f Z aG ?_
      refine Af ?_
      refine Ac f Z λa f=>Aa ?_
      refine Aq ?_
      have m:Mem W aE w H:=Mem.drop (H':=[ib ad 26 [aa]]) m
      obtain rfl:=sj al
      obtain rfl:=am _ rfl
      obtain rfl:=sj hd
      exact⟨[(.bool false)],f.g Z,f.d,_,[],(gt an aF),m,Z,Z⟩
     ·refine Aj f Z aG ?_
      refine Ap ?_
      refine Ao ?_
      refine Ab f Z λa f=>Ai f Z Z Ax λa f=>Ac f Z λa f=>Aa ?_
      obtain rfl:=sj al
      exact⟨_,Z,_,Z,_,(gt an aF),f.k Z,m⟩
    ·intro aH
     rcases Ae aD with⟨aI,aD⟩|⟨aI,aD⟩
     ·refine Am 18 35 Z f aI λa f=> ?_
      refine Am 19 35 Z f aI λa f=>Am 20 35 Z f aI λa f=>Bw 21 35 Z f λa f=>Bw 22 35 Z f λa f=>Bw 23 35 Z f λa f=>Bw 24 35 Z f λa f=>Bw 25 35 Z f λa f=>Bw 26 35 Z f λa f=>Bw 27 35 Z f λa f=>Bw 28 35 Z f λa f=>Bw 29 35 Z f λa f=>Bw 30 35 Z f λa f=>Bw 31 35 Z f λa f=>Bw 32 35 Z f λa f=>Am 33 35 Z f aI λa f=>q_p 34 35 Z f (λ_=>AK (f.e Z) aI (f.e Z)) λa f=> ?_
      obtain rfl:=sj aD
      exact aH _ (f.k Z)
     ·refine Ah (hw:=wo f aI) 18 35 Z f Z λa f=> ?_
      refine q_p (hw:=wo f aI) 19 35 Z f (λ_=>AF (f.e Z) (f.e Z) Ce) λa f=>Ah (hw:=wo f aI) 20 35 Z f Z λa f=> ?_
      have⟨aJ,aK,aD⟩:=bind_some aD
      refine BU (fuel':=1) (listed':= #[true,true,true,true,true,true,true,true,true,true,true,true,true,true,true,true,true,true,true,true,true,true,true,true,true,true,true,true,true,true,true,true,true,true,false]) (λa=>Fr a 47 [(1,v1),(2,(pb ad)),(5,(iv ai)),(9,(.bool (decide (ai<(x1.length:Int))))),(12,(.agg #[aa])),(13,v1),(14,(iv ai)),(15,ar),(16,(iv ap)),(17,(.bool ax)),(18,(.bool (!ax))),(19,(.bool (!ax))),(28,(.bool aA)),(29,(.bool aA)),(30,(iv ai)),(31,(.bool (decide ((0:Int)<ai)))),(32,(.bool (decide ((0:Int)<ai)))),(45,(.bool aJ))]) ?_ ?_
      ·intro a f
       refine q_p 34 35 Z f (λ_=>AP (f.e Z) aI (f.e Z)) λa f=> ?_
       obtain rfl:=sj aD
       exact aH _ (f.k Z)
      ·intro aL
       rcases Ae aK with⟨aM,aK⟩|⟨aM,aK⟩
       ·refine Bx (i:=21) (ds:=[aa]) 35 0 AI Z Z Z Z (by kernel_rfl) Z f (Ba f Z Z Z aM) Z Z λa f=> ?_
        refine Ah (hw:=wo f aM) 22 35 Z f Z λa f=>Ah (hw:=wo f aM) 23 35 Z f Z λa f=>q_p (hw:=wo f aM) 24 35 Z f (λ_=>AF (f.e Z) (f.e Z) AS) λa f=> ?_
        have⟨aN,aO,aK⟩:=bind_some aK
        refine BF (hw:=wo f aM) 25 35 T28 h1 aO Z f Z Z λaP aQ a aR aS f=> ?_
        subst aS
        refine BG (hw:=wo f aM) 26 35 Pl2 aR Z f Z λa f=>Ah (hw:=wo f aM) 27 35 Z f Z λa f=>Ah (hw:=wo f aM) 28 35 Z f Z λa f=> ?_
        have⟨aT,aU,aK⟩:=bind_some aK
        refine BF (hw:=wo f aM) 29 35 T28 h1 aU Z f Z Z λaV aW a aX aY f=> ?_
        subst aY
        refine BG (hw:=wo f aM) 30 35 Pl2 aX Z f Z λa f=> ?_
        have⟨aZ,a0,aK⟩:=bind_some aK
        refine AW (i:=31) 35 Z (by kernel_rfl) Z f (Ba f Z Z Z aM) Z Z call62 (λ_ _ w a1 m=>Wk.f m (rd2 a1 ac) a0) λa f=>q_p (hw:=wo f aM) 32 35 Z f (λ_=>Bh (f.e Z)) λa f=>q_p (hw:=wo f aI) 33 35 Z f (λ_=>AK (f.e Z) aM (f.e Z)) λa f=> ?_
        obtain rfl:=sj aK
        exact aL _ (f.k Z)
       ·refine Am 21 35 Z f aM λa f=> ?_
        refine Am 22 35 Z f aM λa f=>Am 23 35 Z f aM λa f=>Am 24 35 Z f aM λa f=>Am 25 35 Z f aM λa f=>Am 26 35 Z f aM λa f=>Am 27 35 Z f aM λa f=>Am 28 35 Z f aM λa f=>Am 29 35 Z f aM λa f=>Am 30 35 Z f aM λa f=>Am 31 35 Z f aM λa f=>Am 32 35 Z f aM λa f=>q_p (hw:=wo f aI) 33 35 Z f (λ_=>AP (f.e Z) aM (f.e Z)) λa f=> ?_
        obtain rfl:=sj aK
        exact aL _ (f.k Z)
   ·intro a2
    rcases Ae aB with⟨a3,aB⟩|⟨a3,aB⟩
    ·refine Am 8 35 Z f a3 λa f=> ?_
     refine Am 9 35 Z f a3 λa f=>Am 10 35 Z f a3 λa f=>Am 11 35 Z f a3 λa f=>Am 12 35 Z f a3 λa f=>Am 13 35 Z f a3 λa f=>Am 14 35 Z f a3 λa f=>Am 15 35 Z f a3 λa f=>q_p 16 35 Z f (λ_=>AK (f.e Z) a3 (f.e Z)) λa f=> ?_
     obtain rfl:=sj aB
     exact a2 _ (f.k Z)
    ·refine Ah (hw:=wo f a3) 8 35 Z f Z λa f=> ?_
     refine Ah (hw:=wo f a3) 9 35 Z f Z λa f=> ?_
     have⟨a4,a5,aB⟩:=bind_some aB
     refine ET (i:=10) 35 T28 h1 a5 Z (by kernel_rfl) Z f (Ba f Z Z Z a3) Z Z (.inl ⟨Z,Z⟩) (.inr ⟨_,_,Z,Z⟩) λa6 a a7 f=>Ah (hw:=wo f a3) 11 35 Z f Z λa f=>Ah (hw:=wo f a3) 12 35 Z f Z λa f=> ?_
     have⟨a8,a9,aB⟩:=bind_some aB
     refine BF (hw:=wo f a3) 13 35 T28 h1 a9 Z f Z Z λba bb a bc bd f=> ?_
     subst bd
     refine BG (hw:=wo f a3) 14 35 Pl2 bc Z f Z λa f=> ?_
     have⟨be,bf,aB⟩:=bind_some aB
     refine AW (i:=15) 35 Z (by kernel_rfl) Z f (Ba f Z Z Z a3) Z Z call34 (λ_ _ w bg m=>Wk.q m (rd1 bg a7) bf) λa f=>q_p 16 35 Z f (λ_=>AP (f.e Z) a3 (f.e Z)) λa f=> ?_
     obtain rfl:=sj aB
     exact a2 _ (f.k Z)
  ·refine Aj f Z ao ?_
   refine AH Z ?_
   have m:Mem W aj w H:=Mem.drop (H':=[ib ad 26 [aa]]) m
   obtain rfl:=sj al
   obtain rfl:=am _ rfl
   exact⟨_,Z,_,an,f.weak trivial,m⟩
 ·rintro a w ⟨_,rfl,ag,bh,f,m⟩
  refine Af ?_
  refine Ac f Z λa f=>Aa ?_
  refine Aq ?_
  obtain rfl:=sj hd
  exact⟨[(.bool true)],f.g Z,f.d,_,[],bh,m,Z,Z⟩
theorem Wk.K0 {aa v1:Value}{ab:LL}{x1:LI}(m:Mem W G w (H))(ac:R2 G aa ab)(h1:R1 G v1 x1){y:Bool}(hd:D.K0 ab x1=some y):
  Calls prog 42 #[(.agg #[aa]),v1] w (Res W G H (λ_ Ho v=>Ho=[]∧v=(.bool y))):=by
 refine Au (args:=[(.agg #[aa]),v1]) (N:=37) [.tmp 4] func42 Z Z (lb Z) Z λa f=> ?_
 unfold D.K0 at hd
 refine Af ?_
 refine Bj (cs:=[aa]) m f Z Z Z λad w a m f=>Ac f Z λa f=>Aa (Ag (Af ?_))
 refine Az 0 0 (ds:=[aa]) m AI f Z Z Z Z Z λa f=> ?_
 have⟨ae,af,hd⟩:=bind_some hd
 refine Bc f Z call10 (Wk.p m ac af) λag w ah m a f=> ?_
 have ac:=rd2 ah ac
 have h1:=rd1 ah h1
 refine l_o f (Bh (f.e Z)) λa f=>Ab f Z λa f=> ?_
 refine Bz 4 (λa w=>∃ai,GLe ag ai∧Mem W ai w (ib ad 26 [aa]::H)∧Fr a 37 [(0,(.agg #[aa])),(1,v1),(2,(pb ad)),(5,(.agg #[aa])),(6,(.bool ae)),(7,(.bool (!ae))),(8,(.bool (!ae))),(12,(.bool ((!ae)||(decide ((x1.length:Int)<3)))))]) ?_ ?_
 ·rcases Bool.eq_false_or_eq_true (!ae) with aj|aj
  ·refine AE f aj λa f=> ?_
   refine AE f aj λa f=>AE f aj λa f=>l_o f (AK (f.e Z) aj (f.e Z)) λa f=> ?_
   exact⟨_,gr,m,f.weak ⟨Z,Z,Z,Z,Z,Z,Z,by rw[aj];rfl,trivial⟩⟩
  ·refine AC f aj ?_
   refine Ab f Z λa f=>AC f aj ?_
   refine A8 underlying28 f Z Z h1 λa f=>AC f aj ?_
   refine Ai f Z Z AR λa f=>l_o f (AP (f.e Z) aj (f.e Z)) λa f=> ?_
   exact⟨_,gr,m,f.weak ⟨Z,Z,Z,Z,Z,Z,Z,by rw[aj];rfl,trivial⟩⟩
 ·rintro a w ⟨ai,ak,m,f⟩
  have ac:=rd2 ak ac
  have h1:=rd1 ak h1
  refine Ab f Z λa f=> ?_
  have⟨al,am,hd⟩:=bind_some hd
  refine Bz 6 (λa w=>∃an,GLe ai an∧Mem W an w (ib ad 26 [aa]::H)∧Fr a 37 [(0,(.agg #[aa])),(1,v1),(2,(pb ad)),(5,(.agg #[aa])),(6,(.bool ae)),(7,(.bool (!ae))),(8,(.bool (!ae))),(12,(.bool ((!ae)||(decide ((x1.length:Int)<3))))),(13,(.bool ((!ae)||(decide ((x1.length:Int)<3))))),(19,(.bool al))]) ?_ ?_
  ·rcases Ae am with⟨ao,am⟩|⟨ao,am⟩
   ·refine AE f ao λa f=> ?_
    refine AE f ao λa f=>AE f ao λa f=>AE f ao λa f=>AE f ao λa f=>l_o f (AK (f.e Z) ao (f.e Z)) λa f=> ?_
    obtain rfl:=sj am
    exact⟨_,gr,m,f.k Z⟩
   ·refine AC f ao ?_
    refine Ab f Z λa f=>AC f ao ?_
    refine A8 underlying28 f Z Z h1 λa f=>AC f ao ?_
    refine Az 0 0 (ds:=[aa]) m AI f Z Z Z Z Z λa f=>AC f ao ?_
    have⟨ap,aq,am⟩:=bind_some am
    refine Bc f Z call31 (Wk.b m ac aq) λar w au m a f=>AC f ao ?_
    refine Ai f Z Z Ce λa f=>l_o f (AP (f.e Z) ao (f.e Z)) λa f=> ?_
    obtain rfl:=sj am
    exact⟨_,au,m,f.k Z⟩
  ·rintro a w ⟨an,av,m,f⟩
   have ac:=rd2 av ac
   have h1:=rd1 av h1
   refine Ab f Z λa f=> ?_
   have⟨aw,ax,hd⟩:=bind_some hd
   refine Bz 5 (λa w=>∃ay,GLe an ay∧Mem W ay w (ib ad 26 [aa]::H)∧Fr a 37 [(0,(.agg #[aa])),(1,v1),(2,(pb ad)),(5,(.agg #[aa])),(6,(.bool ae)),(7,(.bool (!ae))),(8,(.bool (!ae))),(12,(.bool ((!ae)||(decide ((x1.length:Int)<3))))),(13,(.bool ((!ae)||(decide ((x1.length:Int)<3))))),(19,(.bool al)),(20,(.bool al)),(25,(.bool aw))]) ?_ ?_
   ·rcases Ae ax with⟨az,ax⟩|⟨az,ax⟩
    ·refine AE f az λa f=> ?_
     refine AE f az λa f=>AE f az λa f=>AE f az λa f=>l_o f (AK (f.e Z) az (f.e Z)) λa f=> ?_
     obtain rfl:=sj ax
     exact⟨_,gr,m,f.k Z⟩
    ·refine AC f az ?_
     refine Az 0 0 (ds:=[aa]) m AI f Z Z Z Z Z λa f=>AC f az ?_
     refine Ab f Z λa f=>AC f az ?_
     have⟨aA,aB,ax⟩:=bind_some ax
     refine Bc f Z call61 (Wk.p0 m ac h1 aB) λaC w aD m a f=>AC f az ?_
     refine l_o f (Bh (f.e Z)) λa f=>l_o f (AP (f.e Z) az (f.e Z)) λa f=> ?_
     obtain rfl:=sj ax
     exact⟨_,aD,m,f.k Z⟩
   ·rintro a w ⟨ay,aE,m,f⟩
    have ac:=rd2 aE ac
    have h1:=rd1 aE h1
    refine Aa ?_
    rcases Ae hd with⟨aF,hd⟩|⟨aF,hd⟩
    ·refine Al f Z aF ?_
     refine Af ?_
     refine Ac f Z λa f=>Aa ?_
     refine Aq ?_
     have m:Mem W ay w H:=Mem.drop (H':=[ib ad 26 [aa]]) m
     obtain rfl:=sj hd
     exact⟨[(.bool false)],f.g Z,f.d,_,[],(gt ah (gt ak (gt av aE))),m,Z,Z⟩
    ·refine Aj f Z aF ?_
     refine Ap ?_
     refine Ag ?_
     refine A2 12 AG (by kernel_rfl) m ?_
     refine Bx (i:=0) (ds:=[aa]) 12 0 AI Z Z Z Z (by kernel_rfl) Z f Z Z Z λa f=>Ah 1 12 Z f Z λa f=> ?_
     have⟨aG,aH,hd⟩:=bind_some hd
     refine BF 2 12 T28 h1 aH Z f Z Z λaI aJ a aK aL f=> ?_
     subst aL
     refine BG 3 12 Pl2 aK Z f Z λa f=>Ah 4 12 Z f Z λa f=>Ah 5 12 Z f Z λa f=>q_len (i:=6) 12 underlying28 h1 Z (by kernel_rfl) Z f Z Z Z λa f=>q_p 7 12 Z f (λ_=>AF (f.e Z) (f.e Z) AS) λa f=> ?_
     have⟨aM,aN,hd⟩:=bind_some hd
     refine BF 8 12 T28 h1 aN Z f Z Z λaO aP a aQ aR f=> ?_
     subst aR
     refine BG 9 12 Pl2 aQ Z f Z λa f=> ?_
     have⟨aS,aT,hd⟩:=bind_some hd
     refine AW (i:=10) 12 Z (by kernel_rfl) Z f Z Z Z call62 (λ_ _ w aU m=>Wk.f m (rd2 aU ac) aT) λa f=>q_p 11 12 Z f (λ_=>Ct (f.e Z)) λa f=>AJ λaV w aW m=>Aa ?_
     refine Aq ?_
     have m:Mem W aV w H:=Mem.drop (H':=[ib ad 26 [aa]]) m
     obtain rfl:=sj hd
     exact⟨[(.bool aS)],f.g Z,f.d,_,[],(gt ah (gt ak (gt av (gt aE aW)))),m,Z,Z⟩
theorem Wk.J0 {aa v1:Value}{ab:LL}{x1:LI}(m:Mem W G w (H))(ac:R2 G aa ab)(h1:R1 G v1 x1){y:Bool}(hd:D.J0 ab x1=some y):
  Calls prog 43 #[(.agg #[aa]),v1] w (Res W G H (λ_ Ho v=>Ho=[]∧v=(.bool y))):=by
 refine Au (args:=[(.agg #[aa]),v1]) (N:=42) [.tmp 4] func43 Z Z (lb Z) Z λa f=> ?_
 unfold D.J0 at hd
 refine Af ?_
 refine Bj (cs:=[aa]) m f Z Z Z λad w a m f=>Ac f Z λa f=>AB ?_
 refine Ab f Z λa f=>A8 underlying28 f Z Z h1 λa f=>Ac f Z λa f=>Aa (Ag (Af ?_))
 refine Ac f Z λa f=>Aa ?_
 have⟨ae,af,hd⟩:=bind_some hd
 refine AM (λa w=>∃q_353':Unit,ae= .inl q_353'∧∃(ag:GH),GLe G ag∧Fr a 42 []∧Mem W ag w (H)) ?_ ?_
 ·refine Ak ?_
  refine AL (λah a w=>∃ai:Int,ai=ah∧∃(aj:GH),GLe G aj∧Fr a 42 [(1,v1),(2,(pb ad)),(5,(iv (x1.length:Int))),(6,(iv ai))]∧Mem W aj w (ib ad 26 [aa]::H)) af ⟨_,Z,_,gr,f.k Z,m⟩ ?_
  clear af f m
  rintro ah ak al am a w ⟨ai,rfl,aj,an,f,m⟩
  have h1:=rd1 an h1
  have ac:=rd2 an ac
  refine Ag (Af ?_)
  refine Ab f Z λa f=>Ab f Z λa f=>Ai f Z Z AR λa f=>Aa ?_
  rcases Ae al with⟨ao,al⟩|⟨ao,al⟩
  ·refine Al f Z ao ?_
   refine Ap ?_
   refine Ag (Ak (Af ?_))
   refine Ac f Z λa f=>Aa ?_
   have⟨ap,aq,al⟩:=bind_some al
   refine AM (λa w=>∃q_621':Unit,ap= .inl q_621'∧∃(ar:GH),GLe aj ar∧Fr a 42 [(1,v1),(2,(pb ad)),(5,(iv (x1.length:Int))),(6,(iv ai))]∧Mem W ar w (ib ad 26 [aa]::H)) ?_ ?_
   ·refine Ak ?_
    refine AL (λau a w=>∃av:Int,av=au∧∃(aw:GH),GLe aj aw∧Fr a 42 [(1,v1),(2,(pb ad)),(5,(iv (x1.length:Int))),(6,(iv ai)),(7,(iv av))]∧Mem W aw w (ib ad 26 [aa]::H)) aq ⟨_,Z,_,gr,f.k Z,m⟩ ?_
    clear aq f m
    rintro au ax ay az a w ⟨av,rfl,aw,aA,f,m⟩
    have h1:=rd1 aA h1
    have ac:=rd2 aA ac
    refine Ag (Af ?_)
    refine Ab f Z λa f=>Ai f Z Z Ax λa f=>Ab f Z λa f=>Ai f Z Z AR λa f=>Aa ?_
    rcases Ae ay with⟨aB,ay⟩|⟨aB,ay⟩
    ·refine Al f Z aB ?_
     refine Ap ?_
     refine Ag (Ak (Ag ?_))
     refine A2 21 AG (by kernel_rfl) m ?_
     refine Ah 0 21 Z f Z λa f=>q_p 1 21 Z f (λ_=>AF (f.e Z) (f.e Z) By) λa f=>Ah 2 21 Z f Z λa f=>BU (fuel':=13) (listed':= #[true,true,true,true,true,true,true,true,false,false,false,false,false,false,false,false,false,false,false,false,false]) (λa=>Fr a 42 [(1,v1),(2,(pb ad)),(5,(iv (x1.length:Int))),(6,(iv ai)),(7,(iv av)),(18,(.bool (decide ((i64.wrap (av+1))<ai)))),(21,(iv av)),(22,(.bool (av==0))),(23,(.bool (av==0))),(28,(.bool ((av==0)&&(ai==(i64.wrap ((x1.length:Int)-1))))))]) ?_ ?_
     ·intro a f
      refine q_p 8 21 Z f (λ_=>Bh (f.e Z)) λa f=>Ah 9 21 Z f Z λa f=> ?_
      have⟨aC,aD,ay⟩:=bind_some ay
      refine BU (fuel':=0) (listed':= #[true,true,true,true,true,true,true,true,true,true,true,true,true,true,true,true,true,true,true,true,true]) (λa=>Fr a 42 [(1,v1),(2,(pb ad)),(5,(iv (x1.length:Int))),(6,(iv ai)),(7,(iv av)),(18,(.bool (decide ((i64.wrap (av+1))<ai)))),(21,(iv av)),(22,(.bool (av==0))),(23,(.bool (av==0))),(28,(.bool ((av==0)&&(ai==(i64.wrap ((x1.length:Int)-1)))))),(29,(.bool (!((av==0)&&(ai==(i64.wrap ((x1.length:Int)-1))))))),(30,(.bool (!((av==0)&&(ai==(i64.wrap ((x1.length:Int)-1))))))),(41,(.bool aC))]) ?_ ?_
      ·intro a f
       refine AJ λaE w aF m=>Aa ?_
       rcases Ae ay with⟨aG,ay⟩|⟨aG,ay⟩
       ·refine Al f Z aG ?_
        refine Af ?_
        refine Ac f Z λa f=>Aa ?_
        refine Aq ?_
        have m:Mem W aE w H:=Mem.drop (H':=[ib ad 26 [aa]]) m
        obtain rfl:=sj ay
        obtain rfl:=az _ rfl
        obtain rfl:=sj al
        obtain rfl:=am _ rfl
        obtain rfl:=sj hd
        exact⟨[(.bool false)],f.g Z,f.d,_,[],(gt an (gt aA aF)),m,Z,Z⟩
       ·refine Aj f Z aG ?_
        refine Ap ?_
        refine Ao ?_
        refine Ab f Z λa f=>Ai f Z Z Ax λa f=>Ac f Z λa f=>Aa ?_
        obtain rfl:=sj ay
        exact⟨_,Z,_,Z,_,(gt aA aF),f.k Z,m⟩
      ·intro aH
       rcases Ae aD with⟨aI,aD⟩|⟨aI,aD⟩
       ·refine Bx (i:=10) (ds:=[aa]) 21 0 AI Z Z Z Z (by kernel_rfl) Z f (Ba f Z Z Z aI) Z Z λa f=> ?_
        refine Ah (hw:=wo f aI) 11 21 Z f Z λa f=>Ah (hw:=wo f aI) 12 21 Z f Z λa f=> ?_
        have⟨aJ,aK,aD⟩:=bind_some aD
        refine BF (hw:=wo f aI) 13 21 T28 h1 aK Z f Z Z λaL aM a aN aO f=> ?_
        subst aO
        refine BG (hw:=wo f aI) 14 21 Pl2 aN Z f Z λa f=>Ah (hw:=wo f aI) 15 21 Z f Z λa f=>Ah (hw:=wo f aI) 16 21 Z f Z λa f=> ?_
        have⟨aP,aQ,aD⟩:=bind_some aD
        refine BF (hw:=wo f aI) 17 21 T28 h1 aQ Z f Z Z λaR aS a aT aU f=> ?_
        subst aU
        refine BG (hw:=wo f aI) 18 21 Pl2 aT Z f Z λa f=> ?_
        have⟨aV,aW,aD⟩:=bind_some aD
        refine AW (i:=19) 21 Z (by kernel_rfl) Z f (Ba f Z Z Z aI) Z Z call62 (λ_ _ w aX m=>Wk.f m (rd2 aX ac) aW) λa f=>q_p 20 21 Z f (λ_=>AK (f.e Z) aI (f.e Z)) λa f=> ?_
        obtain rfl:=sj aD
        exact aH _ (f.k Z)
       ·refine Am 10 21 Z f aI λa f=> ?_
        refine Am 11 21 Z f aI λa f=>Am 12 21 Z f aI λa f=>Am 13 21 Z f aI λa f=>Am 14 21 Z f aI λa f=>Am 15 21 Z f aI λa f=>Am 16 21 Z f aI λa f=>Am 17 21 Z f aI λa f=>Am 18 21 Z f aI λa f=>Am 19 21 Z f aI λa f=>q_p 20 21 Z f (λ_=>AP (f.e Z) aI (f.e Z)) λa f=> ?_
        obtain rfl:=sj aD
        exact aH _ (f.k Z)
     ·intro aY
      rcases Bool.eq_false_or_eq_true (av==0) with aZ|aZ
      ·refine Ah (hw:=wo f aZ) 3 21 Z f Z λa f=> ?_
       refine Ah (hw:=wo f aZ) 4 21 Z f Z λa f=>q_p (hw:=wo f aZ) 5 21 Z f (λ_=>AF (f.e Z) (f.e Z) AS) λa f=>q_p (hw:=wo f aZ) 6 21 Z f (λ_=>AF (f.e Z) (f.e Z) By) λa f=>q_p 7 21 Z f (λ_=>AK (f.e Z) aZ (f.e Z)) λa f=> ?_
       exact aY _ (f.weak ⟨Z,Z,Z,Z,Z,Z,Z,Z,Z,by rw[aZ];rfl,trivial⟩)
      ·refine Am 3 21 Z f aZ λa f=> ?_
       refine Am 4 21 Z f aZ λa f=>Am 5 21 Z f aZ λa f=>Am 6 21 Z f aZ λa f=>q_p 7 21 Z f (λ_=>AP (f.e Z) aZ (f.e Z)) λa f=> ?_
       exact aY _ (f.weak ⟨Z,Z,Z,Z,Z,Z,Z,Z,Z,by rw[aZ];rfl,trivial⟩)
    ·refine Aj f Z aB ?_
     refine AH Z ?_
     obtain rfl:=sj ay
     obtain rfl:=az _ rfl
     exact⟨_,Z,_,aA,f.k Z,m⟩
   ·rintro a w ⟨_,rfl,ar,a0,f,m⟩
    refine Ao ?_
    refine Ab f Z λa f=>Ai f Z Z Ax λa f=>Ac f Z λa f=>Aa ?_
    obtain rfl:=sj al
    exact⟨_,Z,_,Z,_,(gt an a0),f.k Z,m⟩
  ·refine Aj f Z ao ?_
   refine AH Z ?_
   have m:Mem W aj w H:=Mem.drop (H':=[ib ad 26 [aa]]) m
   obtain rfl:=sj al
   obtain rfl:=am _ rfl
   exact⟨_,Z,_,an,f.weak trivial,m⟩
 ·rintro a w ⟨_,rfl,ag,a1,f,m⟩
  refine Af ?_
  refine Ac f Z λa f=>Aa ?_
  refine Aq ?_
  obtain rfl:=sj hd
  exact⟨[(.bool true)],f.g Z,f.d,_,[],a1,m,Z,Z⟩
theorem Wk.g1 {aa v1:Value}{ab:LL}{x1:LI}(m:Mem W G w (H))(ac:R2 G aa ab)(h1:R1 G v1 x1){y:Bool}(hd:D.g1 ab x1=some y):
  Calls prog 15 #[(.agg #[aa]),v1] w (Res W G H (λ_ Ho v=>Ho=[]∧v=(.bool y))):=by
 refine Au (args:=[(.agg #[aa]),v1]) (N:=18) [.tmp 4] func15 Z Z (lb Z) Z λa f=> ?_
 unfold D.g1 at hd
 refine Af ?_
 refine Bj (cs:=[aa]) m f Z Z Z λad w a m f=>Ac f Z λa f=>AB ?_
 refine Az 0 0 (ds:=[aa]) m AI f Z Z Z Z Z λa f=>Ab f Z λa f=> ?_
 have⟨ae,af,hd⟩:=bind_some hd
 refine Bc f Z call42 (Wk.K0 m ac h1 af) λag w ah m a f=> ?_
 have ac:=rd2 ah ac
 have h1:=rd1 ah h1
 refine Ab f Z λa f=> ?_
 refine Bz 4 (λa w=>∃ai,GLe ag ai∧Mem W ai w (ib ad 26 [aa]::H)∧Fr a 18 [(0,(.agg #[aa])),(1,v1),(2,(pb ad)),(5,(.agg #[aa])),(6,v1),(7,(.bool ae)),(8,(.bool ae)),(12,(.bool (ae&&(decide ((4:Int)≤(x1.length:Int))))))]) ?_ ?_
 ·rcases Bool.eq_false_or_eq_true ae with aj|aj
  ·refine AC f aj ?_
   refine Ab f Z λa f=>AC f aj ?_
   refine A8 underlying28 f Z Z h1 λa f=>AC f aj ?_
   refine Ai f Z Z CE λa f=>l_o f (AK (f.e Z) aj (f.e Z)) λa f=> ?_
   exact⟨_,gr,m,f.weak ⟨Z,Z,Z,Z,Z,Z,Z,by rw[aj];rfl,trivial⟩⟩
  ·refine AE f aj λa f=> ?_
   refine AE f aj λa f=>AE f aj λa f=>l_o f (AP (f.e Z) aj (f.e Z)) λa f=> ?_
   exact⟨_,gr,m,f.weak ⟨Z,Z,Z,Z,Z,Z,Z,by rw[aj];rfl,trivial⟩⟩
 ·rintro a w ⟨ai,ak,m,f⟩
  have ac:=rd2 ak ac
  have h1:=rd1 ak h1
  refine Ab f Z λa f=> ?_
  have⟨al,am,hd⟩:=bind_some hd
  refine Bz 4 (λa w=>∃an,GLe ai an∧Mem W an w (ib ad 26 [aa]::H)∧Fr a 18 [(0,(.agg #[aa])),(1,v1),(2,(pb ad)),(5,(.agg #[aa])),(6,v1),(7,(.bool ae)),(8,(.bool ae)),(12,(.bool (ae&&(decide ((4:Int)≤(x1.length:Int)))))),(13,(.bool (ae&&(decide ((4:Int)≤(x1.length:Int)))))),(17,(.bool al))]) ?_ ?_
  ·rcases Ae am with⟨ao,am⟩|⟨ao,am⟩
   ·refine AC f ao ?_
    refine Az 0 0 (ds:=[aa]) m AI f Z Z Z Z Z λa f=>AC f ao ?_
    refine Ab f Z λa f=>AC f ao ?_
    have⟨ap,aq,am⟩:=bind_some am
    refine Bc f Z call43 (Wk.J0 m ac h1 aq) λar w au m a f=>l_o f (AK (f.e Z) ao (f.e Z)) λa f=> ?_
    obtain rfl:=sj am
    exact⟨_,au,m,f.k Z⟩
   ·refine AE f ao λa f=> ?_
    refine AE f ao λa f=>AE f ao λa f=>l_o f (AP (f.e Z) ao (f.e Z)) λa f=> ?_
    obtain rfl:=sj am
    exact⟨_,gr,m,f.k Z⟩
  ·rintro a w ⟨an,av,m,f⟩
   refine Ac f Z λa f=>Aa ?_
   refine Aq ?_
   have m:Mem W an w H:=Mem.drop (H':=[ib ad 26 [aa]]) m
   obtain rfl:=sj hd
   exact⟨[(.bool al)],f.g Z,f.d,_,[],(gt ah (gt ak av)),m,Z,Z⟩
set_option maxHeartbeats 1000000 in
theorem Wk.l1 {v0:Value}{x0:LI}(hW:CF W)(m:Mem W G w (H))(h0:RSl (RI .u8) G v0 x0){y:Bool}(hd:D.l1 x0=some y):
  Calls prog 3 #[v0] w (Res W G H (λ_ Ho v=>Ho=[]∧v=(.bool y))):=by
 refine Au (args:=[v0]) (N:=67) [.tmp 2] func3 Z Z (lb Z) Z λa f=> ?_
 unfold D.l1 at hd
 refine Af ?_
 refine Ac f Z λa f=>Aa (Ag (Af ?_))
 refine Ab f Z λa f=> ?_
 have⟨aa,ab,hd⟩:=bind_some hd
 refine Bc f Z call4 (Wk.r1 m h0 ab) λac w ad m a f=> ?_
 have h0:=rd1 ad h0
 refine Aa ?_
 rcases Ae hd with⟨ae,hd⟩|⟨ae,hd⟩
 ·refine Al f Z ae ?_
  refine Af ?_
  refine Ac f Z λa f=>Aa ?_
  refine Aq ?_
  obtain rfl:=sj hd
  exact⟨[(.bool true)],f.g Z,f.d,_,[],ad,m,Z,Z⟩
 ·refine Aj f Z ae ?_
  refine Ap ?_
  refine Af ?_
  refine Ab f Z λa f=> ?_
  have⟨af,ag,hd⟩:=bind_some hd
  refine AD f Z call5 (Wk.c1 m h0 ag) λah ai aj w ak m al a f=> ?_
  obtain⟨am,rfl,rfl,an⟩:=al
  refine A9 (cs:=[sn]) zeroValue26 m f Z Z λao w a m f=>An 0 0 (ds:=[am]) m sizeOf26 f Z Z Z (Ar an.one1 As) Z (lb Z) Z λw m=>AB ?_
  refine Az 0 0 (ds:=[am]) m AI f Z Z Z Z Z λa f=> ?_
  have⟨ap,aq,hd⟩:=bind_some hd
  refine AD f Z call6 (Wk.J hW m an aq) λar au av w aw m ax a f=> ?_
  obtain⟨ay,az,rfl,rfl,aA⟩:=ax
  have an:=rd2 aw an
  refine Ab f Z λa f=>l_o f (AZ (f.e Z) Z) λa f=>l_o f (AZ (f.e Z) Z) λa f=>Ac f Z λa f=>Ac f Z λa f=>AB ?_
  refine Az 1 0 (ds:=[am]) m AI f Z Z Z Z Z λa f=> ?_
  have⟨aB,aC,hd⟩:=bind_some hd
  refine AD f Z call7 (Wk.I hW m an aC) λaD aE aF w aG m aH a f=> ?_
  obtain⟨aI,aJ,rfl,rfl,aK⟩:=aH
  have an:=rd2 aG an
  have aA:=od1 aG aA
  refine Ab f Z λa f=>l_o f (AZ (f.e Z) Z) λa f=>l_o f (AZ (f.e Z) Z) λa f=>Ac f Z λa f=>Ac f Z λa f=>Aa (Ag (Af ?_))
  refine Az 2 0 (ds:=[am]) m AI f Z Z Z Z Z λa f=>Ab f Z λa f=> ?_
  have⟨aL,aM,hd⟩:=bind_some hd
  refine AD f Z call8 (Ow.lendCall (RI.mono _) 1 aA m Z (λaN aO m aP=>Wk.B m (rd2 aO an) aP aM) (λ_ _ _ _ h=>h)) λaQ aR aS w aT m aU a f=> ?_
  obtain⟨rfl,rfl⟩:=aU
  have an:=rd2 aT an
  have aK:=od1 aT aK
  have aA:=od1 aT aA
  refine l_o f (Bh (f.e Z)) λa f=>Ab f Z λa f=> ?_
  have⟨aV,aW,hd⟩:=bind_some hd
  refine Bz 5 (λa w=>∃aX,GLe aR aX∧Mem W aX w (aJ::az::ib ao 26 [am]::H)∧Fr a 67 [(0,v0),(3,(pb ao)),(4,ay),(5,(.bool ap.2)),(6,aI),(7,(.bool aB.2)),(22,(.agg #[am])),(23,ay),(24,(.bool aL)),(25,(.bool (!aL))),(26,(.bool (!aL))),(31,(.bool aV))]) ?_ ?_
  ·rcases Ae aW with⟨aY,aW⟩|⟨aY,aW⟩
   ·refine AE f aY λa f=> ?_
    refine AE f aY λa f=>AE f aY λa f=>AE f aY λa f=>l_o f (AK (f.e Z) aY (f.e Z)) λa f=> ?_
    obtain rfl:=sj aW
    exact⟨_,gr,m,f.k Z⟩
   ·refine AC f aY ?_
    refine Az 2 0 (ds:=[am]) m AI f Z Z Z Z Z λa f=>AC f aY ?_
    have⟨aZ,a0,aW⟩:=bind_some aW
    refine Bc f Z call9 (Wk.s hW m an a0) λa1 w a2 m a f=>AC f aY ?_
    refine Ab f Z λa f=>AC f aY ?_
    refine l_o f (r_bool_neq (f.e Z) (f.e Z) underlying4) λa f=>l_o f (AP (f.e Z) aY (f.e Z)) λa f=> ?_
    obtain rfl:=sj aW
    exact⟨_,a2,m,f.k Z⟩
  ·rintro a w ⟨aX,a3,m,f⟩
   have an:=rd2 a3 an
   have aK:=od1 a3 aK
   have aA:=od1 a3 aA
   refine Aa ?_
   rcases Ae hd with⟨a4,hd⟩|⟨a4,hd⟩
   ·refine Al f Z a4 ?_
    refine Af ?_
    refine Ac f Z λa f=>Aa ?_
    refine Aq ?_
    have m:Mem W aX w H:=Mem.drop (H':=[aJ,az,ib ao 26 [am]]) m
    obtain rfl:=sj hd
    exact⟨[(.bool false)],f.g Z,f.d,_,[],(gt ad (gt ak (gt aw (gt aG (gt aT a3))))),m,Z,Z⟩
   ·refine Aj f Z a4 ?_
    refine Ap ?_
    refine Ag (Af ?_)
    refine Az 2 0 (ds:=[am]) m AI f Z Z Z Z Z λa f=> ?_
    have⟨a5,a6,hd⟩:=bind_some hd
    refine Bc f Z call10 (Wk.p m an a6) λa7 w a8 m a f=> ?_
    have an:=rd2 a8 an
    have aK:=od1 a8 aK
    have aA:=od1 a8 aA
    refine l_o f (Bh (f.e Z)) λa f=>Aa ?_
    rcases Ae hd with⟨a9,hd⟩|⟨a9,hd⟩
    ·refine Al f Z a9 ?_
     refine Af ?_
     refine Ab f Z λa f=>l_o f (Bh (f.e Z)) λa f=>Ab f Z λa f=> ?_
     refine Bz 3 (λa w=>∃ba,GLe a7 ba∧Mem W ba w (aJ::az::ib ao 26 [am]::H)∧Fr a 67 [(0,v0),(3,(pb ao)),(4,ay),(5,(.bool ap.2)),(6,aI),(7,(.bool aB.2)),(34,(.bool (!a5))),(35,(.bool ap.2)),(36,(.bool (!ap.2))),(37,(.bool (!ap.2))),(40,(.bool ((!ap.2)&&(!aB.2))))]) ?_ ?_
     ·rcases Bool.eq_false_or_eq_true (!ap.2) with bb|bb
      ·refine AC f bb ?_
       refine Ab f Z λa f=>AC f bb ?_
       refine l_o f (Bh (f.e Z)) λa f=>l_o f (AK (f.e Z) bb (f.e Z)) λa f=> ?_
       exact⟨_,gr,m,f.weak ⟨Z,Z,Z,Z,Z,Z,Z,Z,Z,Z,by rw[bb];rfl,trivial⟩⟩
      ·refine AE f bb λa f=> ?_
       refine AE f bb λa f=>l_o f (AP (f.e Z) bb (f.e Z)) λa f=> ?_
       exact⟨_,gr,m,f.weak ⟨Z,Z,Z,Z,Z,Z,Z,Z,Z,Z,by rw[bb];rfl,trivial⟩⟩
     ·rintro a w ⟨ba,bc,m,f⟩
      refine Ac f Z λa f=>Aa ?_
      refine Aq ?_
      have m:Mem W ba w H:=Mem.drop (H':=[aJ,az,ib ao 26 [am]]) m
      obtain rfl:=sj hd
      exact⟨[(.bool ((!ap.2)&&(!aB.2)))],f.g Z,f.d,_,[],(gt ad (gt ak (gt aw (gt aG (gt aT (gt a3 (gt a8 bc))))))),m,Z,Z⟩
    ·refine Aj f Z a9 ?_
     refine Ap ?_
     refine Ag (Af ?_)
     refine Ab f Z λa f=>Ab f Z λa f=>l_o f (Ep (f.e Z) (f.e Z) underlying4) λa f=>Aa ?_
     rcases Ae hd with⟨bd,hd⟩|⟨bd,hd⟩
     ·refine Al f Z bd ?_
      refine Af ?_
      refine Ac f Z λa f=>Aa ?_
      refine Aq ?_
      have m:Mem W a7 w H:=Mem.drop (H':=[aJ,az,ib ao 26 [am]]) m
      obtain rfl:=sj hd
      exact⟨[(.bool false)],f.g Z,f.d,_,[],(gt ad (gt ak (gt aw (gt aG (gt aT (gt a3 a8)))))),m,Z,Z⟩
     ·refine Aj f Z bd ?_
      refine Ap ?_
      refine Ag (Af ?_)
      refine Ab f Z λa f=>Aa ?_
      rcases Ae hd with⟨be,hd⟩|⟨be,hd⟩
      ·refine Al f Z be ?_
       refine Af ?_
       refine Az 2 0 (ds:=[am]) m AI f Z Z Z Z Z λa f=>Ab f Z λa f=> ?_
       have⟨bf,bg,hd⟩:=bind_some hd
       refine AD f Z call11 (Ow.lendCall (RI.mono _) 1 aA m Z (λbh bi m bj=>Wk.Z0 m (rd2 bi an) bj bg) (λ_ _ _ _ h=>h)) λbk bl bm w bn m bo a f=> ?_
       obtain⟨rfl,rfl⟩:=bo
       have an:=rd2 bn an
       have aA:=od1 bn aA
       refine Ab f Z λa f=> ?_
       have⟨bp,bq,hd⟩:=bind_some hd
       refine Bz 4 (λa w=>∃br,GLe bl br∧Mem W br w (aJ::az::ib ao 26 [am]::H)∧Fr a 67 [(0,v0),(3,(pb ao)),(4,ay),(5,(.bool ap.2)),(6,aI),(7,(.bool aB.2)),(44,(.bool ap.2)),(45,(.agg #[am])),(46,ay),(47,(.bool bf)),(48,(.bool bf)),(52,(.bool bp))]) ?_ ?_
       ·rcases Ae bq with⟨bs,bq⟩|⟨bs,bq⟩
        ·refine AC f bs ?_
         refine Az 2 0 (ds:=[am]) m AI f Z Z Z Z Z λa f=>AC f bs ?_
         refine Ab f Z λa f=>AC f bs ?_
         have⟨bt,bu,bq⟩:=bind_some bq
         refine AD f Z call12 (Ow.lendCall (RI.mono _) 1 aA m Z (λbv bw m bx=>Wk.x0 hW m (rd2 bw an) bx bu) (λ_ _ _ _ h=>h)) λbz bA bB w bC m bD a f=> ?_
         obtain⟨rfl,rfl⟩:=bD
         refine l_o f (AK (f.e Z) bs (f.e Z)) λa f=> ?_
         obtain rfl:=sj bq
         exact⟨_,bC,m,f.k Z⟩
        ·refine AE f bs λa f=> ?_
         refine AE f bs λa f=>AE f bs λa f=>l_o f (AP (f.e Z) bs (f.e Z)) λa f=> ?_
         obtain rfl:=sj bq
         exact⟨_,gr,m,f.k Z⟩
       ·rintro a w ⟨br,bE,m,f⟩
        have an:=rd2 bE an
        refine Ab f Z λa f=> ?_
        have⟨bF,bG,hd⟩:=bind_some hd
        refine Bz 5 (λa w=>∃bH,GLe br bH∧Mem W bH w (aJ::az::ib ao 26 [am]::H)∧Fr a 67 [(0,v0),(3,(pb ao)),(4,ay),(5,(.bool ap.2)),(6,aI),(7,(.bool aB.2)),(44,(.bool ap.2)),(45,(.agg #[am])),(46,ay),(47,(.bool bf)),(48,(.bool bf)),(52,(.bool bp)),(53,(.bool bp)),(58,(.bool bF))]) ?_ ?_
        ·rcases Ae bG with⟨bI,bG⟩|⟨bI,bG⟩
         ·refine AC f bI ?_
          refine Az 2 0 (ds:=[am]) m AI f Z Z Z Z Z λa f=>AC f bI ?_
          have⟨bJ,bK,bG⟩:=bind_some bG
          refine AD f Z call13 (Wk.Y0 hW m an bK) λbL bM bN w bO m bP a f=> ?_
          obtain⟨bQ,bR,rfl,rfl,bS⟩:=bP
          refine AC f bI ?_
          refine Bv 0 m bS Z underlying28 f Z Z λa f=>AC f bI ?_
          refine Ai f Z Z Ce λa f=>l_o f (AK (f.e Z) bI (f.e Z)) λa f=> ?_
          obtain rfl:=sj bG
          have m:=m.fr 3
          have m:=m.fr 3
          have m:Mem W bM w (aJ::az::ib ao 26 [am]::bR::H):=m.fr 3
          have m:=m.eraseAt 3
          exact⟨_,bO,m,f.k Z⟩
         ·refine AE f bI λa f=> ?_
          refine AE f bI λa f=>AE f bI λa f=>AE f bI λa f=>l_o f (AP (f.e Z) bI (f.e Z)) λa f=> ?_
          obtain rfl:=sj bG
          exact⟨_,gr,m,f.k Z⟩
        ·rintro a w ⟨bH,bT,m,f⟩
         refine Ac f Z λa f=>Aa ?_
         refine Aq ?_
         have m:Mem W bH w H:=Mem.drop (H':=[aJ,az,ib ao 26 [am]]) m
         obtain rfl:=sj hd
         exact⟨[(.bool bF)],f.g Z,f.d,_,[],(gt ad (gt ak (gt aw (gt aG (gt aT (gt a3 (gt a8 (gt bn (gt bE bT))))))))),m,Z,Z⟩
      ·refine Aj f Z be ?_
       refine Ap ?_
       refine Af ?_
       refine Az 2 0 (ds:=[am]) m AI f Z Z Z Z Z λa f=>Ab f Z λa f=> ?_
       have⟨bU,bV,hd⟩:=bind_some hd
       refine AD f Z call14 (Ow.lendCall (RI.mono _) 0 aK m Z (λbW bX m bY=>Wk.O0 m (rd2 bX an) bY bV) (λ_ _ _ _ h=>h)) λbZ b0 b1 w b2 m b3 a f=> ?_
       obtain⟨rfl,rfl⟩:=b3
       have an:=rd2 b2 an
       have aK:=od1 b2 aK
       refine Ab f Z λa f=> ?_
       have⟨b4,b5,hd⟩:=bind_some hd
       refine Bz 4 (λa w=>∃b6,GLe b0 b6∧Mem W b6 w (aJ::az::ib ao 26 [am]::H)∧Fr a 67 [(0,v0),(3,(pb ao)),(4,ay),(5,(.bool ap.2)),(6,aI),(7,(.bool aB.2)),(44,(.bool ap.2)),(59,(.agg #[am])),(60,aI),(61,(.bool bU)),(62,(.bool bU)),(66,(.bool b4))]) ?_ ?_
       ·rcases Ae b5 with⟨b7,b5⟩|⟨b7,b5⟩
        ·refine AC f b7 ?_
         refine Az 2 0 (ds:=[am]) m AI f Z Z Z Z Z λa f=>AC f b7 ?_
         refine Ab f Z λa f=>AC f b7 ?_
         have⟨b8,b9,b5⟩:=bind_some b5
         refine AD f Z call15 (Ow.lendCall (RI.mono _) 0 aK m Z (λca cb m cc=>Wk.g1 m (rd2 cb an) cc b9) (λ_ _ _ _ h=>h)) λcd ce cf w cg m ch a f=> ?_
         obtain⟨rfl,rfl⟩:=ch
         refine l_o f (AK (f.e Z) b7 (f.e Z)) λa f=> ?_
         obtain rfl:=sj b5
         exact⟨_,cg,m,f.k Z⟩
        ·refine AE f b7 λa f=> ?_
         refine AE f b7 λa f=>AE f b7 λa f=>l_o f (AP (f.e Z) b7 (f.e Z)) λa f=> ?_
         obtain rfl:=sj b5
         exact⟨_,gr,m,f.k Z⟩
       ·rintro a w ⟨b6,ci,m,f⟩
        refine Ac f Z λa f=>Aa ?_
        refine Aq ?_
        have m:Mem W b6 w H:=Mem.drop (H':=[aJ,az,ib ao 26 [am]]) m
        obtain rfl:=sj hd
        exact⟨[(.bool b4)],f.g Z,f.d,_,[],(gt ad (gt ak (gt aw (gt aG (gt aT (gt a3 (gt a8 (gt b2 ci)))))))),m,Z,Z⟩
end Go.Proofs.YtehkdflfnampdaaGreatDoor

namespace Go.Sx
theorem DP (n:Int):IntKind.u32.wrap n=n%4294967296:=by simp[IntKind.wrap,IntKind.signed,IntKind.bits]
def VS (s:Int):Prop:=0≤s∧s<4294967296
def has (s:Int)(v:Nat):Bool:=s.toNat.testBit v
theorem VS.nat {s:Int}(h:VS s):∃n:Nat,s=n∧n<4294967296:=⟨s.toNat,by have:=h.1;omega,by have:=h.1;have:=h.2;omega⟩
theorem VS.zero :VS 0:=⟨by omega,by omega⟩
theorem VS.wrap (n:Int):VS (IntKind.u32.wrap n):=by rw[DP];exact⟨by omega,by omega⟩
theorem VS.ofNat {n:Nat}(h:n<4294967296):VS (n:Int):=⟨by omega,by omega⟩
theorem B8 (n v:Nat):has (n:Int) v=n.testBit v:=by simp[has]
theorem Dp (v:Nat):has 0 v=false:=by simp[has]
theorem De (n:Nat)(h:n<4294967296):(BitVec.ofInt 32 (n:Int)).toNat=n:=by
 rw[BitVec.toNat_ofInt]
 omega
theorem ior_nat {a b:Nat}(ha:a<4294967296)(hb:b<4294967296):ior .u32 (a:Int) (b:Int)=((a|||b:Nat):Int):=by
 have hw:a|||b<4294967296:=Nat.or_lt_two_pow (n:=32) ha hb
 show IntKind.u32.wrap (((BitVec.ofInt 32 (a:Int)|||BitVec.ofInt 32 (b:Int)).toNat:Nat):Int)=_
 rw[BitVec.toNat_or,De a ha,De b hb,DP];omega
theorem DR {a b:Nat}(ha:a<4294967296)(hb:b<4294967296):iand .u32 (a:Int) (b:Int)=((a&&&b:Nat):Int):=by
 have hw:a&&&b<4294967296:=Nat.and_lt_two_pow (n:=32) _ hb
 show IntKind.u32.wrap (((BitVec.ofInt 32 (a:Int)&&&BitVec.ofInt 32 (b:Int)).toNat:Nat):Int)=_
 rw[BitVec.toNat_and,De a ha,De b hb,DP];omega
theorem VS.ior (a b:Int):VS (ior .u32 a b):=VS.wrap _
theorem VS.iand (a b:Int):VS (iand .u32 a b):=VS.wrap _
theorem VS.iandNot (a b:Int):VS (iandNot .u32 a b):=VS.wrap _
theorem VS.ishl (a b:Int):VS (ishl .u32 a b):=VS.wrap _
theorem Cz {a b:Int}(ha:VS a)(hb:VS b)(v:Nat):has (ior .u32 a b) v=(has a v||has b v):=by
 obtain⟨m,rfl,hm⟩:=ha.nat;obtain⟨n,rfl,hn⟩:=hb.nat
 rw[ior_nat hm hn];simp only[B8,Nat.testBit_or]
theorem BP {a b:Int}(ha:VS a)(hb:VS b)(v:Nat):has (iand .u32 a b) v=(has a v&&has b v):=by
 obtain⟨m,rfl,hm⟩:=ha.nat;obtain⟨n,rfl,hn⟩:=hb.nat
 rw[DR hm hn];simp only[B8,Nat.testBit_and]
theorem Bi {a b:Int}(ha:VS a)(hb:VS b)(v:Nat):has (iandNot .u32 a b) v=(has a v&& !has b v):=by
 obtain⟨m,rfl,hm⟩:=ha.nat;obtain⟨n,rfl,hn⟩:=hb.nat
 have e:iandNot .u32 (m:Int) (n:Int)=(((BitVec.ofInt 32 (m:Int)&&& ~~~(BitVec.ofInt 32 (n:Int))).toNat:Nat):Int):=by
  have hw:=(BitVec.ofInt 32 (m:Int)&&& ~~~(BitVec.ofInt 32 (n:Int))).isLt
  show IntKind.u32.wrap (((BitVec.ofInt 32 (m:Int)&&& ~~~(BitVec.ofInt 32 (n:Int))).toNat:Nat):Int)=_
  rw[DP];omega
 rw[e,B8,B8,B8]
 have h1:∀i,(BitVec.ofInt 32 (m:Int)).getLsbD i=m.testBit i:=λi=>by rw[BitVec.getLsbD,De m hm]
 have h2:∀i,(BitVec.ofInt 32 (n:Int)).getLsbD i=n.testBit i:=λi=>by rw[BitVec.getLsbD,De n hn]
 rw[←BitVec.getLsbD,BitVec.getLsbD_and,BitVec.getLsbD_not,h1,h2]
 by_cases hv:v<32
 ·simp[hv]
 ·have:m.testBit v=false:=Nat.testBit_lt_two_pow (Nat.lt_of_lt_of_le hm (Nat.pow_le_pow_right (n:=2) (by omega) (show 32≤v by omega)))
  simp[this]
theorem DI {a:Int}(ha:VS a){v:Nat}(hv:32≤v):has a v=false:=by
 obtain⟨m,rfl,hm⟩:=ha.nat
 rw[B8]
 exact Nat.testBit_lt_two_pow (Nat.lt_of_lt_of_le hm (Nat.pow_le_pow_right (n:=2) (by omega) hv))
theorem VS.ext {a b:Int}(ha:VS a)(hb:VS b)(h:∀v,v<32→has a v=has b v):a=b:=by
 have:∀v,has a v=has b v:=λv=>by
  by_cases hv:v<32
  ·exact h v hv
  ·rw[DI ha (by omega),DI hb (by omega)]
 obtain⟨m,rfl,hm⟩:=ha.nat;obtain⟨n,rfl,hn⟩:=hb.nat
 congr 1
 apply Nat.eq_of_testBit_eq
 intro v
 have:=this v
 rwa [B8,B8] at this
theorem VS.eq_zero {a:Int}(ha:VS a):a=0↔∀v,v<32→has a v=false:=
 ⟨λh v _=>by rw[h,Dp],λh=>ha.ext VS.zero (λv hv=>by rw[h v hv,Dp])⟩
theorem one_eq {v:Nat}(hv:v<32):ishl .u32 1 (v:Int)=((2^v:Nat):Int):=by
 have h:(2:Nat)^v<2^32:=Nat.pow_lt_pow_right (by omega) hv
 have h':(2:Nat)^32=4294967296:=by decide
 rw[h'] at h
 show IntKind.u32.wrap (1*2^(min ((v:Int)).toNat 32))=_
 rw[DP,show min ((v:Int)).toNat 32=v by simp;omega,Int.one_mul]
 have e:((2^v:Nat):Int)=(2:Int)^v:=by simp
 rw[←e]
 generalize 2^v=p at h ⊢
 omega
theorem BA {v:Nat}(hv:v<32)(u:Nat):has (ishl .u32 1 (v:Int)) u=decide (u=v):=by
 rw[one_eq hv,B8,Nat.testBit_two_pow]
 simp[eq_comm]
theorem shr_eq (s:Int)(v:Nat)(h:VS s)(hv:v<32):BC .u32 s (v:Int)=((s.toNat>>>v:Nat):Int):=by
 obtain⟨m,rfl,hm⟩:=h.nat
 show Int.fdiv (m:Int) (2^(min ((v:Int)).toNat 32))=_
 rw[show min ((v:Int)).toNat 32=v by simp;omega]
 have e:((2^v:Nat):Int)=(2:Int)^v:=by simp
 rw[←e,Int.fdiv_eq_ediv_of_nonneg _ (Int.natCast_nonneg _),Nat.shiftRight_eq_div_pow]
 simp
theorem bitAt_eq {s:Int}{v:Nat}(h:VS s)(hv:v<32):(iand .u32 (BC .u32 s (v:Int)) 1==1)=has s v:=by
 rw[shr_eq s v h hv]
 have hs:s.toNat>>>v<4294967296:=by
  obtain⟨m,rfl,hm⟩:=h.nat
  rw[Nat.shiftRight_eq_div_pow]
  exact Nat.lt_of_le_of_lt (Nat.div_le_self _ _) hm
 have:=DR hs (show (1:Nat)<4294967296 by omega)
 rw[show (1:Int)=((1:Nat):Int) from rfl,this,has,Nat.testBit]
 rw[Nat.and_comm]
 have h1:1&&&(s.toNat>>>v)=0∨1&&&(s.toNat>>>v)=1:=by
  rw[Nat.and_comm,Nat.and_one_is_mod];omega
 rcases h1 with e|e<;>rw[e]<;>rfl
def Aw (s:Int):LI:=((List.range 32).filter (has s)).map Int.ofNat
theorem mem_elems {s:Int}{x:Int}:x∈Aw s↔∃v:Nat,v<32∧has s v=true∧x=v:=by
 unfold Aw
 rw[List.mem_map]
 constructor
 ·rintro⟨v,hv,rfl⟩
  rw[List.mem_filter,List.mem_range] at hv
  exact⟨v,hv.1,hv.2,rfl⟩
 ·rintro⟨v,h1,h2,rfl⟩
  exact⟨v,List.mem_filter.2 ⟨List.mem_range.2 h1,h2⟩,rfl⟩
theorem Be {s:Int}(h:VS s){v:Nat}:(v:Int)∈Aw s↔has s v=true:=by
 rw[mem_elems]
 constructor
 ·rintro⟨u,_,h2,h3⟩;obtain rfl:v=u:=by omega
  exact h2
 ·intro h2
  refine⟨v,?_,h2,rfl⟩
  by_cases hv:v<32
  ·exact hv
  ·rw[DI h (by omega)] at h2;cases h2
theorem BX (s:Int):(Aw s).length≤32:=by
 unfold Aw
 rw[List.length_map]
 exact Nat.le_trans (List.length_filter_le _ _) (by simp)
def Inc (l:LI):Prop:=l.Pairwise (·<·)
theorem Ck (s:Int):Inc (Aw s):=by
 unfold Aw Inc
 rw[List.pairwise_map]
 refine List.Pairwise.filter _ ?_
 refine List.Pairwise.imp ?_ (List.pairwise_lt_range (n:=32))
 intro a b h
 show (a:Int)<(b:Int)
 omega
theorem Inc.ext :∀{l l':LI},Inc l→Inc l'→(∀x,x∈l↔x∈l')→l=l'
 |[],[],_,_,_=>rfl
 |[],y::l',_,_,h=>by have:=(h y).2 (by simp);simp at this
 |x::l,[],_,_,h=>by have:=(h x).1 (by simp);simp at this
 |x::l,y::l',h1,h2,h=>by
  have h1':=List.pairwise_cons.1 h1;have h2':=List.pairwise_cons.1 h2
  have e:x=y:=by
   rcases List.mem_cons.1 ((h x).1 (by simp)) with e|e
   ·exact e
   ·rcases List.mem_cons.1 ((h y).2 (by simp)) with e'|e'
    ·exact e'.symm
    ·have:=h2'.1 x e;have:=h1'.1 y e';omega
  subst e
  have:l=l':=by
   refine Inc.ext h1'.2 h2'.2 (λz=> ?_)
   constructor
   ·intro hz
    rcases List.mem_cons.1 ((h z).1 (List.mem_cons_of_mem _ hz)) with e|e
    ·have:=h1'.1 z hz;omega
    ·exact e
   ·intro hz
    rcases List.mem_cons.1 ((h z).2 (List.mem_cons_of_mem _ hz)) with e|e
    ·have:=h2'.1 z hz;omega
    ·exact e
  rw[this]
theorem least_spec {s:Int}(h:VS s)(h0:s≠0):∃k:Nat,k<32∧has s k=true∧(∀v,v<k→has s v=false)∧
  iand .u32 s (IntKind.u32.wrap (0-s))=((2^k:Nat):Int)∧(∀v,has (iand .u32 s (IntKind.u32.wrap (s-1))) v=(has s v&& !decide (v=k))):=by
 obtain⟨m,rfl,hm⟩:=h.nat
 have hm0:m≠0:=by omega
 obtain⟨q,hq,hk⟩:=Lib.ctzFrom_spec 32 m (by omega) hm
 have hc:Lib.ctz 32 m=Lib.ctzFrom 32 m:=by unfold Lib.ctz;rw[if_neg hm0]
 obtain⟨hl,_⟩:=Lib.lowest_bit 32 m hm0 hm
 rw[hc] at hl
 generalize Lib.ctzFrom 32 m=k at*
 have hpos:0<2^k:=Nat.pow_pos (by omega)
 have hb:∀v,m.testBit v=(decide (v≥k)&&(2*q+1).testBit (v-k)):=λv=>by rw[hq,Nat.mul_comm,Nat.testBit_mul_two_pow,Bool.and_comm]
 refine⟨k,hk,?_,λv hv=> ?_,?_,λv=> ?_⟩
 ·rw[B8,hb];simp
 ·rw[B8,hb];simp;intro hc;omega
 ·have e:IntKind.u32.wrap (0-(m:Int))=((4294967296-m:Nat):Int):=by rw[DP];omega
  rw[e,DR hm (by omega)]
  rw[←hl]
 ·have e:IntKind.u32.wrap ((m:Int)-1)=((m-1:Nat):Int):=by rw[DP];omega
  rw[e,DR hm (by omega),B8,B8,Nat.testBit_and]
  have hm1:m-1=2^k*(2*q)+(2^k-1):=by rw[hq,Nat.mul_add];omega
  have hb1:(m-1).testBit v=if v<k then true else(2*q).testBit (v-k):=by
   rw[hm1,Nat.testBit_two_pow_mul_add _ (by omega)]
   split
   ·rename_i hv;rw[Nat.testBit_two_pow_sub_one];simp[hv]
   ·rfl
  rw[hb1,hb]
  by_cases hv:v<k
  ·simp[hv];intro hc;omega
  ·rw[if_neg hv]
   by_cases hvk:v=k
   ·subst hvk;simp
   ·obtain⟨t,ht⟩:∃t,v-k=t+1:=⟨v-k-1,by omega⟩
    rw[ht,Nat.testBit_succ,Nat.testBit_succ]
    have e1:(2*q+1)/2=q:=by omega
    have e2:2*q/2=q:=by omega
    rw[e1,e2]
    simp[hvk]
theorem elems_least {s t:Int}{k:Nat}(hk:k<32)(h1:has s k=true)(h2:∀v,v<k→has s v=false)(h3:∀v,has t v=(has s v&& !decide (v=k))):
  Aw s=(k:Int)::Aw t:=by
 refine Inc.ext (Ck s) ?_ (λx=> ?_)
 ·refine List.pairwise_cons.2 ⟨λx hx=> ?_,Ck t⟩
  obtain⟨v,hv,h4,rfl⟩:=mem_elems.1 hx
  rw[h3] at h4
  simp at h4
  by_cases hc:v<k
  ·rw[h2 v hc] at h4;simp at h4
  ·omega
 ·rw[List.mem_cons,mem_elems,mem_elems]
  constructor
  ·rintro⟨v,hv,h4,rfl⟩
   by_cases e:v=k
   ·left;omega
   ·right;exact⟨v,hv,by rw[h3,h4];simp[e],rfl⟩
  ·rintro(rfl|⟨v,hv,h4,rfl⟩)
   ·exact⟨k,hk,h1,rfl⟩
   ·rw[h3] at h4;simp at h4
    exact⟨v,hv,h4.1,rfl⟩
theorem Et :Aw 0=[]:=by
 unfold Aw
 rw[List.filter_eq_nil_iff.2 (λv _=>by simp[Dp])];rfl
theorem tz_table :∀k:Nat,k<32→idx tab32 (BC .u32 (IntKind.u32.wrap (((2^k:Nat):Int)*125613361)) 27)=some (k:Int):=by decide+kernel
def Out (l:LI)(a0 b0 a b:Int):Prop:=∀i j,a0≤i→i<j→j<b0→¬(a≤i∧j<b)→at' l i≤at' l j
theorem Out.keep {a0 a b b0:Int}{l l':LI}(h:Rg a b l l')(h0:0≤a0)(ha:a0≤a)(hb:b≤b0)(c:Out l a0 b0 a b):Out l' a0 b0 a b:=by
 intro i j h1 h2 h3 h4
 by_cases hi:a≤i∧i<b
 ·rw[h.out j (by omega) (by omega)]
  exact h.all (λx=>x≤at' l j) (λk k1 k2=>c k j (by omega) (by omega) h3 (by omega)) i hi.1 hi.2
 ·rw[h.out i (by omega) (by omega)]
  by_cases hj:a≤j∧j<b
  ·exact h.all (λx=>at' l i≤x) (λk k1 k2=>c i k (by omega) (by omega) (by omega) (by omega)) j hj.1 hj.2
  ·rw[h.out j (by omega) (by omega)];exact c i j h1 h2 h3 h4
theorem pdqsort_spec :∀(n:Nat) (l0:LI) (a0 b0 lim:Int),0≤a0→a0≤b0→b0≤l0.length→l0.length≤1000000→b0-a0≤16→b0-a0≤12+lim→0≤lim→lim≤64→
  (0<a0→∀k,a0≤k→k<b0→at' l0 (a0-1)≤at' l0 k)→b0-a0<n→∃l',D.M n l0 a0 b0 lim=some l'∧Rg a0 b0 l0 l'∧Srt l' a0 b0:=by
 intro n
 induction n with
 |zero=>intro l0 a0 b0 lim h1 h2 h3 h4 h5 h6 h7 h8 h9 h10;omega
 |succ n ih=>
  intro l0 a0 b0 lim h1 h2 h3 h4 h5 h6 h7 h8 h9 h10
  unfold D.M
  refine A3 (λs=>Rg a0 b0 l0 s.1∧Out s.1 a0 b0 s.2.1 s.2.2.1∧a0≤s.2.1∧s.2.1≤s.2.2.1∧s.2.2.1≤b0∧s.2.2.1-s.2.1≤12+s.2.2.2.1∧0≤s.2.2.2.1∧s.2.2.2.1≤64∧(0<s.2.1→∀k,s.2.1≤k→k<s.2.2.1→at' s.1 (s.2.1-1)≤at' s.1 k))
   (λs=>(s.2.2.1-s.2.1).toNat) (λr=>Rg a0 b0 l0 r∧Srt r a0 b0) ?_ ?_ ?_
  ·rintro⟨l,a,b,lm,bal,par⟩ ⟨hR,hO,g1,g2,g3,g4,g5,g6,g7⟩
   dsimp only at hR hO g1 g2 g3 g4 g5 g6 g7 ⊢
   have hll:=hR.len
   have fin:∀l',Rg a b l l'→Srt l' a b→Rg a0 b0 l0 l'∧Srt l' a0 b0:=λl' hr hs=>
    ⟨hR.trans (hr.widen g1 g3 h1),λi j k1 k2 k3=>by
     by_cases hc:a≤i∧j<b
     ·exact hs i j hc.1 k2 hc.2
     ·exact(hO.keep hr h1 g1 g3) i j k1 k2 k3 hc⟩
   rw[w64 (show-9223372036854775808≤b-a by omega) (by omega)]
   by_cases hs:b-a≤12
   ·obtain⟨l',e,r1,r2⟩:=EH l a b (by omega) g2 (by omega) (by omega)
    refine⟨.inr l',?_,fin l' r1 r2⟩
    simp only[hs,decide_true,cond_true,e,bs]
   ·have hl0:(lm==0)=false:=by simp;omega
    simp only[hs,decide_false,cond_false,hl0]
    refine CD (λq:LI×Int=>Rg a b l q.1∧b-a≤13+q.2∧0≤q.2∧q.2≤64) ?_ ?_
    ·cases bal
     ·obtain⟨l1,e,r1⟩:=EP l a b (by omega) (by omega) (by omega) (by omega) (by omega)
      refine⟨(l1,lm-1),?_,r1,by dsimp only;omega,by dsimp only;omega,by dsimp only;omega⟩
      simp only[Bool.not_false,cond_true,e,bs]
      rw[w64 (by omega) (by omega)]
     ·exact⟨(l,lm),rfl,Rg.refl _ _ _,by dsimp only;omega,by dsimp only;omega,by dsimp only;omega⟩
    rintro⟨l1,lm1⟩ ⟨hr1,k1,k2,k3⟩
    dsimp only at hr1 k1 k2 k3 ⊢
    have hl1:=hr1.len
    obtain⟨y,ey,c1,c2,c3⟩:=Fa l1 a b (by omega) (by omega) (by omega) (by omega) (by omega)
    rw[ey,bs]
    refine CD (λq:LI×Int×Int=>Rg a b l q.1∧a≤q.2.1∧q.2.1<b) ?_ ?_
    ·cases (y.2.1==2)
     ·exact⟨_,rfl,by dsimp only;rw[c1];exact hr1,c2,c3⟩
     ·obtain⟨l2,e2,r2⟩:=E1 l1 a b (by omega) (by omega) (by omega) (by omega)
      rw[c1]
      simp only[cond_true,e2,bs]
      rw[w64 (show-9223372036854775808≤b-1 by omega) (by omega),w64 (show-9223372036854775808≤y.1-a by omega) (by omega),w64 (show-9223372036854775808≤b-1-(y.1-a) by omega) (by omega)]
      exact⟨_,rfl,hr1.trans r2,by dsimp only;omega,by dsimp only;omega⟩
    rintro⟨l2,p,hint⟩ ⟨hr2,p1,p2⟩
    dsimp only at hr2 p1 p2 ⊢
    have hl2:=hr2.len
    refine CD (λq:LI ⊕ LI=>match q with| .inl q=>q=l2| .inr q=>q=l2∧Srt l2 a b) ?_ ?_
    ·cases ((bal&&par)&&(hint==1))
     ·exact⟨.inl l2,rfl,rfl⟩
     ·obtain⟨y2,e2,d1,d2⟩:=Ek l2 a b (by omega) (by omega) (by omega) (by omega) (by omega)
      simp only[cond_true,e2,bs,d1]
      cases hy:y2.1
      ·exact⟨.inl l2,rfl,rfl⟩
      ·exact⟨.inr l2,rfl,rfl,d2 hy⟩
    rintro(q|q) hq
    case inr=>
     obtain⟨rfl,hq⟩:=hq
     exact⟨.inr q,rfl,fin q hr2 hq⟩
    dsimp only at hq ⊢
    subst hq
    have hO2:=hO.keep hr2 h1 g1 g3
    have g7':0<a→∀k,a≤k→k<b→at' q (a-1)≤at' q k:=λha k m1 m2=>by
     rw[hr2.out (a-1) (by omega) (.inl (by omega))]
     exact hr2.all (λx=>at' l (a-1)≤x) (g7 ha) k m1 m2
    refine CD (λc:Bool=>c=true→0<a∧at' q p≤at' q (a-1)) ?_ ?_
    ·by_cases ha:0<a
     ·have r1:idx q (a-1)=some (at' q (a-1)):=Bm (by omega) (by omega)
      have r2:idx q p=some (at' q p):=Bm (by omega) (by omega)
      rw[w64 (show-9223372036854775808≤a-1 by omega) (by omega)]
      simp only[ha,decide_true,cond_true,r1,r2,Cr,bs]
      exact⟨_,rfl,λh=>⟨by trivial,by simpa using h⟩⟩
     ·simp only[ha,decide_false,cond_false]
      exact⟨_,rfl,λh=>by cases h⟩
    intro c hc
    cases c
    ·
     simp only[cond_false]
     obtain⟨⟨mid,par',l3⟩,e3,P⟩:=partition_spec q a b p (by omega) (by omega) (by omega) p1 p2
     rw[e3,bs]
     obtain⟨hr3,m1,m2,m3,m4⟩:=P
     dsimp only at hr3 m1 m2 m3 m4 ⊢
     have hl3:=hr3.len
     have hO3:=hO2.keep hr3 h1 g1 g3
     have g7'':0<a→∀k,a≤k→k<b→at' l3 (a-1)≤at' l3 k:=λha k n1 n2=>by
      rw[hr3.out (a-1) (by omega) (.inl (by omega))]
      exact hr3.all (λx=>at' q (a-1)≤x) (g7' ha) k n1 n2
     have hR3:Rg a0 b0 l0 l3:=hR.trans ((hr2.trans hr3).widen g1 g3 h1)
     rw[w64 (show-9223372036854775808≤mid-a by omega) (by omega),w64 (show-9223372036854775808≤b-mid by omega) (by omega),w64 (show-9223372036854775808≤mid+1 by omega) (by omega)]
     by_cases hside:mid-a<b-mid
     ·simp only[hside,decide_true,cond_true]
      obtain⟨l4,e4,r4,s4⟩:=ih l3 a mid lm1 (by omega) m1 (by omega) (by omega) (by omega) (by omega) k2 k3 (λha k n1 n2=>g7'' ha k n1 (by omega)) (by omega)
      rw[e4,bs]
      have hl4:=r4.len
      have em:∀k,mid≤k→at' l4 k=at' l3 k:=λk hk=>r4.out k (by omega) (.inr hk)
      have lf:∀k,a≤k→k<mid→at' l4 k≤at' l4 mid:=λk n1 n2=>by
       rw[em mid (Int.le_refl _)];exact r4.all (λx=>x≤at' l3 mid) m3 k n1 n2
      refine⟨.inl _,rfl,⟨hR3.trans (r4.widen g1 (by omega) h1),?_,by dsimp only;omega,by dsimp only;omega,g3,by dsimp only;omega,k2,k3,?_⟩,by dsimp only;omega⟩
      ·have hO4:=hO3.keep (r4.widen (Int.le_refl a) (by omega) (by omega)) h1 g1 g3
       intro i j n1 n2 n3 n4
       dsimp only at n4 ⊢
       by_cases hin:a≤i∧j<b
       ·by_cases hj:j<mid
        ·exact s4 i j hin.1 n2 hj
        ·have hi:i≤mid:=by omega
         have e1:at' l4 i≤at' l4 mid:=by
          by_cases e:i=mid
          ·rw[e];exact Int.le_refl _
          ·exact lf i hin.1 (by omega)
         have e2:at' l4 mid≤at' l4 j:=by
          by_cases e:j=mid
          ·rw[e];exact Int.le_refl _
          ·rw[em mid (Int.le_refl _),em j (by omega)];exact m4 j (by omega) hin.2
         omega
       ·exact hO4 i j n1 n2 n3 hin
      ·intro _ k n1 n2
       dsimp only at n1 n2 ⊢
       rw[show mid+1-1=mid by omega,em mid (Int.le_refl _),em k (by omega)]
       exact m4 k (by omega) n2
     ·simp only[hside,decide_false,cond_false]
      obtain⟨l4,e4,r4,s4⟩:=ih l3 (mid+1) b lm1 (by omega) (by omega) (by omega) (by omega) (by omega) (by omega) k2 k3 (λ_ k n1 n2=>by rw[show mid+1-1=mid by omega];exact m4 k (by omega) n2) (by omega)
      rw[e4,bs]
      have hl4:=r4.len
      have em:∀k,0≤k→k≤mid→at' l4 k=at' l3 k:=λk h0 hk=>r4.out k h0 (.inl (by omega))
      have rt:∀k,mid<k→k<b→at' l4 mid≤at' l4 k:=λk n1 n2=>by
       rw[em mid (by omega) (Int.le_refl _)];exact r4.all (λx=>at' l3 mid≤x) (λk q1 q2=>m4 k (by omega) q2) k (by omega) n2
      refine⟨.inl _,rfl,⟨hR3.trans (r4.widen (by omega) g3 h1),?_,g1,m1,by dsimp only;omega,by dsimp only;omega,k2,k3,?_⟩,by dsimp only;omega⟩
      ·have hO4:=hO3.keep (r4.widen (by omega) (Int.le_refl b) (by omega)) h1 g1 g3
       intro i j n1 n2 n3 n4
       dsimp only at n4 ⊢
       by_cases hin:a≤i∧j<b
       ·by_cases hi:mid<i
        ·exact s4 i j (by omega) n2 hin.2
        ·have hj:mid≤j:=by omega
         have e1:at' l4 i≤at' l4 mid:=by
          by_cases e:i=mid
          ·rw[e];exact Int.le_refl _
          ·rw[em i (by omega) (by omega),em mid (by omega) (Int.le_refl _)];exact m3 i hin.1 (by omega)
         have e2:at' l4 mid≤at' l4 j:=by
          by_cases e:j=mid
          ·rw[e];exact Int.le_refl _
          ·exact rt j (by omega) hin.2
         omega
       ·exact hO4 i j n1 n2 n3 hin
      ·intro ha k n1 n2
       dsimp only at ha n1 n2 ⊢
       rw[em (a-1) (by omega) (by omega),em k (by omega) (by omega)]
       exact g7'' ha k n1 (by omega)
    ·
     simp only[cond_true]
     obtain⟨hc1,hc2⟩:=hc rfl
     obtain⟨⟨mid,l3⟩,e3,hr3,m1,m2,m3,m4⟩:=EE q a b p (by omega) (by omega) (by omega) p1 p2
     rw[e3,bs]
     dsimp only at hr3 m1 m2 m3 m4 ⊢
     have hl3:=hr3.len
     have hO3:=hO2.keep hr3 h1 g1 g3
     have lw:∀k,a≤k→k<b→at' q p≤at' l3 k:=λk n1 n2=>
      hr3.all (λx=>at' q p≤x) (λk q1 q2=>Int.le_trans hc2 (g7' hc1 k q1 q2)) k n1 n2
     refine⟨.inl _,rfl,⟨hR.trans ((hr2.trans hr3).widen g1 g3 h1),?_,by dsimp only;omega,m2,g3,by dsimp only;omega,k2,k3,?_⟩,by dsimp only;omega⟩
     ·intro i j n1 n2 n3 n4
      dsimp only at n4 ⊢
      by_cases hin:a≤i∧j<b
      ·have:=m3 i hin.1 (by omega)
       have:=lw j (by omega) hin.2
       omega
      ·exact hO3 i j n1 n2 n3 hin
     ·intro _ k n1 n2
      dsimp only at n1 n2 ⊢
      have:=m3 (mid-1) (by omega) (by omega)
      have:=m4 k n1 n2
      omega
  ·exact⟨Rg.refl _ _ _,λi j n1 n2 n3 n4=>by dsimp only at n4;omega,Int.le_refl _,h2,Int.le_refl _,h6,h7,h8,h9⟩
  ·rintro r hr
   exact⟨r,rfl,hr⟩
theorem sorted_spec (l:LI)(hl:l.length≤16):∃y,D.F0 l=some y∧List.Perm y l∧Srt y 0 y.length:=by
 unfold D.F0 D.q1 D.o1 D.m1 D.n D.V
 rw[if_pos (show l.length≤1000000 by omega)]
 simp only[bs]
 rw[wu64 (by omega) (by omega),if_pos (by omega)]
 simp only[bs]
 have hk:∀k:Nat,k≤16→k≤12+Lib.bitLen k∧Lib.bitLen k≤64:=by decide
 obtain⟨k1,k2⟩:=hk l.length hl
 have e:((l.length:Int)).toNat=l.length:=by omega
 have hb:=E4
 obtain⟨y,hy,hr,hs⟩:=pdqsort_spec CS l 0 l.length (Lib.bitLen l.length:Nat) (by omega) (by omega) (by omega) (by omega) (by omega) (by omega) (by omega) (by omega) (λh=>absurd h (by omega)) (by omega)
 rw[e,hy]
 refine⟨y,rfl,hr.perm,?_⟩
 rw[hr.len];exact hs
end Go.Sx



namespace Go.Sx
def Sh {α:Type}(xs:List α):Prop:=xs.length≤4294967296
theorem Ei (a b c:Int):D.e a b c=some (decide (b≤a)&&decide (a≤c)):=rfl
theorem inRange_eq (a b c:Int):D.c0 a b c=some (decide (b≤a)&&decide (a≤c)):=rfl
theorem any_beq (xs:LI)(n:Int):xs.any (λx=>x==n)=decide (n∈xs):=by
 rw[Bool.eq_iff_iff,List.any_eq_true];simp
theorem DN (xs:LI)(n:Int)(h:Sh xs):D.q xs n=some (decide (n∈xs)):=by
 unfold Sh at h
 unfold D.q
 refine(loop_anyb xs.length (λi=>xs.getD i 0==n) true (λi hi=> ?_) ?_ rfl rfl).trans ?_
 ·simp only[dlt hi,cond_true,AN hi,bs,wi' hi (by omega),AX hi]
  cases xs[i]==n<;>rfl
 ·simp only[Bn,cond_false]
 ·rw[range_any_list xs (λx=>x==n) _ (λi hi=>by rw[AX hi]),any_beq]
theorem Dr (xs:LI)(n:Int)(h:Sh xs):D.t xs n=some (decide (n∈xs)):=by
 unfold Sh at h
 unfold D.t D.s1
 have e:Ay (σ:=Int) (ρ:=(Unit) ⊕ (Int)) (fun(x_26:Int)=>cond (decide (x_26<(xs.length:Int))) ((idx xs x_26).bind λe_39=>cond (n==e_39) (some (.inr (.inr x_26))) (some (.inl (IntKind.i64.wrap (x_26+1))))) (some (.inr (.inl ())))) 0=
   some (((List.range xs.length).findSome? (λi=>if xs.getD i 0==n then some (Sum.inr (i:Int)) else none)).getD (.inl ())):=by
  refine D5 xs.length _ _ (λi hi=> ?_) ?_
  ·simp only[dlt hi,cond_true,AN hi,bs,wi' hi (by omega),AX hi]
   rw[show (n==xs[i])=(xs[i]==n) from Bool.beq_comm ..]
   cases xs[i]==n<;>rfl
  ·simp only[Bn,cond_false]
 rw[e,bs]
 cases hf:(List.range xs.length).findSome? (λi=>if xs.getD i 0==n then some (Sum.inr (i:Int):Unit ⊕ Int) else none) with
 |none=>
  have:n∉xs:=λhm=>by
   obtain⟨i,hi,e⟩:=List.getElem_of_mem hm
   have:=(List.findSome?_eq_none_iff.1 hf) i (List.mem_range.2 hi)
   rw[AX hi,e] at this
   simp at this
  simp[this]
 |some r=>
  obtain⟨i,hi,hr⟩:=List.exists_of_findSome?_eq_some hf
  have hi':=List.mem_range.1 hi
  rw[AX hi'] at hr
  split at hr
  ·rename_i hc
   cases hr
   have:n∈xs:=by rw[←(beq_iff_eq.1 hc)];exact List.getElem_mem _
   simp[this]
  ·cases hr
def SetOf (xs:LI)(n:Int):Prop:=Inc xs∧∀x∈xs,0≤x∧x<n
theorem SetOf.len :∀{xs:LI} {n a:Int},Inc xs→(∀x∈xs,a≤x∧x<n)→xs=[]∨(xs.length:Int)≤n-a
 |[],_,_,_,_=> .inl rfl
 |x::xs,n,a,h,hr=>by
  right
  have h':=List.pairwise_cons.1 h
  have hx:=hr x (by simp)
  rcases SetOf.len (a:=x+1) (n:=n) h'.2 (λy hy=>⟨by have:=h'.1 y hy;omega,(hr y (by simp[hy])).2⟩) with e|e
  ·subst e;simp;omega
  ·simp;omega
theorem SetOf.length_le {xs:LI}{n:Int}(h:SetOf xs n)(hn:0≤n):(xs.length:Int)≤n:=by
 rcases SetOf.len h.1 h.2 with e|e
 ·subst e;simpa using hn
 ·omega
theorem inc_iff (xs:LI):Inc xs↔∀i (hi:i+1<xs.length),xs[i]<xs[i+1]:=by
 unfold Inc
 constructor
 ·intro h i hi
  exact List.pairwise_iff_getElem.1 h i (i+1) (by omega) hi (by omega)
 ·intro h
  rw[List.pairwise_iff_getElem]
  intro i j hi hj hij
  have key:∀k,∀hk:i+k+1<xs.length,xs[i]<xs[i+k+1]:=by
   intro k
   induction k with
   |zero=>intro hk;exact h i hk
   |succ k ih=>intro hk;have:=ih (by omega);have:=h (i+k+1) hk;exact Int.lt_trans (ih (by omega)) this
  obtain⟨k,rfl⟩:∃k,j=i+k+1:=⟨j-i-1,by omega⟩
  exact key k hj
def setB (xs:LI)(n:Int):Bool:=(List.range xs.length).all λi=>(decide (0≤xs.getD i 0)&&decide (xs.getD i 0≤n-1))&& !(decide (0<i)&&decide (xs.getD i 0≤xs.getD (i-1) 0))
theorem DO (xs:LI)(n:Int):setB xs n=true↔SetOf xs n:=by
 unfold setB SetOf
 rw[DE,inc_iff]
 constructor
 ·intro h
  refine⟨λi hi=> ?_,λx hx=> ?_⟩
  ·have:=h (i+1) hi
   simp[hi,show i<xs.length by omega] at this
   omega
  ·obtain⟨i,hi,rfl⟩:=List.getElem_of_mem hx
   have:=h i hi
   simp[hi] at this
   omega
 ·rintro⟨h1,h2⟩ i hi
  have h3:=h2 _ (List.getElem_mem hi)
  simp[hi]
  refine⟨by omega,?_⟩
  rcases Nat.eq_zero_or_pos i with h0|h0
  ·exact .inl h0
  ·right
   have:=h1 (i-1) (by omega)
   have e:i-1+1=i:=by omega
   simp only[e] at this
   have e2:xs[i-1]?.getD 0=xs[i-1]:=by rw[List.getElem?_eq_getElem (by omega)];rfl
   rw[e2];exact this
theorem Ez (xs:LI)(n:Int)(h:Sh xs)(h0:0≤n)(hn:n≤4294967296):D.T xs n=some (setB xs n):=by
 unfold Sh at h
 unfold D.T
 refine Dx xs.length _ false (λi hi=> ?_) ?_ rfl rfl
 ·simp only[dlt hi,cond_true,AN hi,bs,wi' hi (by omega),AX hi,inRange_eq]
  rw[w64 (x:=n-1) (by omega) (by omega)]
  cases (decide (0≤xs[i])&&decide (xs[i]≤n-1))
  ·simp
  ·by_cases h0:0<i
   ·have e1:IntKind.i64.wrap ((i:Int)-1)=((i-1:Nat):Int):=by rw[w64 (by omega) (by omega)];omega
    have hd:decide ((0:Int)<(i:Int))=true:=by simp;omega
    simp only[Bool.not_true,cond_false,hd,cond_true,e1,AN (show i-1<xs.length by omega),bs,AX (show i-1<xs.length by omega),h0,decide_true,Bool.true_and]
    cases decide (xs[i]≤xs[i-1])<;>rfl
   ·have hd:decide ((0:Int)<(i:Int))=false:=by simp;omega
    simp only[Bool.not_true,cond_false,hd,bs,h0,decide_false,Bool.false_and,Bool.not_false,Bool.and_true,if_true]
 ·simp only[Bn,cond_false]
theorem l1Set_eq (xs:LI)(n:Int)(h:Sh xs)(h0:0≤n)(hn:n≤4294967296):D.W0 xs n=some (setB xs n):=by
 have hh:=h
 unfold Sh at h
 unfold D.W0
 by_cases hl:n<xs.length
 ·have:setB xs n=false:=by
   cases hb:setB xs n
   ·rfl
   ·have:=((DO xs n).1 hb).length_le h0;omega
  simp[hl,this]
 ·simp only[hl,decide_false,cond_false]
  refine Dx xs.length _ false (λi hi=> ?_) ?_ rfl rfl
  ·simp only[dlt hi,cond_true,AN hi,bs,wi' hi (by omega),AX hi,Ei]
   rw[w64 (x:=n-1) (by omega) (by omega)]
   cases (decide (0≤xs[i])&&decide (xs[i]≤n-1))
   ·simp
   ·by_cases h0:0<i
    ·have e1:IntKind.i64.wrap ((i:Int)-1)=((i-1:Nat):Int):=by rw[w64 (by omega) (by omega)];omega
     have hd:decide ((0:Int)<(i:Int))=true:=by simp;omega
     simp only[Bool.not_true,cond_false,hd,cond_true,e1,AN (show i-1<xs.length by omega),bs,AX (show i-1<xs.length by omega),h0,decide_true,Bool.true_and]
     cases decide (xs[i]≤xs[i-1])<;>rfl
    ·have hd:decide ((0:Int)<(i:Int))=false:=by simp;omega
     simp only[Bool.not_true,cond_false,hd,bs,h0,decide_false,Bool.false_and,Bool.not_false,Bool.and_true,if_true]
  ·simp only[Bn,cond_false]
def row (g:LL)(v:Nat):LI:=g.getD v []
theorem row_eq {g:LL}{v:Nat}(h:v<g.length):row g v=g[v]:=AX h _
def adj (g:LL)(u v:Nat):Prop:=(v:Int)∈row g u
structure GOk (g:LL):Prop where
 n1:1≤g.length
 n16:g.length≤16
 rows:∀v,v<g.length→SetOf (row g v) g.length
 irr:∀v,v<g.length→¬adj g v v
 sym:∀u v,u<g.length→adj g u v→adj g v u
theorem GOk.mem {g:LL}(h:GOk g){u:Nat}(hu:u<g.length){x:Int}(hx:x∈row g u):∃v:Nat,x=v∧v<g.length∧adj g u v:=by
 have:=(h.rows u hu).2 x hx
 refine⟨x.toNat,by omega,by omega,?_⟩
 unfold adj
 rw[show ((x.toNat:Nat):Int)=x by omega];exact hx
theorem GOk.row_len {g:LL}(h:GOk g){u:Nat}(hu:u<g.length):(row g u).length≤16:=by
 have:=(h.rows u hu).length_le (by omega)
 have:=h.n16
 omega
theorem GOk.lt {g:LL}(h:GOk g){u v:Nat}(hu:u<g.length)(ha:adj g u v):v<g.length:=by
 obtain⟨w,h1,h2,_⟩:=h.mem hu ha
 omega
def Sh2 (g:LL):Prop:=Sh g∧∀r∈g,Sh r
theorem Sh2.row {g:LL}(h:Sh2 g){v:Nat}(hv:v<g.length):Sh (row g v):=by
 rw[row_eq hv];exact h.2 _ (List.getElem_mem hv)
theorem BW {g:LL}{v:Nat}(h:v<g.length):idx g (v:Int)=some (row g v):=by rw[row_eq h,AN h]
def gB1 (g:LL):Bool:=(List.range g.length).all λv=>setB (row g v) g.length&& !decide ((v:Int)∈row g v)
def gB2 (g:LL):Bool:=(List.range g.length).all λv=>(row g v).all λx=>decide ((v:Int)∈row g x.toNat)
def gB (g:LL):Bool:=decide (1≤g.length)&&decide (g.length≤16)&&gB1 g&&gB2 g
theorem gB_iff (g:LL):gB g=true↔GOk g:=by
 unfold gB gB1 gB2
 simp only[Bool.and_eq_true,decide_eq_true_eq,DO,Bool.not_eq_true',decide_eq_false_iff_not,List.all_eq_true,List.mem_range]
 constructor
 ·rintro⟨⟨⟨h1,h2⟩,h3⟩,h4⟩
  refine⟨h1,h2,λv hv=>(h3 v hv).1,λv hv=>(h3 v hv).2,λu v hu ha=> ?_⟩
  have:=h4 u hu v ha
  unfold adj
  simpa using this
 ·intro h
  refine⟨⟨⟨h.n1,h.n16⟩,λv hv=>⟨h.rows v hv,h.irr v hv⟩⟩,λv hv x hx=> ?_⟩
  obtain⟨u,rfl,hu,ha⟩:=h.mem hv hx
  have:=h.sym v u hv ha
  simpa [adj] using this
theorem BI (g:LL)(h:Sh2 g):D.p g=some (gB g):=by
 have hl:g.length≤4294967296:=h.1
 unfold D.p D.b
 simp only[bs,Ei]
 by_cases hn:1≤g.length∧g.length≤16
 ·have e:(decide ((1:Int)≤(g.length:Int))&&decide ((g.length:Int)≤16))=true:=by simp;omega
  simp only[e,Bool.not_true,cond_false]
  refine(EU g.length (λv=>setB (row g v) g.length&& !decide ((v:Int)∈row g v)) (.inl ()) (.inr false) (λv hv=> ?_) ?_).trans ?_
  rotate_left
  ·simp only[Bn,cond_false]
  ·show cond (gB1 g) _ _=_
   have e4:gB g=(gB1 g&&gB2 g):=by unfold gB;simp[hn.1,hn.2]
   rw[e4]
   cases hc:gB1 g with
   |false=>rfl
   |true=>
    rw[cond_true,Bool.true_and]
    refine Dx g.length _ false (λv hv=> ?_) ?_ rfl rfl
    ·have hset:SetOf (row g v) g.length:=by
      have:=(DE _ _).1 hc v hv
      simp only[Bool.and_eq_true] at this
      exact(DO _ _).1 this.1
     simp only[dlt hv,cond_true]
     refine(EU (row g v).length (λi=>decide ((v:Int)∈row g ((row g v).getD i 0).toNat)) (.inl ()) (.inr false) (λi hi=> ?_) ?_).trans ?_
     ·have hx:=hset.2 _ (List.getElem_mem hi)
      have e5:idx g (row g v)[i]=some (row g ((row g v)[i]).toNat):=by
       have:=BW (g:=g) (v:=((row g v)[i]).toNat) (by omega)
       rwa [show ((((row g v)[i]).toNat:Nat):Int)=(row g v)[i] by omega] at this
      have hs:=h.row (v:=((row g v)[i]).toNat) (by omega)
      simp only[BW hv,bs,dlt hi,cond_true,AN hi,e5,DN _ _ hs,wi (show i<4611686018427387904 by have:=h.row hv;unfold Sh at this;omega),AX hi]
      cases decide ((v:Int)∈row g ((row g v)[i]).toNat)<;>rfl
     ·simp only[BW hv,bs,Bn,cond_false]
     ·rw[Em (row g v) (λx=>decide ((v:Int)∈row g x.toNat)) _ (λi hi=>by rw[AX hi]),wi' hv (by omega)]
      cases (row g v).all λx=>decide ((v:Int)∈row g x.toNat)<;>rfl
    ·simp only[Bn,cond_false]
  ·simp only[dlt hv,cond_true,BW hv,bs,l1Set_eq _ _ (h.row hv) (show (0:Int)≤(g.length:Int) by omega) (by omega),DN _ _ (h.row hv),wi' hv (by omega)]
   cases setB (row g v) g.length
   ·rfl
   ·cases decide ((v:Int)∈row g v)<;>rfl
 ·have e:(decide ((1:Int)≤(g.length:Int))&&decide ((g.length:Int)≤16))=false:=by
   rw[Bool.eq_false_iff];simp;omega
  simp only[e,Bool.not_false,cond_true]
  unfold gB
  congr 1
  symm
  rw[Bool.eq_false_iff]
  simp
  omega
theorem BH (g:LL)(h:Sh2 g):D.l g=some (gB g):=by
 have hl:g.length≤4294967296:=h.1
 unfold D.l
 by_cases hn:1≤g.length∧g.length≤16
 ·have e:(decide ((g.length:Int)<(1:Int))||decide ((16:Int)<(g.length:Int)))=false:=by simp;omega
  simp only[e,cond_false]
  refine(EU g.length (λv=>setB (row g v) g.length&& !decide ((v:Int)∈row g v)) (.inl ()) (.inr false) (λv hv=> ?_) ?_).trans ?_
  rotate_left
  ·simp only[Bn,cond_false]
  ·show cond (gB1 g) _ _=_
   have e4:gB g=(gB1 g&&gB2 g):=by unfold gB;simp[hn.1,hn.2]
   rw[e4]
   cases hc:gB1 g with
   |false=>rfl
   |true=>
    rw[cond_true,Bool.true_and]
    refine Dx g.length _ false (λv hv=> ?_) ?_ rfl rfl
    ·have hset:SetOf (row g v) g.length:=by
      have:=(DE _ _).1 hc v hv
      simp only[Bool.and_eq_true] at this
      exact(DO _ _).1 this.1
     simp only[dlt hv,cond_true,BW hv,bs]
     refine(EU (row g v).length (λi=>decide ((v:Int)∈row g ((row g v).getD i 0).toNat)) (.inl ()) (.inr false) (λi hi=> ?_) ?_).trans ?_
     ·have hx:=hset.2 _ (List.getElem_mem hi)
      have e5:idx g (row g v)[i]=some (row g ((row g v)[i]).toNat):=by
       have:=BW (g:=g) (v:=((row g v)[i]).toNat) (by omega)
       rwa [show ((((row g v)[i]).toNat:Nat):Int)=(row g v)[i] by omega] at this
      have hs:=h.row (v:=((row g v)[i]).toNat) (by omega)
      simp only[bs,dlt hi,cond_true,AN hi,e5,Dr _ _ hs,wi (show i<4611686018427387904 by have:=h.row hv;unfold Sh at this;omega),AX hi]
      cases decide ((v:Int)∈row g ((row g v)[i]).toNat)<;>rfl
     ·simp only[Bn,cond_false]
     ·rw[Em (row g v) (λx=>decide ((v:Int)∈row g x.toNat)) _ (λi hi=>by rw[AX hi]),wi' hv (by omega)]
      cases (row g v).all λx=>decide ((v:Int)∈row g x.toNat)<;>rfl
    ·simp only[Bn,cond_false]
  ·simp only[dlt hv,cond_true,BW hv,bs,Ez _ _ (h.row hv) (show (0:Int)≤(g.length:Int) by omega) (by omega),Dr _ _ (h.row hv),wi' hv (by omega)]
   cases setB (row g v) g.length
   ·rfl
   ·cases decide ((v:Int)∈row g v)<;>rfl
 ·have e:(decide ((g.length:Int)<(1:Int))||decide ((16:Int)<(g.length:Int)))=true:=by
   simp;omega
  simp only[e,cond_true]
  unfold gB
  congr 1
  symm
  rw[Bool.eq_false_iff]
  simp
  omega
structure OOk (g:LL)(o:LI):Prop where
 len:o.length=g.length
 rng:∀x∈o,0≤x∧x<g.length
 nd:o.Nodup
def oB (g:LL)(o:LI):Bool:=(List.range o.length).all λi=>(decide (0≤o.getD i 0)&&decide (o.getD i 0≤(g.length:Int)-1))&& !decide (o.getD i 0∈o.take i)
theorem mem_take_iff {α:Type}{l:List α}{i:Nat}{x:α}:x∈l.take i↔∃j,∃h:j<l.length,j<i∧l[j]=x:=by
 rw[List.mem_take_iff_getElem]
 constructor
 ·rintro⟨j,h,e⟩;exact⟨j,by omega,by omega,e⟩
 ·rintro⟨j,h,h2,e⟩;exact⟨j,by omega,e⟩
theorem nodup_iff {l:LI}:l.Nodup↔∀i (hi:i<l.length),l[i]∉l.take i:=by
 constructor
 ·intro h i hi hm
  obtain⟨j,hj,hji,e⟩:=mem_take_iff.1 hm
  have:=(List.pairwise_iff_getElem.1 h) j i hj hi hji
  exact this e
 ·intro h
  refine List.pairwise_iff_getElem.2 (λi j hi hj hij e=>h j hj (mem_take_iff.2 ⟨i,hi,hij,e⟩))
theorem oB_iff (g:LL)(o:LI)(hl:o.length=g.length):oB g o=true↔OOk g o:=by
 unfold oB
 rw[DE]
 constructor
 ·intro h
  refine⟨hl,λx hx=> ?_,nodup_iff.2 λi hi=> ?_⟩
  ·obtain⟨i,hi,rfl⟩:=List.getElem_of_mem hx
   have:=h i hi
   rw[AX hi] at this
   simp at this;omega
  ·have:=h i hi
   rw[AX hi] at this
   simp at this;exact this.2
 ·intro h i hi
  have h1:=h.rng _ (List.getElem_mem hi)
  have h2:=nodup_iff.1 h.nd i hi
  rw[AX hi]
  simp[h2];omega
def ordB (g:LL)(o:LI):Bool:=decide (o.length=g.length)&&oB g o
theorem ordB_iff (g:LL)(o:LI):ordB g o=true↔OOk g o:=by
 unfold ordB
 by_cases hl:o.length=g.length
 ·simp[hl,oB_iff g o hl]
 ·simp[hl];intro h;exact hl h.len
theorem DW (g:LL)(o:LI)(h:Sh2 g)(ho:Sh o):D.i0 g o=some (gB g&&ordB g o):=by
 have hl:g.length≤4294967296:=h.1
 have hol:o.length≤4294967296:=ho
 unfold D.i0
 rw[BI g h,bs]
 cases hg:gB g
 ·rfl
 ·have hg':=(gB_iff g).1 hg
  simp only[cond_true]
  unfold D.p1 D.b ordB
  simp only[bs]
  by_cases hl:o.length=g.length
  ·have e:((o.length:Int) !=(g.length:Int))=false:=by simp[hl]
   simp only[e,cond_false]
   simp only[Option.bind_fun_some,hl,decide_true,Bool.true_and]
   unfold oB
   rw[←hl]
   refine Dx o.length _ false (λi hi=> ?_) ?_ rfl rfl
   ·have hsh:Sh (o.take i):=by unfold Sh;rw[List.length_take];omega
    simp only[dlt hi,cond_true,AN hi,bs,wi' hi (by omega),AX hi,←hl,D.O,D.b,Ei,CX (show i≤o.length by omega),DN _ _ hsh]
    rw[w64 (x:=(o.length:Int)-1) (by omega) (by omega)]
    cases (decide (0≤o[i])&&decide (o[i]≤(o.length:Int)-1))
    ·rfl
    ·cases decide (o[i]∈o.take i)<;>rfl
   ·simp only[Bn,cond_false]
  ·have e:((o.length:Int) !=(g.length:Int))=true:=by simp;omega
   simp[e,hl]
theorem sorted_inc {y:LI}(hs:Srt y 0 y.length)(hn:y.Nodup):Inc y:=by
 unfold Inc
 rw[List.pairwise_iff_getElem]
 intro i j hi hj hij
 have h1:=hs i j (by omega) (by omega) (by omega)
 have h2:=(List.pairwise_iff_getElem.1 hn) i j hi hj hij
 simp[at',hi,hj] at h1
 have:y[i]≠y[j]:=h2
 omega
theorem Fh (g:LL)(o:LI)(h:Sh2 g)(ho:Sh o):D.n0 g o=some (gB g&&ordB g o):=by
 unfold D.n0
 rw[BH g h,bs]
 cases hg:gB g
 ·rfl
 ·have hg':=(gB_iff g).1 hg
  by_cases hl:o.length=g.length
  ·have e:((o.length:Int) !=(g.length:Int))=false:=by simp[hl]
   have h16:=hg'.n16
   obtain⟨y,h1,h2,h3⟩:=sorted_spec o (by omega)
   have hyl:=h2.length_eq
   simp only[Bool.not_true,e,Bool.or_false,cond_false,h1,bs,Bool.true_and]
   rw[Ez y _ (by unfold Sh;omega) (by omega) (by omega),bs]
   congr 1
   unfold ordB
   simp only[hl,decide_true,Bool.true_and]
   rw[Bool.eq_iff_iff,DO,oB_iff g o hl]
   constructor
   ·rintro⟨k1,k2⟩
    refine⟨hl,λx hx=>k2 x (h2.mem_iff.2 hx),h2.nodup_iff.1 ?_⟩
    exact List.Pairwise.imp (λh e=>by omega) k1
   ·intro k
    exact⟨sorted_inc h3 (h2.nodup_iff.2 k.nd),λx hx=>k.rng x (h2.mem_iff.1 hx)⟩
  ·have e:((o.length:Int) !=(g.length:Int))=true:=by simp;omega
   simp[e,ordB,hl]
theorem BE (v:Nat):D.a (v:Int)=some (ishl .u32 1 (v:Int)):=by
 unfold D.a
 have:decide ((v:Int)<0)=false:=by simp
 rw[this];rfl
theorem impl_one_eq' {x:Int}(h:0≤x):D.a x=some (ishl .u32 1 x):=by
 have:=BE x.toNat
 rwa [show ((x.toNat:Nat):Int)=x by omega] at this
def mk (xs:LI):Int:=xs.foldl (λs v=>ior .u32 s (ishl .u32 1 v)) 0
theorem maskOf_eq (xs:LI)(h:Sh xs)(h0:∀x∈xs,0≤x):D.d0 xs=some (mk xs):=by
 unfold Sh at h
 unfold D.d0
 refine(loop_listb xs (λs i=>(s,i)) (λs v=>ior .u32 s (ishl .u32 1 v)) (λs=>s) (λ_=>True) 0 trivial (λs i hi _=>⟨?_,trivial⟩) (λs _=> ?_)).trans rfl
 ·simp only[dlt hi,cond_true,AN hi,bs,wi' hi (by omega),impl_one_eq' (h0 _ (List.getElem_mem hi))]
 ·simp only[Bn,cond_false]
theorem EQ :∀(xs:LI) (s:Int),VS s→VS (xs.foldl (λs v=>ior .u32 s (ishl .u32 1 v)) s)
 |[],s,h=>h
 |x::xs,s,_=>EQ xs _ (VS.ior _ _)
theorem VS.mk (xs:LI):VS (mk xs):=EQ xs 0 VS.zero
theorem EC (u:Nat):∀(xs:LI) (s:Int),VS s→(∀x∈xs,0≤x∧x<32)→has (xs.foldl (λs v=>ior .u32 s (ishl .u32 1 v)) s) u=(has s u||decide ((u:Int)∈xs))
 |[],s,_,_=>by simp
 |x::xs,s,hs,h=>by
  have hx:=h x (by simp)
  rw[List.foldl_cons,EC u xs _ (VS.ior _ _) (λy hy=>h y (by simp[hy])),Cz hs (VS.ishl _ _)]
  obtain⟨k,rfl⟩:∃k:Nat,x=k:=⟨x.toNat,by omega⟩
  rw[BA (by omega)]
  by_cases hu:u=k
  ·subst hu;simp
  ·have:¬(u:Int)=(k:Int):=by omega
   simp[hu,this]
theorem Ee {xs:LI}(h:∀x∈xs,0≤x∧x<32)(u:Nat):has (mk xs) u=decide ((u:Int)∈xs):=by
 unfold mk;rw[EC u xs 0 VS.zero h,Dp,Bool.false_or]
theorem GOk.mem0 {g:LL}(hg:GOk g){r:LI}(hr:r∈g):r.length≤16∧∀x∈r,0≤x∧x<g.length:=by
 obtain⟨v,hv,rfl⟩:=List.getElem_of_mem hr
 rw[←row_eq hv]
 exact⟨hg.row_len hv,(hg.rows v hv).2⟩
theorem Dd (g:LL)(hg:GOk g):D.j g=some (g.map mk):=by
 have h16:=hg.n16
 unfold D.j
 refine(DL g (λs i=>(s,i)) mk (by omega) (λs i hi _=> ?_) (λs=> ?_)).trans rfl
 ·obtain⟨h1,h2⟩:=hg.mem0 (List.getElem_mem hi)
  simp only[dlt hi,cond_true,AN hi,bs,wi' hi (by omega),maskOf_eq g[i] (by unfold Sh;omega) (λx hx=>(h2 x hx).1)]
 ·simp only[Bn,cond_false]
theorem narrow_eq (xs:LI)(h:Sh xs):D.S0 xs=some xs:=by
 unfold Sh at h
 unfold D.S0
 rw[makeD_zero (by omega) (by omega),bs]
 refine(DL xs (λs i=>(s,i)) (λx=>x) h (λs i hi _=> ?_) (λs=> ?_)).trans (by simp)
 ·simp only[dlt hi,cond_true,AN hi,bs,wi' hi (by omega)]
 ·simp only[Bn,cond_false]
theorem wide_eq (xs:LI)(h:Sh xs):D.z xs=some xs:=by
 unfold Sh at h
 unfold D.z
 rw[makeD_zero (by omega) (by omega),bs]
 refine(DL xs (λs i=>(s,i)) (λx=>x) h (λs i hi _=> ?_) (λs=> ?_)).trans (by simp)
 ·simp only[dlt hi,cond_true,AN hi,bs,wi' hi (by omega)]
 ·simp only[Bn,cond_false]
theorem least_eq {s:Int}(h:VS s)(h0:s≠0):∃k:Nat,k<32∧D.j0 s=some (k:Int)∧has s k=true∧(∀v,v<k→has s v=false)∧
  (∀v,has (iand .u32 s (IntKind.u32.wrap (s-1))) v=(has s v&& !decide (v=k))):=by
 obtain⟨k,h1,h2,h3,h4,h5⟩:=least_spec h h0
 refine⟨k,h1,?_,h2,h3,h5⟩
 unfold D.j0 D.k1
 have e:(s==0)=false:=by simpa using h0
 simp only[e,cond_false,h4,tz_table k h1,bs]
 rw[w64 (by omega) (by omega)]
theorem CR (s:Int)(h:VS s):D.h s=some (Aw s):=by
 unfold D.h
 have key:∀(n:Nat) (x:Int) (l:LI),VS x→(Aw x).length=n→l.length+n≤32→
   Ay (σ:=Int×LI) (ρ:=(LI)) (fun(s_52:Int×LI)=>match s_52 with|(x_55,l_56)=>cond (x_55 !=0) ((D.j0 x_55).bind λy_88=>(AY l_56 ([y_88]:LI)).bind λl_99=>some (.inl ((iand .u32 x_55 (IntKind.u32.wrap (x_55-1))),l_99))) (some (.inr l_56))) (x,l)=some (l++Aw x):=by
  intro n
  induction n with
  |zero=>
   intro x l hx hn _
   have e:Aw x=[]:=List.eq_nil_of_length_eq_zero hn
   have e0:x=0:=hx.eq_zero.2 λv hv=>by
    cases hc:has x v
    ·rfl
    ·have:=mem_elems.2 ⟨v,hv,hc,rfl⟩;rw[e] at this;simp at this
   rw[e]
   refine BJ ?_
   have:(x !=0)=false:=by simp[e0]
   simp only[this,cond_false,List.append_nil]
  |succ n ih=>
   intro x l hx hn hl
   have h0:x≠0:=by rintro rfl;rw[Et] at hn;simp at hn
   obtain⟨k,h1,h2,h3,h4,h5⟩:=least_eq hx h0
   have e:=elems_least h1 h3 h4 h5
   have en:(Aw (iand .u32 x (IntKind.u32.wrap (x-1)))).length=n:=by rw[e] at hn;simpa using hn
   have hstep:=ih (iand .u32 x (IntKind.u32.wrap (x-1))) (l++[(k:Int)]) (VS.iand _ _) en (by simp;omega)
   have e1:(x !=0)=true:=by simpa using h0
   rw[Cc (s':=(iand .u32 x (IntKind.u32.wrap (x-1)),l++[(k:Int)]))]
   ·rw[hstep,e];simp
   ·simp only[e1,cond_true,h2,bs,Br (xs:=l) (ys:=[(k:Int)]) (by simp;omega)]
 have:=key (Aw s).length s [] h rfl (by simpa using BX s)
 rw[this];simp
theorem elems_sh (s:Int):Sh (Aw s):=by have:=BX s;unfold Sh;omega
theorem numbers_eq (s:Int)(h:VS s):D.g0 s=some (Aw s):=by
 unfold D.g0
 rw[CR s h,bs,wide_eq _ (elems_sh s)];rfl
theorem EK (xs:LI)(h:Sh xs):D.g xs=some xs:=by
 unfold Sh at h
 unfold D.g
 rw[Br (by simpa using h)];rfl
def into (xs:LI)(n:Int):LI:=if n∈xs then xs else xs.takeWhile (λx=>decide (x<n))++n::xs.dropWhile (λx=>decide (x<n))
theorem mem_into {xs:LI}{n x:Int}:x∈into xs n↔x=n∨x∈xs:=by
 unfold into
 split
 ·constructor
  ·intro h;exact .inr h
  ·rintro(rfl|h)
   ·assumption
   ·exact h
 ·have e:x∈xs↔x∈xs.takeWhile (λx=>decide (x<n))++xs.dropWhile (λx=>decide (x<n)):=by rw[List.takeWhile_append_dropWhile]
  rw[e];simp only[List.mem_append,List.mem_cons]
  constructor
  ·rintro(h|h|h)<;>simp[h]
  ·rintro(h|h|h)<;>simp[h]
theorem EA {xs:LI}{n:Int}(h:Inc xs):∀y∈xs.dropWhile (λx=>decide (x<n)),n≤y:=by
 induction xs with
 |nil=>simp
 |cons x xs ih=>
  have h':=List.pairwise_cons.1 h
  intro y hy
  rw[List.dropWhile_cons] at hy
  split at hy
  ·exact ih h'.2 y hy
  ·rename_i hc
   simp at hc
   rcases List.mem_cons.1 hy with rfl|hy
   ·exact hc
   ·have:=h'.1 y hy;omega
theorem inc_takeWhile {xs:LI}{n:Int}:∀y∈xs.takeWhile (λx=>decide (x<n)),y<n:=by
 intro y hy
 induction xs with
 |nil=>simp at hy
 |cons x xs ih=>
  rw[List.takeWhile_cons] at hy
  split at hy
  ·rename_i hc
   rcases List.mem_cons.1 hy with rfl|hy
   ·simpa using hc
   ·exact ih hy
  ·simp at hy
theorem Inc.into {xs:LI}(h:Inc xs)(n:Int):Inc (into xs n):=by
 unfold Sx.into
 split
 ·exact h
 ·rename_i hn
  unfold Inc
  rw[List.pairwise_append]
  refine⟨List.Pairwise.sublist (List.takeWhile_sublist _) h,List.pairwise_cons.2 ⟨λy hy=> ?_,List.Pairwise.sublist (List.dropWhile_sublist _) h⟩,λa ha b hb=> ?_⟩
  ·have h1:=EA h y hy
   have h2:y≠n:=λe=>hn (e▸(List.dropWhile_sublist _).mem hy)
   omega
  ·have h1:=inc_takeWhile a ha
   rcases List.mem_cons.1 hb with rfl|hb
   ·exact h1
   ·have:=EA h b hb;omega
theorem CZ {α:Type}(p:α→Bool):∀(xs:List α),xs.takeWhile p=xs.take (xs.takeWhile p).length∧xs.dropWhile p=xs.drop (xs.takeWhile p).length
 |[]=>by simp
 |x::xs=>by
  rw[List.takeWhile_cons,List.dropWhile_cons]
  cases p x
  ·simp
  ·have:=CZ p xs
   simp only[if_true,List.length_cons,List.take_succ_cons,List.drop_succ_cons,←this.1,←this.2,and_self]
theorem C5 {α:Type}(p:α→Bool):∀(xs:List α) (i:Nat) (h:i<(xs.takeWhile p).length) (h':i<xs.length),p xs[i]=true
 |x::xs,i,h,h'=>by
  rw[List.takeWhile_cons] at h
  cases hp:p x
  ·rw[hp] at h;simp at h
  ·rw[hp] at h
   cases i with
   |zero=>simpa using hp
   |succ i=>simp only[if_true,List.length_cons] at h;simpa using C5 p xs i (by omega) (by simpa using h')
theorem Dn {α:Type}(p:α→Bool):∀(xs:List α) (h:(xs.takeWhile p).length<xs.length),p (xs[(xs.takeWhile p).length])=false
 |x::xs,h=>by
  cases hp:p x
  ·simp[List.takeWhile_cons,hp]
  ·have h2:(xs.takeWhile p).length<xs.length:=by simpa [List.takeWhile_cons,hp] using h
   simpa [List.takeWhile_cons,hp] using Dn p xs h2
theorem Fd {α:Type}(p:α→Bool)(xs:List α):(xs.takeWhile p).length≤xs.length:=(List.takeWhile_sublist _).length_le
theorem l1Into_eq (xs:LI)(n:Int)(h:Inc xs)(hl:xs.length≤4294967295):D.k xs n=some (into xs n):=by
 unfold D.k
 generalize hk:(xs.takeWhile (λx=>decide (x<n))).length=k
 have hkl:k≤xs.length:=by rw[←hk];exact Fd _ _
 have htk:xs.takeWhile (λx=>decide (x<n))=xs.take k:=by rw[←hk];exact(CZ _ xs).1
 have hdk:xs.dropWhile (λx=>decide (x<n))=xs.drop k:=by rw[←hk];exact(CZ _ xs).2
 refine(B7 (λi=>((i:Nat):Int)) k (k:Int) rfl (λi hi=> ?_) ?_).trans ?_
 ·have hi':i<xs.length:=by omega
  have hp:decide (xs[i]<n)=true:=C5 (λx=>decide (x<n)) xs i (by omega) hi'
  simp only[dlt hi',cond_true,AN hi',bs,hp,wq i]
 ·by_cases hlt:k<xs.length
  ·have hp:decide (xs[k]<n)=false:=by
    have:=Dn (λx=>decide (x<n)) xs (by omega)
    simp only[hk] at this;exact this
   simp only[dlt hlt,cond_true,AN hlt,bs,hp,cond_false]
  ·obtain rfl:k=xs.length:=by omega
   simp only[Bn,cond_false,bs]
 ·have hS1:Sh (xs.take k):=by unfold Sh;rw[List.length_take];omega
  have hrest:((BD xs 0 (k:Int)).bind λl_135=>(D.g l_135).bind λy_139=>(AY y_139 ([n]:LI)).bind λl_154=>(BD xs (k:Int) (xs.length:Int)).bind λl_160=>(AY l_154 l_160).bind λl_164=>some l_164)=some (xs.take k++n::xs.drop k):=by
   simp only[CX hkl,E9 hkl,bs,EK _ hS1]
   rw[Br (by simp;omega),bs,Br (by simp;omega),bs]
   simp
  by_cases hlt:k<xs.length
  ·simp only[dlt hlt,cond_true,AN hlt,bs]
   by_cases he:xs[k]=n
   ·have hm:n∈xs:=by rw[←he];exact List.getElem_mem _
    have:(xs[k]==n)=true:=by simp[he]
    simp only[this,cond_true]
    unfold into;rw[if_pos hm]
   ·have:(xs[k]==n)=false:=by simpa using he
    simp only[this,cond_false,hrest]
    unfold into
    rw[htk,hdk,if_neg]
    intro hm
    obtain⟨j,hj,e⟩:=List.getElem_of_mem hm
    have hst:decide (xs[k]<n)=false:=by
     have:=Dn (λx=>decide (x<n)) xs (by omega)
     simp only[hk] at this;exact this
    simp at hst
    rcases Nat.lt_trichotomy j k with h1|h1|h1
    ·have:=C5 (λx=>decide (x<n)) xs j (by omega) hj
     simp at this;omega
    ·subst h1;exact he e
    ·have:=(List.pairwise_iff_getElem.1 h) k j hlt hj h1
     omega
  ·obtain rfl:k=xs.length:=by omega
   simp only[Bn,cond_false,bs,hrest]
   unfold into
   rw[htk,hdk,if_neg]
   intro hm
   obtain⟨j,hj,e⟩:=List.getElem_of_mem hm
   have:=C5 (λx=>decide (x<n)) xs j (by omega) hj
   simp at this;omega
theorem Inc.short {s:LI}{n:Nat}(h:Inc s)(hr:∀x∈s,0≤x∧x<n):s.length≤n:=by
 rcases SetOf.len h hr with e|e
 ·subst e;simp
 ·omega
end Go.Sx



namespace Go.Sx
structure DK (b:LI)(i:Int):Prop where
 byte:∀x∈b,0≤x∧x≤255
 len:b.length≤4096
 i0:0≤i
 i1:i≤b.length
theorem tmod_rng {x n:Int}(hx:0≤x)(hn:0<n):0≤Int.tmod x n∧Int.tmod x n<n:=
 ⟨Int.tmod_nonneg _ hx,Int.tmod_lt_of_pos _ hn⟩
theorem row_set {g:LL}{u v:Nat}{r:LI}(hu:u<g.length):row (g.set u r) v=if v=u then r else row g v:=by
 unfold row
 by_cases h:v=u
 ·subst h;simp[hu]
 ·rw[if_neg h,List.getD_eq_getElem?_getD,List.getElem?_set_ne (λe=>h e.symm),←List.getD_eq_getElem?_getD]
theorem DU {g:LL}(hg:GOk g){u v:Nat}(hu:u<g.length)(hv:v<g.length)(huv:u≠v):
  ∃g',D.i g (u:Int) (v:Int)=some g'∧GOk g'∧g'.length=g.length∧∀a b,adj g' a b↔adj g a b∨(a=u∧b=v)∨(a=v∧b=u):=by
 have h16:=hg.n16
 have hru:=hg.rows u hu;have hrv:=hg.rows v hv
 have hlu:=hg.row_len hu;have hlv:=hg.row_len hv
 refine⟨(g.set u (into (row g u) v)).set v (into (row g v) u),?_,?_⟩
 ·unfold D.i
  have e1:row (g.set u (into (row g u) v)) v=row g v:=by rw[row_set hu,if_neg (Ne.symm huv)]
  simp only[BW hu,bs,l1Into_eq _ _ hru.1 (show (row g u).length≤4294967295 by omega),Int.toNat_natCast]
  rw[BW (show v<(g.set u (into (row g u) v)).length by simpa using hv),e1]
  simp only[bs,l1Into_eq _ _ hrv.1 (show (row g v).length≤4294967295 by omega)]
 ·have hrow:∀w,row ((g.set u (into (row g u) v)).set v (into (row g v) u)) w=if w=v then into (row g v) u else if w=u then into (row g u) v else row g w:=by
   intro w
   rw[row_set (by simpa using hv),row_set hu]
  have hadj:∀a b,adj ((g.set u (into (row g u) v)).set v (into (row g v) u)) a b↔adj g a b∨(a=u∧b=v)∨(a=v∧b=u):=by
   intro a b
   unfold adj
   rw[hrow]
   by_cases ha:a=v
   ·subst ha
    rw[if_pos rfl,mem_into]
    constructor
    ·rintro(h|h)
     ·exact .inr (.inr ⟨rfl,by omega⟩)
     ·exact .inl h
    ·rintro(h|⟨h,_⟩|⟨_,h⟩)
     ·exact .inr h
     ·exact absurd h.symm huv
     ·exact .inl (by omega)
   ·rw[if_neg ha]
    by_cases ha':a=u
    ·subst ha'
     rw[if_pos rfl,mem_into]
     constructor
     ·rintro(h|h)
      ·exact .inr (.inl ⟨rfl,by omega⟩)
      ·exact .inl h
     ·rintro(h|⟨_,h⟩|⟨h,_⟩)
      ·exact .inr h
      ·exact .inl (by omega)
      ·exact absurd h ha
    ·rw[if_neg ha']
     constructor
     ·exact .inl
     ·rintro(h|⟨h,_⟩|⟨h,_⟩)
      ·exact h
      ·exact absurd h ha'
      ·exact absurd h ha
  refine⟨⟨by simpa using hg.n1,by simpa using h16,λw hw=> ?_,λw hw=> ?_,λa b ha hab=> ?_⟩,by simp,hadj⟩
  ·simp only[List.length_set] at hw ⊢
   rw[hrow]
   split
   ·refine⟨hrv.1.into _,λx hx=> ?_⟩
    rcases mem_into.1 hx with rfl|hx
    ·omega
    ·exact hrv.2 x hx
   ·split
    ·refine⟨hru.1.into _,λx hx=> ?_⟩
     rcases mem_into.1 hx with rfl|hx
     ·omega
     ·exact hru.2 x hx
    ·exact hg.rows w hw
  ·simp only[List.length_set] at hw
   rw[hadj]
   rintro(h|⟨h1,h2⟩|⟨h1,h2⟩)
   ·exact hg.irr w hw h
   ·omega
   ·omega
  ·simp only[List.length_set] at ha
   rw[hadj] at hab ⊢
   rcases hab with h|h|h
   ·exact .inl (hg.sym a b ha h)
   ·exact .inr (.inr ⟨h.2,h.1⟩)
   ·exact .inr (.inl ⟨h.2,h.1⟩)
theorem GOk.empty {n:Nat}(h1:1≤n)(h16:n≤16):GOk (List.replicate n []):=by
 have hr:∀v,row (List.replicate n []) v=[]:=λv=>by
  unfold row
  rw[List.getD_eq_getElem?_getD,List.getElem?_replicate];split<;>rfl
 refine⟨by simpa using h1,by simpa using h16,λv _=> ?_,λv _=> ?_,λu v _ h=> ?_⟩
 ·rw[hr];exact⟨by simp[Inc],by simp⟩
 ·unfold adj;rw[hr];simp
 ·unfold adj at h;rw[hr] at h;simp at h
end Go.Sx



namespace Go.Sx
theorem ext_getD {a b:LI}(hl:a.length=b.length)(h:∀j,j<a.length→a.getD j 0=b.getD j 0):a=b:=by
 apply List.ext_getElem hl
 intro j h1 h2
 have:=h j h1
 rwa [AX h1,AX h2] at this
theorem C8 (l:LI)(i j:Nat)(x:Int)(hi:i<l.length):(l.set i x).getD j 0=if j=i then x else l.getD j 0:=by
 simp only[List.getD_eq_getElem?_getD,List.getElem?_set]
 by_cases h:j=i
 ·subst h;simp[hi]
 ·rw[if_neg (λe=>h e.symm),if_neg h]
end Go.Sx
