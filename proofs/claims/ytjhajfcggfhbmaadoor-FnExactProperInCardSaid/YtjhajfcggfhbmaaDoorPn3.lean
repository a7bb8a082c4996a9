/- Parts. -/
import Derived.Test.YtjhajfcggfhbmaaDoorPn2
import Derived.Test.YtjhajfcggfhbmaaDoorProg
import Derived.KernelRfl
set_option linter.unusedVariables false
set_option linter.unusedSimpArgs false
set_option maxRecDepth 100000
namespace Go.Proofs.YtjhajfcggfhbmaaDoor
open Go Go.Sx
open Go.Proofs.Tryd Go.Proofs.YtjhajfcggfhbmaaDoor.Tryd IntKind
variable {W w : World} {G : GH} {H : List Itm}
theorem T56 :SlT prog 56 75 1 4 (.int .u32 0):=⟨underlying56,Tryd.t75,by kernel_rfl,by kernel_rfl,by kernel_rfl,by kernel_rfl⟩
theorem AS :BN prog 75:=isAgg75
theorem Wk.i0 {aa:Value}{ab:LL}(m:Mem W G w (H))(ac:R2 G aa ab){y:(LL)}(hd:D.i0 ab=some y):
  Calls prog 104 #[(.agg #[aa])] w (Res W G H (λG' Ho v=>∃r0:Value,∃i0:Itm,Ho=[i0]∧r0=v∧Ow R1 49 G' i0 r0 y)):=by
 refine Ar (args:=[(.agg #[aa])]) (N:=14) [.tmp 2] func104 Z Z (lb Z) Z λa f=> ?_
 unfold D.i0 at hd
 refine Ad ?_
 refine Bw (cs:=[aa]) m f Z Z Z λad w a m f=>Ac f Z λa f=>Aa (Af (Ad ?_))
 refine A3 0 0 (ds:=[aa]) m Bv f Z Z Z Z Z λa f=> ?_
 have⟨ae,af,hd⟩:=bind_some hd
 refine A4 f Z call26 (Wk.o m ac af) λag w ah m a f=> ?_
 have ac:=rd2 ah ac
 refine l_o f (Bc (f.e Z)) λa f=>Aa ?_
 rcases Ae hd with⟨ai,hd⟩|⟨ai,hd⟩
 ·refine Ak f Z ai ?_
  refine Ad ?_
  refine AO (R:=R1) (xs:=([]:LL)) (RSl.one _) m T22 f Z Z Z (by decide) (All2.nil _) λaj ak w a m al f=>Ac f Z λa f=>Aa ?_
  refine Ap ?_
  have m:=m.eraseAt 1
  obtain rfl:=sj hd
  exact⟨[ak],f.g Z,f.d,_,[aj],ah,m,_,_,Z,Z,al⟩
 ·refine Ai f Z ai ?_
  refine Al ?_
  refine Af ?_
  have⟨am,an,hd⟩:=bind_some hd
  refine AB (λa w=>∃ao:LL,ao=am∧∃(ap:GH) (aq:Value) (ar:Itm),GLe ag ap∧Fr a 14 [(2,aq)]∧Mem W ap w (ar::H)∧Ow R1 49 ap ar aq ao) ?_ ?_
  ·refine A8 8 AF (by kernel_rfl) m ?_
   refine Cf (i:=0) (ds:=[aa]) 8 0 Bv Z Z Z Z (by kernel_rfl) Z f Z Z Z λa f=>Cf (i:=2) (ds:=[aa]) 8 0 Bv Z Z Z Z (by kernel_rfl) Z f Z Z Z λa f=> ?_
   have⟨au,av,an⟩:=bind_some an
   refine Ck (i:=3) 8 Z (by kernel_rfl) Z f Z Z Z call53 (λ_ _ w aw m=>Wk.d m (rd2 aw ac) av) λa f=>q_three (i:=1) (j:=4) (k:=5) (l1:= #[true,true,true,true,false,false,false,false]) (l2:= #[true,false,true,true,true,false,false,false]) (l3:= #[true,false,true,true,false,true,false,false]) Z Z Z (by kernel_rfl) Z Z Z ?_ ?_ ?_
   ·intro ax w ay m az az
    have ac:=rd2 ay ac
    refine AO (R:=R0) (xs:=([]:LI)) (RI.one _) m T49 f Z Z Z (by decide) (All2.nil _) λaA aB w a m aC f=>Aa ?_
    refine az ax [aA] _ _ gr m ?_
    refine q_two (i:=4) (j:=5) (l1:= #[true,true,true,true,true,false,false,false]) (l2:= #[true,true,true,true,false,true,false,false]) Z Z (by kernel_rfl) Z Z ?_ ?_
    ·intro aD w aE m aF aF
     have ac:=rd2 aE ac
     have aC:=od1 aE aC
     have⟨aG,aH,an⟩:=bind_some an
     refine AE f Z call124 (Wk.x m aH) λaI aJ aK w aL m aM a f=> ?_
     obtain⟨aN,aO,rfl,rfl,aP⟩:=aM
     have ac:=rd2 aL ac
     have aC:=od1 aL aC
     refine Aa ?_
     refine aF aJ [aO,aA] _ _ aL m ?_
     refine BD 5 Z λaQ w aR m aS aS=> ?_
     have ac:=rd2 aR ac
     have aP:=od1 aR aP
     have aC:=od1 aR aC
     refine AO (R:=R0) (xs:=([]:LI)) (RI.one _) m T49 f Z Z Z (by decide) (All2.nil _) λaT aU w a m aV f=>Aa ?_
     refine aS aQ [aT,aO,aA] _ _ gr m ?_
     refine BD 6 Z λaW w aX m aY aY=> ?_
     have ac:=rd2 aX ac
     have aV:=od1 aX aV
     have aP:=od1 aX aP
     have aC:=od1 aX aC
     have m:=m.fr 2
     obtain⟨aZ,a0,m,a1⟩:=Ow.stamp (RI.mono _) aC m
     have ac:=rd2 a0 ac
     have aV:=od1 a0 aV
     have aP:=od1 a0 aP
     have m:=m.fr 1
     obtain⟨a2,a3,m,a4⟩:=Ow.stamp (RI.mono _) aP m
     have ac:=rd2 a3 ac
     have a1:=rd1 a3 a1
     have aV:=od1 a3 aV
     obtain⟨a5,a6,m,a7⟩:=Ow.stamp (RI.mono _) aV m
     have ac:=rd2 a6 ac
     have a1:=rd1 a6 a1
     have a4:=rd1 a6 a4
     have⟨a8,a9,an⟩:=bind_some an
     refine AE f Z call123 (Wk.i m ac a1 a4 a7 a9) λba bb bc w bd m be a f=> ?_
     obtain⟨bf,bg,rfl,rfl,bh⟩:=be
     refine Aa ?_
     refine aY bb [bg] _ _ (gt a0 (gt a3 (gt a6 bd))) m ?_
     refine q_p 7 8 Z f (λ_=>BY (f.e Z)) λa f=>AP λbi w bj m=> ?_
     have bh:=Ow.mono (RSl.mono (RI.mono _)) bj bh
     refine Aa ?_
     have m:=m.eraseAt 1
     obtain rfl:=sj an
     exact⟨_,Z,_,bf,bg,(gt ay (gt aE (gt aL (gt aR (gt aX (gt a0 (gt a3 (gt a6 (gt bd bj))))))))),f.k Z,m,bh⟩
    ·intro aQ w aR m aS aS
     have⟨aG,aH,an⟩:=bind_some an
     have⟨a8,a9,an⟩:=bind_some an
     have ac:=rd2 aR ac
     have aC:=od1 aR aC
     refine AO (R:=R0) (xs:=([]:LI)) (RI.one _) m T49 f Z Z Z (by decide) (All2.nil _) λaT aU w a m aV f=>Aa ?_
     refine aS aQ [aT,aA] _ _ gr m ?_
     refine BD 4 Z λaD w aE m aF aF=> ?_
     have ac:=rd2 aE ac
     have aV:=od1 aE aV
     have aC:=od1 aE aC
     refine AE f Z call124 (Wk.x m aH) λaI aJ aK w aL m aM a f=> ?_
     obtain⟨aN,aO,rfl,rfl,aP⟩:=aM
     have ac:=rd2 aL ac
     have aV:=od1 aL aV
     have aC:=od1 aL aC
     refine Aa ?_
     refine aF aJ [aO,aT,aA] _ _ aL m ?_
     refine BD 6 Z λaW w aX m aY aY=> ?_
     have ac:=rd2 aX ac
     have aP:=od1 aX aP
     have aV:=od1 aX aV
     have aC:=od1 aX aC
     have m:=m.fr 2
     obtain⟨aZ,a0,m,a1⟩:=Ow.stamp (RI.mono _) aC m
     have ac:=rd2 a0 ac
     have aP:=od1 a0 aP
     have aV:=od1 a0 aV
     obtain⟨a2,a3,m,a4⟩:=Ow.stamp (RI.mono _) aP m
     have ac:=rd2 a3 ac
     have a1:=rd1 a3 a1
     have aV:=od1 a3 aV
     obtain⟨a5,a6,m,a7⟩:=Ow.stamp (RI.mono _) aV m
     have ac:=rd2 a6 ac
     have a1:=rd1 a6 a1
     have a4:=rd1 a6 a4
     refine AE f Z call123 (Wk.i m ac a1 a4 a7 a9) λba bb bc w bd m be a f=> ?_
     obtain⟨bf,bg,rfl,rfl,bh⟩:=be
     refine Aa ?_
     refine aY bb [bg] _ _ (gt a0 (gt a3 (gt a6 bd))) m ?_
     refine q_p 7 8 Z f (λ_=>BY (f.e Z)) λa f=>AP λbi w bj m=> ?_
     have bh:=Ow.mono (RSl.mono (RI.mono _)) bj bh
     refine Aa ?_
     have m:=m.eraseAt 1
     obtain rfl:=sj an
     exact⟨_,Z,_,bf,bg,(gt ay (gt aR (gt aE (gt aL (gt aX (gt a0 (gt a3 (gt a6 (gt bd bj))))))))),f.k Z,m,bh⟩
   ·intro aD w aE m aF aF
    have⟨aG,aH,an⟩:=bind_some an
    have⟨a8,a9,an⟩:=bind_some an
    have ac:=rd2 aE ac
    refine AE f Z call124 (Wk.x m aH) λaI aJ aK w aL m aM a f=> ?_
    obtain⟨aN,aO,rfl,rfl,aP⟩:=aM
    have ac:=rd2 aL ac
    refine Aa ?_
    refine aF aJ [aO] _ _ aL m ?_
    refine q_two (i:=1) (j:=5) (l1:= #[true,true,true,true,true,false,false,false]) (l2:= #[true,false,true,true,true,true,false,false]) Z Z (by kernel_rfl) Z Z ?_ ?_
    ·intro ax w ay m az az
     have ac:=rd2 ay ac
     have aP:=od1 ay aP
     refine AO (R:=R0) (xs:=([]:LI)) (RI.one _) m T49 f Z Z Z (by decide) (All2.nil _) λaA aB w a m aC f=>Aa ?_
     refine az ax [aA,aO] _ _ gr m ?_
     refine BD 5 Z λaQ w aR m aS aS=> ?_
     have ac:=rd2 aR ac
     have aC:=od1 aR aC
     have aP:=od1 aR aP
     refine AO (R:=R0) (xs:=([]:LI)) (RI.one _) m T49 f Z Z Z (by decide) (All2.nil _) λaT aU w a m aV f=>Aa ?_
     refine aS aQ [aT,aA,aO] _ _ gr m ?_
     refine BD 6 Z λaW w aX m aY aY=> ?_
     have ac:=rd2 aX ac
     have aV:=od1 aX aV
     have aC:=od1 aX aC
     have aP:=od1 aX aP
     have m:=m.fr 1
     obtain⟨aZ,a0,m,a1⟩:=Ow.stamp (RI.mono _) aC m
     have ac:=rd2 a0 ac
     have aV:=od1 a0 aV
     have aP:=od1 a0 aP
     have m:=m.fr 1
     obtain⟨a2,a3,m,a4⟩:=Ow.stamp (RI.mono _) aP m
     have ac:=rd2 a3 ac
     have a1:=rd1 a3 a1
     have aV:=od1 a3 aV
     obtain⟨a5,a6,m,a7⟩:=Ow.stamp (RI.mono _) aV m
     have ac:=rd2 a6 ac
     have a1:=rd1 a6 a1
     have a4:=rd1 a6 a4
     refine AE f Z call123 (Wk.i m ac a1 a4 a7 a9) λba bb bc w bd m be a f=> ?_
     obtain⟨bf,bg,rfl,rfl,bh⟩:=be
     refine Aa ?_
     refine aY bb [bg] _ _ (gt a0 (gt a3 (gt a6 bd))) m ?_
     refine q_p 7 8 Z f (λ_=>BY (f.e Z)) λa f=>AP λbi w bj m=> ?_
     have bh:=Ow.mono (RSl.mono (RI.mono _)) bj bh
     refine Aa ?_
     have m:=m.eraseAt 1
     obtain rfl:=sj an
     exact⟨_,Z,_,bf,bg,(gt aE (gt aL (gt ay (gt aR (gt aX (gt a0 (gt a3 (gt a6 (gt bd bj))))))))),f.k Z,m,bh⟩
    ·intro aQ w aR m aS aS
     have ac:=rd2 aR ac
     have aP:=od1 aR aP
     refine AO (R:=R0) (xs:=([]:LI)) (RI.one _) m T49 f Z Z Z (by decide) (All2.nil _) λaT aU w a m aV f=>Aa ?_
     refine aS aQ [aT,aO] _ _ gr m ?_
     refine BD 1 Z λax w ay m az az=> ?_
     have ac:=rd2 ay ac
     have aV:=od1 ay aV
     have aP:=od1 ay aP
     refine AO (R:=R0) (xs:=([]:LI)) (RI.one _) m T49 f Z Z Z (by decide) (All2.nil _) λaA aB w a m aC f=>Aa ?_
     refine az ax [aA,aT,aO] _ _ gr m ?_
     refine BD 6 Z λaW w aX m aY aY=> ?_
     have ac:=rd2 aX ac
     have aC:=od1 aX aC
     have aV:=od1 aX aV
     have aP:=od1 aX aP
     obtain⟨aZ,a0,m,a1⟩:=Ow.stamp (RI.mono _) aC m
     have ac:=rd2 a0 ac
     have aV:=od1 a0 aV
     have aP:=od1 a0 aP
     have m:=m.fr 1
     obtain⟨a2,a3,m,a4⟩:=Ow.stamp (RI.mono _) aP m
     have ac:=rd2 a3 ac
     have a1:=rd1 a3 a1
     have aV:=od1 a3 aV
     obtain⟨a5,a6,m,a7⟩:=Ow.stamp (RI.mono _) aV m
     have ac:=rd2 a6 ac
     have a1:=rd1 a6 a1
     have a4:=rd1 a6 a4
     refine AE f Z call123 (Wk.i m ac a1 a4 a7 a9) λba bb bc w bd m be a f=> ?_
     obtain⟨bf,bg,rfl,rfl,bh⟩:=be
     refine Aa ?_
     refine aY bb [bg] _ _ (gt a0 (gt a3 (gt a6 bd))) m ?_
     refine q_p 7 8 Z f (λ_=>BY (f.e Z)) λa f=>AP λbi w bj m=> ?_
     have bh:=Ow.mono (RSl.mono (RI.mono _)) bj bh
     refine Aa ?_
     have m:=m.eraseAt 1
     obtain rfl:=sj an
     exact⟨_,Z,_,bf,bg,(gt aE (gt aL (gt aR (gt ay (gt aX (gt a0 (gt a3 (gt a6 (gt bd bj))))))))),f.k Z,m,bh⟩
   ·intro aQ w aR m aS aS
    have⟨aG,aH,an⟩:=bind_some an
    have⟨a8,a9,an⟩:=bind_some an
    have ac:=rd2 aR ac
    refine AO (R:=R0) (xs:=([]:LI)) (RI.one _) m T49 f Z Z Z (by decide) (All2.nil _) λaT aU w a m aV f=>Aa ?_
    refine aS aQ [aT] _ _ gr m ?_
    refine q_two (i:=1) (j:=4) (l1:= #[true,true,true,true,false,true,false,false]) (l2:= #[true,false,true,true,true,true,false,false]) Z Z (by kernel_rfl) Z Z ?_ ?_
    ·intro ax w ay m az az
     have ac:=rd2 ay ac
     have aV:=od1 ay aV
     refine AO (R:=R0) (xs:=([]:LI)) (RI.one _) m T49 f Z Z Z (by decide) (All2.nil _) λaA aB w a m aC f=>Aa ?_
     refine az ax [aA,aT] _ _ gr m ?_
     refine BD 4 Z λaD w aE m aF aF=> ?_
     have ac:=rd2 aE ac
     have aC:=od1 aE aC
     have aV:=od1 aE aV
     refine AE f Z call124 (Wk.x m aH) λaI aJ aK w aL m aM a f=> ?_
     obtain⟨aN,aO,rfl,rfl,aP⟩:=aM
     have ac:=rd2 aL ac
     have aC:=od1 aL aC
     have aV:=od1 aL aV
     refine Aa ?_
     refine aF aJ [aO,aA,aT] _ _ aL m ?_
     refine BD 6 Z λaW w aX m aY aY=> ?_
     have ac:=rd2 aX ac
     have aP:=od1 aX aP
     have aC:=od1 aX aC
     have aV:=od1 aX aV
     have m:=m.fr 1
     obtain⟨aZ,a0,m,a1⟩:=Ow.stamp (RI.mono _) aC m
     have ac:=rd2 a0 ac
     have aP:=od1 a0 aP
     have aV:=od1 a0 aV
     obtain⟨a2,a3,m,a4⟩:=Ow.stamp (RI.mono _) aP m
     have ac:=rd2 a3 ac
     have a1:=rd1 a3 a1
     have aV:=od1 a3 aV
     obtain⟨a5,a6,m,a7⟩:=Ow.stamp (RI.mono _) aV m
     have ac:=rd2 a6 ac
     have a1:=rd1 a6 a1
     have a4:=rd1 a6 a4
     refine AE f Z call123 (Wk.i m ac a1 a4 a7 a9) λba bb bc w bd m be a f=> ?_
     obtain⟨bf,bg,rfl,rfl,bh⟩:=be
     refine Aa ?_
     refine aY bb [bg] _ _ (gt a0 (gt a3 (gt a6 bd))) m ?_
     refine q_p 7 8 Z f (λ_=>BY (f.e Z)) λa f=>AP λbi w bj m=> ?_
     have bh:=Ow.mono (RSl.mono (RI.mono _)) bj bh
     refine Aa ?_
     have m:=m.eraseAt 1
     obtain rfl:=sj an
     exact⟨_,Z,_,bf,bg,(gt aR (gt ay (gt aE (gt aL (gt aX (gt a0 (gt a3 (gt a6 (gt bd bj))))))))),f.k Z,m,bh⟩
    ·intro aD w aE m aF aF
     have ac:=rd2 aE ac
     have aV:=od1 aE aV
     refine AE f Z call124 (Wk.x m aH) λaI aJ aK w aL m aM a f=> ?_
     obtain⟨aN,aO,rfl,rfl,aP⟩:=aM
     have ac:=rd2 aL ac
     have aV:=od1 aL aV
     refine Aa ?_
     refine aF aJ [aO,aT] _ _ aL m ?_
     refine BD 1 Z λax w ay m az az=> ?_
     have ac:=rd2 ay ac
     have aP:=od1 ay aP
     have aV:=od1 ay aV
     refine AO (R:=R0) (xs:=([]:LI)) (RI.one _) m T49 f Z Z Z (by decide) (All2.nil _) λaA aB w a m aC f=>Aa ?_
     refine az ax [aA,aO,aT] _ _ gr m ?_
     refine BD 6 Z λaW w aX m aY aY=> ?_
     have ac:=rd2 aX ac
     have aC:=od1 aX aC
     have aP:=od1 aX aP
     have aV:=od1 aX aV
     obtain⟨aZ,a0,m,a1⟩:=Ow.stamp (RI.mono _) aC m
     have ac:=rd2 a0 ac
     have aP:=od1 a0 aP
     have aV:=od1 a0 aV
     obtain⟨a2,a3,m,a4⟩:=Ow.stamp (RI.mono _) aP m
     have ac:=rd2 a3 ac
     have a1:=rd1 a3 a1
     have aV:=od1 a3 aV
     obtain⟨a5,a6,m,a7⟩:=Ow.stamp (RI.mono _) aV m
     have ac:=rd2 a6 ac
     have a1:=rd1 a6 a1
     have a4:=rd1 a6 a4
     refine AE f Z call123 (Wk.i m ac a1 a4 a7 a9) λba bb bc w bd m be a f=> ?_
     obtain⟨bf,bg,rfl,rfl,bh⟩:=be
     refine Aa ?_
     refine aY bb [bg] _ _ (gt a0 (gt a3 (gt a6 bd))) m ?_
     refine q_p 7 8 Z f (λ_=>BY (f.e Z)) λa f=>AP λbi w bj m=> ?_
     have bh:=Ow.mono (RSl.mono (RI.mono _)) bj bh
     refine Aa ?_
     have m:=m.eraseAt 1
     obtain rfl:=sj an
     exact⟨_,Z,_,bf,bg,(gt aR (gt aE (gt aL (gt ay (gt aX (gt a0 (gt a3 (gt a6 (gt bd bj))))))))),f.k Z,m,bh⟩
  ·rintro a w ⟨ao,rfl,ap,aq,ar,bk,f,m,bl⟩
   refine Ap ?_
   obtain rfl:=sj hd
   exact⟨[aq],f.g Z,f.d,_,[ar],(gt ah bk),m,_,_,Z,Z,bl⟩
theorem Wk.g {x0:Int}(m:Mem W G w (H)){y:Int}(hd:D.g x0=some y):
  Calls prog 108 #[(iv x0)] w (Res W G H (λ_ Ho v=>Ho=[]∧v=(iv y))):=by
 refine Ar (args:=[(iv x0)]) (N:=6) [.tmp 2] func108 Z Z (lb Z) Z λa f=> ?_
 unfold D.g at hd
 refine Ad ?_
 refine Ac f Z λa f=>Av ?_
 refine Ab f Z λa f=>l_o f (Dc (f.e Z) ⟨_,underlying2⟩ underlying62) λa f=> ?_
 obtain⟨aa,hd⟩:=Dl hd
 refine l_o f (r_shl (f.e Z) (f.e Z) aa) λa f=>Ac f Z λa f=>Aa ?_
 refine Ap ?_
 obtain rfl:=sj hd
 exact⟨[(iv (ishl .i64 1 (IntKind.u64.wrap x0)))],f.g Z,f.d,_,[],gr,m,Z,Z⟩
theorem Wk.v0 {v0:Value}{x0:LL}(m:Mem W G w (H))(h0:R2 G v0 x0){y:(LI)}(hd:D.v0 x0=some y):
  Calls prog 103 #[v0] w (Res W G H (λG' Ho v=>∃r0:Value,∃i0:Itm,Ho=[i0]∧r0=v∧Ow R0 2 G' i0 r0 y)):=by
 refine Ar (args:=[v0]) (N:=38) [.tmp 2] func103 Z Z (lb Z) Z λa f=> ?_
 unfold D.v0 at hd
 refine Ad ?_
 refine Ac f Z λa f=>Av ?_
 refine AO (R:=R0) (xs:=([]:LI)) (RI.one _) m T49 f Z Z Z (by decide) (All2.nil _) λaa ab w a m ac f=>Ac f Z λa f=>Aa (Af (Ad ?_))
 refine Ac f Z λa f=>Aa ?_
 have⟨ad,ae,hd⟩:=bind_some hd
 refine AB (λa w=>∃af:LI,af=ad∧∃(ag:GH) (ah:Value) (ai:Itm),GLe G ag∧Fr a 38 [(3,ah)]∧Mem W ag w (ai::H)∧Ow R0 2 ag ai ah af) ?_ ?_
 ·refine Aj ?_
  refine Ay (λaj a w=>∃ak:LI,∃al:Int,(ak,al)=aj∧∃(am:GH) (an:Value) (ao:Itm),GLe G am∧Fr a 38 [(0,v0),(3,an),(4,(iv al))]∧Mem W am w (ao::H)∧Ow R0 2 am ao an ak) ae ⟨_,_,Z,_,ab,aa,gr,f.k Z,m,ac⟩ ?_
  clear ae f m
  rintro aj ap aq ar a w ⟨ak,al,rfl,am,an,ao,au,f,m,av⟩
  have h0:=rd2 au h0
  refine Af (Ad ?_)
  refine Ab f Z λa f=>Ab f Z λa f=>AT underlying22 f Z Z h0 λa f=>Ah f Z Z AD λa f=>Aa ?_
  rcases Ae aq with⟨aw,aq⟩|⟨aw,aq⟩
  ·refine Ak f Z aw ?_
   refine Al ?_
   refine Af (Aj (Ad ?_))
   refine Ac f Z λa f=>Aa (Af (Ad ?_))
   refine Ac f Z λa f=>Aa ?_
   have⟨ax,ay,aq⟩:=bind_some aq
   refine AB (λa w=>∃az:Int,az=ax∧∃(aA:GH),GLe am aA∧Fr a 38 [(0,v0),(3,an),(4,(iv al)),(5,(iv az))]∧Mem W aA w (ao::H)) ?_ ?_
   ·refine Aj ?_
    refine Ay (λaB a w=>∃aC:Int,∃aD:Int,(aC,aD)=aB∧∃(aE:GH),GLe am aE∧Fr a 38 [(0,v0),(3,an),(4,(iv al)),(5,(iv aC)),(6,(iv aD))]∧Mem W aE w (ao::H)) ay ⟨_,_,Z,_,gr,f.k Z,m⟩ ?_
    clear ay f m
    rintro aB aF aG aH a w ⟨aC,aD,rfl,aE,aI,f,m⟩
    have h0:=rd2 aI h0
    refine Af (Ad ?_)
    refine Ab f Z λa f=>Ab f Z λa f=>Ab f Z λa f=> ?_
    have⟨aJ,aK,aG⟩:=bind_some aG
    refine Bk T22 f Z Z Z h0 aK λaL aM a aN aO f=>AG m BW f Z Z aN λa f=>AT underlying49 f Z Z aO λa f=>Ah f Z Z AD λa f=>Aa ?_
    rcases Ae aG with⟨aP,aG⟩|⟨aP,aG⟩
    ·refine Ak f Z aP ?_
     refine Al ?_
     refine Af (Aj (An ?_))
     refine Ab f Z λa f=>Ab f Z λa f=>Ab f Z λa f=> ?_
     have⟨aQ,aR,aG⟩:=bind_some aG
     refine Bk T22 f Z Z Z h0 aR λaS aT a aU aV f=>AG m BW f Z Z aU λa f=>Ab f Z λa f=> ?_
     have⟨aW,aX,aG⟩:=bind_some aG
     refine Bk T49 f Z Z Z aV aX λaY aZ a a0 a1 f=> ?_
     subst a1
     refine AG m Pl2 f Z Z a0 λa f=> ?_
     have⟨a2,a3,aG⟩:=bind_some aG
     refine A4 f Z call108 (Wk.g m a3) λa4 w a5 m a f=>Ah f Z Z Au λa f=>Ac f Z λa f=>Aa (An ?_)
     refine Ab f Z λa f=>Ah f Z Z Au λa f=>Ac f Z λa f=>Aa ?_
     obtain rfl:=sj aG
     exact⟨_,Z,_,_,Z,_,(gt aI a5),f.k Z,m⟩
    ·refine Ai f Z aP ?_
     refine Ax Z ?_
     obtain rfl:=sj aG
     obtain rfl:=aH _ rfl
     exact⟨_,Z,_,aI,f.k Z,m⟩
   ·rintro a w ⟨az,rfl,aA,a6,f,m⟩
    have av:=od1 a6 av
    refine An ?_
    refine Ab f Z λa f=>Ab f Z λa f=>AO (R:=R0) (xs:=([az]:LI)) (RI.one _) m T49 f Z Z Z (by decide) (All2.cons Z (All2.nil _)) λa7 a8 w a m a9 f=> ?_
    have⟨ba,bb,aq⟩:=bind_some aq
    refine Bj (RI.one _) 1 m av Z T49 Z (by decide) f Z Z Z (Ow.src (j:=0) a9 m Z) bb λbc bd w a m be f=>Ac f Z λa f=>Aa (An ?_)
    refine Ab f Z λa f=>Ah f Z Z Au λa f=>Ac f Z λa f=>Aa ?_
    have m:=m.fr 1
    have m:=m.eraseAt 1
    obtain rfl:=sj aq
    exact⟨_,Z,_,_,Z,_,bd,bc,(gt au a6),f.k Z,m,be⟩
  ·refine Ai f Z aw ?_
   refine Ax Z ?_
   obtain rfl:=sj aq
   obtain rfl:=ar _ rfl
   exact⟨_,Z,_,an,ao,au,f.k Z,m,av⟩
 ·rintro a w ⟨af,rfl,ag,ah,ai,bf,f,m,bg⟩
  refine Ad ?_
  refine Ab f Z λa f=>Ac f Z λa f=>Aa ?_
  refine Ap ?_
  obtain rfl:=sj hd
  exact⟨[ah],f.g Z,f.d,_,[ai],bf,m,_,_,Z,Z,bg⟩
theorem Wk.t0 {v0:Value}{x0:LI}(m:Mem W G w (H))(h0:R1 G v0 x0){y:(LI)}(hd:D.t0 x0=some y):
  Calls prog 105 #[v0] w (Res W G H (λG' Ho v=>∃r0:Value,∃i0:Itm,Ho=[i0]∧r0=v∧Ow R0 2 G' i0 r0 y)):=by
 refine Ar (args:=[v0]) (N:=34) [.tmp 2] func105 Z Z (lb Z) Z λa f=> ?_
 unfold D.t0 at hd
 refine Ad ?_
 refine Ac f Z λa f=>Av ?_
 refine AO (R:=R0) (xs:=([0]:LI)) (RI.one _) m T49 f Z Z Z (by decide) (All2.cons Z (All2.nil _)) λaa ab w a m ac f=>Ac f Z λa f=>Aa (Af (Ad ?_))
 refine Ac f Z λa f=>Aa ?_
 have⟨ad,ae,hd⟩:=bind_some hd
 refine AB (λa w=>∃af:LI,af=ad∧∃(ag:GH) (ah:Value) (ai:Itm),GLe G ag∧Fr a 34 [(3,ah)]∧Mem W ag w (ai::H)∧Ow R0 2 ag ai ah af) ?_ ?_
 ·refine Aj ?_
  refine Ay (λaj a w=>∃ak:LI,∃al:Int,(ak,al)=aj∧∃(am:GH) (an:Value) (ao:Itm),GLe G am∧Fr a 34 [(0,v0),(3,an),(4,(iv al))]∧Mem W am w (ao::H)∧Ow R0 2 am ao an ak) ae ⟨_,_,Z,_,ab,aa,gr,f.k Z,m,ac⟩ ?_
  clear ae f m
  rintro aj ap aq ar a w ⟨ak,al,rfl,am,an,ao,au,f,m,av⟩
  have h0:=rd1 au h0
  refine Af (Ad ?_)
  refine Ab f Z λa f=>Ab f Z λa f=>AT underlying49 f Z Z h0 λa f=>Ah f Z Z AD λa f=>Aa ?_
  rcases Ae aq with⟨aw,aq⟩|⟨aw,aq⟩
  ·refine Ak f Z aw ?_
   refine Al ?_
   refine Af (Aj (Ad ?_))
   refine Ab f Z λa f=>B2 0 m av Z underlying49 f Z Z λa f=>Ac f Z λa f=>Av ?_
   refine Ac f Z λa f=>Aa ?_
   have⟨ax,ay,aq⟩:=bind_some aq
   refine AB (λa w=>∃az:LI,az=ax∧∃(aA:GH) (aB:Value) (aC:Itm),GLe am aA∧Fr a 34 [(0,v0),(3,aB),(4,(iv al))]∧Mem W aA w (aC::H)∧Ow R0 2 aA aC aB az) ?_ ?_
   ·refine Aj ?_
    refine Ay (λaD a w=>∃aE:LI,∃aF:Int,(aE,aF)=aD∧∃(aG:GH) (aH:Value) (aI:Itm),GLe am aG∧Fr a 34 [(0,v0),(3,aH),(4,(iv al)),(5,(iv (ak.length:Int))),(6,(iv aF))]∧Mem W aG w (aI::H)∧Ow R0 2 aG aI aH aE) ay ⟨_,_,Z,_,an,ao,gr,f.k Z,m,av⟩ ?_
    clear ay f m
    rintro aD aJ aK aL a w ⟨aE,aF,rfl,aG,aH,aI,aM,f,m,aN⟩
    have h0:=rd1 aM h0
    refine Af (Ad ?_)
    refine Ab f Z λa f=>Ab f Z λa f=>Ah f Z Z AD λa f=>Aa ?_
    rcases Ae aK with⟨aO,aK⟩|⟨aO,aK⟩
    ·refine Ak f Z aO ?_
     refine Al ?_
     refine Af (Aj ?_)
     refine A8 11 AF (by kernel_rfl) m ?_
     refine Ag 0 11 Z f Z λa f=>Ag 1 11 Z f Z λa f=>Ag 2 11 Z f Z λa f=> ?_
     have⟨aP,aQ,aK⟩:=bind_some aK
     refine AL 3 11 0 m aN T49 aQ Z f Z Z λaR a aS f=>A1 4 11 0 aN Pl2 aS aQ Z f Z λaT a aU f=> ?_
     subst aU
     refine Ag 5 11 Z f Z λa f=>Ag 6 11 Z f Z λa f=> ?_
     have⟨aV,aW,aK⟩:=bind_some aK
     refine Bx 7 11 T49 h0 aW Z f Z Z λaX aY a aZ a0 f=> ?_
     subst a0
     refine By 8 11 Pl2 aZ Z f Z λa f=>q_p 9 11 Z f (λ_=>AA (f.e Z) (f.e Z) b_or) λa f=>BD 10 Z λa1 w a2 m a3 a3=> ?_
     have aN:=od1 a2 aN
     refine AO (R:=R0) (xs:=([(ior .i64 aP aV)]:LI)) (RI.one _) m T49 f Z Z Z (by decide) (All2.cons Z (All2.nil _)) λa4 a5 w a m a6 f=>Aa ?_
     refine a3 a1 [a4] _ _ gr m ?_
     refine AP λa7 w a8 m=> ?_
     have a6:=od1 a8 a6
     have aN:=od1 a8 aN
     have⟨a9,ba,aK⟩:=bind_some aK
     refine Bj (RI.one _) 1 m aN Z T49 Z (by decide) f Z Z Z (Ow.src (j:=0) a6 m Z) ba λbb bc w a m bd f=>Ac f Z λa f=>Aa (An ?_)
     refine Ab f Z λa f=>Ah f Z Z Au λa f=>Ac f Z λa f=>Aa ?_
     have m:=m.fr 1
     have m:=m.eraseAt 1
     obtain rfl:=sj aK
     exact⟨_,Z,_,_,Z,_,bc,bb,(gt aM (gt a2 a8)),f.k Z,m,bd⟩
    ·refine Ai f Z aO ?_
     refine Ax Z ?_
     obtain rfl:=sj aK
     obtain rfl:=aL _ rfl
     exact⟨_,Z,_,aH,aI,aM,f.k Z,m,aN⟩
   ·rintro a w ⟨az,rfl,aA,aB,aC,be,f,m,bf⟩
    refine An ?_
    refine Ab f Z λa f=>Ah f Z Z Au λa f=>Ac f Z λa f=>Aa ?_
    obtain rfl:=sj aq
    exact⟨_,Z,_,_,Z,_,aB,aC,(gt au be),f.k Z,m,bf⟩
  ·refine Ai f Z aw ?_
   refine Ax Z ?_
   obtain rfl:=sj aq
   obtain rfl:=ar _ rfl
   exact⟨_,Z,_,an,ao,au,f.k Z,m,av⟩
 ·rintro a w ⟨af,rfl,ag,ah,ai,bg,f,m,bh⟩
  refine Ad ?_
  refine Ab f Z λa f=>Ac f Z λa f=>Aa ?_
  refine Ap ?_
  obtain rfl:=sj hd
  exact⟨[ah],f.g Z,f.d,_,[ai],bg,m,_,_,Z,Z,bh⟩
theorem Wk.s {v0 v1:Value}{x0 x1:LI}{x2 x3:Int}(m:Mem W G w (H))(h0:R1 G v0 x0)(h1:R1 G v1 x1){y:Bool}(hd:D.s x0 x1 x2 x3=some y):
  Calls prog 107 #[v0,v1,(iv x2),(iv x3)] w (Res W G H (λ_ Ho v=>Ho=[]∧v=(.bool y))):=by
 refine Ar (args:=[v0,v1,(iv x2),(iv x3)]) (N:=38) [.tmp 8] func107 Z Z (lb Z) Z λa f=> ?_
 unfold D.s at hd
 refine Ad ?_
 refine Ac f Z λa f=>Aa (Af ?_)
 refine A8 14 AF (by kernel_rfl) m ?_
 refine Ag 0 14 Z f Z λa f=>Ag 1 14 Z f Z λa f=> ?_
 have⟨aa,ab,hd⟩:=bind_some hd
 refine Bx 2 14 T49 h1 ab Z f Z Z λac ad a ae af f=> ?_
 subst af
 refine By 3 14 Pl2 ae Z f Z λa f=>Ag 4 14 Z f Z λa f=>Ag 5 14 Z f Z λa f=>q_len (i:=6) 14 underlying49 h1 Z (by kernel_rfl) Z f Z Z Z λa f=>q_p 7 14 Z f (λ_=>AA (f.e Z) (f.e Z) AI) λa f=>Ag 8 14 Z f Z λa f=>q_p 9 14 Z f (λ_=>AA (f.e Z) (f.e Z) AI) λa f=> ?_
 have⟨ag,ah,hd⟩:=bind_some hd
 refine Bx 10 14 T49 h1 ah Z f Z Z λai aj a ak al f=> ?_
 subst al
 refine By 11 14 Pl2 ak Z f Z λa f=>q_p 12 14 Z f (λ_=>AA (f.e Z) (f.e Z) Cx) λa f=>q_p 13 14 Z f (λ_=>BY (f.e Z)) λa f=>AP λam w an m=> ?_
 have h0:=rd1 an h0
 refine Av ?_
 refine Ab f Z λa f=>Ab f Z λa f=> ?_
 have⟨ao,ap,hd⟩:=bind_some hd
 refine A4 f Z call108 (Wk.g m ap) λaq w ar m a f=> ?_
 have h0:=rd1 ar h0
 refine Ah f Z Z Cx λa f=>Ah f Z Z BC λa f=>Ab f Z λa f=> ?_
 have⟨au,av,hd⟩:=bind_some hd
 refine B4 9 (λa w=>∃aw,GLe aq aw∧Mem W aw w (H)∧Fr a 38 [(0,v0),(1,v1),(2,(iv x2)),(3,(iv x3)),(9,(iv (iand .i64 aa ag))),(23,(iv x2)),(24,(iv x3)),(25,(iv ao)),(26,(iv (iand .i64 x2 ao))),(27,(.bool ((iand .i64 x2 ao)==0))),(28,(.bool ((iand .i64 x2 ao)==0))),(37,(.bool au))]) ?_ ?_
 ·rcases Ae av with⟨ax,av⟩|⟨ax,av⟩
  ·refine AJ f ax ?_
   refine Ab f Z λa f=>AJ f ax ?_
   refine Ab f Z λa f=>AJ f ax ?_
   refine Ab f Z λa f=>AJ f ax ?_
   have⟨ay,az,av⟩:=bind_some av
   refine Bk T49 f Z Z Z h0 az λaA aB a aC aD f=> ?_
   subst aD
   refine AJ f ax ?_
   refine AG m Pl2 f Z Z aC λa f=>AJ f ax ?_
   refine Ah f Z Z Cx λa f=>AJ f ax ?_
   refine Ab f Z λa f=>AJ f ax ?_
   refine Ah f Z Z BC λa f=>l_o f (AV (f.e Z) ax (f.e Z)) λa f=> ?_
   obtain rfl:=sj av
   exact⟨_,gr,m,f.k Z⟩
  ·refine AN f ax λa f=> ?_
   refine AN f ax λa f=>AN f ax λa f=>AN f ax λa f=>AN f ax λa f=>AN f ax λa f=>AN f ax λa f=>AN f ax λa f=>l_o f (AZ (f.e Z) ax (f.e Z)) λa f=> ?_
   obtain rfl:=sj av
   exact⟨_,gr,m,f.k Z⟩
 ·rintro a w ⟨aw,aE,m,f⟩
  refine Ac f Z λa f=>Aa ?_
  refine Ap ?_
  obtain rfl:=sj hd
  exact⟨[(.bool au)],f.g Z,f.d,_,[],(gt an (gt ar aE)),m,Z,Z⟩
theorem Wk.l0 {v0 v1:Value}{x0 x1:LI}(m:Mem W G w (H))(h0:R1 G v0 x0)(h1:R1 G v1 x1){y:((List Bool))}(hd:D.l0 x0 x1=some y):
  Calls prog 106 #[v0,v1] w (Res W G H (λG' Ho v=>∃r0:Value,∃i0:Itm,Ho=[i0]∧r0=v∧Ow RB 4 G' i0 r0 y)):=by
 refine Ar (args:=[v0,v1]) (N:=57) [.tmp 4] func106 Z Z (lb Z) Z λa f=> ?_
 unfold D.l0 at hd
 refine Ad ?_
 refine Ac f Z λa f=>Av ?_
 refine Ab f Z λa f=>AT underlying49 f Z Z h0 λa f=>Ac f Z λa f=>Av ?_
 refine Ab f Z λa f=>AT underlying49 f Z Z h1 λa f=>Ah f Z Z AI λa f=>Ac f Z λa f=>Av ?_
 refine Ab f Z λa f=>Ah f Z Z Au λa f=> ?_
 have⟨aa,ab,hd⟩:=bind_some hd
 refine l_make (R:=RB) m T118 Z (by decide) Z f Z Z Z ab λac ad w a m ae f=>Ac f Z λa f=>Av ?_
 refine Ab f Z λa f=>Ab f Z λa f=> ?_
 have⟨af,ag,hd⟩:=bind_some hd
 refine A2 0 m ae Z T118 f Z Z Z ag λah a ai f=>Az 0 m ae Z sizeOf4 f Z Z ai ag Z Z Z λaj w m ak=>Aa (Af (Ad ?_))
 refine Ab f Z λa f=>Ah f Z Z AI λa f=>Ac f Z λa f=>Aa ?_
 have⟨al,am,hd⟩:=bind_some hd
 refine AB (λa w=>∃an:List Bool,an=al∧∃(ao:GH) (ap:Itm),GLe G ao∧Fr a 57 [(7,ad)]∧Mem W ao w (ap::H)∧Ow RB 4 ao ap ad an) ?_ ?_
 ·refine Aj ?_
  refine Ay (λaq a w=>∃ar:List Bool,∃au:Int,(ar,au)=aq∧∃(av:GH) (aw:Itm),GLe G av∧Fr a 57 [(0,v0),(1,v1),(5,(iv (x0.length:Int))),(7,ad),(8,(iv au))]∧Mem W av w (aw::H)∧Ow RB 4 av aw ad ar) am ⟨_,_,Z,_,aj,gr,f.k Z,m,ak⟩ ?_
  clear am f m
  rintro aq ax ay az a w ⟨ar,au,rfl,av,aw,aA,f,m,aB⟩
  have h0:=rd1 aA h0
  have h1:=rd1 aA h1
  refine Af (Ad ?_)
  refine Ab f Z λa f=>Ah f Z Z B3 λa f=>Aa ?_
  rcases Ae ay with⟨aC,ay⟩|⟨aC,ay⟩
  ·refine Ak f Z aC ?_
   refine Al ?_
   refine Af (Aj (Ad ?_))
   refine Ac f Z λa f=>Aa ?_
   have⟨aD,aE,ay⟩:=bind_some ay
   refine AB (λa w=>∃aF:List Bool,aF=aD∧∃(aG:GH) (aH:Itm),GLe av aG∧Fr a 57 [(0,v0),(1,v1),(5,(iv (x0.length:Int))),(7,ad),(8,(iv au))]∧Mem W aG w (aH::H)∧Ow RB 4 aG aH ad aF) ?_ ?_
   ·refine Aj ?_
    refine Ay (λaI a w=>∃aJ:List Bool,∃aK:Int,(aJ,aK)=aI∧∃(aL:GH) (aM:Itm),GLe av aL∧Fr a 57 [(0,v0),(1,v1),(5,(iv (x0.length:Int))),(7,ad),(8,(iv au)),(9,(iv aK))]∧Mem W aL w (aM::H)∧Ow RB 4 aL aM ad aJ) aE ⟨_,_,Z,_,aw,gr,f.k Z,m,aB⟩ ?_
    clear aE f m
    rintro aI aN aO aP a w ⟨aJ,aK,rfl,aL,aM,aQ,f,m,aR⟩
    have h0:=rd1 aQ h0
    have h1:=rd1 aQ h1
    refine Af (Ad ?_)
    refine Ab f Z λa f=>Ab f Z λa f=>Ah f Z Z AD λa f=>Ab f Z λa f=> ?_
    have⟨aS,aT,aO⟩:=bind_some aO
    refine B4 6 (λa w=>∃aU,GLe aL aU∧Mem W aU w (aM::H)∧Fr a 57 [(0,v0),(1,v1),(5,(iv (x0.length:Int))),(7,ad),(8,(iv au)),(9,(iv aK)),(27,(iv aK)),(28,(iv (x0.length:Int))),(29,(.bool (decide (aK<(x0.length:Int))))),(30,(.bool (decide (aK<(x0.length:Int))))),(36,(.bool aS))]) ?_ ?_
    ·rcases Ae aT with⟨aV,aT⟩|⟨aV,aT⟩
     ·refine AJ f aV ?_
      refine Ab f Z λa f=>AJ f aV ?_
      refine Ab f Z λa f=>AJ f aV ?_
      have⟨aW,aX,aT⟩:=bind_some aT
      refine A2 0 m aR Z T118 f Z Z Z aX λaY a aZ f=>AJ f aV ?_
      refine Ce 0 m aR Z Pl4 f Z Z aZ aX λa0 a a1 f=> ?_
      subst a1
      refine AJ f aV ?_
      refine l_o f (Bc (f.e Z)) λa f=>l_o f (AV (f.e Z) aV (f.e Z)) λa f=> ?_
      obtain rfl:=sj aT
      exact⟨_,gr,m,f.k Z⟩
     ·refine AN f aV λa f=> ?_
      refine AN f aV λa f=>AN f aV λa f=>AN f aV λa f=>AN f aV λa f=>l_o f (AZ (f.e Z) aV (f.e Z)) λa f=> ?_
      obtain rfl:=sj aT
      exact⟨_,gr,m,f.k Z⟩
    ·rintro a w ⟨aU,a2,m,f⟩
     have h0:=rd1 a2 h0
     have h1:=rd1 a2 h1
     have aR:=Ow.mono RB.mono a2 aR
     refine Aa ?_
     rcases Ae aO with⟨a3,aO⟩|⟨a3,aO⟩
     ·refine Ak f Z a3 ?_
      refine Al ?_
      refine Af (Aj (An ?_))
      refine Ab f Z λa f=>Ab f Z λa f=>Ab f Z λa f=>Ab f Z λa f=>Ab f Z λa f=>Ab f Z λa f=> ?_
      have⟨a4,a5,aO⟩:=bind_some aO
      refine A4 f Z call107 (Wk.s m h0 h1 a5) λa6 w a7 m a f=> ?_
      have aR:=Ow.mono RB.mono a7 aR
      refine Ab f Z λa f=> ?_
      have⟨a8,a9,aO⟩:=bind_some aO
      refine B4 8 (λa w=>∃ba,GLe a6 ba∧Mem W ba w (aM::H)∧Fr a 57 [(0,v0),(1,v1),(5,(iv (x0.length:Int))),(7,ad),(8,(iv au)),(9,(iv aK)),(36,(.bool aS)),(39,ad),(40,(iv au)),(41,v0),(42,v1),(43,(iv au)),(44,(iv aK)),(45,(.bool a4)),(46,(.bool a4)),(54,(.bool a8))]) ?_ ?_
      ·rcases Ae a9 with⟨bb,a9⟩|⟨bb,a9⟩
       ·refine AJ f bb ?_
        refine Ab f Z λa f=>AJ f bb ?_
        refine Ab f Z λa f=>AJ f bb ?_
        refine Ab f Z λa f=>AJ f bb ?_
        have⟨bc,bd,a9⟩:=bind_some a9
        refine A4 f Z call108 (Wk.g m bd) λbe w bf m a f=> ?_
        have aR:=Ow.mono RB.mono bf aR
        refine AJ f bb ?_
        refine Ah f Z Z Au λa f=>AJ f bb ?_
        have⟨bg,bh,a9⟩:=bind_some a9
        refine A2 0 m aR Z T118 f Z Z Z bh λbi a bj f=>AJ f bb ?_
        refine Ce 0 m aR Z Pl4 f Z Z bj bh λbk a bl f=> ?_
        subst bl
        refine l_o f (AV (f.e Z) bb (f.e Z)) λa f=> ?_
        obtain rfl:=sj a9
        exact⟨_,bf,m,f.k Z⟩
       ·refine AN f bb λa f=> ?_
        refine AN f bb λa f=>AN f bb λa f=>AN f bb λa f=>AN f bb λa f=>AN f bb λa f=>AN f bb λa f=>l_o f (AZ (f.e Z) bb (f.e Z)) λa f=> ?_
        obtain rfl:=sj a9
        exact⟨_,gr,m,f.k Z⟩
      ·rintro a w ⟨ba,bm,m,f⟩
       have aR:=Ow.mono RB.mono bm aR
       have⟨bn,bo,aO⟩:=bind_some aO
       refine A2 0 m aR Z T118 f Z Z Z bo λbp a bq f=>Az 0 m aR Z sizeOf4 f Z Z bq bo Z Z Z λbr w m bs=>Aa (An ?_)
       refine Ab f Z λa f=>Ah f Z Z Au λa f=>Ac f Z λa f=>Aa ?_
       obtain rfl:=sj aO
       exact⟨_,Z,_,_,Z,_,br,(gt aQ (gt a2 (gt a7 bm))),f.k Z,m,bs⟩
     ·refine Ai f Z a3 ?_
      refine Ax Z ?_
      obtain rfl:=sj aO
      obtain rfl:=aP _ rfl
      exact⟨_,Z,_,aM,(gt aQ a2),f.k Z,m,aR⟩
   ·rintro a w ⟨aF,rfl,aG,aH,bt,f,m,bu⟩
    refine An ?_
    refine Ab f Z λa f=>Ah f Z Z AI λa f=>Ac f Z λa f=>Aa ?_
    obtain rfl:=sj ay
    exact⟨_,Z,_,_,Z,_,aH,(gt aA bt),f.k Z,m,bu⟩
  ·refine Ai f Z aC ?_
   refine Ax Z ?_
   obtain rfl:=sj ay
   obtain rfl:=az _ rfl
   exact⟨_,Z,_,aw,aA,f.k Z,m,aB⟩
 ·rintro a w ⟨an,rfl,ao,ap,bv,f,m,bw⟩
  refine Ad ?_
  refine Ab f Z λa f=>Ac f Z λa f=>Aa ?_
  refine Ap ?_
  obtain rfl:=sj hd
  exact⟨[ad],f.g Z,f.d,_,[ap],bv,m,_,_,Z,Z,bw⟩
theorem Wk.g0 {aa:Value}{ab:LL}(m:Mem W G w (H))(ac:R2 G aa ab){y:(LI)×Bool}(hd:D.g0 ab=some y):
  Calls prog 87 #[(.agg #[aa])] w (Res W G H (λG' Ho v=>∃r0:Value,∃i0:Itm,Ho=[i0]∧v= .tuple #[r0,(.bool y.2)]∧Ow R0 2 G' i0 r0 y.1)):=by
 refine Ar (args:=[(.agg #[aa])]) (N:=67) [.tmp 2,.tmp 3] func87 Z Z (lb Z) Z λa f=> ?_
 unfold D.g0 at hd
 refine Ad ?_
 refine Bw (cs:=[aa]) m f Z Z Z λad w a m f=>Ac f Z λa f=>Ac f Z λa f=>Aa (Af (Ad ?_))
 refine A3 0 0 (ds:=[aa]) m Bv f Z Z Z Z Z λa f=> ?_
 have⟨ae,af,hd⟩:=bind_some hd
 refine A4 f Z call26 (Wk.o m ac af) λag w ah m a f=> ?_
 have ac:=rd2 ah ac
 refine l_o f (Bc (f.e Z)) λa f=>Ab f Z λa f=> ?_
 have⟨ai,aj,hd⟩:=bind_some hd
 refine B4 4 (λa w=>∃ak,GLe ag ak∧Mem W ak w (ib ad 27 [aa]::H)∧Fr a 67 [(0,(.agg #[aa])),(1,(pb ad)),(10,(.agg #[aa])),(11,(.bool ae)),(12,(.bool (!ae))),(13,(.bool (!ae))),(17,(.bool ai))]) ?_ ?_
 ·rcases Ae aj with⟨al,aj⟩|⟨al,aj⟩
  ·refine AN f al λa f=> ?_
   refine AN f al λa f=>AN f al λa f=>l_o f (AV (f.e Z) al (f.e Z)) λa f=> ?_
   obtain rfl:=sj aj
   exact⟨_,gr,m,f.k Z⟩
  ·refine AJ f al ?_
   refine A3 0 0 (ds:=[aa]) m Bv f Z Z Z Z Z λa f=>AJ f al ?_
   have⟨am,an,aj⟩:=bind_some aj
   refine A4 f Z call102 (Wk.q m ac an) λao w ap m a f=>AJ f al ?_
   refine l_o f (Bc (f.e Z)) λa f=>l_o f (AZ (f.e Z) al (f.e Z)) λa f=> ?_
   obtain rfl:=sj aj
   exact⟨_,ap,m,f.k Z⟩
 ·rintro a w ⟨ak,aq,m,f⟩
  have ac:=rd2 aq ac
  refine Aa ?_
  rcases Ae hd with⟨ar,hd⟩|⟨ar,hd⟩
  ·refine Ak f Z ar ?_
   refine Ad ?_
   refine AO (R:=R0) (xs:=([]:LI)) (RI.one _) m T49 f Z Z Z (by decide) (All2.nil _) λau av w a m aw f=>Ac f Z λa f=>Ac f Z λa f=>Aa ?_
   refine Ap ?_
   have m:=m.eraseAt 1
   obtain rfl:=sj hd
   exact⟨[av,(.bool false)],⟨f.get _ _ Z,f.get _ _ Z,trivial⟩,f.d,_,[au],(gt ah aq),m,_,_,Z,Z,aw⟩
  ·refine Ai f Z ar ?_
   refine Al ?_
   refine Ad ?_
   refine A3 0 0 (ds:=[aa]) m Bv f Z Z Z Z Z λa f=> ?_
   have⟨ax,ay,hd⟩:=bind_some hd
   refine AE f Z call104 (Wk.i0 m ac ay) λaz aA aB w aC m aD a f=> ?_
   obtain⟨aE,aF,rfl,rfl,aG⟩:=aD
   have⟨aH,aI,hd⟩:=bind_some hd
   refine AE f Z call103 (Ow.lendCall (RSl.mono (RI.mono _)) 0 aG m Z (λaJ aK m aL=>Wk.v0 m aL aI) (λ_ G' _ _ ⟨a0,a1,e1,e2,o0⟩=>⟨a0,a1,e1,e2,Ow.free (RI.free _) G' o0⟩)) λaM aN aO w aP m aQ a f=> ?_
   obtain⟨aR,aS,rfl,rfl,aT⟩:=aQ
   refine Ac f Z λa f=>Av ?_
   refine Ab f Z λa f=> ?_
   have⟨aU,aV,hd⟩:=bind_some hd
   refine AE f Z call105 (Ow.lendCall (RI.mono _) 0 aT m Z (λaW aX m aY=>Wk.t0 m aY aV) (λ_ G' _ _ ⟨a0,a1,e1,e2,o0⟩=>⟨a0,a1,e1,e2,Ow.free (RI.free _) G' o0⟩)) λaZ a2 a3 w a4 m a5 a f=> ?_
   obtain⟨a6,a7,rfl,rfl,a8⟩:=a5
   have aT:=od1 a4 aT
   refine Ac f Z λa f=>Av ?_
   refine Ab f Z λa f=>Ab f Z λa f=> ?_
   have⟨a9,ba,hd⟩:=bind_some hd
   refine AE f Z call106 (Ow.lendCall (RI.mono _) 1 aT m Z (λbb bc m bd=>(Ow.lendCall (RI.mono _) 0 (od1 bc a8) m Z (λbe bf m bg=>Wk.l0 m (rd1 bf bd) bg ba) (λ_ G' _ _ ⟨a0,a1,e1,e2,o0⟩=>⟨a0,a1,e1,e2,Ow.free RB.free G' o0⟩))) (λ_ G' _ _ ⟨a0,a1,e1,e2,o0⟩=>⟨a0,a1,e1,e2,Ow.free RB.free G' o0⟩)) λbh bi bj w bk m bl a f=> ?_
   obtain⟨bm,bn,rfl,rfl,bo⟩:=bl
   have a8:=od1 bk a8
   have aT:=od1 bk aT
   refine Ac f Z λa f=>Aa (Af (Ad ?_))
   refine Ab f Z λa f=> ?_
   have⟨bp,bq,hd⟩:=bind_some hd
   refine A2 0 m bo Z T118 f Z Z Z bq λbr a bs f=>Ce 0 m bo Z Pl4 f Z Z bs bq λbt a bu f=> ?_
   subst bu
   refine l_o f (Bc (f.e Z)) λa f=>Aa ?_
   rcases Ae hd with⟨bv,hd⟩|⟨bv,hd⟩
   ·refine Ak f Z bv ?_
    refine Ad ?_
    refine AO (R:=R0) (xs:=([]:LI)) (RI.one _) m T49 f Z Z Z (by decide) (All2.nil _) λbw bx w a m bz f=>Ac f Z λa f=>Ac f Z λa f=>Aa ?_
    refine Ap ?_
    have m:=m.eraseAt 5
    have m:=m.eraseAt 4
    have m:Mem W bi w (bw::bn::a7::H):=m.eraseAt 3
    have m:=m.eraseAt 2
    have m:=m.eraseAt 1
    obtain rfl:=sj hd
    exact⟨[bx,(.bool false)],⟨f.get _ _ Z,f.get _ _ Z,trivial⟩,f.d,_,[bw],(gt ah (gt aq (gt aC (gt aP (gt a4 bk))))),m,_,_,Z,Z,bz⟩
   ·refine Ai f Z bv ?_
    refine Al ?_
    refine Ad ?_
    refine AO (R:=R0) (xs:=([]:LI)) (RI.one _) m T49 f Z Z Z (by decide) (All2.nil _) λbA bB w a m bC f=>Ac f Z λa f=>Av ?_
    refine Ac f Z λa f=>Aa (Af ?_)
    have⟨bD,bE,hd⟩:=bind_some hd
    refine AB (λa w=>∃bF:LI,bF=bD∧∃(bG:GH) (bH:Value) (bI:Itm),GLe bi bG∧Fr a 67 [(7,bH)]∧Mem W bG w (bI::H)∧Ow R0 2 bG bI bH bF) ?_ ?_
    ·refine Aj ?_
     have m:=m.fr 1
     have m:=m.fr 2
     have m:Mem W bi w (aS::a7::bn::bA::aF::ib ad 27 [aa]::H):=m.fr 3
     have m:=m.eraseAt 5
     have m:=m.eraseAt 4
     refine Ay (λbJ a w=>∃bK:LI,∃bL:Int,(bK,bL)=bJ∧∃(bM:GH) (bN:Value) (bO:Itm),GLe bi bM∧Fr a 67 [(4,aR),(5,a6),(6,bm),(7,bN),(8,(iv bL))]∧Mem W bM w (aS::a7::bn::bO::H)∧Ow R0 2 bM bO bN bK) bE ⟨_,_,Z,_,bB,bA,gr,f.k Z,m,bC⟩ ?_
     clear bE f m
     rintro bJ bP bQ bR a w ⟨bK,bL,rfl,bM,bN,bO,bS,f,m,bT⟩
     have aT:=od1 bS aT
     have a8:=od1 bS a8
     have bo:=Ow.mono RB.mono bS bo
     refine Af (Ad ?_)
     refine Ab f Z λa f=>B2 3 m bT Z underlying49 f Z Z λa f=>Ab f Z λa f=>B2 0 m aT Z underlying49 f Z Z λa f=>Ah f Z Z AD λa f=>Aa ?_
     rcases Ae bQ with⟨bU,bQ⟩|⟨bU,bQ⟩
     ·refine Ak f Z bU ?_
      refine Al ?_
      refine Aj (Ad ?_)
      refine Ac f Z λa f=>Aa ?_
      have⟨bV,bW,bQ⟩:=bind_some bQ
      refine AB (λa w=>∃bX:LI,∃bY:Int,(bX,bY)=bV∧∃(bZ:GH) (b0:Value) (b1:Itm),GLe bM bZ∧Fr a 67 [(4,aR),(5,a6),(6,bm),(7,b0),(8,(iv bY))]∧Mem W bZ w (aS::a7::bn::b1::H)∧Ow R0 2 bZ b1 b0 bX) ?_ ?_
      ·refine Aj ?_
       refine Ay (λb2 a w=>∃b3:Int,b3=b2∧∃(b4:GH),GLe bM b4∧Fr a 67 [(4,aR),(5,a6),(6,bm),(7,bN),(8,(iv bL)),(9,(iv b3))]∧Mem W b4 w (aS::a7::bn::bO::H)) bW ⟨_,Z,_,gr,f.k Z,m⟩ ?_
       clear bW f m
       rintro b2 b5 b6 b7 a w ⟨b3,rfl,b4,b8,f,m⟩
       have aT:=od1 b8 aT
       have a8:=od1 b8 a8
       have bo:=Ow.mono RB.mono b8 bo
       have bT:=od1 b8 bT
       refine Af (Ad ?_)
       refine Ab f Z λa f=>Ab f Z λa f=>B2 0 m aT Z underlying49 f Z Z λa f=>Ah f Z Z AD λa f=>Aa ?_
       rcases Ae b6 with⟨b9,b6⟩|⟨b9,b6⟩
       ·refine Ak f Z b9 ?_
        refine Al ?_
        refine Af (Aj (Ad ?_))
        refine Ab f Z λa f=>Ab f Z λa f=>Ab f Z λa f=>Ab f Z λa f=> ?_
        have⟨ca,cb,b6⟩:=bind_some b6
        refine AE f Z call107 (Ow.lendCall (RI.mono _) 0 aT m Z (λcc cd m ce=>(Ow.lendCall (RI.mono _) 0 (od1 cd a8) m Z (λcf cg m ch=>Wk.s m (rd1 cg ce) ch cb) (λ_ _ _ _ h=>h))) (λ_ _ _ _ h=>h)) λci cj ck w cl m cm a f=> ?_
        obtain⟨rfl,rfl⟩:=cm
        have bo:=Ow.mono RB.mono cl bo
        have bT:=od1 cl bT
        refine Ab f Z λa f=> ?_
        have⟨cn,co,b6⟩:=bind_some b6
        refine B4 8 (λa w=>∃cp,GLe cj cp∧Mem W cp w (aS::a7::bn::bO::H)∧Fr a 67 [(4,aR),(5,a6),(6,bm),(7,bN),(8,(iv bL)),(9,(iv b3)),(41,(.bool (decide (b3<(aH.length:Int))))),(44,aR),(45,a6),(46,(iv bL)),(47,(iv b3)),(48,(.bool ca)),(49,(.bool ca)),(57,(.bool cn))]) ?_ ?_
        ·rcases Ae co with⟨cq,co⟩|⟨cq,co⟩
         ·refine AJ f cq ?_
          refine Ab f Z λa f=>AJ f cq ?_
          refine Ab f Z λa f=>AJ f cq ?_
          refine Ab f Z λa f=>AJ f cq ?_
          have⟨cr,ct,co⟩:=bind_some co
          refine A4 f Z call108 (Wk.g m ct) λcu w cv m a f=> ?_
          have bo:=Ow.mono RB.mono cv bo
          refine AJ f cq ?_
          refine Ah f Z Z Au λa f=>AJ f cq ?_
          have⟨cw,cx,co⟩:=bind_some co
          refine A2 2 m bo Z T118 f Z Z Z cx λcy a cz f=>AJ f cq ?_
          refine Ce 2 m bo Z Pl4 f Z Z cz cx λcA a cB f=> ?_
          subst cB
          refine l_o f (AV (f.e Z) cq (f.e Z)) λa f=> ?_
          obtain rfl:=sj co
          exact⟨_,cv,m,f.k Z⟩
         ·refine AN f cq λa f=> ?_
          refine AN f cq λa f=>AN f cq λa f=>AN f cq λa f=>AN f cq λa f=>AN f cq λa f=>AN f cq λa f=>l_o f (AZ (f.e Z) cq (f.e Z)) λa f=> ?_
          obtain rfl:=sj co
          exact⟨_,gr,m,f.k Z⟩
        ·rintro a w ⟨cp,cC,m,f⟩
         have bT:=od1 cC bT
         refine Aa ?_
         rcases Ae b6 with⟨cD,b6⟩|⟨cD,b6⟩
         ·refine Ak f Z cD ?_
          refine Ad ?_
          refine Ab f Z λa f=>Ab f Z λa f=>AO (R:=R0) (xs:=([b3]:LI)) (RI.one _) m T49 f Z Z Z (by decide) (All2.cons Z (All2.nil _)) λcE cF w a m cG f=> ?_
          have⟨cH,cI,b6⟩:=bind_some b6
          refine Bj (RI.one _) 4 m bT Z T49 Z (by decide) f Z Z Z (Ow.src (j:=0) cG m Z) cI λcJ cK w a m cL f=>Ac f Z λa f=>Av ?_
          refine Ab f Z λa f=>Ab f Z λa f=> ?_
          have⟨cM,cN,b6⟩:=bind_some b6
          refine A4 f Z call108 (Wk.g m cN) λcO w cP m a f=> ?_
          have cL:=od1 cP cL
          refine Ah f Z Z Au λa f=>Ac f Z λa f=>Aa ?_
          refine Ax Z ?_
          have m:=m.fr 4
          have m:=m.fr 4
          have m:Mem W cO w (a7::bn::cJ::cE::aS::H):=m.fr 4
          have m:=m.fr 4
          have m:=m.eraseAt 4
          obtain rfl:=sj b6
          obtain rfl:=b7 _ rfl
          exact⟨_,_,Z,_,cK,cJ,(gt b8 (gt cl (gt cC cP))),f.k Z,m,cL⟩
         ·refine Ai f Z cD ?_
          refine Al ?_
          refine An ?_
          refine Ab f Z λa f=>Ah f Z Z Au λa f=>Ac f Z λa f=>Aa ?_
          obtain rfl:=sj b6
          exact⟨_,Z,_,Z,_,(gt b8 (gt cl cC)),f.k Z,m⟩
       ·refine Ai f Z b9 ?_
        refine Ax Z ?_
        obtain rfl:=sj b6
        obtain rfl:=b7 _ rfl
        exact⟨_,_,Z,_,bN,bO,b8,f.k Z,m,bT⟩
      ·rintro a w ⟨bX,bY,rfl,bZ,b0,b1,cQ,f,m,cR⟩
       obtain rfl:=sj bQ
       exact⟨_,Z,_,_,Z,_,b0,b1,(gt bS cQ),f.k Z,m,cR⟩
     ·refine Ai f Z bU ?_
      refine Ax Z ?_
      have m:=m.fr 3
      have m:=m.eraseAt 3
      have m:Mem W bM w (bO::aS::H):=m.eraseAt 2
      have m:=m.eraseAt 1
      obtain rfl:=sj bQ
      obtain rfl:=bR _ rfl
      exact⟨_,Z,_,bN,bO,bS,f.k Z,m,bT⟩
    ·rintro a w ⟨bF,rfl,bG,bH,bI,cS,f,m,cT⟩
     refine Ad ?_
     refine Ab f Z λa f=>Ac f Z λa f=>Ac f Z λa f=>Aa ?_
     refine Ap ?_
     obtain rfl:=sj hd
     exact⟨[bH,(.bool true)],⟨f.get _ _ Z,f.get _ _ Z,trivial⟩,f.d,_,[bI],(gt ah (gt aq (gt aC (gt aP (gt a4 (gt bk cS)))))),m,_,_,Z,Z,cT⟩
theorem Wk.b0 {aa:Value}{ab:LL}(m:Mem W G w (H))(ac:R2 G aa ab){y:Bool}(hd:D.b0 ab=some y):
  Calls prog 51 #[(.agg #[aa])] w (Res W G H (λ_ Ho v=>Ho=[]∧v=(.bool y))):=by
 refine Ar (args:=[(.agg #[aa])]) (N:=11) [.tmp 2] func51 Z Z (lb Z) Z λa f=> ?_
 unfold D.b0 at hd
 refine Ad ?_
 refine Bw (cs:=[aa]) m f Z Z Z λad w a m f=>Ac f Z λa f=>Av ?_
 refine A3 0 0 (ds:=[aa]) m Bv f Z Z Z Z Z λa f=> ?_
 have⟨ae,af,hd⟩:=bind_some hd
 refine AE f Z call87 (Wk.g0 m ac af) λag ah ai w aj m ak a f=> ?_
 obtain⟨al,am,rfl,rfl,an⟩:=ak
 refine Ab f Z λa f=>l_o f (A7 (f.e Z) Z) λa f=>l_o f (A7 (f.e Z) Z) λa f=>Ac f Z λa f=>Ac f Z λa f=>Av ?_
 refine Ab f Z λa f=>Ac f Z λa f=>Aa ?_
 refine Ap ?_
 have m:Mem W ah w H:=Mem.drop (H':=[am,ib ad 27 [aa]]) m
 obtain rfl:=sj hd
 exact⟨[(.bool ae.2)],f.g Z,f.d,_,[],aj,m,Z,Z⟩
theorem Wk.M {aa:Value}{ab:LL}(m:Mem W G w (H))(ac:R2 G aa ab){y:Bool}(hd:D.M ab=some y):
  Calls prog 24 #[(.agg #[aa])] w (Res W G H (λ_ Ho v=>Ho=[]∧v=(.bool y))):=by
 refine Ar (args:=[(.agg #[aa])]) (N:=16) [.tmp 2] func24 Z Z (lb Z) Z λa f=> ?_
 unfold D.M at hd
 refine Ad ?_
 refine Bw (cs:=[aa]) m f Z Z Z λad w a m f=>Ac f Z λa f=>Av ?_
 refine A3 0 0 (ds:=[aa]) m Bv f Z Z Z Z Z λa f=> ?_
 have⟨ae,af,hd⟩:=bind_some hd
 refine AE f Z call50 (Wk.d0 m ac af) λag ah ai w aj m ak a f=> ?_
 obtain⟨al,am,rfl,rfl,an⟩:=ak
 have ac:=rd2 aj ac
 refine Ab f Z λa f=>l_o f (A7 (f.e Z) Z) λa f=>l_o f (A7 (f.e Z) Z) λa f=>Ac f Z λa f=>Ac f Z λa f=>Av ?_
 refine A3 1 0 (ds:=[aa]) m Bv f Z Z Z Z Z λa f=> ?_
 have⟨ao,ap,hd⟩:=bind_some hd
 refine A4 f Z call51 (Wk.b0 m ac ap) λaq w ar m a f=>Ab f Z λa f=> ?_
 refine B4 3 (λa w=>∃au,GLe aq au∧Mem W au w (am::ib ad 27 [aa]::H)∧Fr a 16 [(0,(.agg #[aa])),(1,(pb ad)),(3,al),(4,(.bool ae.2)),(10,(.agg #[aa])),(11,(.bool ao)),(12,(.bool ao)),(15,(.bool (ao&&(!ae.2))))]) ?_ ?_
 ·rcases Bool.eq_false_or_eq_true ao with av|av
  ·refine AJ f av ?_
   refine Ab f Z λa f=>AJ f av ?_
   refine l_o f (Bc (f.e Z)) λa f=>l_o f (AV (f.e Z) av (f.e Z)) λa f=> ?_
   exact⟨_,gr,m,f.weak ⟨Z,Z,Z,Z,Z,Z,Z,by rw[av];rfl,trivial⟩⟩
  ·refine AN f av λa f=> ?_
   refine AN f av λa f=>l_o f (AZ (f.e Z) av (f.e Z)) λa f=> ?_
   exact⟨_,gr,m,f.weak ⟨Z,Z,Z,Z,Z,Z,Z,by rw[av];rfl,trivial⟩⟩
 ·rintro a w ⟨au,aw,m,f⟩
  refine Ac f Z λa f=>Aa ?_
  refine Ap ?_
  have m:Mem W au w H:=Mem.drop (H':=[am,ib ad 27 [aa]]) m
  obtain rfl:=sj hd
  exact⟨[(.bool (ao&&(!ae.2)))],f.g Z,f.d,_,[],(gt aj (gt ar aw)),m,Z,Z⟩
theorem Wk.O0 {x0 x1 x2:Int}(m:Mem W G w (H)){y:Bool}(hd:D.O0 x0 x1 x2=some y):
  Calls prog 89 #[(iv x0),(iv x1),(iv x2)] w (Res W G H (λ_ Ho v=>Ho=[]∧v=(.bool y))):=by
 refine Ar (args:=[(iv x0),(iv x1),(iv x2)]) (N:=15) [.tmp 6] func89 Z Z (lb Z) Z λa f=> ?_
 unfold D.O0 at hd
 refine Ad ?_
 refine Ac f Z λa f=>Av ?_
 refine Ab f Z λa f=>Ab f Z λa f=>Ah f Z Z Cz λa f=>Ab f Z λa f=> ?_
 refine B4 4 (λa w=>∃aa,GLe G aa∧Mem W aa w (H)∧Fr a 15 [(0,(iv x0)),(1,(iv x1)),(2,(iv x2)),(7,(iv x1)),(8,(iv x0)),(9,(.bool (decide (x1≤x0)))),(10,(.bool (decide (x1≤x0)))),(14,(.bool ((decide (x1≤x0))&&(decide (x0≤x2)))))]) ?_ ?_
 ·rcases Bool.eq_false_or_eq_true (decide (x1≤x0)) with ab|ab
  ·refine AJ f ab ?_
   refine Ab f Z λa f=>AJ f ab ?_
   refine Ab f Z λa f=>AJ f ab ?_
   refine Ah f Z Z Cz λa f=>l_o f (AV (f.e Z) ab (f.e Z)) λa f=> ?_
   exact⟨_,gr,m,f.weak ⟨Z,Z,Z,Z,Z,Z,Z,by rw[ab];rfl,trivial⟩⟩
  ·refine AN f ab λa f=> ?_
   refine AN f ab λa f=>AN f ab λa f=>l_o f (AZ (f.e Z) ab (f.e Z)) λa f=> ?_
   exact⟨_,gr,m,f.weak ⟨Z,Z,Z,Z,Z,Z,Z,by rw[ab];rfl,trivial⟩⟩
 ·rintro a w ⟨aa,ac,m,f⟩
  refine Ac f Z λa f=>Aa ?_
  refine Ap ?_
  obtain rfl:=sj hd
  exact⟨[(.bool ((decide (x1≤x0))&&(decide (x0≤x2))))],f.g Z,f.d,_,[],ac,m,Z,Z⟩
theorem Wk.B0 {v0:Value}{x0:LI}{x1:Int}(m:Mem W G w (H))(h0:R1 G v0 x0){y:Bool}(hd:D.B0 x0 x1=some y):
  Calls prog 64 #[v0,(iv x1)] w (Res W G H (λ_ Ho v=>Ho=[]∧v=(.bool y))):=by
 refine Ar (args:=[v0,(iv x1)]) (N:=33) [.tmp 4] func64 Z Z (lb Z) Z λa f=> ?_
 unfold D.B0 at hd
 refine Ad ?_
 refine Ac f Z λa f=>Aa (Af (Ad ?_))
 refine Ab f Z λa f=>AT underlying49 f Z Z h0 λa f=>Ab f Z λa f=>Aa ?_
 have⟨aa,ab,hd⟩:=bind_some hd
 refine AB (λa w=>∃q_181':Unit,aa= .inl q_181'∧∃(ac:GH),GLe G ac∧Fr a 33 []∧Mem W ac w (H)) ?_ ?_
 ·refine Aj ?_
  refine Ay (λad a w=>∃ae:Int,ae=ad∧∃(af:GH),GLe G af∧Fr a 33 [(0,v0),(1,(iv x1)),(7,v0),(8,(iv (x0.length:Int))),(9,(iv ae))]∧Mem W af w (H)) ab ⟨_,Z,_,gr,f.k Z,m⟩ ?_
  clear ab f m
  rintro ad ag ah ai a w ⟨ae,rfl,af,aj,f,m⟩
  have h0:=rd1 aj h0
  refine Ad ?_
  refine Ah f Z Z AD λa f=>Aa (Af ?_)
  rcases Ae ah with⟨ak,ah⟩|⟨ak,ah⟩
  ·refine Ak f Z ak ?_
   refine Al ?_
   refine Af (Aj (Ad ?_))
   refine Ab f Z λa f=> ?_
   have⟨al,am,ah⟩:=bind_some ah
   refine Bk T49 f Z Z Z h0 am λan ao a ap aq f=> ?_
   subst aq
   refine AG m Pl2 f Z Z ap λa f=>Ac f Z λa f=>Ac f Z λa f=>Av ?_
   refine Ab f Z λa f=>Ab f Z λa f=>Ah f Z Z AI λa f=> ?_
   have⟨ar,au,ah⟩:=bind_some ah
   refine A4 f Z call89 (Wk.O0 m au) λav w aw m a f=> ?_
   have h0:=rd1 aw h0
   refine l_o f (Bc (f.e Z)) λa f=>Ab f Z λa f=> ?_
   have⟨ax,ay,ah⟩:=bind_some ah
   refine B4 12 (λa w=>∃az,GLe av az∧Mem W az w (H)∧Fr a 33 [(0,v0),(1,(iv x1)),(5,(iv ae)),(6,(iv al)),(7,v0),(8,(iv (x0.length:Int))),(9,(iv ae)),(14,(iv al)),(15,(iv x1)),(16,(iv (i64.wrap (x1-1)))),(17,(.bool ar)),(18,(.bool (!ar))),(19,(.bool (!ar))),(31,(.bool ax))]) ?_ ?_
   ·rcases Ae ay with⟨aA,ay⟩|⟨aA,ay⟩
    ·refine AN f aA λa f=> ?_
     refine AN f aA λa f=>AN f aA λa f=>Dk f Z Z Z λa f=>Dk f Z Z Z λa f=>Dk f Z Z Z λa f=>Dk f Z Z Z λa f=>Dk f Z Z Z λa f=>Dk f Z Z Z λa f=>Dk f Z Z Z λa f=>AN f aA λa f=>l_o f (AV (f.e Z) aA (f.e Z)) λa f=> ?_
     obtain rfl:=sj ay
     exact⟨_,gr,m,f.k Z⟩
    ·refine AJ f aA ?_
     refine Ab f Z λa f=>AJ f aA ?_
     refine Ah f Z Z CV λa f=>AJ f aA ?_
     refine Ab f Z λa f=> ?_
     have⟨aB,aC,ay⟩:=bind_some ay
     refine B4 8 (λa w=>∃aD,GLe av aD∧Mem W aD w (H)∧Fr a 33 [(0,v0),(1,(iv x1)),(5,(iv ae)),(6,(iv al)),(7,v0),(8,(iv (x0.length:Int))),(9,(iv ae)),(14,(iv al)),(15,(iv x1)),(16,(iv (i64.wrap (x1-1)))),(17,(.bool ar)),(18,(.bool (!ar))),(19,(.bool (!ar))),(20,(iv ae)),(21,(.bool (decide ((0:Int)<ae)))),(22,(.bool (decide ((0:Int)<ae)))),(30,(.bool aB))]) ?_ ?_
     ·rcases Ae aC with⟨aE,aC⟩|⟨aE,aC⟩
      ·refine AJ f aE ?_
       refine Ab f Z λa f=>AJ f aE ?_
       refine Ab f Z λa f=>AJ f aE ?_
       refine Ah f Z Z AI λa f=>AJ f aE ?_
       have⟨aF,aG,aC⟩:=bind_some aC
       refine Bk T49 f Z Z Z h0 aG λaH aI a aJ aK f=> ?_
       subst aK
       refine AJ f aE ?_
       refine AG m Pl2 f Z Z aJ λa f=>AJ f aE ?_
       refine Ab f Z λa f=>AJ f aE ?_
       refine Ah f Z Z B3 λa f=>AJ f aA ?_
       refine l_o f (AV (f.e Z) aE (f.e Z)) λa f=> ?_
       obtain rfl:=sj aC
       exact⟨_,gr,m,f.k Z⟩
      ·refine AN f aE λa f=> ?_
       refine AN f aE λa f=>AN f aE λa f=>AN f aE λa f=>AN f aE λa f=>AN f aE λa f=>AN f aE λa f=>AJ f aA ?_
       refine l_o f (AZ (f.e Z) aE (f.e Z)) λa f=> ?_
       obtain rfl:=sj aC
       exact⟨_,gr,m,f.k Z⟩
     ·rintro a w ⟨aD,aL,m,f⟩
      refine l_o f (AZ (f.e Z) aA (f.e Z)) λa f=> ?_
      obtain rfl:=sj ay
      exact⟨_,aL,m,f.k Z⟩
   ·rintro a w ⟨az,aM,m,f⟩
    refine Aa ?_
    rcases Ae ah with⟨aN,ah⟩|⟨aN,ah⟩
    ·refine Ak f Z aN ?_
     refine Ad ?_
     refine Ac f Z λa f=>Aa ?_
     refine Ap ?_
     obtain rfl:=sj ah
     obtain rfl:=ai _ rfl
     obtain rfl:=sj hd
     exact⟨[(.bool false)],f.g Z,f.d,_,[],(gt aj (gt aw aM)),m,Z,Z⟩
    ·refine Ai f Z aN ?_
     refine Al ?_
     refine An ?_
     refine Ah f Z Z Au λa f=>Ab f Z λa f=>Aa ?_
     obtain rfl:=sj ah
     exact⟨_,Z,_,Z,_,(gt aj (gt aw aM)),f.k Z,m⟩
  ·refine Ai f Z ak ?_
   refine Ax Z ?_
   obtain rfl:=sj ah
   obtain rfl:=ai _ rfl
   exact⟨_,Z,_,aj,f.weak trivial,m⟩
 ·rintro a w ⟨_,rfl,ac,aO,f,m⟩
  refine Ad ?_
  refine Ac f Z λa f=>Aa ?_
  refine Ap ?_
  obtain rfl:=sj hd
  exact⟨[(.bool true)],f.g Z,f.d,_,[],aO,m,Z,Z⟩
theorem Wk.z {aa:Value}{ab:LL}(m:Mem W G w (H))(ac:R2 G aa ab){y:Bool}(hd:D.z ab=some y):
  Calls prog 30 #[(.agg #[aa])] w (Res W G H (λ_ Ho v=>Ho=[]∧v=(.bool y))):=by
 refine Ar (args:=[(.agg #[aa])]) (N:=61) [.tmp 2] func30 Z Z (lb Z) Z λa f=> ?_
 unfold D.z at hd
 refine Ad ?_
 refine Bw (cs:=[aa]) m f Z Z Z λad w a m f=>Ac f Z λa f=>Av ?_
 refine BX underlying27 Z sizeOf22 f Z λa f=>AK 0 0 m BP f Z Z Z Z λa f=>AT underlying22 f Z Z ac λa f=>Ac f Z λa f=>Aa (Af (Ad ?_))
 refine Ab f Z λa f=>Ah f Z Z AD λa f=>Ab f Z λa f=> ?_
 refine B4 3 (λa w=>∃ae,GLe G ae∧Mem W ae w (ib ad 27 [aa]::H)∧Fr a 61 [(0,(.agg #[aa])),(1,(pb ad)),(3,(iv (ab.length:Int))),(13,(iv (ab.length:Int))),(14,(.bool (decide ((ab.length:Int)<1)))),(15,(.bool (decide ((ab.length:Int)<1)))),(18,(.bool ((decide ((ab.length:Int)<1))||(decide ((16:Int)<(ab.length:Int))))))]) ?_ ?_
 ·rcases Bool.eq_false_or_eq_true (decide ((ab.length:Int)<1)) with af|af
  ·refine AN f af λa f=> ?_
   refine AN f af λa f=>l_o f (AV (f.e Z) af (f.e Z)) λa f=> ?_
   exact⟨_,gr,m,f.weak ⟨Z,Z,Z,Z,Z,Z,by rw[af];rfl,trivial⟩⟩
  ·refine AJ f af ?_
   refine Ab f Z λa f=>AJ f af ?_
   refine Ah f Z Z CV λa f=>l_o f (AZ (f.e Z) af (f.e Z)) λa f=> ?_
   exact⟨_,gr,m,f.weak ⟨Z,Z,Z,Z,Z,Z,by rw[af];rfl,trivial⟩⟩
 ·rintro a w ⟨ae,ag,m,f⟩
  have ac:=rd2 ag ac
  refine Aa ?_
  rcases Ae hd with⟨ah,hd⟩|⟨ah,hd⟩
  ·refine Ak f Z ah ?_
   refine Ad ?_
   refine Ac f Z λa f=>Aa ?_
   refine Ap ?_
   have m:Mem W ae w H:=Mem.drop (H':=[ib ad 27 [aa]]) m
   obtain rfl:=sj hd
   exact⟨[(.bool false)],f.g Z,f.d,_,[],ag,m,Z,Z⟩
  ·refine Ai f Z ah ?_
   refine Al ?_
   refine Af (Ad ?_)
   refine BX underlying27 Z sizeOf22 f Z λa f=>AK 0 0 m BP f Z Z Z Z λa f=>AT underlying22 f Z Z ac λa f=>Ab f Z λa f=>Aa ?_
   have⟨ai,aj,hd⟩:=bind_some hd
   refine AB (λa w=>∃q_91':Unit,ai= .inl q_91'∧∃(ak:GH),GLe ae ak∧Fr a 61 [(1,(pb ad))]∧Mem W ak w (ib ad 27 [aa]::H)) ?_ ?_
   ·refine Aj ?_
    refine Ay (λal a w=>∃am:Int,am=al∧∃(an:GH),GLe ae an∧Fr a 61 [(1,(pb ad)),(3,(iv (ab.length:Int))),(20,aa),(21,(iv (ab.length:Int))),(22,(iv am))]∧Mem W an w (ib ad 27 [aa]::H)) aj ⟨_,Z,_,gr,f.k Z,m⟩ ?_
    clear aj f m
    rintro al ao ap aq a w ⟨am,rfl,an,ar,f,m⟩
    have ac:=rd2 ar ac
    refine Ad ?_
    refine Ah f Z Z AD λa f=>Aa (Af ?_)
    rcases Ae ap with⟨au,ap⟩|⟨au,ap⟩
    ·refine Ak f Z au ?_
     refine Al ?_
     refine Af (Aj (Ad ?_))
     refine Ab f Z λa f=> ?_
     have⟨av,aw,ap⟩:=bind_some ap
     refine Bk T22 f Z Z Z ac aw λax ay a az aA f=>AG m BW f Z Z az λa f=>Ac f Z λa f=>Ac f Z λa f=>Av ?_
     refine Ab f Z λa f=>Ab f Z λa f=> ?_
     have⟨aB,aC,ap⟩:=bind_some ap
     refine A4 f Z call64 (Wk.B0 m aA aC) λaD w aE m a f=> ?_
     have aA:=rd1 aE aA
     refine l_o f (Bc (f.e Z)) λa f=>Ab f Z λa f=> ?_
     have⟨aF,aG,ap⟩:=bind_some ap
     refine B4 4 (λa w=>∃aH,GLe aD aH∧Mem W aH w (ib ad 27 [aa]::H)∧Fr a 61 [(1,(pb ad)),(3,(iv (ab.length:Int))),(4,(iv am)),(5,ay),(20,aa),(21,(iv (ab.length:Int))),(22,(iv am)),(27,ay),(28,(iv (ab.length:Int))),(29,(.bool aB)),(30,(.bool (!aB))),(31,(.bool (!aB))),(35,(.bool aF))]) ?_ ?_
     ·rcases Ae aG with⟨aI,aG⟩|⟨aI,aG⟩
      ·refine AN f aI λa f=> ?_
       refine AN f aI λa f=>AN f aI λa f=>l_o f (AV (f.e Z) aI (f.e Z)) λa f=> ?_
       obtain rfl:=sj aG
       exact⟨_,gr,m,f.k Z⟩
      ·refine AJ f aI ?_
       refine Ab f Z λa f=>AJ f aI ?_
       refine Ab f Z λa f=>AJ f aI ?_
       have⟨aJ,aK,aG⟩:=bind_some aG
       refine A4 f Z call65 (Wk.R m aA aK) λaL w aM m a f=>l_o f (AZ (f.e Z) aI (f.e Z)) λa f=> ?_
       obtain rfl:=sj aG
       exact⟨_,aM,m,f.k Z⟩
     ·rintro a w ⟨aH,aN,m,f⟩
      refine Aa ?_
      rcases Ae ap with⟨aO,ap⟩|⟨aO,ap⟩
      ·refine Ak f Z aO ?_
       refine Ad ?_
       refine Ac f Z λa f=>Aa ?_
       refine Ap ?_
       have m:Mem W aH w H:=Mem.drop (H':=[ib ad 27 [aa]]) m
       obtain rfl:=sj ap
       obtain rfl:=aq _ rfl
       obtain rfl:=sj hd
       exact⟨[(.bool false)],f.g Z,f.d,_,[],(gt ag (gt ar (gt aE aN))),m,Z,Z⟩
      ·refine Ai f Z aO ?_
       refine Al ?_
       refine An ?_
       refine Ah f Z Z Au λa f=>Ab f Z λa f=>Aa ?_
       obtain rfl:=sj ap
       exact⟨_,Z,_,Z,_,(gt ar (gt aE aN)),f.k Z,m⟩
    ·refine Ai f Z au ?_
     refine Ax Z ?_
     obtain rfl:=sj ap
     obtain rfl:=aq _ rfl
     exact⟨_,Z,_,ar,f.k Z,m⟩
   ·rintro a w ⟨_,rfl,ak,aP,f,m⟩
    have ac:=rd2 aP ac
    refine Af (Ad ?_)
    refine BX underlying27 Z sizeOf22 f Z λa f=>AK 0 0 m BP f Z Z Z Z λa f=>AT underlying22 f Z Z ac λa f=>Ab f Z λa f=>Aa ?_
    have⟨aQ,aR,hd⟩:=bind_some hd
    refine AB (λa w=>∃q_394':Unit,aQ= .inl q_394'∧∃(aS:GH),GLe ak aS∧Fr a 61 []∧Mem W aS w (H)) ?_ ?_
    ·refine Aj ?_
     refine Ay (λaT a w=>∃aU:Int,aU=aT∧∃(aV:GH),GLe ak aV∧Fr a 61 [(1,(pb ad)),(38,aa),(39,(iv (ab.length:Int))),(40,(iv aU))]∧Mem W aV w (ib ad 27 [aa]::H)) aR ⟨_,Z,_,gr,f.k Z,m⟩ ?_
     clear aR f m
     rintro aT aW aX aY a w ⟨aU,rfl,aV,aZ,f,m⟩
     have ac:=rd2 aZ ac
     refine Ad ?_
     refine Ah f Z Z AD λa f=>Aa (Af ?_)
     rcases Ae aX with⟨a0,aX⟩|⟨a0,aX⟩
     ·refine Ak f Z a0 ?_
      refine Al ?_
      refine Af (Aj (Ad ?_))
      refine Ab f Z λa f=> ?_
      have⟨a1,a2,aX⟩:=bind_some aX
      refine Bk T22 f Z Z Z ac a2 λa3 a4 a a5 a6 f=>AG m BW f Z Z a5 λa f=>Ac f Z λa f=>Ac f Z λa f=>Av ?_
      refine Ab f Z λa f=>AT underlying49 f Z Z a6 λa f=>Ab f Z λa f=>Aa ?_
      have⟨a7,a8,aX⟩:=bind_some aX
      refine AB (λa w=>∃q_560':Unit,a7= .inl q_560'∧∃(a9:GH),GLe aV a9∧Fr a 61 [(1,(pb ad)),(38,aa),(39,(iv (ab.length:Int))),(40,(iv aU))]∧Mem W a9 w (ib ad 27 [aa]::H)) ?_ ?_
      ·refine Aj ?_
       refine Ay (λba a w=>∃bb:Int,bb=ba∧∃(bc:GH),GLe aV bc∧Fr a 61 [(1,(pb ad)),(6,(iv aU)),(38,aa),(39,(iv (ab.length:Int))),(40,(iv aU)),(45,a4),(46,(iv (a1.length:Int))),(47,(iv bb))]∧Mem W bc w (ib ad 27 [aa]::H)) a8 ⟨_,Z,_,gr,f.k Z,m⟩ ?_
       clear a8 f m
       rintro ba bd be bf a w ⟨bb,rfl,bc,bg,f,m⟩
       have ac:=rd2 bg ac
       have a6:=rd1 bg a6
       refine Ad ?_
       refine Ah f Z Z AD λa f=>Aa (Af ?_)
       rcases Ae be with⟨bh,be⟩|⟨bh,be⟩
       ·refine Ak f Z bh ?_
        refine Al ?_
        refine Af (Aj (Ad ?_))
        have⟨bi,bj,be⟩:=bind_some be
        refine Bk T49 f Z Z Z a6 bj λbk bl a bm bn f=> ?_
        subst bn
        refine AG m Pl2 f Z Z bm λa f=>Ac f Z λa f=>Av ?_
        refine BX underlying27 Z sizeOf22 f Z λa f=>AK 0 0 m BP f Z Z Z Z λa f=>Ab f Z λa f=> ?_
        have⟨bo,bp,be⟩:=bind_some be
        refine Bk T22 f Z Z Z ac bp λbq br a bs bt f=>AG m BW f Z Z bs λa f=>Ab f Z λa f=> ?_
        have⟨bu,bv,be⟩:=bind_some be
        refine A4 f Z call65 (Wk.R m bt bv) λbw w bx m a f=>l_o f (Bc (f.e Z)) λa f=>Aa ?_
        rcases Ae be with⟨bz,be⟩|⟨bz,be⟩
        ·refine Ak f Z bz ?_
         refine Ad ?_
         refine Ac f Z λa f=>Aa ?_
         refine Ap ?_
         have m:Mem W bw w H:=Mem.drop (H':=[ib ad 27 [aa]]) m
         obtain rfl:=sj be
         obtain rfl:=bf _ rfl
         obtain rfl:=sj aX
         obtain rfl:=aY _ rfl
         obtain rfl:=sj hd
         exact⟨[(.bool false)],f.g Z,f.d,_,[],(gt ag (gt aP (gt aZ (gt bg bx)))),m,Z,Z⟩
        ·refine Ai f Z bz ?_
         refine Al ?_
         refine An ?_
         refine Ah f Z Z Au λa f=>Ab f Z λa f=>Aa ?_
         obtain rfl:=sj be
         exact⟨_,Z,_,Z,_,(gt bg bx),f.k Z,m⟩
       ·refine Ai f Z bh ?_
        refine Ax Z ?_
        obtain rfl:=sj be
        obtain rfl:=bf _ rfl
        exact⟨_,Z,_,bg,f.k Z,m⟩
      ·rintro a w ⟨_,rfl,a9,bA,f,m⟩
       refine An ?_
       refine Ah f Z Z Au λa f=>Ab f Z λa f=>Aa ?_
       obtain rfl:=sj aX
       exact⟨_,Z,_,Z,_,(gt aZ bA),f.k Z,m⟩
     ·refine Ai f Z a0 ?_
      refine Ax Z ?_
      have m:Mem W aV w H:=Mem.drop (H':=[ib ad 27 [aa]]) m
      obtain rfl:=sj aX
      obtain rfl:=aY _ rfl
      exact⟨_,Z,_,aZ,f.weak trivial,m⟩
    ·rintro a w ⟨_,rfl,aS,bB,f,m⟩
     refine Ad ?_
     refine Ac f Z λa f=>Aa ?_
     refine Ap ?_
     obtain rfl:=sj hd
     exact⟨[(.bool true)],f.g Z,f.d,_,[],(gt ag (gt aP bB)),m,Z,Z⟩
theorem Wk.e {x0:Int}(m:Mem W G w (H)){y:Int}(hd:D.e x0=some y):
  Calls prog 74 #[(iv x0)] w (Res W G H (λ_ Ho v=>Ho=[]∧v=(.int .u32 y))):=by
 refine Ar (args:=[(iv x0)]) (N:=5) [.tmp 2] func74 Z Z (lb Z) Z λa f=> ?_
 unfold D.e at hd
 refine Ad ?_
 refine Ac f Z λa f=>Av ?_
 refine Ab f Z λa f=> ?_
 obtain⟨aa,hd⟩:=Dl hd
 refine l_o f (r_shl (f.e Z) (f.e Z) aa) λa f=>Ac f Z λa f=>Aa ?_
 refine Ap ?_
 obtain rfl:=sj hd
 exact⟨[(.int .u32 (ishl .u32 1 x0))],f.g Z,f.d,_,[],gr,m,Z,Z⟩
theorem Wk.z0 {v0:Value}{x0:LI}(m:Mem W G w (H))(h0:R1 G v0 x0){y:Int}(hd:D.z0 x0=some y):
  Calls prog 72 #[v0] w (Res W G H (λ_ Ho v=>Ho=[]∧v=(.int .u32 y))):=by
 refine Ar (args:=[v0]) (N:=18) [.tmp 2] func72 Z Z (lb Z) Z λa f=> ?_
 unfold D.z0 at hd
 refine Ad ?_
 refine Ac f Z λa f=>Av ?_
 refine Ac f Z λa f=>Aa (Af (Ad ?_))
 refine Ab f Z λa f=>AT underlying49 f Z Z h0 λa f=>Ab f Z λa f=>Aa ?_
 have⟨aa,ab,hd⟩:=bind_some hd
 refine AB (λa w=>∃ac:Int,ac=aa∧∃(ad:GH),GLe G ad∧Fr a 18 [(3,(.int .u32 ac))]∧Mem W ad w (H)) ?_ ?_
 ·refine Aj ?_
  refine Ay (λae a w=>∃af:Int,∃ag:Int,(af,ag)=ae∧∃(ah:GH),GLe G ah∧Fr a 18 [(3,(.int .u32 af)),(6,v0),(7,(iv (x0.length:Int))),(8,(iv ag))]∧Mem W ah w (H)) ab ⟨_,_,Z,_,gr,f.k Z,m⟩ ?_
  clear ab f m
  rintro ae ai aj ak a w ⟨af,ag,rfl,ah,al,f,m⟩
  have h0:=rd1 al h0
  refine Ad ?_
  refine Ah f Z Z AD λa f=>Aa (Af ?_)
  rcases Ae aj with⟨am,aj⟩|⟨am,aj⟩
  ·refine Ak f Z am ?_
   refine Al ?_
   refine Af (Aj (Ad ?_))
   have⟨an,ao,aj⟩:=bind_some aj
   refine Bk T49 f Z Z Z h0 ao λap aq a ar au f=> ?_
   subst au
   refine AG m Pl2 f Z Z ar λa f=>Ac f Z λa f=>Aa (An ?_)
   refine Ab f Z λa f=>Ab f Z λa f=> ?_
   have⟨av,aw,aj⟩:=bind_some aj
   refine A4 f Z call74 (Wk.e m aw) λax w ay m a f=>Ah f Z Z b_or λa f=>Ac f Z λa f=>Aa (An ?_)
   refine Ah f Z Z Au λa f=>Ab f Z λa f=>Aa ?_
   obtain rfl:=sj aj
   exact⟨_,Z,_,_,Z,_,(gt al ay),f.k Z,m⟩
  ·refine Ai f Z am ?_
   refine Ax Z ?_
   obtain rfl:=sj aj
   obtain rfl:=ak _ rfl
   exact⟨_,Z,_,al,f.k Z,m⟩
 ·rintro a w ⟨ac,rfl,ad,az,f,m⟩
  refine Ad ?_
  refine Ab f Z λa f=>Ac f Z λa f=>Aa ?_
  refine Ap ?_
  obtain rfl:=sj hd
  exact⟨[(.int .u32 ac)],f.g Z,f.d,_,[],az,m,Z,Z⟩
theorem Wk.C {aa:Value}{ab:LL}(m:Mem W G w (H))(ac:R2 G aa ab){y:(LI)}(hd:D.C ab=some y):
  Calls prog 33 #[(.agg #[aa])] w (Res W G H (λG' Ho v=>∃r0:Value,∃i0:Itm,Ho=[i0]∧r0=v∧Ow (RI .u32) 75 G' i0 r0 y)):=by
 refine Ar (args:=[(.agg #[aa])]) (N:=21) [.tmp 2] func33 Z Z (lb Z) Z λa f=> ?_
 unfold D.C at hd
 refine Ad ?_
 refine Bw (cs:=[aa]) m f Z Z Z λad w a m f=>Ac f Z λa f=>Av ?_
 refine AO (R:=(RI .u32)) (xs:=([]:LI)) (RI.one _) m T56 f Z Z Z (by decide) (All2.nil _) λae af w a m ag f=>Ac f Z λa f=>Aa (Af (Ad ?_))
 refine BX underlying27 Z sizeOf22 f Z λa f=>AK 1 0 m BP f Z Z Z Z λa f=>AT underlying22 f Z Z ac λa f=>Ab f Z λa f=>Aa ?_
 have⟨ah,ai,hd⟩:=bind_some hd
 refine AB (λa w=>∃aj:LI,aj=ah∧∃(ak:GH) (al:Value) (am:Itm),GLe G ak∧Fr a 21 [(3,al)]∧Mem W ak w (am::H)∧Ow (RI .u32) 75 ak am al aj) ?_ ?_
 ·refine Aj ?_
  have m:=m.eraseAt 1
  refine Ay (λan a w=>∃ao:LI,∃ap:Int,(ao,ap)=an∧∃(aq:GH) (ar:Value) (au:Itm),GLe G aq∧Fr a 21 [(3,ar),(8,aa),(9,(iv (ab.length:Int))),(10,(iv ap))]∧Mem W aq w (au::H)∧Ow (RI .u32) 75 aq au ar ao) ai ⟨_,_,Z,_,af,ae,gr,f.k Z,m,ag⟩ ?_
  clear ai f m
  rintro an av aw ax a w ⟨ao,ap,rfl,aq,ar,au,ay,f,m,az⟩
  have ac:=rd2 ay ac
  refine Ad ?_
  refine Ah f Z Z AD λa f=>Aa (Af ?_)
  rcases Ae aw with⟨aA,aw⟩|⟨aA,aw⟩
  ·refine Ak f Z aA ?_
   refine Al ?_
   refine Af (Aj (Ad ?_))
   have⟨aB,aC,aw⟩:=bind_some aw
   refine Bk T22 f Z Z Z ac aC λaD aE a aF aG f=>AG m BW f Z Z aF λa f=>Ac f Z λa f=>Aa (An ?_)
   refine Ab f Z λa f=>Ab f Z λa f=> ?_
   have⟨aH,aI,aw⟩:=bind_some aw
   refine A4 f Z call72 (Wk.z0 m aG aI) λaJ w aK m a f=> ?_
   have az:=od1 aK az
   refine AO (R:=(RI .u32)) (xs:=([aH]:LI)) (RI.one _) m T56 f Z Z Z (by decide) (All2.cons Z (All2.nil _)) λaL aM w a m aN f=> ?_
   have⟨aO,aP,aw⟩:=bind_some aw
   refine Bj (RI.one _) 1 m az Z T56 Z (by decide) f Z Z Z (Ow.src (j:=0) aN m Z) aP λaQ aR w a m aS f=>Ac f Z λa f=>Aa (An ?_)
   refine Ah f Z Z Au λa f=>Ab f Z λa f=>Aa ?_
   have m:=m.fr 1
   have m:=m.eraseAt 1
   obtain rfl:=sj aw
   exact⟨_,Z,_,_,Z,_,aR,aQ,(gt ay aK),f.k Z,m,aS⟩
  ·refine Ai f Z aA ?_
   refine Ax Z ?_
   obtain rfl:=sj aw
   obtain rfl:=ax _ rfl
   exact⟨_,Z,_,ar,au,ay,f.k Z,m,az⟩
 ·rintro a w ⟨aj,rfl,ak,al,am,aT,f,m,aU⟩
  refine Ad ?_
  refine Ab f Z λa f=>Ac f Z λa f=>Aa ?_
  refine Ap ?_
  obtain rfl:=sj hd
  exact⟨[al],f.g Z,f.d,_,[am],aT,m,_,_,Z,Z,aU⟩
theorem Wk.c0 {x0:Int}(hW:Br W)(m:Mem W G w (H)){y:Int}(hd:D.c0 x0=some y):
  Calls prog 93 #[(.int .u32 x0)] w (Res W G H (λ_ Ho v=>Ho=[]∧v=(iv y))):=by
 refine Ar (args:=[(.int .u32 x0)]) (N:=5) [.tmp 2] func93 Z Z (lb Z) Z λa f=> ?_
 unfold D.c0 at hd
 refine Ad ?_
 refine Ac f Z λa f=>Av ?_
 refine Ab f Z λa f=> ?_
 have⟨aa,ab,hd⟩:=bind_some hd
 refine A4 f Z call109 (Wk.N0 hW m ab) λac w ad m a f=>Ac f Z λa f=>Aa ?_
 refine Ap ?_
 obtain rfl:=sj hd
 exact⟨[(iv aa)],f.g Z,f.d,_,[],ad,m,Z,Z⟩
theorem Wk.f {x0:Int}(hW:Br W)(m:Mem W G w (H)){y:(LI)}(hd:D.f x0=some y):
  Calls prog 91 #[(.int .u32 x0)] w (Res W G H (λG' Ho v=>∃r0:Value,∃i0:Itm,Ho=[i0]∧r0=v∧Ow R0 3 G' i0 r0 y)):=by
 refine Ar (args:=[(.int .u32 x0)]) (N:=17) [.tmp 2] func91 Z Z (lb Z) Z λa f=> ?_
 unfold D.f at hd
 refine Ad ?_
 refine Ac f Z λa f=>Av ?_
 refine AO (R:=R0) (xs:=([]:LI)) (RI.one _) m T71 f Z Z Z (by decide) (All2.nil _) λaa ab w a m ac f=>Ac f Z λa f=>Aa (Af ?_)
 have⟨ad,ae,hd⟩:=bind_some hd
 refine AB (λa w=>∃af:LI,af=ad∧∃(ag:GH) (ah:Value) (ai:Itm),GLe G ag∧Fr a 17 [(3,ah)]∧Mem W ag w (ai::H)∧Ow R0 3 ag ai ah af) ?_ ?_
 ·refine Aj ?_
  refine Ay (λaj a w=>∃ak:Int,∃al:LI,(ak,al)=aj∧∃(am:GH) (an:Value) (ao:Itm),GLe G am∧Fr a 17 [(0,(.int .u32 ak)),(3,an)]∧Mem W am w (ao::H)∧Ow R0 3 am ao an al) ae ⟨_,_,Z,_,ab,aa,gr,f.k Z,m,ac⟩ ?_
  clear ae f m
  rintro aj ap aq ar a w ⟨ak,al,rfl,am,an,ao,au,f,m,av⟩
  refine Af (Ad ?_)
  refine Ab f Z λa f=>Ah f Z Z Dr λa f=>Aa ?_
  rcases Ae aq with⟨aw,aq⟩|⟨aw,aq⟩
  ·refine Ak f Z aw ?_
   refine Al ?_
   refine Af (Aj (An ?_))
   refine Ab f Z λa f=>Ab f Z λa f=> ?_
   have⟨ax,ay,aq⟩:=bind_some aq
   refine A4 f Z call93 (Wk.c0 hW m ay) λaz w aA m a f=> ?_
   have av:=od1 aA av
   refine AO (R:=R0) (xs:=([ax]:LI)) (RI.one _) m T71 f Z Z Z (by decide) (All2.cons Z (All2.nil _)) λaB aC w a m aD f=> ?_
   have⟨aE,aF,aq⟩:=bind_some aq
   refine Bj (RI.one _) 1 m av Z T71 Z (by decide) f Z Z Z (Ow.src (j:=0) aD m Z) aF λaG aH w a m aI f=>Ac f Z λa f=>Aa (An ?_)
   refine Ab f Z λa f=>Ab f Z λa f=>Ah f Z Z AI λa f=>Ah f Z Z Cx λa f=>Ac f Z λa f=>Aa ?_
   have m:=m.fr 1
   have m:=m.eraseAt 1
   obtain rfl:=sj aq
   exact⟨_,Z,_,_,Z,_,aH,aG,(gt au aA),f.k Z,m,aI⟩
  ·refine Ai f Z aw ?_
   refine Ax Z ?_
   obtain rfl:=sj aq
   obtain rfl:=ar _ rfl
   exact⟨_,Z,_,an,ao,au,f.k Z,m,av⟩
 ·rintro a w ⟨af,rfl,ag,ah,ai,aJ,f,m,aK⟩
  refine Ad ?_
  refine Ab f Z λa f=>Ac f Z λa f=>Aa ?_
  refine Ap ?_
  obtain rfl:=sj hd
  exact⟨[ah],f.g Z,f.d,_,[ai],aJ,m,_,_,Z,Z,aK⟩
theorem Wk.A0 {x0:Int}(m:Mem W G w (H)){y:Int}(hd:D.A0 x0=some y):
  Calls prog 101 #[(.int .u32 x0)] w (Res W G H (λ_ Ho v=>Ho=[]∧v=(iv y))):=by
 refine Ar (args:=[(.int .u32 x0)]) (N:=5) [.tmp 2] func101 Z Z (lb Z) Z λa f=> ?_
 unfold D.A0 at hd
 refine Ad ?_
 refine Ac f Z λa f=>Av ?_
 refine Ab f Z λa f=> ?_
 have⟨aa,ab,hd⟩:=bind_some hd
 refine A4 f Z call121 (Wk.n0 m ab) λac w ad m a f=>Ac f Z λa f=>Aa ?_
 refine Ap ?_
 obtain rfl:=sj hd
 exact⟨[(iv aa)],f.g Z,f.d,_,[],ad,m,Z,Z⟩
theorem Wk.y {v0:Value}{x0:LI}{x1:Int}(hW:Br W)(m:Mem W G w (H))(h0:RSl (RI .u32) G v0 x0){y:Int}(hd:D.y x0 x1=some y):
  Calls prog 86 #[v0,(.int .u32 x1)] w (Res W G H (λ_ Ho v=>Ho=[]∧v=(iv y))):=by
 refine Ar (args:=[v0,(.int .u32 x1)]) (N:=30) [.tmp 4] func86 Z Z (lb Z) Z λa f=> ?_
 unfold D.y at hd
 refine Ad ?_
 refine Ac f Z λa f=>Av ?_
 refine Ac f Z λa f=>Aa (Af (Ad ?_))
 refine Ab f Z λa f=> ?_
 have⟨aa,ab,hd⟩:=bind_some hd
 refine AE f Z call91 (Wk.f hW m ab) λac ad ae w af m ag a f=> ?_
 obtain⟨ah,ai,rfl,rfl,aj⟩:=ag
 have h0:=rd1 af h0
 refine B2 0 m aj Z underlying71 f Z Z λa f=>Ab f Z λa f=>Aa ?_
 have⟨ak,al,hd⟩:=bind_some hd
 refine AB (λa w=>∃am:Int,am=ak∧∃(an:GH),GLe ad an∧Fr a 30 [(5,(iv am))]∧Mem W an w (H)) ?_ ?_
 ·refine Aj ?_
  refine Ay (λao a w=>∃ap:Int,∃aq:Int,(ap,aq)=ao∧∃(ar:GH),GLe ad ar∧Fr a 30 [(0,v0),(1,(.int .u32 x1)),(5,(iv ap)),(9,ah),(10,(iv (aa.length:Int))),(11,(iv aq))]∧Mem W ar w (ai::H)) al ⟨_,_,Z,_,gr,f.k Z,m⟩ ?_
  clear al f m
  rintro ao au av aw a w ⟨ap,aq,rfl,ar,ax,f,m⟩
  have h0:=rd1 ax h0
  have aj:=od1 ax aj
  refine Ad ?_
  refine Ah f Z Z AD λa f=>Aa (Af ?_)
  rcases Ae av with⟨ay,av⟩|⟨ay,av⟩
  ·refine Ak f Z ay ?_
   refine Al ?_
   refine Af (Aj (Ad ?_))
   have⟨az,aA,av⟩:=bind_some av
   refine A2 0 m aj Z T71 f Z Z Z aA λaB a aC f=>Ce 0 m aj Z Pl3 f Z Z aC aA λaD a aE f=> ?_
   subst aE
   refine Ac f Z λa f=>Aa ?_
   refine A8 13 AF (by kernel_rfl) m ?_
   refine Ag 0 13 Z f Z λa f=>Ag 1 13 Z f Z λa f=>Ag 2 13 Z f Z λa f=>Ag 3 13 Z f Z λa f=> ?_
   have⟨aF,aG,av⟩:=bind_some av
   refine Bx 4 13 T56 h0 aG Z f Z Z λaH aI a aJ aK f=> ?_
   subst aK
   refine By 5 13 AS aJ Z f Z λa f=>q_p 6 13 Z f (λ_=>AA (f.e Z) (f.e Z) Cv) λa f=>Ag 7 13 Z f Z λa f=> ?_
   have⟨aL,aM,av⟩:=bind_some av
   refine Ck (i:=8) 13 Z (by kernel_rfl) Z f Z Z Z call74 (λ_ _ w aN m=>Wk.e m aM) λa f=>q_p 9 13 Z f (λ_=>AA (f.e Z) (f.e Z) Cv) λa f=> ?_
   have⟨aO,aP,av⟩:=bind_some av
   refine Ck (i:=10) 13 Z (by kernel_rfl) Z f Z Z Z call101 (λ_ _ w aQ m=>Wk.A0 m aP) λa f=>q_p 11 13 Z f (λ_=>AA (f.e Z) (f.e Z) Au) λa f=>q_p 12 13 Z f (λ_=>BY (f.e Z)) λa f=>AP λaR w aS m=>Aa (An ?_)
   refine Ah f Z Z Au λa f=>Ab f Z λa f=>Aa ?_
   obtain rfl:=sj av
   exact⟨_,Z,_,_,Z,_,(gt ax aS),f.k Z,m⟩
  ·refine Ai f Z ay ?_
   refine Ax Z ?_
   have m:Mem W ar w H:=Mem.drop (H':=[ai]) m
   obtain rfl:=sj av
   obtain rfl:=aw _ rfl
   exact⟨_,Z,_,ax,f.k Z,m⟩
 ·rintro a w ⟨am,rfl,an,aT,f,m⟩
  refine Ad ?_
  refine Ab f Z λa f=>Ah f Z Z (Dm Z) λa f=>Ac f Z λa f=>Aa ?_
  refine Ap ?_
  obtain rfl:=sj hd
  exact⟨[(iv (i64.wrap (Int.tdiv am 2)))],f.g Z,f.d,_,[],(gt af aT),m,Z,Z⟩
theorem Wk.V {v0:Value}{x0:LI}(m:Mem W G w (H))(h0:R1 G v0 x0){y:(LI)}(hd:D.V x0=some y):
  Calls prog 78 #[v0] w (Res W G H (λG' Ho v=>∃r0:Value,∃i0:Itm,Ho=[i0]∧r0=v∧Ow R0 2 G' i0 r0 y)):=by
 refine Ar (args:=[v0]) (N:=21) [.tmp 2] func78 Z Z (lb Z) Z λa f=> ?_
 unfold D.V at hd
 refine Ad ?_
 refine Ac f Z λa f=>Av ?_
 refine Ab f Z λa f=>AT underlying71 f Z Z h0 λa f=> ?_
 have⟨aa,ab,hd⟩:=bind_some hd
 refine l_make (R:=R0) m T49 Z (by decide) Z f Z Z Z ab λac ad w a m ae f=>Ac f Z λa f=>Aa (Af (Ad ?_))
 refine Ab f Z λa f=>AT underlying71 f Z Z h0 λa f=>Ab f Z λa f=>Aa ?_
 have⟨af,ag,hd⟩:=bind_some hd
 refine AB (λa w=>∃ah:LI,ah=af∧∃(ai:GH) (aj:Value) (ak:Itm),GLe G ai∧Fr a 21 [(3,aj)]∧Mem W ai w (ak::H)∧Ow R0 2 ai ak aj ah) ?_ ?_
 ·refine Aj ?_
  refine Ay (λal a w=>∃am:LI,∃an:Int,(am,an)=al∧∃(ao:GH) (ap:Value) (aq:Itm),GLe G ao∧Fr a 21 [(3,ap),(9,v0),(10,(iv (x0.length:Int))),(11,(iv an))]∧Mem W ao w (aq::H)∧Ow R0 2 ao aq ap am) ag ⟨_,_,Z,_,ad,ac,gr,f.k Z,m,ae⟩ ?_
  clear ag f m
  rintro al ar au av a w ⟨am,an,rfl,ao,ap,aq,aw,f,m,ax⟩
  have h0:=rd1 aw h0
  refine Ad ?_
  refine Ah f Z Z AD λa f=>Aa (Af ?_)
  rcases Ae au with⟨ay,au⟩|⟨ay,au⟩
  ·refine Ak f Z ay ?_
   refine Al ?_
   refine Af (Aj (Ad ?_))
   have⟨az,aA,au⟩:=bind_some au
   refine Bk T71 f Z Z Z h0 aA λaB aC a aD aE f=> ?_
   subst aE
   refine AG m Pl3 f Z Z aD λa f=>Ac f Z λa f=>Aa (An ?_)
   refine Ab f Z λa f=>Ab f Z λa f=>AO (R:=R0) (xs:=([az]:LI)) (RI.one _) m T49 f Z Z Z (by decide) (All2.cons Z (All2.nil _)) λaF aG w a m aH f=> ?_
   have⟨aI,aJ,au⟩:=bind_some au
   refine Bj (RI.one _) 1 m ax Z T49 Z (by decide) f Z Z Z (Ow.src (j:=0) aH m Z) aJ λaK aL w a m aM f=>Ac f Z λa f=>Aa (An ?_)
   refine Ah f Z Z Au λa f=>Ab f Z λa f=>Aa ?_
   have m:=m.fr 1
   have m:=m.eraseAt 1
   obtain rfl:=sj au
   exact⟨_,Z,_,_,Z,_,aL,aK,aw,f.k Z,m,aM⟩
  ·refine Ai f Z ay ?_
   refine Ax Z ?_
   obtain rfl:=sj au
   obtain rfl:=av _ rfl
   exact⟨_,Z,_,ap,aq,aw,f.k Z,m,ax⟩
 ·rintro a w ⟨ah,rfl,ai,aj,ak,aN,f,m,aO⟩
  refine Ad ?_
  refine Ab f Z λa f=>Ac f Z λa f=>Aa ?_
  refine Ap ?_
  obtain rfl:=sj hd
  exact⟨[aj],f.g Z,f.d,_,[ak],aN,m,_,_,Z,Z,aO⟩
theorem Wk.T {x0:Int}(hW:Br W)(m:Mem W G w (H)){y:(LI)}(hd:D.T x0=some y):
  Calls prog 66 #[(.int .u32 x0)] w (Res W G H (λG' Ho v=>∃r0:Value,∃i0:Itm,Ho=[i0]∧r0=v∧Ow R0 2 G' i0 r0 y)):=by
 refine Ar (args:=[(.int .u32 x0)]) (N:=6) [.tmp 2] func66 Z Z (lb Z) Z λa f=> ?_
 unfold D.T at hd
 refine Ad ?_
 refine Ac f Z λa f=>Av ?_
 refine Ab f Z λa f=> ?_
 have⟨aa,ab,hd⟩:=bind_some hd
 refine AE f Z call91 (Wk.f hW m ab) λac ad ae w af m ag a f=> ?_
 obtain⟨ah,ai,rfl,rfl,aj⟩:=ag
 have⟨ak,al,hd⟩:=bind_some hd
 refine AE f Z call78 (Ow.lendCall (RI.mono _) 0 aj m Z (λam an m ao=>Wk.V m ao al) (λ_ G' _ _ ⟨a0,a1,e1,e2,o0⟩=>⟨a0,a1,e1,e2,Ow.free (RI.free _) G' o0⟩)) λap aq ar w au m av a f=> ?_
 obtain⟨aw,ax,rfl,rfl,ay⟩:=av
 refine Ac f Z λa f=>Aa ?_
 refine Ap ?_
 have m:=m.eraseAt 1
 obtain rfl:=sj hd
 exact⟨[aw],f.g Z,f.d,_,[ax],(gt af au),m,_,_,Z,Z,ay⟩
end Go.Proofs.YtjhajfcggfhbmaaDoor

set_option maxRecDepth 100000
namespace Go.Proofs.YtjhajfcggfhbmaaDoor
open Go Go.Sx
open Go.Proofs.Tryd Go.Proofs.YtjhajfcggfhbmaaDoor.Tryd IntKind
variable {W w : World} {G : GH} {H : List Itm}
theorem hT56 :SlT prog 56 75 1 4 (.int .u32 0):=⟨underlying56,Tryd.t75,by kernel_rfl,by kernel_rfl,by kernel_rfl,by kernel_rfl⟩
theorem hPl56 :BN prog 56:=isAgg56
set_option maxHeartbeats 1000000 in
theorem Wk.g1 {W:World}{σ:Type}{f0:Int→σ→Option (Bool×σ)}{its:σ→List Itm}{g:FuncId}{cs:List Value}{G0:GH}
  (hg:∀(ars:Array Value) (w:World),(callFunc g ars).run prog w= .ok (.enter g ars) w)
  (hcl:∀(w:World) (G:GH) (H:List Itm) (c:Int) (s:σ) (y:Bool×σ),GLe G0 G→Mem W G w (its s++H)→f0 c s=some y→Calls prog g ((.int .u32 c)::cs).toArray w (Res W G H (λ_ Ho v=>Ho=its y.2∧v= .bool y.1))) (n:Nat):
  ∀(w:World) (G:GH) (H:List Itm) (nn frm many chosen:Int) (s:σ) (y:Bool×σ),GLe G0 G→Mem W G w (its s++H)→D.A f0 n nn frm many chosen s=some y→
   Calls prog 84 #[(iv nn),(iv frm),(iv many),(.int .u32 chosen),(.func (.func g) #[] cs.toArray)] w (Res W G H (λ_ Ho v=>Ho=its y.2∧v= .bool y.1)):=by
 induction n with
 |zero=>intro w G H nn frm many chosen s y h0 m hd;simp[D.A] at hd
 |succ n ih=>
  intro w G H nn frm many chosen s y h0 m hd
  refine Ar (args:=[(iv nn),(iv frm),(iv many),(.int .u32 chosen),(.func (.func g) #[] cs.toArray)]) (N:=36) [.tmp 10] func84 Z Z (lb Z) Z λa f=> ?_
  unfold D.A at hd
  refine Ad ?_
  refine Ac f Z λa f=>Aa (Af (Ad ?_))
  refine Ab f Z λa f=>Ah f Z Z BC λa f=>Aa ?_
  rcases Ae hd with⟨hc1,hd⟩|⟨hc1,hd⟩
  ·refine Ak f Z hc1 ?_
   refine Ad ?_
   refine Ab f Z λa f=>Ab f Z λa f=>l_resv0 f Z Z Z hg (hcl _ _ _ _ _ _ h0 m hd) λv1 G1 Ho1 w hl1 m hQ1 a f=> ?_
   obtain⟨rfl,rfl⟩:=hQ1
   refine Ac f Z λa f=>Aa ?_
   refine Ap ?_
   exact⟨[.bool y.1],f.g Z,f.d,G1,its y.2,hl1,m,Z,Z⟩
  ·refine Ai f Z hc1 ?_
   refine Al ?_
   refine Af (Ad ?_)
   refine Ab f Z λa f=>Ac f Z λa f=>Aa ?_
   refine AB (λa w=>∃(G':GH),GLe G G'∧y.1=false∧Fr a 36 []∧Mem W G' w (its y.2++H)) ?_ ?_
   ·refine Aj ?_
    refine Ay (fun(q:σ×Int) a w=>∃(G':GH),GLe G G'∧Fr a 36 [(0,(iv nn)),(2,(iv many)),(3,(.int .u32 chosen)),(4,(.func (.func g) #[] cs.toArray)),(11,(iv q.2))]∧Mem W G' w (its q.1++H)) hd ⟨_,gr,f.k Z,m⟩ ?_
    clear hd f m
    rintro⟨s,v⟩ o hs hqq a w ⟨G1,hl1,f,m⟩
    dsimp only at f m
    unfold D.y0 at hs
    dsimp only at hs
    refine Af (Ad ?_)
    refine Ab f Z λa f=>Ab f Z λa f=>Ah f Z Z Au λa f=>Ab f Z λa f=>Ah f Z Z Cz λa f=>Aa ?_
    rcases Ae hs with⟨hc2,hs⟩|⟨hc2,hs⟩
    ·refine Ak f Z hc2 ?_
     refine Al ?_
     have⟨oo,ho,hs⟩:=bind_some hs
     have⟨r,hr,hs⟩:=bind_some hs
     refine Af (Aj (Ad ?_))
     refine Ab f Z λa f=>Ab f Z λa f=>Ah f Z Z Au λa f=>Ab f Z λa f=>Ah f Z Z AI λa f=>Ab f Z λa f=>Ab f Z λa f=>A4 f Z call74 (Wk.e m ho) λG2 w hl2 m a f=>Ah f Z Z b_or λa f=>Ab f Z λa f=>AE f Z call84 (ih _ _ _ _ _ _ _ _ _ (gt h0 (gt hl1 hl2)) m hr) λv3 G3 Ho3 w hl3 m hQ3 a f=> ?_
     obtain⟨rfl,rfl⟩:=hQ3
     refine Aa ?_
     have hle:GLe G G3:=gt hl1 (gt hl2 hl3)
     rcases Ae hs with⟨hc3,hs⟩|⟨hc3,hs⟩
     ·refine Ak f Z hc3 ?_
      obtain rfl:=sj hs
      obtain rfl:=hqq _ rfl
      refine Ad ?_
      refine Ac f Z λa f=>Aa ?_
      refine Ap ?_
      exact⟨[.bool true],f.g Z,f.d,G3,its r.2,hle,m,Z,Z⟩
     ·refine Ai f Z hc3 ?_
      obtain rfl:=sj hs
      refine Al ?_
      refine An ?_
      refine Ab f Z λa f=>Ah f Z Z Au λa f=>Ac f Z λa f=>Aa ?_
      exact⟨_,Z,G3,hle,f.k Z,m⟩
    ·refine Ai f Z hc2 ?_
     refine Ax Z ?_
     obtain rfl:=sj hs
     obtain rfl:=hqq _ rfl
     exact⟨G1,hl1,Z,f.weak trivial,m⟩
   ·clear hd f m
    rintro a w ⟨G1,hl1,hy,f,m⟩
    refine Ad ?_
    refine Ac f Z λa f=>Aa ?_
    refine Ap ?_
    exact⟨[.bool false],f.g Z,f.d,G1,its y.2,hl1,m,Z,congrArg Value.bool hy.symm⟩
abbrev clIts (bf bn ba:Nat)(near:Int)(v0:Value)(s:Int):List Itm:=[ib bf 75 [(.int .u32 s)],ib bn 75 [(.int .u32 near)],ib ba 56 [v0]]
theorem Wk.f1 {W:World}(hW:Br W){F:LI}{v0:Value}{bf bn ba:Nat}{near:Int}{G0:GH}(h0:RSl (RI .u32) G0 v0 F)(w:World)(G:GH)(H:List Itm)(c s:Int)(y:Bool×Int)(hG:GLe G0 G)
  (m:Mem W G w (clIts bf bn ba near v0 s++H)) (hd:D.U0 F near c s=some y):
  Calls prog 85 ((.int .u32 c)::[(pb bf),(pb bn),(pb ba)]).toArray w (Res W G H (λ_ Ho v=>Ho=clIts bf bn ba near v0 y.2∧v= .bool y.1)):=by
 refine Ar (args:=[(.int .u32 c),(pb bf),(pb bn),(pb ba)]) (N:=17) [.tmp 5] func85 Z Z (lb Z) Z λa f=> ?_
 unfold D.U0 at hd
 have h0:=rd1 hG h0
 refine Ad ?_
 refine Ac f Z λa f=>Av ?_
 refine Ab f Z λa f=>Bz 0 0 (ds:=[(.int .u32 c)]) m sizeOf75 f Z Z Z (BG Z BU) Z (lb Z) Z λw m=>Av ?_
 refine Ab f Z λa f=>AK 1 0 m AS f Z Z Z Z λa f=>Ah f Z Z Cv λa f=>Ah f Z Z BC λa f=>Ab f Z λa f=> ?_
 have⟨b,hb,hd⟩:=bind_some hd
 obtain rfl:=sj hd
 rcases Ae hb with⟨hc1,hb⟩|⟨hc1,hb⟩
 ·have⟨k,hk,hb⟩:=bind_some hb
  obtain rfl:=sj hb
  refine AJ f hc1 ?_
  refine AK 2 0 m hPl56 f Z Z Z Z λa f=>AJ f hc1 ?_
  refine Ab f Z λa f=>AJ f hc1 ?_
  refine A4 f Z call86 (Wk.y hW m h0 hk) λG1 w hl1 m a f=>AJ f hc1 ?_
  refine Ah f Z Z BC λa f=>l_o f (AV (f.e Z) hc1 (f.e Z)) λa f=>Ac f Z λa f=>Aa ?_
  refine Ap ?_
  exact⟨[.bool (k==3)],f.g Z,f.d,G1,clIts bf bn ba near v0 c,hl1,m,Z,Z⟩
 ·obtain rfl:=sj hb
  refine AN f hc1 λa f=>AN f hc1 λa f=>AN f hc1 λa f=>AN f hc1 λa f=>l_o f (AZ (f.e Z) hc1 (f.e Z)) λa f=>Ac f Z λa f=>Aa ?_
  refine Ap ?_
  exact⟨[.bool false],f.g Z,f.d,G,clIts bf bn ba near v0 c,gr,m,Z,Z⟩
set_option maxHeartbeats 1000000 in
theorem Wk.J {aa:Value}{ab:LL}(hW:Br W)(m:Mem W G w (H))(ac:R2 G aa ab){y:LI×Bool}(hd:D.J ab=some y):
  Calls prog 49 #[(.agg #[aa])] w (Res W G H (λG' Ho v=>∃r0:Value,∃i0:Itm,Ho=[i0]∧v= .tuple #[r0,(.bool y.2)]∧Ow R0 2 G' i0 r0 y.1)):=by
 refine Ar (args:=[(.agg #[aa])]) (N:=30) [.tmp 2,.tmp 3] func49 Z Z (lb Z) Z λa f=> ?_
 unfold D.J at hd
 refine Ad ?_
 refine Bw (cs:=[aa]) m f Z Z Z λbg w a m f=>Ac f Z λa f=>Ac f Z λa f=>Aa (Af (Ad ?_))
 refine A3 0 0 (ds:=[aa]) m Bv f Z Z Z Z Z λa f=> ?_
 have⟨b,hb,hd⟩:=bind_some hd
 refine A4 f Z call30 (Wk.z m ac hb) λG1 w hl1 m a f=> ?_
 have ac:=rd2 hl1 ac
 refine l_o f (Bc (f.e Z)) λa f=>Aa ?_
 rcases Ae hd with⟨hc1,hd⟩|⟨hc1,hd⟩
 ·obtain rfl:=sj hd
  refine Ak f Z hc1 ?_
  refine Ad ?_
  refine Ac f Z λa f=>Ac f Z λa f=>Aa ?_
  refine Ap ?_
  have m:Mem W G1 w H:=Mem.drop (H':=[ib bg 27 [aa]]) m
  obtain⟨itN,m,oN⟩:=Ow.nil R0 2 m
  exact⟨[.slice none 0 0,.bool false],⟨f.get _ _ Z,f.get _ _ Z,trivial⟩,f.d,G1,[itN],hl1,m,_,_,Z,Z,oN⟩
 ·refine Ai f Z hc1 ?_
  refine Al ?_
  have⟨F,hF,hd⟩:=bind_some hd
  refine Ad ?_
  refine A3 0 0 (ds:=[aa]) m Bv f Z Z Z Z Z λa f=>AE f Z call33 (Wk.C m ac hF) λv2 G2 Ho2 w hl2 m hQ2 a f=> ?_
  obtain⟨vF,itF,rfl,rfl,oF⟩:=hQ2
  obtain⟨G3,hl3,m,hA⟩:=oF.stamp (RI.mono _) m
  refine CG (cs:=[sn]) zeroValue56 m f Z Z λba w a m f=>Bz 0 0 (ds:=[vF]) m sizeOf56 f Z Z hA.cells (BG hA.one1 BU) Z (lb Z) Z λw m=>Aa (Af (Ad ?_))
  refine AK 0 0 m hPl56 f Z Z Z Z λa f=>AT underlying56 f Z Z hA λa f=>Ab f Z λa f=>Aa ?_
  have hle3:GLe G G3:=gt hl1 (gt hl2 hl3)
  refine AB (λa w=>y=([],false)∧∃(G':GH),GLe G3 G'∧Fr a 30 []∧Mem W G' w (ib ba 56 [vF]::ib bg 27 [aa]::H)) ?_ ?_
  ·refine Aj ?_
   refine Ay (fun(i:Int) a w=>∃(G':GH),GLe G3 G'∧Fr a 30 [(4,(pb ba)),(13,vF),(14,(iv (F.length:Int))),(15,(iv i))]∧Mem W G' w (ib ba 56 [vF]::ib bg 27 [aa]::H)) hd ⟨_,gr,f.k Z,m⟩ ?_
   clear hd f m
   rintro i o hs hqq a w ⟨G4,hl4,f,m⟩
   have hA:=rd1 hl4 hA
   unfold D.H0 at hs
   refine Ad ?_
   refine Ah f Z Z AD λa f=>Aa (Af ?_)
   rcases Ae hs with⟨hc2,hs⟩|⟨hc2,hs⟩
   ·refine Ak f Z hc2 ?_
    refine Al ?_
    have⟨near,hn,hs⟩:=bind_some hs
    have⟨r,hr,hs⟩:=bind_some hs
    refine Af (Aj (Ad ?_))
    refine Ab f Z λa f=>Bk hT56 f Z Z Z hA hn λp5 c5 a g5 h5 f=> ?_
    subst h5
    refine AG m AS f Z Z g5 λa f=>CG (cs:=[(.int .u32 0)]) zeroValue75 m f Z Z λbn w a m f=>Ac f Z λa f=>Bz 0 0 (ds:=[(.int .u32 near)]) m sizeOf75 f Z Z Z (BG Z BU) Z (lb Z) Z λw m=>Av ?_
    refine CG (cs:=[(.int .u32 0)]) zeroValue75 m f Z Z λbf w a m f=>Bz 0 0 (ds:=[(.int .u32 0)]) m sizeOf75 f Z Z Z (BG Z BU) Z (lb Z) Z λw m=>Av ?_
    refine AK 2 0 m hPl56 f Z Z Z Z λa f=>AT underlying56 f Z Z hA λa f=>l_makeFunc (vs:=[]) (us:=[(pb bf),(pb bn),(pb ba)]) f Z Z Z λa f=>AE f Z call84 (Wk.g1 (its:=clIts bf bn ba near vF) call85 (Wk.f1 hW hA) Bn _ _ _ _ _ _ _ _ _ gr m hr) λv6 G6 Ho6 w hl6 m hQ6 a f=> ?_
    obtain⟨rfl,rfl⟩:=hQ6
    refine Aa ?_
    rcases Ae hs with⟨hc3,hs⟩|⟨hc3,hs⟩
    ·refine Ak f Z hc3 ?_
     have⟨l,hl,hs⟩:=bind_some hs
     have⟨o2,ho2,hs⟩:=bind_some hs
     obtain rfl:=sj hs
     obtain rfl:=hqq _ rfl
     refine Ad ?_
     refine Ab f Z λa f=>AO (R:=R0) (xs:=([i]:LI)) (RI.one _) m T49 f Z Z Z (by decide) (All2.cons Z (All2.nil _)) λit7 v7 w a m o7 f=>AK 1 0 m AS f Z Z Z Z λa f=>AE f Z call66 (Wk.T hW m hl) λv8 G8 Ho8 w hl8 m hQ8 a f=> ?_
     obtain⟨vl,itl,rfl,rfl,ol⟩:=hQ8
     have o7:=od1 hl8 o7
     refine Bj (RI.one _) 1 m o7 Z T49 Z (by decide) f Z Z Z (Ow.src (j:=0) ol m Z) ho2 λit9 v9 w a m o9 f=>Ac f Z λa f=>Ac f Z λa f=>Aa ?_
     refine Ap ?_
     have m:Mem W G8 w (it9::H):=((((m.tail.eraseAt 1).eraseAt 1).eraseAt 1).eraseAt 1)
     exact⟨[v9,.bool true],⟨f.get _ _ Z,f.get _ _ Z,trivial⟩,f.d,G8,[it9],gt hle3 (gt hl4 (gt hl6 hl8)),m,_,_,Z,Z,o9⟩
    ·refine Ai f Z hc3 ?_
     obtain rfl:=sj hs
     refine Al ?_
     refine An ?_
     refine Ah f Z Z Au λa f=>Ab f Z λa f=>Aa ?_
     exact⟨_,Z,G6,gt hl4 hl6,f.k Z,m.tail.tail⟩
   ·refine Ai f Z hc2 ?_
    refine Ax Z ?_
    obtain rfl:=sj hs
    obtain rfl:=hqq _ rfl
    exact⟨Z,G4,hl4,f.weak trivial,m⟩
  ·clear hd f m
   rintro a w ⟨rfl,G4,hl4,f,m⟩
   refine Ad ?_
   refine Ac f Z λa f=>Ac f Z λa f=>Aa ?_
   refine Ap ?_
   have m:Mem W G4 w H:=m.tail.tail
   obtain⟨itN,m,oN⟩:=Ow.nil R0 2 m
   exact⟨[.slice none 0 0,.bool false],⟨f.get _ _ Z,f.get _ _ Z,trivial⟩,f.d,G4,[itN],gt hle3 hl4,m,_,_,Z,Z,oN⟩
end Go.Proofs.YtjhajfcggfhbmaaDoor

set_option maxRecDepth 100000
namespace Go.Proofs.YtjhajfcggfhbmaaDoor
open Go Go.Sx
open Go.Proofs.Tryd Go.Proofs.YtjhajfcggfhbmaaDoor.Tryd IntKind
variable {W w : World} {G : GH} {H : List Itm}
theorem T54 :SlT prog 54 75 1 4 (.int .u32 0):=⟨underlying54,Tryd.t75,by kernel_rfl,by kernel_rfl,by kernel_rfl,by kernel_rfl⟩
theorem Wk.t {x0:Int}(m:Mem W G w (H)){y:Int}(hd:D.t x0=some y):
  Calls prog 94 #[(iv x0)] w (Res W G H (λ_ Ho v=>Ho=[]∧v=(.int .u32 y))):=by
 refine Ar (args:=[(iv x0)]) (N:=6) [.tmp 2] func94 Z Z (lb Z) Z λa f=> ?_
 unfold D.t at hd
 refine Ad ?_
 refine Ac f Z λa f=>Av ?_
 refine Ab f Z λa f=> ?_
 obtain⟨aa,hd⟩:=Dl hd
 refine l_o f (r_shl (f.e Z) (f.e Z) aa) λa f=>Ah f Z Z AI λa f=>Ac f Z λa f=>Aa ?_
 refine Ap ?_
 obtain rfl:=sj hd
 exact⟨[(.int .u32 (IntKind.u32.wrap ((ishl .u32 1 x0)-1)))],f.g Z,f.d,_,[],gr,m,Z,Z⟩
theorem Wk.r {v0:Value}{x0:LI}(m:Mem W G w (H))(h0:RSl (RI .u32) G v0 x0){y:Int}(hd:D.r x0=some y):
  Calls prog 68 #[v0] w (Res W G H (λ_ Ho v=>Ho=[]∧v=(.int .u32 y))):=by
 refine Ar (args:=[v0]) (N:=6) [.tmp 2] func68 Z Z (lb Z) Z λa f=> ?_
 unfold D.r at hd
 refine Ad ?_
 refine Ac f Z λa f=>Av ?_
 refine Ab f Z λa f=>AT underlying56 f Z Z h0 λa f=> ?_
 have⟨aa,ab,hd⟩:=bind_some hd
 refine A4 f Z call94 (Wk.t m ab) λac w ad m a f=>Ac f Z λa f=>Aa ?_
 refine Ap ?_
 obtain rfl:=sj hd
 exact⟨[(.int .u32 aa)],f.g Z,f.d,_,[],ad,m,Z,Z⟩
theorem Wk.N {v0:Value}{x0:LI}(hW:Br W)(m:Mem W G w (H))(h0:RSl (RI .u32) G v0 x0){y:(LI)}(hd:D.N x0=some y):
  Calls prog 79 #[v0] w (Res W G H (λG' Ho v=>∃r0:Value,∃i0:Itm,Ho=[i0]∧r0=v∧Ow R0 3 G' i0 r0 y∧CY r0=y.isEmpty)):=by
 refine Ar (args:=[v0]) (N:=42) [.tmp 2] func79 Z Z (lb Z) Z λa f=> ?_
 unfold D.N at hd
 refine Ad ?_
 refine Ac f Z λa f=>Av ?_
 refine AO (R:=R0) (xs:=([]:LI)) (RI.one _) m T71 f Z Z Z (by decide) (All2.nil _) λaa ab w a m ac f=>Ac f Z λa f=>Aa (Af (Ad ?_))
 refine Ab f Z λa f=> ?_
 have⟨ad,ae,hd⟩:=bind_some hd
 refine A4 f Z call68 (Wk.r m h0 ae) λaf w ag m a f=> ?_
 have h0:=rd1 ag h0
 have ac:=od1 ag ac
 refine Ac f Z λa f=>Aa ?_
 have⟨ah,ai,hd⟩:=bind_some hd
 refine AB (λa w=>∃q_275':LI,ah= .inl q_275'∧∃aj:LI,aj=q_275'∧∃(ak:GH) (al:Value) (am:Itm),GLe af ak∧Fr a 42 [(3,al)]∧Mem W ak w (am::H)∧Ow R0 3 ak am al aj) ?_ ?_
 ·refine Aj ?_
  refine Ay (λan a w=>∃ao:LI,∃ap:Int,(ao,ap)=an∧∃(aq:GH) (ar:Value) (au:Itm),GLe af aq∧Fr a 42 [(0,v0),(3,ar),(4,(.int .u32 ap))]∧Mem W aq w (au::H)∧Ow R0 3 aq au ar ao) ai ⟨_,_,Z,_,ab,aa,gr,f.k Z,m,ac⟩ ?_
  clear ai f m
  rintro an av aw ax a w ⟨ao,ap,rfl,aq,ar,au,ay,f,m,az⟩
  have h0:=rd1 ay h0
  refine Af (Ad ?_)
  refine Ab f Z λa f=>Ah f Z Z Dr λa f=>Aa ?_
  rcases Ae aw with⟨aA,aw⟩|⟨aA,aw⟩
  ·refine Ak f Z aA ?_
   refine Al ?_
   refine Aj (Ad ?_)
   refine Ac f Z λa f=>Aa (Af (Ad ?_))
   refine Ab f Z λa f=> ?_
   have⟨aB,aC,aw⟩:=bind_some aw
   refine AE f Z call91 (Wk.f hW m aC) λaD aE aF w aG m aH a f=> ?_
   obtain⟨aI,aJ,rfl,rfl,aK⟩:=aH
   have h0:=rd1 aG h0
   have az:=od1 aG az
   refine B2 0 m aK Z underlying71 f Z Z λa f=>Ab f Z λa f=>Aa ?_
   have⟨aL,aM,aw⟩:=bind_some aw
   refine AB (λa w=>∃aN:Int,aN=aL∧∃(aO:GH),GLe aE aO∧Fr a 42 [(0,v0),(3,ar),(4,(.int .u32 ap)),(5,(iv aN))]∧Mem W aO w (au::H)) ?_ ?_
   ·refine Aj ?_
    have m:=m.fr 1
    refine Ay (λaP a w=>∃aQ:Int,aQ=aP∧∃(aR:GH),GLe aE aR∧Fr a 42 [(0,v0),(3,ar),(4,(.int .u32 ap)),(5,(iv (-1))),(14,aI),(15,(iv (aB.length:Int))),(16,(iv aQ))]∧Mem W aR w (au::aJ::H)) aM ⟨_,Z,_,gr,f.k Z,m⟩ ?_
    clear aM f m
    rintro aP aS aT aU a w ⟨aQ,rfl,aR,aV,f,m⟩
    have h0:=rd1 aV h0
    have aK:=od1 aV aK
    refine Ad ?_
    refine Ah f Z Z AD λa f=>Aa (Af ?_)
    rcases Ae aT with⟨aW,aT⟩|⟨aW,aT⟩
    ·refine Ak f Z aW ?_
     refine Al ?_
     refine Af (Aj (Ad ?_))
     have⟨aX,aY,aT⟩:=bind_some aT
     refine A2 1 m aK Z T71 f Z Z Z aY λaZ a a0 f=>Ce 1 m aK Z Pl3 f Z Z a0 aY λa1 a a2 f=> ?_
     subst a2
     refine Ac f Z λa f=>Av ?_
     refine Ab f Z λa f=>Ab f Z λa f=>Ab f Z λa f=> ?_
     have⟨a3,a4,aT⟩:=bind_some aT
     refine Bk T56 f Z Z Z h0 a4 λa5 a6 a a7 a8 f=> ?_
     subst a8
     refine AG m AS f Z Z a7 λa f=>Ab f Z λa f=>Ah f Z Z Cx λa f=> ?_
     have⟨a9,ba,aT⟩:=bind_some aT
     refine A4 f Z call86 (Wk.y hW m h0 ba) λbb w bc m a f=>Ah f Z Z BC λa f=>Aa ?_
     rcases Ae aT with⟨bd,aT⟩|⟨bd,aT⟩
     ·refine Ak f Z bd ?_
      refine Ad ?_
      refine Ab f Z λa f=>Ac f Z λa f=>Aa ?_
      refine Ax Z ?_
      have m:=m.eraseAt 1
      obtain rfl:=sj aT
      obtain rfl:=aU _ rfl
      exact⟨_,Z,_,(gt aV bc),f.k Z,m⟩
     ·refine Ai f Z bd ?_
      refine Al ?_
      refine An ?_
      refine Ah f Z Z Au λa f=>Ab f Z λa f=>Aa ?_
      obtain rfl:=sj aT
      exact⟨_,Z,_,Z,_,(gt aV bc),f.k Z,m⟩
    ·refine Ai f Z aW ?_
     refine Ax Z ?_
     have m:=m.eraseAt 1
     obtain rfl:=sj aT
     obtain rfl:=aU _ rfl
     exact⟨_,Z,_,aV,f.k Z,m⟩
   ·rintro a w ⟨aN,rfl,aO,be,f,m⟩
    have az:=od1 be az
    refine Af (Ad ?_)
    refine Ab f Z λa f=>Ah f Z Z AD λa f=>Aa ?_
    rcases Ae aw with⟨bf,aw⟩|⟨bf,aw⟩
    ·refine Ak f Z bf ?_
     refine Ad ?_
     refine Ac f Z λa f=>Aa ?_
     refine Ap ?_
     obtain⟨bg,m,bh⟩:=Ow.nil R0 3 m
     have m:=m.eraseAt 1
     obtain rfl:=sj aw
     obtain rfl:=ax _ rfl
     obtain rfl:=sj hd
     exact⟨[sn],f.g Z,f.d,_,[bg],(gt ag (gt ay (gt aG be))),m,_,_,Z,Z,bh,Z⟩
    ·refine Ai f Z bf ?_
     refine Al ?_
     refine Ad ?_
     refine Ab f Z λa f=>Ab f Z λa f=> ?_
     have⟨bi,bj,aw⟩:=bind_some aw
     refine A4 f Z call74 (Wk.e m bj) λbk w bl m a f=> ?_
     have az:=od1 bl az
     refine Ah f Z Z Cv λa f=>Ac f Z λa f=>Aa (An ?_)
     refine Ab f Z λa f=>Ab f Z λa f=>AO (R:=R0) (xs:=([aN]:LI)) (RI.one _) m T71 f Z Z Z (by decide) (All2.cons Z (All2.nil _)) λbm bn w a m bo f=> ?_
     have⟨bp,bq,aw⟩:=bind_some aw
     refine Bj (RI.one _) 1 m az Z T71 Z (by decide) f Z Z Z (Ow.src (j:=0) bo m Z) bq λbr bs w a m bt f=>Ac f Z λa f=>Aa ?_
     have m:=m.fr 1
     have m:=m.eraseAt 1
     obtain rfl:=sj aw
     exact⟨_,Z,_,_,Z,_,bs,br,(gt ay (gt aG (gt be bl))),f.k Z,m,bt⟩
  ·refine Ai f Z aA ?_
   refine Ax Z ?_
   obtain rfl:=sj aw
   obtain rfl:=ax _ rfl
   exact⟨_,Z,_,Z,_,ar,au,ay,f.k Z,m,az⟩
 ·rintro a w ⟨_,rfl,aj,rfl,ak,al,am,bu,f,m,bv⟩
  refine Ad ?_
  refine Ab f Z λa f=>Ac f Z λa f=>Aa ?_
  refine Ap ?_
  have⟨_,bw,hd⟩:=bind_some hd
  have hx_555':=Ow.notNil 0 m bv rfl bw
  obtain rfl:=sj hd
  exact⟨[al],f.g Z,f.d,_,[am],(gt ag bu),m,_,_,Z,Z,bv,hx_555'⟩
theorem Wk.L {W:World}(hW:Br W)(n:Nat):∀{w:World} {G:GH} {H:List Itm} {v0 v4:Value} {it4:Itm} {x0:LI} {x1 x2 x3:Int} {x4:LI} (m:Mem W G w (it4::H)) (h0:RSl (RI .u32) G v0 x0) (o4:Ow (RI .u32) 75 G it4 v4 x4) {y:(LI)} (hd:D.L n x0 x1 x2 x3 x4=some y),
  Calls prog 99 #[v0,(.int .u32 x1),(.int .u32 x2),(.int .u32 x3),v4] w (Res W G H (λG' Ho v=>∃r0:Value,∃i0:Itm,Ho=[i0]∧r0=v∧Ow (RI .u32) 75 G' i0 r0 y)):=by
 induction n with
 |zero=>intros;rename_i hd;simp[D.L] at hd
 |succ fuel ih=>
  intro w G H v0 v4 it4 x0 x1 x2 x3 x4 m h0 o4 y hd
  refine Ar (args:=[v0,(.int .u32 x1),(.int .u32 x2),(.int .u32 x3),v4]) (N:=58) [.tmp 10] func99 Z Z (lb Z) Z λa f=> ?_
  unfold D.L at hd
  refine Ad ?_
  refine Ac f Z λa f=>Aa (Af (Ad ?_))
  refine Ab f Z λa f=>Ah f Z Z BC λa f=>Aa ?_
  rcases Ae hd with⟨aa,hd⟩|⟨aa,hd⟩
  ·refine Ak f Z aa ?_
   refine Af (Ad ?_)
   refine Ab f Z λa f=>Ah f Z Z BC λa f=>Aa ?_
   have⟨ab,ac,hd⟩:=bind_some hd
   refine AB (λa w=>∃ad:LI,ad=ab∧∃(ae:GH) (af:Value) (ag:Itm),GLe G ae∧Fr a 58 [(4,af)]∧Mem W ae w (ag::H)∧Ow (RI .u32) 75 ae ag af ad) ?_ ?_
   ·rcases Ae ac with⟨ah,ac⟩|⟨ah,ac⟩
    ·refine Ak f Z ah ?_
     refine An ?_
     refine Ab f Z λa f=>Ab f Z λa f=>AO (R:=(RI .u32)) (xs:=([x1]:LI)) (RI.one _) m T54 f Z Z Z (by decide) (All2.cons Z (All2.nil _)) λai aj w a m ak f=> ?_
     have⟨al,am,ac⟩:=bind_some ac
     refine Bj (RI.one _) 1 m o4 Z T54 Z (by decide) f Z Z Z (Ow.src (j:=0) ak m Z) am λan ao w a m ap f=>Ac f Z λa f=>Aa ?_
     have m:=m.fr 1
     have m:=m.eraseAt 1
     obtain rfl:=sj ac
     exact⟨_,Z,_,ao,an,gr,f.k Z,m,ap⟩
    ·refine Ai f Z ah ?_
     refine Al ?_
     obtain rfl:=sj ac
     exact⟨_,Z,_,v4,it4,gr,f.k Z,m,o4⟩
   ·rintro a w ⟨ad,rfl,ae,af,ag,aq,f,m,ar⟩
    refine Ad ?_
    refine Ab f Z λa f=>Ac f Z λa f=>Aa ?_
    refine Ap ?_
    obtain rfl:=sj hd
    exact⟨[af],f.g Z,f.d,_,[ag],aq,m,_,_,Z,Z,ar⟩
  ·refine Ai f Z aa ?_
   refine Al ?_
   refine Af (Ad ?_)
   refine Ab f Z λa f=> ?_
   have⟨au,av,hd⟩:=bind_some hd
   refine AE f Z call91 (Wk.f hW m av) λaw ax ay w az m aA a f=> ?_
   obtain⟨aB,aC,rfl,rfl,aD⟩:=aA
   have h0:=rd1 az h0
   have o4:=od1 az o4
   refine B2 0 m aD Z underlying71 f Z Z λa f=>Ab f Z λa f=>Aa ?_
   have⟨aE,aF,hd⟩:=bind_some hd
   refine AB (λa w=>∃aG:LI,aG=aE∧∃(aH:GH) (aI:Value) (aJ:Itm),GLe ax aH∧Fr a 58 [(4,aI)]∧Mem W aH w (aJ::H)∧Ow (RI .u32) 75 aH aJ aI aG) ?_ ?_
   ·refine Aj ?_
    have m:=m.fr 1
    refine Ay (λaK a w=>∃aL:Int,∃aM:Int,∃aN:LI,∃aO:Int,(aL,aM,aN,aO)=aK∧∃(aP:GH) (aQ:Value) (aR:Itm),GLe ax aP∧Fr a 58 [(0,v0),(1,(.int .u32 x1)),(2,(.int .u32 aL)),(3,(.int .u32 aM)),(4,aQ),(23,aB),(24,(iv (au.length:Int))),(25,(iv aO))]∧Mem W aP w (aR::aC::H)∧Ow (RI .u32) 75 aP aR aQ aN) aF ⟨_,_,_,_,Z,_,v4,it4,gr,f.k Z,m,o4⟩ ?_
    clear aF f m
    rintro aK aS aT aU a w ⟨aL,aM,aN,aO,rfl,aP,aQ,aR,aV,f,m,aW⟩
    have h0:=rd1 aV h0
    have aD:=od1 aV aD
    refine Ad ?_
    refine Ah f Z Z AD λa f=>Aa (Af ?_)
    rcases Ae aT with⟨aX,aT⟩|⟨aX,aT⟩
    ·refine Ak f Z aX ?_
     refine Al ?_
     refine Af (Aj (Ad ?_))
     have⟨aY,aZ,aT⟩:=bind_some aT
     refine A2 1 m aD Z T71 f Z Z Z aZ λa0 a a1 f=>Ce 1 m aD Z Pl3 f Z Z a1 aZ λa2 a a3 f=> ?_
     subst a3
     refine Ac f Z λa f=>Aa (Af ?_)
     refine A8 18 AF (by kernel_rfl) m ?_
     refine Ag 0 18 Z f Z λa f=>Ag 1 18 Z f Z λa f=>Ag 2 18 Z f Z λa f=> ?_
     have⟨a4,a5,aT⟩:=bind_some aT
     refine Ck (i:=3) 18 Z (by kernel_rfl) Z f Z Z Z call74 (λ_ _ w a6 m=>Wk.e m a5) λa f=>q_p 4 18 Z f (λ_=>AA (f.e Z) (f.e Z) b_or) λa f=>Ag 5 18 Z f Z λa f=>Ag 6 18 Z f Z λa f=>Ag 7 18 Z f Z λa f=> ?_
     have⟨a7,a8,aT⟩:=bind_some aT
     refine Bx 8 18 T56 h0 a8 Z f Z Z λa9 ba a bb bc f=> ?_
     subst bc
     refine By 9 18 AS bb Z f Z λa f=>q_p 10 18 Z f (λ_=>AA (f.e Z) (f.e Z) Cx) λa f=>Ag 11 18 Z f Z λa f=>Ag 12 18 Z f Z λa f=>Ag 13 18 Z f Z λa f=> ?_
     have⟨bd,be,aT⟩:=bind_some aT
     refine Bx 14 18 T56 h0 be Z f Z Z λbf bg a bh bi f=> ?_
     subst bi
     refine By 15 18 AS bh Z f Z λa f=>q_p 16 18 Z f (λ_=>AA (f.e Z) (f.e Z) Cx) λa f=>Ag 17 18 Z f Z λa f=>AP λbj w bk m=> ?_
     have h0:=rd1 bk h0
     have aW:=od1 bk aW
     have⟨bl,bm,aT⟩:=bind_some aT
     refine AE f Z call99 (ih m h0 aW bm) λbn bo bp w bq m br a f=> ?_
     obtain⟨bs,bt,rfl,rfl,bu⟩:=br
     refine Ac f Z λa f=>Av ?_
     refine Ab f Z λa f=>Ab f Z λa f=> ?_
     have⟨bv,bw,aT⟩:=bind_some aT
     refine A4 f Z call74 (Wk.e m bw) λbx w bz m a f=> ?_
     have bu:=od1 bz bu
     refine Ah f Z Z Cv λa f=>Ac f Z λa f=>Aa (An ?_)
     refine Ab f Z λa f=>Ab f Z λa f=> ?_
     have⟨bA,bB,aT⟩:=bind_some aT
     refine A4 f Z call74 (Wk.e m bB) λbC w bD m a f=> ?_
     have bu:=od1 bD bu
     refine Ah f Z Z b_or λa f=>Ac f Z λa f=>Aa (An ?_)
     refine Ah f Z Z Au λa f=>Ab f Z λa f=>Aa ?_
     obtain rfl:=sj aT
     exact⟨_,Z,_,_,_,_,Z,_,bs,bt,(gt aV (gt bk (gt bq (gt bz bD)))),f.k Z,m,bu⟩
    ·refine Ai f Z aX ?_
     refine Ax Z ?_
     have m:=m.eraseAt 1
     obtain rfl:=sj aT
     obtain rfl:=aU _ rfl
     exact⟨_,Z,_,aQ,aR,aV,f.k Z,m,aW⟩
   ·rintro a w ⟨aG,rfl,aH,aI,aJ,bE,f,m,bF⟩
    refine Ad ?_
    refine Ab f Z λa f=>Ac f Z λa f=>Aa ?_
    refine Ap ?_
    obtain rfl:=sj hd
    exact⟨[aI],f.g Z,f.d,_,[aJ],(gt az bE),m,_,_,Z,Z,bF⟩
theorem Wk.l {v0 v4:Value}{it4:Itm}{x0:LI}{x1 x2 x3:Int}{x4:LI}(hW:Br W)(m:Mem W G w (it4::H))(h0:RSl (RI .u32) G v0 x0)(o4:Ow (RI .u32) 75 G it4 v4 x4){y:(LI)}(hd:D.l x0 x1 x2 x3 x4=some y):
  Calls prog 99 #[v0,(.int .u32 x1),(.int .u32 x2),(.int .u32 x3),v4] w (Res W G H (λG' Ho v=>∃r0:Value,∃i0:Itm,Ho=[i0]∧r0=v∧Ow (RI .u32) 75 G' i0 r0 y)):=by
 exact Wk.L hW Bn m h0 o4 hd
theorem Wk.a {x0 x1:Int}(hW:Br W)(m:Mem W G w (H)){y:Int}(hd:D.a x0 x1=some y):
  Calls prog 71 #[(.int .u32 x0),(.int .u32 x1)] w (Res W G H (λ_ Ho v=>Ho=[]∧v=(iv y))):=by
 refine Ar (args:=[(.int .u32 x0),(.int .u32 x1)]) (N:=10) [.tmp 4] func71 Z Z (lb Z) Z λa f=> ?_
 unfold D.a at hd
 refine Ad ?_
 refine Ac f Z λa f=>Av ?_
 refine Ab f Z λa f=> ?_
 have⟨aa,ab,hd⟩:=bind_some hd
 refine AE f Z call91 (Wk.f hW m ab) λac ad ae w af m ag a f=> ?_
 obtain⟨ah,ai,rfl,rfl,aj⟩:=ag
 refine Ab f Z λa f=> ?_
 have⟨ak,al,hd⟩:=bind_some hd
 refine AE f Z call91 (Wk.f hW m al) λam an ao w ap m aq a f=> ?_
 obtain⟨ar,au,rfl,rfl,av⟩:=aq
 have aj:=od1 ap aj
 have⟨aw,ax,hd⟩:=bind_some hd
 refine AE f Z call98 (Ow.lendCall (RI.mono _) 1 aj m Z (λay az m aA=>(Ow.lendCall (RI.mono _) 0 (od1 az av) m Z (λaB aC m aD=>Wk.u0 m (rd1 aC aA) aD ax) (λ_ _ _ _ h=>h))) (λ_ _ _ _ h=>h)) λaE aF aG w aH m aI a f=> ?_
 obtain⟨rfl,rfl⟩:=aI
 refine Ac f Z λa f=>Aa ?_
 refine Ap ?_
 have m:Mem W aF w H:=Mem.drop (H':=[au,ai]) m
 obtain rfl:=sj hd
 exact⟨[(iv aw)],f.g Z,f.d,_,[],(gt af (gt ap aH)),m,Z,Z⟩
theorem Wk.F0 {v0:Value}{it0:Itm}{x0:LI}{x1 x2:Int}(hW:Br W)(m:Mem W G w (it0::H))(o0:Ow (RI .u32) 75 G it0 v0 x0){y:(LI)}(hd:D.F0 x0 x1 x2=some y):
  Calls prog 110 #[v0,(iv x1),(iv x2),(.func (.func 71) #[] #[])] w (Res W G H (λG' Ho _=>∃i0:Itm,Ho=[i0]∧Ow (RI .u32) 75 G' i0 v0 y)):=by
 refine Ar (args:=[v0,(iv x1),(iv x2),(.func (.func 71) #[] #[])]) (N:=53) [] func110 Z Z (lb Z) Z λa f=> ?_
 unfold D.F0 at hd
 refine Ad ?_
 refine Ab f Z λa f=>Ah f Z Z Au λa f=>Ac f Z λa f=>Aa ?_
 have⟨aa,ab,hd⟩:=bind_some hd
 refine AB (λa w=>∃ac:LI,ac=aa∧∃(ad:GH) (ae:Itm),GLe G ad∧Fr a 53 []∧Mem W ad w (ae::H)∧Ow (RI .u32) 75 ad ae v0 ac) ?_ ?_
 ·refine Aj ?_
  refine Ay (λaf a w=>∃ag:LI,∃ah:Int,(ag,ah)=af∧∃(ai:GH) (aj:Itm),GLe G ai∧Fr a 53 [(0,v0),(1,(iv x1)),(2,(iv x2)),(3,(.func (.func 71) #[] #[])),(8,(iv ah))]∧Mem W ai w (aj::H)∧Ow (RI .u32) 75 ai aj v0 ag) ab ⟨_,_,Z,_,it0,gr,f.k Z,m,o0⟩ ?_
  clear ab f m
  rintro af ak al am a w ⟨ag,ah,rfl,ai,aj,an,f,m,ao⟩
  refine Af (Ad ?_)
  refine Ab f Z λa f=>Ab f Z λa f=>Ah f Z Z AD λa f=>Aa ?_
  rcases Ae al with⟨ap,al⟩|⟨ap,al⟩
  ·refine Ak f Z ap ?_
   refine Al ?_
   refine Af (Aj (Ad ?_))
   refine Ab f Z λa f=>Ac f Z λa f=>Aa ?_
   have⟨aq,ar,al⟩:=bind_some al
   refine AB (λa w=>∃au:LI,au=aq∧∃(av:GH) (aw:Itm),GLe ai av∧Fr a 53 [(0,v0),(1,(iv x1)),(2,(iv x2)),(3,(.func (.func 71) #[] #[])),(8,(iv ah))]∧Mem W av w (aw::H)∧Ow (RI .u32) 75 av aw v0 au) ?_ ?_
   ·refine Aj ?_
    refine Ay (λax a w=>∃ay:LI,∃az:Int,(ay,az)=ax∧∃(aA:GH) (aB:Itm),GLe ai aA∧Fr a 53 [(0,v0),(1,(iv x1)),(2,(iv x2)),(3,(.func (.func 71) #[] #[])),(8,(iv ah)),(9,(iv az))]∧Mem W aA w (aB::H)∧Ow (RI .u32) 75 aA aB v0 ay) ar ⟨_,_,Z,_,aj,gr,f.k Z,m,ao⟩ ?_
    clear ar f m
    rintro ax aC aD aE a w ⟨ay,az,rfl,aA,aB,aF,f,m,aG⟩
    refine Af (Af ?_)
    refine A8 17 AF (by kernel_rfl) m ?_
    refine Ag 0 17 Z f Z λa f=>Ag 1 17 Z f Z λa f=>q_p 2 17 Z f (λ_=>AA (f.e Z) (f.e Z) CV) λa f=>Ag 3 17 Z f Z λa f=> ?_
    have⟨aH,aI,aD⟩:=bind_some aD
    refine Cr (fuel':=0) (listed':= #[true,true,true,true,true,true,true,true,true,true,true,true,true,true,true,true,true]) (λa=>Fr a 53 [(0,v0),(1,(iv x1)),(2,(iv x2)),(3,(.func (.func 71) #[] #[])),(8,(iv ah)),(9,(iv az)),(18,(iv az)),(19,(iv x1)),(20,(.bool (decide (x1<az)))),(21,(.bool (decide (x1<az)))),(34,(.bool aH))]) ?_ ?_
    ·intro a f
     refine AP λaJ w aK m=> ?_
     have aG:=od1 aK aG
     refine Aa ?_
     rcases Ae aD with⟨aL,aD⟩|⟨aL,aD⟩
     ·refine Ak f Z aL ?_
      refine Al ?_
      refine Af (Aj ?_)
      refine BI AF m ?_
      refine p_p 2 Z f (λ_=>A5 (f.e Z)) λa f=>p_p 3 Z f (λ_=>A5 (f.e Z)) λa f=>p_p 4 Z f (λ_=>AA (f.e Z) (f.e Z) AI) λa f=>BL 28015 12 (by kernel_rfl) Z ?_
      refine Ag 0 28015 Z f Z λa f=>Ag 1 28015 Z f Z λa f=>Ag 5 28015 Z f Z λa f=>Ag 6 28015 Z f Z λa f=>q_p 7 28015 Z f (λ_=>AA (f.e Z) (f.e Z) AI) λa f=> ?_
      have⟨aM,aN,aD⟩:=bind_some aD
      refine AL 8 28015 0 m aG T54 aN Z f Z Z λaO a aP f=>A1 9 28015 0 aG AS aP aN Z f Z λaQ a aR f=> ?_
      subst aR
      refine Ag 10 28015 Z f Z λa f=>Ag 11 28015 Z f Z λa f=> ?_
      have⟨aS,aT,aD⟩:=bind_some aD
      refine AL 12 28015 0 m aG T54 aT Z f Z Z λaU a aV f=>A1 13 28015 0 aG AS aV aT Z f Z λaW a aX f=> ?_
      subst aX
      have⟨aY,aZ,aD⟩:=bind_some aD
      refine AL 14 28015 0 m aG T54 aZ Z f Z Z λa0 a a1 f=>AP λa2 w a3 m=> ?_
      have aG:=od1 a3 aG
      refine Az 0 m aG Z sizeOf75 f Z Z a1 aZ Z Z Z λa4 w m a5=> ?_
      have⟨a6,a7,aD⟩:=bind_some aD
      refine A2 0 m a5 Z T54 f Z Z Z a7 λa8 a a9 f=>Az 0 m a5 Z sizeOf75 f Z Z a9 a7 Z Z Z λba w m bb=>Aa (An ?_)
      refine Ab f Z λa f=>Ah f Z Z AI λa f=>Ac f Z λa f=>Aa ?_
      obtain rfl:=sj aD
      exact⟨_,Z,_,_,Z,_,ba,(gt aF (gt aK a3)),f.k Z,m,bb⟩
     ·refine Ai f Z aL ?_
      refine Ax Z ?_
      obtain rfl:=sj aD
      obtain rfl:=aE _ rfl
      exact⟨_,Z,_,aB,(gt aF aK),f.k Z,m,aG⟩
    ·intro bc
     rcases Ae aI with⟨bd,aI⟩|⟨bd,aI⟩
     ·refine Ag (hw:=wo f bd) 4 17 Z f Z λa f=> ?_
      refine Ag (hw:=wo f bd) 5 17 Z f Z λa f=>Ag (hw:=wo f bd) 6 17 Z f Z λa f=> ?_
      have⟨be,bf,aI⟩:=bind_some aI
      refine AL (hw:=wo f bd) 7 17 0 m aG T54 bf Z f Z Z λbg a bh f=>A1 (hw:=wo f bd) 8 17 0 aG AS bh bf Z f Z λbi a bj f=> ?_
      subst bj
      refine Ag (hw:=wo f bd) 9 17 Z f Z λa f=>Ag (hw:=wo f bd) 10 17 Z f Z λa f=>q_p (hw:=wo f bd) 11 17 Z f (λ_=>AA (f.e Z) (f.e Z) AI) λa f=> ?_
      have⟨bk,bl,aI⟩:=bind_some aI
      refine AL (hw:=wo f bd) 12 17 0 m aG T54 bl Z f Z Z λbm a bn f=>A1 (hw:=wo f bd) 13 17 0 aG AS bn bl Z f Z λbo a bp f=> ?_
      subst bp
      have⟨bq,br,aI⟩:=bind_some aI
      refine BQ (i:=14) 17 Z (by kernel_rfl) Z f (Bo f Z Z Z bd) Z Z Z call71 (λ_ _ w bs m=>Wk.a hW m br) λa f=>q_p (hw:=wo f bd) 15 17 Z f (λ_=>AA (f.e Z) (f.e Z) AD) λa f=>q_p 16 17 Z f (λ_=>AV (f.e Z) bd (f.e Z)) λa f=> ?_
      obtain rfl:=sj aI
      exact bc _ (f.k Z)
     ·refine Aq 4 17 Z f bd λa f=> ?_
      refine Aq 5 17 Z f bd λa f=>Aq 6 17 Z f bd λa f=>Aq 7 17 Z f bd λa f=>Aq 8 17 Z f bd λa f=>Aq 9 17 Z f bd λa f=>Aq 10 17 Z f bd λa f=>Aq 11 17 Z f bd λa f=>Aq 12 17 Z f bd λa f=>Aq 13 17 Z f bd λa f=>Aq 14 17 Z f bd λa f=>Aq 15 17 Z f bd λa f=>q_p 16 17 Z f (λ_=>AZ (f.e Z) bd (f.e Z)) λa f=> ?_
      obtain rfl:=sj aI
      exact bc _ (f.k Z)
   ·rintro a w ⟨au,rfl,av,aw,bt,f,m,bu⟩
    refine An ?_
    refine Ab f Z λa f=>Ah f Z Z Au λa f=>Ac f Z λa f=>Aa ?_
    obtain rfl:=sj al
    exact⟨_,Z,_,_,Z,_,aw,(gt an bt),f.k Z,m,bu⟩
  ·refine Ai f Z ap ?_
   refine Ax Z ?_
   obtain rfl:=sj al
   obtain rfl:=am _ rfl
   exact⟨_,Z,_,aj,an,f.weak trivial,m,ao⟩
 ·rintro a w ⟨ac,rfl,ad,ae,bv,f,m,bw⟩
  obtain rfl:=sj hd
  exact⟨[],trivial,f.d,_,[ae],bv,m,_,Z,bw⟩
theorem Wk.C0 {v0:Value}{it0:Itm}{x0:LI}{x1 x2 x3:Int}(hW:Br W)(m:Mem W G w (it0::H))(o0:Ow (RI .u32) 75 G it0 v0 x0){y:(LI)}(hd:D.C0 x0 x1 x2 x3=some y):
  Calls prog 125 #[v0,(iv x1),(iv x2),(iv x3),(.func (.func 71) #[] #[])] w (Res W G H (λG' Ho _=>∃i0:Itm,Ho=[i0]∧Ow (RI .u32) 75 G' i0 v0 y)):=by
 refine Ar (args:=[v0,(iv x1),(iv x2),(iv x3),(.func (.func 71) #[] #[])]) (N:=82) [] func125 Z Z (lb Z) Z λa f=> ?_
 unfold D.C0 at hd
 refine Ad ?_
 refine Ab f Z λa f=>Ac f Z λa f=>Aa ?_
 have⟨aa,ab,hd⟩:=bind_some hd
 refine AB (λa w=>∃q_182':LI,aa= .inl q_182'∧∃ac:LI,ac=q_182'∧∃(ad:GH) (ae:Itm),GLe G ad∧Fr a 82 []∧Mem W ad w (ae::H)∧Ow (RI .u32) 75 ad ae v0 ac) ?_ ?_
 ·refine Aj ?_
  refine Ay (λaf a w=>∃ag:LI,∃ah:Int,(ag,ah)=af∧∃(ai:GH) (aj:Itm),GLe G ai∧Fr a 82 [(0,v0),(2,(iv x2)),(3,(iv x3)),(4,(.func (.func 71) #[] #[])),(10,(iv ah))]∧Mem W ai w (aj::H)∧Ow (RI .u32) 75 ai aj v0 ag) ab ⟨_,_,Z,_,it0,gr,f.k Z,m,o0⟩ ?_
  clear ab f m
  rintro af ak al am a w ⟨ag,ah,rfl,ai,aj,an,f,m,ao⟩
  refine Aj (Ad ?_)
  refine Ab f Z λa f=>Ah f Z Z b_mul λa f=>Ah f Z Z Au λa f=>Ac f Z λa f=>Aa (Af (Ad ?_))
  refine Ab f Z λa f=>Ab f Z λa f=>Ah f Z Z B3 λa f=>Aa ?_
  rcases Ae al with⟨ap,al⟩|⟨ap,al⟩
  ·refine Ak f Z ap ?_
   refine Ax Z ?_
   obtain rfl:=sj al
   obtain rfl:=am _ rfl
   exact⟨_,Z,_,Z,_,aj,an,f.weak trivial,m,ao⟩
  ·refine Ai f Z ap ?_
   refine Al ?_
   refine Af (Af ?_)
   refine A8 22 AF (by kernel_rfl) m ?_
   refine Ag 0 22 Z f Z λa f=>q_p 1 22 Z f (λ_=>AA (f.e Z) (f.e Z) Au) λa f=>Ag 2 22 Z f Z λa f=>q_p 3 22 Z f (λ_=>AA (f.e Z) (f.e Z) AD) λa f=>Ag 4 22 Z f Z λa f=> ?_
   have⟨aq,ar,al⟩:=bind_some al
   refine Cr (fuel':=0) (listed':= #[true,true,true,true,true,true,true,true,true,true,true,true,true,true,true,true,true,true,true,true,true,true]) (λa=>Fr a 82 [(0,v0),(2,(iv x2)),(3,(iv x3)),(4,(.func (.func 71) #[] #[])),(10,(iv ah)),(11,(iv (i64.wrap ((i64.wrap (2*ah))+1)))),(18,(.bool (decide (x2≤(i64.wrap ((i64.wrap (2*ah))+1)))))),(19,(iv (i64.wrap ((i64.wrap (2*ah))+1)))),(20,(iv (i64.wrap ((i64.wrap ((i64.wrap (2*ah))+1))+1)))),(21,(iv x2)),(22,(.bool (decide ((i64.wrap ((i64.wrap ((i64.wrap (2*ah))+1))+1))<x2)))),(23,(.bool (decide ((i64.wrap ((i64.wrap ((i64.wrap (2*ah))+1))+1))<x2)))),(40,(.bool aq))]) ?_ ?_
   ·intro a f
    refine AP λau w av m=> ?_
    have ao:=od1 av ao
    refine Aa ?_
    have⟨aw,ax,al⟩:=bind_some al
    refine AB (λa w=>∃ay:Int,ay=aw∧∃(az:GH),GLe au az∧Fr a 82 [(0,v0),(2,(iv x2)),(3,(iv x3)),(4,(.func (.func 71) #[] #[])),(10,(iv ah)),(11,(iv ay))]∧Mem W az w (aj::H)) ?_ ?_
    ·rcases Ae ax with⟨aA,ax⟩|⟨aA,ax⟩
     ·refine Ak f Z aA ?_
      refine An ?_
      refine Ab f Z λa f=>Ah f Z Z Au λa f=>Ac f Z λa f=>Aa ?_
      obtain rfl:=sj ax
      exact⟨_,Z,_,gr,f.k Z,m⟩
     ·refine Ai f Z aA ?_
      refine Al ?_
      obtain rfl:=sj ax
      exact⟨_,Z,_,gr,f.k Z,m⟩
    ·rintro a w ⟨ay,rfl,az,aB,f,m⟩
     have ao:=od1 aB ao
     refine Af (Af ?_)
     refine A8 16 AF (by kernel_rfl) m ?_
     refine Ag 0 16 Z f Z λa f=>Ag 1 16 Z f Z λa f=>Ag 2 16 Z f Z λa f=>Ag 3 16 Z f Z λa f=>q_p 4 16 Z f (λ_=>AA (f.e Z) (f.e Z) Au) λa f=> ?_
     have⟨aC,aD,al⟩:=bind_some al
     refine AL 5 16 0 m ao T54 aD Z f Z Z λaE a aF f=>A1 6 16 0 ao AS aF aD Z f Z λaG a aH f=> ?_
     subst aH
     refine Ag 7 16 Z f Z λa f=>Ag 8 16 Z f Z λa f=>Ag 9 16 Z f Z λa f=>q_p 10 16 Z f (λ_=>AA (f.e Z) (f.e Z) Au) λa f=> ?_
     have⟨aI,aJ,al⟩:=bind_some al
     refine AL 11 16 0 m ao T54 aJ Z f Z Z λaK a aL f=>A1 12 16 0 ao AS aL aJ Z f Z λaM a aN f=> ?_
     subst aN
     have⟨aO,aP,al⟩:=bind_some al
     refine BQ (i:=13) 16 Z (by kernel_rfl) Z f Z Z Z Z call71 (λ_ _ w aQ m=>Wk.a hW m aP) λa f=>q_p 14 16 Z f (λ_=>AA (f.e Z) (f.e Z) AD) λa f=>q_p 15 16 Z f (λ_=>Bc (f.e Z)) λa f=>AP λaR w aS m=> ?_
     have ao:=od1 aS ao
     refine Aa ?_
     rcases Ae al with⟨aT,al⟩|⟨aT,al⟩
     ·refine Ak f Z aT ?_
      refine Ap ?_
      obtain rfl:=sj al
      obtain rfl:=am _ rfl
      obtain rfl:=sj hd
      exact⟨[],trivial,f.d,_,[aj],(gt an (gt av (gt aB aS))),m,_,Z,ao⟩
     ·refine Ai f Z aT ?_
      refine Al ?_
      refine Af ?_
      refine BI AF m ?_
      refine p_p 4 Z f (λ_=>A5 (f.e Z)) λa f=>p_p 5 Z f (λ_=>A5 (f.e Z)) λa f=>p_p 6 Z f (λ_=>A5 (f.e Z)) λa f=>p_p 7 Z f (λ_=>AA (f.e Z) (f.e Z) Au) λa f=>BL 240021 17 (by kernel_rfl) Z ?_
      refine Ag 0 240021 Z f Z λa f=>Ag 1 240021 Z f Z λa f=>Ag 2 240021 Z f Z λa f=>q_p 3 240021 Z f (λ_=>AA (f.e Z) (f.e Z) Au) λa f=>Ag 8 240021 Z f Z λa f=>Ag 9 240021 Z f Z λa f=>Ag 10 240021 Z f Z λa f=>q_p 11 240021 Z f (λ_=>AA (f.e Z) (f.e Z) Au) λa f=> ?_
      have⟨aU,aV,al⟩:=bind_some al
      refine AL 12 240021 0 m ao T54 aV Z f Z Z λaW a aX f=>A1 13 240021 0 ao AS aX aV Z f Z λaY a aZ f=> ?_
      subst aZ
      refine Ag 14 240021 Z f Z λa f=>Ag 15 240021 Z f Z λa f=>Ag 16 240021 Z f Z λa f=>q_p 17 240021 Z f (λ_=>AA (f.e Z) (f.e Z) Au) λa f=> ?_
      have⟨a0,a1,al⟩:=bind_some al
      refine AL 18 240021 0 m ao T54 a1 Z f Z Z λa2 a a3 f=>A1 19 240021 0 ao AS a3 a1 Z f Z λa4 a a5 f=> ?_
      subst a5
      have⟨a6,a7,al⟩:=bind_some al
      refine AL 20 240021 0 m ao T54 a7 Z f Z Z λa8 a a9 f=>AP λba w bb m=> ?_
      have ao:=od1 bb ao
      refine Az 0 m ao Z sizeOf75 f Z Z a9 a7 Z Z Z λbc w m bd=> ?_
      have⟨be,bf,al⟩:=bind_some al
      refine A2 0 m bd Z T54 f Z Z Z bf λbg a bh f=>Az 0 m bd Z sizeOf75 f Z Z bh bf Z Z Z λbi w m bj=>Aa (An ?_)
      refine Ab f Z λa f=>Ac f Z λa f=>Aa ?_
      obtain rfl:=sj al
      exact⟨_,Z,_,_,Z,_,bi,(gt an (gt av (gt aB (gt aS bb)))),f.k Z,m,bj⟩
   ·intro bk
    rcases Ae ar with⟨bl,ar⟩|⟨bl,ar⟩
    ·refine Ag (hw:=wo f bl) 5 22 Z f Z λa f=> ?_
     refine Ag (hw:=wo f bl) 6 22 Z f Z λa f=>Ag (hw:=wo f bl) 7 22 Z f Z λa f=>Ag (hw:=wo f bl) 8 22 Z f Z λa f=>q_p (hw:=wo f bl) 9 22 Z f (λ_=>AA (f.e Z) (f.e Z) Au) λa f=> ?_
     have⟨bm,bn,ar⟩:=bind_some ar
     refine AL (hw:=wo f bl) 10 22 0 m ao T54 bn Z f Z Z λbo a bp f=>A1 (hw:=wo f bl) 11 22 0 ao AS bp bn Z f Z λbq a br f=> ?_
     subst br
     refine Ag (hw:=wo f bl) 12 22 Z f Z λa f=>Ag (hw:=wo f bl) 13 22 Z f Z λa f=>Ag (hw:=wo f bl) 14 22 Z f Z λa f=>q_p (hw:=wo f bl) 15 22 Z f (λ_=>AA (f.e Z) (f.e Z) Au) λa f=>q_p (hw:=wo f bl) 16 22 Z f (λ_=>AA (f.e Z) (f.e Z) Au) λa f=> ?_
     have⟨bs,bt,ar⟩:=bind_some ar
     refine AL (hw:=wo f bl) 17 22 0 m ao T54 bt Z f Z Z λbu a bv f=>A1 (hw:=wo f bl) 18 22 0 ao AS bv bt Z f Z λbw a bx f=> ?_
     subst bx
     have⟨bz,bA,ar⟩:=bind_some ar
     refine BQ (i:=19) 22 Z (by kernel_rfl) Z f (Bo f Z Z Z bl) Z Z Z call71 (λ_ _ w bB m=>Wk.a hW m bA) λa f=>q_p (hw:=wo f bl) 20 22 Z f (λ_=>AA (f.e Z) (f.e Z) AD) λa f=>q_p 21 22 Z f (λ_=>AV (f.e Z) bl (f.e Z)) λa f=> ?_
     obtain rfl:=sj ar
     exact bk _ (f.k Z)
    ·refine Aq 5 22 Z f bl λa f=> ?_
     refine Aq 6 22 Z f bl λa f=>Aq 7 22 Z f bl λa f=>Aq 8 22 Z f bl λa f=>Aq 9 22 Z f bl λa f=>Aq 10 22 Z f bl λa f=>Aq 11 22 Z f bl λa f=>Aq 12 22 Z f bl λa f=>Aq 13 22 Z f bl λa f=>Aq 14 22 Z f bl λa f=>Aq 15 22 Z f bl λa f=>Aq 16 22 Z f bl λa f=>Aq 17 22 Z f bl λa f=>Aq 18 22 Z f bl λa f=>Aq 19 22 Z f bl λa f=>Aq 20 22 Z f bl λa f=>q_p 21 22 Z f (λ_=>AZ (f.e Z) bl (f.e Z)) λa f=> ?_
     obtain rfl:=sj ar
     exact bk _ (f.k Z)
 ·rintro a w ⟨_,rfl,ac,rfl,ad,ae,bC,f,m,bD⟩
  obtain rfl:=sj hd
  exact⟨[],trivial,f.d,_,[ae],bC,m,_,Z,bD⟩
theorem Wk.Q0 {v0:Value}{it0:Itm}{x0:LI}{x1 x2:Int}(hW:Br W)(m:Mem W G w (it0::H))(o0:Ow (RI .u32) 75 G it0 v0 x0){y:(LI)}(hd:D.Q0 x0 x1 x2=some y):
  Calls prog 111 #[v0,(iv x1),(iv x2),(.func (.func 71) #[] #[])] w (Res W G H (λG' Ho _=>∃i0:Itm,Ho=[i0]∧Ow (RI .u32) 75 G' i0 v0 y)):=by
 refine Ar (args:=[v0,(iv x1),(iv x2),(.func (.func 71) #[] #[])]) (N:=60) [] func111 Z Z (lb Z) Z λa f=> ?_
 unfold D.Q0 at hd
 refine Ad ?_
 refine Ab f Z λa f=>Ac f Z λa f=>Av ?_
 refine Ac f Z λa f=>Av ?_
 refine Ab f Z λa f=>Ab f Z λa f=>Ah f Z Z AI λa f=>Ac f Z λa f=>Aa (Af (Ad ?_))
 refine Ab f Z λa f=>Ah f Z Z AI λa f=>Ah f Z Z (Dm Z) λa f=>Ac f Z λa f=>Aa ?_
 have⟨aa,ab,hd⟩:=bind_some hd
 refine AB (λa w=>∃ac:LI,ac=aa∧∃(ad:GH) (ae:Itm),GLe G ad∧Fr a 60 [(0,v0),(3,(.func (.func 71) #[] #[])),(8,(iv x1)),(9,(iv 0)),(10,(iv (i64.wrap (x2-x1))))]∧Mem W ad w (ae::H)∧Ow (RI .u32) 75 ad ae v0 ac) ?_ ?_
 ·refine Aj ?_
  refine Ay (λaf a w=>∃ag:LI,∃ah:Int,(ag,ah)=af∧∃(ai:GH) (aj:Itm),GLe G ai∧Fr a 60 [(0,v0),(3,(.func (.func 71) #[] #[])),(8,(iv x1)),(9,(iv 0)),(10,(iv (i64.wrap (x2-x1)))),(11,(iv ah))]∧Mem W ai w (aj::H)∧Ow (RI .u32) 75 ai aj v0 ag) ab ⟨_,_,Z,_,it0,gr,f.k Z,m,o0⟩ ?_
  clear ab f m
  rintro af ak al am a w ⟨ag,ah,rfl,ai,aj,an,f,m,ao⟩
  refine Af (Ad ?_)
  refine Ab f Z λa f=>Ah f Z Z B3 λa f=>Aa ?_
  rcases Ae al with⟨ap,al⟩|⟨ap,al⟩
  ·refine Ak f Z ap ?_
   refine Al ?_
   refine Af (Aj (An ?_))
   refine Ab f Z λa f=>Ab f Z λa f=>Ab f Z λa f=>Ab f Z λa f=>Ab f Z λa f=> ?_
   have⟨aq,ar,al⟩:=bind_some al
   refine AE f Z call125 (Wk.C0 hW m ao ar) λau av aw w ax m ay a f=> ?_
   obtain⟨az,rfl,aA⟩:=ay
   refine Aa (An ?_)
   refine Ab f Z λa f=>Ah f Z Z AI λa f=>Ac f Z λa f=>Aa ?_
   obtain rfl:=sj al
   exact⟨_,Z,_,_,Z,_,az,(gt an ax),f.k Z,m,aA⟩
  ·refine Ai f Z ap ?_
   refine Ax Z ?_
   obtain rfl:=sj al
   obtain rfl:=am _ rfl
   exact⟨_,Z,_,aj,an,f.k Z,m,ao⟩
 ·rintro a w ⟨ac,rfl,ad,ae,aB,f,m,aC⟩
  refine Ad ?_
  refine Ab f Z λa f=>Ah f Z Z AI λa f=>Ac f Z λa f=>Aa ?_
  have⟨aD,aE,hd⟩:=bind_some hd
  refine AB (λa w=>∃aF:LI,aF=aD∧∃(aG:GH) (aH:Itm),GLe ad aG∧Fr a 60 []∧Mem W aG w (aH::H)∧Ow (RI .u32) 75 aG aH v0 aF) ?_ ?_
  ·refine Aj ?_
   refine Ay (λaI a w=>∃aJ:LI,∃aK:Int,(aJ,aK)=aI∧∃(aL:GH) (aM:Itm),GLe ad aL∧Fr a 60 [(0,v0),(3,(.func (.func 71) #[] #[])),(8,(iv x1)),(9,(iv 0)),(12,(iv aK))]∧Mem W aL w (aM::H)∧Ow (RI .u32) 75 aL aM v0 aJ) aE ⟨_,_,Z,_,ae,gr,f.k Z,m,aC⟩ ?_
   clear aE f m
   rintro aI aN aO aP a w ⟨aJ,aK,rfl,aL,aM,aQ,f,m,aR⟩
   refine Af (Ad ?_)
   refine Ab f Z λa f=>Ah f Z Z B3 λa f=>Aa ?_
   rcases Ae aO with⟨aS,aO⟩|⟨aS,aO⟩
   ·refine Ak f Z aS ?_
    refine Al ?_
    refine Af (Aj (Af ?_))
    refine BI AF m ?_
    refine p_p 2 Z f (λ_=>A5 (f.e Z)) λa f=>p_p 3 Z f (λ_=>A5 (f.e Z)) λa f=>p_p 4 Z f (λ_=>A5 (f.e Z)) λa f=>p_p 5 Z f (λ_=>AA (f.e Z) (f.e Z) Au) λa f=>BL 60017 13 (by kernel_rfl) Z ?_
    refine Ag 0 60017 Z f Z λa f=>Ag 1 60017 Z f Z λa f=>Ag 6 60017 Z f Z λa f=>Ag 7 60017 Z f Z λa f=>Ag 8 60017 Z f Z λa f=>q_p 9 60017 Z f (λ_=>AA (f.e Z) (f.e Z) Au) λa f=> ?_
    have⟨aT,aU,aO⟩:=bind_some aO
    refine AL 10 60017 0 m aR T54 aU Z f Z Z λaV a aW f=>A1 11 60017 0 aR AS aW aU Z f Z λaX a aY f=> ?_
    subst aY
    refine Ag 12 60017 Z f Z λa f=>Ag 13 60017 Z f Z λa f=> ?_
    have⟨aZ,a0,aO⟩:=bind_some aO
    refine AL 14 60017 0 m aR T54 a0 Z f Z Z λa1 a a2 f=>A1 15 60017 0 aR AS a2 a0 Z f Z λa3 a a4 f=> ?_
    subst a4
    have⟨a5,a6,aO⟩:=bind_some aO
    refine AL 16 60017 0 m aR T54 a6 Z f Z Z λa7 a a8 f=>AP λa9 w ba m=> ?_
    have aR:=od1 ba aR
    refine Az 0 m aR Z sizeOf75 f Z Z a8 a6 Z Z Z λbb w m bc=> ?_
    have⟨bd,be,aO⟩:=bind_some aO
    refine A2 0 m bc Z T54 f Z Z Z be λbf a bg f=>Az 0 m bc Z sizeOf75 f Z Z bg be Z Z Z λbh w m bi=>Aa (An ?_)
    refine Ab f Z λa f=>Ab f Z λa f=>Ab f Z λa f=>Ab f Z λa f=>Ab f Z λa f=> ?_
    have⟨bj,bk,aO⟩:=bind_some aO
    refine AE f Z call125 (Wk.C0 hW m bi bk) λbl bm bn w bo m bp a f=> ?_
    obtain⟨bq,rfl,br⟩:=bp
    refine Aa (An ?_)
    refine Ab f Z λa f=>Ah f Z Z AI λa f=>Ac f Z λa f=>Aa ?_
    obtain rfl:=sj aO
    exact⟨_,Z,_,_,Z,_,bq,(gt aQ (gt ba bo)),f.k Z,m,br⟩
   ·refine Ai f Z aS ?_
    refine Ax Z ?_
    obtain rfl:=sj aO
    obtain rfl:=aP _ rfl
    exact⟨_,Z,_,aM,aQ,f.weak trivial,m,aR⟩
  ·rintro a w ⟨aF,rfl,aG,aH,bs,f,m,bt⟩
   obtain rfl:=sj hd
   exact⟨[],trivial,f.d,_,[aH],(gt aB bs),m,_,Z,bt⟩
theorem Wk.S0 {v0:Value}{it0:Itm}{x0:LI}{x1 x2:Int}(m:Mem W G w (it0::H))(o0:Ow (RI .u32) 75 G it0 v0 x0){y:(LI)}(hd:D.S0 x0 x1 x2=some y):
  Calls prog 112 #[v0,(iv x1),(iv x2),(.func (.func 71) #[] #[])] w (Res W G H (λG' Ho _=>∃i0:Itm,Ho=[i0]∧Ow (RI .u32) 75 G' i0 v0 y)):=by
 refine Ar (args:=[v0,(iv x1),(iv x2),(.func (.func 71) #[] #[])]) (N:=67) [] func112 Z Z (lb Z) Z λa f=> ?_
 unfold D.S0 at hd
 refine Ad ?_
 refine Ab f Z λa f=>Ab f Z λa f=>Ah f Z Z AI λa f=>Ac f Z λa f=>Av ?_
 refine Ab f Z λa f=>Ah f Z Z B3 λa f=>Aa ?_
 rcases Ae hd with⟨aa,hd⟩|⟨aa,hd⟩
 ·refine Ak f Z aa ?_
  refine Ad ?_
  refine Ab f Z λa f=>l_o f (Dc (f.e Z) ⟨_,underlying3⟩ underlying135) λa f=>CG (cs:=[(.int .u64 0)]) zeroValue135 m f Z Z λab w a m f=>Bz 0 0 (ds:=[(.int .u64 (IntKind.u64.wrap (i64.wrap (x2-x1))))]) m sizeOf135 f Z Z Z (BG Z BU) Z (lb Z) Z λw m=>Av ?_
  refine Ab f Z λa f=> ?_
  have⟨ac,ad,hd⟩:=bind_some hd
  refine A4 f Z call126 (Wk.j0 m ad) λae w af m a f=> ?_
  have o0:=od1 af o0
  refine Ac f Z λa f=>Av ?_
  refine Ab f Z λa f=>Ab f Z λa f=>Ah f Z Z (Dm Z) λa f=>Ah f Z Z b_mul λa f=>Ah f Z Z Au λa f=>Ah f Z Z AI λa f=>Ac f Z λa f=>Aa ?_
  have⟨ag,ah,hd⟩:=bind_some hd
  refine AB (λa w=>∃ai:LI,ai=ag∧∃(aj:GH) (ak:Itm),GLe ae aj∧Fr a 67 []∧Mem W aj w (ak::H)∧Ow (RI .u32) 75 aj ak v0 ai) ?_ ?_
  ·refine Aj ?_
   refine Ay (λal a w=>∃am:LI,∃an:Int,∃ao:Int,(am,an,ao)=al∧∃(ap:GH) (aq:Itm),GLe ae ap∧Fr a 67 [(0,v0),(1,(iv x1)),(8,(iv (i64.wrap (x2-x1)))),(9,(pb ab)),(10,(.int .u64 ac)),(11,(iv an))]∧Mem W ap w (ib ab 135 [(.int .u64 ao)]::aq::H)∧Ow (RI .u32) 75 ap aq v0 am) ah ⟨_,_,_,Z,_,it0,gr,f.k Z,m,o0⟩ ?_
   clear ah f m
   rintro al ar au av a w ⟨am,an,ao,rfl,ap,aq,aw,f,m,ax⟩
   refine Af (Ad ?_)
   refine Ab f Z λa f=>Ab f Z λa f=>Ab f Z λa f=>Ah f Z Z (Dm Z) λa f=>Ah f Z Z b_mul λa f=>Ah f Z Z Au λa f=>Ah f Z Z Au λa f=>Ah f Z Z Cz λa f=>Aa ?_
   rcases Ae au with⟨ay,au⟩|⟨ay,au⟩
   ·refine Ak f Z ay ?_
    refine Al ?_
    refine Af (Aj (Ad ?_))
    have⟨az,aA,au⟩:=bind_some au
    refine AE f Z call127 (Wk.o0 m aA) λaB aC aD w aE m aF a f=> ?_
    obtain⟨rfl,rfl⟩:=aF
    have ax:=od1 aE ax
    refine Ab f Z λa f=>Ah f Z Z AI λa f=>Ah f Z Z Cx λa f=>l_o f (Dc (f.e Z) ⟨_,underlying62⟩ underlying3) λa f=>Ac f Z λa f=>Aa (Af (Ad ?_))
    refine Ab f Z λa f=>Ab f Z λa f=>Ah f Z Z B3 λa f=>Aa ?_
    have⟨aG,aH,au⟩:=bind_some au
    refine AB (λa w=>∃aI:Int,aI=aG∧∃(aJ:GH),GLe aC aJ∧Fr a 67 [(0,v0),(1,(iv x1)),(8,(iv (i64.wrap (x2-x1)))),(9,(pb ab)),(10,(.int .u64 ac)),(11,(iv an)),(12,(iv aI))]∧Mem W aJ w (ib ab 135 [(.int .u64 az.2)]::aq::H)) ?_ ?_
    ·rcases Ae aH with⟨aK,aH⟩|⟨aK,aH⟩
     ·refine Ak f Z aK ?_
      refine An ?_
      refine Ab f Z λa f=>Ab f Z λa f=>Ah f Z Z AI λa f=>Ac f Z λa f=>Aa ?_
      obtain rfl:=sj aH
      exact⟨_,Z,_,gr,f.k Z,m⟩
     ·refine Ai f Z aK ?_
      refine Al ?_
      obtain rfl:=sj aH
      exact⟨_,Z,_,gr,f.k Z,m⟩
    ·rintro a w ⟨aI,rfl,aJ,aL,f,m⟩
     have ax:=od1 aL ax
     refine BI AF m ?_
     refine p_p 2 Z f (λ_=>A5 (f.e Z)) λa f=>p_p 3 Z f (λ_=>A5 (f.e Z)) λa f=>p_p 4 Z f (λ_=>A5 (f.e Z)) λa f=>p_p 5 Z f (λ_=>AA (f.e Z) (f.e Z) Au) λa f=>BL 60017 13 (by kernel_rfl) Z ?_
     refine Ag 0 60017 Z f Z λa f=>Ag 1 60017 Z f Z λa f=>Ag 6 60017 Z f Z λa f=>Ag 7 60017 Z f Z λa f=>Ag 8 60017 Z f Z λa f=>q_p 9 60017 Z f (λ_=>AA (f.e Z) (f.e Z) Au) λa f=> ?_
     have⟨aM,aN,au⟩:=bind_some au
     refine AL 10 60017 1 m ax T54 aN Z f Z Z λaO a aP f=>A1 11 60017 1 ax AS aP aN Z f Z λaQ a aR f=> ?_
     subst aR
     refine Ag 12 60017 Z f Z λa f=>Ag 13 60017 Z f Z λa f=> ?_
     have⟨aS,aT,au⟩:=bind_some au
     refine AL 14 60017 1 m ax T54 aT Z f Z Z λaU a aV f=>A1 15 60017 1 ax AS aV aT Z f Z λaW a aX f=> ?_
     subst aX
     have⟨aY,aZ,au⟩:=bind_some au
     refine AL 16 60017 1 m ax T54 aZ Z f Z Z λa0 a a1 f=>AP λa2 w a3 m=> ?_
     have ax:=od1 a3 ax
     refine Az 1 m ax Z sizeOf75 f Z Z a1 aZ Z Z Z λa4 w m a5=> ?_
     have⟨a6,a7,au⟩:=bind_some au
     refine A2 1 m a5 Z T54 f Z Z Z a7 λa8 a a9 f=>Az 1 m a5 Z sizeOf75 f Z Z a9 a7 Z Z Z λba w m bb=>Aa (An ?_)
     refine Ab f Z λa f=>Ah f Z Z Au λa f=>Ac f Z λa f=>Aa ?_
     obtain rfl:=sj au
     exact⟨_,Z,_,_,_,Z,_,ba,(gt aw (gt aE (gt aL a3))),f.k Z,m,bb⟩
   ·refine Ai f Z ay ?_
    refine Ax Z ?_
    have m:=m.fr 1
    have m:=m.eraseAt 1
    obtain rfl:=sj au
    obtain rfl:=av _ rfl
    exact⟨_,Z,_,aq,aw,f.weak trivial,m,ax⟩
  ·rintro a w ⟨ai,rfl,aj,ak,bc,f,m,bd⟩
   obtain rfl:=sj hd
   exact⟨[],trivial,f.d,_,[ak],(gt af bc),m,_,Z,bd⟩
 ·refine Ai f Z aa ?_
  refine Al ?_
  obtain rfl:=sj hd
  exact⟨[],trivial,f.d,_,[it0],gr,m,_,Z,o0⟩
theorem Wk.K {v0:Value}{it0:Itm}{b3:Nat}{x0:LI}{x1 x2 aa:Int}(hW:Br W)(m:Mem W G w (it0::ib b3 3 [(iv aa)]::H))(o0:Ow (RI .u32) 75 G it0 v0 x0){y:Int×Int×(LI)×Int}(hd:D.K x0 x1 x2 aa=some y):
  Calls prog 134 #[v0,(iv x1),(iv x2),(pb b3),(.func (.func 71) #[] #[])] w (Res W G H (λG' Ho v=>∃i0:Itm,Ho=[i0,ib b3 3 [(iv y.2.2.2)]]∧v= .tuple #[(iv y.1),(iv y.2.1)]∧Ow (RI .u32) 75 G' i0 v0 y.2.2.1)):=by
 refine Ar (args:=[v0,(iv x1),(iv x2),(pb b3),(.func (.func 71) #[] #[])]) (N:=32) [.tmp 10,.tmp 11] func134 Z Z (lb Z) Z λa f=> ?_
 unfold D.K at hd
 refine Ad ?_
 refine Ac f Z λa f=>Ac f Z λa f=>Aa (Af (Af ?_))
 refine A8 11 AF (by kernel_rfl) m ?_
 refine Ag 0 11 Z f Z λa f=>Ag 1 11 Z f Z λa f=>Ag 2 11 Z f Z λa f=> ?_
 have⟨ab,ac,hd⟩:=bind_some hd
 refine AL 3 11 0 m o0 T54 ac Z f Z Z λad a ae f=>A1 4 11 0 o0 AS ae ac Z f Z λaf a ag f=> ?_
 subst ag
 refine Ag 5 11 Z f Z λa f=>Ag 6 11 Z f Z λa f=> ?_
 have⟨ah,ai,hd⟩:=bind_some hd
 refine AL 7 11 0 m o0 T54 ai Z f Z Z λaj a ak f=>A1 8 11 0 o0 AS ak ai Z f Z λal a am f=> ?_
 subst am
 have⟨an,ao,hd⟩:=bind_some hd
 refine BQ (i:=9) 11 Z (by kernel_rfl) Z f Z Z Z Z call71 (λ_ _ w ap m=>Wk.a hW m ao) λa f=>q_p 10 11 Z f (λ_=>AA (f.e Z) (f.e Z) AD) λa f=>AP λaq w ar m=> ?_
 have o0:=od1 ar o0
 refine Aa ?_
 rcases Ae hd with⟨au,hd⟩|⟨au,hd⟩
 ·refine Ak f Z au ?_
  refine Ad ?_
  refine Ab f Z λa f=>l_o f (Be (f.e Z)) λa f=>AK 1 0 m Pl3 f Z Z Z Z λa f=>Ah f Z Z Au λa f=>l_o f (Be (f.e Z)) λa f=>Bz 1 0 (ds:=[(iv (i64.wrap (aa+1)))]) m sizeOf3 f Z Z Z (BG Z BU) Z (lb Z) Z λw m=>Av ?_
  refine Ab f Z λa f=>Ab f Z λa f=>Ac f Z λa f=>Ac f Z λa f=>Aa ?_
  refine Ap ?_
  obtain rfl:=sj hd
  exact⟨[(iv x2),(iv x1)],⟨f.get _ _ Z,f.get _ _ Z,trivial⟩,f.d,_,[it0,ib b3 3 [(iv (i64.wrap (aa+1)))]],ar,m,_,Z,Z,o0⟩
 ·refine Ai f Z au ?_
  refine Al ?_
  refine Ad ?_
  refine Ab f Z λa f=>Ab f Z λa f=>Ac f Z λa f=>Ac f Z λa f=>Aa ?_
  refine Ap ?_
  obtain rfl:=sj hd
  exact⟨[(iv x1),(iv x2)],⟨f.get _ _ Z,f.get _ _ Z,trivial⟩,f.d,_,[it0,ib b3 3 [(iv aa)]],ar,m,_,Z,Z,o0⟩
theorem Wk.E0 {v0:Value}{it0:Itm}{b4:Nat}{x0:LI}{x1 x2 x3 aa:Int}(hW:Br W)(m:Mem W G w (it0::ib b4 3 [(iv aa)]::H))(o0:Ow (RI .u32) 75 G it0 v0 x0){y:Int×(LI)×Int}(hd:D.E0 x0 x1 x2 x3 aa=some y):
  Calls prog 129 #[v0,(iv x1),(iv x2),(iv x3),(pb b4),(.func (.func 71) #[] #[])] w (Res W G H (λG' Ho v=>∃i0:Itm,Ho=[i0,ib b4 3 [(iv y.2.2)]]∧v=(iv y.1)∧Ow (RI .u32) 75 G' i0 v0 y.2.1)):=by
 refine Ar (args:=[v0,(iv x1),(iv x2),(iv x3),(pb b4),(.func (.func 71) #[] #[])]) (N:=41) [.tmp 12] func129 Z Z (lb Z) Z λa f=> ?_
 unfold D.E0 at hd
 refine Ad ?_
 refine Ac f Z λa f=>Av ?_
 refine Ab f Z λa f=>Ab f Z λa f=>Ab f Z λa f=>Ab f Z λa f=>Ab f Z λa f=> ?_
 have⟨ab,ac,hd⟩:=bind_some hd
 refine AE f Z call134 (Wk.K hW m o0 ac) λad ae af w ag m ah a f=> ?_
 obtain⟨ai,rfl,rfl,aj⟩:=ah
 refine Ab f Z λa f=>l_o f (A7 (f.e Z) Z) λa f=>l_o f (A7 (f.e Z) Z) λa f=>Ac f Z λa f=>Ac f Z λa f=>Av ?_
 refine Ab f Z λa f=>Ab f Z λa f=>Ab f Z λa f=>Ab f Z λa f=>Ab f Z λa f=> ?_
 have⟨ak,al,hd⟩:=bind_some hd
 refine AE f Z call134 (Wk.K hW m aj al) λam an ao w ap m aq a f=> ?_
 obtain⟨ar,rfl,rfl,au⟩:=aq
 refine Ab f Z λa f=>l_o f (A7 (f.e Z) Z) λa f=>l_o f (A7 (f.e Z) Z) λa f=>Ac f Z λa f=>Ac f Z λa f=>Av ?_
 refine Ab f Z λa f=>Ab f Z λa f=>Ab f Z λa f=>Ab f Z λa f=>Ab f Z λa f=> ?_
 have⟨av,aw,hd⟩:=bind_some hd
 refine AE f Z call134 (Wk.K hW m au aw) λax ay az w aA m aB a f=> ?_
 obtain⟨aC,rfl,rfl,aD⟩:=aB
 refine Ab f Z λa f=>l_o f (A7 (f.e Z) Z) λa f=>l_o f (A7 (f.e Z) Z) λa f=>Ac f Z λa f=>Ac f Z λa f=>Av ?_
 refine Ab f Z λa f=>Ac f Z λa f=>Aa ?_
 refine Ap ?_
 obtain rfl:=sj hd
 exact⟨[(iv av.2.1)],f.g Z,f.d,_,[aC,ib b4 3 [(iv av.2.2.2)]],(gt ag (gt ap aA)),m,_,Z,Z,aD⟩
theorem Wk.P {v0:Value}{it0:Itm}{b2:Nat}{x0:LI}{x1 aa:Int}(hW:Br W)(m:Mem W G w (it0::ib b2 3 [(iv aa)]::H))(o0:Ow (RI .u32) 75 G it0 v0 x0){y:Int×(LI)×Int}(hd:D.P x0 x1 aa=some y):
  Calls prog 128 #[v0,(iv x1),(pb b2),(.func (.func 71) #[] #[])] w (Res W G H (λG' Ho v=>∃i0:Itm,Ho=[i0,ib b2 3 [(iv y.2.2)]]∧v=(iv y.1)∧Ow (RI .u32) 75 G' i0 v0 y.2.1)):=by
 refine Ar (args:=[v0,(iv x1),(pb b2),(.func (.func 71) #[] #[])]) (N:=18) [.tmp 8] func128 Z Z (lb Z) Z λa f=> ?_
 unfold D.P at hd
 refine Ad ?_
 refine Ac f Z λa f=>Av ?_
 refine Ab f Z λa f=>Ab f Z λa f=>Ah f Z Z AI λa f=>Ab f Z λa f=>Ab f Z λa f=>Ah f Z Z Au λa f=>Ab f Z λa f=>Ab f Z λa f=> ?_
 have⟨ab,ac,hd⟩:=bind_some hd
 refine AE f Z call129 (Wk.E0 hW m o0 ac) λad ae af w ag m ah a f=> ?_
 obtain⟨ai,rfl,rfl,aj⟩:=ah
 refine Ac f Z λa f=>Aa ?_
 refine Ap ?_
 obtain rfl:=sj hd
 exact⟨[(iv ab.1)],f.g Z,f.d,_,[ai,ib b2 3 [(iv ab.2.2)]],ag,m,_,Z,Z,aj⟩
theorem Wk.P0 {v0:Value}{it0:Itm}{x0:LI}{x1 x2:Int}(hW:Br W)(m:Mem W G w (it0::H))(o0:Ow (RI .u32) 75 G it0 v0 x0){y:Int×Int×(LI)}(hd:D.P0 x0 x1 x2=some y):
  Calls prog 113 #[v0,(iv x1),(iv x2),(.func (.func 71) #[] #[])] w (Res W G H (λG' Ho v=>∃i0:Itm,Ho=[i0]∧v= .tuple #[(iv y.1),(iv y.2.1)]∧Ow (RI .u32) 75 G' i0 v0 y.2.2)):=by
 refine Ar (args:=[v0,(iv x1),(iv x2),(.func (.func 71) #[] #[])]) (N:=63) [.tmp 8,.tmp 9] func113 Z Z (lb Z) Z λa f=> ?_
 unfold D.P0 at hd
 refine Ad ?_
 refine Ac f Z λa f=>Ac f Z λa f=>Av ?_
 refine Ab f Z λa f=>Ab f Z λa f=>Ah f Z Z AI λa f=>Ac f Z λa f=>Av ?_
 refine CG (cs:=[(iv 0)]) zeroValue3 m f Z Z λaa w a m f=>Av ?_
 refine Ab f Z λa f=>Ab f Z λa f=>Ah f Z Z (Dm Z) λa f=>Ah f Z Z b_mul λa f=>Ah f Z Z Au λa f=>Ac f Z λa f=>Av ?_
 refine Ab f Z λa f=>Ab f Z λa f=>Ah f Z Z (Dm Z) λa f=>Ah f Z Z b_mul λa f=>Ah f Z Z Au λa f=>Ac f Z λa f=>Av ?_
 refine Ab f Z λa f=>Ab f Z λa f=>Ah f Z Z (Dm Z) λa f=>Ah f Z Z b_mul λa f=>Ah f Z Z Au λa f=>Ac f Z λa f=>Aa (Af (Ad ?_))
 refine Ab f Z λa f=>Ah f Z Z B3 λa f=>Aa ?_
 rcases Ae hd with⟨ab,hd⟩|⟨ab,hd⟩
 ·refine Ak f Z ab ?_
  refine Af (Ad ?_)
  refine Ab f Z λa f=>Ah f Z Z B3 λa f=>Aa ?_
  have⟨ac,ad,hd⟩:=bind_some hd
  refine AB (λa w=>∃ae:LI,∃af:Int,∃ag:Int,∃ah:Int,∃ai:Int,(ae,af,ag,ah,ai)=ac∧∃(aj:GH) (ak:Itm),GLe G aj∧Fr a 63 [(0,v0),(3,(.func (.func 71) #[] #[])),(11,(pb aa)),(12,(iv af)),(13,(iv ag)),(14,(iv ah))]∧Mem W aj w (ib aa 3 [(iv ai)]::ak::H)∧Ow (RI .u32) 75 aj ak v0 ae) ?_ ?_
  ·rcases Ae ad with⟨al,ad⟩|⟨al,ad⟩
   ·refine Ak f Z al ?_
    refine Ad ?_
    refine Ab f Z λa f=>Ab f Z λa f=>Ab f Z λa f=> ?_
    have m:=m.fr 1
    have⟨am,an,ad⟩:=bind_some ad
    refine AE f Z call128 (Wk.P hW m o0 an) λao ap aq w ar m au a f=> ?_
    obtain⟨av,rfl,rfl,aw⟩:=au
    refine Ac f Z λa f=>Av ?_
    refine Ab f Z λa f=>Ab f Z λa f=>Ab f Z λa f=> ?_
    have⟨ax,ay,ad⟩:=bind_some ad
    refine AE f Z call128 (Wk.P hW m aw ay) λaz aA aB w aC m aD a f=> ?_
    obtain⟨aE,rfl,rfl,aF⟩:=aD
    refine Ac f Z λa f=>Aa (An ?_)
    refine Ab f Z λa f=>Ab f Z λa f=>Ab f Z λa f=> ?_
    have⟨aG,aH,ad⟩:=bind_some ad
    refine AE f Z call128 (Wk.P hW m aF aH) λaI aJ aK w aL m aM a f=> ?_
    obtain⟨aN,rfl,rfl,aO⟩:=aM
    refine Ac f Z λa f=>Aa ?_
    have m:=m.fr 1
    obtain rfl:=sj ad
    exact⟨_,_,_,_,_,Z,_,aN,(gt ar (gt aC aL)),f.k Z,m,aO⟩
   ·refine Ai f Z al ?_
    refine Al ?_
    obtain rfl:=sj ad
    exact⟨_,_,_,_,_,Z,_,it0,gr,f.k Z,m,o0⟩
  ·rintro a w ⟨ae,af,ag,ah,ai,rfl,aj,ak,aP,f,m,aQ⟩
   refine An ?_
   refine Ab f Z λa f=>Ab f Z λa f=>Ab f Z λa f=>Ab f Z λa f=>Ab f Z λa f=> ?_
   have m:=m.fr 1
   have⟨aR,aS,hd⟩:=bind_some hd
   refine AE f Z call129 (Wk.E0 hW m aQ aS) λaT aU aV w aW m aX a f=> ?_
   obtain⟨aY,rfl,rfl,aZ⟩:=aX
   refine Ac f Z λa f=>Av ?_
   refine AK 1 0 m Pl3 f Z Z Z Z λa f=>Aa (Aj (Ad ?_))
   refine Ah f Z Z BC λa f=>Ac f Z λa f=>Aa ?_
   rcases Ae hd with⟨a0,hd⟩|⟨a0,hd⟩
   ·refine Ak f Z a0 ?_
    refine Ad ?_
    refine Ab f Z λa f=>Ac f Z λa f=>Ac f Z λa f=>Aa ?_
    refine Ap ?_
    have m:=m.eraseAt 1
    obtain rfl:=sj hd
    exact⟨[(iv aR.1),(iv 1)],⟨f.get _ _ Z,f.get _ _ Z,trivial⟩,f.d,_,[aY],(gt aP aW),m,_,Z,Z,aZ⟩
   ·refine Ai f Z a0 ?_
    refine Ad ?_
    refine Ah f Z Z BC λa f=>Ac f Z λa f=>Aa ?_
    rcases Ae hd with⟨a1,hd⟩|⟨a1,hd⟩
    ·refine Ak f Z a1 ?_
     refine Ad ?_
     refine Ab f Z λa f=>Ac f Z λa f=>Ac f Z λa f=>Aa ?_
     refine Ap ?_
     have m:=m.eraseAt 1
     obtain rfl:=sj hd
     exact⟨[(iv aR.1),(iv 2)],⟨f.get _ _ Z,f.get _ _ Z,trivial⟩,f.d,_,[aY],(gt aP aW),m,_,Z,Z,aZ⟩
    ·refine Ai f Z a1 ?_
     refine Ad ?_
     refine Ab f Z λa f=>Ac f Z λa f=>Ac f Z λa f=>Aa ?_
     refine Ap ?_
     have m:=m.eraseAt 1
     obtain rfl:=sj hd
     exact⟨[(iv aR.1),(iv 0)],⟨f.get _ _ Z,f.get _ _ Z,trivial⟩,f.d,_,[aY],(gt aP aW),m,_,Z,Z,aZ⟩
 ·refine Ai f Z ab ?_
  refine Al ?_
  refine Ad ?_
  refine AK 0 0 m Pl3 f Z Z Z Z λa f=>Aa (Aj (Ad ?_))
  refine Ah f Z Z BC λa f=>Ac f Z λa f=>Aa ?_
  rcases Ae hd with⟨a2,hd⟩|⟨a2,hd⟩
  ·refine Ak f Z a2 ?_
   refine Ad ?_
   refine Ab f Z λa f=>Ac f Z λa f=>Ac f Z λa f=>Aa ?_
   refine Ap ?_
   have m:=m.fr 1
   have m:=m.eraseAt 1
   obtain rfl:=sj hd
   exact⟨[(iv (i64.wrap (x1+(i64.wrap ((i64.wrap (Int.tdiv (i64.wrap (x2-x1)) 4))*2))))),(iv 1)],⟨f.get _ _ Z,f.get _ _ Z,trivial⟩,f.d,_,[it0],gr,m,_,Z,Z,o0⟩
  ·refine Ai f Z a2 ?_
   refine Ad ?_
   refine Ah f Z Z BC λa f=>Ac f Z λa f=>Aa ?_
   rcases Ae hd with⟨a3,hd⟩|⟨a3,hd⟩
   ·refine Ak f Z a3 ?_
    refine Ad ?_
    refine Ab f Z λa f=>Ac f Z λa f=>Ac f Z λa f=>Aa ?_
    refine Ap ?_
    have m:=m.fr 1
    have m:=m.eraseAt 1
    obtain rfl:=sj hd
    exact⟨[(iv (i64.wrap (x1+(i64.wrap ((i64.wrap (Int.tdiv (i64.wrap (x2-x1)) 4))*2))))),(iv 2)],⟨f.get _ _ Z,f.get _ _ Z,trivial⟩,f.d,_,[it0],gr,m,_,Z,Z,o0⟩
   ·refine Ai f Z a3 ?_
    refine Ad ?_
    refine Ab f Z λa f=>Ac f Z λa f=>Ac f Z λa f=>Aa ?_
    refine Ap ?_
    have m:=m.fr 1
    have m:=m.eraseAt 1
    obtain rfl:=sj hd
    exact⟨[(iv (i64.wrap (x1+(i64.wrap ((i64.wrap (Int.tdiv (i64.wrap (x2-x1)) 4))*2))))),(iv 0)],⟨f.get _ _ Z,f.get _ _ Z,trivial⟩,f.d,_,[it0],gr,m,_,Z,Z,o0⟩
theorem Wk.K0 {v0:Value}{it0:Itm}{x0:LI}{x1 x2:Int}(m:Mem W G w (it0::H))(o0:Ow (RI .u32) 75 G it0 v0 x0){y:(LI)}(hd:D.K0 x0 x1 x2=some y):
  Calls prog 114 #[v0,(iv x1),(iv x2),(.func (.func 71) #[] #[])] w (Res W G H (λG' Ho _=>∃i0:Itm,Ho=[i0]∧Ow (RI .u32) 75 G' i0 v0 y)):=by
 refine Ar (args:=[v0,(iv x1),(iv x2),(.func (.func 71) #[] #[])]) (N:=34) [] func114 Z Z (lb Z) Z λa f=> ?_
 unfold D.K0 at hd
 refine Ad ?_
 refine Ab f Z λa f=>Ac f Z λa f=>Av ?_
 refine Ab f Z λa f=>Ah f Z Z AI λa f=>Ac f Z λa f=>Aa ?_
 have⟨aa,ab,hd⟩:=bind_some hd
 refine AB (λa w=>∃ac:LI,ac=aa∧∃(ad:GH) (ae:Itm),GLe G ad∧Fr a 34 []∧Mem W ad w (ae::H)∧Ow (RI .u32) 75 ad ae v0 ac) ?_ ?_
 ·refine Aj ?_
  refine Ay (λaf a w=>∃ag:LI,∃ah:Int,∃ai:Int,(ag,ah,ai)=af∧∃(aj:GH) (ak:Itm),GLe G aj∧Fr a 34 [(0,v0),(8,(iv ah)),(9,(iv ai))]∧Mem W aj w (ak::H)∧Ow (RI .u32) 75 aj ak v0 ag) ab ⟨_,_,_,Z,_,it0,gr,f.k Z,m,o0⟩ ?_
  clear ab f m
  rintro af al am an a w ⟨ag,ah,ai,rfl,aj,ak,ao,f,m,ap⟩
  refine Af (Ad ?_)
  refine Ab f Z λa f=>Ab f Z λa f=>Ah f Z Z AD λa f=>Aa ?_
  rcases Ae am with⟨aq,am⟩|⟨aq,am⟩
  ·refine Ak f Z aq ?_
   refine Al ?_
   refine Aj (Af ?_)
   refine BI AF m ?_
   refine p_p 2 Z f (λ_=>A5 (f.e Z)) λa f=>p_p 3 Z f (λ_=>A5 (f.e Z)) λa f=>BL 12013 11 (by kernel_rfl) Z ?_
   refine Ag 0 12013 Z f Z λa f=>Ag 1 12013 Z f Z λa f=>Ag 4 12013 Z f Z λa f=>Ag 5 12013 Z f Z λa f=> ?_
   have⟨ar,au,am⟩:=bind_some am
   refine AL 6 12013 0 m ap T54 au Z f Z Z λav a aw f=>A1 7 12013 0 ap AS aw au Z f Z λax a ay f=> ?_
   subst ay
   refine Ag 8 12013 Z f Z λa f=>Ag 9 12013 Z f Z λa f=> ?_
   have⟨az,aA,am⟩:=bind_some am
   refine AL 10 12013 0 m ap T54 aA Z f Z Z λaB a aC f=>A1 11 12013 0 ap AS aC aA Z f Z λaD a aE f=> ?_
   subst aE
   have⟨aF,aG,am⟩:=bind_some am
   refine AL 12 12013 0 m ap T54 aG Z f Z Z λaH a aI f=>AP λaJ w aK m=> ?_
   have ap:=od1 aK ap
   refine Az 0 m ap Z sizeOf75 f Z Z aI aG Z Z Z λaL w m aM=> ?_
   have⟨aN,aO,am⟩:=bind_some am
   refine A2 0 m aM Z T54 f Z Z Z aO λaP a aQ f=>Az 0 m aM Z sizeOf75 f Z Z aQ aO Z Z Z λaR w m aS=>Av ?_
   refine Ab f Z λa f=>Ah f Z Z Au λa f=>Ac f Z λa f=>Aa (An ?_)
   refine Ab f Z λa f=>Ah f Z Z AI λa f=>Ac f Z λa f=>Aa ?_
   obtain rfl:=sj am
   exact⟨_,Z,_,_,_,Z,_,aR,(gt ao aK),f.k Z,m,aS⟩
  ·refine Ai f Z aq ?_
   refine Ax Z ?_
   obtain rfl:=sj am
   obtain rfl:=an _ rfl
   exact⟨_,Z,_,ak,ao,f.weak trivial,m,ap⟩
 ·rintro a w ⟨ac,rfl,ad,ae,aT,f,m,aU⟩
  obtain rfl:=sj hd
  exact⟨[],trivial,f.d,_,[ae],aT,m,_,Z,aU⟩
theorem Wk.I0 {v0:Value}{it0:Itm}{x0:LI}{x1 x2:Int}(hW:Br W)(m:Mem W G w (it0::H))(o0:Ow (RI .u32) 75 G it0 v0 x0){y:Bool×(LI)}(hd:D.I0 x0 x1 x2=some y):
  Calls prog 115 #[v0,(iv x1),(iv x2),(.func (.func 71) #[] #[])] w (Res W G H (λG' Ho v=>∃i0:Itm,Ho=[i0]∧v=(.bool y.1)∧Ow (RI .u32) 75 G' i0 v0 y.2)):=by
 refine Ar (args:=[v0,(iv x1),(iv x2),(.func (.func 71) #[] #[])]) (N:=141) [.tmp 8] func115 Z Z (lb Z) Z λa f=> ?_
 unfold D.I0 at hd
 refine Ad ?_
 refine Ac f Z λa f=>Av ?_
 refine Ab f Z λa f=>Ah f Z Z Au λa f=>Ac f Z λa f=>Aa (Af (Ad ?_))
 refine Ac f Z λa f=>Aa ?_
 have⟨aa,ab,hd⟩:=bind_some hd
 refine AB (λa w=>∃q_1621':LI,aa= .inl q_1621'∧∃ac:LI,ac=q_1621'∧∃(ad:GH) (ae:Itm),GLe G ad∧Fr a 141 []∧Mem W ad w (ae::H)∧Ow (RI .u32) 75 ad ae v0 ac) ?_ ?_
 ·refine Aj ?_
  refine Ay (λaf a w=>∃ag:LI,∃ah:Int,∃ai:Int,(ag,ah,ai)=af∧∃(aj:GH) (ak:Itm),GLe G aj∧Fr a 141 [(0,v0),(1,(iv x1)),(2,(iv x2)),(3,(.func (.func 71) #[] #[])),(9,(iv ah)),(10,(iv ai))]∧Mem W aj w (ak::H)∧Ow (RI .u32) 75 aj ak v0 ag) ab ⟨_,_,_,Z,_,it0,gr,f.k Z,m,o0⟩ ?_
  clear ab f m
  rintro af al am an a w ⟨ag,ah,ai,rfl,aj,ak,ao,f,m,ap⟩
  refine Af (Ad ?_)
  refine Ab f Z λa f=>Ah f Z Z AD λa f=>Aa ?_
  rcases Ae am with⟨aq,am⟩|⟨aq,am⟩
  ·refine Ak f Z aq ?_
   refine Al ?_
   refine Af (Aj (Af ?_))
   have⟨ar,au,am⟩:=bind_some am
   refine AB (λa w=>∃av:Int,av=ar∧∃(aw:GH),GLe aj aw∧Fr a 141 [(0,v0),(1,(iv x1)),(2,(iv x2)),(3,(.func (.func 71) #[] #[])),(9,(iv av)),(10,(iv ai))]∧Mem W aw w (ak::H)) ?_ ?_
   ·refine Aj ?_
    refine Ay (λax a w=>∃ay:Int,ay=ax∧∃(az:GH),GLe aj az∧Fr a 141 [(0,v0),(1,(iv x1)),(2,(iv x2)),(3,(.func (.func 71) #[] #[])),(9,(iv ay)),(10,(iv ai))]∧Mem W az w (ak::H)) au ⟨_,Z,_,gr,f.k Z,m⟩ ?_
    clear au f m
    rintro ax aA aB aC a w ⟨ay,rfl,az,aD,f,m⟩
    have ap:=od1 aD ap
    refine Af (Af ?_)
    refine A8 18 AF (by kernel_rfl) m ?_
    refine Ag 0 18 Z f Z λa f=>Ag 1 18 Z f Z λa f=>q_p 2 18 Z f (λ_=>AA (f.e Z) (f.e Z) AD) λa f=>Ag 3 18 Z f Z λa f=> ?_
    have⟨aE,aF,aB⟩:=bind_some aB
    refine Cr (fuel':=0) (listed':= #[true,true,true,true,true,true,true,true,true,true,true,true,true,true,true,true,true,true]) (λa=>Fr a 141 [(0,v0),(1,(iv x1)),(2,(iv x2)),(3,(.func (.func 71) #[] #[])),(9,(iv ay)),(10,(iv ai)),(19,(iv ay)),(20,(iv x2)),(21,(.bool (decide (ay<x2)))),(22,(.bool (decide (ay<x2)))),(36,(.bool aE))]) ?_ ?_
    ·intro a f
     refine AP λaG w aH m=>Aa ?_
     rcases Ae aB with⟨aI,aB⟩|⟨aI,aB⟩
     ·refine Ak f Z aI ?_
      refine Al ?_
      refine Aj (An ?_)
      refine Ab f Z λa f=>Ah f Z Z Au λa f=>Ac f Z λa f=>Aa ?_
      obtain rfl:=sj aB
      exact⟨_,Z,_,Z,_,(gt aD aH),f.k Z,m⟩
     ·refine Ai f Z aI ?_
      refine Ax Z ?_
      obtain rfl:=sj aB
      obtain rfl:=aC _ rfl
      exact⟨_,Z,_,(gt aD aH),f.k Z,m⟩
    ·intro aJ
     rcases Ae aF with⟨aK,aF⟩|⟨aK,aF⟩
     ·refine Ag (hw:=wo f aK) 4 18 Z f Z λa f=> ?_
      refine Ag (hw:=wo f aK) 5 18 Z f Z λa f=>Ag (hw:=wo f aK) 6 18 Z f Z λa f=> ?_
      have⟨aL,aM,aF⟩:=bind_some aF
      refine AL (hw:=wo f aK) 7 18 0 m ap T54 aM Z f Z Z λaN a aO f=>A1 (hw:=wo f aK) 8 18 0 ap AS aO aM Z f Z λaP a aQ f=> ?_
      subst aQ
      refine Ag (hw:=wo f aK) 9 18 Z f Z λa f=>Ag (hw:=wo f aK) 10 18 Z f Z λa f=>q_p (hw:=wo f aK) 11 18 Z f (λ_=>AA (f.e Z) (f.e Z) AI) λa f=> ?_
      have⟨aR,aS,aF⟩:=bind_some aF
      refine AL (hw:=wo f aK) 12 18 0 m ap T54 aS Z f Z Z λaT a aU f=>A1 (hw:=wo f aK) 13 18 0 ap AS aU aS Z f Z λaV a aW f=> ?_
      subst aW
      have⟨aX,aY,aF⟩:=bind_some aF
      refine BQ (i:=14) 18 Z (by kernel_rfl) Z f (Bo f Z Z Z aK) Z Z Z call71 (λ_ _ w aZ m=>Wk.a hW m aY) λa f=>q_p (hw:=wo f aK) 15 18 Z f (λ_=>AA (f.e Z) (f.e Z) AD) λa f=>q_p (hw:=wo f aK) 16 18 Z f (λ_=>Bc (f.e Z)) λa f=>q_p 17 18 Z f (λ_=>AV (f.e Z) aK (f.e Z)) λa f=> ?_
      obtain rfl:=sj aF
      exact aJ _ (f.k Z)
     ·refine Aq 4 18 Z f aK λa f=> ?_
      refine Aq 5 18 Z f aK λa f=>Aq 6 18 Z f aK λa f=>Aq 7 18 Z f aK λa f=>Aq 8 18 Z f aK λa f=>Aq 9 18 Z f aK λa f=>Aq 10 18 Z f aK λa f=>Aq 11 18 Z f aK λa f=>Aq 12 18 Z f aK λa f=>Aq 13 18 Z f aK λa f=>Aq 14 18 Z f aK λa f=>Aq 15 18 Z f aK λa f=>Aq 16 18 Z f aK λa f=>q_p 17 18 Z f (λ_=>AZ (f.e Z) aK (f.e Z)) λa f=> ?_
      obtain rfl:=sj aF
      exact aJ _ (f.k Z)
   ·rintro a w ⟨av,rfl,aw,a0,f,m⟩
    have ap:=od1 a0 ap
    refine Af (Ad ?_)
    refine Ab f Z λa f=>Ab f Z λa f=>Ah f Z Z BC λa f=>Aa ?_
    rcases Ae am with⟨a1,am⟩|⟨a1,am⟩
    ·refine Ak f Z a1 ?_
     refine Ad ?_
     refine Ac f Z λa f=>Aa ?_
     refine Ap ?_
     obtain rfl:=sj am
     obtain rfl:=an _ rfl
     obtain rfl:=sj hd
     exact⟨[(.bool true)],f.g Z,f.d,_,[ak],(gt ao a0),m,_,Z,Z,ap⟩
    ·refine Ai f Z a1 ?_
     refine Al ?_
     refine Af (Ad ?_)
     refine Ab f Z λa f=>Ab f Z λa f=>Ah f Z Z AI λa f=>Ah f Z Z AD λa f=>Aa ?_
     rcases Ae am with⟨a2,am⟩|⟨a2,am⟩
     ·refine Ak f Z a2 ?_
      refine Ad ?_
      refine Ac f Z λa f=>Aa ?_
      refine Ap ?_
      obtain rfl:=sj am
      obtain rfl:=an _ rfl
      obtain rfl:=sj hd
      exact⟨[(.bool false)],f.g Z,f.d,_,[ak],(gt ao a0),m,_,Z,Z,ap⟩
     ·refine Ai f Z a2 ?_
      refine Al ?_
      refine Af ?_
      refine BI AF m ?_
      refine p_p 2 Z f (λ_=>A5 (f.e Z)) λa f=>p_p 3 Z f (λ_=>A5 (f.e Z)) λa f=>p_p 4 Z f (λ_=>AA (f.e Z) (f.e Z) AI) λa f=>BL 28015 12 (by kernel_rfl) Z ?_
      refine Ag 0 28015 Z f Z λa f=>Ag 1 28015 Z f Z λa f=>Ag 5 28015 Z f Z λa f=>Ag 6 28015 Z f Z λa f=>q_p 7 28015 Z f (λ_=>AA (f.e Z) (f.e Z) AI) λa f=> ?_
      have⟨a3,a4,am⟩:=bind_some am
      refine AL 8 28015 0 m ap T54 a4 Z f Z Z λa5 a a6 f=>A1 9 28015 0 ap AS a6 a4 Z f Z λa7 a a8 f=> ?_
      subst a8
      refine Ag 10 28015 Z f Z λa f=>Ag 11 28015 Z f Z λa f=> ?_
      have⟨a9,ba,am⟩:=bind_some am
      refine AL 12 28015 0 m ap T54 ba Z f Z Z λbb a bc f=>A1 13 28015 0 ap AS bc ba Z f Z λbd a be f=> ?_
      subst be
      have⟨bf,bg,am⟩:=bind_some am
      refine AL 14 28015 0 m ap T54 bg Z f Z Z λbh a bi f=>AP λbj w bk m=> ?_
      have ap:=od1 bk ap
      refine Az 0 m ap Z sizeOf75 f Z Z bi bg Z Z Z λbl w m bm=> ?_
      have⟨bn,bo,am⟩:=bind_some am
      refine A2 0 m bm Z T54 f Z Z Z bo λbp a bq f=>Az 0 m bm Z sizeOf75 f Z Z bq bo Z Z Z λbr w m bs=>Aa (Af (Ad ?_))
      refine Ab f Z λa f=>Ab f Z λa f=>Ah f Z Z AI λa f=>Ah f Z Z B3 λa f=>Aa ?_
      have⟨bt,bu,am⟩:=bind_some am
      refine AB (λa w=>∃bv:LI,bv=bt∧∃(bw:GH) (bx:Itm),GLe bj bw∧Fr a 141 [(0,v0),(1,(iv x1)),(2,(iv x2)),(3,(.func (.func 71) #[] #[])),(9,(iv av)),(10,(iv ai))]∧Mem W bw w (bx::H)∧Ow (RI .u32) 75 bw bx v0 bv) ?_ ?_
      ·rcases Ae bu with⟨bz,bu⟩|⟨bz,bu⟩
       ·refine Ak f Z bz ?_
        refine Ad ?_
        refine Ab f Z λa f=>Ah f Z Z AI λa f=>Ac f Z λa f=>Aa ?_
        have⟨bA,bB,bu⟩:=bind_some bu
        refine AB (λa w=>∃bC:LI,bC=bA∧∃(bD:GH) (bE:Itm),GLe bj bD∧Fr a 141 [(0,v0),(1,(iv x1)),(2,(iv x2)),(3,(.func (.func 71) #[] #[])),(9,(iv av)),(10,(iv ai))]∧Mem W bD w (bE::H)∧Ow (RI .u32) 75 bD bE v0 bC) ?_ ?_
        ·refine Aj ?_
         refine Ay (λbF a w=>∃bG:LI,∃bH:Int,(bG,bH)=bF∧∃(bI:GH) (bJ:Itm),GLe bj bI∧Fr a 141 [(0,v0),(1,(iv x1)),(2,(iv x2)),(3,(.func (.func 71) #[] #[])),(9,(iv av)),(10,(iv ai)),(11,(iv bH))]∧Mem W bI w (bJ::H)∧Ow (RI .u32) 75 bI bJ v0 bG) bB ⟨_,_,Z,_,br,gr,f.k Z,m,bs⟩ ?_
         clear bB f m
         rintro bF bK bL bM a w ⟨bG,bH,rfl,bI,bJ,bN,f,m,bO⟩
         refine Af (Ad ?_)
         refine Ab f Z λa f=>Ah f Z Z B3 λa f=>Aa ?_
         rcases Ae bL with⟨bP,bL⟩|⟨bP,bL⟩
         ·refine Ak f Z bP ?_
          refine Al ?_
          refine Af (Aj (Af (Af ?_)))
          refine A8 13 AF (by kernel_rfl) m ?_
          refine Ag 0 13 Z f Z λa f=>Ag 1 13 Z f Z λa f=>Ag 2 13 Z f Z λa f=> ?_
          have⟨bQ,bR,bL⟩:=bind_some bL
          refine AL 3 13 0 m bO T54 bR Z f Z Z λbS a bT f=>A1 4 13 0 bO AS bT bR Z f Z λbU a bV f=> ?_
          subst bV
          refine Ag 5 13 Z f Z λa f=>Ag 6 13 Z f Z λa f=>q_p 7 13 Z f (λ_=>AA (f.e Z) (f.e Z) AI) λa f=> ?_
          have⟨bW,bX,bL⟩:=bind_some bL
          refine AL 8 13 0 m bO T54 bX Z f Z Z λbY a bZ f=>A1 9 13 0 bO AS bZ bX Z f Z λb0 a b1 f=> ?_
          subst b1
          have⟨b2,b3,bL⟩:=bind_some bL
          refine BQ (i:=10) 13 Z (by kernel_rfl) Z f Z Z Z Z call71 (λ_ _ w b4 m=>Wk.a hW m b3) λa f=>q_p 11 13 Z f (λ_=>AA (f.e Z) (f.e Z) AD) λa f=>q_p 12 13 Z f (λ_=>Bc (f.e Z)) λa f=>AP λb5 w b6 m=> ?_
          have bO:=od1 b6 bO
          refine Aa ?_
          rcases Ae bL with⟨b7,bL⟩|⟨b7,bL⟩
          ·refine Ak f Z b7 ?_
           refine Ax Z ?_
           obtain rfl:=sj bL
           obtain rfl:=bM _ rfl
           exact⟨_,Z,_,bJ,(gt bN b6),f.k Z,m,bO⟩
          ·refine Ai f Z b7 ?_
           refine Al ?_
           refine BI AF m ?_
           refine p_p 2 Z f (λ_=>A5 (f.e Z)) λa f=>p_p 3 Z f (λ_=>A5 (f.e Z)) λa f=>p_p 4 Z f (λ_=>AA (f.e Z) (f.e Z) AI) λa f=>BL 28015 12 (by kernel_rfl) Z ?_
           refine Ag 0 28015 Z f Z λa f=>Ag 1 28015 Z f Z λa f=>Ag 5 28015 Z f Z λa f=>Ag 6 28015 Z f Z λa f=>q_p 7 28015 Z f (λ_=>AA (f.e Z) (f.e Z) AI) λa f=> ?_
           have⟨b8,b9,bL⟩:=bind_some bL
           refine AL 8 28015 0 m bO T54 b9 Z f Z Z λca a cb f=>A1 9 28015 0 bO AS cb b9 Z f Z λcc a cd f=> ?_
           subst cd
           refine Ag 10 28015 Z f Z λa f=>Ag 11 28015 Z f Z λa f=> ?_
           have⟨ce,cf,bL⟩:=bind_some bL
           refine AL 12 28015 0 m bO T54 cf Z f Z Z λcg a ch f=>A1 13 28015 0 bO AS ch cf Z f Z λci a cj f=> ?_
           subst cj
           have⟨ck,cl,bL⟩:=bind_some bL
           refine AL 14 28015 0 m bO T54 cl Z f Z Z λcm a cn f=>AP λco w cp m=> ?_
           have bO:=od1 cp bO
           refine Az 0 m bO Z sizeOf75 f Z Z cn cl Z Z Z λcq w m cr=> ?_
           have⟨cs,ct,bL⟩:=bind_some bL
           refine A2 0 m cr Z T54 f Z Z Z ct λcu a cv f=>Az 0 m cr Z sizeOf75 f Z Z cv ct Z Z Z λcw w m cx=>Aa (An ?_)
           refine Ab f Z λa f=>Ah f Z Z AI λa f=>Ac f Z λa f=>Aa ?_
           obtain rfl:=sj bL
           exact⟨_,Z,_,_,Z,_,cw,(gt bN (gt b6 cp)),f.k Z,m,cx⟩
         ·refine Ai f Z bP ?_
          refine Ax Z ?_
          obtain rfl:=sj bL
          obtain rfl:=bM _ rfl
          exact⟨_,Z,_,bJ,bN,f.k Z,m,bO⟩
        ·rintro a w ⟨bC,rfl,bD,bE,cy,f,m,cz⟩
         obtain rfl:=sj bu
         exact⟨_,Z,_,bE,cy,f.k Z,m,cz⟩
       ·refine Ai f Z bz ?_
        refine Al ?_
        obtain rfl:=sj bu
        exact⟨_,Z,_,br,gr,f.k Z,m,bs⟩
      ·rintro a w ⟨bv,rfl,bw,bx,cA,f,m,cB⟩
       refine Ad ?_
       refine Ab f Z λa f=>Ab f Z λa f=>Ah f Z Z AI λa f=>Ah f Z Z B3 λa f=>Aa ?_
       rcases Ae am with⟨cC,am⟩|⟨cC,am⟩
       ·refine Ak f Z cC ?_
        refine Ad ?_
        refine Ab f Z λa f=>Ah f Z Z Au λa f=>Ac f Z λa f=>Aa ?_
        have⟨cD,cE,am⟩:=bind_some am
        refine AB (λa w=>∃cF:LI,cF=cD∧∃(cG:GH) (cH:Itm),GLe bw cG∧Fr a 141 [(0,v0),(1,(iv x1)),(2,(iv x2)),(3,(.func (.func 71) #[] #[])),(9,(iv av)),(10,(iv ai))]∧Mem W cG w (cH::H)∧Ow (RI .u32) 75 cG cH v0 cF) ?_ ?_
        ·refine Aj ?_
         refine Ay (λcI a w=>∃cJ:LI,∃cK:Int,(cJ,cK)=cI∧∃(cL:GH) (cM:Itm),GLe bw cL∧Fr a 141 [(0,v0),(1,(iv x1)),(2,(iv x2)),(3,(.func (.func 71) #[] #[])),(9,(iv av)),(10,(iv ai)),(12,(iv cK))]∧Mem W cL w (cM::H)∧Ow (RI .u32) 75 cL cM v0 cJ) cE ⟨_,_,Z,_,bx,gr,f.k Z,m,cB⟩ ?_
         clear cE f m
         rintro cI cN cO cP a w ⟨cJ,cK,rfl,cL,cM,cQ,f,m,cR⟩
         refine Af (Ad ?_)
         refine Ab f Z λa f=>Ab f Z λa f=>Ah f Z Z AD λa f=>Aa ?_
         rcases Ae cO with⟨cS,cO⟩|⟨cS,cO⟩
         ·refine Ak f Z cS ?_
          refine Al ?_
          refine Af (Aj (Af (Af ?_)))
          refine A8 13 AF (by kernel_rfl) m ?_
          refine Ag 0 13 Z f Z λa f=>Ag 1 13 Z f Z λa f=>Ag 2 13 Z f Z λa f=> ?_
          have⟨cT,cU,cO⟩:=bind_some cO
          refine AL 3 13 0 m cR T54 cU Z f Z Z λcV a cW f=>A1 4 13 0 cR AS cW cU Z f Z λcX a cY f=> ?_
          subst cY
          refine Ag 5 13 Z f Z λa f=>Ag 6 13 Z f Z λa f=>q_p 7 13 Z f (λ_=>AA (f.e Z) (f.e Z) AI) λa f=> ?_
          have⟨cZ,c0,cO⟩:=bind_some cO
          refine AL 8 13 0 m cR T54 c0 Z f Z Z λc1 a c2 f=>A1 9 13 0 cR AS c2 c0 Z f Z λc3 a c4 f=> ?_
          subst c4
          have⟨c5,c6,cO⟩:=bind_some cO
          refine BQ (i:=10) 13 Z (by kernel_rfl) Z f Z Z Z Z call71 (λ_ _ w c7 m=>Wk.a hW m c6) λa f=>q_p 11 13 Z f (λ_=>AA (f.e Z) (f.e Z) AD) λa f=>q_p 12 13 Z f (λ_=>Bc (f.e Z)) λa f=>AP λc8 w c9 m=> ?_
          have cR:=od1 c9 cR
          refine Aa ?_
          rcases Ae cO with⟨da,cO⟩|⟨da,cO⟩
          ·refine Ak f Z da ?_
           refine Ax Z ?_
           obtain rfl:=sj cO
           obtain rfl:=cP _ rfl
           exact⟨_,Z,_,cM,(gt cQ c9),f.k Z,m,cR⟩
          ·refine Ai f Z da ?_
           refine Al ?_
           refine BI AF m ?_
           refine p_p 2 Z f (λ_=>A5 (f.e Z)) λa f=>p_p 3 Z f (λ_=>A5 (f.e Z)) λa f=>p_p 4 Z f (λ_=>AA (f.e Z) (f.e Z) AI) λa f=>BL 28015 12 (by kernel_rfl) Z ?_
           refine Ag 0 28015 Z f Z λa f=>Ag 1 28015 Z f Z λa f=>Ag 5 28015 Z f Z λa f=>Ag 6 28015 Z f Z λa f=>q_p 7 28015 Z f (λ_=>AA (f.e Z) (f.e Z) AI) λa f=> ?_
           have⟨db,dc,cO⟩:=bind_some cO
           refine AL 8 28015 0 m cR T54 dc Z f Z Z λdd a de f=>A1 9 28015 0 cR AS de dc Z f Z λdf a dg f=> ?_
           subst dg
           refine Ag 10 28015 Z f Z λa f=>Ag 11 28015 Z f Z λa f=> ?_
           have⟨dh,di,cO⟩:=bind_some cO
           refine AL 12 28015 0 m cR T54 di Z f Z Z λdj a dk f=>A1 13 28015 0 cR AS dk di Z f Z λdl a dm f=> ?_
           subst dm
           have⟨dn,dp,cO⟩:=bind_some cO
           refine AL 14 28015 0 m cR T54 dp Z f Z Z λdq a dr f=>AP λds w dt m=> ?_
           have cR:=od1 dt cR
           refine Az 0 m cR Z sizeOf75 f Z Z dr dp Z Z Z λdu w m dv=> ?_
           have⟨dw,dx,cO⟩:=bind_some cO
           refine A2 0 m dv Z T54 f Z Z Z dx λdy a dz f=>Az 0 m dv Z sizeOf75 f Z Z dz dx Z Z Z λdA w m dB=>Aa (An ?_)
           refine Ab f Z λa f=>Ah f Z Z Au λa f=>Ac f Z λa f=>Aa ?_
           obtain rfl:=sj cO
           exact⟨_,Z,_,_,Z,_,dA,(gt cQ (gt c9 dt)),f.k Z,m,dB⟩
         ·refine Ai f Z cS ?_
          refine Ax Z ?_
          obtain rfl:=sj cO
          obtain rfl:=cP _ rfl
          exact⟨_,Z,_,cM,cQ,f.k Z,m,cR⟩
        ·rintro a w ⟨cF,rfl,cG,cH,dC,f,m,dD⟩
         refine An ?_
         refine Ab f Z λa f=>Ah f Z Z Au λa f=>Ac f Z λa f=>Aa ?_
         obtain rfl:=sj am
         exact⟨_,Z,_,_,_,Z,_,cH,(gt ao (gt a0 (gt bk (gt cA dC)))),f.k Z,m,dD⟩
       ·refine Ai f Z cC ?_
        refine Al ?_
        refine An ?_
        refine Ab f Z λa f=>Ah f Z Z Au λa f=>Ac f Z λa f=>Aa ?_
        obtain rfl:=sj am
        exact⟨_,Z,_,_,_,Z,_,bx,(gt ao (gt a0 (gt bk cA))),f.k Z,m,cB⟩
  ·refine Ai f Z aq ?_
   refine Ax Z ?_
   obtain rfl:=sj am
   obtain rfl:=an _ rfl
   exact⟨_,Z,_,Z,_,ak,ao,f.weak trivial,m,ap⟩
 ·rintro a w ⟨_,rfl,ac,rfl,ad,ae,dE,f,m,dF⟩
  refine Ad ?_
  refine Ac f Z λa f=>Aa ?_
  refine Ap ?_
  obtain rfl:=sj hd
  exact⟨[(.bool false)],f.g Z,f.d,_,[ae],dE,m,_,Z,Z,dF⟩
theorem Wk.L0 {v0:Value}{it0:Itm}{x0:LI}{x1 x2 x3:Int}(hW:Br W)(m:Mem W G w (it0::H))(o0:Ow (RI .u32) 75 G it0 v0 x0){y:Int×(LI)}(hd:D.L0 x0 x1 x2 x3=some y):
  Calls prog 116 #[v0,(iv x1),(iv x2),(iv x3),(.func (.func 71) #[] #[])] w (Res W G H (λG' Ho v=>∃i0:Itm,Ho=[i0]∧v=(iv y.1)∧Ow (RI .u32) 75 G' i0 v0 y.2)):=by
 refine Ar (args:=[v0,(iv x1),(iv x2),(iv x3),(.func (.func 71) #[] #[])]) (N:=90) [.tmp 10] func116 Z Z (lb Z) Z λa f=> ?_
 unfold D.L0 at hd
 refine Ad ?_
 refine Ac f Z λa f=>Aa (Af ?_)
 refine BI AF m ?_
 refine p_p 2 Z f (λ_=>A5 (f.e Z)) λa f=>p_p 3 Z f (λ_=>A5 (f.e Z)) λa f=>BL 12013 11 (by kernel_rfl) Z ?_
 refine Ag 0 12013 Z f Z λa f=>Ag 1 12013 Z f Z λa f=>Ag 4 12013 Z f Z λa f=>Ag 5 12013 Z f Z λa f=> ?_
 have⟨aa,ab,hd⟩:=bind_some hd
 refine AL 6 12013 0 m o0 T54 ab Z f Z Z λac a ad f=>A1 7 12013 0 o0 AS ad ab Z f Z λae a af f=> ?_
 subst af
 refine Ag 8 12013 Z f Z λa f=>Ag 9 12013 Z f Z λa f=> ?_
 have⟨ag,ah,hd⟩:=bind_some hd
 refine AL 10 12013 0 m o0 T54 ah Z f Z Z λai a aj f=>A1 11 12013 0 o0 AS aj ah Z f Z λak a al f=> ?_
 subst al
 have⟨am,an,hd⟩:=bind_some hd
 refine AL 12 12013 0 m o0 T54 an Z f Z Z λao a ap f=>AP λaq w ar m=> ?_
 have o0:=od1 ar o0
 refine Az 0 m o0 Z sizeOf75 f Z Z ap an Z Z Z λau w m av=> ?_
 have⟨aw,ax,hd⟩:=bind_some hd
 refine A2 0 m av Z T54 f Z Z Z ax λay a az f=>Az 0 m av Z sizeOf75 f Z Z az ax Z Z Z λaA w m aB=>Av ?_
 refine Ab f Z λa f=>Ah f Z Z Au λa f=>Ab f Z λa f=>Ah f Z Z AI λa f=>Ac f Z λa f=>Ac f Z λa f=>Aa (Af ?_)
 have⟨aC,aD,hd⟩:=bind_some hd
 refine AB (λa w=>∃aE:LI,∃aF:Int,(aE,aF)=aC∧∃(aG:GH) (aH:Itm),GLe aq aG∧Fr a 90 [(11,(iv aF))]∧Mem W aG w (aH::H)∧Ow (RI .u32) 75 aG aH v0 aE) ?_ ?_
 ·refine Aj ?_
  refine Ay (λaI a w=>∃aJ:LI,∃aK:Int,∃aL:Int,(aJ,aK,aL)=aI∧∃(aM:GH) (aN:Itm),GLe aq aM∧Fr a 90 [(0,v0),(1,(iv x1)),(4,(.func (.func 71) #[] #[])),(11,(iv aK)),(12,(iv aL))]∧Mem W aM w (aN::H)∧Ow (RI .u32) 75 aM aN v0 aJ) aD ⟨_,_,_,Z,_,aA,gr,f.k Z,m,aB⟩ ?_
  clear aD f m
  rintro aI aO aP aQ a w ⟨aJ,aK,aL,rfl,aM,aN,aR,f,m,aS⟩
  refine Aj (Af ?_)
  have⟨aT,aU,aP⟩:=bind_some aP
  refine AB (λa w=>∃aV:Int,aV=aT∧∃(aW:GH),GLe aM aW∧Fr a 90 [(0,v0),(1,(iv x1)),(4,(.func (.func 71) #[] #[])),(11,(iv aV)),(12,(iv aL))]∧Mem W aW w (aN::H)) ?_ ?_
  ·refine Aj ?_
   refine Ay (λaX a w=>∃aY:Int,aY=aX∧∃(aZ:GH),GLe aM aZ∧Fr a 90 [(0,v0),(1,(iv x1)),(4,(.func (.func 71) #[] #[])),(11,(iv aY)),(12,(iv aL))]∧Mem W aZ w (aN::H)) aU ⟨_,Z,_,gr,f.k Z,m⟩ ?_
   clear aU f m
   rintro aX a0 a1 a2 a w ⟨aY,rfl,aZ,a3,f,m⟩
   have aS:=od1 a3 aS
   refine Af (Af ?_)
   refine A8 17 AF (by kernel_rfl) m ?_
   refine Ag 0 17 Z f Z λa f=>Ag 1 17 Z f Z λa f=>q_p 2 17 Z f (λ_=>AA (f.e Z) (f.e Z) Cz) λa f=>Ag 3 17 Z f Z λa f=> ?_
   have⟨a4,a5,a1⟩:=bind_some a1
   refine Cr (fuel':=0) (listed':= #[true,true,true,true,true,true,true,true,true,true,true,true,true,true,true,true,true]) (λa=>Fr a 90 [(0,v0),(1,(iv x1)),(4,(.func (.func 71) #[] #[])),(11,(iv aY)),(12,(iv aL)),(31,(iv aY)),(32,(iv aL)),(33,(.bool (decide (aY≤aL)))),(34,(.bool (decide (aY≤aL)))),(47,(.bool a4))]) ?_ ?_
   ·intro a f
    refine AP λa6 w a7 m=>Aa ?_
    rcases Ae a1 with⟨a8,a1⟩|⟨a8,a1⟩
    ·refine Ak f Z a8 ?_
     refine Al ?_
     refine Aj (An ?_)
     refine Ab f Z λa f=>Ah f Z Z Au λa f=>Ac f Z λa f=>Aa ?_
     obtain rfl:=sj a1
     exact⟨_,Z,_,Z,_,(gt a3 a7),f.k Z,m⟩
    ·refine Ai f Z a8 ?_
     refine Ax Z ?_
     obtain rfl:=sj a1
     obtain rfl:=a2 _ rfl
     exact⟨_,Z,_,(gt a3 a7),f.k Z,m⟩
   ·intro a9
    rcases Ae a5 with⟨ba,a5⟩|⟨ba,a5⟩
    ·refine Ag (hw:=wo f ba) 4 17 Z f Z λa f=> ?_
     refine Ag (hw:=wo f ba) 5 17 Z f Z λa f=>Ag (hw:=wo f ba) 6 17 Z f Z λa f=> ?_
     have⟨bb,bc,a5⟩:=bind_some a5
     refine AL (hw:=wo f ba) 7 17 0 m aS T54 bc Z f Z Z λbd a be f=>A1 (hw:=wo f ba) 8 17 0 aS AS be bc Z f Z λbf a bg f=> ?_
     subst bg
     refine Ag (hw:=wo f ba) 9 17 Z f Z λa f=>Ag (hw:=wo f ba) 10 17 Z f Z λa f=> ?_
     have⟨bh,bi,a5⟩:=bind_some a5
     refine AL (hw:=wo f ba) 11 17 0 m aS T54 bi Z f Z Z λbj a bk f=>A1 (hw:=wo f ba) 12 17 0 aS AS bk bi Z f Z λbl a bm f=> ?_
     subst bm
     have⟨bn,bo,a5⟩:=bind_some a5
     refine BQ (i:=13) 17 Z (by kernel_rfl) Z f (Bo f Z Z Z ba) Z Z Z call71 (λ_ _ w bp m=>Wk.a hW m bo) λa f=>q_p (hw:=wo f ba) 14 17 Z f (λ_=>AA (f.e Z) (f.e Z) AD) λa f=>q_p (hw:=wo f ba) 15 17 Z f (λ_=>Bc (f.e Z)) λa f=>q_p 16 17 Z f (λ_=>AV (f.e Z) ba (f.e Z)) λa f=> ?_
     obtain rfl:=sj a5
     exact a9 _ (f.k Z)
    ·refine Aq 4 17 Z f ba λa f=> ?_
     refine Aq 5 17 Z f ba λa f=>Aq 6 17 Z f ba λa f=>Aq 7 17 Z f ba λa f=>Aq 8 17 Z f ba λa f=>Aq 9 17 Z f ba λa f=>Aq 10 17 Z f ba λa f=>Aq 11 17 Z f ba λa f=>Aq 12 17 Z f ba λa f=>Aq 13 17 Z f ba λa f=>Aq 14 17 Z f ba λa f=>Aq 15 17 Z f ba λa f=>q_p 16 17 Z f (λ_=>AZ (f.e Z) ba (f.e Z)) λa f=> ?_
     obtain rfl:=sj a5
     exact a9 _ (f.k Z)
  ·rintro a w ⟨aV,rfl,aW,bq,f,m⟩
   have aS:=od1 bq aS
   refine Af ?_
   have⟨br,bs,aP⟩:=bind_some aP
   refine AB (λa w=>∃bt:Int,bt=br∧∃(bu:GH),GLe aW bu∧Fr a 90 [(0,v0),(1,(iv x1)),(4,(.func (.func 71) #[] #[])),(11,(iv aV)),(12,(iv bt))]∧Mem W bu w (aN::H)) ?_ ?_
   ·refine Aj ?_
    refine Ay (λbv a w=>∃bw:Int,bw=bv∧∃(bx:GH),GLe aW bx∧Fr a 90 [(0,v0),(1,(iv x1)),(4,(.func (.func 71) #[] #[])),(11,(iv aV)),(12,(iv bw))]∧Mem W bx w (aN::H)) bs ⟨_,Z,_,gr,f.k Z,m⟩ ?_
    clear bs f m
    rintro bv bz bA bB a w ⟨bw,rfl,bx,bC,f,m⟩
    have aS:=od1 bC aS
    refine Af (Af ?_)
    refine A8 16 AF (by kernel_rfl) m ?_
    refine Ag 0 16 Z f Z λa f=>Ag 1 16 Z f Z λa f=>q_p 2 16 Z f (λ_=>AA (f.e Z) (f.e Z) Cz) λa f=>Ag 3 16 Z f Z λa f=> ?_
    have⟨bD,bE,bA⟩:=bind_some bA
    refine Cr (fuel':=0) (listed':= #[true,true,true,true,true,true,true,true,true,true,true,true,true,true,true,true]) (λa=>Fr a 90 [(0,v0),(1,(iv x1)),(4,(.func (.func 71) #[] #[])),(11,(iv aV)),(12,(iv bw)),(50,(iv aV)),(51,(iv bw)),(52,(.bool (decide (aV≤bw)))),(53,(.bool (decide (aV≤bw)))),(65,(.bool bD))]) ?_ ?_
    ·intro a f
     refine AP λbF w bG m=>Aa ?_
     rcases Ae bA with⟨bH,bA⟩|⟨bH,bA⟩
     ·refine Ak f Z bH ?_
      refine Al ?_
      refine Aj (An ?_)
      refine Ab f Z λa f=>Ah f Z Z AI λa f=>Ac f Z λa f=>Aa ?_
      obtain rfl:=sj bA
      exact⟨_,Z,_,Z,_,(gt bC bG),f.k Z,m⟩
     ·refine Ai f Z bH ?_
      refine Ax Z ?_
      obtain rfl:=sj bA
      obtain rfl:=bB _ rfl
      exact⟨_,Z,_,(gt bC bG),f.k Z,m⟩
    ·intro bI
     rcases Ae bE with⟨bJ,bE⟩|⟨bJ,bE⟩
     ·refine Ag (hw:=wo f bJ) 4 16 Z f Z λa f=> ?_
      refine Ag (hw:=wo f bJ) 5 16 Z f Z λa f=>Ag (hw:=wo f bJ) 6 16 Z f Z λa f=> ?_
      have⟨bK,bL,bE⟩:=bind_some bE
      refine AL (hw:=wo f bJ) 7 16 0 m aS T54 bL Z f Z Z λbM a bN f=>A1 (hw:=wo f bJ) 8 16 0 aS AS bN bL Z f Z λbO a bP f=> ?_
      subst bP
      refine Ag (hw:=wo f bJ) 9 16 Z f Z λa f=>Ag (hw:=wo f bJ) 10 16 Z f Z λa f=> ?_
      have⟨bQ,bR,bE⟩:=bind_some bE
      refine AL (hw:=wo f bJ) 11 16 0 m aS T54 bR Z f Z Z λbS a bT f=>A1 (hw:=wo f bJ) 12 16 0 aS AS bT bR Z f Z λbU a bV f=> ?_
      subst bV
      have⟨bW,bX,bE⟩:=bind_some bE
      refine BQ (i:=13) 16 Z (by kernel_rfl) Z f (Bo f Z Z Z bJ) Z Z Z call71 (λ_ _ w bY m=>Wk.a hW m bX) λa f=>q_p (hw:=wo f bJ) 14 16 Z f (λ_=>AA (f.e Z) (f.e Z) AD) λa f=>q_p 15 16 Z f (λ_=>AV (f.e Z) bJ (f.e Z)) λa f=> ?_
      obtain rfl:=sj bE
      exact bI _ (f.k Z)
     ·refine Aq 4 16 Z f bJ λa f=> ?_
      refine Aq 5 16 Z f bJ λa f=>Aq 6 16 Z f bJ λa f=>Aq 7 16 Z f bJ λa f=>Aq 8 16 Z f bJ λa f=>Aq 9 16 Z f bJ λa f=>Aq 10 16 Z f bJ λa f=>Aq 11 16 Z f bJ λa f=>Aq 12 16 Z f bJ λa f=>Aq 13 16 Z f bJ λa f=>Aq 14 16 Z f bJ λa f=>q_p 15 16 Z f (λ_=>AZ (f.e Z) bJ (f.e Z)) λa f=> ?_
      obtain rfl:=sj bE
      exact bI _ (f.k Z)
   ·rintro a w ⟨bt,rfl,bu,bZ,f,m⟩
    have aS:=od1 bZ aS
    refine Af (Ad ?_)
    refine Ab f Z λa f=>Ab f Z λa f=>Ah f Z Z CV λa f=>Aa ?_
    rcases Ae aP with⟨b0,aP⟩|⟨b0,aP⟩
    ·refine Ak f Z b0 ?_
     refine Ax Z ?_
     obtain rfl:=sj aP
     obtain rfl:=aQ _ rfl
     exact⟨_,_,Z,_,aN,(gt aR (gt bq bZ)),f.k Z,m,aS⟩
    ·refine Ai f Z b0 ?_
     refine Al ?_
     refine Af ?_
     refine BI AF m ?_
     refine p_p 2 Z f (λ_=>A5 (f.e Z)) λa f=>p_p 3 Z f (λ_=>A5 (f.e Z)) λa f=>BL 12013 11 (by kernel_rfl) Z ?_
     refine Ag 0 12013 Z f Z λa f=>Ag 1 12013 Z f Z λa f=>Ag 4 12013 Z f Z λa f=>Ag 5 12013 Z f Z λa f=> ?_
     have⟨b1,b2,aP⟩:=bind_some aP
     refine AL 6 12013 0 m aS T54 b2 Z f Z Z λb3 a b4 f=>A1 7 12013 0 aS AS b4 b2 Z f Z λb5 a b6 f=> ?_
     subst b6
     refine Ag 8 12013 Z f Z λa f=>Ag 9 12013 Z f Z λa f=> ?_
     have⟨b7,b8,aP⟩:=bind_some aP
     refine AL 10 12013 0 m aS T54 b8 Z f Z Z λb9 a ca f=>A1 11 12013 0 aS AS ca b8 Z f Z λcb a cc f=> ?_
     subst cc
     have⟨cd,ce,aP⟩:=bind_some aP
     refine AL 12 12013 0 m aS T54 ce Z f Z Z λcf a cg f=>AP λch w ci m=> ?_
     have aS:=od1 ci aS
     refine Az 0 m aS Z sizeOf75 f Z Z cg ce Z Z Z λcj w m ck=> ?_
     have⟨cl,cm,aP⟩:=bind_some aP
     refine A2 0 m ck Z T54 f Z Z Z cm λcn a co f=>Az 0 m ck Z sizeOf75 f Z Z co cm Z Z Z λcp w m cq=>Av ?_
     refine Ab f Z λa f=>Ah f Z Z Au λa f=>Ac f Z λa f=>Aa (An ?_)
     refine Ab f Z λa f=>Ah f Z Z AI λa f=>Ac f Z λa f=>Aa ?_
     obtain rfl:=sj aP
     exact⟨_,Z,_,_,_,Z,_,cp,(gt aR (gt bq (gt bZ ci))),f.k Z,m,cq⟩
 ·rintro a w ⟨aE,aF,rfl,aG,aH,cr,f,m,cs⟩
  refine Ad ?_
  refine Ab f Z λa f=>Ac f Z λa f=>Aa ?_
  refine Ap ?_
  obtain rfl:=sj hd
  exact⟨[(iv aF)],f.g Z,f.d,_,[aH],(gt ar cr),m,_,Z,Z,cs⟩
theorem Wk.M0 {v0:Value}{it0:Itm}{x0:LI}{x1 x2 x3:Int}(hW:Br W)(m:Mem W G w (it0::H))(o0:Ow (RI .u32) 75 G it0 v0 x0){y:Int×Bool×(LI)}(hd:D.M0 x0 x1 x2 x3=some y):
  Calls prog 117 #[v0,(iv x1),(iv x2),(iv x3),(.func (.func 71) #[] #[])] w (Res W G H (λG' Ho v=>∃i0:Itm,Ho=[i0]∧v= .tuple #[(iv y.1),(.bool y.2.1)]∧Ow (RI .u32) 75 G' i0 v0 y.2.2)):=by
 refine Ar (args:=[v0,(iv x1),(iv x2),(iv x3),(.func (.func 71) #[] #[])]) (N:=178) [.tmp 10,.tmp 11] func117 Z Z (lb Z) Z λa f=> ?_
 unfold D.M0 at hd
 refine Ad ?_
 refine Ac f Z λa f=>Ac f Z λa f=>Aa (Af ?_)
 refine BI AF m ?_
 refine p_p 2 Z f (λ_=>A5 (f.e Z)) λa f=>p_p 3 Z f (λ_=>A5 (f.e Z)) λa f=>BL 12013 11 (by kernel_rfl) Z ?_
 refine Ag 0 12013 Z f Z λa f=>Ag 1 12013 Z f Z λa f=>Ag 4 12013 Z f Z λa f=>Ag 5 12013 Z f Z λa f=> ?_
 have⟨aa,ab,hd⟩:=bind_some hd
 refine AL 6 12013 0 m o0 T54 ab Z f Z Z λac a ad f=>A1 7 12013 0 o0 AS ad ab Z f Z λae a af f=> ?_
 subst af
 refine Ag 8 12013 Z f Z λa f=>Ag 9 12013 Z f Z λa f=> ?_
 have⟨ag,ah,hd⟩:=bind_some hd
 refine AL 10 12013 0 m o0 T54 ah Z f Z Z λai a aj f=>A1 11 12013 0 o0 AS aj ah Z f Z λak a al f=> ?_
 subst al
 have⟨am,an,hd⟩:=bind_some hd
 refine AL 12 12013 0 m o0 T54 an Z f Z Z λao a ap f=>AP λaq w ar m=> ?_
 have o0:=od1 ar o0
 refine Az 0 m o0 Z sizeOf75 f Z Z ap an Z Z Z λau w m av=> ?_
 have⟨aw,ax,hd⟩:=bind_some hd
 refine A2 0 m av Z T54 f Z Z Z ax λay a az f=>Az 0 m av Z sizeOf75 f Z Z az ax Z Z Z λaA w m aB=>Av ?_
 refine Ab f Z λa f=>Ah f Z Z Au λa f=>Ab f Z λa f=>Ah f Z Z AI λa f=>Ac f Z λa f=>Ac f Z λa f=>Aa (Af ?_)
 have⟨aC,aD,hd⟩:=bind_some hd
 refine AB (λa w=>∃aE:Int,aE=aC∧∃(aF:GH),GLe aq aF∧Fr a 178 [(0,v0),(1,(iv x1)),(4,(.func (.func 71) #[] #[])),(12,(iv aE)),(13,(iv (i64.wrap (x2-1))))]∧Mem W aF w (aA::H)) ?_ ?_
 ·refine Aj ?_
  refine Ay (λaG a w=>∃aH:Int,aH=aG∧∃(aI:GH),GLe aq aI∧Fr a 178 [(0,v0),(1,(iv x1)),(4,(.func (.func 71) #[] #[])),(12,(iv aH)),(13,(iv (i64.wrap (x2-1))))]∧Mem W aI w (aA::H)) aD ⟨_,Z,_,gr,f.k Z,m⟩ ?_
  clear aD f m
  rintro aG aJ aK aL a w ⟨aH,rfl,aI,aM,f,m⟩
  have aB:=od1 aM aB
  refine Af (Af ?_)
  refine A8 16 AF (by kernel_rfl) m ?_
  refine Ag 0 16 Z f Z λa f=>Ag 1 16 Z f Z λa f=>q_p 2 16 Z f (λ_=>AA (f.e Z) (f.e Z) Cz) λa f=>Ag 3 16 Z f Z λa f=> ?_
  have⟨aN,aO,aK⟩:=bind_some aK
  refine Cr (fuel':=0) (listed':= #[true,true,true,true,true,true,true,true,true,true,true,true,true,true,true,true]) (λa=>Fr a 178 [(0,v0),(1,(iv x1)),(4,(.func (.func 71) #[] #[])),(12,(iv aH)),(13,(iv (i64.wrap (x2-1)))),(32,(iv aH)),(33,(iv (i64.wrap (x2-1)))),(34,(.bool (decide (aH≤(i64.wrap (x2-1)))))),(35,(.bool (decide (aH≤(i64.wrap (x2-1)))))),(47,(.bool aN))]) ?_ ?_
  ·intro a f
   refine AP λaP w aQ m=>Aa ?_
   rcases Ae aK with⟨aR,aK⟩|⟨aR,aK⟩
   ·refine Ak f Z aR ?_
    refine Al ?_
    refine Aj (An ?_)
    refine Ab f Z λa f=>Ah f Z Z Au λa f=>Ac f Z λa f=>Aa ?_
    obtain rfl:=sj aK
    exact⟨_,Z,_,Z,_,(gt aM aQ),f.k Z,m⟩
   ·refine Ai f Z aR ?_
    refine Ax Z ?_
    obtain rfl:=sj aK
    obtain rfl:=aL _ rfl
    exact⟨_,Z,_,(gt aM aQ),f.k Z,m⟩
  ·intro aS
   rcases Ae aO with⟨aT,aO⟩|⟨aT,aO⟩
   ·refine Ag (hw:=wo f aT) 4 16 Z f Z λa f=> ?_
    refine Ag (hw:=wo f aT) 5 16 Z f Z λa f=>Ag (hw:=wo f aT) 6 16 Z f Z λa f=> ?_
    have⟨aU,aV,aO⟩:=bind_some aO
    refine AL (hw:=wo f aT) 7 16 0 m aB T54 aV Z f Z Z λaW a aX f=>A1 (hw:=wo f aT) 8 16 0 aB AS aX aV Z f Z λaY a aZ f=> ?_
    subst aZ
    refine Ag (hw:=wo f aT) 9 16 Z f Z λa f=>Ag (hw:=wo f aT) 10 16 Z f Z λa f=> ?_
    have⟨a0,a1,aO⟩:=bind_some aO
    refine AL (hw:=wo f aT) 11 16 0 m aB T54 a1 Z f Z Z λa2 a a3 f=>A1 (hw:=wo f aT) 12 16 0 aB AS a3 a1 Z f Z λa4 a a5 f=> ?_
    subst a5
    have⟨a6,a7,aO⟩:=bind_some aO
    refine BQ (i:=13) 16 Z (by kernel_rfl) Z f (Bo f Z Z Z aT) Z Z Z call71 (λ_ _ w a8 m=>Wk.a hW m a7) λa f=>q_p (hw:=wo f aT) 14 16 Z f (λ_=>AA (f.e Z) (f.e Z) AD) λa f=>q_p 15 16 Z f (λ_=>AV (f.e Z) aT (f.e Z)) λa f=> ?_
    obtain rfl:=sj aO
    exact aS _ (f.k Z)
   ·refine Aq 4 16 Z f aT λa f=> ?_
    refine Aq 5 16 Z f aT λa f=>Aq 6 16 Z f aT λa f=>Aq 7 16 Z f aT λa f=>Aq 8 16 Z f aT λa f=>Aq 9 16 Z f aT λa f=>Aq 10 16 Z f aT λa f=>Aq 11 16 Z f aT λa f=>Aq 12 16 Z f aT λa f=>Aq 13 16 Z f aT λa f=>Aq 14 16 Z f aT λa f=>q_p 15 16 Z f (λ_=>AZ (f.e Z) aT (f.e Z)) λa f=> ?_
    obtain rfl:=sj aO
    exact aS _ (f.k Z)
 ·rintro a w ⟨aE,rfl,aF,a9,f,m⟩
  have aB:=od1 a9 aB
  refine Af ?_
  have⟨ba,bb,hd⟩:=bind_some hd
  refine AB (λa w=>∃bc:Int,bc=ba∧∃(bd:GH),GLe aF bd∧Fr a 178 [(0,v0),(1,(iv x1)),(4,(.func (.func 71) #[] #[])),(12,(iv aE)),(13,(iv bc))]∧Mem W bd w (aA::H)) ?_ ?_
  ·refine Aj ?_
   refine Ay (λbe a w=>∃bf:Int,bf=be∧∃(bg:GH),GLe aF bg∧Fr a 178 [(0,v0),(1,(iv x1)),(4,(.func (.func 71) #[] #[])),(12,(iv aE)),(13,(iv bf))]∧Mem W bg w (aA::H)) bb ⟨_,Z,_,gr,f.k Z,m⟩ ?_
   clear bb f m
   rintro be bh bi bj a w ⟨bf,rfl,bg,bk,f,m⟩
   have aB:=od1 bk aB
   refine Af (Af ?_)
   refine A8 17 AF (by kernel_rfl) m ?_
   refine Ag 0 17 Z f Z λa f=>Ag 1 17 Z f Z λa f=>q_p 2 17 Z f (λ_=>AA (f.e Z) (f.e Z) Cz) λa f=>Ag 3 17 Z f Z λa f=> ?_
   have⟨bl,bm,bi⟩:=bind_some bi
   refine Cr (fuel':=0) (listed':= #[true,true,true,true,true,true,true,true,true,true,true,true,true,true,true,true,true]) (λa=>Fr a 178 [(0,v0),(1,(iv x1)),(4,(.func (.func 71) #[] #[])),(12,(iv aE)),(13,(iv bf)),(50,(iv aE)),(51,(iv bf)),(52,(.bool (decide (aE≤bf)))),(53,(.bool (decide (aE≤bf)))),(66,(.bool bl))]) ?_ ?_
   ·intro a f
    refine AP λbn w bo m=>Aa ?_
    rcases Ae bi with⟨bp,bi⟩|⟨bp,bi⟩
    ·refine Ak f Z bp ?_
     refine Al ?_
     refine Aj (An ?_)
     refine Ab f Z λa f=>Ah f Z Z AI λa f=>Ac f Z λa f=>Aa ?_
     obtain rfl:=sj bi
     exact⟨_,Z,_,Z,_,(gt bk bo),f.k Z,m⟩
    ·refine Ai f Z bp ?_
     refine Ax Z ?_
     obtain rfl:=sj bi
     obtain rfl:=bj _ rfl
     exact⟨_,Z,_,(gt bk bo),f.k Z,m⟩
   ·intro bq
    rcases Ae bm with⟨br,bm⟩|⟨br,bm⟩
    ·refine Ag (hw:=wo f br) 4 17 Z f Z λa f=> ?_
     refine Ag (hw:=wo f br) 5 17 Z f Z λa f=>Ag (hw:=wo f br) 6 17 Z f Z λa f=> ?_
     have⟨bs,bt,bm⟩:=bind_some bm
     refine AL (hw:=wo f br) 7 17 0 m aB T54 bt Z f Z Z λbu a bv f=>A1 (hw:=wo f br) 8 17 0 aB AS bv bt Z f Z λbw a bx f=> ?_
     subst bx
     refine Ag (hw:=wo f br) 9 17 Z f Z λa f=>Ag (hw:=wo f br) 10 17 Z f Z λa f=> ?_
     have⟨bz,bA,bm⟩:=bind_some bm
     refine AL (hw:=wo f br) 11 17 0 m aB T54 bA Z f Z Z λbB a bC f=>A1 (hw:=wo f br) 12 17 0 aB AS bC bA Z f Z λbD a bE f=> ?_
     subst bE
     have⟨bF,bG,bm⟩:=bind_some bm
     refine BQ (i:=13) 17 Z (by kernel_rfl) Z f (Bo f Z Z Z br) Z Z Z call71 (λ_ _ w bH m=>Wk.a hW m bG) λa f=>q_p (hw:=wo f br) 14 17 Z f (λ_=>AA (f.e Z) (f.e Z) AD) λa f=>q_p (hw:=wo f br) 15 17 Z f (λ_=>Bc (f.e Z)) λa f=>q_p 16 17 Z f (λ_=>AV (f.e Z) br (f.e Z)) λa f=> ?_
     obtain rfl:=sj bm
     exact bq _ (f.k Z)
    ·refine Aq 4 17 Z f br λa f=> ?_
     refine Aq 5 17 Z f br λa f=>Aq 6 17 Z f br λa f=>Aq 7 17 Z f br λa f=>Aq 8 17 Z f br λa f=>Aq 9 17 Z f br λa f=>Aq 10 17 Z f br λa f=>Aq 11 17 Z f br λa f=>Aq 12 17 Z f br λa f=>Aq 13 17 Z f br λa f=>Aq 14 17 Z f br λa f=>Aq 15 17 Z f br λa f=>q_p 16 17 Z f (λ_=>AZ (f.e Z) br (f.e Z)) λa f=> ?_
     obtain rfl:=sj bm
     exact bq _ (f.k Z)
  ·rintro a w ⟨bc,rfl,bd,bI,f,m⟩
   have aB:=od1 bI aB
   refine Af (Ad ?_)
   refine Ab f Z λa f=>Ab f Z λa f=>Ah f Z Z CV λa f=>Aa ?_
   rcases Ae hd with⟨bJ,hd⟩|⟨bJ,hd⟩
   ·refine Ak f Z bJ ?_
    refine Af ?_
    refine BI AF m ?_
    refine p_p 2 Z f (λ_=>A5 (f.e Z)) λa f=>p_p 3 Z f (λ_=>A5 (f.e Z)) λa f=>BL 12013 11 (by kernel_rfl) Z ?_
    refine Ag 0 12013 Z f Z λa f=>Ag 1 12013 Z f Z λa f=>Ag 4 12013 Z f Z λa f=>Ag 5 12013 Z f Z λa f=> ?_
    have⟨bK,bL,hd⟩:=bind_some hd
    refine AL 6 12013 0 m aB T54 bL Z f Z Z λbM a bN f=>A1 7 12013 0 aB AS bN bL Z f Z λbO a bP f=> ?_
    subst bP
    refine Ag 8 12013 Z f Z λa f=>Ag 9 12013 Z f Z λa f=> ?_
    have⟨bQ,bR,hd⟩:=bind_some hd
    refine AL 10 12013 0 m aB T54 bR Z f Z Z λbS a bT f=>A1 11 12013 0 aB AS bT bR Z f Z λbU a bV f=> ?_
    subst bV
    have⟨bW,bX,hd⟩:=bind_some hd
    refine AL 12 12013 0 m aB T54 bX Z f Z Z λbY a bZ f=>AP λb0 w b1 m=> ?_
    have aB:=od1 b1 aB
    refine Az 0 m aB Z sizeOf75 f Z Z bZ bX Z Z Z λb2 w m b3=> ?_
    have⟨b4,b5,hd⟩:=bind_some hd
    refine A2 0 m b3 Z T54 f Z Z Z b5 λb6 a b7 f=>Az 0 m b3 Z sizeOf75 f Z Z b7 b5 Z Z Z λb8 w m b9=>Av ?_
    refine Ab f Z λa f=>Ac f Z λa f=>Ac f Z λa f=>Aa ?_
    refine Ap ?_
    obtain rfl:=sj hd
    exact⟨[(iv bc),(.bool true)],⟨f.get _ _ Z,f.get _ _ Z,trivial⟩,f.d,_,[b8],(gt ar (gt a9 (gt bI b1))),m,_,Z,Z,b9⟩
   ·refine Ai f Z bJ ?_
    refine Al ?_
    refine Af ?_
    refine BI AF m ?_
    refine p_p 2 Z f (λ_=>A5 (f.e Z)) λa f=>p_p 3 Z f (λ_=>A5 (f.e Z)) λa f=>BL 12013 11 (by kernel_rfl) Z ?_
    refine Ag 0 12013 Z f Z λa f=>Ag 1 12013 Z f Z λa f=>Ag 4 12013 Z f Z λa f=>Ag 5 12013 Z f Z λa f=> ?_
    have⟨ca,cb,hd⟩:=bind_some hd
    refine AL 6 12013 0 m aB T54 cb Z f Z Z λcc a cd f=>A1 7 12013 0 aB AS cd cb Z f Z λce a cf f=> ?_
    subst cf
    refine Ag 8 12013 Z f Z λa f=>Ag 9 12013 Z f Z λa f=> ?_
    have⟨cg,ch,hd⟩:=bind_some hd
    refine AL 10 12013 0 m aB T54 ch Z f Z Z λci a cj f=>A1 11 12013 0 aB AS cj ch Z f Z λck a cl f=> ?_
    subst cl
    have⟨cm,cn,hd⟩:=bind_some hd
    refine AL 12 12013 0 m aB T54 cn Z f Z Z λco a cp f=>AP λcq w cr m=> ?_
    have aB:=od1 cr aB
    refine Az 0 m aB Z sizeOf75 f Z Z cp cn Z Z Z λcs w m ct=> ?_
    have⟨cu,cv,hd⟩:=bind_some hd
    refine A2 0 m ct Z T54 f Z Z Z cv λcw a cx f=>Az 0 m ct Z sizeOf75 f Z Z cx cv Z Z Z λcy w m cz=>Av ?_
    refine Ab f Z λa f=>Ah f Z Z Au λa f=>Ac f Z λa f=>Av ?_
    refine Ab f Z λa f=>Ah f Z Z AI λa f=>Ac f Z λa f=>Aa (Af ?_)
    have⟨cA,cB,hd⟩:=bind_some hd
    refine AB (λa w=>∃cC:LI,∃cD:Int,(cC,cD)=cA∧∃(cE:GH) (cF:Itm),GLe cq cE∧Fr a 178 [(0,v0),(1,(iv x1)),(13,(iv cD))]∧Mem W cE w (cF::H)∧Ow (RI .u32) 75 cE cF v0 cC) ?_ ?_
    ·refine Aj ?_
     refine Ay (λcG a w=>∃cH:LI,∃cI:Int,∃cJ:Int,(cH,cI,cJ)=cG∧∃(cK:GH) (cL:Itm),GLe cq cK∧Fr a 178 [(0,v0),(1,(iv x1)),(4,(.func (.func 71) #[] #[])),(12,(iv cI)),(13,(iv cJ))]∧Mem W cK w (cL::H)∧Ow (RI .u32) 75 cK cL v0 cH) cB ⟨_,_,_,Z,_,cy,gr,f.k Z,m,cz⟩ ?_
     clear cB f m
     rintro cG cM cN cO a w ⟨cH,cI,cJ,rfl,cK,cL,cP,f,m,cQ⟩
     refine Aj (Af ?_)
     have⟨cR,cS,cN⟩:=bind_some cN
     refine AB (λa w=>∃cT:Int,cT=cR∧∃(cU:GH),GLe cK cU∧Fr a 178 [(0,v0),(1,(iv x1)),(4,(.func (.func 71) #[] #[])),(12,(iv cT)),(13,(iv cJ))]∧Mem W cU w (cL::H)) ?_ ?_
     ·refine Aj ?_
      refine Ay (λcV a w=>∃cW:Int,cW=cV∧∃(cX:GH),GLe cK cX∧Fr a 178 [(0,v0),(1,(iv x1)),(4,(.func (.func 71) #[] #[])),(12,(iv cW)),(13,(iv cJ))]∧Mem W cX w (cL::H)) cS ⟨_,Z,_,gr,f.k Z,m⟩ ?_
      clear cS f m
      rintro cV cY cZ c0 a w ⟨cW,rfl,cX,c1,f,m⟩
      have cQ:=od1 c1 cQ
      refine Af (Af ?_)
      refine A8 16 AF (by kernel_rfl) m ?_
      refine Ag 0 16 Z f Z λa f=>Ag 1 16 Z f Z λa f=>q_p 2 16 Z f (λ_=>AA (f.e Z) (f.e Z) Cz) λa f=>Ag 3 16 Z f Z λa f=> ?_
      have⟨c2,c3,cZ⟩:=bind_some cZ
      refine Cr (fuel':=0) (listed':= #[true,true,true,true,true,true,true,true,true,true,true,true,true,true,true,true]) (λa=>Fr a 178 [(0,v0),(1,(iv x1)),(4,(.func (.func 71) #[] #[])),(12,(iv cW)),(13,(iv cJ)),(105,(iv cW)),(106,(iv cJ)),(107,(.bool (decide (cW≤cJ)))),(108,(.bool (decide (cW≤cJ)))),(120,(.bool c2))]) ?_ ?_
      ·intro a f
       refine AP λc4 w c5 m=>Aa ?_
       rcases Ae cZ with⟨c6,cZ⟩|⟨c6,cZ⟩
       ·refine Ak f Z c6 ?_
        refine Al ?_
        refine Aj (An ?_)
        refine Ab f Z λa f=>Ah f Z Z Au λa f=>Ac f Z λa f=>Aa ?_
        obtain rfl:=sj cZ
        exact⟨_,Z,_,Z,_,(gt c1 c5),f.k Z,m⟩
       ·refine Ai f Z c6 ?_
        refine Ax Z ?_
        obtain rfl:=sj cZ
        obtain rfl:=c0 _ rfl
        exact⟨_,Z,_,(gt c1 c5),f.k Z,m⟩
      ·intro c7
       rcases Ae c3 with⟨c8,c3⟩|⟨c8,c3⟩
       ·refine Ag (hw:=wo f c8) 4 16 Z f Z λa f=> ?_
        refine Ag (hw:=wo f c8) 5 16 Z f Z λa f=>Ag (hw:=wo f c8) 6 16 Z f Z λa f=> ?_
        have⟨c9,da,c3⟩:=bind_some c3
        refine AL (hw:=wo f c8) 7 16 0 m cQ T54 da Z f Z Z λdb a dc f=>A1 (hw:=wo f c8) 8 16 0 cQ AS dc da Z f Z λdd a de f=> ?_
        subst de
        refine Ag (hw:=wo f c8) 9 16 Z f Z λa f=>Ag (hw:=wo f c8) 10 16 Z f Z λa f=> ?_
        have⟨df,dg,c3⟩:=bind_some c3
        refine AL (hw:=wo f c8) 11 16 0 m cQ T54 dg Z f Z Z λdh a di f=>A1 (hw:=wo f c8) 12 16 0 cQ AS di dg Z f Z λdj a dk f=> ?_
        subst dk
        have⟨dl,dm,c3⟩:=bind_some c3
        refine BQ (i:=13) 16 Z (by kernel_rfl) Z f (Bo f Z Z Z c8) Z Z Z call71 (λ_ _ w dn m=>Wk.a hW m dm) λa f=>q_p (hw:=wo f c8) 14 16 Z f (λ_=>AA (f.e Z) (f.e Z) AD) λa f=>q_p 15 16 Z f (λ_=>AV (f.e Z) c8 (f.e Z)) λa f=> ?_
        obtain rfl:=sj c3
        exact c7 _ (f.k Z)
       ·refine Aq 4 16 Z f c8 λa f=> ?_
        refine Aq 5 16 Z f c8 λa f=>Aq 6 16 Z f c8 λa f=>Aq 7 16 Z f c8 λa f=>Aq 8 16 Z f c8 λa f=>Aq 9 16 Z f c8 λa f=>Aq 10 16 Z f c8 λa f=>Aq 11 16 Z f c8 λa f=>Aq 12 16 Z f c8 λa f=>Aq 13 16 Z f c8 λa f=>Aq 14 16 Z f c8 λa f=>q_p 15 16 Z f (λ_=>AZ (f.e Z) c8 (f.e Z)) λa f=> ?_
        obtain rfl:=sj c3
        exact c7 _ (f.k Z)
     ·rintro a w ⟨cT,rfl,cU,dp,f,m⟩
      have cQ:=od1 dp cQ
      refine Af ?_
      have⟨dq,dr,cN⟩:=bind_some cN
      refine AB (λa w=>∃ds:Int,ds=dq∧∃(dt:GH),GLe cU dt∧Fr a 178 [(0,v0),(1,(iv x1)),(4,(.func (.func 71) #[] #[])),(12,(iv cT)),(13,(iv ds))]∧Mem W dt w (cL::H)) ?_ ?_
      ·refine Aj ?_
       refine Ay (λdu a w=>∃dv:Int,dv=du∧∃(dw:GH),GLe cU dw∧Fr a 178 [(0,v0),(1,(iv x1)),(4,(.func (.func 71) #[] #[])),(12,(iv cT)),(13,(iv dv))]∧Mem W dw w (cL::H)) dr ⟨_,Z,_,gr,f.k Z,m⟩ ?_
       clear dr f m
       rintro du dx dy dz a w ⟨dv,rfl,dw,dA,f,m⟩
       have cQ:=od1 dA cQ
       refine Af (Af ?_)
       refine A8 17 AF (by kernel_rfl) m ?_
       refine Ag 0 17 Z f Z λa f=>Ag 1 17 Z f Z λa f=>q_p 2 17 Z f (λ_=>AA (f.e Z) (f.e Z) Cz) λa f=>Ag 3 17 Z f Z λa f=> ?_
       have⟨dB,dC,dy⟩:=bind_some dy
       refine Cr (fuel':=0) (listed':= #[true,true,true,true,true,true,true,true,true,true,true,true,true,true,true,true,true]) (λa=>Fr a 178 [(0,v0),(1,(iv x1)),(4,(.func (.func 71) #[] #[])),(12,(iv cT)),(13,(iv dv)),(123,(iv cT)),(124,(iv dv)),(125,(.bool (decide (cT≤dv)))),(126,(.bool (decide (cT≤dv)))),(139,(.bool dB))]) ?_ ?_
       ·intro a f
        refine AP λdD w dE m=>Aa ?_
        rcases Ae dy with⟨dF,dy⟩|⟨dF,dy⟩
        ·refine Ak f Z dF ?_
         refine Al ?_
         refine Aj (An ?_)
         refine Ab f Z λa f=>Ah f Z Z AI λa f=>Ac f Z λa f=>Aa ?_
         obtain rfl:=sj dy
         exact⟨_,Z,_,Z,_,(gt dA dE),f.k Z,m⟩
        ·refine Ai f Z dF ?_
         refine Ax Z ?_
         obtain rfl:=sj dy
         obtain rfl:=dz _ rfl
         exact⟨_,Z,_,(gt dA dE),f.k Z,m⟩
       ·intro dG
        rcases Ae dC with⟨dH,dC⟩|⟨dH,dC⟩
        ·refine Ag (hw:=wo f dH) 4 17 Z f Z λa f=> ?_
         refine Ag (hw:=wo f dH) 5 17 Z f Z λa f=>Ag (hw:=wo f dH) 6 17 Z f Z λa f=> ?_
         have⟨dI,dJ,dC⟩:=bind_some dC
         refine AL (hw:=wo f dH) 7 17 0 m cQ T54 dJ Z f Z Z λdK a dL f=>A1 (hw:=wo f dH) 8 17 0 cQ AS dL dJ Z f Z λdM a dN f=> ?_
         subst dN
         refine Ag (hw:=wo f dH) 9 17 Z f Z λa f=>Ag (hw:=wo f dH) 10 17 Z f Z λa f=> ?_
         have⟨dO,dP,dC⟩:=bind_some dC
         refine AL (hw:=wo f dH) 11 17 0 m cQ T54 dP Z f Z Z λdQ a dR f=>A1 (hw:=wo f dH) 12 17 0 cQ AS dR dP Z f Z λdS a dT f=> ?_
         subst dT
         have⟨dU,dV,dC⟩:=bind_some dC
         refine BQ (i:=13) 17 Z (by kernel_rfl) Z f (Bo f Z Z Z dH) Z Z Z call71 (λ_ _ w dW m=>Wk.a hW m dV) λa f=>q_p (hw:=wo f dH) 14 17 Z f (λ_=>AA (f.e Z) (f.e Z) AD) λa f=>q_p (hw:=wo f dH) 15 17 Z f (λ_=>Bc (f.e Z)) λa f=>q_p 16 17 Z f (λ_=>AV (f.e Z) dH (f.e Z)) λa f=> ?_
         obtain rfl:=sj dC
         exact dG _ (f.k Z)
        ·refine Aq 4 17 Z f dH λa f=> ?_
         refine Aq 5 17 Z f dH λa f=>Aq 6 17 Z f dH λa f=>Aq 7 17 Z f dH λa f=>Aq 8 17 Z f dH λa f=>Aq 9 17 Z f dH λa f=>Aq 10 17 Z f dH λa f=>Aq 11 17 Z f dH λa f=>Aq 12 17 Z f dH λa f=>Aq 13 17 Z f dH λa f=>Aq 14 17 Z f dH λa f=>Aq 15 17 Z f dH λa f=>q_p 16 17 Z f (λ_=>AZ (f.e Z) dH (f.e Z)) λa f=> ?_
         obtain rfl:=sj dC
         exact dG _ (f.k Z)
      ·rintro a w ⟨ds,rfl,dt,dX,f,m⟩
       have cQ:=od1 dX cQ
       refine Af (Ad ?_)
       refine Ab f Z λa f=>Ab f Z λa f=>Ah f Z Z CV λa f=>Aa ?_
       rcases Ae cN with⟨dY,cN⟩|⟨dY,cN⟩
       ·refine Ak f Z dY ?_
        refine Ax Z ?_
        obtain rfl:=sj cN
        obtain rfl:=cO _ rfl
        exact⟨_,_,Z,_,cL,(gt cP (gt dp dX)),f.k Z,m,cQ⟩
       ·refine Ai f Z dY ?_
        refine Al ?_
        refine Af ?_
        refine BI AF m ?_
        refine p_p 2 Z f (λ_=>A5 (f.e Z)) λa f=>p_p 3 Z f (λ_=>A5 (f.e Z)) λa f=>BL 12013 11 (by kernel_rfl) Z ?_
        refine Ag 0 12013 Z f Z λa f=>Ag 1 12013 Z f Z λa f=>Ag 4 12013 Z f Z λa f=>Ag 5 12013 Z f Z λa f=> ?_
        have⟨dZ,d0,cN⟩:=bind_some cN
        refine AL 6 12013 0 m cQ T54 d0 Z f Z Z λd1 a d2 f=>A1 7 12013 0 cQ AS d2 d0 Z f Z λd3 a d4 f=> ?_
        subst d4
        refine Ag 8 12013 Z f Z λa f=>Ag 9 12013 Z f Z λa f=> ?_
        have⟨d5,d6,cN⟩:=bind_some cN
        refine AL 10 12013 0 m cQ T54 d6 Z f Z Z λd7 a d8 f=>A1 11 12013 0 cQ AS d8 d6 Z f Z λd9 a ea f=> ?_
        subst ea
        have⟨eb,ec,cN⟩:=bind_some cN
        refine AL 12 12013 0 m cQ T54 ec Z f Z Z λed a ee f=>AP λef w eg m=> ?_
        have cQ:=od1 eg cQ
        refine Az 0 m cQ Z sizeOf75 f Z Z ee ec Z Z Z λeh w m ei=> ?_
        have⟨ej,ek,cN⟩:=bind_some cN
        refine A2 0 m ei Z T54 f Z Z Z ek λel a em f=>Az 0 m ei Z sizeOf75 f Z Z em ek Z Z Z λen w m eo=>Av ?_
        refine Ab f Z λa f=>Ah f Z Z Au λa f=>Ac f Z λa f=>Aa (An ?_)
        refine Ab f Z λa f=>Ah f Z Z AI λa f=>Ac f Z λa f=>Aa ?_
        obtain rfl:=sj cN
        exact⟨_,Z,_,_,_,Z,_,en,(gt cP (gt dp (gt dX eg))),f.k Z,m,eo⟩
    ·rintro a w ⟨cC,cD,rfl,cE,cF,ep,f,m,eq⟩
     refine Af ?_
     refine BI AF m ?_
     refine p_p 2 Z f (λ_=>A5 (f.e Z)) λa f=>p_p 3 Z f (λ_=>A5 (f.e Z)) λa f=>BL 12013 11 (by kernel_rfl) Z ?_
     refine Ag 0 12013 Z f Z λa f=>Ag 1 12013 Z f Z λa f=>Ag 4 12013 Z f Z λa f=>Ag 5 12013 Z f Z λa f=> ?_
     have⟨er,es,hd⟩:=bind_some hd
     refine AL 6 12013 0 m eq T54 es Z f Z Z λet a eu f=>A1 7 12013 0 eq AS eu es Z f Z λev a ew f=> ?_
     subst ew
     refine Ag 8 12013 Z f Z λa f=>Ag 9 12013 Z f Z λa f=> ?_
     have⟨ex,ey,hd⟩:=bind_some hd
     refine AL 10 12013 0 m eq T54 ey Z f Z Z λez a eA f=>A1 11 12013 0 eq AS eA ey Z f Z λeB a eC f=> ?_
     subst eC
     have⟨eD,eE,hd⟩:=bind_some hd
     refine AL 12 12013 0 m eq T54 eE Z f Z Z λeF a eG f=>AP λeH w eI m=> ?_
     have eq:=od1 eI eq
     refine Az 0 m eq Z sizeOf75 f Z Z eG eE Z Z Z λeJ w m eK=> ?_
     have⟨eL,eM,hd⟩:=bind_some hd
     refine A2 0 m eK Z T54 f Z Z Z eM λeN a eO f=>Az 0 m eK Z sizeOf75 f Z Z eO eM Z Z Z λeP w m eQ=>Av ?_
     refine Ab f Z λa f=>Ac f Z λa f=>Ac f Z λa f=>Aa ?_
     refine Ap ?_
     obtain rfl:=sj hd
     exact⟨[(iv cD),(.bool false)],⟨f.get _ _ Z,f.get _ _ Z,trivial⟩,f.d,_,[eP],(gt ar (gt a9 (gt bI (gt cr (gt ep eI))))),m,_,Z,Z,eQ⟩
theorem Wk.E {W:World}(hW:Br W)(n:Nat):∀{w:World} {G:GH} {H:List Itm} {v0:Value} {it0:Itm} {x0:LI} {x1 x2 x3:Int} (m:Mem W G w (it0::H)) (o0:Ow (RI .u32) 75 G it0 v0 x0) {y:(LI)} (hd:D.E n x0 x1 x2 x3=some y),
  Calls prog 96 #[v0,(iv x1),(iv x2),(iv x3),(.func (.func 71) #[] #[])] w (Res W G H (λG' Ho _=>∃i0:Itm,Ho=[i0]∧Ow (RI .u32) 75 G' i0 v0 y)):=by
 induction n with
 |zero=>intros;rename_i hd;simp[D.E] at hd
 |succ fuel ih=>
  intro w G H v0 it0 x0 x1 x2 x3 m o0 y hd
  refine Ar (args:=[v0,(iv x1),(iv x2),(iv x3),(.func (.func 71) #[] #[])]) (N:=148) [] func96 Z Z (lb Z) Z λa f=> ?_
  unfold D.E at hd
  refine Ad ?_
  refine Ac f Z λa f=>Av ?_
  refine Ac f Z λa f=>Aa ?_
  have⟨aa,ab,hd⟩:=bind_some hd
  refine Aj ?_
  refine Ay (λac a w=>∃ad:LI,∃ae:Int,∃af:Int,∃ag:Int,∃ah:Bool,∃ai:Bool,(ad,ae,af,ag,ah,ai)=ac∧∃(aj:GH) (ak:Itm),GLe G aj∧Fr a 148 [(0,v0),(1,(iv ae)),(2,(iv af)),(3,(iv ag)),(4,(.func (.func 71) #[] #[])),(10,(.bool ah)),(11,(.bool ai))]∧Mem W aj w (ak::H)∧Ow (RI .u32) 75 aj ak v0 ad) ab ⟨_,_,_,_,_,_,Z,_,it0,gr,f.k Z,m,o0⟩ ?_
  clear ab f m
  rintro ac al am an a w ⟨ad,ae,af,ag,ah,ai,rfl,aj,ak,ao,f,m,ap⟩
  refine Aj (Ad ?_)
  refine Ab f Z λa f=>Ab f Z λa f=>Ah f Z Z AI λa f=>Ac f Z λa f=>Aa (Af (Ad ?_))
  refine Ab f Z λa f=>Ah f Z Z Cz λa f=>Aa ?_
  rcases Ae am with⟨aq,am⟩|⟨aq,am⟩
  ·refine Ak f Z aq ?_
   refine Ad ?_
   refine Ab f Z λa f=>Ab f Z λa f=>Ab f Z λa f=>Ab f Z λa f=> ?_
   have⟨ar,au,am⟩:=bind_some am
   refine AE f Z call110 (Wk.F0 hW m ap au) λav aw ax w ay m az a f=> ?_
   obtain⟨aA,rfl,aB⟩:=az
   refine Aa ?_
   refine Ap ?_
   obtain rfl:=sj am
   obtain rfl:=an _ rfl
   obtain rfl:=sj hd
   exact⟨[],trivial,f.d,_,[aA],(gt ao ay),m,_,Z,aB⟩
  ·refine Ai f Z aq ?_
   refine Al ?_
   refine Af (Ad ?_)
   refine Ab f Z λa f=>Ah f Z Z BC λa f=>Aa ?_
   rcases Ae am with⟨aC,am⟩|⟨aC,am⟩
   ·refine Ak f Z aC ?_
    refine Ad ?_
    refine Ab f Z λa f=>Ab f Z λa f=>Ab f Z λa f=>Ab f Z λa f=> ?_
    have⟨aD,aE,am⟩:=bind_some am
    refine AE f Z call111 (Wk.Q0 hW m ap aE) λaF aG aH w aI m aJ a f=> ?_
    obtain⟨aK,rfl,aL⟩:=aJ
    refine Aa ?_
    refine Ap ?_
    obtain rfl:=sj am
    obtain rfl:=an _ rfl
    obtain rfl:=sj hd
    exact⟨[],trivial,f.d,_,[aK],(gt ao aI),m,_,Z,aL⟩
   ·refine Ai f Z aC ?_
    refine Al ?_
    refine Af (Ad ?_)
    refine Ab f Z λa f=>l_o f (Bc (f.e Z)) λa f=>Aa ?_
    have⟨aM,aN,am⟩:=bind_some am
    refine AB (λa w=>∃aO:LI,∃aP:Int,(aO,aP)=aM∧∃(aQ:GH) (aR:Itm),GLe aj aQ∧Fr a 148 [(0,v0),(1,(iv ae)),(2,(iv af)),(3,(iv aP)),(4,(.func (.func 71) #[] #[])),(10,(.bool ah)),(11,(.bool ai)),(12,(iv (i64.wrap (af-ae))))]∧Mem W aQ w (aR::H)∧Ow (RI .u32) 75 aQ aR v0 aO) ?_ ?_
    ·rcases Ae aN with⟨aS,aN⟩|⟨aS,aN⟩
     ·refine Ak f Z aS ?_
      refine Ad ?_
      refine Ab f Z λa f=>Ab f Z λa f=>Ab f Z λa f=>Ab f Z λa f=> ?_
      have⟨aT,aU,aN⟩:=bind_some aN
      refine AE f Z call112 (Wk.S0 m ap aU) λaV aW aX w aY m aZ a f=> ?_
      obtain⟨a0,rfl,a1⟩:=aZ
      refine Aa (An ?_)
      refine Ab f Z λa f=>Ah f Z Z AI λa f=>Ac f Z λa f=>Aa ?_
      obtain rfl:=sj aN
      exact⟨_,_,Z,_,a0,aY,f.k Z,m,a1⟩
     ·refine Ai f Z aS ?_
      refine Al ?_
      obtain rfl:=sj aN
      exact⟨_,_,Z,_,ak,gr,f.k Z,m,ap⟩
    ·rintro a w ⟨aO,aP,rfl,aQ,aR,a2,f,m,a3⟩
     refine Ad ?_
     refine Ab f Z λa f=>Ab f Z λa f=>Ab f Z λa f=>Ab f Z λa f=> ?_
     have⟨a4,a5,am⟩:=bind_some am
     refine AE f Z call113 (Wk.P0 hW m a3 a5) λa6 a7 a8 w a9 m ba a f=> ?_
     obtain⟨bb,rfl,rfl,bc⟩:=ba
     refine Ab f Z λa f=>l_o f (A7 (f.e Z) Z) λa f=>l_o f (A7 (f.e Z) Z) λa f=>Ac f Z λa f=>Ac f Z λa f=>Aa (Af (Ad ?_))
     refine Ab f Z λa f=>Ah f Z Z BC λa f=>Aa ?_
     have⟨bd,be,am⟩:=bind_some am
     refine AB (λa w=>∃bf:LI,∃bg:Int,∃bh:Int,(bf,bg,bh)=bd∧∃(bi:GH) (bj:Itm),GLe a7 bi∧Fr a 148 [(0,v0),(1,(iv ae)),(2,(iv af)),(3,(iv aP)),(4,(.func (.func 71) #[] #[])),(10,(.bool ah)),(11,(.bool ai)),(12,(iv (i64.wrap (af-ae)))),(13,(iv bg)),(14,(iv bh))]∧Mem W bi w (bj::H)∧Ow (RI .u32) 75 bi bj v0 bf) ?_ ?_
     ·rcases Ae be with⟨bk,be⟩|⟨bk,be⟩
      ·refine Ak f Z bk ?_
       refine Ad ?_
       refine Ab f Z λa f=>Ab f Z λa f=>Ab f Z λa f=>Ab f Z λa f=> ?_
       have⟨bl,bm,be⟩:=bind_some be
       refine AE f Z call114 (Wk.K0 m bc bm) λbn bo bp w bq m br a f=> ?_
       obtain⟨bs,rfl,bt⟩:=br
       refine Av ?_
       refine Ab f Z λa f=>Ah f Z Z AI λa f=>Ab f Z λa f=>Ab f Z λa f=>Ah f Z Z AI λa f=>Ah f Z Z AI λa f=>Ac f Z λa f=>Aa (An ?_)
       refine Ac f Z λa f=>Aa ?_
       obtain rfl:=sj be
       exact⟨_,_,_,Z,_,bs,bq,f.k Z,m,bt⟩
      ·refine Ai f Z bk ?_
       refine Al ?_
       obtain rfl:=sj be
       exact⟨_,_,_,Z,_,bb,gr,f.k Z,m,bc⟩
     ·rintro a w ⟨bf,bg,bh,rfl,bi,bj,bu,f,m,bv⟩
      refine Af (Ad ?_)
      refine Ab f Z λa f=>Ab f Z λa f=> ?_
      refine B4 2 (λa w=>∃bw,GLe bi bw∧Mem W bw w (bj::H)∧Fr a 148 [(0,v0),(1,(iv ae)),(2,(iv af)),(3,(iv aP)),(4,(.func (.func 71) #[] #[])),(10,(.bool ah)),(11,(.bool ai)),(12,(iv (i64.wrap (af-ae)))),(13,(iv bg)),(14,(iv bh)),(68,(.bool ah)),(69,(.bool ah)),(71,(.bool (ah&&ai)))]) ?_ ?_
      ·rcases Bool.eq_false_or_eq_true ah with bx|bx
       ·refine AJ f bx ?_
        refine Ab f Z λa f=>l_o f (AV (f.e Z) bx (f.e Z)) λa f=> ?_
        exact⟨_,gr,m,f.weak ⟨Z,Z,Z,Z,Z,Z,Z,Z,Z,Z,Z,Z,by rw[bx];rfl,trivial⟩⟩
       ·refine AN f bx λa f=> ?_
        refine l_o f (AZ (f.e Z) bx (f.e Z)) λa f=> ?_
        exact⟨_,gr,m,f.weak ⟨Z,Z,Z,Z,Z,Z,Z,Z,Z,Z,Z,Z,by rw[bx];rfl,trivial⟩⟩
      ·rintro a w ⟨bw,bz,m,f⟩
       have bv:=od1 bz bv
       refine Ab f Z λa f=> ?_
       refine B4 3 (λa w=>∃bA,GLe bw bA∧Mem W bA w (bj::H)∧Fr a 148 [(0,v0),(1,(iv ae)),(2,(iv af)),(3,(iv aP)),(4,(.func (.func 71) #[] #[])),(10,(.bool ah)),(11,(.bool ai)),(12,(iv (i64.wrap (af-ae)))),(13,(iv bg)),(14,(iv bh)),(68,(.bool ah)),(69,(.bool ah)),(71,(.bool (ah&&ai))),(72,(.bool (ah&&ai))),(75,(.bool ((ah&&ai)&&(bh==1))))]) ?_ ?_
       ·rcases Bool.eq_false_or_eq_true (ah&&ai) with bB|bB
        ·refine AJ f bB ?_
         refine Ab f Z λa f=>AJ f bB ?_
         refine Ah f Z Z BC λa f=>l_o f (AV (f.e Z) bB (f.e Z)) λa f=> ?_
         exact⟨_,gr,m,f.weak ⟨Z,Z,Z,Z,Z,Z,Z,Z,Z,Z,Z,Z,Z,Z,by rw[bB];rfl,trivial⟩⟩
        ·refine AN f bB λa f=> ?_
         refine AN f bB λa f=>l_o f (AZ (f.e Z) bB (f.e Z)) λa f=> ?_
         exact⟨_,gr,m,f.weak ⟨Z,Z,Z,Z,Z,Z,Z,Z,Z,Z,Z,Z,Z,Z,by rw[bB];rfl,trivial⟩⟩
       ·rintro a w ⟨bA,bC,m,f⟩
        have bv:=od1 bC bv
        refine Aa ?_
        have⟨bD,bE,am⟩:=bind_some am
        refine AB (λa w=>∃j_513':LI,bD= .inl j_513'∧∃bF:LI,bF=j_513'∧∃(bG:GH) (bH:Itm),GLe bA bG∧Fr a 148 [(0,v0),(1,(iv ae)),(2,(iv af)),(3,(iv aP)),(4,(.func (.func 71) #[] #[])),(10,(.bool ah)),(11,(.bool ai)),(12,(iv (i64.wrap (af-ae)))),(13,(iv bg))]∧Mem W bG w (bH::H)∧Ow (RI .u32) 75 bG bH v0 bF) ?_ ?_
        ·rcases Ae bE with⟨bI,bE⟩|⟨bI,bE⟩
         ·refine Ak f Z bI ?_
          refine Ad ?_
          refine Ab f Z λa f=>Ab f Z λa f=>Ab f Z λa f=>Ab f Z λa f=> ?_
          have⟨bJ,bK,bE⟩:=bind_some bE
          refine AE f Z call115 (Wk.I0 hW m bv bK) λbL bM bN w bO m bP a f=> ?_
          obtain⟨bQ,rfl,rfl,bR⟩:=bP
          refine Aa ?_
          rcases Ae bE with⟨bS,bE⟩|⟨bS,bE⟩
          ·refine Ak f Z bS ?_
           refine Ap ?_
           obtain rfl:=sj bE
           obtain rfl:=sj am
           obtain rfl:=an _ rfl
           obtain rfl:=sj hd
           exact⟨[],trivial,f.d,_,[bQ],(gt ao (gt a2 (gt a9 (gt bu (gt bz (gt bC bO)))))),m,_,Z,bR⟩
          ·refine Ai f Z bS ?_
           refine Al ?_
           obtain rfl:=sj bE
           exact⟨_,Z,_,Z,_,bQ,bO,f.k Z,m,bR⟩
         ·refine Ai f Z bI ?_
          refine Al ?_
          obtain rfl:=sj bE
          exact⟨_,Z,_,Z,_,bj,gr,f.k Z,m,bv⟩
        ·rintro a w ⟨_,rfl,bF,rfl,bG,bH,bT,f,m,bU⟩
         refine Af (Af ?_)
         refine A8 17 AF (by kernel_rfl) m ?_
         refine Ag 0 17 Z f Z λa f=>q_p 1 17 Z f (λ_=>AA (f.e Z) (f.e Z) CV) λa f=>Ag 2 17 Z f Z λa f=> ?_
         have⟨bV,bW,am⟩:=bind_some am
         refine Cr (fuel':=0) (listed':= #[true,true,true,true,true,true,true,true,true,true,true,true,true,true,true,true,true]) (λa=>Fr a 148 [(0,v0),(1,(iv ae)),(2,(iv af)),(3,(iv aP)),(4,(.func (.func 71) #[] #[])),(10,(.bool ah)),(11,(.bool ai)),(12,(iv (i64.wrap (af-ae)))),(13,(iv bg)),(81,(iv ae)),(82,(.bool (decide ((0:Int)<ae)))),(83,(.bool (decide ((0:Int)<ae)))),(97,(.bool bV))]) ?_ ?_
         ·intro a f
          refine AP λbX w bY m=> ?_
          have bU:=od1 bY bU
          refine Aa ?_
          rcases Ae am with⟨bZ,am⟩|⟨bZ,am⟩
          ·refine Ak f Z bZ ?_
           refine Ad ?_
           refine Ab f Z λa f=>Ab f Z λa f=>Ab f Z λa f=>Ab f Z λa f=>Ab f Z λa f=> ?_
           have⟨b0,b1,am⟩:=bind_some am
           refine AE f Z call116 (Wk.L0 hW m bU b1) λb2 b3 b4 w b5 m b6 a f=> ?_
           obtain⟨b7,rfl,rfl,b8⟩:=b6
           refine Ac f Z λa f=>Av ?_
           refine Ab f Z λa f=>Ac f Z λa f=>Aa ?_
           refine Ax Z ?_
           obtain rfl:=sj am
           exact⟨_,Z,_,_,_,_,_,_,Z,_,b7,(gt ao (gt a2 (gt a9 (gt bu (gt bz (gt bC (gt bT (gt bY b5)))))))),f.k Z,m,b8⟩
          ·refine Ai f Z bZ ?_
           refine Al ?_
           refine Ad ?_
           refine Ab f Z λa f=>Ab f Z λa f=>Ab f Z λa f=>Ab f Z λa f=>Ab f Z λa f=> ?_
           have⟨b9,ca,am⟩:=bind_some am
           refine AE f Z call117 (Wk.M0 hW m bU ca) λcb cc cd w ce m cf a f=> ?_
           obtain⟨cg,rfl,rfl,ch⟩:=cf
           refine Ab f Z λa f=>l_o f (A7 (f.e Z) Z) λa f=>l_o f (A7 (f.e Z) Z) λa f=>Ac f Z λa f=>Ac f Z λa f=>Av ?_
           refine Ab f Z λa f=>Ac f Z λa f=>Av ?_
           refine Ab f Z λa f=>Ab f Z λa f=>Ah f Z Z AI λa f=>Ab f Z λa f=>Ab f Z λa f=>Ah f Z Z AI λa f=>Ac f Z λa f=>Ac f Z λa f=>Av ?_
           refine Ab f Z λa f=>Ah f Z Z (Dm Z) λa f=>Ac f Z λa f=>Av ?_
           refine Ab f Z λa f=>Ab f Z λa f=>Ah f Z Z AD λa f=>Aa ?_
           rcases Ae am with⟨ci,am⟩|⟨ci,am⟩
           ·refine Ak f Z ci ?_
            refine Ad ?_
            refine Ab f Z λa f=>Ab f Z λa f=>Ah f Z Z B3 λa f=>Ac f Z λa f=>Av ?_
            refine Ab f Z λa f=>Ab f Z λa f=>Ab f Z λa f=>Ab f Z λa f=>Ab f Z λa f=> ?_
            have⟨cj,ck,am⟩:=bind_some am
            refine AE f Z call96 (ih m ch ck) λcl cm cn w co m cp a f=> ?_
            obtain⟨cq,rfl,cr⟩:=cp
            refine Aa (An ?_)
            refine Ab f Z λa f=>Ah f Z Z Au λa f=>Ac f Z λa f=>Aa ?_
            obtain rfl:=sj am
            exact⟨_,Z,_,_,_,_,_,_,Z,_,cq,(gt ao (gt a2 (gt a9 (gt bu (gt bz (gt bC (gt bT (gt bY (gt ce co))))))))),f.k Z,m,cr⟩
           ·refine Ai f Z ci ?_
            refine Ad ?_
            refine Ab f Z λa f=>Ab f Z λa f=>Ah f Z Z B3 λa f=>Ac f Z λa f=>Av ?_
            refine Ab f Z λa f=>Ab f Z λa f=>Ah f Z Z Au λa f=>Ab f Z λa f=>Ab f Z λa f=>Ab f Z λa f=> ?_
            have⟨cs,ct,am⟩:=bind_some am
            refine AE f Z call96 (ih m ch ct) λcu cv cw w cx m cy a f=> ?_
            obtain⟨cz,rfl,cA⟩:=cy
            refine Aa (An ?_)
            refine Ab f Z λa f=>Ac f Z λa f=>Aa ?_
            obtain rfl:=sj am
            exact⟨_,Z,_,_,_,_,_,_,Z,_,cz,(gt ao (gt a2 (gt a9 (gt bu (gt bz (gt bC (gt bT (gt bY (gt ce cx))))))))),f.k Z,m,cA⟩
         ·intro cB
          rcases Ae bW with⟨cC,bW⟩|⟨cC,bW⟩
          ·refine Ag (hw:=wo f cC) 3 17 Z f Z λa f=> ?_
           refine Ag (hw:=wo f cC) 4 17 Z f Z λa f=>Ag (hw:=wo f cC) 5 17 Z f Z λa f=>q_p (hw:=wo f cC) 6 17 Z f (λ_=>AA (f.e Z) (f.e Z) AI) λa f=> ?_
           have⟨cD,cE,bW⟩:=bind_some bW
           refine AL (hw:=wo f cC) 7 17 0 m bU T54 cE Z f Z Z λcF a cG f=>A1 (hw:=wo f cC) 8 17 0 bU AS cG cE Z f Z λcH a cI f=> ?_
           subst cI
           refine Ag (hw:=wo f cC) 9 17 Z f Z λa f=>Ag (hw:=wo f cC) 10 17 Z f Z λa f=> ?_
           have⟨cJ,cK,bW⟩:=bind_some bW
           refine AL (hw:=wo f cC) 11 17 0 m bU T54 cK Z f Z Z λcL a cM f=>A1 (hw:=wo f cC) 12 17 0 bU AS cM cK Z f Z λcN a cO f=> ?_
           subst cO
           have⟨cP,cQ,bW⟩:=bind_some bW
           refine BQ (i:=13) 17 Z (by kernel_rfl) Z f (Bo f Z Z Z cC) Z Z Z call71 (λ_ _ w cR m=>Wk.a hW m cQ) λa f=>q_p (hw:=wo f cC) 14 17 Z f (λ_=>AA (f.e Z) (f.e Z) AD) λa f=>q_p (hw:=wo f cC) 15 17 Z f (λ_=>Bc (f.e Z)) λa f=>q_p 16 17 Z f (λ_=>AV (f.e Z) cC (f.e Z)) λa f=> ?_
           obtain rfl:=sj bW
           exact cB _ (f.k Z)
          ·refine Aq 3 17 Z f cC λa f=> ?_
           refine Aq 4 17 Z f cC λa f=>Aq 5 17 Z f cC λa f=>Aq 6 17 Z f cC λa f=>Aq 7 17 Z f cC λa f=>Aq 8 17 Z f cC λa f=>Aq 9 17 Z f cC λa f=>Aq 10 17 Z f cC λa f=>Aq 11 17 Z f cC λa f=>Aq 12 17 Z f cC λa f=>Aq 13 17 Z f cC λa f=>Aq 14 17 Z f cC λa f=>Aq 15 17 Z f cC λa f=>q_p 16 17 Z f (λ_=>AZ (f.e Z) cC (f.e Z)) λa f=> ?_
           obtain rfl:=sj bW
           exact cB _ (f.k Z)
theorem Wk.j {v0:Value}{it0:Itm}{x0:LI}{x1 x2 x3:Int}(hW:Br W)(m:Mem W G w (it0::H))(o0:Ow (RI .u32) 75 G it0 v0 x0){y:(LI)}(hd:D.j x0 x1 x2 x3=some y):
  Calls prog 96 #[v0,(iv x1),(iv x2),(iv x3),(.func (.func 71) #[] #[])] w (Res W G H (λG' Ho _=>∃i0:Itm,Ho=[i0]∧Ow (RI .u32) 75 G' i0 v0 y)):=by
 exact Wk.E hW Bn m o0 hd
theorem Wk.q0 {v0:Value}{it0:Itm}{x0:LI}(hW:Br W)(m:Mem W G w (it0::H))(o0:Ow (RI .u32) 75 G it0 v0 x0){y:(LI)}(hd:D.q0 x0=some y):
  Calls prog 70 #[v0,(.func (.func 71) #[] #[])] w (Res W G H (λG' Ho _=>∃i0:Itm,Ho=[i0]∧Ow (RI .u32) 75 G' i0 v0 y)):=by
 refine Ar (args:=[v0,(.func (.func 71) #[] #[])]) (N:=14) [] func70 Z Z (lb Z) Z λa f=> ?_
 unfold D.q0 at hd
 refine Ad ?_
 refine Ab f Z λa f=>B2 0 m o0 Z underlying54 f Z Z λa f=>Ac f Z λa f=>Aa (An ?_)
 refine Ab f Z λa f=>Ab f Z λa f=>Ab f Z λa f=>l_o f (Dc (f.e Z) ⟨_,underlying3⟩ underlying62) λa f=> ?_
 have⟨aa,ab,hd⟩:=bind_some hd
 refine AE f Z call97 (Wk.I m ab) λac ad ae w af m ag a f=> ?_
 obtain⟨rfl,rfl⟩:=ag
 have o0:=od1 af o0
 refine Ab f Z λa f=> ?_
 have⟨ah,ai,hd⟩:=bind_some hd
 refine AE f Z call96 (Wk.j hW m o0 ai) λaj ak al w am m an a f=> ?_
 obtain⟨ao,rfl,ap⟩:=an
 refine Aa ?_
 obtain rfl:=sj hd
 exact⟨[],trivial,f.d,_,[ao],(gt af am),m,_,Z,ap⟩
theorem Wk.v {v0:Value}{x0:LI}(hW:Br W)(m:Mem W G w (H))(h0:RSl (RI .u32) G v0 x0){y:(LI)}(hd:D.v x0=some y):
  Calls prog 80 #[v0] w (Res W G H (λG' Ho v=>∃r0:Value,∃i0:Itm,Ho=[i0]∧r0=v∧Ow (RI .u32) 75 G' i0 r0 y)):=by
 refine Ar (args:=[v0]) (N:=11) [.tmp 2] func80 Z Z (lb Z) Z λa f=> ?_
 unfold D.v at hd
 refine Ad ?_
 refine Ac f Z λa f=>Av ?_
 refine Ab f Z λa f=>Ab f Z λa f=> ?_
 have⟨aa,ab,hd⟩:=bind_some hd
 refine A4 f Z call68 (Wk.r m h0 ab) λac w ad m a f=> ?_
 have h0:=rd1 ad h0
 obtain⟨ae,m,af⟩:=Ow.nil (RI .u32) 75 m
 have⟨ag,ah,hd⟩:=bind_some hd
 refine AE f Z call99 (Wk.l hW m h0 af ah) λai aj ak w al m am a f=> ?_
 obtain⟨an,ao,rfl,rfl,ap⟩:=am
 refine Ac f Z λa f=>Av ?_
 refine Ab f Z λa f=> ?_
 have⟨aq,ar,hd⟩:=bind_some hd
 refine AE f Z call70 (Wk.q0 hW m ap ar) λau av aw w ax m ay a f=> ?_
 obtain⟨az,rfl,aA⟩:=ay
 refine Av ?_
 refine Ab f Z λa f=>Ac f Z λa f=>Aa ?_
 refine Ap ?_
 obtain rfl:=sj hd
 exact⟨[an],f.g Z,f.d,_,[az],(gt ad (gt al ax)),m,_,_,Z,Z,aA⟩
end Go.Proofs.YtjhajfcggfhbmaaDoor

namespace Go.Sx
def OwMp {β:Type}(q:IntKind)(enc:β→Value)(it:Itm)(v:Value)(M:List (Int×β)):Prop:=
 ∃(b:Nat) (es:Array MapEntry) (clock:Nat),it= .obj b (.map es clock)∧v= .map (some b)∧es.toList.map (λe=>(e.key,e.val))=M.map (λkv=>(Value.int q kv.1,enc kv.2))
theorem find_now {β:Type}{q:IntKind}{enc:β→Value}(x:Int):∀(es:List MapEntry) (M:List (Int×β)) (i:Nat),es.map (λe=>(e.key,e.val))=M.map (λkv=>(Value.int q kv.1,enc kv.2))→
  (Instr.findNow (.int q) (.int q x) es i=some none∧∀kv∈M,kv.1≠x)∨∃j kv,Instr.findNow (.int q) (.int q x) es i=some (some (i+j,enc kv.2))∧M[j]? =some kv∧kv.1=x
 |[],M,i,h=>by
  have:M=[]:=by simpa using h.symm
  subst this
  exact .inl ⟨rfl,by simp⟩
 |e::es,[],i,h=>by simp at h
 |e::es,kv::M,i,h=>by
  simp only[List.map_cons,List.cons.injEq,Prod.mk.injEq] at h
  obtain⟨⟨h1,h2⟩,h3⟩:=h
  unfold Instr.findNow
  rw[h1]
  simp only[Instr.sameNow,if_true]
  by_cases hx:x=kv.1
  ·rw[show (x==kv.1)=true by simp[hx]]
   exact .inr ⟨0,kv,by simp[h2],rfl,hx.symm⟩
  ·rw[show (x==kv.1)=false by simp[hx]]
   rcases find_now x es M (i+1) h3 with⟨h4,h5⟩|⟨j,kv',h4,h5,h6⟩
   ·refine .inl ⟨h4,λz hz=> ?_⟩
    rcases List.mem_cons.1 hz with rfl|hz
    ·exact λe=>hx e.symm
    ·exact h5 z hz
   ·exact .inr ⟨j+1,kv',by simp only[h4];congr 3;omega,by simpa using h5,h6⟩
section
variable {P : Program} {ρ : Operand → Value} {w : World} {d : Option Tmp} {t : TypeId} {pos : String} {af : Array Edge} {gd : Option (Nat × Bool)}
theorem DH {q:IntKind}{kt:TypeId}(hk:P.underlying kt=some (.int q)){k:Value}{es:List MapEntry}{o:Option (Nat×Value)}(h:Instr.findNow (.int q) k es 0=some o):(Instr.findKey kt k es).run P w= .ok o w:=by
 simp[Instr.findKey,run_underlying hk,h]
theorem Du {q:IntKind}{kt:TypeId}(hk:P.underlying kt=some (.int q))(e:Bool)(x:Int):(Instr.checkKey e 10000 kt (.int q x)).run P w= .ok () w:=by
 unfold Instr.checkKey
 simp[run_underlying hk]
theorem run_map {b:Nat}{es:Array MapEntry}{clock:Nat}(h:w.heap[b]? =some (.map es clock)):(getObj b).run P w= .ok (.map es clock) w:=by
 simp[getObj,Sem.run,h]
theorem run_setMap {b:Nat}{es:Array MapEntry}{clock:Nat}{o':Obj}(h:w.heap[b]? =some (.map es clock)):(setObj b o').run P w= .ok () {w with heap:=w.heap.setIfInBounds b o'}:=by
 simp[setObj,Sem.run,h]
theorem run_stays (q:IntKind)(x:Int):(Instr.keyThatStays (.int q x) (.int q x)).run P w= .ok (.int q x) w:=by
 have e:Instr.sameBits 10000 (.int q x) (.int q x)=true:=by simp[Instr.sameBits]
 unfold Instr.keyThatStays
 rw[e];rfl
theorem r_lookup {xo ko:Operand}{mt kt et:TypeId}{q:IntKind}{b:Nat}{es:Array MapEntry}{clock:Nat}{x:Int}{z:Value}{o:Option (Nat×Value)}{ok:Bool}(hx:ρ xo= .map (some b))(hk:ρ ko= .int q x)
  (ht:P.underlying mt=some (.map kt et)) (hq:P.underlying kt=some (.int q)) (hz:∀w,(zeroValue et).run P w= .ok z w) (hg:w.heap[b]? =some (.map es clock)) (ho:Instr.findNow (.int q) (.int q x) es.toList 0=some o):
  (execOp ρ ⟨d,.lookup mt xo ko ok,t,pos,af,gd⟩).run P w= .ok (.value (if ok then .tuple #[(o.map (·.2)).getD z,.bool o.isSome] else(o.map (·.2)).getD z)) w:=by
 cases o with
 |none=>simp[execOp,hx,hk,Instr.lookup,run_underlying ht,run_map hg,Du hq,DH hq ho,hz w]
 |some p=>obtain⟨i,v⟩:=p;simp[execOp,hx,hk,Instr.lookup,run_underlying ht,run_map hg,Du hq,DH hq ho]
theorem r_makeMap {mt:TypeId}:(execOp ρ ⟨d,.makeMap mt none,t,pos,af,gd⟩).run P w= .ok (.value (.map (some w.heap.size))) (w.alloc (.map #[] 0)):=by
 simp[execOp,Instr.makeMap]
theorem Eh {mo ko vo:Operand}{mt kt et:TypeId}{q:IntKind}{b:Nat}{es:Array MapEntry}{clock:Nat}{x:Int}{y:Value}{o:Option (Nat×Value)}(hm:ρ mo= .map (some b))(hk:ρ ko= .int q x)(hv:ρ vo=y)
  (ht:P.underlying mt=some (.map kt et)) (hq:P.underlying kt=some (.int q)) (hg:w.heap[b]? =some (.map es clock)) (ho:Instr.findNow (.int q) (.int q x) es.toList 0=some o) (hkey:∀j v,o=some (j,v)→(es[j]?).map (·.key)=some (.int q x)):
  (execOp ρ ⟨d,.mapUpdate mt mo ko vo,t,pos,af,gd⟩).run P w= .ok .skip {w with heap:=w.heap.setIfInBounds b (match o with|some (j,_)=> .map (es.modify j λe=>{e with key:= .int q x,val:=y}) clock|none=> .map (es.push {key:= .int q x,val:=y,born:=clock}) (clock+1))}:=by
 cases o with
 |none=>simp[execOp,hm,hk,hv,Instr.mapUpdate,run_underlying ht,run_map hg,Du hq,DH hq ho,run_setMap hg]
 |some p=>
  obtain⟨j,v⟩:=p
  have h1:=hkey j v rfl
  have h2:((es[j]?).map (·.key)).getD (.int q x)= .int q x:=by rw[h1];rfl
  simp only[execOp,hm,hk,hv,Instr.mapUpdate]
  simp[run_underlying ht,run_map hg,Du hq,DH hq ho,h2,run_stays,run_setMap hg]
end
section
variable {P : Program} {ops : Array Oper} {rest : List Oper} {n r : AR} {x : List (Nat × AR)} {a : Act} {w : World} {N : Nat} {L : AX}
variable {W : World} {G : GH} {H : List Itm}
variable {d : Nat} {t : TypeId} {pos : String} {af : Array Edge}
theorem l_makeMap {β:Type}(q:IntKind)(enc:β→Value){mt:TypeId}(m:Mem W G w H)(f:Fr a N L)(hN:Nat.blt d N=true)
  (k:∀it v w' a',Mem W G w' (it::H)→OwMp q enc it v []→Fr a' N ((d,v)::L)→wpList P ops (Qk n x r) rest a' w'):
  wpList P ops (Qk n x r) (⟨some d,.makeMap mt none,t,pos,af,none⟩::rest) a w:=
 BV f rfl rfl hN r_makeMap (λa' f'=>k (.obj w.heap.size (.map #[] 0)) _ _ a' (m.add rfl rfl rfl (λy hy=>by first|exact heap_alloc_old w _ y hy|exact heap_alloc_old w _ hy) (heap_alloc_new w _) (λy hy=>by simp[Itm.foot] at hy;omega)) ⟨_,_,_,rfl,rfl,rfl⟩ f')
theorem l_lookup {β:Type}{q:IntKind}{enc:β→Value}{it:Itm}{v z:Value}{M:List (Int×β)}{mt kt et:TypeId}{xo ko:Operand}{i:Int}(j:Nat)(m:Mem W G w H)(h:OwMp q enc it v M)(hj:H[j]? =some it)
  (ht:P.underlying mt=some (.map kt et)) (hq:P.underlying kt=some (.int q)) (hz:∀w,(zeroValue et).run P w= .ok z w) (f:Fr a N L) (hN:Nat.blt d N=true) (hx:AC L xo=some v) (hk:AC L ko=some (.int q i))
  (k:∀(o:Option β),(∀y,o=some y→(i,y)∈M)→∀a',Fr a' N ((d,(o.map enc).getD z)::L)→wpList P ops (Qk n x r) rest a' w):
  wpList P ops (Qk n x r) (⟨some d,.lookup mt xo ko false,t,pos,af,none⟩::rest) a w:=by
 obtain⟨b,es,clock,rfl,rfl,he⟩:=h
 have hg:w.heap[b]? =some (.map es clock):=m.items j _ hj
 rcases find_now i es.toList M 0 he with⟨h1,_⟩|⟨j',kv,h1,h2,h3⟩
 ·exact BV f rfl rfl hN (r_lookup (f.eval hx) (f.eval hk) ht hq hz hg h1) (λa' f'=>k none (λy hy=>by cases hy) a' f')
 ·exact BV f rfl rfl hN (r_lookup (f.eval hx) (f.eval hk) ht hq hz hg h1) (λa' f'=>k (some kv.2) (λy hy=>by
   simp only[Option.some.injEq] at hy
   subst hy;rw[←h3];exact List.mem_of_getElem? h2) a' f')
theorem l_mapUpdate {β:Type}{q:IntKind}{enc:β→Value}{it:Itm}{v:Value}{M:List (Int×β)}{mt kt et:TypeId}{xo ko vo:Operand}{i:Int}{y:β}(j:Nat)(m:Mem W G w H)(h:OwMp q enc it v M)(hj:H[j]? =some it)
  (ht:P.underlying mt=some (.map kt et)) (hq:P.underlying kt=some (.int q)) (f:Fr a N L) (hx:AC L xo=some v) (hk:AC L ko=some (.int q i)) (hv:AC L vo=some (enc y))
  (k:∀it' M' w',(∀kv∈M',kv=(i,y)∨kv∈M)→Mem W G w' (H.set j it')→OwMp q enc it' v M'→wpList P ops (Qk n x r) rest a w'):
  wpList P ops (Qk n x r) (⟨none,.mapUpdate mt xo ko vo,t,pos,af,none⟩::rest) a w:=by
 obtain⟨b,es,clock,rfl,rfl,he⟩:=h
 have hg:w.heap[b]? =some (.map es clock):=m.items j _ hj
 have hb:b<w.heap.size:=(Array.getElem?_eq_some_iff.1 hg).1
 have hlen:es.toList.length=M.length:=by have:=congrArg List.length he;simpa using this
 have hmem:∀(o:Obj),Mem W G {w with heap:=w.heap.setIfInBounds b o} (H.set j (.obj b o)):=λo=>
  m.changeAt j hj rfl rfl rfl (λy _ hy=>by
   have:y≠b:=λe=>hy (by rw[e];simp[Itm.foot])
   simp[Ne.symm this]) (by simp[Itm.ok,hb]) (λy hy=> .inl hy)
 rcases find_now i es.toList M 0 he with⟨h1,_⟩|⟨j',kv,h1,h2,h3⟩
 ·refine l_void rfl rfl (Eh (f.eval hx) (f.eval hk) (f.eval hv) ht hq hg h1 (λj v hc=>by cases hc)) ?_
  refine k _ (M++[(i,y)]) _ (λkv hkv=> ?_) (hmem _) ⟨b,_,_,rfl,rfl,?_⟩
  ·rcases List.mem_append.1 hkv with h|h
   ·exact .inr h
   ·exact .inl (by simpa using h)
  ·simp[he]
 ·have hjl:j'<es.toList.length:=by rw[hlen];exact(List.getElem?_eq_some_iff.1 h2).1
  have hkey:(es[j']?).map (·.key)=some (.int q i):=by
   have hA:=congrArg (λl=>l[j']?) he
   simp only[List.getElem?_map,h2,Option.map_some,Array.getElem?_toList] at hA
   cases hE:es[j']? with
   |none=>rw[hE] at hA;simp at hA
   |some e=>
    rw[hE] at hA
    simp only[Option.map_some,Option.some.injEq,Prod.mk.injEq] at hA
    rw[Option.map_some,hA.1,h3]
  refine l_void rfl rfl (Eh (f.eval hx) (f.eval hk) (f.eval hv) ht hq hg h1 (λj v hc=>by
   simp only[Option.some.injEq,Prod.mk.injEq,Nat.zero_add] at hc
   rw[←hc.1];exact hkey)) ?_
  refine k _ (M.set j' (i,y)) _ (λkv' hkv=> ?_) (hmem _) ⟨b,_,_,rfl,rfl,?_⟩
  ·rcases List.mem_or_eq_of_mem_set hkv with h|h
   ·exact .inr h
   ·exact .inl h
  ·refine List.ext_getElem? λp=> ?_
   have hA:=congrArg (λl=>l[p]?) he
   simp only[List.getElem?_map,Array.getElem?_toList] at hA
   simp only[List.getElem?_map,Array.getElem?_toList,Array.getElem?_modify,List.getElem?_set,Nat.zero_add]
   by_cases hp:j'=p
   ·subst hp
    rw[if_pos rfl,if_pos rfl,if_pos (by rw[←hlen];exact hjl)]
    have:j'<es.size:=by simpa using hjl
    simp[this]
   ·rw[if_neg hp,if_neg hp]
    exact hA
end
end Go.Sx

set_option maxRecDepth 100000
namespace Go.Proofs.YtjhajfcggfhbmaaDoor
open Go Go.Sx
open Go.Proofs.Tryd Go.Proofs.YtjhajfcggfhbmaaDoor.Tryd IntKind
variable {W w : World} {G : GH} {H : List Itm}
theorem hPl99 :BN prog 99:=isAgg99
theorem hPl54 :BN prog 54:=isAgg54
theorem l_slit0 {P:Program}{ops:Array Oper}{rest:List Oper}{n r:AR}{x:List (Nat×AR)}{a:Act}{w W:World}{N:Nat}{L:AX}{d:Nat}{t:TypeId}{pos:String}{af:Array Edge}{G:GH}{H:List Itm}{α:Type}{R:Rep α}
  {tt u bytes:Nat} {z:Value} (m:Mem W G w H) (hu:SlT P u tt 1 bytes z) (f:Fr a N L) (hN:Nat.blt d N=true)
  (k:∀it v w' a',Mem W G w' (it::H)→Ow R tt G it v []→CY v=false→Fr a' N ((d,v)::L)→wpList P ops (Qk n x r) rest a' w'):
  wpList P ops (Qk n x r) (⟨some d,.buildSlice u 0 #[],t,pos,af,none⟩::rest) a w:=by
 obtain⟨ti,hi1,hi2,hi3,hi4⟩:=hu.info
 have hr:(execOp a.eval ⟨some d,.buildSlice u 0 #[],t,pos,af,none⟩).run P w= .ok (.value (.slice (some ⟨w.heap.size,0,none⟩) 0 0)) (w.alloc (.cells #[] tt)):=by
  simp[execOp,Instr.buildSlice,run_underlying hu.und,sizeOf,typeInfo,hi1,newRow,Instr.fill,Array.range_zero']
 refine BV f Z Z hN hr (λa' f'=>k (.row (.slice (some ⟨w.heap.size,0,none⟩) 0 0) tt 1 ([]:List α).length []) _ _ a' ?_ ⟨[],Z,All2.nil _⟩ Z f')
 refine m.add Z Z Z (λq hq=>by first|exact heap_alloc_old w _ q hq|exact heap_alloc_old w _ hq) ⟨by simp,.inr ⟨w.heap.size,0,_,by simp,Nat.zero_le _,heap_alloc_new w _,by simp,by simp[maxLen],by simp,by simp⟩⟩ (λq hq=>by simp[Itm.foot,Value.ownBlock] at hq;omega)
abbrev CT (b:Nat)(va vm:Value):Itm:=ib b 101 [va,vm]
abbrev cPtr (b:Nat):Value:= .pointer (some ⟨b,0,none⟩)
theorem OwMp.cells {β:Type}{q:IntKind}{enc:β→Value}{it:Itm}{v:Value}{M:List (Int×β)}(h:OwMp q enc it v M):v.cells= #[v]:=by
 obtain⟨b,es,clock,rfl,rfl,_⟩:=h;rfl
set_option maxHeartbeats 1000000 in
theorem Wk.c1 {bx:Nat}{va vm:Value}{cs:LI}{p u:Int}(hW:Br W)(m:Mem W G w (CT bx va vm::H))(h0:RSl (RI .u32) G va cs)(hd:D.J0 cs p=some u):
  Calls prog 100 #[cPtr bx,(.int .u32 p)] w (Res W G H (λ_ Ho v=>Ho=[CT bx va vm]∧v= .int .u32 u)):=by
 refine Ar (args:=[cPtr bx,(.int .u32 p)]) (N:=26) [.tmp 4] func100 Z Z (lb Z) Z λa f=> ?_
 unfold D.J0 at hd
 have⟨us,hus,hd⟩:=bind_some hd
 refine Ad ?_
 refine Ac f Z λa f=>Av ?_
 refine Ac f Z λa f=>Aa (Af (Ad ?_))
 refine Ab f Z λa f=>AE f Z call91 (Wk.f hW m hus) λv1 G1 Ho1 w hl1 m hQ1 a f=> ?_
 obtain⟨vu,itu,rfl,rfl,ou⟩:=hQ1
 obtain⟨G2,hl2,m,hu⟩:=ou.stamp (RI.mono _) m
 have hle2:=gt hl1 hl2
 have h0:=rd1 hle2 h0
 refine AT underlying71 f Z Z hu λa f=>Ab f Z λa f=>Aa ?_
 refine AB (λa w=>Fr a 26 [(5,(.int .u32 u))]∧Mem W G2 w (CT bx va vm::H)) ?_ ?_
 ·refine Aj ?_
  refine Ay (fun(s:Int×Int) a w=>Fr a 26 [(0,cPtr bx),(5,(.int .u32 s.1)),(9,vu),(10,(iv (us.length:Int))),(11,(iv s.2))]∧Mem W G2 w (CT bx va vm::H)) hd ⟨f.k Z,m⟩ ?_
  clear hd f m
  rintro⟨out,i⟩ o hs hqq a w ⟨f,m⟩
  dsimp only at f
  unfold D.W0 at hs
  dsimp only at hs
  refine Ad ?_
  refine Ah f Z Z AD λa f=>Aa (Af ?_)
  rcases Ae hs with⟨hc2,hs⟩|⟨hc2,hs⟩
  ·refine Ak f Z hc2 ?_
   refine Al ?_
   have⟨v,hv,hs⟩:=bind_some hs
   have⟨c,hc,hs⟩:=bind_some hs
   obtain rfl:=sj hs
   refine Af (Aj (Ad ?_))
   refine Bk T71 f Z Z Z hu hv λp3 c3 a g3 h3 f=> ?_
   subst h3
   refine AG m Pl3 f Z Z g3 λa f=>Ac f Z λa f=>Aa (An ?_)
   refine Ab f Z λa f=>Ab f Z λa f=>l_o f (Be (f.e Z)) λa f=>BX underlying101 Z sizeOf54 f Z λa f=>AK 0 0 m hPl54 f Z Z Z Z λa f=>Ab f Z λa f=>Bk T54 f Z Z Z h0 hc λp4 c4 a g4 h4 f=> ?_
   subst h4
   refine AG m AS f Z Z g4 λa f=>Ah f Z Z b_or λa f=>Ac f Z λa f=>Aa (An ?_)
   refine Ah f Z Z Au λa f=>Ab f Z λa f=>Aa ?_
   exact⟨_,Z,f.k Z,m⟩
  ·refine Ai f Z hc2 ?_
   refine Ax Z ?_
   obtain rfl:=sj hs
   obtain rfl:=hqq _ rfl
   exact⟨f.k Z,m⟩
 ·clear hd f m
  rintro a w ⟨f,m⟩
  refine Ad ?_
  refine Ab f Z λa f=>Ac f Z λa f=>Aa ?_
  refine Ap ?_
  exact⟨[.int .u32 u],f.g Z,f.d,G2,[CT bx va vm],hle2,m,Z,Z⟩
def GrowOk (W:World)(cs:LI)(n:Nat):Prop:=∀(w:World) (G:GH) (H:List Itm) (bx:Nat) (va vm:Value) (itM:Itm) (M:List (Int×Bool)) (p:Int) (y:Option LI) (m:Mem W G w (CT bx va vm::itM::H)) (h0:RSl (RI .u32) G va cs) (oM:OwMp .u32 Value.bool itM vm M) (hc:ConsC cs M) (hd:D.h n cs p=some y),
 Calls prog 81 #[cPtr bx,(.int .u32 p)] w (Res W G H (λG' Ho v=>∃(it':Itm) (M':List (Int×Bool)) (itO:Itm),Ho=[itO,CT bx va vm,it']∧OwMp .u32 Value.bool it' vm M'∧ConsC cs M'∧Ow R0 3 G' itO v (y.getD [])∧CY v=y.isNone))
set_option maxHeartbeats 2000000 in
theorem Wk.d1 {W:World}(hW:Br W){cs:LI}(n:Nat):GrowOk W cs n:=by
 induction n with
 |zero=>intro w G H bx va vm itM M p y m h0 oM hc hd;simp[D.h] at hd
 |succ n ih=>
  intro w G H bx va vm itM M p y m h0 oM hc hd
  have hd0:=hd
  refine Ar (args:=[cPtr bx,(.int .u32 p)]) (N:=72) [.tmp 4] func81 Z Z (lb Z) Z λa f=> ?_
  unfold D.h at hd
  have⟨all,ha,hd⟩:=bind_some hd
  refine Ad ?_
  refine Ac f Z λa f=>Av ?_
  refine Ab f Z λa f=>l_o f (Be (f.e Z)) λa f=>BX underlying101 Z sizeOf54 f Z λa f=>AK 0 0 m hPl54 f Z Z Z Z λa f=>AT underlying54 f Z Z h0 λa f=>A4 f Z call94 (Wk.t m ha) λG1 w hl1 m a f=> ?_
  have h0:=rd1 hl1 h0
  refine Ac f Z λa f=>Aa (Af (Ad ?_))
  refine Ab f Z λa f=>Ab f Z λa f=>Ah f Z Z BC λa f=>Aa ?_
  rcases Ae hd with⟨hc1,hd⟩|⟨hc1,hd⟩
  ·obtain rfl:=sj hd
   refine Ak f Z hc1 ?_
   refine Ad ?_
   refine l_slit0 (R:=R0) m T71 f Z λit2 v2 w a m o2 hn2 f=>Ac f Z λa f=>Aa ?_
   refine Ap ?_
   exact⟨[v2],f.g Z,f.d,G1,[it2,CT bx va vm,itM],hl1,m,_,_,_,Z,oM,hc,o2,hn2⟩
  ·refine Ai f Z hc1 ?_
   refine Al ?_
   refine Af (Ad ?_)
   refine Ab f Z λa f=>l_o f (Be (f.e Z)) λa f=>BX underlying101 Z sizeOf99 f Z λa f=>AK 0 1 m hPl99 f Z Z Z Z λa f=>Ab f Z λa f=>l_lookup 1 m oM Z underlying99 underlying75 zeroValue4 f Z Z Z λo ho a f=>Aa ?_
   have hval:∃b:Bool,(o.map Value.bool).getD (.bool false)= .bool b∧(b=true→o=some true):=by
    cases o with
    |none=>exact⟨false,rfl,λh=>by cases h⟩
    |some z=>exact⟨z,rfl,λh=>by rw[h]⟩
   obtain⟨b,hb,hbt⟩:=hval
   rw[hb] at f
   cases b with
   |true=>
    obtain⟨n',hn'⟩:=hc _ (ho true (hbt rfl)) rfl
    have hzy:none=y:=clGrowR_det hn' hd0
    subst hzy
    refine Ak f Z Z ?_
    refine Ad ?_
    refine Ac f Z λa f=>Aa ?_
    refine Ap ?_
    obtain⟨itN,m,oN⟩:=Ow.nil R0 3 m
    exact⟨[.slice none 0 0],f.g Z,f.d,G1,[itN,CT bx va vm,itM],hl1,m,_,_,_,Z,oM,hc,oN,Z⟩
   |false=>
    refine Ai f Z Z ?_
    refine Al ?_
    have⟨ua,hua,hd⟩:=bind_some hd
    have⟨ub,hub,hd⟩:=bind_some hd
    have⟨us,hus,hd⟩:=bind_some hd
    refine Ad ?_
    refine Ab f Z λa f=>Ab f Z λa f=>AE f Z call100 (Wk.c1 hW m h0 hua) λv2 G2 Ho2 w hl2 m hQ2 a f=> ?_
    obtain⟨rfl,rfl⟩:=hQ2
    have h0:=rd1 hl2 h0
    refine Ab f Z λa f=>Ab f Z λa f=>Ab f Z λa f=>Ah f Z Z Cv λa f=>AE f Z call100 (Wk.c1 hW m h0 hub) λv3 G3 Ho3 w hl3 m hQ3 a f=> ?_
    obtain⟨rfl,rfl⟩:=hQ3
    have h0:=rd1 hl3 h0
    refine Ah f Z Z Cx λa f=>Ac f Z λa f=>Aa (Af (Ad ?_))
    refine Ab f Z λa f=>Ab f Z λa f=>Ah f Z Z Cv λa f=>AE f Z call91 (Wk.f hW m hus) λv4 G4 Ho4 w hl4 m hQ4 a f=> ?_
    obtain⟨vu,itu,rfl,rfl,ou⟩:=hQ4
    obtain⟨G5,hl5,m,hu⟩:=ou.stamp (RI.mono _) m
    have h0:=rd1 (gt hl4 hl5) h0
    refine AT underlying71 f Z Z hu λa f=>Ab f Z λa f=>Aa ?_
    have hle5:GLe G G5:=gt hl1 (gt hl2 (gt hl3 (gt hl4 hl5)))
    refine AB (λa w=>y=none∧∃(G':GH) (it':Itm) (M':List (Int×Bool)),GLe G5 G'∧Fr a 72 [(0,cPtr bx),(1,(.int .u32 p))]∧Mem W G' w (CT bx va vm::it'::H)∧OwMp .u32 Value.bool it' vm M'∧ConsC cs M') ?_ ?_
    ·refine Aj ?_
     refine Ay (fun(i:Int) a w=>∃(G':GH) (it':Itm) (M':List (Int×Bool)),GLe G5 G'∧Fr a 72 [(0,cPtr bx),(1,(.int .u32 p)),(6,(.int .u32 (iand .u32 ua ub))),(38,vu),(39,(iv (us.length:Int))),(40,(iv i))]∧Mem W G' w (CT bx va vm::it'::H)∧OwMp .u32 Value.bool it' vm M'∧ConsC cs M') hd ⟨_,_,_,gr,f.k Z,m,oM,hc⟩ ?_
     clear hd f m oM hc ho
     rintro i o hs hqq a w ⟨G6,itM,M,hl6,f,m,oM,hc⟩
     have h0:=rd1 hl6 h0
     have hu:=rd1 hl6 hu
     unfold D.F at hs
     refine Ad ?_
     refine Ah f Z Z AD λa f=>Aa (Af ?_)
     rcases Ae hs with⟨hc2,hs⟩|⟨hc2,hs⟩
     ·refine Ak f Z hc2 ?_
      refine Al ?_
      have⟨v,hv,hs⟩:=bind_some hs
      have⟨c,hcc,hs⟩:=bind_some hs
      refine Af (Aj (Ad ?_))
      refine Bk T71 f Z Z Z hu hv λp7 c7 a g7 h7 f=> ?_
      subst h7
      refine AG m Pl3 f Z Z g7 λa f=>Ac f Z λa f=>Aa (Af (Ad ?_))
      refine Ab f Z λa f=>Ab f Z λa f=>l_o f (Be (f.e Z)) λa f=>BX underlying101 Z sizeOf54 f Z λa f=>AK 0 0 m hPl54 f Z Z Z Z λa f=>Ab f Z λa f=>Bk T54 f Z Z Z h0 hcc λp8 c8 a g8 h8 f=> ?_
      subst h8
      refine AG m AS f Z Z g8 λa f=>Ah f Z Z Cv λa f=>Ah f Z Z Dr λa f=>Aa ?_
      rcases Ae hs with⟨hc3,hs⟩|⟨hc3,hs⟩
      ·obtain rfl:=sj hs
       refine Ak f Z hc3 ?_
       refine Ax Z ?_
       refine An ?_
       refine Ah f Z Z Au λa f=>Ab f Z λa f=>Aa ?_
       exact⟨_,Z,G6,_,_,hl6,f.k Z,m,oM,hc⟩
      ·refine Ai f Z hc3 ?_
       refine Al ?_
       have⟨oo,hoo,hs⟩:=bind_some hs
       have⟨r,hr,hs⟩:=bind_some hs
       refine Ad ?_
       refine Ab f Z λa f=>Ab f Z λa f=>Ab f Z λa f=>A4 f Z call74 (Wk.e m hoo) λG9 w hl9 m a f=> ?_
       have h0:=rd1 hl9 h0
       refine Ah f Z Z b_or λa f=>AE f Z call81 (ih _ _ _ _ _ _ _ _ _ _ m h0 oM hc hr) λvr G10 Ho10 w hl10 m hQ10 a f=> ?_
       obtain⟨itM,M,itO,rfl,oM,hc,oO,hnO⟩:=hQ10
       have hle10:GLe G5 G10:=gt hl6 (gt hl9 hl10)
       refine Ac f Z λa f=>Av ?_
       refine Ab f Z λa f=>l_o f (r_nil_neq (f.e Z) (f.e Z) (Ow.hdr 0 m oO Z) underlying71 hnO) λa f=>Aa ?_
       cases r with
       |none=>
        obtain rfl:=sj hs
        refine Ai f Z Z ?_
        refine Al ?_
        refine An ?_
        refine Ah f Z Z Au λa f=>Ab f Z λa f=>Aa ?_
        exact⟨_,Z,G10,_,_,hle10,f.k Z,m.tail,oM,hc⟩
       |some rest=>
        have⟨l,hl,hs⟩:=bind_some hs
        obtain rfl:=sj hs
        obtain rfl:=hqq _ rfl
        refine Ak f Z Z ?_
        refine Ad ?_
        refine Ab f Z λa f=>AO (R:=R0) (xs:=([v]:LI)) (RI.one _) m T71 f Z Z Z (by decide) (All2.cons Z (All2.nil _)) λit11 v11 w a m o11 f=>Ab f Z λa f=>Bj (RI.one _) 0 m o11 Z T71 Z (by decide) f Z Z Z (Ow.src (j:=1) oO m Z) hl λit12 v12 w a m o12 f=>Ac f Z λa f=>Aa ?_
        refine Ap ?_
        have m:=m.eraseAt 1
        have hne:nonE l=some ():=by
         unfold AM at hl
         split at hl
         ·obtain rfl:=sj hl;rfl
         ·cases hl
        have hemp:l.isEmpty=false:=by
         cases l with
         |nil=>simp[nonE] at hne
         |cons x t=>rfl
        exact⟨[v12],f.g Z,f.d,G10,[it12,CT bx va vm,itM],gt hle5 hle10,m,_,_,_,Z,oM,hc,o12,(Ow.notNil 0 m o12 Z hne).trans hemp⟩
     ·refine Ai f Z hc2 ?_
      refine Ax Z ?_
      obtain rfl:=sj hs
      obtain rfl:=hqq _ rfl
      exact⟨Z,G6,_,_,hl6,f.k Z,m,oM,hc⟩
    ·clear hd f m oM hc ho
     rintro a w ⟨rfl,G6,itM,M,hl6,f,m,oM,hc⟩
     refine Ad ?_
     refine Ab f Z λa f=>l_o f (Be (f.e Z)) λa f=>BX underlying101 Z sizeOf99 f Z λa f=>AK 0 1 m hPl99 f Z Z Z Z λa f=>Ab f Z λa f=>l_mapUpdate (enc:=Value.bool) (y:=true) 1 m oM Z underlying99 underlying75 f Z Z Z λit' M' w hM' m oM=>Av ?_
     refine Ac f Z λa f=>Aa ?_
     refine Ap ?_
     obtain⟨itN,m,oN⟩:=Ow.nil R0 3 m
     exact⟨[.slice none 0 0],f.g Z,f.d,G6,[itN,CT bx va vm,it'],gt hle5 hl6,m,_,_,_,Z,oM,λkv hkv hkt=>by
      rcases hM' kv hkv with rfl|h
      ·exact⟨n+1,hd0⟩
      ·exact hc kv h hkt,oN,Z⟩
set_option maxHeartbeats 1000000 in
theorem Wk.w0 {v0:Value}{x0:LI}(hW:Br W)(m:Mem W G w (H))(h0:RSl (RI .u32) G v0 x0){y:LI×LI}(hd:D.w0 x0=some y):
  Calls prog 46 #[v0] w (Res W G H (λG' Ho v=>∃r0:Value,∃i0:Itm,∃r1:Value,Ho=[i0]∧v= .tuple #[r0,r1]∧Ow R0 3 G' i0 r0 y.1∧CY r0=y.1.isEmpty∧RSl (RI .u32) G' r1 y.2)):=by
 refine Ar (args:=[v0]) (N:=18) [.tmp 2,.tmp 3] func46 Z Z (lb Z) Z λa f=> ?_
 unfold D.w0 at hd
 have⟨po,hp,hd⟩:=bind_some hd
 refine Ad ?_
 refine Ac f Z λa f=>Ac f Z λa f=>Aa (Af (Ad ?_))
 refine Ab f Z λa f=>AE f Z call79 (Wk.N hW m h0 hp) λv1 G1 Ho1 w hl1 m hQ1 a f=> ?_
 obtain⟨vp,itp,rfl,rfl,op,hnp⟩:=hQ1
 have h0:=rd1 hl1 h0
 refine l_o f (r_nil_eql (f.e Z) (f.e Z) (Ow.hdr 0 m op Z) underlying71 hnp) λa f=>Aa ?_
 have m:Mem W G1 w H:=m.tail
 rcases Ae hd with⟨hc1,hd⟩|⟨hc1,hd⟩
 ·obtain rfl:=sj hd
  refine Ak f Z hc1 ?_
  refine Ad ?_
  refine Ac f Z λa f=>Ac f Z λa f=>Aa ?_
  refine Ap ?_
  obtain⟨itC,m,oC⟩:=Ow.nil (RI .u32) 75 m
  obtain⟨G2,hl2,m,hC⟩:=oC.stamp (RI.mono _) m
  obtain⟨itN,m,oN⟩:=Ow.nil R0 3 m
  exact⟨[.slice none 0 0,.slice none 0 0],⟨f.get _ _ Z,f.get _ _ Z,trivial⟩,f.d,G2,[itN],gt hl1 hl2,m,_,_,_,Z,Z,oN,Z,hC⟩
 ·refine Ai f Z hc1 ?_
  refine Al ?_
  have⟨cs,hcs,hd⟩:=bind_some hd
  have⟨r,hr,hd⟩:=bind_some hd
  refine Ad ?_
  refine Ab f Z λa f=>AE f Z call80 (Wk.v hW m h0 hcs) λv2 G2 Ho2 w hl2 m hQ2 a f=> ?_
  obtain⟨vc,itc,rfl,rfl,oc⟩:=hQ2
  obtain⟨G3,hl3,m,hC⟩:=oc.stamp (RI.mono _) m
  refine Ac f Z λa f=>Av ?_
  refine Ab f Z λa f=>l_makeMap .u32 Value.bool m f Z λitM vm w a m oM f=> ?_
  have hb:∀w,(Instr.build 101 #[(0,vc),(1,vm)]).run prog w= .ok (.agg #[vc,vm]) w:=by intro w;simp[Instr.build,Instr.fill,hC.cells,OwMp.cells oM,cells_agg]
  refine l_build f Z Z hb λa f=>Bw (cs:=[vc,vm]) m f Z Z Z λbx w a m f=>Ac f Z λa f=>Av ?_
  refine Ab f Z λa f=>AE f Z call81 (Wk.d1 hW Bn _ _ _ _ _ _ _ _ _ _ m hC oM (λkv hkv=>by simp at hkv) hr) λvr G4 Ho4 w hl4 m hQ4 a f=> ?_
  obtain⟨itM',M',itO,rfl,oM',_,oO,hnO⟩:=hQ4
  have m:Mem W G4 w (itO::H):=(m.eraseAt 1).eraseAt 1
  have hC:=rd1 hl4 hC
  refine Ab f Z λa f=>Ac f Z λa f=>Ac f Z λa f=>Aa ?_
  refine Ap ?_
  have hle:GLe G G4:=gt hl1 (gt hl2 (gt hl3 hl4))
  cases r with
  |none=>
   obtain rfl:=sj hd
   exact⟨[vr,vc],⟨f.get _ _ Z,f.get _ _ Z,trivial⟩,f.d,G4,[itO],hle,m,_,_,_,Z,Z,oO,hnO,hC⟩
  |some l=>
   have⟨un,hun,hd⟩:=bind_some hd
   obtain rfl:=sj hd
   exact⟨[vr,vc],⟨f.get _ _ Z,f.get _ _ Z,trivial⟩,f.d,G4,[itO],hle,m,_,_,_,Z,Z,oO,Ow.notNil 0 m oO Z hun,hC⟩
end Go.Proofs.YtjhajfcggfhbmaaDoor

set_option maxRecDepth 100000
namespace Go.Proofs.YtjhajfcggfhbmaaDoor
open Go Go.Sx
open Go.Proofs.Tryd Go.Proofs.YtjhajfcggfhbmaaDoor.Tryd IntKind
variable {W w : World} {G : GH} {H : List Itm}
theorem Ag24 :Agg prog 24 1:=⟨isAgg24,sizeOf24⟩
theorem Wk.e0 {aa:Value}{ab:LL}(hW:Br W)(m:Mem W G w (H))(ac:R2 G aa ab){y:(LI)×Bool}(hd:D.e0 ab=some y):
  Calls prog 45 #[(.agg #[aa])] w (Res W G H (λG' Ho v=>∃r0:Value,∃i0:Itm,Ho=[i0]∧v= .tuple #[r0,(.bool y.2)]∧Ow R0 2 G' i0 r0 y.1)):=by
 refine Ar (args:=[(.agg #[aa])]) (N:=19) [.tmp 2,.tmp 3] func45 Z Z (lb Z) Z λa f=> ?_
 unfold D.e0 at hd
 refine Ad ?_
 refine Bw (cs:=[aa]) m f Z Z Z λad w a m f=>Ac f Z λa f=>Ac f Z λa f=>Aa (Af (Ad ?_))
 refine A3 0 0 (ds:=[aa]) m Bv f Z Z Z Z Z λa f=> ?_
 have⟨ae,af,hd⟩:=bind_some hd
 refine A4 f Z call30 (Wk.z m ac af) λag w ah m a f=> ?_
 have ac:=rd2 ah ac
 refine l_o f (Bc (f.e Z)) λa f=>Aa ?_
 rcases Ae hd with⟨ai,hd⟩|⟨ai,hd⟩
 ·refine Ak f Z ai ?_
  refine Ad ?_
  refine Ac f Z λa f=>Ac f Z λa f=>Aa ?_
  refine Ap ?_
  obtain⟨aj,m,ak⟩:=Ow.nil R0 2 m
  have m:=m.eraseAt 1
  obtain rfl:=sj hd
  exact⟨[sn,(.bool false)],⟨f.get _ _ Z,f.get _ _ Z,trivial⟩,f.d,_,[aj],ah,m,_,_,Z,Z,ak⟩
 ·refine Ai f Z ai ?_
  refine Al ?_
  refine Ad ?_
  refine A3 0 0 (ds:=[aa]) m Bv f Z Z Z Z Z λa f=> ?_
  have⟨al,am,hd⟩:=bind_some hd
  refine AE f Z call33 (Wk.C m ac am) λan ao ap w aq m ar a f=> ?_
  obtain⟨au,av,rfl,rfl,aw⟩:=ar
  obtain⟨ax,ay,m,az⟩:=Ow.stamp (RI.mono _) aw m
  have⟨aA,aB,hd⟩:=bind_some hd
  refine AE f Z call46 (Wk.w0 hW m az aB) λaC aD aE w aF m aG a f=> ?_
  obtain⟨aH,aI,aJ,rfl,rfl,aK,aL,aM⟩:=aG
  refine Ab f Z λa f=>l_o f (A7 (f.e Z) Z) λa f=>l_o f (A7 (f.e Z) Z) λa f=>Ac f Z λa f=>Ac f Z λa f=>Aa (Af (Ad ?_))
  refine Ab f Z λa f=>l_o f (r_nil_eql (f.e Z) (f.e Z) (Ow.hdr 0 m aK Z) underlying71 aL) λa f=>Aa ?_
  rcases Ae hd with⟨aN,hd⟩|⟨aN,hd⟩
  ·refine Ak f Z aN ?_
   refine Ad ?_
   refine Ac f Z λa f=>Ac f Z λa f=>Aa ?_
   refine Ap ?_
   obtain⟨aO,m,aP⟩:=Ow.nil R0 2 m
   have m:=m.eraseAt 2
   have m:=m.eraseAt 1
   obtain rfl:=sj hd
   exact⟨[sn,(.bool false)],⟨f.get _ _ Z,f.get _ _ Z,trivial⟩,f.d,_,[aO],(gt ah (gt aq (gt ay aF))),m,_,_,Z,Z,aP⟩
  ·refine Ai f Z aN ?_
   refine Al ?_
   refine Ad ?_
   refine Ab f Z λa f=> ?_
   have⟨aQ,aR,hd⟩:=bind_some hd
   refine AE f Z call78 (Ow.lendCall (RI.mono _) 0 aK m Z (λaS aT m aU=>Wk.V m aU aR) (λ_ G' _ _ ⟨a0,a1,e1,e2,o0⟩=>⟨a0,a1,e1,e2,Ow.free (RI.free _) G' o0⟩)) λaV aW aX w aY m aZ a f=> ?_
   obtain⟨a2,a3,rfl,rfl,a4⟩:=aZ
   refine Ac f Z λa f=>Ac f Z λa f=>Aa ?_
   refine Ap ?_
   have m:=m.eraseAt 2
   have m:=m.eraseAt 1
   obtain rfl:=sj hd
   exact⟨[a2,(.bool true)],⟨f.get _ _ Z,f.get _ _ Z,trivial⟩,f.d,_,[a3],(gt ah (gt aq (gt ay (gt aF aY)))),m,_,_,Z,Z,a4⟩
theorem Wk.X {aa:Value}{ab:LL}(hW:Br W)(m:Mem W G w (H))(ac:R2 G aa ab){y:Bool}(hd:D.X ab=some y):
  Calls prog 20 #[(.agg #[aa])] w (Res W G H (λ_ Ho v=>Ho=[]∧v=(.bool y))):=by
 refine Ar (args:=[(.agg #[aa])]) (N:=11) [.tmp 2] func20 Z Z (lb Z) Z λa f=> ?_
 unfold D.X at hd
 refine Ad ?_
 refine Bw (cs:=[aa]) m f Z Z Z λad w a m f=>Ac f Z λa f=>Av ?_
 refine A3 0 0 (ds:=[aa]) m Bv f Z Z Z Z Z λa f=> ?_
 have⟨ae,af,hd⟩:=bind_some hd
 refine AE f Z call45 (Wk.e0 hW m ac af) λag ah ai w aj m ak a f=> ?_
 obtain⟨al,am,rfl,rfl,an⟩:=ak
 refine Ab f Z λa f=>l_o f (A7 (f.e Z) Z) λa f=>l_o f (A7 (f.e Z) Z) λa f=>Ac f Z λa f=>Ac f Z λa f=>Av ?_
 refine Ab f Z λa f=>Ac f Z λa f=>Aa ?_
 refine Ap ?_
 have m:Mem W ah w H:=Mem.drop (H':=[am,ib ad 27 [aa]]) m
 obtain rfl:=sj hd
 exact⟨[(.bool ae.2)],f.g Z,f.d,_,[],aj,m,Z,Z⟩
theorem Wk.U {aa:Value}{ab:LL}(hW:Br W)(m:Mem W G w (H))(ac:R2 G aa ab){y:Bool}(hd:D.U ab=some y):
  Calls prog 23 #[(.agg #[aa])] w (Res W G H (λ_ Ho v=>Ho=[]∧v=(.bool y))):=by
 refine Ar (args:=[(.agg #[aa])]) (N:=16) [.tmp 2] func23 Z Z (lb Z) Z λa f=> ?_
 unfold D.U at hd
 refine Ad ?_
 refine Bw (cs:=[aa]) m f Z Z Z λad w a m f=>Ac f Z λa f=>Av ?_
 refine A3 0 0 (ds:=[aa]) m Bv f Z Z Z Z Z λa f=> ?_
 have⟨ae,af,hd⟩:=bind_some hd
 refine AE f Z call49 (Wk.J hW m ac af) λag ah ai w aj m ak a f=> ?_
 obtain⟨al,am,rfl,rfl,an⟩:=ak
 have ac:=rd2 aj ac
 refine Ab f Z λa f=>l_o f (A7 (f.e Z) Z) λa f=>l_o f (A7 (f.e Z) Z) λa f=>Ac f Z λa f=>Ac f Z λa f=>Av ?_
 refine A3 1 0 (ds:=[aa]) m Bv f Z Z Z Z Z λa f=> ?_
 have⟨ao,ap,hd⟩:=bind_some hd
 refine A4 f Z call20 (Wk.X hW m ac ap) λaq w ar m a f=>Ab f Z λa f=> ?_
 refine B4 3 (λa w=>∃au,GLe aq au∧Mem W au w (am::ib ad 27 [aa]::H)∧Fr a 16 [(0,(.agg #[aa])),(1,(pb ad)),(3,al),(4,(.bool ae.2)),(10,(.agg #[aa])),(11,(.bool ao)),(12,(.bool ao)),(15,(.bool (ao&&(!ae.2))))]) ?_ ?_
 ·rcases Bool.eq_false_or_eq_true ao with av|av
  ·refine AJ f av ?_
   refine Ab f Z λa f=>AJ f av ?_
   refine l_o f (Bc (f.e Z)) λa f=>l_o f (AV (f.e Z) av (f.e Z)) λa f=> ?_
   exact⟨_,gr,m,f.weak ⟨Z,Z,Z,Z,Z,Z,Z,by rw[av];rfl,trivial⟩⟩
  ·refine AN f av λa f=> ?_
   refine AN f av λa f=>l_o f (AZ (f.e Z) av (f.e Z)) λa f=> ?_
   exact⟨_,gr,m,f.weak ⟨Z,Z,Z,Z,Z,Z,Z,by rw[av];rfl,trivial⟩⟩
 ·rintro a w ⟨au,aw,m,f⟩
  refine Ac f Z λa f=>Aa ?_
  refine Ap ?_
  have m:Mem W au w H:=Mem.drop (H':=[am,ib ad 27 [aa]]) m
  obtain rfl:=sj hd
  exact⟨[(.bool (ao&&(!ae.2)))],f.g Z,f.d,_,[],(gt aj (gt ar aw)),m,Z,Z⟩
theorem Wk.n {v0 v1:Value}{x0 x1:LI}(m:Mem W G w (H))(h0:R1 G v0 x0)(h1:R1 G v1 x1){y:Bool}(hd:D.n x0 x1=some y):
  Calls prog 34 #[v0,v1] w (Res W G H (λ_ Ho v=>Ho=[]∧v=(.bool y))):=by
 refine Ar (args:=[v0,v1]) (N:=26) [.tmp 4] func34 Z Z (lb Z) Z λa f=> ?_
 unfold D.n at hd
 refine Ad ?_
 refine Ac f Z λa f=>Aa (Af (Ad ?_))
 refine Ab f Z λa f=>AT underlying49 f Z Z h0 λa f=>Ab f Z λa f=>AT underlying49 f Z Z h1 λa f=>Ah f Z Z Dr λa f=>Aa ?_
 rcases Ae hd with⟨aa,hd⟩|⟨aa,hd⟩
 ·refine Ak f Z aa ?_
  refine Ad ?_
  refine Ac f Z λa f=>Aa ?_
  refine Ap ?_
  obtain rfl:=sj hd
  exact⟨[(.bool false)],f.g Z,f.d,_,[],gr,m,Z,Z⟩
 ·refine Ai f Z aa ?_
  refine Al ?_
  refine Af (Ad ?_)
  refine Ac f Z λa f=>Aa ?_
  have⟨ab,ac,hd⟩:=bind_some hd
  refine AB (λa w=>∃q_36':Unit,ab= .inl q_36'∧∃(ad:GH),GLe G ad∧Fr a 26 []∧Mem W ad w (H)) ?_ ?_
  ·refine Aj ?_
   refine Ay (λae a w=>∃af:Int,af=ae∧∃(ag:GH),GLe G ag∧Fr a 26 [(0,v0),(1,v1),(5,(iv af))]∧Mem W ag w (H)) ac ⟨_,Z,_,gr,f.k Z,m⟩ ?_
   clear ac f m
   rintro ae ah ai aj a w ⟨af,rfl,ag,ak,f,m⟩
   have h0:=rd1 ak h0
   have h1:=rd1 ak h1
   refine Af (Ad ?_)
   refine Ab f Z λa f=>Ab f Z λa f=>AT underlying49 f Z Z h0 λa f=>Ah f Z Z AD λa f=>Aa ?_
   rcases Ae ai with⟨al,ai⟩|⟨al,ai⟩
   ·refine Ak f Z al ?_
    refine Al ?_
    refine Af (Aj (Af ?_))
    refine A8 9 AF (by kernel_rfl) m ?_
    refine Ag 0 9 Z f Z λa f=>Ag 1 9 Z f Z λa f=> ?_
    have⟨am,an,ai⟩:=bind_some ai
    refine Bx 2 9 T49 h0 an Z f Z Z λao ap a aq ar f=> ?_
    subst ar
    refine By 3 9 Pl2 aq Z f Z λa f=>Ag 4 9 Z f Z λa f=>Ag 5 9 Z f Z λa f=> ?_
    have⟨au,av,ai⟩:=bind_some ai
    refine Bx 6 9 T49 h1 av Z f Z Z λaw ax a ay az f=> ?_
    subst az
    refine By 7 9 Pl2 ay Z f Z λa f=>q_p 8 9 Z f (λ_=>AA (f.e Z) (f.e Z) Dr) λa f=>AP λaA w aB m=>Aa ?_
    rcases Ae ai with⟨aC,ai⟩|⟨aC,ai⟩
    ·refine Ak f Z aC ?_
     refine Ad ?_
     refine Ac f Z λa f=>Aa ?_
     refine Ap ?_
     obtain rfl:=sj ai
     obtain rfl:=aj _ rfl
     obtain rfl:=sj hd
     exact⟨[(.bool false)],f.g Z,f.d,_,[],(gt ak aB),m,Z,Z⟩
    ·refine Ai f Z aC ?_
     refine Al ?_
     refine An ?_
     refine Ab f Z λa f=>Ah f Z Z Au λa f=>Ac f Z λa f=>Aa ?_
     obtain rfl:=sj ai
     exact⟨_,Z,_,Z,_,(gt ak aB),f.k Z,m⟩
   ·refine Ai f Z al ?_
    refine Ax Z ?_
    obtain rfl:=sj ai
    obtain rfl:=aj _ rfl
    exact⟨_,Z,_,ak,f.weak trivial,m⟩
  ·rintro a w ⟨_,rfl,ad,aD,f,m⟩
   refine Ad ?_
   refine Ac f Z λa f=>Aa ?_
   refine Ap ?_
   obtain rfl:=sj hd
   exact⟨[(.bool true)],f.g Z,f.d,_,[],aD,m,Z,Z⟩
theorem Wk.r0 {v0 v1:Value}{x0 x1:LL}(m:Mem W G w (H))(h0:R2 G v0 x0)(h1:R2 G v1 x1){y:Bool}(hd:D.r0 x0 x1=some y):
  Calls prog 10 #[v0,v1] w (Res W G H (λ_ Ho v=>Ho=[]∧v=(.bool y))):=by
 refine Ar (args:=[v0,v1]) (N:=27) [.tmp 4] func10 Z Z (lb Z) Z λa f=> ?_
 unfold D.r0 at hd
 refine Ad ?_
 refine Ac f Z λa f=>Aa (Af (Ad ?_))
 refine Ab f Z λa f=>AT underlying22 f Z Z h0 λa f=>Ab f Z λa f=>AT underlying22 f Z Z h1 λa f=>Ah f Z Z Dr λa f=>Aa ?_
 rcases Ae hd with⟨aa,hd⟩|⟨aa,hd⟩
 ·refine Ak f Z aa ?_
  refine Ad ?_
  refine Ac f Z λa f=>Aa ?_
  refine Ap ?_
  obtain rfl:=sj hd
  exact⟨[(.bool false)],f.g Z,f.d,_,[],gr,m,Z,Z⟩
 ·refine Ai f Z aa ?_
  refine Al ?_
  refine Af (Ad ?_)
  refine Ac f Z λa f=>Aa ?_
  have⟨ab,ac,hd⟩:=bind_some hd
  refine AB (λa w=>∃q_42':Unit,ab= .inl q_42'∧∃(ad:GH),GLe G ad∧Fr a 27 []∧Mem W ad w (H)) ?_ ?_
  ·refine Aj ?_
   refine Ay (λae a w=>∃af:Int,af=ae∧∃(ag:GH),GLe G ag∧Fr a 27 [(0,v0),(1,v1),(5,(iv af))]∧Mem W ag w (H)) ac ⟨_,Z,_,gr,f.k Z,m⟩ ?_
   clear ac f m
   rintro ae ah ai aj a w ⟨af,rfl,ag,ak,f,m⟩
   have h0:=rd2 ak h0
   have h1:=rd2 ak h1
   refine Af (Ad ?_)
   refine Ab f Z λa f=>Ab f Z λa f=>AT underlying22 f Z Z h0 λa f=>Ah f Z Z AD λa f=>Aa ?_
   rcases Ae ai with⟨al,ai⟩|⟨al,ai⟩
   ·refine Ak f Z al ?_
    refine Al ?_
    refine Af (Aj (Af ?_))
    refine A8 10 AF (by kernel_rfl) m ?_
    refine Ag 0 10 Z f Z λa f=>Ag 1 10 Z f Z λa f=> ?_
    have⟨am,an,ai⟩:=bind_some ai
    refine Bx 2 10 T22 h0 an Z f Z Z λao ap a aq ar f=>By 3 10 BW aq Z f Z λa f=>Ag 4 10 Z f Z λa f=>Ag 5 10 Z f Z λa f=> ?_
    have⟨au,av,ai⟩:=bind_some ai
    refine Bx 6 10 T22 h1 av Z f Z Z λaw ax a ay az f=>By 7 10 BW ay Z f Z λa f=> ?_
    have⟨aA,aB,ai⟩:=bind_some ai
    refine Ck (i:=8) 10 Z (by kernel_rfl) Z f Z Z Z call34 (λ_ _ w aC m=>Wk.n m (rd1 aC ar) (rd1 aC az) aB) λa f=>q_p 9 10 Z f (λ_=>Bc (f.e Z)) λa f=>AP λaD w aE m=>Aa ?_
    rcases Ae ai with⟨aF,ai⟩|⟨aF,ai⟩
    ·refine Ak f Z aF ?_
     refine Ad ?_
     refine Ac f Z λa f=>Aa ?_
     refine Ap ?_
     obtain rfl:=sj ai
     obtain rfl:=aj _ rfl
     obtain rfl:=sj hd
     exact⟨[(.bool false)],f.g Z,f.d,_,[],(gt ak aE),m,Z,Z⟩
    ·refine Ai f Z aF ?_
     refine Al ?_
     refine An ?_
     refine Ab f Z λa f=>Ah f Z Z Au λa f=>Ac f Z λa f=>Aa ?_
     obtain rfl:=sj ai
     exact⟨_,Z,_,Z,_,(gt ak aE),f.k Z,m⟩
   ·refine Ai f Z al ?_
    refine Ax Z ?_
    obtain rfl:=sj ai
    obtain rfl:=aj _ rfl
    exact⟨_,Z,_,ak,f.weak trivial,m⟩
  ·rintro a w ⟨_,rfl,ad,aG,f,m⟩
   refine Ad ?_
   refine Ac f Z λa f=>Aa ?_
   refine Ap ?_
   obtain rfl:=sj hd
   exact⟨[(.bool true)],f.g Z,f.d,_,[],aG,m,Z,Z⟩
theorem Wk.x0 {aa ab:Value}{ac ad:LL}(m:Mem W G w (H))(ae:R2 G aa ac)(af:R2 G ab ad){y:Bool}(hd:D.x0 ac ad=some y):
  Calls prog 11 #[(.agg #[aa]),(.agg #[ab])] w (Res W G H (λ_ Ho v=>Ho=[]∧v=(.bool y))):=by
 refine Ar (args:=[(.agg #[aa]),(.agg #[ab])]) (N:=11) [.tmp 4] func11 Z Z (lb Z) Z λa f=> ?_
 unfold D.x0 at hd
 refine Ad ?_
 refine Bw (cs:=[aa]) m f Z Z Z λag w a m f=>Bw (cs:=[ab]) m f Z Z Z λah w a m f=>Ac f Z λa f=>Aa (Af (Ad ?_))
 refine BX underlying27 Z sizeOf22 f Z λa f=>AK 1 0 m BP f Z Z Z Z λa f=>BX underlying27 Z sizeOf22 f Z λa f=>AK 0 0 m BP f Z Z Z Z λa f=> ?_
 have⟨ai,aj,hd⟩:=bind_some hd
 refine A4 f Z call10 (Wk.r0 m ae af aj) λak w al m a f=>l_o f (Bc (f.e Z)) λa f=>Aa ?_
 rcases Ae hd with⟨am,hd⟩|⟨am,hd⟩
 ·refine Ak f Z am ?_
  refine Ad ?_
  refine Ac f Z λa f=>Aa ?_
  refine Ap ?_
  have m:Mem W ak w H:=Mem.drop (H':=[ib ah 27 [ab],ib ag 27 [aa]]) m
  obtain rfl:=sj hd
  exact⟨[(.bool false)],f.g Z,f.d,_,[],al,m,Z,Z⟩
 ·refine Ai f Z am ?_
  refine Al ?_
  refine Ad ?_
  refine Ac f Z λa f=>Aa ?_
  refine Ap ?_
  have m:Mem W ak w H:=Mem.drop (H':=[ib ah 27 [ab],ib ag 27 [aa]]) m
  obtain rfl:=sj hd
  exact⟨[(.bool true)],f.g Z,f.d,_,[],al,m,Z,Z⟩
set_option maxHeartbeats 1000000 in
theorem Wk.T0 {aa:Value}{ab:LL}(hW:Br W)(m:Mem W G w (H))(ac:R2 G aa ab){y:Bool}(hd:D.T0 ab=some y):
  Calls prog 5 #[(.agg #[aa])] w (Res W G H (λ_ Ho v=>Ho=[]∧v=(.bool y))):=by
 refine Ar (args:=[(.agg #[aa])]) (N:=27) [.tmp 2] func5 Z Z (lb Z) Z λa f=> ?_
 unfold D.T0 at hd
 refine Ad ?_
 refine Bw (cs:=[aa]) m f Z Z Z λad w a m f=>Ac f Z λa f=>Av ?_
 refine Ac f Z λa f=>Av ?_
 refine A3 0 0 (ds:=[aa]) m Ag24 f Z Z Z Z Z λa f=>Ab f Z λa f=> ?_
 have⟨ae,af,hd⟩:=bind_some hd
 refine A4 f Z call6 (Wk.D0 m ac af) λag w ah m a f=> ?_
 have ac:=rd2 ah ac
 refine Ac f Z λa f=>Aa (Af (Ad ?_))
 refine Ab f Z λa f=>Ah f Z Z AD λa f=>Aa ?_
 rcases Ae hd with⟨ai,hd⟩|⟨ai,hd⟩
 ·refine Ak f Z ai ?_
  refine Ad ?_
  refine Ac f Z λa f=>Aa ?_
  refine Ap ?_
  have m:Mem W ag w H:=Mem.drop (H':=[ib ad 24 [aa]]) m
  obtain rfl:=sj hd
  exact⟨[(.bool true)],f.g Z,f.d,_,[],ah,m,Z,Z⟩
 ·refine Ai f Z ai ?_
  refine Al ?_
  refine Ad ?_
  refine A3 0 0 (ds:=[aa]) m Ag24 f Z Z Z Z Z λa f=> ?_
  have⟨aj,ak,hd⟩:=bind_some hd
  refine AE f Z call8 (Wk.u m ac ak) λal am an w ao m ap a f=> ?_
  obtain⟨aq,ar,rfl,rfl,au⟩:=ap
  have ac:=rd2 ao ac
  have⟨av,aw,hd⟩:=bind_some hd
  refine AE f Z call24 (Ow2.lendCall (RI.mono _) 0 au m Z (λax ay m az=>Wk.M m az aw) (λ_ _ _ _ h=>h)) λaA aB aC w aD m aE a f=> ?_
  obtain⟨rfl,rfl⟩:=aE
  have ac:=rd2 aD ac
  refine Ac f Z λa f=>Av ?_
  refine A3 1 0 (ds:=[aa]) m Ag24 f Z Z Z Z Z λa f=> ?_
  have⟨aF,aG,hd⟩:=bind_some hd
  refine AE f Z call8 (Wk.u m ac aG) λaH aI aJ w aK m aL a f=> ?_
  obtain⟨aM,aN,rfl,rfl,aO⟩:=aL
  have ac:=rd2 aK ac
  refine CG (cs:=[sn]) zeroValue27 m f Z Z λaP w a m f=>Bz 0 0 (ds:=[aM]) m sizeOf27 f Z Z Z (BG (Ow2.one1 1 m aO Z) BU) Z (lb Z) Z λw m=>Av ?_
  refine A3 0 0 (ds:=[aM]) m Bv f Z Z Z Z Z λa f=> ?_
  have⟨aQ,aR,hd⟩:=bind_some hd
  refine AE f Z call23 (Ow2.lendCall (RI.mono _) 1 aO m Z (λaS aT m aU=>Wk.U hW m aU aR) (λ_ _ _ _ h=>h)) λaV aW aX w aY m aZ a f=> ?_
  obtain⟨rfl,rfl⟩:=aZ
  have ac:=rd2 aY ac
  have aO:=od2 aY aO
  refine Ac f Z λa f=>Aa (Af (Ad ?_))
  refine Ab f Z λa f=>Ab f Z λa f=>l_o f (r_bool_neq (f.e Z) (f.e Z) underlying4) λa f=>Aa ?_
  rcases Ae hd with⟨a0,hd⟩|⟨a0,hd⟩
  ·refine Ak f Z a0 ?_
   refine Ad ?_
   refine Ac f Z λa f=>Aa ?_
   refine Ap ?_
   have m:Mem W aW w H:=Mem.drop (H':=[ib aP 27 [aM],aN,ar,ib ad 24 [aa]]) m
   obtain rfl:=sj hd
   exact⟨[(.bool false)],f.g Z,f.d,_,[],(gt ah (gt ao (gt aD (gt aK aY)))),m,Z,Z⟩
  ·refine Ai f Z a0 ?_
   refine Al ?_
   refine Af (Af ?_)
   refine A8 5 AF (by kernel_rfl) m ?_
   refine Cf (i:=0) (ds:=[aM]) 5 0 Bv Z Z Z Z (by kernel_rfl) Z f Z Z Z λa f=>Cf (i:=1) (ds:=[aa]) 5 3 Ag24 Z Z Z Z (by kernel_rfl) Z f Z Z Z λa f=>BD 2 Z λa1 w a2 m a3 a3=> ?_
   have ac:=rd2 a2 ac
   have aO:=od2 a2 aO
   have⟨a4,a5,hd⟩:=bind_some hd
   refine AE f Z call8 (Wk.u m ac a5) λa6 a7 a8 w a9 m ba a f=> ?_
   obtain⟨bb,bc,rfl,rfl,bd⟩:=ba
   have aO:=od2 a9 aO
   refine Aa ?_
   refine a3 a7 [bc] _ _ a9 m ?_
   refine BD 3 Z λbe w bf m bg bg=> ?_
   have bd:=od2 bf bd
   have aO:=od2 bf aO
   have⟨bh,bi,hd⟩:=bind_some hd
   refine AE f Z call11 (Ow2.lendCall (RI.mono _) 2 aO m Z (λbj bk m bl=>(Ow2.lendCall (RI.mono _) 0 (od2 bk bd) m Z (λbm bn m bo=>Wk.x0 m (rd2 bn bl) bo bi) (λ_ _ _ _ h=>h))) (λ_ _ _ _ h=>h)) λbp bq br w bs m bt a f=> ?_
   obtain⟨rfl,rfl⟩:=bt
   refine Aa ?_
   refine bg bq [bc] _ _ bs m ?_
   refine q_p 4 5 Z f (λ_=>Bc (f.e Z)) λa f=>AP λbu w bv m=>Aa ?_
   rcases Ae hd with⟨bw,hd⟩|⟨bw,hd⟩
   ·refine Ak f Z bw ?_
    refine Ad ?_
    refine Ac f Z λa f=>Aa ?_
    refine Ap ?_
    have m:Mem W bu w H:=Mem.drop (H':=[bc,ib aP 27 [aM],aN,ar,ib ad 24 [aa]]) m
    obtain rfl:=sj hd
    exact⟨[(.bool false)],f.g Z,f.d,_,[],(gt ah (gt ao (gt aD (gt aK (gt aY (gt a2 (gt a9 (gt bf (gt bs bv))))))))),m,Z,Z⟩
   ·refine Ai f Z bw ?_
    refine Al ?_
    refine Ad ?_
    refine Ac f Z λa f=>Aa ?_
    refine Ap ?_
    have m:Mem W bu w H:=Mem.drop (H':=[bc,ib aP 27 [aM],aN,ar,ib ad 24 [aa]]) m
    obtain rfl:=sj hd
    exact⟨[(.bool true)],f.g Z,f.d,_,[],(gt ah (gt ao (gt aD (gt aK (gt aY (gt a2 (gt a9 (gt bf (gt bs bv))))))))),m,Z,Z⟩
end Go.Proofs.YtjhajfcggfhbmaaDoor
