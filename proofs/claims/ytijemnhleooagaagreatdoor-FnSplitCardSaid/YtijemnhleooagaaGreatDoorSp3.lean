/- Parts. -/
import Derived.Test.YtijemnhleooagaaGreatDoorSp2
import Derived.Test.YtijemnhleooagaaGreatDoorProg
import Derived.KernelRfl
import Derived.Lib.AppendStr
import Derived.Lib.UnsafeStr
import Derived.Lib.ConvBytes
import Derived.Laws.IdiomCopy
import Derived.Shelf.Spec.SlicesInsertGrow
set_option linter.unusedVariables false
set_option linter.unusedSimpArgs false
set_option linter.unusedSectionVars false
set_option maxRecDepth 100000
namespace Go.Proofs.YtijemnhleooagaaGreatDoor
open Go Go.Sx
open Go.Proofs.Tryz Go.Proofs.YtijemnhleooagaaGreatDoor.Tryz IntKind
variable {W w : World} {G : GH} {H : List Itm}
theorem AF :prog.follows .mixedOrders=true:=by kernel_rfl
theorem Pl2 :B8 prog 2:=isAgg2
theorem T30 :SlT prog 30 2 1 8 (iv 0):=⟨underlying30,Tryz.t2,by kernel_rfl,by kernel_rfl,by kernel_rfl,by kernel_rfl⟩
theorem Pl5 :B8 prog 5:=isAgg5
theorem T87 :SlT prog 87 3 1 8 (iv 0):=⟨underlying87,Tryz.t3,by kernel_rfl,by kernel_rfl,by kernel_rfl,by kernel_rfl⟩
theorem BU :B8 prog 30:=isAgg30
theorem T24 :SlT prog 24 30 1 24 sn:=⟨underlying24,Tryz.t30,by kernel_rfl,by kernel_rfl,by kernel_rfl,by kernel_rfl⟩
theorem Pl3 :B8 prog 3:=isAgg3
theorem Pl158 :B8 prog 158:=isAgg158
theorem Wk.s0 {v0:Value}{x0:LI}{x1:Int}(m:Mem W G w (H))(h0:R1 G v0 x0){y:Int}(hd:D.s0 x0 x1=some y):
  Calls prog 85 #[v0,iv x1] w (Res W G H (λ_ Ho v=>Ho=[]∧v=(iv y))):=by
 refine Au (args:=[v0,iv x1]) (N:=19) [.tmp 4] func85 Z Z (lb Z) Z λa f=> ?_
 unfold D.s0 at hd
 refine Ae (Ac f Z λa f=>Aa (Ag (Ae (Ab f Z λa f=>Bg underlying30 f Z Z h0 λa f=>Ab f Z λa f=>Aa (Bd hd λaa ab hd=> ?_)))))
 refine AL (λa w=>∃q_19':Unit,aa= .inl q_19'∧∃(ac:GH),GLe G ac∧Fr a 19 []∧Mem W ac w (H)) ?_ ?_
 ·refine Ao (AM (λad a w=>∃ae:Int,ae=ad∧∃(af:GH),GLe G af∧Fr a 19 [(0,v0),(1,iv x1),(7,(iv (x0.length:Int))),(8,iv ae)]∧Mem W af w (H)) ab ⟨_,Z,_,gr,f.k Z,m⟩ ?_)
  clear ab f m
  rintro ad ag ah ai a w ⟨ae,rfl,af,aj,f,m⟩
  refine have h0:=rd1 aj h0;Ae (Ah f Z Z AV λa f=>Aa (Ag ?_))
  rcases Af ah with⟨ak,ah⟩|⟨ak,ah⟩
  ·refine Al f Z ak (Ap (Ag (Ao (Ae (Ab f Z λa f=>Ac f Z λa f=>Ay (Ab f Z λa f=>Ab f Z λa f=>Ab f Z λa f=>Bd ah λal am ah=>BI T30 f Z Z Z h0 am λan ao a ap aq f=> ?_))))))
   subst aq
   refine A3 m Pl2 f Z Z ap λa f=>Ah f Z Z BA λa f=>Aa ?_
   rcases Af ah with⟨ar,ah⟩|⟨ar,ah⟩
   ·refine Al f Z ar (Ae (Ab f Z λa f=>Ac f Z λa f=>Aa (Ar ?_)))
    obtain rfl:=sj ah
    obtain rfl:=ai _ rfl
    obtain rfl:=sj hd
    exact⟨[iv ae],f.g Z,f.d,_,[],aj,m,Z,Z⟩
   ·refine Ai f Z ar (Ap (Aq (Ah f Z Z Ax λa f=>Ab f Z λa f=>Aa ?_)))
    obtain rfl:=sj ah
    exact⟨_,Z,_,Z,_,aj,f.k Z,m⟩
  ·refine Ai f Z ak (AK Z ?_)
   obtain rfl:=sj ah
   obtain rfl:=ai _ rfl
   exact⟨_,Z,_,aj,f.weak trivial,m⟩
 ·rintro a w ⟨_,rfl,ac,au,f,m⟩
  refine Ae (Ac f Z λa f=>Aa (Ar ?_))
  obtain rfl:=sj hd
  exact⟨[(iv (-1))],f.g Z,f.d,_,[],au,m,Z,Z⟩
theorem Wk.k0 {v0:Value}{x0:LI}{x1:Int}(m:Mem W G w (H))(h0:R1 G v0 x0){y:Bool}(hd:D.k0 x0 x1=some y):
  Calls prog 48 #[v0,iv x1] w (Res W G H (λ_ Ho v=>Ho=[]∧v=(.bool y))):=by
 refine Au (args:=[v0,iv x1]) (N:=9) [.tmp 4] func48 Z Z (lb Z) Z λa f=> ?_
 unfold D.k0 at hd
 refine Ae (Ac f Z λa f=>Ay (Ab f Z λa f=>Ab f Z λa f=>Bd hd λaa ab hd=>Bj f Z call85 (Wk.s0 m h0 ab) λac w ad m a f=>Ah f Z Z CC λa f=>Ac f Z λa f=>Aa (Ar ?_)))
 obtain rfl:=sj hd
 exact⟨[(.bool (decide ((0:Int)≤aa)))],f.g Z,f.d,_,[],ad,m,Z,Z⟩
theorem Wk.Y1 {x0:Int}(hW:Cs W)(m:Mem W G w (H)){y:Int}(hd:D.Y1 x0=some y):
  Calls prog 99 #[(.int .u32 x0)] w (Res W G H (λ_ Ho v=>Ho=[]∧v=(iv y))):=by
 refine Au (args:=[(.int .u32 x0)]) (N:=14) [.tmp 2] func99 Z Z (lb Z) Z λa f=> ?_
 unfold D.Y1 at hd
 refine Ae (Ac f Z λa f=>Aa (Ag (Ae (Ab f Z λa f=>Ah f Z Z BA λa f=>Aa ?_))))
 rcases Af hd with⟨aa,hd⟩|⟨aa,hd⟩
 ·refine Al f Z aa (Ae (Ac f Z λa f=>Aa (Ar ?_)))
  obtain rfl:=sj hd
  exact⟨[iv 32],f.g Z,f.d,_,[],gr,m,Z,Z⟩
 ·refine Ai f Z aa (Ap (Ae (Ab f Z λa f=>Ab f Z λa f=>l_o f (r_neg (f.e Z)) λa f=>Ah f Z Z CZ λa f=>Ah f Z Z C4 λa f=>l_o f (Es (f.e Z) (f.e Z) (by decide)) λa f=>Bd hd λab ac hd=>l_tab hW m underlying132 sizeOf5 f Z Z ac λad a ae f=>A3 m Pl5 f Z Z ae λa f=>l_o f (C5 (f.e Z) ⟨_,underlying5⟩ underlying3) λa f=>Ac f Z λa f=>Aa (Ar ?_))))
  obtain rfl:=sj hd
  exact⟨[(iv (i64.wrap ab))],f.g Z,f.d,_,[],gr,m,Z,Z⟩
theorem Wk.q1 {x0:Int}(m:Mem W G w (H)){y:Int}(hd:D.q1 x0=some y):
  Calls prog 100 #[(.int .u32 x0)] w (Res W G H (λ_ Ho v=>Ho=[]∧v=(iv y))):=by
 refine Au (args:=[(.int .u32 x0)]) (N:=21) [.tmp 2] func100 Z Z (lb Z) Z λa f=> ?_
 unfold D.q1 at hd
 refine Ae (Ac f Z λa f=>Aa (Ag (A5 19 AF (by kernel_rfl) m (Aj 0 19 Z f Z λa f=>q_p 1 19 Z f (λ_=>Es (f.e Z) (f.e Z) (by decide)) λa f=>Bd hd λaa ab hd=>q_p 2 19 Z f (λ_=>Gq (f.e Z) (f.e Z) underlying9 ab) λa f=>Aj 3 19 Z f Z λa f=>q_p 4 19 Z f (λ_=>Es (f.e Z) (f.e Z) (by decide)) λa f=>q_p 5 19 Z f (λ_=>A8 (f.e Z) (f.e Z) CZ) λa f=>Bd hd λac ad hd=>q_p 6 19 Z f (λ_=>Gq (f.e Z) (f.e Z) underlying9 ad) λa f=>q_p 7 19 Z f (λ_=>A8 (f.e Z) (f.e Z) Ax) λa f=>Aj 8 19 Z f Z λa f=>q_p 9 19 Z f (λ_=>Es (f.e Z) (f.e Z) (by decide)) λa f=>q_p 10 19 Z f (λ_=>A8 (f.e Z) (f.e Z) CZ) λa f=>Bd hd λae af hd=>q_p 11 19 Z f (λ_=>Gq (f.e Z) (f.e Z) underlying9 af) λa f=>q_p 12 19 Z f (λ_=>A8 (f.e Z) (f.e Z) Ax) λa f=>Aj 13 19 Z f Z λa f=> ?_))))
 refine q_p 14 19 Z f (λ_=>A8 (f.e Z) (f.e Z) CZ) λa f=>Bd hd λag ah hd=>q_p 15 19 Z f (λ_=>Gq (f.e Z) (f.e Z) underlying9 ah) λa f=>q_p 16 19 Z f (λ_=>A8 (f.e Z) (f.e Z) Ax) λa f=>q_p 17 19 Z f (λ_=>C5 (f.e Z) ⟨_,underlying5⟩ underlying3) λa f=>q_p 18 19 Z f (λ_=>Cf (f.e Z)) λa f=>AO λai w aj m=>Aa (Ar ?_)
 obtain rfl:=sj hd
 exact⟨[(iv (i64.wrap (IntKind.u8.wrap ((IntKind.u8.wrap ((IntKind.u8.wrap (aa+ac))+ae))+ag))))],f.g Z,f.d,_,[],aj,m,Z,Z⟩
theorem Wk.S {v0:Value}{x0:LI}(m:Mem W G w (H))(h0:R1 G v0 x0){y:(LI)}(hd:D.S x0=some y):
  Calls prog 110 #[v0] w (Res W G H (λG' Ho v=>∃r0:Value,∃i0:Itm,Ho=[i0]∧r0=v∧Ow R0 3 G' i0 r0 y)):=by
 refine Au (args:=[v0]) (N:=8) [.tmp 2] func110 Z Z (lb Z) Z λa f=> ?_
 unfold D.S at hd
 refine Ae (Ac f Z λa f=>Aa (Ag (Ae (Ab f Z λa f=>l_o f (r_nil_eql (f.e Z) (f.e Z) h0.hdr underlying87 Z) λa f=>Aa ?_))))
 rcases Bool.eq_false_or_eq_true (isNil v0) with aa|aa
 ·have hz:=h0.nil_inv aa
  subst hz
  replace hd:some ([]:LI)=some _:=hd
  refine Al f Z aa (Ae (Ac f Z λa f=>Aa (Ar ?_)))
  obtain⟨ab,m,ac⟩:=Ow.nil R0 3 m
  obtain rfl:=sj hd
  exact⟨[sn],f.g Z,f.d,_,[ab],gr,m,_,_,Z,Z,ac⟩
 ·refine Ai f Z aa (Ap (Ae (A9 (R:=R0) (xs:=([]:LI)) (RI.one _) m T87 f Z Z Z (by decide) (All2.nil _) λad ae w a m af f=>Ab f Z λa f=>Bd hd λag ah hd=>Bm (RI.one _) 0 m af Z T87 Z (by decide) f Z Z Z (h0.src m) ah λai aj w a m ak f=>Ac f Z λa f=>Aa (Ar ?_))))
  obtain rfl:=sj hd
  exact⟨[aj],f.g Z,f.d,_,[ai],gr,m,_,_,Z,Z,ak⟩
theorem Wk.G1 {v0:Value}{x0:LI}(m:Mem W G w (H))(h0:R1 G v0 x0){y:Int}(hd:D.G1 x0=some y):
  Calls prog 88 #[v0] w (Res W G H (λ_ Ho v=>Ho=[]∧v=(iv y))):=by
 refine Au (args:=[v0]) (N:=25) [.tmp 2] func88 Z Z (lb Z) Z λa f=> ?_
 unfold D.G1 at hd
 refine Ae (Ac f Z λa f=>Aa (Ag (Ae (Ab f Z λa f=>Bg underlying30 f Z Z h0 λa f=>Ah f Z Z AV λa f=>Aa ?_))))
 rcases Af hd with⟨aa,hd⟩|⟨aa,hd⟩
 ·refine Al f Z aa ?_
  cases hd
 ·refine Ai f Z aa (Ap (Ae (Ab f Z λa f=>Bd hd λab ac hd=>BI T30 f Z Z Z h0 ac λad ae a af ag f=> ?_)))
  subst ag
  refine A3 m Pl2 f Z Z af λa f=>Ac f Z λa f=>Aa (Ag (Ae (Ac f Z λa f=>Aa (Bd hd λah ai hd=> ?_))))
  refine AL (λa w=>∃aj:Int,aj=ah∧∃(ak:GH),GLe G ak∧Fr a 25 [(3,iv aj)]∧Mem W ak w (H)) ?_ ?_
  ·refine Ao (AM (λal a w=>∃am:Int,∃an:Int,(am,an)=al∧∃(ao:GH),GLe G ao∧Fr a 25 [(0,v0),(3,iv am),(4,iv an)]∧Mem W ao w (H)) ai ⟨_,_,Z,_,gr,f.k Z,m⟩ ?_)
   clear ai f m
   rintro al ap aq ar a w ⟨am,an,rfl,ao,au,f,m⟩
   refine have h0:=rd1 au h0;Ag (Ae (Ab f Z λa f=>Ab f Z λa f=>Bg underlying30 f Z Z h0 λa f=>Ah f Z Z AV λa f=>Aa ?_))
   rcases Af aq with⟨av,aq⟩|⟨av,aq⟩
   ·refine Al f Z av (Ap (Ag (Ao (Aq (Ab f Z λa f=>Ab f Z λa f=>Ab f Z λa f=>Bd aq λaw ax aq=>BI T30 f Z Z Z h0 ax λay az a aA aB f=> ?_)))))
    subst aB
    refine A3 m Pl2 f Z Z aA λa f=>l_o f (r_min2 (f.e Z) (f.e Z)) λa f=>Ac f Z λa f=>Aa (Aq (Ab f Z λa f=>Ah f Z Z Ax λa f=>Ac f Z λa f=>Aa ?_))
    obtain rfl:=sj aq
    exact⟨_,Z,_,_,Z,_,au,f.k Z,m⟩
   ·refine Ai f Z av (AK Z ?_)
    obtain rfl:=sj aq
    obtain rfl:=ar _ rfl
    exact⟨_,Z,_,au,f.k Z,m⟩
  ·rintro a w ⟨aj,rfl,ak,aC,f,m⟩
   refine Ae (Ab f Z λa f=>Ac f Z λa f=>Aa (Ar ?_))
   obtain rfl:=sj hd
   exact⟨[iv aj],f.g Z,f.d,_,[],aC,m,Z,Z⟩
theorem Wk.V1 {x0:Int}(m:Mem W G w H){y:LI}(hd:D.V1 x0=some y):
  Calls prog 106 #[sn,iv x0] w (Res W G H (λG' Ho v=>∃r0:Value,∃i0:Itm,Ho=[i0]∧r0=v∧Ow R0 2 G' i0 r0 y)):=by
 unfold D.V1 growD at hd
 split at hd
 next hg=>
  obtain⟨g0,g1⟩:=hg
  obtain rfl:=sj hd
  refine Au (args:=[sn,iv x0]) (N:=27) [.tmp 4] func106 Z Z (lb Z) Z λa f=>Ae (Ac f Z λa f=>Aa (Ag (Ae (Ab f Z λa f=>Ah f Z Z AV λa f=>Aa (Ai f Z (decide_eq_false (by omega)) (Ap (Ag (Ae (Ab f Z λa f=>Ab f Z λa f=>l_o f (r_cap (f.e Z) underlying30) λa f=>Ab f Z λa f=>l_o f (D4 (f.e Z) underlying30) λa f=>Ah f Z Z b_sub0 λa f=>Ah f Z Z (b_subn g0 g1) λa f=>Ac f Z λa f=>Ay (Ab f Z λa f=>Ah f Z Z Ci λa f=>Aa ?_))))))))))
  by_cases gz:0<x0
  ·exact Al f Z (decide_eq_true gz) (Aq (Ab f Z λa f=>Ab f Z λa f=>l_o f (r_cap (f.e Z) underlying30) λa f=>l_o f (r_slice_none T30 (f.e Z) (f.e Z)) λa f=>Ab f Z λa f=>l_zeros m T30 underlying3 Z (by decide) f Z Z Z gz g1 λb c w a m f=>Ab f Z λa f=>l_o f (D4 (f.e Z) underlying30) λa f=>l_o f (r_slice_lo T30 (f.e Z) (f.e Z) (Int.le_refl _) (Int.natCast_nonneg _)) λa f=>Ac f Z λa f=>Ay (Ab f Z λa f=>Ac f Z λa f=>Aa (Ar ⟨[_],f.g Z,f.d,_,[_],gr,m,_,_,Z,Z,[],Z,All2.nil _⟩))))
  ·refine Ai f Z (decide_eq_false gz) (Ap (Ae (Ab f Z λa f=>Ac f Z λa f=>Aa (Ar ?_))))
   obtain⟨it,m,o⟩:=Ow.nil R0 2 m
   exact⟨[_],f.g Z,f.d,_,[it],gr,m,_,_,Z,Z,o⟩
 next=>cases hd
theorem Wk.M1 {v0:Value}{x0:LL}(m:Mem W G w (H))(h0:R2 G v0 x0){y:(LI)}(hd:D.M1 x0=some y):
  Calls prog 89 #[v0] w (Res W G H (λG' Ho v=>∃r0:Value,∃i0:Itm,Ho=[i0]∧r0=v∧Ow R0 2 G' i0 r0 y)):=by
 refine Au (args:=[v0]) (N:=36) [.tmp 2] func89 Z Z (lb Z) Z λa f=> ?_
 unfold D.M1 at hd
 refine Ae (Ac f Z λa f=>Ay (Ac f Z λa f=>Aa (Ag (Ae (Ab f Z λa f=>Bg underlying24 f Z Z h0 λa f=>Ab f Z λa f=>Aa (Bd hd λaa ab hd=> ?_))))))
 refine AL (λa w=>∃ac:Int,ac=aa∧∃(ad:GH),GLe G ad∧Fr a 36 [(0,v0),(3,iv ac)]∧Mem W ad w (H)) ?_ ?_
 ·refine Ao (AM (λae a w=>∃af:Int,∃ag:Int,(af,ag)=ae∧∃(ah:GH),GLe G ah∧Fr a 36 [(0,v0),(3,iv af),(9,v0),(10,(iv (x0.length:Int))),(11,iv ag)]∧Mem W ah w (H)) ab ⟨_,_,Z,_,gr,f.k Z,m⟩ ?_)
  clear ab f m
  rintro ae ai aj ak a w ⟨af,ag,rfl,ah,al,f,m⟩
  refine have h0:=rd2 al h0;Ae (Ah f Z Z AV λa f=>Aa (Ag ?_))
  rcases Af aj with⟨am,aj⟩|⟨am,aj⟩
  ·refine Al f Z am (Ap (Ag (Ao (Ae (Bd aj λan ao aj=>BI T24 f Z Z Z h0 ao λap aq a ar au f=>A3 m BU f Z Z ar λa f=>Ac f Z λa f=>Ay (Ab f Z λa f=>Ab f Z λa f=>Bg underlying30 f Z Z au λa f=>Ah f Z Z Ax λa f=>Ac f Z λa f=>Ay (Ab f Z λa f=>Ah f Z Z AV λa f=>Aa ?_)))))))
   rcases Af aj with⟨av,aj⟩|⟨av,aj⟩
   ·refine Al f Z av ?_
    cases aj
   ·refine Ai f Z av (Ap (Aq (Ah f Z Z Ax λa f=>Ab f Z λa f=>Aa ?_)))
    obtain rfl:=sj aj
    exact⟨_,Z,_,_,Z,_,al,f.k Z,m⟩
  ·refine Ai f Z am (AK Z ?_)
   obtain rfl:=sj aj
   obtain rfl:=ak _ rfl
   exact⟨_,Z,_,al,f.k Z,m⟩
 ·rintro a w ⟨ac,rfl,ad,aw,f,m⟩
  refine have h0:=rd2 aw h0;Ae (Ab f Z λa f=>Bd hd λax ay hd=>BP f Z call106 (Wk.V1 m ay) λaz aA aB w aC m aD a f=>have h0:=rd2 aC h0;Ac f Z λa f=>Aa (Ag (Ae (Ab f Z λa f=>Bg underlying24 f Z Z h0 λa f=>Ab f Z λa f=>Aa (Bd hd λaE aF hd=> ?_)))))
  refine AL (λa w=>∃aG:LI,aG=aE∧∃(aH:GH) (aI:Value) (aJ:Itm),GLe aB aH∧Fr a 36 [(6,aI)]∧Mem W aH w (aJ::H)∧Ow R0 2 aH aJ aI aG) ?_ ?_
  ·refine Ao (AM (λaK a w=>∃aL:LI,∃aM:Int,(aL,aM)=aK∧∃(aN:GH) (aO:Value) (aP:Itm),GLe aB aN∧Fr a 36 [(6,aO),(25,v0),(26,(iv (x0.length:Int))),(27,iv aM)]∧Mem W aN w (aP::H)∧Ow R0 2 aN aP aO aL) aF ⟨_,_,Z,_,az,aA,gr,f.k Z,m,aD⟩ ?_)
   clear aF f m
   rintro aK aQ aR aS a w ⟨aL,aM,rfl,aN,aO,aP,aT,f,m,aU⟩
   refine have h0:=rd2 aT h0;Ae (Ah f Z Z AV λa f=>Aa (Ag ?_))
   rcases Af aR with⟨aV,aR⟩|⟨aV,aR⟩
   ·refine Al f Z aV (Ap (Ag (Ao (Ae (Bd aR λaW aX aR=>BI T24 f Z Z Z h0 aX λaY aZ a a0 a1 f=>A3 m BU f Z Z a0 λa f=>Ac f Z λa f=>Aa (Aq (Ab f Z λa f=>Ab f Z λa f=>Bd aR λa2 a3 aR=>Bm (RI.one _) 0 m aU Z T30 Z (by decide) f Z Z Z (a1.src m) a3 λa4 a5 w a m a6 f=>Ac f Z λa f=>Aa (Aq (Ah f Z Z Ax λa f=>Ab f Z λa f=>Aa ?_)))))))))
    obtain rfl:=sj aR
    exact⟨_,Z,_,_,Z,_,a5,a4,aT,f.k Z,m,a6⟩
   ·refine Ai f Z aV (AK Z ?_)
    obtain rfl:=sj aR
    obtain rfl:=aS _ rfl
    exact⟨_,Z,_,aO,aP,aT,f.k Z,m,aU⟩
  ·rintro a w ⟨aG,rfl,aH,aI,aJ,a7,f,m,a8⟩
   refine Ae (Ab f Z λa f=>Ac f Z λa f=>Aa (Ar ?_))
   obtain rfl:=sj hd
   exact⟨[aI],f.g Z,f.d,_,[aJ],(gt aw (gt aC a7)),m,_,_,Z,Z,a8⟩
theorem Wk.N {x0:Int}(m:Mem W G w (H)){y:Bool}(hd:D.N x0=some y):
  Calls prog 107 #[iv x0] w (Res W G H (λ_ Ho v=>Ho=[]∧v=(.bool y))):=by
 refine Au (args:=[iv x0]) (N:=6) [.tmp 2] func107 Z Z (lb Z) Z λa f=> ?_
 unfold D.N at hd
 refine Ae (Ac f Z λa f=>Ay (Ab f Z λa f=>Ab f Z λa f=>Ah f Z Z Dc λa f=>Ac f Z λa f=>Aa (Ar ?_)))
 obtain rfl:=sj hd
 exact⟨[(.bool (x0 !=x0))],f.g Z,f.d,_,[],gr,m,Z,Z⟩
theorem Wk.Y0 {x0 x1:Int}(m:Mem W G w (H)){y:Int}(hd:D.Y0 x0 x1=some y):
  Calls prog 90 #[iv x0,iv x1] w (Res W G H (λ_ Ho v=>Ho=[]∧v=(iv y))):=by
 refine Au (args:=[iv x0,iv x1]) (N:=20) [.tmp 4] func90 Z Z (lb Z) Z λa f=> ?_
 unfold D.Y0 at hd
 refine Ae (Ac f Z λa f=>Ay (Ab f Z λa f=>Bd hd λaa ab hd=>Bj f Z call107 (Wk.N m ab) λac w ad m a f=>Ac f Z λa f=>Ay (Ab f Z λa f=>Bd hd λae af hd=>Bj f Z call107 (Wk.N m af) λag w ah m a f=>Ac f Z λa f=>Aa (Ag (Ae (Ab f Z λa f=>Aa ?_))))))
 rcases Af hd with⟨ai,hd⟩|⟨ai,hd⟩
 ·refine Al f Z ai (Ag (Ae (Ab f Z λa f=>Aa ?_)))
  rcases Af hd with⟨aj,hd⟩|⟨aj,hd⟩
  ·refine Al f Z aj (Ae (Ac f Z λa f=>Aa (Ar ?_)))
   obtain rfl:=sj hd
   exact⟨[iv 0],f.g Z,f.d,_,[],(gt ad ah),m,Z,Z⟩
  ·refine Ai f Z aj (Ap (Ae (Ac f Z λa f=>Aa (Ar ?_))))
   obtain rfl:=sj hd
   exact⟨[(iv (-1))],f.g Z,f.d,_,[],(gt ad ah),m,Z,Z⟩
 ·refine Ai f Z ai (Ap (Ag (Ae (Ab f Z λa f=>Aa ?_))))
  rcases Af hd with⟨ak,hd⟩|⟨ak,hd⟩
  ·refine Al f Z ak (Ae (Ac f Z λa f=>Aa (Ar ?_)))
   obtain rfl:=sj hd
   exact⟨[iv 1],f.g Z,f.d,_,[],(gt ad ah),m,Z,Z⟩
  ·refine Ai f Z ak (Ap (Ag (Ae (Ab f Z λa f=>Ab f Z λa f=>Ah f Z Z AV λa f=>Aa ?_))))
   rcases Af hd with⟨al,hd⟩|⟨al,hd⟩
   ·refine Al f Z al (Ae (Ac f Z λa f=>Aa (Ar ?_)))
    obtain rfl:=sj hd
    exact⟨[(iv (-1))],f.g Z,f.d,_,[],(gt ad ah),m,Z,Z⟩
   ·refine Ai f Z al (Ap (Ag (Ae (Ab f Z λa f=>Ab f Z λa f=>Ah f Z Z Ci λa f=>Aa ?_))))
    rcases Af hd with⟨am,hd⟩|⟨am,hd⟩
    ·refine Al f Z am (Ae (Ac f Z λa f=>Aa (Ar ?_)))
     obtain rfl:=sj hd
     exact⟨[iv 1],f.g Z,f.d,_,[],(gt ad ah),m,Z,Z⟩
    ·refine Ai f Z am (Ap (Ae (Ac f Z λa f=>Aa (Ar ?_))))
     obtain rfl:=sj hd
     exact⟨[iv 0],f.g Z,f.d,_,[],(gt ad ah),m,Z,Z⟩
theorem Wk.W0 {v0 v1:Value}{x0 x1:LI}(m:Mem W G w (H))(h0:R1 G v0 x0)(h1:R1 G v1 x1){y:Int}(hd:D.W0 x0 x1=some y):
  Calls prog 54 #[v0,v1] w (Res W G H (λ_ Ho v=>Ho=[]∧v=(iv y))):=by
 refine Au (args:=[v0,v1]) (N:=36) [.tmp 4] func54 Z Z (lb Z) Z λa f=> ?_
 unfold D.W0 at hd
 refine Ae (Ac f Z λa f=>Aa (Ag (Ae (Ab f Z λa f=>Bg underlying30 f Z Z h0 λa f=>Ab f Z λa f=>Aa (Bd hd λaa ab hd=> ?_)))))
 refine AL (λa w=>∃q_47':Unit,aa= .inl q_47'∧∃(ac:GH),GLe G ac∧Fr a 36 [(0,v0),(1,v1)]∧Mem W ac w (H)) ?_ ?_
 ·refine Ao (AM (λad a w=>∃ae:Int,ae=ad∧∃(af:GH),GLe G af∧Fr a 36 [(0,v0),(1,v1),(9,v0),(10,(iv (x0.length:Int))),(11,iv ae)]∧Mem W af w (H)) ab ⟨_,Z,_,gr,f.k Z,m⟩ ?_)
  clear ab f m
  rintro ad ag ah ai a w ⟨ae,rfl,af,aj,f,m⟩
  refine have h0:=rd1 aj h0;have h1:=rd1 aj h1;Ae (Ah f Z Z AV λa f=>Aa (Ag ?_))
  rcases Af ah with⟨ak,ah⟩|⟨ak,ah⟩
  ·refine Al f Z ak (Ap (Ag (Ao (Ae (Ab f Z λa f=>Bd ah λal am ah=>BI T30 f Z Z Z h0 am λan ao a ap aq f=> ?_)))))
   subst aq
   refine A3 m Pl2 f Z Z ap λa f=>Ac f Z λa f=>Ac f Z λa f=>Aa (Ag (Ae (Ab f Z λa f=>Ab f Z λa f=>Bg underlying30 f Z Z h1 λa f=>Ah f Z Z CC λa f=>Aa ?_)))
   rcases Af ah with⟨ar,ah⟩|⟨ar,ah⟩
   ·refine Al f Z ar (Ae (Ac f Z λa f=>Aa (Ar ?_)))
    obtain rfl:=sj ah
    obtain rfl:=ai _ rfl
    obtain rfl:=sj hd
    exact⟨[iv 1],f.g Z,f.d,_,[],aj,m,Z,Z⟩
   ·refine Ai f Z ar (Ap (Ae (Ab f Z λa f=>Ab f Z λa f=>Bd ah λau av ah=>BI T30 f Z Z Z h1 av λaw ax a ay az f=> ?_)))
    subst az
    refine A3 m Pl2 f Z Z ay λa f=>Ac f Z λa f=>Ay (Ab f Z λa f=>Ab f Z λa f=>Bd ah λaA aB ah=>Bj f Z call90 (Wk.Y0 m aB) λaC w aD m a f=>Ac f Z λa f=>Ay (Ab f Z λa f=>Ah f Z Z Dc λa f=>Aa ?_))
    rcases Af ah with⟨aE,ah⟩|⟨aE,ah⟩
    ·refine Al f Z aE (Ae (Ab f Z λa f=>Ac f Z λa f=>Aa (Ar ?_)))
     obtain rfl:=sj ah
     obtain rfl:=ai _ rfl
     obtain rfl:=sj hd
     exact⟨[iv aA],f.g Z,f.d,_,[],(gt aj aD),m,Z,Z⟩
    ·refine Ai f Z aE (Ap (Aq (Ah f Z Z Ax λa f=>Ab f Z λa f=>Aa ?_)))
     obtain rfl:=sj ah
     exact⟨_,Z,_,Z,_,(gt aj aD),f.k Z,m⟩
  ·refine Ai f Z ak (AK Z ?_)
   obtain rfl:=sj ah
   obtain rfl:=ai _ rfl
   exact⟨_,Z,_,aj,f.k Z,m⟩
 ·rintro a w ⟨_,rfl,ac,aF,f,m⟩
  refine have h0:=rd1 aF h0;have h1:=rd1 aF h1;Ag (Ae (Ab f Z λa f=>Bg underlying30 f Z Z h0 λa f=>Ab f Z λa f=>Bg underlying30 f Z Z h1 λa f=>Ah f Z Z AV λa f=>Aa ?_))
  rcases Af hd with⟨aG,hd⟩|⟨aG,hd⟩
  ·refine Al f Z aG (Ae (Ac f Z λa f=>Aa (Ar ?_)))
   obtain rfl:=sj hd
   exact⟨[(iv (-1))],f.g Z,f.d,_,[],aF,m,Z,Z⟩
  ·refine Ai f Z aG (Ap (Ae (Ac f Z λa f=>Aa (Ar ?_))))
   obtain rfl:=sj hd
   exact⟨[iv 0],f.g Z,f.d,_,[],aF,m,Z,Z⟩
theorem Wk.P0 {v0:Value}{b0:Nat}{x0:LI}(m:Mem W G w (ib b0 87 [v0]::H))(h0:R1 G v0 x0){y:(LI)}(hd:D.P0 x0=some y):
  Calls prog 115 #[Fw 117 #[(pb b0)]] w (Res W G H (λG' Ho v=>∃r0:Value,∃i0:Itm,Ho=[i0]∧r0=v∧Ow R0 3 G' i0 r0 y)):=by
 refine Au (args:=[Fw 117 #[(pb b0)]]) (N:=5) [.tmp 2] func115 Z Z (lb Z) Z λa f=> ?_
 unfold D.P0 at hd
 refine Ae (Ac f Z λa f=>Ay (Ab f Z λa f=>Bd hd λaa ab hd=>AI f Z call121 (Wk.Q1 m h0 ab) λac ad ae w af m ag a f=> ?_))
 obtain⟨ah,ai,rfl,rfl,aj⟩:=ag
 refine Ac f Z λa f=>Aa (Ar ?_)
 obtain rfl:=sj hd
 exact⟨[ah],f.g Z,f.d,_,[ai],af,m,_,_,Z,Z,aj⟩
theorem Wk.o {x0:Int}(m:Mem W G w (H)){y:Bool}(hd:D.o x0=some y):
  Calls prog 142 #[iv x0] w (Res W G H (λ_ Ho v=>Ho=[]∧v=(.bool y))):=by
 refine Au (args:=[iv x0]) (N:=6) [.tmp 2] func142 Z Z (lb Z) Z λa f=> ?_
 unfold D.o at hd
 refine Ae (Ac f Z λa f=>Ay (Ab f Z λa f=>Ab f Z λa f=>Ah f Z Z Dc λa f=>Ac f Z λa f=>Aa (Ar ?_)))
 obtain rfl:=sj hd
 exact⟨[(.bool (x0 !=x0))],f.g Z,f.d,_,[],gr,m,Z,Z⟩
theorem Wk.b {x0 x1:Int}(m:Mem W G w (H)){y:Bool}(hd:D.b x0 x1=some y):
  Calls prog 131 #[iv x0,iv x1] w (Res W G H (λ_ Ho v=>Ho=[]∧v=(.bool y))):=by
 refine Au (args:=[iv x0,iv x1]) (N:=17) [.tmp 4] func131 Z Z (lb Z) Z λa f=> ?_
 unfold D.b at hd
 refine Ae (Ac f Z λa f=>Ay (Ab f Z λa f=>Bd hd λaa ab hd=>Bj f Z call142 (Wk.o m ab) λac w ad m a f=>Ab f Z λa f=>Bd hd λae af hd=> ?_))
 refine BF 4 (λa w=>∃ag,GLe ac ag∧Mem W ag w (H)∧Fr a 17 [(0,iv x0),(1,iv x1),(5,iv x0),(6,(.bool aa)),(7,(.bool aa)),(11,(.bool ae))]) ?_ ?_
 ·rcases Af af with⟨ah,af⟩|⟨ah,af⟩
  ·refine AB f ah (Ab f Z λa f=>AB f ah (Bd af λai aj af=>Bj f Z call142 (Wk.o m aj) λak w al m a f=>AB f ah (l_o f (BN (f.e Z)) λa f=>l_o f (AY (f.e Z) ah (f.e Z)) λa f=> ?_)))
   obtain rfl:=sj af
   exact⟨_,al,m,f.k Z⟩
  ·refine AC f ah λa f=>AC f ah λa f=>AC f ah λa f=>l_o f (AX (f.e Z) ah (f.e Z)) λa f=> ?_
   obtain rfl:=sj af
   exact⟨_,gr,m,f.k Z⟩
 ·rintro a w ⟨ag,am,m,f⟩
  refine Ab f Z λa f=> ?_
  refine BF 4 (λa w=>∃an,GLe ag an∧Mem W an w (H)∧Fr a 17 [(0,iv x0),(1,iv x1),(5,iv x0),(6,(.bool aa)),(7,(.bool aa)),(11,(.bool ae)),(12,(.bool ae)),(16,(.bool (ae||(decide (x0<x1)))))]) ?_ ?_
  ·rcases Bool.eq_false_or_eq_true ae with ao|ao
   ·exact AC f ao λa f=>AC f ao λa f=>AC f ao λa f=>l_o f (AY (f.e Z) ao (f.e Z)) λa f=>⟨_,gr,m,f.weak ⟨Z,Z,Z,Z,Z,Z,Z,by rw[ao];rfl,trivial⟩⟩
   ·exact AB f ao (Ab f Z λa f=>AB f ao (Ab f Z λa f=>AB f ao (Ah f Z Z AV λa f=>l_o f (AX (f.e Z) ao (f.e Z)) λa f=>⟨_,gr,m,f.weak ⟨Z,Z,Z,Z,Z,Z,Z,by rw[ao];rfl,trivial⟩⟩)))
  ·rintro a w ⟨an,ap,m,f⟩
   refine Ac f Z λa f=>Aa (Ar ?_)
   obtain rfl:=sj hd
   exact⟨[(.bool (ae||(decide (x0<x1))))],f.g Z,f.d,_,[],(gt ad (gt am ap)),m,Z,Z⟩
theorem Wk.n0 {v0:Value}{it0:Itm}{x0:LI}{x1 x2:Int}(m:Mem W G w (it0::H))(o0:Ow R0 3 G it0 v0 x0){y:(LI)}(hd:D.n0 x0 x1 x2=some y):
  Calls prog 125 #[v0,iv x1,iv x2] w (Res W G H (λG' Ho _=>∃i0:Itm,Ho=[i0]∧Ow R0 3 G' i0 v0 y)):=by
 refine Au (args:=[v0,iv x1,iv x2]) (N:=49) [] func125 Z Z (lb Z) Z λa f=> ?_
 unfold D.n0 at hd
 refine Ae (Ab f Z λa f=>Ah f Z Z Ax λa f=>Ac f Z λa f=>Aa (Bd hd λaa ab hd=> ?_))
 refine AL (λa w=>∃ac:LI,ac=aa∧∃(ad:GH) (ae:Itm),GLe G ad∧Fr a 49 []∧Mem W ad w (ae::H)∧Ow R0 3 ad ae v0 ac) ?_ ?_
 ·refine Ao (AM (λaf a w=>∃ag:LI,∃ah:Int,(ag,ah)=af∧∃(ai:GH) (aj:Itm),GLe G ai∧Fr a 49 [(0,v0),(1,iv x1),(2,iv x2),(6,iv ah)]∧Mem W ai w (aj::H)∧Ow R0 3 ai aj v0 ag) ab ⟨_,_,Z,_,it0,gr,f.k Z,m,o0⟩ ?_)
  clear ab f m
  rintro af ak al am a w ⟨ag,ah,rfl,ai,aj,an,f,m,ao⟩
  refine Ag (Ae (Ab f Z λa f=>Ab f Z λa f=>Ah f Z Z AV λa f=>Aa ?_))
  rcases Af al with⟨ap,al⟩|⟨ap,al⟩
  ·refine Al f Z ap (Ap (Ag (Ao (Ae (Ab f Z λa f=>Ac f Z λa f=>Aa (Bd al λaq ar al=> ?_))))))
   refine AL (λa w=>∃au:LI,au=aq∧∃(av:GH) (aw:Itm),GLe ai av∧Fr a 49 [(0,v0),(1,iv x1),(2,iv x2),(6,iv ah)]∧Mem W av w (aw::H)∧Ow R0 3 av aw v0 au) ?_ ?_
   ·refine Ao (AM (λax a w=>∃ay:LI,∃az:Int,(ay,az)=ax∧∃(aA:GH) (aB:Itm),GLe ai aA∧Fr a 49 [(0,v0),(1,iv x1),(2,iv x2),(6,iv ah),(7,iv az)]∧Mem W aA w (aB::H)∧Ow R0 3 aA aB v0 ay) ar ⟨_,_,Z,_,aj,gr,f.k Z,m,ao⟩ ?_)
    clear ar f m
    rintro ax aC aD aE a w ⟨ay,az,rfl,aA,aB,aF,f,m,aG⟩
    refine Ag (Ag (A5 15 AF (by kernel_rfl) m (Aj 0 15 Z f Z λa f=>Aj 1 15 Z f Z λa f=>q_p 2 15 Z f (λ_=>A8 (f.e Z) (f.e Z) Ci) λa f=>Aj 3 15 Z f Z λa f=>Bd aD λaH aI aD=>CM (fuel':=0) (listed':= #[true,true,true,true,true,true,true,true,true,true,true,true,true,true,true]) (λa=>Fr a 49 [(0,v0),(1,iv x1),(2,iv x2),(6,iv ah),(7,iv az),(16,iv az),(17,iv x1),(18,(.bool (decide (x1<az)))),(19,(.bool (decide (x1<az)))),(30,(.bool aH))]) ?_ ?_)))
    ·intro a f
     refine AO λaJ w aK m=>have aG:=od1 aK aG;Aa ?_
     rcases Af aD with⟨aL,aD⟩|⟨aL,aD⟩
     ·refine Al f Z aL (Ap (Ag (Ao (Cw AF m (p_p 2 Z f (λ_=>BB (f.e Z)) λa f=>p_p 3 Z f (λ_=>BB (f.e Z)) λa f=>p_p 4 Z f (λ_=>A8 (f.e Z) (f.e Z) Be) λa f=>Cu 28015 12 (by kernel_rfl) Z (Aj 0 28015 Z f Z λa f=>Aj 1 28015 Z f Z λa f=>Aj 5 28015 Z f Z λa f=>Aj 6 28015 Z f Z λa f=>q_p 7 28015 Z f (λ_=>A8 (f.e Z) (f.e Z) Be) λa f=>Bd aD λaM aN aD=>A4 8 28015 0 m aG T87 aN Z f Z Z λaO a aP f=>Bk 9 28015 0 aG Pl3 aP aN Z f Z λaQ a aR f=> ?_))))))
      subst aR
      refine Aj 10 28015 Z f Z λa f=>Aj 11 28015 Z f Z λa f=>Bd aD λaS aT aD=>A4 12 28015 0 m aG T87 aT Z f Z Z λaU a aV f=>Bk 13 28015 0 aG Pl3 aV aT Z f Z λaW a aX f=> ?_
      subst aX
      refine Bd aD λaY aZ aD=>A4 14 28015 0 m aG T87 aZ Z f Z Z λa0 a a1 f=>AO λa2 w a3 m=>have aG:=od1 a3 aG;AR 0 m aG Z sizeOf3 f Z Z a1 aZ Z Z Z λa4 w m a5=>Bd aD λa6 a7 aD=>Bq 0 m a5 Z T87 f Z Z Z a7 λa8 a a9 f=>AR 0 m a5 Z sizeOf3 f Z Z a9 a7 Z Z Z λba w m bb=>Aa (Aq (Ab f Z λa f=>Ah f Z Z Be λa f=>Ac f Z λa f=>Aa ?_))
      obtain rfl:=sj aD
      exact⟨_,Z,_,_,Z,_,ba,(gt aF (gt aK a3)),f.k Z,m,bb⟩
     ·refine Ai f Z aL (AK Z ?_)
      obtain rfl:=sj aD
      obtain rfl:=aE _ rfl
      exact⟨_,Z,_,aB,(gt aF aK),f.k Z,m,aG⟩
    ·intro bc
     rcases Af aI with⟨bd,aI⟩|⟨bd,aI⟩
     ·refine Aj (hw:=wo f bd) 4 15 Z f Z λa f=>Aj (hw:=wo f bd) 5 15 Z f Z λa f=>Bd aI λbe bf aI=>A4 (hw:=wo f bd) 6 15 0 m aG T87 bf Z f Z Z λbg a bh f=>Bk (hw:=wo f bd) 7 15 0 aG Pl3 bh bf Z f Z λbi a bj f=> ?_
      subst bj
      refine Aj (hw:=wo f bd) 8 15 Z f Z λa f=>Aj (hw:=wo f bd) 9 15 Z f Z λa f=>q_p (hw:=wo f bd) 10 15 Z f (λ_=>A8 (f.e Z) (f.e Z) Be) λa f=>Bd aI λbk bl aI=>A4 (hw:=wo f bd) 11 15 0 m aG T87 bl Z f Z Z λbm a bn f=>Bk (hw:=wo f bd) 12 15 0 aG Pl3 bn bl Z f Z λbo a bp f=> ?_
      subst bp
      refine Bd aI λbq br aI=>BH (i:=13) 15 Z (by kernel_rfl) Z f (BD f Z Z Z bd) Z Z call131 (λ_ _ w bs m=>Wk.b m br) λa f=>q_p 14 15 Z f (λ_=>AY (f.e Z) bd (f.e Z)) λa f=> ?_
      obtain rfl:=sj aI
      exact bc _ (f.k Z)
     ·refine AD 4 15 Z f bd λa f=>AD 5 15 Z f bd λa f=>AD 6 15 Z f bd λa f=>AD 7 15 Z f bd λa f=>AD 8 15 Z f bd λa f=>AD 9 15 Z f bd λa f=>AD 10 15 Z f bd λa f=>AD 11 15 Z f bd λa f=>AD 12 15 Z f bd λa f=>AD 13 15 Z f bd λa f=>q_p 14 15 Z f (λ_=>AX (f.e Z) bd (f.e Z)) λa f=> ?_
      obtain rfl:=sj aI
      exact bc _ (f.k Z)
   ·rintro a w ⟨au,rfl,av,aw,bt,f,m,bu⟩
    refine Aq (Ab f Z λa f=>Ah f Z Z Ax λa f=>Ac f Z λa f=>Aa ?_)
    obtain rfl:=sj al
    exact⟨_,Z,_,_,Z,_,aw,(gt an bt),f.k Z,m,bu⟩
  ·refine Ai f Z ap (AK Z ?_)
   obtain rfl:=sj al
   obtain rfl:=am _ rfl
   exact⟨_,Z,_,aj,an,f.weak trivial,m,ao⟩
 ·rintro a w ⟨ac,rfl,ad,ae,bv,f,m,bw⟩
  obtain rfl:=sj hd
  exact⟨[],trivial,f.d,_,[ae],bv,m,_,Z,bw⟩
theorem Wk.U {v0:Value}{it0:Itm}{x0:LI}{x1 x2 x3:Int}(m:Mem W G w (it0::H))(o0:Ow R0 3 G it0 v0 x0){y:(LI)}(hd:D.U x0 x1 x2 x3=some y):
  Calls prog 137 #[v0,iv x1,iv x2,iv x3] w (Res W G H (λG' Ho _=>∃i0:Itm,Ho=[i0]∧Ow R0 3 G' i0 v0 y)):=by
 refine Au (args:=[v0,iv x1,iv x2,iv x3]) (N:=76) [] func137 Z Z (lb Z) Z λa f=> ?_
 unfold D.U at hd
 refine Ae (Ab f Z λa f=>Ac f Z λa f=>Aa (Bd hd λaa ab hd=> ?_))
 refine AL (λa w=>∃q_182':LI,aa= .inl q_182'∧∃ac:LI,ac=q_182'∧∃(ad:GH) (ae:Itm),GLe G ad∧Fr a 76 []∧Mem W ad w (ae::H)∧Ow R0 3 ad ae v0 ac) ?_ ?_
 ·refine Ao (AM (λaf a w=>∃ag:LI,∃ah:Int,(ag,ah)=af∧∃(ai:GH) (aj:Itm),GLe G ai∧Fr a 76 [(0,v0),(2,iv x2),(3,iv x3),(8,iv ah)]∧Mem W ai w (aj::H)∧Ow R0 3 ai aj v0 ag) ab ⟨_,_,Z,_,it0,gr,f.k Z,m,o0⟩ ?_)
  clear ab f m
  rintro af ak al am a w ⟨ag,ah,rfl,ai,aj,an,f,m,ao⟩
  refine Ao (Ae (Ab f Z λa f=>Ah f Z Z C4 λa f=>Ah f Z Z Ax λa f=>Ac f Z λa f=>Aa (Ag (Ae (Ab f Z λa f=>Ab f Z λa f=>Ah f Z Z CC λa f=>Aa ?_)))))
  rcases Af al with⟨ap,al⟩|⟨ap,al⟩
  ·refine Al f Z ap (AK Z ?_)
   obtain rfl:=sj al
   obtain rfl:=am _ rfl
   exact⟨_,Z,_,Z,_,aj,an,f.weak trivial,m,ao⟩
  ·refine Ai f Z ap (Ap (Ag (Ag (A5 20 AF (by kernel_rfl) m (Aj 0 20 Z f Z λa f=>q_p 1 20 Z f (λ_=>A8 (f.e Z) (f.e Z) Ax) λa f=>Aj 2 20 Z f Z λa f=>q_p 3 20 Z f (λ_=>A8 (f.e Z) (f.e Z) AV) λa f=>Aj 4 20 Z f Z λa f=>Bd al λaq ar al=>CM (fuel':=0) (listed':= #[true,true,true,true,true,true,true,true,true,true,true,true,true,true,true,true,true,true,true,true]) (λa=>Fr a 76 [(0,v0),(2,iv x2),(3,iv x3),(8,iv ah),(9,(iv (i64.wrap ((i64.wrap (2*ah))+1)))),(16,(.bool (decide (x2≤(i64.wrap ((i64.wrap (2*ah))+1)))))),(17,(iv (i64.wrap ((i64.wrap (2*ah))+1)))),(18,(iv (i64.wrap ((i64.wrap ((i64.wrap (2*ah))+1))+1)))),(19,iv x2),(20,(.bool (decide ((i64.wrap ((i64.wrap ((i64.wrap (2*ah))+1))+1))<x2)))),(21,(.bool (decide ((i64.wrap ((i64.wrap ((i64.wrap (2*ah))+1))+1))<x2)))),(36,(.bool aq))]) ?_ ?_)))))
   ·intro a f
    refine AO λau w av m=>have ao:=od1 av ao;Aa (Bd al λaw ax al=> ?_)
    refine AL (λa w=>∃ay:Int,ay=aw∧∃(az:GH),GLe au az∧Fr a 76 [(0,v0),(2,iv x2),(3,iv x3),(8,iv ah),(9,iv ay)]∧Mem W az w (aj::H)) ?_ ?_
    ·rcases Af ax with⟨aA,ax⟩|⟨aA,ax⟩
     ·refine Al f Z aA (Aq (Ab f Z λa f=>Ah f Z Z Ax λa f=>Ac f Z λa f=>Aa ?_))
      obtain rfl:=sj ax
      exact⟨_,Z,_,gr,f.k Z,m⟩
     ·refine Ai f Z aA (Ap ?_)
      obtain rfl:=sj ax
      exact⟨_,Z,_,gr,f.k Z,m⟩
    ·rintro a w ⟨ay,rfl,az,aB,f,m⟩
     refine have ao:=od1 aB ao;Ag (Ag (A5 14 AF (by kernel_rfl) m (Aj 0 14 Z f Z λa f=>Aj 1 14 Z f Z λa f=>Aj 2 14 Z f Z λa f=>q_p 3 14 Z f (λ_=>A8 (f.e Z) (f.e Z) Ax) λa f=>Bd al λaC aD al=>A4 4 14 0 m ao T87 aD Z f Z Z λaE a aF f=>Bk 5 14 0 ao Pl3 aF aD Z f Z λaG a aH f=> ?_)))
     subst aH
     refine Aj 6 14 Z f Z λa f=>Aj 7 14 Z f Z λa f=>Aj 8 14 Z f Z λa f=>q_p 9 14 Z f (λ_=>A8 (f.e Z) (f.e Z) Ax) λa f=>Bd al λaI aJ al=>A4 10 14 0 m ao T87 aJ Z f Z Z λaK a aL f=>Bk 11 14 0 ao Pl3 aL aJ Z f Z λaM a aN f=> ?_
     subst aN
     refine Bd al λaO aP al=>BH (i:=12) 14 Z (by kernel_rfl) Z f Z Z Z call131 (λ_ _ w aQ m=>Wk.b m aP) λa f=>q_p 13 14 Z f (λ_=>BN (f.e Z)) λa f=>AO λaR w aS m=>have ao:=od1 aS ao;Aa ?_
     rcases Af al with⟨aT,al⟩|⟨aT,al⟩
     ·refine Al f Z aT (Ar ?_)
      obtain rfl:=sj al
      obtain rfl:=am _ rfl
      obtain rfl:=sj hd
      exact⟨[],trivial,f.d,_,[aj],(gt an (gt av (gt aB aS))),m,_,Z,ao⟩
     ·refine Ai f Z aT (Ap (Ag (Cw AF m (p_p 4 Z f (λ_=>BB (f.e Z)) λa f=>p_p 5 Z f (λ_=>BB (f.e Z)) λa f=>p_p 6 Z f (λ_=>BB (f.e Z)) λa f=>p_p 7 Z f (λ_=>A8 (f.e Z) (f.e Z) Ax) λa f=>Cu 240021 17 (by kernel_rfl) Z (Aj 0 240021 Z f Z λa f=>Aj 1 240021 Z f Z λa f=>Aj 2 240021 Z f Z λa f=>q_p 3 240021 Z f (λ_=>A8 (f.e Z) (f.e Z) Ax) λa f=>Aj 8 240021 Z f Z λa f=>Aj 9 240021 Z f Z λa f=>Aj 10 240021 Z f Z λa f=>q_p 11 240021 Z f (λ_=>A8 (f.e Z) (f.e Z) Ax) λa f=>Bd al λaU aV al=>A4 12 240021 0 m ao T87 aV Z f Z Z λaW a aX f=>Bk 13 240021 0 ao Pl3 aX aV Z f Z λaY a aZ f=> ?_)))))
      subst aZ
      refine Aj 14 240021 Z f Z λa f=>Aj 15 240021 Z f Z λa f=>Aj 16 240021 Z f Z λa f=>q_p 17 240021 Z f (λ_=>A8 (f.e Z) (f.e Z) Ax) λa f=>Bd al λa0 a1 al=>A4 18 240021 0 m ao T87 a1 Z f Z Z λa2 a a3 f=>Bk 19 240021 0 ao Pl3 a3 a1 Z f Z λa4 a a5 f=> ?_
      subst a5
      refine Bd al λa6 a7 al=>A4 20 240021 0 m ao T87 a7 Z f Z Z λa8 a a9 f=>AO λba w bb m=>have ao:=od1 bb ao;AR 0 m ao Z sizeOf3 f Z Z a9 a7 Z Z Z λbc w m bd=>Bd al λbe bf al=>Bq 0 m bd Z T87 f Z Z Z bf λbg a bh f=>AR 0 m bd Z sizeOf3 f Z Z bh bf Z Z Z λbi w m bj=>Aa (Aq (Ab f Z λa f=>Ac f Z λa f=>Aa ?_))
      obtain rfl:=sj al
      exact⟨_,Z,_,_,Z,_,bi,(gt an (gt av (gt aB (gt aS bb)))),f.k Z,m,bj⟩
   ·intro bk
    rcases Af ar with⟨bl,ar⟩|⟨bl,ar⟩
    ·refine Aj (hw:=wo f bl) 5 20 Z f Z λa f=>Aj (hw:=wo f bl) 6 20 Z f Z λa f=>Aj (hw:=wo f bl) 7 20 Z f Z λa f=>q_p (hw:=wo f bl) 8 20 Z f (λ_=>A8 (f.e Z) (f.e Z) Ax) λa f=>Bd ar λbm bn ar=>A4 (hw:=wo f bl) 9 20 0 m ao T87 bn Z f Z Z λbo a bp f=>Bk (hw:=wo f bl) 10 20 0 ao Pl3 bp bn Z f Z λbq a br f=> ?_
     subst br
     refine Aj (hw:=wo f bl) 11 20 Z f Z λa f=>Aj (hw:=wo f bl) 12 20 Z f Z λa f=>Aj (hw:=wo f bl) 13 20 Z f Z λa f=>q_p (hw:=wo f bl) 14 20 Z f (λ_=>A8 (f.e Z) (f.e Z) Ax) λa f=>q_p (hw:=wo f bl) 15 20 Z f (λ_=>A8 (f.e Z) (f.e Z) Ax) λa f=>Bd ar λbs bt ar=>A4 (hw:=wo f bl) 16 20 0 m ao T87 bt Z f Z Z λbu a bv f=>Bk (hw:=wo f bl) 17 20 0 ao Pl3 bv bt Z f Z λbw a bx f=> ?_
     subst bx
     refine Bd ar λbz bA ar=>BH (i:=18) 20 Z (by kernel_rfl) Z f (BD f Z Z Z bl) Z Z call131 (λ_ _ w bB m=>Wk.b m bA) λa f=>q_p 19 20 Z f (λ_=>AY (f.e Z) bl (f.e Z)) λa f=> ?_
     obtain rfl:=sj ar
     exact bk _ (f.k Z)
    ·refine AD 5 20 Z f bl λa f=>AD 6 20 Z f bl λa f=>AD 7 20 Z f bl λa f=>AD 8 20 Z f bl λa f=>AD 9 20 Z f bl λa f=>AD 10 20 Z f bl λa f=>AD 11 20 Z f bl λa f=>AD 12 20 Z f bl λa f=>AD 13 20 Z f bl λa f=>AD 14 20 Z f bl λa f=>AD 15 20 Z f bl λa f=>AD 16 20 Z f bl λa f=>AD 17 20 Z f bl λa f=>AD 18 20 Z f bl λa f=>q_p 19 20 Z f (λ_=>AX (f.e Z) bl (f.e Z)) λa f=> ?_
     obtain rfl:=sj ar
     exact bk _ (f.k Z)
 ·rintro a w ⟨_,rfl,ac,rfl,ad,ae,bC,f,m,bD⟩
  obtain rfl:=sj hd
  exact⟨[],trivial,f.d,_,[ae],bC,m,_,Z,bD⟩
theorem Wk.i0 {v0:Value}{it0:Itm}{x0:LI}{x1 x2:Int}(m:Mem W G w (it0::H))(o0:Ow R0 3 G it0 v0 x0){y:(LI)}(hd:D.i0 x0 x1 x2=some y):
  Calls prog 126 #[v0,iv x1,iv x2] w (Res W G H (λG' Ho _=>∃i0:Itm,Ho=[i0]∧Ow R0 3 G' i0 v0 y)):=by
 refine Au (args:=[v0,iv x1,iv x2]) (N:=56) [] func126 Z Z (lb Z) Z λa f=> ?_
 unfold D.i0 at hd
 refine Ae (Ab f Z λa f=>Ac f Z λa f=>Ay (Ac f Z λa f=>Ay (Ab f Z λa f=>Ab f Z λa f=>Ah f Z Z Be λa f=>Ac f Z λa f=>Aa (Ag (Ae (Ab f Z λa f=>Ah f Z Z Be λa f=>Ah f Z Z (b_quo Z) λa f=>Ac f Z λa f=>Aa (Bd hd λaa ab hd=> ?_)))))))
 refine AL (λa w=>∃ac:LI,ac=aa∧∃(ad:GH) (ae:Itm),GLe G ad∧Fr a 56 [(0,v0),(6,iv x1),(7,iv 0),(8,(iv (i64.wrap (x2-x1))))]∧Mem W ad w (ae::H)∧Ow R0 3 ad ae v0 ac) ?_ ?_
 ·refine Ao (AM (λaf a w=>∃ag:LI,∃ah:Int,(ag,ah)=af∧∃(ai:GH) (aj:Itm),GLe G ai∧Fr a 56 [(0,v0),(6,iv x1),(7,iv 0),(8,(iv (i64.wrap (x2-x1)))),(9,iv ah)]∧Mem W ai w (aj::H)∧Ow R0 3 ai aj v0 ag) ab ⟨_,_,Z,_,it0,gr,f.k Z,m,o0⟩ ?_)
  clear ab f m
  rintro af ak al am a w ⟨ag,ah,rfl,ai,aj,an,f,m,ao⟩
  refine Ag (Ae (Ab f Z λa f=>Ah f Z Z CC λa f=>Aa ?_))
  rcases Af al with⟨ap,al⟩|⟨ap,al⟩
  ·refine Al f Z ap (Ap (Ag (Ao (Aq (Ab f Z λa f=>Ab f Z λa f=>Ab f Z λa f=>Ab f Z λa f=>Bd al λaq ar al=>AI f Z call137 (Wk.U m ao ar) λau av aw w ax m ay a f=> ?_)))))
   obtain⟨az,rfl,aA⟩:=ay
   refine Aa (Aq (Ab f Z λa f=>Ah f Z Z Be λa f=>Ac f Z λa f=>Aa ?_))
   obtain rfl:=sj al
   exact⟨_,Z,_,_,Z,_,az,(gt an ax),f.k Z,m,aA⟩
  ·refine Ai f Z ap (AK Z ?_)
   obtain rfl:=sj al
   obtain rfl:=am _ rfl
   exact⟨_,Z,_,aj,an,f.k Z,m,ao⟩
 ·rintro a w ⟨ac,rfl,ad,ae,aB,f,m,aC⟩
  refine Ae (Ab f Z λa f=>Ah f Z Z Be λa f=>Ac f Z λa f=>Aa (Bd hd λaD aE hd=> ?_))
  refine AL (λa w=>∃aF:LI,aF=aD∧∃(aG:GH) (aH:Itm),GLe ad aG∧Fr a 56 []∧Mem W aG w (aH::H)∧Ow R0 3 aG aH v0 aF) ?_ ?_
  ·refine Ao (AM (λaI a w=>∃aJ:LI,∃aK:Int,(aJ,aK)=aI∧∃(aL:GH) (aM:Itm),GLe ad aL∧Fr a 56 [(0,v0),(6,iv x1),(7,iv 0),(10,iv aK)]∧Mem W aL w (aM::H)∧Ow R0 3 aL aM v0 aJ) aE ⟨_,_,Z,_,ae,gr,f.k Z,m,aC⟩ ?_)
   clear aE f m
   rintro aI aN aO aP a w ⟨aJ,aK,rfl,aL,aM,aQ,f,m,aR⟩
   refine Ag (Ae (Ab f Z λa f=>Ah f Z Z CC λa f=>Aa ?_))
   rcases Af aO with⟨aS,aO⟩|⟨aS,aO⟩
   ·refine Al f Z aS (Ap (Ag (Ao (Ag (Cw AF m (p_p 2 Z f (λ_=>BB (f.e Z)) λa f=>p_p 3 Z f (λ_=>BB (f.e Z)) λa f=>p_p 4 Z f (λ_=>BB (f.e Z)) λa f=>p_p 5 Z f (λ_=>A8 (f.e Z) (f.e Z) Ax) λa f=>Cu 60017 13 (by kernel_rfl) Z (Aj 0 60017 Z f Z λa f=>Aj 1 60017 Z f Z λa f=>Aj 6 60017 Z f Z λa f=>Aj 7 60017 Z f Z λa f=>Aj 8 60017 Z f Z λa f=>q_p 9 60017 Z f (λ_=>A8 (f.e Z) (f.e Z) Ax) λa f=>Bd aO λaT aU aO=>A4 10 60017 0 m aR T87 aU Z f Z Z λaV a aW f=>Bk 11 60017 0 aR Pl3 aW aU Z f Z λaX a aY f=> ?_)))))))
    subst aY
    refine Aj 12 60017 Z f Z λa f=>Aj 13 60017 Z f Z λa f=>Bd aO λaZ a0 aO=>A4 14 60017 0 m aR T87 a0 Z f Z Z λa1 a a2 f=>Bk 15 60017 0 aR Pl3 a2 a0 Z f Z λa3 a a4 f=> ?_
    subst a4
    refine Bd aO λa5 a6 aO=>A4 16 60017 0 m aR T87 a6 Z f Z Z λa7 a a8 f=>AO λa9 w ba m=>have aR:=od1 ba aR;AR 0 m aR Z sizeOf3 f Z Z a8 a6 Z Z Z λbb w m bc=>Bd aO λbd be aO=>Bq 0 m bc Z T87 f Z Z Z be λbf a bg f=>AR 0 m bc Z sizeOf3 f Z Z bg be Z Z Z λbh w m bi=>Aa (Aq (Ab f Z λa f=>Ab f Z λa f=>Ab f Z λa f=>Ab f Z λa f=>Bd aO λbj bk aO=>AI f Z call137 (Wk.U m bi bk) λbl bm bn w bo m bp a f=> ?_))
    obtain⟨bq,rfl,br⟩:=bp
    refine Aa (Aq (Ab f Z λa f=>Ah f Z Z Be λa f=>Ac f Z λa f=>Aa ?_))
    obtain rfl:=sj aO
    exact⟨_,Z,_,_,Z,_,bq,(gt aQ (gt ba bo)),f.k Z,m,br⟩
   ·refine Ai f Z aS (AK Z ?_)
    obtain rfl:=sj aO
    obtain rfl:=aP _ rfl
    exact⟨_,Z,_,aM,aQ,f.weak trivial,m,aR⟩
  ·rintro a w ⟨aF,rfl,aG,aH,bs,f,m,bt⟩
   obtain rfl:=sj hd
   exact⟨[],trivial,f.d,_,[aH],(gt aB bs),m,_,Z,bt⟩
theorem Wk.H0 {x0:Int}(m:Mem W G w (H)){y:Int}(hd:D.H0 x0=some y):
  Calls prog 138 #[iv x0] w (Res W G H (λ_ Ho v=>Ho=[]∧v=(.int .u64 y))):=by
 refine Au (args:=[iv x0]) (N:=7) [.tmp 2] func138 Z Z (lb Z) Z λa f=> ?_
 unfold D.H0 at hd
 refine Ae (Ac f Z λa f=>Ay (Ab f Z λa f=>l_o f (C5 (f.e Z) ⟨_,underlying3⟩ underlying57) λa f=>Bd hd λaa ab hd=>AI f Z call123 (Wk.j0 m ab) λac ad ae w af m ag a f=> ?_))
 obtain⟨rfl,rfl⟩:=ag
 obtain⟨ah,hd⟩:=CO hd
 refine l_o f (r_shl (f.e Z) (f.e Z) ah) λa f=>Ac f Z λa f=>Aa (Ar ?_)
 obtain rfl:=sj hd
 exact⟨[(.int .u64 (ishl .u64 1 aa))],f.g Z,f.d,_,[],af,m,Z,Z⟩
theorem Wk.S0 {b0:Nat}{aa:Int}(m:Mem W G w (ib b0 158 [(.int .u64 aa)]::H)){y:Int×Int}(hd:D.S0 aa=some y):
  Calls prog 139 #[pb b0] w (Res W G H (λ_ Ho v=>Ho=[ib b0 158 [(.int .u64 y.2)]]∧v=(.int .u64 y.1))):=by
 refine Au (args:=[pb b0]) (N:=33) [.tmp 2] func139 Z Z (lb Z) Z λa f=> ?_
 unfold D.S0 at hd
 refine Ae (Ac f Z λa f=>Aa (Ag (A5 9 AF (by kernel_rfl) m (Aj 0 9 Z f Z λa f=>q_p 1 9 Z f (λ_=>AH (f.e Z)) λa f=>Bf 2 9 0 Pl158 Z Z Z f Z λa f=>Aj 3 9 Z f Z λa f=>q_p 4 9 Z f (λ_=>AH (f.e Z)) λa f=>Bf 5 9 0 Pl158 Z Z Z f Z λa f=>q_p 6 9 Z f (λ_=>r_shl (f.e Z) (f.e Z) (by decide)) λa f=>q_p 7 9 Z f (λ_=>A8 (f.e Z) (f.e Z) b_xor) λa f=>q_p 8 9 Z f (λ_=>AH (f.e Z)) λa f=>AO λab w ac m=>Am 0 0 (ds:=[(.int .u64 (Bt .u64 aa (ishl .u64 aa 13)))]) m sizeOf158 f Z Z Z (Ak Z As) Z (lb Z) Z λw m=>Aa (Ag (A5 9 AF (by kernel_rfl) m (Aj 0 9 Z f Z λa f=>q_p 1 9 Z f (λ_=>AH (f.e Z)) λa f=>Bf 2 9 0 Pl158 Z Z Z f Z λa f=>Aj 3 9 Z f Z λa f=>q_p 4 9 Z f (λ_=>AH (f.e Z)) λa f=>Bf 5 9 0 Pl158 Z Z Z f Z λa f=> ?_)))))))
 refine q_p 6 9 Z f (λ_=>Es (f.e Z) (f.e Z) (by decide)) λa f=>q_p 7 9 Z f (λ_=>A8 (f.e Z) (f.e Z) b_xor) λa f=>q_p 8 9 Z f (λ_=>AH (f.e Z)) λa f=>AO λad w ae m=>Am 0 0 (ds:=[(.int .u64 (Bt .u64 (Bt .u64 aa (ishl .u64 aa 13)) (BL .u64 (Bt .u64 aa (ishl .u64 aa 13)) 7)))]) m sizeOf158 f Z Z Z (Ak Z As) Z (lb Z) Z λw m=>Aa (Ag (A5 9 AF (by kernel_rfl) m (Aj 0 9 Z f Z λa f=>q_p 1 9 Z f (λ_=>AH (f.e Z)) λa f=>Bf 2 9 0 Pl158 Z Z Z f Z λa f=>Aj 3 9 Z f Z λa f=>q_p 4 9 Z f (λ_=>AH (f.e Z)) λa f=>Bf 5 9 0 Pl158 Z Z Z f Z λa f=>q_p 6 9 Z f (λ_=>r_shl (f.e Z) (f.e Z) (by decide)) λa f=>q_p 7 9 Z f (λ_=>A8 (f.e Z) (f.e Z) b_xor) λa f=>q_p 8 9 Z f (λ_=>AH (f.e Z)) λa f=>AO λaf w ag m=> ?_)))
 refine Am 0 0 (ds:=[(.int .u64 (Bt .u64 (Bt .u64 (Bt .u64 aa (ishl .u64 aa 13)) (BL .u64 (Bt .u64 aa (ishl .u64 aa 13)) 7)) (ishl .u64 (Bt .u64 (Bt .u64 aa (ishl .u64 aa 13)) (BL .u64 (Bt .u64 aa (ishl .u64 aa 13)) 7)) 17)))]) m sizeOf158 f Z Z Z (Ak Z As) Z (lb Z) Z λw m=>Ay (Ab f Z λa f=>l_o f (AH (f.e Z)) λa f=>AG 0 0 m Pl158 f Z Z Z Z λa f=>Ac f Z λa f=>Aa (Ar ?_))
 obtain rfl:=sj hd
 exact⟨[(.int .u64 (Bt .u64 (Bt .u64 (Bt .u64 aa (ishl .u64 aa 13)) (BL .u64 (Bt .u64 aa (ishl .u64 aa 13)) 7)) (ishl .u64 (Bt .u64 (Bt .u64 aa (ishl .u64 aa 13)) (BL .u64 (Bt .u64 aa (ishl .u64 aa 13)) 7)) 17)))],f.g Z,f.d,_,[ib b0 158 [(.int .u64 (Bt .u64 (Bt .u64 (Bt .u64 aa (ishl .u64 aa 13)) (BL .u64 (Bt .u64 aa (ishl .u64 aa 13)) 7)) (ishl .u64 (Bt .u64 (Bt .u64 aa (ishl .u64 aa 13)) (BL .u64 (Bt .u64 aa (ishl .u64 aa 13)) 7)) 17)))]],(gt ac (gt ae ag)),m,Z,Z⟩
theorem Wk.a0 {v0:Value}{it0:Itm}{x0:LI}{x1 x2:Int}(m:Mem W G w (it0::H))(o0:Ow R0 3 G it0 v0 x0){y:(LI)}(hd:D.a0 x0 x1 x2=some y):
  Calls prog 127 #[v0,iv x1,iv x2] w (Res W G H (λG' Ho _=>∃i0:Itm,Ho=[i0]∧Ow R0 3 G' i0 v0 y)):=by
 refine Au (args:=[v0,iv x1,iv x2]) (N:=65) [] func127 Z Z (lb Z) Z λa f=> ?_
 unfold D.a0 at hd
 refine Ae (Ab f Z λa f=>Ab f Z λa f=>Ah f Z Z Be λa f=>Ac f Z λa f=>Ay (Ab f Z λa f=>Ah f Z Z CC λa f=>Aa ?_))
 rcases Af hd with⟨aa,hd⟩|⟨aa,hd⟩
 ·refine Al f Z aa (Ae (Ab f Z λa f=>l_o f (C5 (f.e Z) ⟨_,underlying3⟩ underlying158) λa f=>AP (cs:=[(.int .u64 0)]) zeroValue158 m f Z Z λab w a m f=>Am 0 0 (ds:=[(.int .u64 (IntKind.u64.wrap (i64.wrap (x2-x1))))]) m sizeOf158 f Z Z Z (Ak Z As) Z (lb Z) Z λw m=>Ay (Ab f Z λa f=>Bd hd λac ad hd=>Bj f Z call138 (Wk.H0 m ad) λae w af m a f=>have o0:=od1 af o0;Ac f Z λa f=>Ay (Ab f Z λa f=>Ab f Z λa f=>Ah f Z Z (b_quo Z) λa f=>Ah f Z Z C4 λa f=>Ah f Z Z Ax λa f=>Ah f Z Z Be λa f=>Ac f Z λa f=>Aa (Bd hd λag ah hd=> ?_)))))
  refine AL (λa w=>∃ai:LI,ai=ag∧∃(aj:GH) (ak:Itm),GLe ae aj∧Fr a 65 []∧Mem W aj w (ak::H)∧Ow R0 3 aj ak v0 ai) ?_ ?_
  ·refine Ao (AM (λal a w=>∃am:LI,∃an:Int,∃ao:Int,(am,an,ao)=al∧∃(ap:GH) (aq:Itm),GLe ae ap∧Fr a 65 [(0,v0),(1,iv x1),(6,(iv (i64.wrap (x2-x1)))),(7,pb ab),(8,(.int .u64 ac)),(9,iv an)]∧Mem W ap w (ib ab 158 [(.int .u64 ao)]::aq::H)∧Ow R0 3 ap aq v0 am) ah ⟨_,_,_,Z,_,it0,gr,f.k Z,m,o0⟩ ?_)
   clear ah f m
   rintro al ar au av a w ⟨am,an,ao,rfl,ap,aq,aw,f,m,ax⟩
   refine Ag (Ae (Ab f Z λa f=>Ab f Z λa f=>Ab f Z λa f=>Ah f Z Z (b_quo Z) λa f=>Ah f Z Z C4 λa f=>Ah f Z Z Ax λa f=>Ah f Z Z Ax λa f=>Ah f Z Z CL λa f=>Aa ?_))
   rcases Af au with⟨ay,au⟩|⟨ay,au⟩
   ·refine Al f Z ay (Ap (Ag (Ao (Ae (Bd au λaz aA au=>AI f Z call139 (Wk.S0 m aA) λaB aC aD w aE m aF a f=> ?_)))))
    obtain⟨rfl,rfl⟩:=aF
    refine have ax:=od1 aE ax;Ab f Z λa f=>Ah f Z Z Be λa f=>Ah f Z Z CZ λa f=>l_o f (C5 (f.e Z) ⟨_,underlying57⟩ underlying3) λa f=>Ac f Z λa f=>Aa (Ag (Ae (Ab f Z λa f=>Ab f Z λa f=>Ah f Z Z CC λa f=>Aa (Bd au λaG aH au=> ?_))))
    refine AL (λa w=>∃aI:Int,aI=aG∧∃(aJ:GH),GLe aC aJ∧Fr a 65 [(0,v0),(1,iv x1),(6,(iv (i64.wrap (x2-x1)))),(7,pb ab),(8,(.int .u64 ac)),(9,iv an),(10,iv aI)]∧Mem W aJ w (ib ab 158 [(.int .u64 az.2)]::aq::H)) ?_ ?_
    ·rcases Af aH with⟨aK,aH⟩|⟨aK,aH⟩
     ·refine Al f Z aK (Aq (Ab f Z λa f=>Ab f Z λa f=>Ah f Z Z Be λa f=>Ac f Z λa f=>Aa ?_))
      obtain rfl:=sj aH
      exact⟨_,Z,_,gr,f.k Z,m⟩
     ·refine Ai f Z aK (Ap ?_)
      obtain rfl:=sj aH
      exact⟨_,Z,_,gr,f.k Z,m⟩
    ·rintro a w ⟨aI,rfl,aJ,aL,f,m⟩
     refine have ax:=od1 aL ax;Cw AF m (p_p 2 Z f (λ_=>BB (f.e Z)) λa f=>p_p 3 Z f (λ_=>BB (f.e Z)) λa f=>p_p 4 Z f (λ_=>BB (f.e Z)) λa f=>p_p 5 Z f (λ_=>A8 (f.e Z) (f.e Z) Ax) λa f=>Cu 60017 13 (by kernel_rfl) Z (Aj 0 60017 Z f Z λa f=>Aj 1 60017 Z f Z λa f=>Aj 6 60017 Z f Z λa f=>Aj 7 60017 Z f Z λa f=>Aj 8 60017 Z f Z λa f=>q_p 9 60017 Z f (λ_=>A8 (f.e Z) (f.e Z) Ax) λa f=>Bd au λaM aN au=>A4 10 60017 1 m ax T87 aN Z f Z Z λaO a aP f=>Bk 11 60017 1 ax Pl3 aP aN Z f Z λaQ a aR f=> ?_))
     subst aR
     refine Aj 12 60017 Z f Z λa f=>Aj 13 60017 Z f Z λa f=>Bd au λaS aT au=>A4 14 60017 1 m ax T87 aT Z f Z Z λaU a aV f=>Bk 15 60017 1 ax Pl3 aV aT Z f Z λaW a aX f=> ?_
     subst aX
     refine Bd au λaY aZ au=>A4 16 60017 1 m ax T87 aZ Z f Z Z λa0 a a1 f=>AO λa2 w a3 m=>have ax:=od1 a3 ax;AR 1 m ax Z sizeOf3 f Z Z a1 aZ Z Z Z λa4 w m a5=>Bd au λa6 a7 au=>Bq 1 m a5 Z T87 f Z Z Z a7 λa8 a a9 f=>AR 1 m a5 Z sizeOf3 f Z Z a9 a7 Z Z Z λba w m bb=>Aa (Aq (Ab f Z λa f=>Ah f Z Z Ax λa f=>Ac f Z λa f=>Aa ?_))
     obtain rfl:=sj au
     exact⟨_,Z,_,_,_,Z,_,ba,(gt aw (gt aE (gt aL a3))),f.k Z,m,bb⟩
   ·refine Ai f Z ay (AK Z (have m:=m.fr 1;have m:=m.eraseAt 1;?_))
    obtain rfl:=sj au
    obtain rfl:=av _ rfl
    exact⟨_,Z,_,aq,aw,f.weak trivial,m,ax⟩
  ·rintro a w ⟨ai,rfl,aj,ak,bc,f,m,bd⟩
   obtain rfl:=sj hd
   exact⟨[],trivial,f.d,_,[ak],(gt af bc),m,_,Z,bd⟩
 ·refine Ai f Z aa (Ap ?_)
  obtain rfl:=sj hd
  exact⟨[],trivial,f.d,_,[it0],gr,m,_,Z,o0⟩
theorem Wk.E {v0:Value}{it0:Itm}{b3:Nat}{x0:LI}{x1 x2 aa:Int}(m:Mem W G w (it0::ib b3 3 [iv aa]::H))(o0:Ow R0 3 G it0 v0 x0){y:Int×Int×(LI)×Int}(hd:D.E x0 x1 x2 aa=some y):
  Calls prog 143 #[v0,iv x1,iv x2,pb b3] w (Res W G H (λG' Ho v=>∃i0:Itm,Ho=[i0,ib b3 3 [iv y.2.2.2]]∧v= .tuple #[iv y.1,iv y.2.1]∧Ow R0 3 G' i0 v0 y.2.2.1)):=by
 refine Au (args:=[v0,iv x1,iv x2,pb b3]) (N:=28) [.tmp 8,.tmp 9] func143 Z Z (lb Z) Z λa f=> ?_
 unfold D.E at hd
 refine Ae (Ac f Z λa f=>Ac f Z λa f=>Aa (Ag (Ag (A5 9 AF (by kernel_rfl) m (Aj 0 9 Z f Z λa f=>Aj 1 9 Z f Z λa f=>Bd hd λab ac hd=>A4 2 9 0 m o0 T87 ac Z f Z Z λad a ae f=>Bk 3 9 0 o0 Pl3 ae ac Z f Z λaf a ag f=> ?_)))))
 subst ag
 refine Aj 4 9 Z f Z λa f=>Aj 5 9 Z f Z λa f=>Bd hd λah ai hd=>A4 6 9 0 m o0 T87 ai Z f Z Z λaj a ak f=>Bk 7 9 0 o0 Pl3 ak ai Z f Z λal a am f=> ?_
 subst am
 refine Bd hd λan ao hd=>BH (i:=8) 9 Z (by kernel_rfl) Z f Z Z Z call131 (λ_ _ w ap m=>Wk.b m ao) λa f=>AO λaq w ar m=>have o0:=od1 ar o0;Aa ?_
 rcases Af hd with⟨au,hd⟩|⟨au,hd⟩
 ·refine Al f Z au (Ae (Ab f Z λa f=>l_o f (AH (f.e Z)) λa f=>AG 1 0 m Pl3 f Z Z Z Z λa f=>Ah f Z Z Ax λa f=>l_o f (AH (f.e Z)) λa f=>Am 1 0 (ds:=[(iv (i64.wrap (aa+1)))]) m sizeOf3 f Z Z Z (Ak Z As) Z (lb Z) Z λw m=>Ay (Ab f Z λa f=>Ab f Z λa f=>Ac f Z λa f=>Ac f Z λa f=>Aa (Ar ?_))))
  obtain rfl:=sj hd
  exact⟨[iv x2,iv x1],⟨f.get _ _ Z,f.get _ _ Z,trivial⟩,f.d,_,[it0,ib b3 3 [(iv (i64.wrap (aa+1)))]],ar,m,_,Z,Z,o0⟩
 ·refine Ai f Z au (Ap (Ae (Ab f Z λa f=>Ab f Z λa f=>Ac f Z λa f=>Ac f Z λa f=>Aa (Ar ?_))))
  obtain rfl:=sj hd
  exact⟨[iv x1,iv x2],⟨f.get _ _ Z,f.get _ _ Z,trivial⟩,f.d,_,[it0,ib b3 3 [iv aa]],ar,m,_,Z,Z,o0⟩
theorem Wk.R {v0:Value}{it0:Itm}{b4:Nat}{x0:LI}{x1 x2 x3 aa:Int}(m:Mem W G w (it0::ib b4 3 [iv aa]::H))(o0:Ow R0 3 G it0 v0 x0){y:Int×(LI)×Int}(hd:D.R x0 x1 x2 x3 aa=some y):
  Calls prog 141 #[v0,iv x1,iv x2,iv x3,pb b4] w (Res W G H (λG' Ho v=>∃i0:Itm,Ho=[i0,ib b4 3 [iv y.2.2]]∧v=(iv y.1)∧Ow R0 3 G' i0 v0 y.2.1)):=by
 refine Au (args:=[v0,iv x1,iv x2,iv x3,pb b4]) (N:=36) [.tmp 10] func141 Z Z (lb Z) Z λa f=> ?_
 unfold D.R at hd
 refine Ae (Ac f Z λa f=>Ay (Ab f Z λa f=>Ab f Z λa f=>Ab f Z λa f=>Ab f Z λa f=>Bd hd λab ac hd=>AI f Z call143 (Wk.E m o0 ac) λad ae af w ag m ah a f=> ?_))
 obtain⟨ai,rfl,rfl,aj⟩:=ah
 refine Ab f Z λa f=>l_o f (AE (f.e Z) Z) λa f=>l_o f (AE (f.e Z) Z) λa f=>Ac f Z λa f=>Ac f Z λa f=>Ay (Ab f Z λa f=>Ab f Z λa f=>Ab f Z λa f=>Ab f Z λa f=>Bd hd λak al hd=>AI f Z call143 (Wk.E m aj al) λam an ao w ap m aq a f=> ?_)
 obtain⟨ar,rfl,rfl,au⟩:=aq
 refine Ab f Z λa f=>l_o f (AE (f.e Z) Z) λa f=>l_o f (AE (f.e Z) Z) λa f=>Ac f Z λa f=>Ac f Z λa f=>Ay (Ab f Z λa f=>Ab f Z λa f=>Ab f Z λa f=>Ab f Z λa f=>Bd hd λav aw hd=>AI f Z call143 (Wk.E m au aw) λax ay az w aA m aB a f=> ?_)
 obtain⟨aC,rfl,rfl,aD⟩:=aB
 refine Ab f Z λa f=>l_o f (AE (f.e Z) Z) λa f=>l_o f (AE (f.e Z) Z) λa f=>Ac f Z λa f=>Ac f Z λa f=>Ay (Ab f Z λa f=>Ac f Z λa f=>Aa (Ar ?_))
 obtain rfl:=sj hd
 exact⟨[iv av.2.1],f.g Z,f.d,_,[aC,ib b4 3 [iv av.2.2.2]],(gt ag (gt ap aA)),m,_,Z,Z,aD⟩
theorem Wk.I {v0:Value}{it0:Itm}{b2:Nat}{x0:LI}{x1 aa:Int}(m:Mem W G w (it0::ib b2 3 [iv aa]::H))(o0:Ow R0 3 G it0 v0 x0){y:Int×(LI)×Int}(hd:D.I x0 x1 aa=some y):
  Calls prog 140 #[v0,iv x1,pb b2] w (Res W G H (λG' Ho v=>∃i0:Itm,Ho=[i0,ib b2 3 [iv y.2.2]]∧v=(iv y.1)∧Ow R0 3 G' i0 v0 y.2.1)):=by
 refine Au (args:=[v0,iv x1,pb b2]) (N:=15) [.tmp 6] func140 Z Z (lb Z) Z λa f=> ?_
 unfold D.I at hd
 refine Ae (Ac f Z λa f=>Ay (Ab f Z λa f=>Ab f Z λa f=>Ah f Z Z Be λa f=>Ab f Z λa f=>Ab f Z λa f=>Ah f Z Z Ax λa f=>Ab f Z λa f=>Bd hd λab ac hd=>AI f Z call141 (Wk.R m o0 ac) λad ae af w ag m ah a f=> ?_))
 obtain⟨ai,rfl,rfl,aj⟩:=ah
 refine Ac f Z λa f=>Aa (Ar ?_)
 obtain rfl:=sj hd
 exact⟨[iv ab.1],f.g Z,f.d,_,[ai,ib b2 3 [iv ab.2.2]],ag,m,_,Z,Z,aj⟩
theorem Wk.r0 {v0:Value}{it0:Itm}{x0:LI}{x1 x2:Int}(m:Mem W G w (it0::H))(o0:Ow R0 3 G it0 v0 x0){y:Int×Int×(LI)}(hd:D.r0 x0 x1 x2=some y):
  Calls prog 128 #[v0,iv x1,iv x2] w (Res W G H (λG' Ho v=>∃i0:Itm,Ho=[i0]∧v= .tuple #[iv y.1,iv y.2.1]∧Ow R0 3 G' i0 v0 y.2.2)):=by
 refine Au (args:=[v0,iv x1,iv x2]) (N:=57) [.tmp 6,.tmp 7] func128 Z Z (lb Z) Z λa f=> ?_
 unfold D.r0 at hd
 refine Ae (Ac f Z λa f=>Ac f Z λa f=>Ay (Ab f Z λa f=>Ab f Z λa f=>Ah f Z Z Be λa f=>Ac f Z λa f=>Ay (AP (cs:=[iv 0]) zeroValue3 m f Z Z λaa w a m f=>Ay (Ab f Z λa f=>Ab f Z λa f=>Ah f Z Z (b_quo Z) λa f=>Ah f Z Z C4 λa f=>Ah f Z Z Ax λa f=>Ac f Z λa f=>Ay (Ab f Z λa f=>Ab f Z λa f=>Ah f Z Z (b_quo Z) λa f=>Ah f Z Z C4 λa f=>Ah f Z Z Ax λa f=>Ac f Z λa f=>Ay (Ab f Z λa f=>Ab f Z λa f=>Ah f Z Z (b_quo Z) λa f=>Ah f Z Z C4 λa f=>Ah f Z Z Ax λa f=>Ac f Z λa f=>Aa (Ag (Ae (Ab f Z λa f=>Ah f Z Z CC λa f=>Aa ?_)))))))))
 rcases Af hd with⟨ab,hd⟩|⟨ab,hd⟩
 ·refine Al f Z ab (Ag (Ae (Ab f Z λa f=>Ah f Z Z CC λa f=>Aa (Bd hd λac ad hd=> ?_))))
  refine AL (λa w=>∃ae:LI,∃af:Int,∃ag:Int,∃ah:Int,∃ai:Int,(ae,af,ag,ah,ai)=ac∧∃(aj:GH) (ak:Itm),GLe G aj∧Fr a 57 [(0,v0),(9,pb aa),(10,iv af),(11,iv ag),(12,iv ah)]∧Mem W aj w (ib aa 3 [iv ai]::ak::H)∧Ow R0 3 aj ak v0 ae) ?_ ?_
  ·rcases Af ad with⟨al,ad⟩|⟨al,ad⟩
   ·refine Al f Z al (Ae (Ab f Z λa f=>Ab f Z λa f=>have m:=m.fr 1;Bd ad λam an ad=>AI f Z call140 (Wk.I m o0 an) λao ap aq w ar m au a f=> ?_))
    obtain⟨av,rfl,rfl,aw⟩:=au
    refine Ac f Z λa f=>Ay (Ab f Z λa f=>Ab f Z λa f=>Bd ad λax ay ad=>AI f Z call140 (Wk.I m aw ay) λaz aA aB w aC m aD a f=> ?_)
    obtain⟨aE,rfl,rfl,aF⟩:=aD
    refine Ac f Z λa f=>Aa (Aq (Ab f Z λa f=>Ab f Z λa f=>Bd ad λaG aH ad=>AI f Z call140 (Wk.I m aF aH) λaI aJ aK w aL m aM a f=> ?_))
    obtain⟨aN,rfl,rfl,aO⟩:=aM
    refine Ac f Z λa f=>Aa (have m:=m.fr 1;?_)
    obtain rfl:=sj ad
    exact⟨_,_,_,_,_,Z,_,aN,(gt ar (gt aC aL)),f.k Z,m,aO⟩
   ·refine Ai f Z al (Ap ?_)
    obtain rfl:=sj ad
    exact⟨_,_,_,_,_,Z,_,it0,gr,f.k Z,m,o0⟩
  ·rintro a w ⟨ae,af,ag,ah,ai,rfl,aj,ak,aP,f,m,aQ⟩
   refine Aq (Ab f Z λa f=>Ab f Z λa f=>Ab f Z λa f=>Ab f Z λa f=>have m:=m.fr 1;Bd hd λaR aS hd=>AI f Z call141 (Wk.R m aQ aS) λaT aU aV w aW m aX a f=> ?_)
   obtain⟨aY,rfl,rfl,aZ⟩:=aX
   refine Ac f Z λa f=>Ay (AG 1 0 m Pl3 f Z Z Z Z λa f=>Aa (Ao (Ae (Ah f Z Z BA λa f=>Ac f Z λa f=>Aa ?_))))
   rcases Af hd with⟨a0,hd⟩|⟨a0,hd⟩
   ·refine Al f Z a0 (Ae (Ab f Z λa f=>Ac f Z λa f=>Ac f Z λa f=>Aa (Ar (have m:=m.eraseAt 1;?_))))
    obtain rfl:=sj hd
    exact⟨[iv aR.1,iv 1],⟨f.get _ _ Z,f.get _ _ Z,trivial⟩,f.d,_,[aY],(gt aP aW),m,_,Z,Z,aZ⟩
   ·refine Ai f Z a0 (Ae (Ah f Z Z BA λa f=>Ac f Z λa f=>Aa ?_))
    rcases Af hd with⟨a1,hd⟩|⟨a1,hd⟩
    ·refine Al f Z a1 (Ae (Ab f Z λa f=>Ac f Z λa f=>Ac f Z λa f=>Aa (Ar (have m:=m.eraseAt 1;?_))))
     obtain rfl:=sj hd
     exact⟨[iv aR.1,iv 2],⟨f.get _ _ Z,f.get _ _ Z,trivial⟩,f.d,_,[aY],(gt aP aW),m,_,Z,Z,aZ⟩
    ·refine Ai f Z a1 (Ae (Ab f Z λa f=>Ac f Z λa f=>Ac f Z λa f=>Aa (Ar (have m:=m.eraseAt 1;?_))))
     obtain rfl:=sj hd
     exact⟨[iv aR.1,iv 0],⟨f.get _ _ Z,f.get _ _ Z,trivial⟩,f.d,_,[aY],(gt aP aW),m,_,Z,Z,aZ⟩
 ·refine Ai f Z ab (Ap (Ae (AG 0 0 m Pl3 f Z Z Z Z λa f=>Aa (Ao (Ae (Ah f Z Z BA λa f=>Ac f Z λa f=>Aa ?_))))))
  rcases Af hd with⟨a2,hd⟩|⟨a2,hd⟩
  ·refine Al f Z a2 (Ae (Ab f Z λa f=>Ac f Z λa f=>Ac f Z λa f=>Aa (Ar (have m:=m.fr 1;have m:=m.eraseAt 1;?_))))
   obtain rfl:=sj hd
   exact⟨[(iv (i64.wrap (x1+(i64.wrap ((i64.wrap (Int.tdiv (i64.wrap (x2-x1)) 4))*2))))),iv 1],⟨f.get _ _ Z,f.get _ _ Z,trivial⟩,f.d,_,[it0],gr,m,_,Z,Z,o0⟩
  ·refine Ai f Z a2 (Ae (Ah f Z Z BA λa f=>Ac f Z λa f=>Aa ?_))
   rcases Af hd with⟨a3,hd⟩|⟨a3,hd⟩
   ·refine Al f Z a3 (Ae (Ab f Z λa f=>Ac f Z λa f=>Ac f Z λa f=>Aa (Ar (have m:=m.fr 1;have m:=m.eraseAt 1;?_))))
    obtain rfl:=sj hd
    exact⟨[(iv (i64.wrap (x1+(i64.wrap ((i64.wrap (Int.tdiv (i64.wrap (x2-x1)) 4))*2))))),iv 2],⟨f.get _ _ Z,f.get _ _ Z,trivial⟩,f.d,_,[it0],gr,m,_,Z,Z,o0⟩
   ·refine Ai f Z a3 (Ae (Ab f Z λa f=>Ac f Z λa f=>Ac f Z λa f=>Aa (Ar (have m:=m.fr 1;have m:=m.eraseAt 1;?_))))
    obtain rfl:=sj hd
    exact⟨[(iv (i64.wrap (x1+(i64.wrap ((i64.wrap (Int.tdiv (i64.wrap (x2-x1)) 4))*2))))),iv 0],⟨f.get _ _ Z,f.get _ _ Z,trivial⟩,f.d,_,[it0],gr,m,_,Z,Z,o0⟩
theorem Wk.l0 {v0:Value}{it0:Itm}{x0:LI}{x1 x2:Int}(m:Mem W G w (it0::H))(o0:Ow R0 3 G it0 v0 x0){y:(LI)}(hd:D.l0 x0 x1 x2=some y):
  Calls prog 129 #[v0,iv x1,iv x2] w (Res W G H (λG' Ho _=>∃i0:Itm,Ho=[i0]∧Ow R0 3 G' i0 v0 y)):=by
 refine Au (args:=[v0,iv x1,iv x2]) (N:=32) [] func129 Z Z (lb Z) Z λa f=> ?_
 unfold D.l0 at hd
 refine Ae (Ab f Z λa f=>Ac f Z λa f=>Ay (Ab f Z λa f=>Ah f Z Z Be λa f=>Ac f Z λa f=>Aa (Bd hd λaa ab hd=> ?_)))
 refine AL (λa w=>∃ac:LI,ac=aa∧∃(ad:GH) (ae:Itm),GLe G ad∧Fr a 32 []∧Mem W ad w (ae::H)∧Ow R0 3 ad ae v0 ac) ?_ ?_
 ·refine Ao (AM (λaf a w=>∃ag:LI,∃ah:Int,∃ai:Int,(ag,ah,ai)=af∧∃(aj:GH) (ak:Itm),GLe G aj∧Fr a 32 [(0,v0),(6,iv ah),(7,iv ai)]∧Mem W aj w (ak::H)∧Ow R0 3 aj ak v0 ag) ab ⟨_,_,_,Z,_,it0,gr,f.k Z,m,o0⟩ ?_)
  clear ab f m
  rintro af al am an a w ⟨ag,ah,ai,rfl,aj,ak,ao,f,m,ap⟩
  refine Ag (Ae (Ab f Z λa f=>Ab f Z λa f=>Ah f Z Z AV λa f=>Aa ?_))
  rcases Af am with⟨aq,am⟩|⟨aq,am⟩
  ·refine Al f Z aq (Ap (Ao (Ag (Cw AF m (p_p 2 Z f (λ_=>BB (f.e Z)) λa f=>p_p 3 Z f (λ_=>BB (f.e Z)) λa f=>Cu 12013 11 (by kernel_rfl) Z (Aj 0 12013 Z f Z λa f=>Aj 1 12013 Z f Z λa f=>Aj 4 12013 Z f Z λa f=>Aj 5 12013 Z f Z λa f=>Bd am λar au am=>A4 6 12013 0 m ap T87 au Z f Z Z λav a aw f=>Bk 7 12013 0 ap Pl3 aw au Z f Z λax a ay f=> ?_))))))
   subst ay
   refine Aj 8 12013 Z f Z λa f=>Aj 9 12013 Z f Z λa f=>Bd am λaz aA am=>A4 10 12013 0 m ap T87 aA Z f Z Z λaB a aC f=>Bk 11 12013 0 ap Pl3 aC aA Z f Z λaD a aE f=> ?_
   subst aE
   refine Bd am λaF aG am=>A4 12 12013 0 m ap T87 aG Z f Z Z λaH a aI f=>AO λaJ w aK m=>have ap:=od1 aK ap;AR 0 m ap Z sizeOf3 f Z Z aI aG Z Z Z λaL w m aM=>Bd am λaN aO am=>Bq 0 m aM Z T87 f Z Z Z aO λaP a aQ f=>AR 0 m aM Z sizeOf3 f Z Z aQ aO Z Z Z λaR w m aS=>Ay (Ab f Z λa f=>Ah f Z Z Ax λa f=>Ac f Z λa f=>Aa (Aq (Ab f Z λa f=>Ah f Z Z Be λa f=>Ac f Z λa f=>Aa ?_)))
   obtain rfl:=sj am
   exact⟨_,Z,_,_,_,Z,_,aR,(gt ao aK),f.k Z,m,aS⟩
  ·refine Ai f Z aq (AK Z ?_)
   obtain rfl:=sj am
   obtain rfl:=an _ rfl
   exact⟨_,Z,_,ak,ao,f.weak trivial,m,ap⟩
 ·rintro a w ⟨ac,rfl,ad,ae,aT,f,m,aU⟩
  obtain rfl:=sj hd
  exact⟨[],trivial,f.d,_,[ae],aT,m,_,Z,aU⟩
theorem Wk.e0 {v0:Value}{it0:Itm}{x0:LI}{x1 x2:Int}(m:Mem W G w (it0::H))(o0:Ow R0 3 G it0 v0 x0){y:Bool×(LI)}(hd:D.e0 x0 x1 x2=some y):
  Calls prog 130 #[v0,iv x1,iv x2] w (Res W G H (λG' Ho v=>∃i0:Itm,Ho=[i0]∧v=(.bool y.1)∧Ow R0 3 G' i0 v0 y.2)):=by
 refine Au (args:=[v0,iv x1,iv x2]) (N:=133) [.tmp 6] func130 Z Z (lb Z) Z λa f=> ?_
 unfold D.e0 at hd
 refine Ae (Ac f Z λa f=>Ay (Ab f Z λa f=>Ah f Z Z Ax λa f=>Ac f Z λa f=>Aa (Ag (Ae (Ac f Z λa f=>Aa (Bd hd λaa ab hd=> ?_))))))
 refine AL (λa w=>∃q_1621':LI,aa= .inl q_1621'∧∃ac:LI,ac=q_1621'∧∃(ad:GH) (ae:Itm),GLe G ad∧Fr a 133 []∧Mem W ad w (ae::H)∧Ow R0 3 ad ae v0 ac) ?_ ?_
 ·refine Ao (AM (λaf a w=>∃ag:LI,∃ah:Int,∃ai:Int,(ag,ah,ai)=af∧∃(aj:GH) (ak:Itm),GLe G aj∧Fr a 133 [(0,v0),(1,iv x1),(2,iv x2),(7,iv ah),(8,iv ai)]∧Mem W aj w (ak::H)∧Ow R0 3 aj ak v0 ag) ab ⟨_,_,_,Z,_,it0,gr,f.k Z,m,o0⟩ ?_)
  clear ab f m
  rintro af al am an a w ⟨ag,ah,ai,rfl,aj,ak,ao,f,m,ap⟩
  refine Ag (Ae (Ab f Z λa f=>Ah f Z Z AV λa f=>Aa ?_))
  rcases Af am with⟨aq,am⟩|⟨aq,am⟩
  ·refine Al f Z aq (Ap (Ag (Ao (Ag (Bd am λar au am=> ?_)))))
   refine AL (λa w=>∃av:Int,av=ar∧∃(aw:GH),GLe aj aw∧Fr a 133 [(0,v0),(1,iv x1),(2,iv x2),(7,iv av),(8,iv ai)]∧Mem W aw w (ak::H)) ?_ ?_
   ·refine Ao (AM (λax a w=>∃ay:Int,ay=ax∧∃(az:GH),GLe aj az∧Fr a 133 [(0,v0),(1,iv x1),(2,iv x2),(7,iv ay),(8,iv ai)]∧Mem W az w (ak::H)) au ⟨_,Z,_,gr,f.k Z,m⟩ ?_)
    clear au f m
    rintro ax aA aB aC a w ⟨ay,rfl,az,aD,f,m⟩
    refine have ap:=od1 aD ap;Ag (Ag (A5 16 AF (by kernel_rfl) m (Aj 0 16 Z f Z λa f=>Aj 1 16 Z f Z λa f=>q_p 2 16 Z f (λ_=>A8 (f.e Z) (f.e Z) AV) λa f=>Aj 3 16 Z f Z λa f=>Bd aB λaE aF aB=>CM (fuel':=0) (listed':= #[true,true,true,true,true,true,true,true,true,true,true,true,true,true,true,true]) (λa=>Fr a 133 [(0,v0),(1,iv x1),(2,iv x2),(7,iv ay),(8,iv ai),(17,iv ay),(18,iv x2),(19,(.bool (decide (ay<x2)))),(20,(.bool (decide (ay<x2)))),(32,(.bool aE))]) ?_ ?_)))
    ·intro a f
     refine AO λaG w aH m=>Aa ?_
     rcases Af aB with⟨aI,aB⟩|⟨aI,aB⟩
     ·refine Al f Z aI (Ap (Ao (Aq (Ab f Z λa f=>Ah f Z Z Ax λa f=>Ac f Z λa f=>Aa ?_))))
      obtain rfl:=sj aB
      exact⟨_,Z,_,Z,_,(gt aD aH),f.k Z,m⟩
     ·refine Ai f Z aI (AK Z ?_)
      obtain rfl:=sj aB
      obtain rfl:=aC _ rfl
      exact⟨_,Z,_,(gt aD aH),f.k Z,m⟩
    ·intro aJ
     rcases Af aF with⟨aK,aF⟩|⟨aK,aF⟩
     ·refine Aj (hw:=wo f aK) 4 16 Z f Z λa f=>Aj (hw:=wo f aK) 5 16 Z f Z λa f=>Bd aF λaL aM aF=>A4 (hw:=wo f aK) 6 16 0 m ap T87 aM Z f Z Z λaN a aO f=>Bk (hw:=wo f aK) 7 16 0 ap Pl3 aO aM Z f Z λaP a aQ f=> ?_
      subst aQ
      refine Aj (hw:=wo f aK) 8 16 Z f Z λa f=>Aj (hw:=wo f aK) 9 16 Z f Z λa f=>q_p (hw:=wo f aK) 10 16 Z f (λ_=>A8 (f.e Z) (f.e Z) Be) λa f=>Bd aF λaR aS aF=>A4 (hw:=wo f aK) 11 16 0 m ap T87 aS Z f Z Z λaT a aU f=>Bk (hw:=wo f aK) 12 16 0 ap Pl3 aU aS Z f Z λaV a aW f=> ?_
      subst aW
      refine Bd aF λaX aY aF=>BH (i:=13) 16 Z (by kernel_rfl) Z f (BD f Z Z Z aK) Z Z call131 (λ_ _ w aZ m=>Wk.b m aY) λa f=>q_p (hw:=wo f aK) 14 16 Z f (λ_=>BN (f.e Z)) λa f=>q_p 15 16 Z f (λ_=>AY (f.e Z) aK (f.e Z)) λa f=> ?_
      obtain rfl:=sj aF
      exact aJ _ (f.k Z)
     ·refine AD 4 16 Z f aK λa f=>AD 5 16 Z f aK λa f=>AD 6 16 Z f aK λa f=>AD 7 16 Z f aK λa f=>AD 8 16 Z f aK λa f=>AD 9 16 Z f aK λa f=>AD 10 16 Z f aK λa f=>AD 11 16 Z f aK λa f=>AD 12 16 Z f aK λa f=>AD 13 16 Z f aK λa f=>AD 14 16 Z f aK λa f=>q_p 15 16 Z f (λ_=>AX (f.e Z) aK (f.e Z)) λa f=> ?_
      obtain rfl:=sj aF
      exact aJ _ (f.k Z)
   ·rintro a w ⟨av,rfl,aw,a0,f,m⟩
    refine have ap:=od1 a0 ap;Ag (Ae (Ab f Z λa f=>Ab f Z λa f=>Ah f Z Z BA λa f=>Aa ?_))
    rcases Af am with⟨a1,am⟩|⟨a1,am⟩
    ·refine Al f Z a1 (Ae (Ac f Z λa f=>Aa (Ar ?_)))
     obtain rfl:=sj am
     obtain rfl:=an _ rfl
     obtain rfl:=sj hd
     exact⟨[(.bool true)],f.g Z,f.d,_,[ak],(gt ao a0),m,_,Z,Z,ap⟩
    ·refine Ai f Z a1 (Ap (Ag (Ae (Ab f Z λa f=>Ab f Z λa f=>Ah f Z Z Be λa f=>Ah f Z Z AV λa f=>Aa ?_))))
     rcases Af am with⟨a2,am⟩|⟨a2,am⟩
     ·refine Al f Z a2 (Ae (Ac f Z λa f=>Aa (Ar ?_)))
      obtain rfl:=sj am
      obtain rfl:=an _ rfl
      obtain rfl:=sj hd
      exact⟨[(.bool false)],f.g Z,f.d,_,[ak],(gt ao a0),m,_,Z,Z,ap⟩
     ·refine Ai f Z a2 (Ap (Ag (Cw AF m (p_p 2 Z f (λ_=>BB (f.e Z)) λa f=>p_p 3 Z f (λ_=>BB (f.e Z)) λa f=>p_p 4 Z f (λ_=>A8 (f.e Z) (f.e Z) Be) λa f=>Cu 28015 12 (by kernel_rfl) Z (Aj 0 28015 Z f Z λa f=>Aj 1 28015 Z f Z λa f=>Aj 5 28015 Z f Z λa f=>Aj 6 28015 Z f Z λa f=>q_p 7 28015 Z f (λ_=>A8 (f.e Z) (f.e Z) Be) λa f=>Bd am λa3 a4 am=>A4 8 28015 0 m ap T87 a4 Z f Z Z λa5 a a6 f=>Bk 9 28015 0 ap Pl3 a6 a4 Z f Z λa7 a a8 f=> ?_)))))
      subst a8
      refine Aj 10 28015 Z f Z λa f=>Aj 11 28015 Z f Z λa f=>Bd am λa9 ba am=>A4 12 28015 0 m ap T87 ba Z f Z Z λbb a bc f=>Bk 13 28015 0 ap Pl3 bc ba Z f Z λbd a be f=> ?_
      subst be
      refine Bd am λbf bg am=>A4 14 28015 0 m ap T87 bg Z f Z Z λbh a bi f=>AO λbj w bk m=>have ap:=od1 bk ap;AR 0 m ap Z sizeOf3 f Z Z bi bg Z Z Z λbl w m bm=>Bd am λbn bo am=>Bq 0 m bm Z T87 f Z Z Z bo λbp a bq f=>AR 0 m bm Z sizeOf3 f Z Z bq bo Z Z Z λbr w m bs=>Aa (Ag (Ae (Ab f Z λa f=>Ab f Z λa f=>Ah f Z Z Be λa f=>Ah f Z Z CC λa f=>Aa (Bd am λbt bu am=> ?_))))
      refine AL (λa w=>∃bv:LI,bv=bt∧∃(bw:GH) (bx:Itm),GLe bj bw∧Fr a 133 [(0,v0),(1,iv x1),(2,iv x2),(7,iv av),(8,iv ai)]∧Mem W bw w (bx::H)∧Ow R0 3 bw bx v0 bv) ?_ ?_
      ·rcases Af bu with⟨bz,bu⟩|⟨bz,bu⟩
       ·refine Al f Z bz (Ae (Ab f Z λa f=>Ah f Z Z Be λa f=>Ac f Z λa f=>Aa (Bd bu λbA bB bu=> ?_)))
        refine AL (λa w=>∃bC:LI,bC=bA∧∃(bD:GH) (bE:Itm),GLe bj bD∧Fr a 133 [(0,v0),(1,iv x1),(2,iv x2),(7,iv av),(8,iv ai)]∧Mem W bD w (bE::H)∧Ow R0 3 bD bE v0 bC) ?_ ?_
        ·refine Ao (AM (λbF a w=>∃bG:LI,∃bH:Int,(bG,bH)=bF∧∃(bI:GH) (bJ:Itm),GLe bj bI∧Fr a 133 [(0,v0),(1,iv x1),(2,iv x2),(7,iv av),(8,iv ai),(9,iv bH)]∧Mem W bI w (bJ::H)∧Ow R0 3 bI bJ v0 bG) bB ⟨_,_,Z,_,br,gr,f.k Z,m,bs⟩ ?_)
         clear bB f m
         rintro bF bK bL bM a w ⟨bG,bH,rfl,bI,bJ,bN,f,m,bO⟩
         refine Ag (Ae (Ab f Z λa f=>Ah f Z Z CC λa f=>Aa ?_))
         rcases Af bL with⟨bP,bL⟩|⟨bP,bL⟩
         ·refine Al f Z bP (Ap (Ag (Ao (Ag (Ag (A5 11 AF (by kernel_rfl) m (Aj 0 11 Z f Z λa f=>Aj 1 11 Z f Z λa f=>Bd bL λbQ bR bL=>A4 2 11 0 m bO T87 bR Z f Z Z λbS a bT f=>Bk 3 11 0 bO Pl3 bT bR Z f Z λbU a bV f=> ?_)))))))
          subst bV
          refine Aj 4 11 Z f Z λa f=>Aj 5 11 Z f Z λa f=>q_p 6 11 Z f (λ_=>A8 (f.e Z) (f.e Z) Be) λa f=>Bd bL λbW bX bL=>A4 7 11 0 m bO T87 bX Z f Z Z λbY a bZ f=>Bk 8 11 0 bO Pl3 bZ bX Z f Z λb0 a b1 f=> ?_
          subst b1
          refine Bd bL λb2 b3 bL=>BH (i:=9) 11 Z (by kernel_rfl) Z f Z Z Z call131 (λ_ _ w b4 m=>Wk.b m b3) λa f=>q_p 10 11 Z f (λ_=>BN (f.e Z)) λa f=>AO λb5 w b6 m=>have bO:=od1 b6 bO;Aa ?_
          rcases Af bL with⟨b7,bL⟩|⟨b7,bL⟩
          ·refine Al f Z b7 (AK Z ?_)
           obtain rfl:=sj bL
           obtain rfl:=bM _ rfl
           exact⟨_,Z,_,bJ,(gt bN b6),f.k Z,m,bO⟩
          ·refine Ai f Z b7 (Ap (Cw AF m (p_p 2 Z f (λ_=>BB (f.e Z)) λa f=>p_p 3 Z f (λ_=>BB (f.e Z)) λa f=>p_p 4 Z f (λ_=>A8 (f.e Z) (f.e Z) Be) λa f=>Cu 28015 12 (by kernel_rfl) Z (Aj 0 28015 Z f Z λa f=>Aj 1 28015 Z f Z λa f=>Aj 5 28015 Z f Z λa f=>Aj 6 28015 Z f Z λa f=>q_p 7 28015 Z f (λ_=>A8 (f.e Z) (f.e Z) Be) λa f=>Bd bL λb8 b9 bL=>A4 8 28015 0 m bO T87 b9 Z f Z Z λca a cb f=>Bk 9 28015 0 bO Pl3 cb b9 Z f Z λcc a cd f=> ?_))))
           subst cd
           refine Aj 10 28015 Z f Z λa f=>Aj 11 28015 Z f Z λa f=>Bd bL λce cf bL=>A4 12 28015 0 m bO T87 cf Z f Z Z λcg a ch f=>Bk 13 28015 0 bO Pl3 ch cf Z f Z λci a cj f=> ?_
           subst cj
           refine Bd bL λck cl bL=>A4 14 28015 0 m bO T87 cl Z f Z Z λcm a cn f=>AO λco w cp m=>have bO:=od1 cp bO;AR 0 m bO Z sizeOf3 f Z Z cn cl Z Z Z λcq w m cr=>Bd bL λcs ct bL=>Bq 0 m cr Z T87 f Z Z Z ct λcu a cv f=>AR 0 m cr Z sizeOf3 f Z Z cv ct Z Z Z λcw w m cx=>Aa (Aq (Ab f Z λa f=>Ah f Z Z Be λa f=>Ac f Z λa f=>Aa ?_))
           obtain rfl:=sj bL
           exact⟨_,Z,_,_,Z,_,cw,(gt bN (gt b6 cp)),f.k Z,m,cx⟩
         ·refine Ai f Z bP (AK Z ?_)
          obtain rfl:=sj bL
          obtain rfl:=bM _ rfl
          exact⟨_,Z,_,bJ,bN,f.k Z,m,bO⟩
        ·rintro a w ⟨bC,rfl,bD,bE,cy,f,m,cz⟩
         obtain rfl:=sj bu
         exact⟨_,Z,_,bE,cy,f.k Z,m,cz⟩
       ·refine Ai f Z bz (Ap ?_)
        obtain rfl:=sj bu
        exact⟨_,Z,_,br,gr,f.k Z,m,bs⟩
      ·rintro a w ⟨bv,rfl,bw,bx,cA,f,m,cB⟩
       refine Ae (Ab f Z λa f=>Ab f Z λa f=>Ah f Z Z Be λa f=>Ah f Z Z CC λa f=>Aa ?_)
       rcases Af am with⟨cC,am⟩|⟨cC,am⟩
       ·refine Al f Z cC (Ae (Ab f Z λa f=>Ah f Z Z Ax λa f=>Ac f Z λa f=>Aa (Bd am λcD cE am=> ?_)))
        refine AL (λa w=>∃cF:LI,cF=cD∧∃(cG:GH) (cH:Itm),GLe bw cG∧Fr a 133 [(0,v0),(1,iv x1),(2,iv x2),(7,iv av),(8,iv ai)]∧Mem W cG w (cH::H)∧Ow R0 3 cG cH v0 cF) ?_ ?_
        ·refine Ao (AM (λcI a w=>∃cJ:LI,∃cK:Int,(cJ,cK)=cI∧∃(cL:GH) (cM:Itm),GLe bw cL∧Fr a 133 [(0,v0),(1,iv x1),(2,iv x2),(7,iv av),(8,iv ai),(10,iv cK)]∧Mem W cL w (cM::H)∧Ow R0 3 cL cM v0 cJ) cE ⟨_,_,Z,_,bx,gr,f.k Z,m,cB⟩ ?_)
         clear cE f m
         rintro cI cN cO cP a w ⟨cJ,cK,rfl,cL,cM,cQ,f,m,cR⟩
         refine Ag (Ae (Ab f Z λa f=>Ab f Z λa f=>Ah f Z Z AV λa f=>Aa ?_))
         rcases Af cO with⟨cS,cO⟩|⟨cS,cO⟩
         ·refine Al f Z cS (Ap (Ag (Ao (Ag (Ag (A5 11 AF (by kernel_rfl) m (Aj 0 11 Z f Z λa f=>Aj 1 11 Z f Z λa f=>Bd cO λcT cU cO=>A4 2 11 0 m cR T87 cU Z f Z Z λcV a cW f=>Bk 3 11 0 cR Pl3 cW cU Z f Z λcX a cY f=> ?_)))))))
          subst cY
          refine Aj 4 11 Z f Z λa f=>Aj 5 11 Z f Z λa f=>q_p 6 11 Z f (λ_=>A8 (f.e Z) (f.e Z) Be) λa f=>Bd cO λcZ c0 cO=>A4 7 11 0 m cR T87 c0 Z f Z Z λc1 a c2 f=>Bk 8 11 0 cR Pl3 c2 c0 Z f Z λc3 a c4 f=> ?_
          subst c4
          refine Bd cO λc5 c6 cO=>BH (i:=9) 11 Z (by kernel_rfl) Z f Z Z Z call131 (λ_ _ w c7 m=>Wk.b m c6) λa f=>q_p 10 11 Z f (λ_=>BN (f.e Z)) λa f=>AO λc8 w c9 m=>have cR:=od1 c9 cR;Aa ?_
          rcases Af cO with⟨da,cO⟩|⟨da,cO⟩
          ·refine Al f Z da (AK Z ?_)
           obtain rfl:=sj cO
           obtain rfl:=cP _ rfl
           exact⟨_,Z,_,cM,(gt cQ c9),f.k Z,m,cR⟩
          ·refine Ai f Z da (Ap (Cw AF m (p_p 2 Z f (λ_=>BB (f.e Z)) λa f=>p_p 3 Z f (λ_=>BB (f.e Z)) λa f=>p_p 4 Z f (λ_=>A8 (f.e Z) (f.e Z) Be) λa f=>Cu 28015 12 (by kernel_rfl) Z (Aj 0 28015 Z f Z λa f=>Aj 1 28015 Z f Z λa f=>Aj 5 28015 Z f Z λa f=>Aj 6 28015 Z f Z λa f=>q_p 7 28015 Z f (λ_=>A8 (f.e Z) (f.e Z) Be) λa f=>Bd cO λdb dc cO=>A4 8 28015 0 m cR T87 dc Z f Z Z λdd a de f=>Bk 9 28015 0 cR Pl3 de dc Z f Z λdf a dg f=> ?_))))
           subst dg
           refine Aj 10 28015 Z f Z λa f=>Aj 11 28015 Z f Z λa f=>Bd cO λdh di cO=>A4 12 28015 0 m cR T87 di Z f Z Z λdj a dk f=>Bk 13 28015 0 cR Pl3 dk di Z f Z λdl a dm f=> ?_
           subst dm
           refine Bd cO λdn dp cO=>A4 14 28015 0 m cR T87 dp Z f Z Z λdq a dr f=>AO λds w dt m=>have cR:=od1 dt cR;AR 0 m cR Z sizeOf3 f Z Z dr dp Z Z Z λdu w m dv=>Bd cO λdw dx cO=>Bq 0 m dv Z T87 f Z Z Z dx λdy a dz f=>AR 0 m dv Z sizeOf3 f Z Z dz dx Z Z Z λdA w m dB=>Aa (Aq (Ab f Z λa f=>Ah f Z Z Ax λa f=>Ac f Z λa f=>Aa ?_))
           obtain rfl:=sj cO
           exact⟨_,Z,_,_,Z,_,dA,(gt cQ (gt c9 dt)),f.k Z,m,dB⟩
         ·refine Ai f Z cS (AK Z ?_)
          obtain rfl:=sj cO
          obtain rfl:=cP _ rfl
          exact⟨_,Z,_,cM,cQ,f.k Z,m,cR⟩
        ·rintro a w ⟨cF,rfl,cG,cH,dC,f,m,dD⟩
         refine Aq (Ab f Z λa f=>Ah f Z Z Ax λa f=>Ac f Z λa f=>Aa ?_)
         obtain rfl:=sj am
         exact⟨_,Z,_,_,_,Z,_,cH,(gt ao (gt a0 (gt bk (gt cA dC)))),f.k Z,m,dD⟩
       ·refine Ai f Z cC (Ap (Aq (Ab f Z λa f=>Ah f Z Z Ax λa f=>Ac f Z λa f=>Aa ?_)))
        obtain rfl:=sj am
        exact⟨_,Z,_,_,_,Z,_,bx,(gt ao (gt a0 (gt bk cA))),f.k Z,m,cB⟩
  ·refine Ai f Z aq (AK Z ?_)
   obtain rfl:=sj am
   obtain rfl:=an _ rfl
   exact⟨_,Z,_,Z,_,ak,ao,f.weak trivial,m,ap⟩
 ·rintro a w ⟨_,rfl,ac,rfl,ad,ae,dE,f,m,dF⟩
  refine Ae (Ac f Z λa f=>Aa (Ar ?_))
  obtain rfl:=sj hd
  exact⟨[(.bool false)],f.g Z,f.d,_,[ae],dE,m,_,Z,Z,dF⟩
theorem Wk.q0 {v0:Value}{it0:Itm}{x0:LI}{x1 x2 x3:Int}(m:Mem W G w (it0::H))(o0:Ow R0 3 G it0 v0 x0){y:Int×(LI)}(hd:D.q0 x0 x1 x2 x3=some y):
  Calls prog 132 #[v0,iv x1,iv x2,iv x3] w (Res W G H (λG' Ho v=>∃i0:Itm,Ho=[i0]∧v=(iv y.1)∧Ow R0 3 G' i0 v0 y.2)):=by
 refine Au (args:=[v0,iv x1,iv x2,iv x3]) (N:=84) [.tmp 8] func132 Z Z (lb Z) Z λa f=> ?_
 unfold D.q0 at hd
 refine Ae (Ac f Z λa f=>Aa (Ag (Cw AF m (p_p 2 Z f (λ_=>BB (f.e Z)) λa f=>p_p 3 Z f (λ_=>BB (f.e Z)) λa f=>Cu 12013 11 (by kernel_rfl) Z (Aj 0 12013 Z f Z λa f=>Aj 1 12013 Z f Z λa f=>Aj 4 12013 Z f Z λa f=>Aj 5 12013 Z f Z λa f=>Bd hd λaa ab hd=>A4 6 12013 0 m o0 T87 ab Z f Z Z λac a ad f=>Bk 7 12013 0 o0 Pl3 ad ab Z f Z λae a af f=> ?_)))))
 subst af
 refine Aj 8 12013 Z f Z λa f=>Aj 9 12013 Z f Z λa f=>Bd hd λag ah hd=>A4 10 12013 0 m o0 T87 ah Z f Z Z λai a aj f=>Bk 11 12013 0 o0 Pl3 aj ah Z f Z λak a al f=> ?_
 subst al
 refine Bd hd λam an hd=>A4 12 12013 0 m o0 T87 an Z f Z Z λao a ap f=>AO λaq w ar m=>have o0:=od1 ar o0;AR 0 m o0 Z sizeOf3 f Z Z ap an Z Z Z λau w m av=>Bd hd λaw ax hd=>Bq 0 m av Z T87 f Z Z Z ax λay a az f=>AR 0 m av Z sizeOf3 f Z Z az ax Z Z Z λaA w m aB=>Ay (Ab f Z λa f=>Ah f Z Z Ax λa f=>Ab f Z λa f=>Ah f Z Z Be λa f=>Ac f Z λa f=>Ac f Z λa f=>Aa (Ag (Bd hd λaC aD hd=> ?_)))
 refine AL (λa w=>∃aE:LI,∃aF:Int,(aE,aF)=aC∧∃(aG:GH) (aH:Itm),GLe aq aG∧Fr a 84 [(9,iv aF)]∧Mem W aG w (aH::H)∧Ow R0 3 aG aH v0 aE) ?_ ?_
 ·refine Ao (AM (λaI a w=>∃aJ:LI,∃aK:Int,∃aL:Int,(aJ,aK,aL)=aI∧∃(aM:GH) (aN:Itm),GLe aq aM∧Fr a 84 [(0,v0),(1,iv x1),(9,iv aK),(10,iv aL)]∧Mem W aM w (aN::H)∧Ow R0 3 aM aN v0 aJ) aD ⟨_,_,_,Z,_,aA,gr,f.k Z,m,aB⟩ ?_)
  clear aD f m
  rintro aI aO aP aQ a w ⟨aJ,aK,aL,rfl,aM,aN,aR,f,m,aS⟩
  refine Ao (Ag (Bd aP λaT aU aP=> ?_))
  refine AL (λa w=>∃aV:Int,aV=aT∧∃(aW:GH),GLe aM aW∧Fr a 84 [(0,v0),(1,iv x1),(9,iv aV),(10,iv aL)]∧Mem W aW w (aN::H)) ?_ ?_
  ·refine Ao (AM (λaX a w=>∃aY:Int,aY=aX∧∃(aZ:GH),GLe aM aZ∧Fr a 84 [(0,v0),(1,iv x1),(9,iv aY),(10,iv aL)]∧Mem W aZ w (aN::H)) aU ⟨_,Z,_,gr,f.k Z,m⟩ ?_)
   clear aU f m
   rintro aX a0 a1 a2 a w ⟨aY,rfl,aZ,a3,f,m⟩
   refine have aS:=od1 a3 aS;Ag (Ag (A5 15 AF (by kernel_rfl) m (Aj 0 15 Z f Z λa f=>Aj 1 15 Z f Z λa f=>q_p 2 15 Z f (λ_=>A8 (f.e Z) (f.e Z) CL) λa f=>Aj 3 15 Z f Z λa f=>Bd a1 λa4 a5 a1=>CM (fuel':=0) (listed':= #[true,true,true,true,true,true,true,true,true,true,true,true,true,true,true]) (λa=>Fr a 84 [(0,v0),(1,iv x1),(9,iv aY),(10,iv aL),(29,iv aY),(30,iv aL),(31,(.bool (decide (aY≤aL)))),(32,(.bool (decide (aY≤aL)))),(43,(.bool a4))]) ?_ ?_)))
   ·intro a f
    refine AO λa6 w a7 m=>Aa ?_
    rcases Af a1 with⟨a8,a1⟩|⟨a8,a1⟩
    ·refine Al f Z a8 (Ap (Ao (Aq (Ab f Z λa f=>Ah f Z Z Ax λa f=>Ac f Z λa f=>Aa ?_))))
     obtain rfl:=sj a1
     exact⟨_,Z,_,Z,_,(gt a3 a7),f.k Z,m⟩
    ·refine Ai f Z a8 (AK Z ?_)
     obtain rfl:=sj a1
     obtain rfl:=a2 _ rfl
     exact⟨_,Z,_,(gt a3 a7),f.k Z,m⟩
   ·intro a9
    rcases Af a5 with⟨ba,a5⟩|⟨ba,a5⟩
    ·refine Aj (hw:=wo f ba) 4 15 Z f Z λa f=>Aj (hw:=wo f ba) 5 15 Z f Z λa f=>Bd a5 λbb bc a5=>A4 (hw:=wo f ba) 6 15 0 m aS T87 bc Z f Z Z λbd a be f=>Bk (hw:=wo f ba) 7 15 0 aS Pl3 be bc Z f Z λbf a bg f=> ?_
     subst bg
     refine Aj (hw:=wo f ba) 8 15 Z f Z λa f=>Aj (hw:=wo f ba) 9 15 Z f Z λa f=>Bd a5 λbh bi a5=>A4 (hw:=wo f ba) 10 15 0 m aS T87 bi Z f Z Z λbj a bk f=>Bk (hw:=wo f ba) 11 15 0 aS Pl3 bk bi Z f Z λbl a bm f=> ?_
     subst bm
     refine Bd a5 λbn bo a5=>BH (i:=12) 15 Z (by kernel_rfl) Z f (BD f Z Z Z ba) Z Z call131 (λ_ _ w bp m=>Wk.b m bo) λa f=>q_p (hw:=wo f ba) 13 15 Z f (λ_=>BN (f.e Z)) λa f=>q_p 14 15 Z f (λ_=>AY (f.e Z) ba (f.e Z)) λa f=> ?_
     obtain rfl:=sj a5
     exact a9 _ (f.k Z)
    ·refine AD 4 15 Z f ba λa f=>AD 5 15 Z f ba λa f=>AD 6 15 Z f ba λa f=>AD 7 15 Z f ba λa f=>AD 8 15 Z f ba λa f=>AD 9 15 Z f ba λa f=>AD 10 15 Z f ba λa f=>AD 11 15 Z f ba λa f=>AD 12 15 Z f ba λa f=>AD 13 15 Z f ba λa f=>q_p 14 15 Z f (λ_=>AX (f.e Z) ba (f.e Z)) λa f=> ?_
     obtain rfl:=sj a5
     exact a9 _ (f.k Z)
  ·rintro a w ⟨aV,rfl,aW,bq,f,m⟩
   refine have aS:=od1 bq aS;Ag (Bd aP λbr bs aP=> ?_)
   refine AL (λa w=>∃bt:Int,bt=br∧∃(bu:GH),GLe aW bu∧Fr a 84 [(0,v0),(1,iv x1),(9,iv aV),(10,iv bt)]∧Mem W bu w (aN::H)) ?_ ?_
   ·refine Ao (AM (λbv a w=>∃bw:Int,bw=bv∧∃(bx:GH),GLe aW bx∧Fr a 84 [(0,v0),(1,iv x1),(9,iv aV),(10,iv bw)]∧Mem W bx w (aN::H)) bs ⟨_,Z,_,gr,f.k Z,m⟩ ?_)
    clear bs f m
    rintro bv bz bA bB a w ⟨bw,rfl,bx,bC,f,m⟩
    refine have aS:=od1 bC aS;Ag (Ag (A5 14 AF (by kernel_rfl) m (Aj 0 14 Z f Z λa f=>Aj 1 14 Z f Z λa f=>q_p 2 14 Z f (λ_=>A8 (f.e Z) (f.e Z) CL) λa f=>Aj 3 14 Z f Z λa f=>Bd bA λbD bE bA=>CM (fuel':=0) (listed':= #[true,true,true,true,true,true,true,true,true,true,true,true,true,true]) (λa=>Fr a 84 [(0,v0),(1,iv x1),(9,iv aV),(10,iv bw),(46,iv aV),(47,iv bw),(48,(.bool (decide (aV≤bw)))),(49,(.bool (decide (aV≤bw)))),(59,(.bool bD))]) ?_ ?_)))
    ·intro a f
     refine AO λbF w bG m=>Aa ?_
     rcases Af bA with⟨bH,bA⟩|⟨bH,bA⟩
     ·refine Al f Z bH (Ap (Ao (Aq (Ab f Z λa f=>Ah f Z Z Be λa f=>Ac f Z λa f=>Aa ?_))))
      obtain rfl:=sj bA
      exact⟨_,Z,_,Z,_,(gt bC bG),f.k Z,m⟩
     ·refine Ai f Z bH (AK Z ?_)
      obtain rfl:=sj bA
      obtain rfl:=bB _ rfl
      exact⟨_,Z,_,(gt bC bG),f.k Z,m⟩
    ·intro bI
     rcases Af bE with⟨bJ,bE⟩|⟨bJ,bE⟩
     ·refine Aj (hw:=wo f bJ) 4 14 Z f Z λa f=>Aj (hw:=wo f bJ) 5 14 Z f Z λa f=>Bd bE λbK bL bE=>A4 (hw:=wo f bJ) 6 14 0 m aS T87 bL Z f Z Z λbM a bN f=>Bk (hw:=wo f bJ) 7 14 0 aS Pl3 bN bL Z f Z λbO a bP f=> ?_
      subst bP
      refine Aj (hw:=wo f bJ) 8 14 Z f Z λa f=>Aj (hw:=wo f bJ) 9 14 Z f Z λa f=>Bd bE λbQ bR bE=>A4 (hw:=wo f bJ) 10 14 0 m aS T87 bR Z f Z Z λbS a bT f=>Bk (hw:=wo f bJ) 11 14 0 aS Pl3 bT bR Z f Z λbU a bV f=> ?_
      subst bV
      refine Bd bE λbW bX bE=>BH (i:=12) 14 Z (by kernel_rfl) Z f (BD f Z Z Z bJ) Z Z call131 (λ_ _ w bY m=>Wk.b m bX) λa f=>q_p 13 14 Z f (λ_=>AY (f.e Z) bJ (f.e Z)) λa f=> ?_
      obtain rfl:=sj bE
      exact bI _ (f.k Z)
     ·refine AD 4 14 Z f bJ λa f=>AD 5 14 Z f bJ λa f=>AD 6 14 Z f bJ λa f=>AD 7 14 Z f bJ λa f=>AD 8 14 Z f bJ λa f=>AD 9 14 Z f bJ λa f=>AD 10 14 Z f bJ λa f=>AD 11 14 Z f bJ λa f=>AD 12 14 Z f bJ λa f=>q_p 13 14 Z f (λ_=>AX (f.e Z) bJ (f.e Z)) λa f=> ?_
      obtain rfl:=sj bE
      exact bI _ (f.k Z)
   ·rintro a w ⟨bt,rfl,bu,bZ,f,m⟩
    refine have aS:=od1 bZ aS;Ag (Ae (Ab f Z λa f=>Ab f Z λa f=>Ah f Z Z Ci λa f=>Aa ?_))
    rcases Af aP with⟨b0,aP⟩|⟨b0,aP⟩
    ·refine Al f Z b0 (AK Z ?_)
     obtain rfl:=sj aP
     obtain rfl:=aQ _ rfl
     exact⟨_,_,Z,_,aN,(gt aR (gt bq bZ)),f.k Z,m,aS⟩
    ·refine Ai f Z b0 (Ap (Ag (Cw AF m (p_p 2 Z f (λ_=>BB (f.e Z)) λa f=>p_p 3 Z f (λ_=>BB (f.e Z)) λa f=>Cu 12013 11 (by kernel_rfl) Z (Aj 0 12013 Z f Z λa f=>Aj 1 12013 Z f Z λa f=>Aj 4 12013 Z f Z λa f=>Aj 5 12013 Z f Z λa f=>Bd aP λb1 b2 aP=>A4 6 12013 0 m aS T87 b2 Z f Z Z λb3 a b4 f=>Bk 7 12013 0 aS Pl3 b4 b2 Z f Z λb5 a b6 f=> ?_)))))
     subst b6
     refine Aj 8 12013 Z f Z λa f=>Aj 9 12013 Z f Z λa f=>Bd aP λb7 b8 aP=>A4 10 12013 0 m aS T87 b8 Z f Z Z λb9 a ca f=>Bk 11 12013 0 aS Pl3 ca b8 Z f Z λcb a cc f=> ?_
     subst cc
     refine Bd aP λcd ce aP=>A4 12 12013 0 m aS T87 ce Z f Z Z λcf a cg f=>AO λch w ci m=>have aS:=od1 ci aS;AR 0 m aS Z sizeOf3 f Z Z cg ce Z Z Z λcj w m ck=>Bd aP λcl cm aP=>Bq 0 m ck Z T87 f Z Z Z cm λcn a co f=>AR 0 m ck Z sizeOf3 f Z Z co cm Z Z Z λcp w m cq=>Ay (Ab f Z λa f=>Ah f Z Z Ax λa f=>Ac f Z λa f=>Aa (Aq (Ab f Z λa f=>Ah f Z Z Be λa f=>Ac f Z λa f=>Aa ?_)))
     obtain rfl:=sj aP
     exact⟨_,Z,_,_,_,Z,_,cp,(gt aR (gt bq (gt bZ ci))),f.k Z,m,cq⟩
 ·rintro a w ⟨aE,aF,rfl,aG,aH,cr,f,m,cs⟩
  refine Ae (Ab f Z λa f=>Ac f Z λa f=>Aa (Ar ?_))
  obtain rfl:=sj hd
  exact⟨[iv aF],f.g Z,f.d,_,[aH],(gt ar cr),m,_,Z,Z,cs⟩
theorem Wk.c0 {v0:Value}{it0:Itm}{x0:LI}{x1 x2 x3:Int}(m:Mem W G w (it0::H))(o0:Ow R0 3 G it0 v0 x0){y:Int×Bool×(LI)}(hd:D.c0 x0 x1 x2 x3=some y):
  Calls prog 133 #[v0,iv x1,iv x2,iv x3] w (Res W G H (λG' Ho v=>∃i0:Itm,Ho=[i0]∧v= .tuple #[iv y.1,(.bool y.2.1)]∧Ow R0 3 G' i0 v0 y.2.2)):=by
 refine Au (args:=[v0,iv x1,iv x2,iv x3]) (N:=168) [.tmp 8,.tmp 9] func133 Z Z (lb Z) Z λa f=> ?_
 unfold D.c0 at hd
 refine Ae (Ac f Z λa f=>Ac f Z λa f=>Aa (Ag (Cw AF m (p_p 2 Z f (λ_=>BB (f.e Z)) λa f=>p_p 3 Z f (λ_=>BB (f.e Z)) λa f=>Cu 12013 11 (by kernel_rfl) Z (Aj 0 12013 Z f Z λa f=>Aj 1 12013 Z f Z λa f=>Aj 4 12013 Z f Z λa f=>Aj 5 12013 Z f Z λa f=>Bd hd λaa ab hd=>A4 6 12013 0 m o0 T87 ab Z f Z Z λac a ad f=>Bk 7 12013 0 o0 Pl3 ad ab Z f Z λae a af f=> ?_)))))
 subst af
 refine Aj 8 12013 Z f Z λa f=>Aj 9 12013 Z f Z λa f=>Bd hd λag ah hd=>A4 10 12013 0 m o0 T87 ah Z f Z Z λai a aj f=>Bk 11 12013 0 o0 Pl3 aj ah Z f Z λak a al f=> ?_
 subst al
 refine Bd hd λam an hd=>A4 12 12013 0 m o0 T87 an Z f Z Z λao a ap f=>AO λaq w ar m=>have o0:=od1 ar o0;AR 0 m o0 Z sizeOf3 f Z Z ap an Z Z Z λau w m av=>Bd hd λaw ax hd=>Bq 0 m av Z T87 f Z Z Z ax λay a az f=>AR 0 m av Z sizeOf3 f Z Z az ax Z Z Z λaA w m aB=>Ay (Ab f Z λa f=>Ah f Z Z Ax λa f=>Ab f Z λa f=>Ah f Z Z Be λa f=>Ac f Z λa f=>Ac f Z λa f=>Aa (Ag (Bd hd λaC aD hd=> ?_)))
 refine AL (λa w=>∃aE:Int,aE=aC∧∃(aF:GH),GLe aq aF∧Fr a 168 [(0,v0),(1,iv x1),(10,iv aE),(11,(iv (i64.wrap (x2-1))))]∧Mem W aF w (aA::H)) ?_ ?_
 ·refine Ao (AM (λaG a w=>∃aH:Int,aH=aG∧∃(aI:GH),GLe aq aI∧Fr a 168 [(0,v0),(1,iv x1),(10,iv aH),(11,(iv (i64.wrap (x2-1))))]∧Mem W aI w (aA::H)) aD ⟨_,Z,_,gr,f.k Z,m⟩ ?_)
  clear aD f m
  rintro aG aJ aK aL a w ⟨aH,rfl,aI,aM,f,m⟩
  refine have aB:=od1 aM aB;Ag (Ag (A5 14 AF (by kernel_rfl) m (Aj 0 14 Z f Z λa f=>Aj 1 14 Z f Z λa f=>q_p 2 14 Z f (λ_=>A8 (f.e Z) (f.e Z) CL) λa f=>Aj 3 14 Z f Z λa f=>Bd aK λaN aO aK=>CM (fuel':=0) (listed':= #[true,true,true,true,true,true,true,true,true,true,true,true,true,true]) (λa=>Fr a 168 [(0,v0),(1,iv x1),(10,iv aH),(11,(iv (i64.wrap (x2-1)))),(30,iv aH),(31,(iv (i64.wrap (x2-1)))),(32,(.bool (decide (aH≤(i64.wrap (x2-1)))))),(33,(.bool (decide (aH≤(i64.wrap (x2-1)))))),(43,(.bool aN))]) ?_ ?_)))
  ·intro a f
   refine AO λaP w aQ m=>Aa ?_
   rcases Af aK with⟨aR,aK⟩|⟨aR,aK⟩
   ·refine Al f Z aR (Ap (Ao (Aq (Ab f Z λa f=>Ah f Z Z Ax λa f=>Ac f Z λa f=>Aa ?_))))
    obtain rfl:=sj aK
    exact⟨_,Z,_,Z,_,(gt aM aQ),f.k Z,m⟩
   ·refine Ai f Z aR (AK Z ?_)
    obtain rfl:=sj aK
    obtain rfl:=aL _ rfl
    exact⟨_,Z,_,(gt aM aQ),f.k Z,m⟩
  ·intro aS
   rcases Af aO with⟨aT,aO⟩|⟨aT,aO⟩
   ·refine Aj (hw:=wo f aT) 4 14 Z f Z λa f=>Aj (hw:=wo f aT) 5 14 Z f Z λa f=>Bd aO λaU aV aO=>A4 (hw:=wo f aT) 6 14 0 m aB T87 aV Z f Z Z λaW a aX f=>Bk (hw:=wo f aT) 7 14 0 aB Pl3 aX aV Z f Z λaY a aZ f=> ?_
    subst aZ
    refine Aj (hw:=wo f aT) 8 14 Z f Z λa f=>Aj (hw:=wo f aT) 9 14 Z f Z λa f=>Bd aO λa0 a1 aO=>A4 (hw:=wo f aT) 10 14 0 m aB T87 a1 Z f Z Z λa2 a a3 f=>Bk (hw:=wo f aT) 11 14 0 aB Pl3 a3 a1 Z f Z λa4 a a5 f=> ?_
    subst a5
    refine Bd aO λa6 a7 aO=>BH (i:=12) 14 Z (by kernel_rfl) Z f (BD f Z Z Z aT) Z Z call131 (λ_ _ w a8 m=>Wk.b m a7) λa f=>q_p 13 14 Z f (λ_=>AY (f.e Z) aT (f.e Z)) λa f=> ?_
    obtain rfl:=sj aO
    exact aS _ (f.k Z)
   ·refine AD 4 14 Z f aT λa f=>AD 5 14 Z f aT λa f=>AD 6 14 Z f aT λa f=>AD 7 14 Z f aT λa f=>AD 8 14 Z f aT λa f=>AD 9 14 Z f aT λa f=>AD 10 14 Z f aT λa f=>AD 11 14 Z f aT λa f=>AD 12 14 Z f aT λa f=>q_p 13 14 Z f (λ_=>AX (f.e Z) aT (f.e Z)) λa f=> ?_
    obtain rfl:=sj aO
    exact aS _ (f.k Z)
 ·rintro a w ⟨aE,rfl,aF,a9,f,m⟩
  refine have aB:=od1 a9 aB;Ag (Bd hd λba bb hd=> ?_)
  refine AL (λa w=>∃bc:Int,bc=ba∧∃(bd:GH),GLe aF bd∧Fr a 168 [(0,v0),(1,iv x1),(10,iv aE),(11,iv bc)]∧Mem W bd w (aA::H)) ?_ ?_
  ·refine Ao (AM (λbe a w=>∃bf:Int,bf=be∧∃(bg:GH),GLe aF bg∧Fr a 168 [(0,v0),(1,iv x1),(10,iv aE),(11,iv bf)]∧Mem W bg w (aA::H)) bb ⟨_,Z,_,gr,f.k Z,m⟩ ?_)
   clear bb f m
   rintro be bh bi bj a w ⟨bf,rfl,bg,bk,f,m⟩
   refine have aB:=od1 bk aB;Ag (Ag (A5 15 AF (by kernel_rfl) m (Aj 0 15 Z f Z λa f=>Aj 1 15 Z f Z λa f=>q_p 2 15 Z f (λ_=>A8 (f.e Z) (f.e Z) CL) λa f=>Aj 3 15 Z f Z λa f=>Bd bi λbl bm bi=>CM (fuel':=0) (listed':= #[true,true,true,true,true,true,true,true,true,true,true,true,true,true,true]) (λa=>Fr a 168 [(0,v0),(1,iv x1),(10,iv aE),(11,iv bf),(46,iv aE),(47,iv bf),(48,(.bool (decide (aE≤bf)))),(49,(.bool (decide (aE≤bf)))),(60,(.bool bl))]) ?_ ?_)))
   ·intro a f
    refine AO λbn w bo m=>Aa ?_
    rcases Af bi with⟨bp,bi⟩|⟨bp,bi⟩
    ·refine Al f Z bp (Ap (Ao (Aq (Ab f Z λa f=>Ah f Z Z Be λa f=>Ac f Z λa f=>Aa ?_))))
     obtain rfl:=sj bi
     exact⟨_,Z,_,Z,_,(gt bk bo),f.k Z,m⟩
    ·refine Ai f Z bp (AK Z ?_)
     obtain rfl:=sj bi
     obtain rfl:=bj _ rfl
     exact⟨_,Z,_,(gt bk bo),f.k Z,m⟩
   ·intro bq
    rcases Af bm with⟨br,bm⟩|⟨br,bm⟩
    ·refine Aj (hw:=wo f br) 4 15 Z f Z λa f=>Aj (hw:=wo f br) 5 15 Z f Z λa f=>Bd bm λbs bt bm=>A4 (hw:=wo f br) 6 15 0 m aB T87 bt Z f Z Z λbu a bv f=>Bk (hw:=wo f br) 7 15 0 aB Pl3 bv bt Z f Z λbw a bx f=> ?_
     subst bx
     refine Aj (hw:=wo f br) 8 15 Z f Z λa f=>Aj (hw:=wo f br) 9 15 Z f Z λa f=>Bd bm λbz bA bm=>A4 (hw:=wo f br) 10 15 0 m aB T87 bA Z f Z Z λbB a bC f=>Bk (hw:=wo f br) 11 15 0 aB Pl3 bC bA Z f Z λbD a bE f=> ?_
     subst bE
     refine Bd bm λbF bG bm=>BH (i:=12) 15 Z (by kernel_rfl) Z f (BD f Z Z Z br) Z Z call131 (λ_ _ w bH m=>Wk.b m bG) λa f=>q_p (hw:=wo f br) 13 15 Z f (λ_=>BN (f.e Z)) λa f=>q_p 14 15 Z f (λ_=>AY (f.e Z) br (f.e Z)) λa f=> ?_
     obtain rfl:=sj bm
     exact bq _ (f.k Z)
    ·refine AD 4 15 Z f br λa f=>AD 5 15 Z f br λa f=>AD 6 15 Z f br λa f=>AD 7 15 Z f br λa f=>AD 8 15 Z f br λa f=>AD 9 15 Z f br λa f=>AD 10 15 Z f br λa f=>AD 11 15 Z f br λa f=>AD 12 15 Z f br λa f=>AD 13 15 Z f br λa f=>q_p 14 15 Z f (λ_=>AX (f.e Z) br (f.e Z)) λa f=> ?_
     obtain rfl:=sj bm
     exact bq _ (f.k Z)
  ·rintro a w ⟨bc,rfl,bd,bI,f,m⟩
   refine have aB:=od1 bI aB;Ag (Ae (Ab f Z λa f=>Ab f Z λa f=>Ah f Z Z Ci λa f=>Aa ?_))
   rcases Af hd with⟨bJ,hd⟩|⟨bJ,hd⟩
   ·refine Al f Z bJ (Ag (Cw AF m (p_p 2 Z f (λ_=>BB (f.e Z)) λa f=>p_p 3 Z f (λ_=>BB (f.e Z)) λa f=>Cu 12013 11 (by kernel_rfl) Z (Aj 0 12013 Z f Z λa f=>Aj 1 12013 Z f Z λa f=>Aj 4 12013 Z f Z λa f=>Aj 5 12013 Z f Z λa f=>Bd hd λbK bL hd=>A4 6 12013 0 m aB T87 bL Z f Z Z λbM a bN f=>Bk 7 12013 0 aB Pl3 bN bL Z f Z λbO a bP f=> ?_))))
    subst bP
    refine Aj 8 12013 Z f Z λa f=>Aj 9 12013 Z f Z λa f=>Bd hd λbQ bR hd=>A4 10 12013 0 m aB T87 bR Z f Z Z λbS a bT f=>Bk 11 12013 0 aB Pl3 bT bR Z f Z λbU a bV f=> ?_
    subst bV
    refine Bd hd λbW bX hd=>A4 12 12013 0 m aB T87 bX Z f Z Z λbY a bZ f=>AO λb0 w b1 m=>have aB:=od1 b1 aB;AR 0 m aB Z sizeOf3 f Z Z bZ bX Z Z Z λb2 w m b3=>Bd hd λb4 b5 hd=>Bq 0 m b3 Z T87 f Z Z Z b5 λb6 a b7 f=>AR 0 m b3 Z sizeOf3 f Z Z b7 b5 Z Z Z λb8 w m b9=>Ay (Ab f Z λa f=>Ac f Z λa f=>Ac f Z λa f=>Aa (Ar ?_))
    obtain rfl:=sj hd
    exact⟨[iv bc,(.bool true)],⟨f.get _ _ Z,f.get _ _ Z,trivial⟩,f.d,_,[b8],(gt ar (gt a9 (gt bI b1))),m,_,Z,Z,b9⟩
   ·refine Ai f Z bJ (Ap (Ag (Cw AF m (p_p 2 Z f (λ_=>BB (f.e Z)) λa f=>p_p 3 Z f (λ_=>BB (f.e Z)) λa f=>Cu 12013 11 (by kernel_rfl) Z (Aj 0 12013 Z f Z λa f=>Aj 1 12013 Z f Z λa f=>Aj 4 12013 Z f Z λa f=>Aj 5 12013 Z f Z λa f=>Bd hd λca cb hd=>A4 6 12013 0 m aB T87 cb Z f Z Z λcc a cd f=>Bk 7 12013 0 aB Pl3 cd cb Z f Z λce a cf f=> ?_)))))
    subst cf
    refine Aj 8 12013 Z f Z λa f=>Aj 9 12013 Z f Z λa f=>Bd hd λcg ch hd=>A4 10 12013 0 m aB T87 ch Z f Z Z λci a cj f=>Bk 11 12013 0 aB Pl3 cj ch Z f Z λck a cl f=> ?_
    subst cl
    refine Bd hd λcm cn hd=>A4 12 12013 0 m aB T87 cn Z f Z Z λco a cp f=>AO λcq w cr m=>have aB:=od1 cr aB;AR 0 m aB Z sizeOf3 f Z Z cp cn Z Z Z λcs w m ct=>Bd hd λcu cv hd=>Bq 0 m ct Z T87 f Z Z Z cv λcw a cx f=>AR 0 m ct Z sizeOf3 f Z Z cx cv Z Z Z λcy w m cz=>Ay (Ab f Z λa f=>Ah f Z Z Ax λa f=>Ac f Z λa f=>Ay (Ab f Z λa f=>Ah f Z Z Be λa f=>Ac f Z λa f=>Aa (Ag (Bd hd λcA cB hd=> ?_))))
    refine AL (λa w=>∃cC:LI,∃cD:Int,(cC,cD)=cA∧∃(cE:GH) (cF:Itm),GLe cq cE∧Fr a 168 [(0,v0),(1,iv x1),(11,iv cD)]∧Mem W cE w (cF::H)∧Ow R0 3 cE cF v0 cC) ?_ ?_
    ·refine Ao (AM (λcG a w=>∃cH:LI,∃cI:Int,∃cJ:Int,(cH,cI,cJ)=cG∧∃(cK:GH) (cL:Itm),GLe cq cK∧Fr a 168 [(0,v0),(1,iv x1),(10,iv cI),(11,iv cJ)]∧Mem W cK w (cL::H)∧Ow R0 3 cK cL v0 cH) cB ⟨_,_,_,Z,_,cy,gr,f.k Z,m,cz⟩ ?_)
     clear cB f m
     rintro cG cM cN cO a w ⟨cH,cI,cJ,rfl,cK,cL,cP,f,m,cQ⟩
     refine Ao (Ag (Bd cN λcR cS cN=> ?_))
     refine AL (λa w=>∃cT:Int,cT=cR∧∃(cU:GH),GLe cK cU∧Fr a 168 [(0,v0),(1,iv x1),(10,iv cT),(11,iv cJ)]∧Mem W cU w (cL::H)) ?_ ?_
     ·refine Ao (AM (λcV a w=>∃cW:Int,cW=cV∧∃(cX:GH),GLe cK cX∧Fr a 168 [(0,v0),(1,iv x1),(10,iv cW),(11,iv cJ)]∧Mem W cX w (cL::H)) cS ⟨_,Z,_,gr,f.k Z,m⟩ ?_)
      clear cS f m
      rintro cV cY cZ c0 a w ⟨cW,rfl,cX,c1,f,m⟩
      refine have cQ:=od1 c1 cQ;Ag (Ag (A5 14 AF (by kernel_rfl) m (Aj 0 14 Z f Z λa f=>Aj 1 14 Z f Z λa f=>q_p 2 14 Z f (λ_=>A8 (f.e Z) (f.e Z) CL) λa f=>Aj 3 14 Z f Z λa f=>Bd cZ λc2 c3 cZ=>CM (fuel':=0) (listed':= #[true,true,true,true,true,true,true,true,true,true,true,true,true,true]) (λa=>Fr a 168 [(0,v0),(1,iv x1),(10,iv cW),(11,iv cJ),(99,iv cW),(100,iv cJ),(101,(.bool (decide (cW≤cJ)))),(102,(.bool (decide (cW≤cJ)))),(112,(.bool c2))]) ?_ ?_)))
      ·intro a f
       refine AO λc4 w c5 m=>Aa ?_
       rcases Af cZ with⟨c6,cZ⟩|⟨c6,cZ⟩
       ·refine Al f Z c6 (Ap (Ao (Aq (Ab f Z λa f=>Ah f Z Z Ax λa f=>Ac f Z λa f=>Aa ?_))))
        obtain rfl:=sj cZ
        exact⟨_,Z,_,Z,_,(gt c1 c5),f.k Z,m⟩
       ·refine Ai f Z c6 (AK Z ?_)
        obtain rfl:=sj cZ
        obtain rfl:=c0 _ rfl
        exact⟨_,Z,_,(gt c1 c5),f.k Z,m⟩
      ·intro c7
       rcases Af c3 with⟨c8,c3⟩|⟨c8,c3⟩
       ·refine Aj (hw:=wo f c8) 4 14 Z f Z λa f=>Aj (hw:=wo f c8) 5 14 Z f Z λa f=>Bd c3 λc9 da c3=>A4 (hw:=wo f c8) 6 14 0 m cQ T87 da Z f Z Z λdb a dc f=>Bk (hw:=wo f c8) 7 14 0 cQ Pl3 dc da Z f Z λdd a de f=> ?_
        subst de
        refine Aj (hw:=wo f c8) 8 14 Z f Z λa f=>Aj (hw:=wo f c8) 9 14 Z f Z λa f=>Bd c3 λdf dg c3=>A4 (hw:=wo f c8) 10 14 0 m cQ T87 dg Z f Z Z λdh a di f=>Bk (hw:=wo f c8) 11 14 0 cQ Pl3 di dg Z f Z λdj a dk f=> ?_
        subst dk
        refine Bd c3 λdl dm c3=>BH (i:=12) 14 Z (by kernel_rfl) Z f (BD f Z Z Z c8) Z Z call131 (λ_ _ w dn m=>Wk.b m dm) λa f=>q_p 13 14 Z f (λ_=>AY (f.e Z) c8 (f.e Z)) λa f=> ?_
        obtain rfl:=sj c3
        exact c7 _ (f.k Z)
       ·refine AD 4 14 Z f c8 λa f=>AD 5 14 Z f c8 λa f=>AD 6 14 Z f c8 λa f=>AD 7 14 Z f c8 λa f=>AD 8 14 Z f c8 λa f=>AD 9 14 Z f c8 λa f=>AD 10 14 Z f c8 λa f=>AD 11 14 Z f c8 λa f=>AD 12 14 Z f c8 λa f=>q_p 13 14 Z f (λ_=>AX (f.e Z) c8 (f.e Z)) λa f=> ?_
        obtain rfl:=sj c3
        exact c7 _ (f.k Z)
     ·rintro a w ⟨cT,rfl,cU,dp,f,m⟩
      refine have cQ:=od1 dp cQ;Ag (Bd cN λdq dr cN=> ?_)
      refine AL (λa w=>∃ds:Int,ds=dq∧∃(dt:GH),GLe cU dt∧Fr a 168 [(0,v0),(1,iv x1),(10,iv cT),(11,iv ds)]∧Mem W dt w (cL::H)) ?_ ?_
      ·refine Ao (AM (λdu a w=>∃dv:Int,dv=du∧∃(dw:GH),GLe cU dw∧Fr a 168 [(0,v0),(1,iv x1),(10,iv cT),(11,iv dv)]∧Mem W dw w (cL::H)) dr ⟨_,Z,_,gr,f.k Z,m⟩ ?_)
       clear dr f m
       rintro du dx dy dz a w ⟨dv,rfl,dw,dA,f,m⟩
       refine have cQ:=od1 dA cQ;Ag (Ag (A5 15 AF (by kernel_rfl) m (Aj 0 15 Z f Z λa f=>Aj 1 15 Z f Z λa f=>q_p 2 15 Z f (λ_=>A8 (f.e Z) (f.e Z) CL) λa f=>Aj 3 15 Z f Z λa f=>Bd dy λdB dC dy=>CM (fuel':=0) (listed':= #[true,true,true,true,true,true,true,true,true,true,true,true,true,true,true]) (λa=>Fr a 168 [(0,v0),(1,iv x1),(10,iv cT),(11,iv dv),(115,iv cT),(116,iv dv),(117,(.bool (decide (cT≤dv)))),(118,(.bool (decide (cT≤dv)))),(129,(.bool dB))]) ?_ ?_)))
       ·intro a f
        refine AO λdD w dE m=>Aa ?_
        rcases Af dy with⟨dF,dy⟩|⟨dF,dy⟩
        ·refine Al f Z dF (Ap (Ao (Aq (Ab f Z λa f=>Ah f Z Z Be λa f=>Ac f Z λa f=>Aa ?_))))
         obtain rfl:=sj dy
         exact⟨_,Z,_,Z,_,(gt dA dE),f.k Z,m⟩
        ·refine Ai f Z dF (AK Z ?_)
         obtain rfl:=sj dy
         obtain rfl:=dz _ rfl
         exact⟨_,Z,_,(gt dA dE),f.k Z,m⟩
       ·intro dG
        rcases Af dC with⟨dH,dC⟩|⟨dH,dC⟩
        ·refine Aj (hw:=wo f dH) 4 15 Z f Z λa f=>Aj (hw:=wo f dH) 5 15 Z f Z λa f=>Bd dC λdI dJ dC=>A4 (hw:=wo f dH) 6 15 0 m cQ T87 dJ Z f Z Z λdK a dL f=>Bk (hw:=wo f dH) 7 15 0 cQ Pl3 dL dJ Z f Z λdM a dN f=> ?_
         subst dN
         refine Aj (hw:=wo f dH) 8 15 Z f Z λa f=>Aj (hw:=wo f dH) 9 15 Z f Z λa f=>Bd dC λdO dP dC=>A4 (hw:=wo f dH) 10 15 0 m cQ T87 dP Z f Z Z λdQ a dR f=>Bk (hw:=wo f dH) 11 15 0 cQ Pl3 dR dP Z f Z λdS a dT f=> ?_
         subst dT
         refine Bd dC λdU dV dC=>BH (i:=12) 15 Z (by kernel_rfl) Z f (BD f Z Z Z dH) Z Z call131 (λ_ _ w dW m=>Wk.b m dV) λa f=>q_p (hw:=wo f dH) 13 15 Z f (λ_=>BN (f.e Z)) λa f=>q_p 14 15 Z f (λ_=>AY (f.e Z) dH (f.e Z)) λa f=> ?_
         obtain rfl:=sj dC
         exact dG _ (f.k Z)
        ·refine AD 4 15 Z f dH λa f=>AD 5 15 Z f dH λa f=>AD 6 15 Z f dH λa f=>AD 7 15 Z f dH λa f=>AD 8 15 Z f dH λa f=>AD 9 15 Z f dH λa f=>AD 10 15 Z f dH λa f=>AD 11 15 Z f dH λa f=>AD 12 15 Z f dH λa f=>AD 13 15 Z f dH λa f=>q_p 14 15 Z f (λ_=>AX (f.e Z) dH (f.e Z)) λa f=> ?_
         obtain rfl:=sj dC
         exact dG _ (f.k Z)
      ·rintro a w ⟨ds,rfl,dt,dX,f,m⟩
       refine have cQ:=od1 dX cQ;Ag (Ae (Ab f Z λa f=>Ab f Z λa f=>Ah f Z Z Ci λa f=>Aa ?_))
       rcases Af cN with⟨dY,cN⟩|⟨dY,cN⟩
       ·refine Al f Z dY (AK Z ?_)
        obtain rfl:=sj cN
        obtain rfl:=cO _ rfl
        exact⟨_,_,Z,_,cL,(gt cP (gt dp dX)),f.k Z,m,cQ⟩
       ·refine Ai f Z dY (Ap (Ag (Cw AF m (p_p 2 Z f (λ_=>BB (f.e Z)) λa f=>p_p 3 Z f (λ_=>BB (f.e Z)) λa f=>Cu 12013 11 (by kernel_rfl) Z (Aj 0 12013 Z f Z λa f=>Aj 1 12013 Z f Z λa f=>Aj 4 12013 Z f Z λa f=>Aj 5 12013 Z f Z λa f=>Bd cN λdZ d0 cN=>A4 6 12013 0 m cQ T87 d0 Z f Z Z λd1 a d2 f=>Bk 7 12013 0 cQ Pl3 d2 d0 Z f Z λd3 a d4 f=> ?_)))))
        subst d4
        refine Aj 8 12013 Z f Z λa f=>Aj 9 12013 Z f Z λa f=>Bd cN λd5 d6 cN=>A4 10 12013 0 m cQ T87 d6 Z f Z Z λd7 a d8 f=>Bk 11 12013 0 cQ Pl3 d8 d6 Z f Z λd9 a ea f=> ?_
        subst ea
        refine Bd cN λeb ec cN=>A4 12 12013 0 m cQ T87 ec Z f Z Z λed a ee f=>AO λef w eg m=>have cQ:=od1 eg cQ;AR 0 m cQ Z sizeOf3 f Z Z ee ec Z Z Z λeh w m ei=>Bd cN λej ek cN=>Bq 0 m ei Z T87 f Z Z Z ek λel a em f=>AR 0 m ei Z sizeOf3 f Z Z em ek Z Z Z λen w m eo=>Ay (Ab f Z λa f=>Ah f Z Z Ax λa f=>Ac f Z λa f=>Aa (Aq (Ab f Z λa f=>Ah f Z Z Be λa f=>Ac f Z λa f=>Aa ?_)))
        obtain rfl:=sj cN
        exact⟨_,Z,_,_,_,Z,_,en,(gt cP (gt dp (gt dX eg))),f.k Z,m,eo⟩
    ·rintro a w ⟨cC,cD,rfl,cE,cF,ep,f,m,eq⟩
     refine Ag (Cw AF m (p_p 2 Z f (λ_=>BB (f.e Z)) λa f=>p_p 3 Z f (λ_=>BB (f.e Z)) λa f=>Cu 12013 11 (by kernel_rfl) Z (Aj 0 12013 Z f Z λa f=>Aj 1 12013 Z f Z λa f=>Aj 4 12013 Z f Z λa f=>Aj 5 12013 Z f Z λa f=>Bd hd λer es hd=>A4 6 12013 0 m eq T87 es Z f Z Z λet a eu f=>Bk 7 12013 0 eq Pl3 eu es Z f Z λev a ew f=> ?_)))
     subst ew
     refine Aj 8 12013 Z f Z λa f=>Aj 9 12013 Z f Z λa f=>Bd hd λex ey hd=>A4 10 12013 0 m eq T87 ey Z f Z Z λez a eA f=>Bk 11 12013 0 eq Pl3 eA ey Z f Z λeB a eC f=> ?_
     subst eC
     refine Bd hd λeD eE hd=>A4 12 12013 0 m eq T87 eE Z f Z Z λeF a eG f=>AO λeH w eI m=>have eq:=od1 eI eq;AR 0 m eq Z sizeOf3 f Z Z eG eE Z Z Z λeJ w m eK=>Bd hd λeL eM hd=>Bq 0 m eK Z T87 f Z Z Z eM λeN a eO f=>AR 0 m eK Z sizeOf3 f Z Z eO eM Z Z Z λeP w m eQ=>Ay (Ab f Z λa f=>Ac f Z λa f=>Ac f Z λa f=>Aa (Ar ?_))
     obtain rfl:=sj hd
     exact⟨[iv cD,(.bool false)],⟨f.get _ _ Z,f.get _ _ Z,trivial⟩,f.d,_,[eP],(gt ar (gt a9 (gt bI (gt cr (gt ep eI))))),m,_,Z,Z,eQ⟩
theorem Wk.B0 {W:World}(n:Nat):∀{w:World} {G:GH} {H:List Itm} {v0:Value} {it0:Itm} {x0:LI} {x1 x2 x3:Int} (m:Mem W G w (it0::H)) (o0:Ow R0 3 G it0 v0 x0) {y:(LI)} (hd:D.B0 n x0 x1 x2 x3=some y),
  Calls prog 122 #[v0,iv x1,iv x2,iv x3] w (Res W G H (λG' Ho _=>∃i0:Itm,Ho=[i0]∧Ow R0 3 G' i0 v0 y)):=by
 induction n with
 |zero=>intros;rename_i hd;simp[D.B0] at hd
 |succ fuel ih=>
  intro w G H v0 it0 x0 x1 x2 x3 m o0 y hd
  refine Au (args:=[v0,iv x1,iv x2,iv x3]) (N:=134) [] func122 Z Z (lb Z) Z λa f=> ?_
  unfold D.B0 at hd
  refine Ae (Ac f Z λa f=>Ay (Ac f Z λa f=>Aa (Bd hd λaa ab hd=>Ao (AM (λac a w=>∃ad:LI,∃ae:Int,∃af:Int,∃ag:Int,∃ah:Bool,∃ai:Bool,(ad,ae,af,ag,ah,ai)=ac∧∃(aj:GH) (ak:Itm),GLe G aj∧Fr a 134 [(0,v0),(1,iv ae),(2,iv af),(3,iv ag),(8,(.bool ah)),(9,(.bool ai))]∧Mem W aj w (ak::H)∧Ow R0 3 aj ak v0 ad) ab ⟨_,_,_,_,_,_,Z,_,it0,gr,f.k Z,m,o0⟩ ?_))))
  clear ab f m
  rintro ac al am an a w ⟨ad,ae,af,ag,ah,ai,rfl,aj,ak,ao,f,m,ap⟩
  refine Ao (Ae (Ab f Z λa f=>Ab f Z λa f=>Ah f Z Z Be λa f=>Ac f Z λa f=>Aa (Ag (Ae (Ab f Z λa f=>Ah f Z Z CL λa f=>Aa ?_)))))
  rcases Af am with⟨aq,am⟩|⟨aq,am⟩
  ·refine Al f Z aq (Ae (Ab f Z λa f=>Ab f Z λa f=>Ab f Z λa f=>Bd am λar au am=>AI f Z call125 (Wk.n0 m ap au) λav aw ax w ay m az a f=> ?_))
   obtain⟨aA,rfl,aB⟩:=az
   refine Aa (Ar ?_)
   obtain rfl:=sj am
   obtain rfl:=an _ rfl
   obtain rfl:=sj hd
   exact⟨[],trivial,f.d,_,[aA],(gt ao ay),m,_,Z,aB⟩
  ·refine Ai f Z aq (Ap (Ag (Ae (Ab f Z λa f=>Ah f Z Z BA λa f=>Aa ?_))))
   rcases Af am with⟨aC,am⟩|⟨aC,am⟩
   ·refine Al f Z aC (Ae (Ab f Z λa f=>Ab f Z λa f=>Ab f Z λa f=>Bd am λaD aE am=>AI f Z call126 (Wk.i0 m ap aE) λaF aG aH w aI m aJ a f=> ?_))
    obtain⟨aK,rfl,aL⟩:=aJ
    refine Aa (Ar ?_)
    obtain rfl:=sj am
    obtain rfl:=an _ rfl
    obtain rfl:=sj hd
    exact⟨[],trivial,f.d,_,[aK],(gt ao aI),m,_,Z,aL⟩
   ·refine Ai f Z aC (Ap (Ag (Ae (Ab f Z λa f=>l_o f (BN (f.e Z)) λa f=>Aa (Bd am λaM aN am=> ?_)))))
    refine AL (λa w=>∃aO:LI,∃aP:Int,(aO,aP)=aM∧∃(aQ:GH) (aR:Itm),GLe aj aQ∧Fr a 134 [(0,v0),(1,iv ae),(2,iv af),(3,iv aP),(8,(.bool ah)),(9,(.bool ai)),(10,(iv (i64.wrap (af-ae))))]∧Mem W aQ w (aR::H)∧Ow R0 3 aQ aR v0 aO) ?_ ?_
    ·rcases Af aN with⟨aS,aN⟩|⟨aS,aN⟩
     ·refine Al f Z aS (Ae (Ab f Z λa f=>Ab f Z λa f=>Ab f Z λa f=>Bd aN λaT aU aN=>AI f Z call127 (Wk.a0 m ap aU) λaV aW aX w aY m aZ a f=> ?_))
      obtain⟨a0,rfl,a1⟩:=aZ
      refine Aa (Aq (Ab f Z λa f=>Ah f Z Z Be λa f=>Ac f Z λa f=>Aa ?_))
      obtain rfl:=sj aN
      exact⟨_,_,Z,_,a0,aY,f.k Z,m,a1⟩
     ·refine Ai f Z aS (Ap ?_)
      obtain rfl:=sj aN
      exact⟨_,_,Z,_,ak,gr,f.k Z,m,ap⟩
    ·rintro a w ⟨aO,aP,rfl,aQ,aR,a2,f,m,a3⟩
     refine Ae (Ab f Z λa f=>Ab f Z λa f=>Ab f Z λa f=>Bd am λa4 a5 am=>AI f Z call128 (Wk.r0 m a3 a5) λa6 a7 a8 w a9 m ba a f=> ?_)
     obtain⟨bb,rfl,rfl,bc⟩:=ba
     refine Ab f Z λa f=>l_o f (AE (f.e Z) Z) λa f=>l_o f (AE (f.e Z) Z) λa f=>Ac f Z λa f=>Ac f Z λa f=>Aa (Ag (Ae (Ab f Z λa f=>Ah f Z Z BA λa f=>Aa (Bd am λbd be am=> ?_))))
     refine AL (λa w=>∃bf:LI,∃bg:Int,∃bh:Int,(bf,bg,bh)=bd∧∃(bi:GH) (bj:Itm),GLe a7 bi∧Fr a 134 [(0,v0),(1,iv ae),(2,iv af),(3,iv aP),(8,(.bool ah)),(9,(.bool ai)),(10,(iv (i64.wrap (af-ae)))),(11,iv bg),(12,iv bh)]∧Mem W bi w (bj::H)∧Ow R0 3 bi bj v0 bf) ?_ ?_
     ·rcases Af be with⟨bk,be⟩|⟨bk,be⟩
      ·refine Al f Z bk (Ae (Ab f Z λa f=>Ab f Z λa f=>Ab f Z λa f=>Bd be λbl bm be=>AI f Z call129 (Wk.l0 m bc bm) λbn bo bp w bq m br a f=> ?_))
       obtain⟨bs,rfl,bt⟩:=br
       refine Ay (Ab f Z λa f=>Ah f Z Z Be λa f=>Ab f Z λa f=>Ab f Z λa f=>Ah f Z Z Be λa f=>Ah f Z Z Be λa f=>Ac f Z λa f=>Aa (Aq (Ac f Z λa f=>Aa ?_)))
       obtain rfl:=sj be
       exact⟨_,_,_,Z,_,bs,bq,f.k Z,m,bt⟩
      ·refine Ai f Z bk (Ap ?_)
       obtain rfl:=sj be
       exact⟨_,_,_,Z,_,bb,gr,f.k Z,m,bc⟩
     ·rintro a w ⟨bf,bg,bh,rfl,bi,bj,bu,f,m,bv⟩
      refine Ag (Ae (Ab f Z λa f=>Ab f Z λa f=> ?_))
      refine BF 2 (λa w=>∃bw,GLe bi bw∧Mem W bw w (bj::H)∧Fr a 134 [(0,v0),(1,iv ae),(2,iv af),(3,iv aP),(8,(.bool ah)),(9,(.bool ai)),(10,(iv (i64.wrap (af-ae)))),(11,iv bg),(12,iv bh),(61,(.bool ah)),(62,(.bool ah)),(64,(.bool (ah&&ai)))]) ?_ ?_
      ·rcases Bool.eq_false_or_eq_true ah with bx|bx
       ·exact AB f bx (Ab f Z λa f=>l_o f (AY (f.e Z) bx (f.e Z)) λa f=>⟨_,gr,m,f.weak ⟨Z,Z,Z,Z,Z,Z,Z,Z,Z,Z,Z,by rw[bx];rfl,trivial⟩⟩)
       ·exact AC f bx λa f=>l_o f (AX (f.e Z) bx (f.e Z)) λa f=>⟨_,gr,m,f.weak ⟨Z,Z,Z,Z,Z,Z,Z,Z,Z,Z,Z,by rw[bx];rfl,trivial⟩⟩
      ·rintro a w ⟨bw,bz,m,f⟩
       refine have bv:=od1 bz bv;Ab f Z λa f=> ?_
       refine BF 3 (λa w=>∃bA,GLe bw bA∧Mem W bA w (bj::H)∧Fr a 134 [(0,v0),(1,iv ae),(2,iv af),(3,iv aP),(8,(.bool ah)),(9,(.bool ai)),(10,(iv (i64.wrap (af-ae)))),(11,iv bg),(12,iv bh),(61,(.bool ah)),(62,(.bool ah)),(64,(.bool (ah&&ai))),(65,(.bool (ah&&ai))),(68,(.bool ((ah&&ai)&&(bh==1))))]) ?_ ?_
       ·rcases Bool.eq_false_or_eq_true (ah&&ai) with bB|bB
        ·exact AB f bB (Ab f Z λa f=>AB f bB (Ah f Z Z BA λa f=>l_o f (AY (f.e Z) bB (f.e Z)) λa f=>⟨_,gr,m,f.weak ⟨Z,Z,Z,Z,Z,Z,Z,Z,Z,Z,Z,Z,Z,by rw[bB];rfl,trivial⟩⟩))
        ·exact AC f bB λa f=>AC f bB λa f=>l_o f (AX (f.e Z) bB (f.e Z)) λa f=>⟨_,gr,m,f.weak ⟨Z,Z,Z,Z,Z,Z,Z,Z,Z,Z,Z,Z,Z,by rw[bB];rfl,trivial⟩⟩
       ·rintro a w ⟨bA,bC,m,f⟩
        refine have bv:=od1 bC bv;Aa (Bd am λbD bE am=> ?_)
        refine AL (λa w=>∃j_513':LI,bD= .inl j_513'∧∃bF:LI,bF=j_513'∧∃(bG:GH) (bH:Itm),GLe bA bG∧Fr a 134 [(0,v0),(1,iv ae),(2,iv af),(3,iv aP),(8,(.bool ah)),(9,(.bool ai)),(10,(iv (i64.wrap (af-ae)))),(11,iv bg)]∧Mem W bG w (bH::H)∧Ow R0 3 bG bH v0 bF) ?_ ?_
        ·rcases Af bE with⟨bI,bE⟩|⟨bI,bE⟩
         ·refine Al f Z bI (Ae (Ab f Z λa f=>Ab f Z λa f=>Ab f Z λa f=>Bd bE λbJ bK bE=>AI f Z call130 (Wk.e0 m bv bK) λbL bM bN w bO m bP a f=> ?_))
          obtain⟨bQ,rfl,rfl,bR⟩:=bP
          refine Aa ?_
          rcases Af bE with⟨bS,bE⟩|⟨bS,bE⟩
          ·refine Al f Z bS (Ar ?_)
           obtain rfl:=sj bE
           obtain rfl:=sj am
           obtain rfl:=an _ rfl
           obtain rfl:=sj hd
           exact⟨[],trivial,f.d,_,[bQ],(gt ao (gt a2 (gt a9 (gt bu (gt bz (gt bC bO)))))),m,_,Z,bR⟩
          ·refine Ai f Z bS (Ap ?_)
           obtain rfl:=sj bE
           exact⟨_,Z,_,Z,_,bQ,bO,f.k Z,m,bR⟩
         ·refine Ai f Z bI (Ap ?_)
          obtain rfl:=sj bE
          exact⟨_,Z,_,Z,_,bj,gr,f.k Z,m,bv⟩
        ·rintro a w ⟨_,rfl,bF,rfl,bG,bH,bT,f,m,bU⟩
         refine Ag (Ag (A5 15 AF (by kernel_rfl) m (Aj 0 15 Z f Z λa f=>q_p 1 15 Z f (λ_=>A8 (f.e Z) (f.e Z) Ci) λa f=>Aj 2 15 Z f Z λa f=>Bd am λbV bW am=>CM (fuel':=0) (listed':= #[true,true,true,true,true,true,true,true,true,true,true,true,true,true,true]) (λa=>Fr a 134 [(0,v0),(1,iv ae),(2,iv af),(3,iv aP),(8,(.bool ah)),(9,(.bool ai)),(10,(iv (i64.wrap (af-ae)))),(11,iv bg),(73,iv ae),(74,(.bool (decide ((0:Int)<ae)))),(75,(.bool (decide ((0:Int)<ae)))),(87,(.bool bV))]) ?_ ?_)))
         ·intro a f
          refine AO λbX w bY m=>have bU:=od1 bY bU;Aa ?_
          rcases Af am with⟨bZ,am⟩|⟨bZ,am⟩
          ·refine Al f Z bZ (Ae (Ab f Z λa f=>Ab f Z λa f=>Ab f Z λa f=>Ab f Z λa f=>Bd am λb0 b1 am=>AI f Z call132 (Wk.q0 m bU b1) λb2 b3 b4 w b5 m b6 a f=> ?_))
           obtain⟨b7,rfl,rfl,b8⟩:=b6
           refine Ac f Z λa f=>Ay (Ab f Z λa f=>Ac f Z λa f=>Aa (AK Z ?_))
           obtain rfl:=sj am
           exact⟨_,Z,_,_,_,_,_,_,Z,_,b7,(gt ao (gt a2 (gt a9 (gt bu (gt bz (gt bC (gt bT (gt bY b5)))))))),f.k Z,m,b8⟩
          ·refine Ai f Z bZ (Ap (Ae (Ab f Z λa f=>Ab f Z λa f=>Ab f Z λa f=>Ab f Z λa f=>Bd am λb9 ca am=>AI f Z call133 (Wk.c0 m bU ca) λcb cc cd w ce m cf a f=> ?_)))
           obtain⟨cg,rfl,rfl,ch⟩:=cf
           refine Ab f Z λa f=>l_o f (AE (f.e Z) Z) λa f=>l_o f (AE (f.e Z) Z) λa f=>Ac f Z λa f=>Ac f Z λa f=>Ay (Ab f Z λa f=>Ac f Z λa f=>Ay (Ab f Z λa f=>Ab f Z λa f=>Ah f Z Z Be λa f=>Ab f Z λa f=>Ab f Z λa f=>Ah f Z Z Be λa f=>Ac f Z λa f=>Ac f Z λa f=>Ay (Ab f Z λa f=>Ah f Z Z (b_quo Z) λa f=>Ac f Z λa f=>Ay (Ab f Z λa f=>Ab f Z λa f=>Ah f Z Z AV λa f=>Aa ?_))))
           rcases Af am with⟨ci,am⟩|⟨ci,am⟩
           ·refine Al f Z ci (Ae (Ab f Z λa f=>Ab f Z λa f=>Ah f Z Z CC λa f=>Ac f Z λa f=>Ay (Ab f Z λa f=>Ab f Z λa f=>Ab f Z λa f=>Ab f Z λa f=>Bd am λcj ck am=>AI f Z call122 (ih m ch ck) λcl cm cn w co m cp a f=> ?_)))
            obtain⟨cq,rfl,cr⟩:=cp
            refine Aa (Aq (Ab f Z λa f=>Ah f Z Z Ax λa f=>Ac f Z λa f=>Aa ?_))
            obtain rfl:=sj am
            exact⟨_,Z,_,_,_,_,_,_,Z,_,cq,(gt ao (gt a2 (gt a9 (gt bu (gt bz (gt bC (gt bT (gt bY (gt ce co))))))))),f.k Z,m,cr⟩
           ·refine Ai f Z ci (Ae (Ab f Z λa f=>Ab f Z λa f=>Ah f Z Z CC λa f=>Ac f Z λa f=>Ay (Ab f Z λa f=>Ab f Z λa f=>Ah f Z Z Ax λa f=>Ab f Z λa f=>Ab f Z λa f=>Bd am λcs ct am=>AI f Z call122 (ih m ch ct) λcu cv cw w cx m cy a f=> ?_)))
            obtain⟨cz,rfl,cA⟩:=cy
            refine Aa (Aq (Ab f Z λa f=>Ac f Z λa f=>Aa ?_))
            obtain rfl:=sj am
            exact⟨_,Z,_,_,_,_,_,_,Z,_,cz,(gt ao (gt a2 (gt a9 (gt bu (gt bz (gt bC (gt bT (gt bY (gt ce cx))))))))),f.k Z,m,cA⟩
         ·intro cB
          rcases Af bW with⟨cC,bW⟩|⟨cC,bW⟩
          ·refine Aj (hw:=wo f cC) 3 15 Z f Z λa f=>Aj (hw:=wo f cC) 4 15 Z f Z λa f=>q_p (hw:=wo f cC) 5 15 Z f (λ_=>A8 (f.e Z) (f.e Z) Be) λa f=>Bd bW λcD cE bW=>A4 (hw:=wo f cC) 6 15 0 m bU T87 cE Z f Z Z λcF a cG f=>Bk (hw:=wo f cC) 7 15 0 bU Pl3 cG cE Z f Z λcH a cI f=> ?_
           subst cI
           refine Aj (hw:=wo f cC) 8 15 Z f Z λa f=>Aj (hw:=wo f cC) 9 15 Z f Z λa f=>Bd bW λcJ cK bW=>A4 (hw:=wo f cC) 10 15 0 m bU T87 cK Z f Z Z λcL a cM f=>Bk (hw:=wo f cC) 11 15 0 bU Pl3 cM cK Z f Z λcN a cO f=> ?_
           subst cO
           refine Bd bW λcP cQ bW=>BH (i:=12) 15 Z (by kernel_rfl) Z f (BD f Z Z Z cC) Z Z call131 (λ_ _ w cR m=>Wk.b m cQ) λa f=>q_p (hw:=wo f cC) 13 15 Z f (λ_=>BN (f.e Z)) λa f=>q_p 14 15 Z f (λ_=>AY (f.e Z) cC (f.e Z)) λa f=> ?_
           obtain rfl:=sj bW
           exact cB _ (f.k Z)
          ·refine AD 3 15 Z f cC λa f=>AD 4 15 Z f cC λa f=>AD 5 15 Z f cC λa f=>AD 6 15 Z f cC λa f=>AD 7 15 Z f cC λa f=>AD 8 15 Z f cC λa f=>AD 9 15 Z f cC λa f=>AD 10 15 Z f cC λa f=>AD 11 15 Z f cC λa f=>AD 12 15 Z f cC λa f=>AD 13 15 Z f cC λa f=>q_p 14 15 Z f (λ_=>AX (f.e Z) cC (f.e Z)) λa f=> ?_
           obtain rfl:=sj bW
           exact cB _ (f.k Z)
theorem Wk.h {v0:Value}{it0:Itm}{x0:LI}{x1 x2 x3:Int}(m:Mem W G w (it0::H))(o0:Ow R0 3 G it0 v0 x0){y:(LI)}(hd:D.h x0 x1 x2 x3=some y):
  Calls prog 122 #[v0,iv x1,iv x2,iv x3] w (Res W G H (λG' Ho _=>∃i0:Itm,Ho=[i0]∧Ow R0 3 G' i0 v0 y)):=by
 exact Wk.B0 BT m o0 hd
theorem Wk.I1 {v0:Value}{it0:Itm}{x0:LI}(m:Mem W G w (it0::H))(o0:Ow R0 3 G it0 v0 x0){y:(LI)}(hd:D.I1 x0=some y):
  Calls prog 116 #[v0] w (Res W G H (λG' Ho _=>∃i0:Itm,Ho=[i0]∧Ow R0 3 G' i0 v0 y)):=by
 refine Au (args:=[v0]) (N:=11) [] func116 Z Z (lb Z) Z λa f=> ?_
 unfold D.I1 at hd
 refine Ae (Ab f Z λa f=>BJ 0 m o0 Z underlying87 f Z Z λa f=>Ac f Z λa f=>Aa (Aq (Ab f Z λa f=>Ab f Z λa f=>Ab f Z λa f=>l_o f (C5 (f.e Z) ⟨_,underlying3⟩ underlying57) λa f=>Bd hd λaa ab hd=>AI f Z call123 (Wk.j0 m ab) λac ad ae w af m ag a f=> ?_)))
 obtain⟨rfl,rfl⟩:=ag
 refine have o0:=od1 af o0;Bd hd λah ai hd=>AI f Z call122 (Wk.h m o0 ai) λaj ak al w am m an a f=> ?_
 obtain⟨ao,rfl,ap⟩:=an
 refine Aa ?_
 obtain rfl:=sj hd
 exact⟨[],trivial,f.d,_,[ao],(gt af am),m,_,Z,ap⟩
theorem Wk.v0 {v0:Value}{b0:Nat}{x0:LI}(m:Mem W G w (ib b0 87 [v0]::H))(h0:R1 G v0 x0){y:(LI)}(hd:D.v0 x0=some y):
  Calls prog 111 #[Fw 117 #[(pb b0)]] w (Res W G H (λG' Ho v=>∃r0:Value,∃i0:Itm,Ho=[i0]∧r0=v∧Ow R0 3 G' i0 r0 y)):=by
 refine Au (args:=[Fw 117 #[(pb b0)]]) (N:=9) [.tmp 2] func111 Z Z (lb Z) Z λa f=> ?_
 unfold D.v0 at hd
 refine Ae (Ac f Z λa f=>Ay (Ab f Z λa f=>Bd hd λaa ab hd=>BP f Z call115 (Wk.P0 m h0 ab) λac ad ae w af m ag a f=>Ac f Z λa f=>Ay (Ab f Z λa f=>Bd hd λah ai hd=>AI f Z call116 (Wk.I1 m ag ai) λaj ak al w am m an a f=> ?_)))
 obtain⟨ao,rfl,ap⟩:=an
 refine Ay (Ab f Z λa f=>Ac f Z λa f=>Aa (Ar ?_))
 obtain rfl:=sj hd
 exact⟨[ac],f.g Z,f.d,_,[ao],(gt af am),m,_,_,Z,Z,ap⟩
theorem Wk.n1 {v0:Value}{x0:LI}{x1:Int}(m:Mem W G w (H))(h0:R1 G v0 x0){y:Int}(hd:D.n1 x0 x1=some y):
  Calls prog 118 #[v0,iv x1] w (Res W G H (λ_ Ho v=>Ho=[]∧v=(iv y))):=by
 refine Au (args:=[v0,iv x1]) (N:=19) [.tmp 4] func118 Z Z (lb Z) Z λa f=> ?_
 unfold D.n1 at hd
 refine Ae (Ac f Z λa f=>Aa (Ag (Ae (Ab f Z λa f=>Bg underlying87 f Z Z h0 λa f=>Ab f Z λa f=>Aa (Bd hd λaa ab hd=> ?_)))))
 refine AL (λa w=>∃q_19':Unit,aa= .inl q_19'∧∃(ac:GH),GLe G ac∧Fr a 19 []∧Mem W ac w (H)) ?_ ?_
 ·refine Ao (AM (λad a w=>∃ae:Int,ae=ad∧∃(af:GH),GLe G af∧Fr a 19 [(0,v0),(1,iv x1),(7,(iv (x0.length:Int))),(8,iv ae)]∧Mem W af w (H)) ab ⟨_,Z,_,gr,f.k Z,m⟩ ?_)
  clear ab f m
  rintro ad ag ah ai a w ⟨ae,rfl,af,aj,f,m⟩
  refine have h0:=rd1 aj h0;Ae (Ah f Z Z AV λa f=>Aa (Ag ?_))
  rcases Af ah with⟨ak,ah⟩|⟨ak,ah⟩
  ·refine Al f Z ak (Ap (Ag (Ao (Ae (Ab f Z λa f=>Ac f Z λa f=>Ay (Ab f Z λa f=>Ab f Z λa f=>Ab f Z λa f=>Bd ah λal am ah=>BI T87 f Z Z Z h0 am λan ao a ap aq f=> ?_))))))
   subst aq
   refine A3 m Pl3 f Z Z ap λa f=>Ah f Z Z BA λa f=>Aa ?_
   rcases Af ah with⟨ar,ah⟩|⟨ar,ah⟩
   ·refine Al f Z ar (Ae (Ab f Z λa f=>Ac f Z λa f=>Aa (Ar ?_)))
    obtain rfl:=sj ah
    obtain rfl:=ai _ rfl
    obtain rfl:=sj hd
    exact⟨[iv ae],f.g Z,f.d,_,[],aj,m,Z,Z⟩
   ·refine Ai f Z ar (Ap (Aq (Ah f Z Z Ax λa f=>Ab f Z λa f=>Aa ?_)))
    obtain rfl:=sj ah
    exact⟨_,Z,_,Z,_,aj,f.k Z,m⟩
  ·refine Ai f Z ak (AK Z ?_)
   obtain rfl:=sj ah
   obtain rfl:=ai _ rfl
   exact⟨_,Z,_,aj,f.weak trivial,m⟩
 ·rintro a w ⟨_,rfl,ac,au,f,m⟩
  refine Ae (Ac f Z λa f=>Aa (Ar ?_))
  obtain rfl:=sj hd
  exact⟨[(iv (-1))],f.g Z,f.d,_,[],au,m,Z,Z⟩
end Go.Proofs.YtijemnhleooagaaGreatDoor

namespace Go.Sx
end Go.Sx
namespace Go.Sx
section
variable {W w w' : World} {G : GH} {H : List Itm}
theorem CN (b:Nat):∀(vs:List Value) (o:Nat) (w:World),(w.setCells b o vs).os=w.os∧(w.setCells b o vs).tape=w.tape∧(w.setCells b o vs).output=w.output∧(w.setCells b o vs).heap.size=w.heap.size∧∀q,q≠b→(w.setCells b o vs).heap[q]? =w.heap[q]?
 |[],_,_=>⟨rfl,rfl,rfl,rfl,λ_ _=>rfl⟩
 |v::r,o,w=>by
  obtain⟨h1,h2,h3,h4,h5⟩:=CN b r (o+1) (w.setCell ⟨b,o,none⟩ v)
  refine⟨h1,h2,h3,h4.trans (by simp[World.setCell]),λq hq=>(h5 q hq).trans ?_⟩
  simp only[World.setCell,Array.getElem?_modify]
  rw[if_neg (λe=>hq e.symm)]
theorem C8 (b:Nat){t:TypeId}{fz:Nat×Nat}:∀(vs:List Value) (o:Nat) (w:World) (cs:List Value),w.heap[b]? =some (.cells cs.toArray t fz)→o+vs.length≤cs.length→(w.setCells b o vs).heap[b]? =some (.cells (cs.take o++vs++cs.drop (o+vs.length)).toArray t fz)
 |[],o,w,cs,h,_=>by simpa [World.setCells] using h
 |v::r,o,w,cs,h,hl=>by
  simp only[List.length_cons] at hl
  have h1:(w.setCell ⟨b,o,none⟩ v).heap[b]? =some (.cells (cs.set o v).toArray t fz):=by
   simp only[World.setCell,Array.getElem?_modify,if_true,h,Option.map_some]
   simp
  have:=C8 b r (o+1) (w.setCell ⟨b,o,none⟩ v) (cs.set o v) h1 (by rw[List.length_set];omega)
  rw[World.setCells,this]
  congr 3
  have e1:(cs.set o v).take (o+1)=cs.take o++[v]:=by
   rw[List.set_eq_take_append_cons_drop,if_pos (by omega),List.take_append,List.take_of_length_le (by simp;omega)]
   simp
   have:o+1-min o cs.length=1:=by omega
   rw[this];rfl
  have e2:(cs.set o v).drop (o+1+r.length)=cs.drop (o+(r.length+1)):=by
   rw[List.drop_set_of_lt (by omega),show o+1+r.length=o+(r.length+1) by omega]
  rw[e1,e2]
  simp
theorem app_cells (l:List Value)(z:Array Value):l.toArray++z=(l++z.toList).toArray:=by
 apply Array.ext'
 simp
theorem Mem.rowAt {g cap n n' tt:Nat}{v:Value}{vs vs' cs:List Value}(m:Mem W G w (.row v tt 1 n vs::H))(hv:v.ownBlock=some g)(ho:w'.os=w.os)(ht:w'.tape=w.tape)(hu:w'.output=w.output)
  (hb:∀q,q≠g→w'.heap[q]? =w.heap[q]?) (hg:w'.heap[g]? =some (.cells cs.toArray tt (0,0))) (hc:cs.length=cap) (hm:cap≤maxLen) (hn:n'≤cap) (hp:cs.take n'=vs'):
  Mem W G w' (.row (.slice (some ⟨g,0,none⟩) n' cap) tt 1 n' vs'::H):=by
 refine(fun(this:Mem W G w' ((Itm.row v tt 1 n vs::H).set 0 (.row (.slice (some ⟨g,0,none⟩) n' cap) tt 1 n' vs')))=> ?_) (m.changeAt (h':= .row (.slice (some ⟨g,0,none⟩) n' cap) tt 1 n' vs') (w':=w') 0 rfl ho ht hu (λq _ hq=>hb q (λe=>hq (by simp[Itm.foot,hv,e]))) ⟨by rw[←hp,List.length_take,Nat.mul_one];omega,.inr ⟨g,cap,cs.toArray,rfl,Nat.zero_le _,hg,hn,hm,by simpa using hc,by simpa using hp⟩⟩ (λq hq=> .inl ?_))
 ·exact this
 ·have e:q=g:=by simpa [Itm.foot,Value.ownBlock] using hq
  simp[Itm.foot,hv,e]
theorem Mem.rowNew {cap n' tt:Nat}{vs' cs:List Value}(m:Mem W G w H)(ho:w'.os=w.os)(ht:w'.tape=w.tape)(hu:w'.output=w.output)
  (hb:∀q,q≠w.heap.size→w'.heap[q]? =w.heap[q]?) (hg:w'.heap[w.heap.size]? =some (.cells cs.toArray tt (0,0))) (hc:cs.length=cap) (hm:cap≤maxLen) (hn:n'≤cap) (hp:cs.take n'=vs'):
  Mem W G w' (.row (.slice (some ⟨w.heap.size,0,none⟩) n' cap) tt 1 n' vs'::H):=
 m.add ho ht hu (λq hq=>hb q (by omega)) ⟨by rw[←hp,List.length_take,Nat.mul_one];omega,.inr ⟨w.heap.size,cap,cs.toArray,rfl,Nat.zero_le _,hg,hn,hm,by simpa using hc,by simpa using hp⟩⟩ (λq hq=>by simp[Itm.foot,Value.ownBlock] at hq;omega)
theorem Ow.ints {k:IntKind}{tt:Nat}{it:Itm}{v:Value}{xs:List Int}(h:Ow (RI k) tt G it v xs):it= .row v tt 1 xs.length (xs.map (Value.int k)):=by
 obtain⟨vs,rfl,hA⟩:=h
 congr 1
 apply List.ext_getElem
 ·simp[hA.1]
 ·intro i h1 h2
  have h3:i<xs.length:=by simpa using h2
  have:=hA.2 i vs[i] (xs[i]'h3) (by simp[h1]) (by simp[h3])
  simpa [RI] using this
theorem Ow.ofInts {k:IntKind}{tt:Nat}{v:Value}{xs:List Int}{n:Nat}(hn:n=xs.length):Ow (RI k) tt G (.row v tt 1 n (xs.map (Value.int k))) v xs:=by
 subst hn
 refine⟨_,rfl,by simp,λi c x hc hx=> ?_⟩
 rw[List.getElem?_map,hx] at hc
 cases hc;rfl
end
end Go.Sx

set_option maxRecDepth 100000
namespace Go.Proofs.YtijemnhleooagaaGreatDoor
open Go Go.Sx
def insRen :Go.Shelf.Ren:=⟨fun|21=>114|27=>119|28=>120|35=>124|39=>136|n=>n,fun|0=>0|3=>3|4=>4|22=>87|n=>n,fun|n=>n⟩
theorem insLay :Go.Proofs.Lays2.n21 Tryz.prog insRen:={
 mixed:=by kernel_rfl
 f21:=Tryz.func114.trans (congrArg some (by kernel_rfl))
 f27:=Tryz.func119.trans (congrArg some (by kernel_rfl))
 f28:=Tryz.func120.trans (congrArg some (by kernel_rfl))
 f35:=Tryz.func124.trans (congrArg some (by kernel_rfl))
 f39:=Tryz.func136.trans (congrArg some (by kernel_rfl))
 t0:=Tryz.underlying0
 a0:=Tryz.isAgg0
 z0:=Tryz.sizeOf0
 v0:=Tryz.zeroValue0
 t3:=Tryz.underlying3
 a3:=Tryz.isAgg3
 z3:=Tryz.sizeOf3
 v3:=Tryz.zeroValue3
 t4:=Tryz.underlying4
 a4:=Tryz.isAgg4
 z4:=Tryz.sizeOf4
 v4:=Tryz.zeroValue4
 t22:=Tryz.underlying87
 a22:=Tryz.isAgg87
 z22:=Tryz.sizeOf87
 v22:=Tryz.zeroValue87
 i3:=by kernel_rfl}
theorem DV {l:List Int}:∀v∈l.map (Value.int .i64),v.oneCell'=true:=by
 intro v hv
 obtain⟨z,_,rfl⟩:=List.mem_map.1 hv
 rfl
theorem Wk.u1 {W w:World}{G:GH}{H:List Itm}{v0 v2:Value}{it0 it2:Itm}{x0 x2:List Int}{x1:Int}(m:Mem W G w (it0::it2::H))(o0:Ow (RI .i64) 3 G it0 v0 x0)(o2:Ow (RI .i64) 3 G it2 v2 x2){y:List Int}(hd:D.u1 x0 x1 x2=some y):
  Calls Tryz.prog 114 #[v0,(.int .i64 x1),v2] w (Res W G H (λG' Ho v=>∃r0:Value,∃i0:Itm,Ho=[i0]∧r0=v∧Ow (RI .i64) 3 G' i0 r0 y)):=by
 unfold D.u1 insD at hd
 split at hd
 case isFalse=>cases hd
 rename_i hc
 obtain⟨h0,h1,h2,h3⟩:=hc
 obtain rfl:=Option.some.inj hd
 obtain⟨i,rfl⟩:∃i:Nat,x1=i:=⟨x1.toNat,by omega⟩
 rw[Int.toNat_natCast]
 obtain rfl:=o0.ints
 obtain rfl:=o2.ints
 have ok0:w.ownsRow 0 3 1 v0 x0.length (x0.map (Value.int .i64)):=m.items 0 _ rfl
 have ok2:w.ownsRow 0 3 1 v2 x2.length (x2.map (Value.int .i64)):=m.items 1 _ rfl
 have hvl:(x2.map (Value.int .i64)).length=1:=by rw[List.length_map,h2]
 have hcl:(x0.map (Value.int .i64)).length=x0.length:=List.length_map _
 obtain⟨vb,vc,vcur,rfl,vh,v1,v2',v3⟩:∃vb vc,∃vcur:Array Value,v2= .slice (some ⟨vb,0,none⟩) 1 vc∧w.heap[vb]? =some (.cells vcur 3 (0,0))∧1≤vc∧vcur.size=vc∧vcur.toList.take 1=x2.map (Value.int .i64):=by
  rcases ok2.2 with⟨_,e⟩|⟨g,cap,cur,e1,_,eh,e2,e3,e4,e5⟩
  ·omega
  ·rw[h2] at e1 e2 e5
   exact⟨g,cap,cur,e1,eh,e2,by simpa using e4,by simpa using e5⟩
 have hvs:∀(j:Nat) (v:Value),(x2.map (Value.int .i64))[j]? =some v→w.cell? ⟨vb,0+j,none⟩=some v:=λj v hj=>by
  rw[←v3,List.getElem?_take] at hj
  split at hj
  ·simp only[World.cell?,vh,Nat.zero_add];simpa using hj
  ·cases hj
 have hvm:x0.length+1≤maxLen:=by simp only[maxLen];omega
 rcases ok0.2 with⟨rfl,e0⟩|⟨g,cap,cur,rfl,_,eh,e2,e3,e4,e5⟩
 ·have hx:x0=[]:=List.eq_nil_of_length_eq_zero e0
  subst hx
  obtain rfl:i=0:=by simp at h1;omega
  refine(Go.Proofs.Any2.slices_Insert_int_end_grow insLay none 0 0 vb 0 1 vc [] (x2.map (Value.int .i64)) w (by omega) (by omega) (by omega) (by omega) rfl hvl (λ_=>rfl) (λ_ h=>by cases h) hvs DV).mono λe w' ⟨he,hw⟩=>⟨_,he,G,[.row (.slice (some ⟨w.heap.size,0,none⟩) (0+1) (grownCap w (0+1) 0 3)) 3 1 1 (x2.map (Value.int .i64))],GLe.refl G,?_,_,_,rfl,rfl,?_⟩
  ·subst hw
   have hge:=grownCap_ge w (0+1) 0 3
   have hcm:grownCap w (0+1) 0 3≤maxLen:=grownCap_le_maxLen w _ 0 3 (by simp only[maxLen];omega)
   refine m.tail.tail.rowNew (cs:=x2.map (Value.int .i64)++(Builtin.zeroCells (Value.int .i64 0).cells (grownCap w (0+1) 0 3-(0+1))).toList) rfl rfl rfl (λq hq=> ?_) ?_ ?_ hcm hge ?_
   ·show (w.heap.push _)[q]? =_
    rw[Array.getElem?_push,if_neg hq]
   ·have hnw:(w.drew.alloc (.cells (([]++x2.map (Value.int .i64)).toArray++Builtin.zeroCells (Value.int .i64 0).cells (grownCap w (0+1) 0 3-(0+1))) 3)).heap[w.heap.size]? =some (.cells (([]++x2.map (Value.int .i64)).toArray++Builtin.zeroCells (Value.int .i64 0).cells (grownCap w (0+1) 0 3-(0+1))) 3):=heap_alloc_new w.drew _
    refine hnw.trans ?_
    congr 2
    apply Array.ext'
    simp
   ·have hz:(Builtin.zeroCells (Value.int .i64 0).cells (grownCap w (0+1) 0 3-(0+1))).size=grownCap w (0+1) 0 3-(0+1):=by rw[size_zeroCells];exact Nat.mul_one _
    rw[List.length_append,hvl,Array.length_toList,hz];omega
   ·rw[List.take_left' hvl]
  ·have e:List.take 0 ([]:List Int)++x2++List.drop 0 ([]:List Int)=x2:=by simp
   rw[e]
   exact Ow.ofInts h2.symm
 ·simp only[Nat.mul_one] at e4 e5
  have hvg:vb≠g:=λe=>m.disj 0 1 _ _ (by omega) rfl rfl g (by simp[Itm.foot,Value.ownBlock]) (by simp[Itm.foot,Value.ownBlock,e])
  have hcs:∀(j:Nat) (v:Value),(x0.map (Value.int .i64))[j]? =some v→w.cell? ⟨g,0+j,none⟩=some v:=λj v hj=>by
   rw[←e5,List.getElem?_take] at hj
   split at hj
   ·simp only[World.cell?,eh,Nat.zero_add];simpa using hj
   ·cases hj
  have hsome:∀j,j<cap→(w.cell? ⟨g,0+j,none⟩).isSome=true:=λj hj=>by
   simp only[World.cell?,eh,Nat.zero_add]
   rw[Array.getElem?_eq_getElem (by omega)];rfl
  have hfz:∀j,w.frozen? ⟨g,0+j,none⟩=false:=λj=>by simp[World.frozen?,eh]
  have m1:Mem W G w (.row (.slice (some ⟨g,0,none⟩) x0.length cap) 3 1 x0.length (x0.map (Value.int .i64))::H):=m.eraseAt 1
  have hyl:(x0.take i++x2++x0.drop i).length=x0.length+1:=by simp[h2];omega
  have hy:(x0.take i++x2++x0.drop i).map (Value.int .i64)=(x0.map (Value.int .i64)).take i++x2.map (Value.int .i64)++(x0.map (Value.int .i64)).drop i:=by simp
  have hcur:cur.toList.take x0.length=x0.map (Value.int .i64):=e5
  have hcl2:cur.toList.length=cap:=by rw[Array.length_toList];exact e4
  have hce:cur=cur.toList.toArray:=by simp
  by_cases hi:i=x0.length
  ·subst hi
   by_cases hr:x0.length+1≤cap
   ·refine(Go.Proofs.Any2.slices_Insert_int_end_room insLay g 0 x0.length cap vb 0 1 vc (x2.map (Value.int .i64)) w (by omega) hr (by simp only[maxLen] at e3;omega) hvl (λj hj=> ?_) (λj hj=> ?_) hvs DV).mono λe w' ⟨he,hw⟩=>⟨_,he,G,[.row (.slice (some ⟨g,0,none⟩) (x0.length+1) cap) 3 1 (x0.length+1) ((x0.take x0.length++x2++x0.drop x0.length).map (Value.int .i64))],GLe.refl G,?_,_,_,rfl,rfl,Ow.ofInts hyl.symm⟩
    ·have:=hsome (x0.length+j) (by omega)
     simpa using this
    ·have:=hfz (x0.length+j)
     simpa using this
    ·subst hw
     obtain⟨r1,r2,r3,r4,r5⟩:=CN g (x2.map (Value.int .i64)) (0+x0.length) w
     have r6:=C8 g (t:=3) (fz:=(0,0)) (x2.map (Value.int .i64)) (0+x0.length) w cur.toList (by rw[←hce];exact eh) (by omega)
     refine m1.rowAt (cs:=_) rfl r1 r2 r3 r5 r6 ?_ e3 hr ?_
     ·simp[hvl,hcl2];omega
     ·rw[hy,Nat.zero_add,hcur,List.take_of_length_le (show (x0.map (Value.int .i64)).length≤x0.length by rw[hcl];exact Nat.le_refl _),List.drop_of_length_le (show (x0.map (Value.int .i64)).length≤x0.length by rw[hcl];exact Nat.le_refl _),List.append_nil]
      exact List.take_left' (by rw[List.length_append,hcl,hvl])
   ·obtain rfl:cap=x0.length:=by omega
    refine(Go.Proofs.Any2.slices_Insert_int_end_grow insLay (some ⟨g,0,none⟩) x0.length x0.length vb 0 1 vc (x0.map (Value.int .i64)) (x2.map (Value.int .i64)) w (by omega) (by omega) (by omega) (by omega) hcl hvl (λh=>by cases h) (λa ha j v hj=> ?_) hvs DV).mono λe w' ⟨he,hw⟩=>⟨_,he,G,[.row (.slice (some ⟨w.heap.size,0,none⟩) (x0.length+1) (grownCap w (x0.length+1) x0.length 3)) 3 1 (x0.length+1) ((x0.take x0.length++x2++x0.drop x0.length).map (Value.int .i64))],GLe.refl G,?_,_,_,rfl,rfl,Ow.ofInts hyl.symm⟩
    ·cases ha
     rw[BQ]
     exact hcs j v hj
    ·subst hw
     have hge:=grownCap_ge w (x0.length+1) x0.length 3
     have hcm:grownCap w (x0.length+1) x0.length 3≤maxLen:=grownCap_le_maxLen w _ _ 3 hvm
     refine m1.tail.rowNew (cs:=(x0.map (Value.int .i64)++x2.map (Value.int .i64))++(Builtin.zeroCells (Value.int .i64 0).cells (grownCap w (x0.length+1) x0.length 3-(x0.length+1))).toList) rfl rfl rfl (λq hq=> ?_) ?_ ?_ hcm hge ?_
     ·show (w.heap.push _)[q]? =_
      rw[Array.getElem?_push,if_neg hq]
     ·exact(heap_alloc_new w.drew _).trans (congrArg (λz=>some (Obj.cells z 3 (0,0))) (app_cells (x0.map (Value.int .i64)++x2.map (Value.int .i64)) (Builtin.zeroCells (Value.int .i64 0).cells (grownCap w (x0.length+1) x0.length 3-(x0.length+1)))))
     ·have hz:(Builtin.zeroCells (Value.int .i64 0).cells (grownCap w (x0.length+1) x0.length 3-(x0.length+1))).toList.length=grownCap w (x0.length+1) x0.length 3-(x0.length+1):=by rw[Array.length_toList,size_zeroCells];exact Nat.mul_one _
      rw[List.length_append,List.length_append,hcl,hvl,hz];omega
     ·rw[hy,List.take_of_length_le (show (x0.map (Value.int .i64)).length≤x0.length by rw[hcl];exact Nat.le_refl _),List.drop_of_length_le (show (x0.map (Value.int .i64)).length≤x0.length by rw[hcl];exact Nat.le_refl _),List.append_nil]
      exact List.take_left' (by rw[List.length_append,hcl,hvl])
  ·have hi2:i<x0.length:=by omega
   by_cases hr:x0.length+1≤cap
   ·refine(Go.Proofs.Any2.slices_Insert_int_shift insLay g 0 x0.length cap i vb 0 1 vc (x0.map (Value.int .i64)) (x2.map (Value.int .i64)) w hi2 (by omega) hr (by simp only[maxLen] at e3;omega) hvg hcl hvl hcs (λj hj=>hsome j (by omega)) (λj _=>hfz j) hvs DV DV 3 3 vcur.size cur.size (by simp[World.shape?,vh]) (by simp[World.shape?,eh]) (by omega) (by simp[World.frozen?,vh]) (by simp[World.frozen?,vh])).mono λe w' ⟨he,hw⟩=>⟨_,he,G,[.row (.slice (some ⟨g,0,none⟩) (x0.length+1) cap) 3 1 (x0.length+1) ((x0.take i++x2++x0.drop i).map (Value.int .i64))],GLe.refl G,?_,_,_,rfl,rfl,Ow.ofInts hyl.symm⟩
    subst hw
    have hdl:((x0.map (Value.int .i64)).drop i).length=x0.length-i:=by rw[List.length_drop,hcl]
    obtain⟨r1,r2,r3,r4,r5⟩:=CN g ((x0.map (Value.int .i64)).drop i) (0+(i+1)) w.drew
    have r6:=C8 g (t:=3) (fz:=(0,0)) ((x0.map (Value.int .i64)).drop i) (0+(i+1)) w.drew cur.toList (by rw[←hce];exact eh) (by omega)
    obtain⟨q1,q2,q3,q4,q5⟩:=CN g (x2.map (Value.int .i64)) (0+i) (w.drew.setCells g (0+(i+1)) ((x0.map (Value.int .i64)).drop i))
    have q6:=C8 g (t:=3) (fz:=(0,0)) (x2.map (Value.int .i64)) (0+i) (w.drew.setCells g (0+(i+1)) ((x0.map (Value.int .i64)).drop i)) _ r6 (by simp[hdl,hcl2,hvl];omega)
    refine m1.rowAt (cs:=_) rfl (q1.trans r1) (q2.trans r2) (q3.trans r3) (λq hq=>(q5 q hq).trans (r5 q hq)) q6 ?_ e3 hr ?_
    ·simp[hdl,hcl2,hvl];omega
    ·rw[hy]
     have f1:(cur.toList.take (0+(i+1))++(x0.map (Value.int .i64)).drop i++cur.toList.drop (0+(i+1)+((x0.map (Value.int .i64)).drop i).length)).take (0+i)=(x0.map (Value.int .i64)).take i:=by
      rw[List.append_assoc,List.take_append_of_le_length (by simp;omega),List.take_take,←hcur,List.take_take]
      congr 1;omega
     have f2:(cur.toList.take (0+(i+1))++(x0.map (Value.int .i64)).drop i++cur.toList.drop (0+(i+1)+((x0.map (Value.int .i64)).drop i).length)).drop (0+i+(x2.map (Value.int .i64)).length)=(x0.map (Value.int .i64)).drop i++cur.toList.drop (0+(i+1)+((x0.map (Value.int .i64)).drop i).length):=by
      rw[List.append_assoc,hvl]
      exact List.drop_left' (by simp;omega)
     rw[f1,f2,←List.append_assoc]
     exact List.take_left' (by simp[h2];omega)
   ·refine(Go.Proofs.Any2.slices_Insert_int_grow insLay g 0 x0.length cap i vb 0 1 vc (x0.map (Value.int .i64)) (x2.map (Value.int .i64)) w hi2 (by omega) e2 (by omega) (by omega) hcl hvl hcs hvs DV DV).mono λe w' ⟨he,hw⟩=>⟨_,he,G,[.row (.slice (some ⟨w.heap.size,0,none⟩) (x0.length+1) (grownCap w (x0.length+1) cap 3)) 3 1 (x0.length+1) ((x0.take i++x2++x0.drop i).map (Value.int .i64))],GLe.refl G,?_,_,_,rfl,rfl,Ow.ofInts hyl.symm⟩
    subst hw
    have hge:=grownCap_ge w (x0.length+1) cap 3
    have hcm:grownCap w (x0.length+1) cap 3≤maxLen:=grownCap_le_maxLen w _ _ 3 hvm
    have hz:∀k,(Builtin.zeroCells (Value.int .i64 0).cells k).size=k:=λk=>by rw[size_zeroCells];exact Nat.mul_one _
    have hdl:((x0.map (Value.int .i64)).drop i).length=x0.length-i:=by rw[List.length_drop,hcl]
    have htl:((x0.map (Value.int .i64)).take i).length=i:=by rw[List.length_take,hcl];omega
    have hnew:∀C:Array Value,((w.alloc (.cells C 3)).drew).heap[w.heap.size]? =some (.cells C.toList.toArray 3 (0,0)):=λC=>by
     have:(w.alloc (.cells C 3)).heap[w.heap.size]? =some (.cells C 3):=heap_alloc_new w _
     rw[show C.toList.toArray=C by simp];exact this
    have hold:∀(C:Array Value) q,q≠w.heap.size→((w.alloc (.cells C 3)).drew).heap[q]? =w.heap[q]? :=λC q hq=>by
     show (w.heap.push _)[q]? =_
     rw[Array.getElem?_push,if_neg hq]
    generalize hC:((x0.map (Value.int .i64)).take i).toArray++Builtin.zeroCells (Value.int .i64 0).cells (x0.length+1-i)++Builtin.zeroCells (Value.int .i64 0).cells (grownCap w (x0.length+1) cap (insRen.t 3)-(x0.length+1))=C
    have hCl:C.toList.length=grownCap w (x0.length+1) cap 3:=by
     rw[←hC]
     simp only[Array.length_toList,Array.size_append,List.size_toArray,htl,hz]
     show i+(x0.length+1-i)+(grownCap w (x0.length+1) cap 3-(x0.length+1))=_
     omega
    have hCt:C.toList.take i=(x0.map (Value.int .i64)).take i:=by
     rw[←hC,Array.toList_append,Array.toList_append,List.append_assoc]
     exact List.take_left' htl
    obtain⟨r1,r2,r3,r4,r5⟩:=CN w.heap.size (x2.map (Value.int .i64)) i (w.alloc (.cells C 3)).drew
    have r6:=C8 w.heap.size (t:=3) (fz:=(0,0)) (x2.map (Value.int .i64)) i (w.alloc (.cells C 3)).drew C.toList (hnew C) (by omega)
    obtain⟨q1,q2,q3,q4,q5⟩:=CN w.heap.size ((x0.map (Value.int .i64)).drop i) (i+1) ((w.alloc (.cells C 3)).drew.setCells w.heap.size i (x2.map (Value.int .i64))).drew
    have q6:=C8 w.heap.size (t:=3) (fz:=(0,0)) ((x0.map (Value.int .i64)).drop i) (i+1) ((w.alloc (.cells C 3)).drew.setCells w.heap.size i (x2.map (Value.int .i64))).drew _ r6 (by simp[hdl,hvl,hCl];omega)
    refine m1.tail.rowNew (cs:=_) (q1.trans r1) (q2.trans r2) (q3.trans r3) (λq hq=>(q5 q hq).trans ((r5 q hq).trans (hold C q hq))) q6 ?_ hcm hge ?_
    ·simp[hdl,hvl,hCl];omega
    ·rw[hy,hCt]
     have f1:((x0.map (Value.int .i64)).take i++x2.map (Value.int .i64)++C.toList.drop (i+(x2.map (Value.int .i64)).length)).take (i+1)=(x0.map (Value.int .i64)).take i++x2.map (Value.int .i64):=List.take_left' (by rw[List.length_append,htl,hvl])
     rw[f1]
     exact List.take_left' (by simp only[List.length_append,htl,hvl,hdl];omega)
end Go.Proofs.YtijemnhleooagaaGreatDoor

set_option maxRecDepth 100000
namespace Go.Proofs.YtijemnhleooagaaGreatDoor
open Go Go.Sx
open Go.Proofs.Tryz Go.Proofs.YtijemnhleooagaaGreatDoor.Tryz IntKind
variable {W w : World} {G : GH} {H : List Itm}
abbrev Ba (b:Nat)(p0 p1:Int)(p2:Value):Itm:=ib b 66 [p2,iv p0,iv p1]
theorem T22 :SlT prog 22 5 1 1 (.int .u8 0):=⟨underlying22,Tryz.t5,by kernel_rfl,by kernel_rfl,by kernel_rfl,by kernel_rfl⟩
theorem Pl22 :B8 prog 22:=isAgg22
theorem BC :B8 prog 24:=isAgg24
theorem AJ :Agg prog 26 1:=⟨isAgg26,sizeOf26⟩
theorem T79 :SlT prog 79 87 1 24 sn:=⟨underlying79,Tryz.t87,by kernel_rfl,by kernel_rfl,by kernel_rfl,by kernel_rfl⟩
theorem Ds :B8 prog 87:=isAgg87
theorem Wk.O1 {v0:Value}{x0:LI}(m:Mem W G w (H))(h0:RSl (RI .u8) G v0 x0){y:Bool}(hd:D.O1 x0=some y):
  Calls prog 4 #[v0] w (Res W G H (λ_ Ho v=>Ho=[]∧v=(.bool y))):=by
 refine Au (args:=[v0]) (N:=6) [.tmp 2] func4 Z Z (lb Z) Z λa f=> ?_
 unfold D.O1 at hd
 refine Ae (Ac f Z λa f=>Ay (Ab f Z λa f=>Bg underlying22 f Z Z h0 λa f=>Ah f Z Z Ci λa f=>Ac f Z λa f=>Aa (Ar ?_)))
 obtain rfl:=sj hd
 exact⟨[(.bool (decide ((4096:Int)<(x0.length:Int))))],f.g Z,f.d,_,[],gr,m,Z,Z⟩
theorem Wk.x1 {v0:Value}{x0:LI}(m:Mem W G w (H))(h0:RSl (RI .u8) G v0 x0){y:(LI)×Int×Int}(hd:D.x1 x0=some y):
  Calls prog 15 #[v0] w (Res W G H (λG' Ho v=>∃r0:Value,∃c1:Nat,Ho=[ib c1 66 [r0,iv y.2.1,iv y.2.2]]∧v=(pb c1)∧RSl (RI .u8) G' r0 y.1)):=by
 refine Au (args:=[v0]) (N:=28) [.tmp 2] func15 Z Z (lb Z) Z λa f=> ?_
 unfold D.x1 at hd
 refine Ae (Ac f Z λa f=>Ay (Ab f Z λa f=>Bg underlying22 f Z Z h0 λa f=>Ah f Z Z Ax λa f=>Ac f Z λa f=>Aa (Ag (Ae (Ac f Z λa f=>Aa (Bd hd λaa ab hd=> ?_))))))
 refine AL (λa w=>∃ac:Int,ac=aa∧∃(ad:GH),GLe G ad∧Fr a 28 [(0,v0),(3,iv ac)]∧Mem W ad w (H)) ?_ ?_
 ·refine Ao (AM (λae a w=>∃af:Int,∃ag:Int,(af,ag)=ae∧∃(ah:GH),GLe G ah∧Fr a 28 [(0,v0),(3,iv af),(4,iv ag)]∧Mem W ah w (H)) ab ⟨_,_,Z,_,gr,f.k Z,m⟩ ?_)
  clear ab f m
  rintro ae ai aj ak a w ⟨af,ag,rfl,ah,al,f,m⟩
  refine have h0:=rd1 al h0;Ag (Ae (Ab f Z λa f=>Ab f Z λa f=>Bg underlying22 f Z Z h0 λa f=>Ah f Z Z AV λa f=>Aa ?_))
  rcases Af aj with⟨am,aj⟩|⟨am,aj⟩
  ·refine Al f Z am (Ap (Ag (Ao (Aq (Ab f Z λa f=>Ah f Z Z C4 λa f=>Ab f Z λa f=>Ab f Z λa f=>Bd aj λan ao aj=>BI T22 f Z Z Z h0 ao λap aq a ar au f=> ?_)))))
   subst au
   refine A3 m Pl5 f Z Z ar λa f=>l_o f (C5 (f.e Z) ⟨_,underlying5⟩ underlying2) λa f=>Ah f Z Z Ax λa f=>Ah f Z Z Ax λa f=>Ah f Z Z CZ λa f=>Ac f Z λa f=>Aa (Aq (Ab f Z λa f=>Ah f Z Z Ax λa f=>Ac f Z λa f=>Aa ?_))
   obtain rfl:=sj aj
   exact⟨_,Z,_,_,Z,_,al,f.k Z,m⟩
  ·refine Ai f Z am (AK Z ?_)
   obtain rfl:=sj aj
   obtain rfl:=ak _ rfl
   exact⟨_,Z,_,al,f.k Z,m⟩
 ·rintro a w ⟨ac,rfl,ad,av,f,m⟩
  refine have h0:=rd1 av h0;Ae (Ab f Z λa f=>Ab f Z λa f=> ?_)
  have aw:∀w,(Instr.build 66 #[(0,v0),(2,iv ac)]).run prog w= .ok (.agg #[v0,iv 0,iv ac]) w:=by intro w;simp[Instr.build,Instr.fill,h0.cells,Bb,A6,AT,A2,AQ,Bc,A7]
  refine Bv f Z Z aw λa f=>Bz (cs:=[v0,iv 0,iv ac]) m f Z Z Z λax w a m f=>Ac f Z λa f=>Aa (Ar ?_)
  obtain rfl:=sj hd
  exact⟨[pb ax],f.g Z,f.d,_,[ib ax 66 [v0,iv 0,iv ac]],av,m,_,_,Z,Z,h0⟩
theorem Wk.B {b0:Nat}{aa:Value}{ab:LI}{ac ad:Int}(m:Mem W G w (ib b0 66 [aa,iv ac,iv ad]::H))(ae:RSl (RI .u8) G aa ab){y:Int×(LI)×Int×Int}(hd:D.B ab ac ad=some y):
  Calls prog 61 #[pb b0] w (Res W G H (λG' Ho v=>∃r0:Value,Ho=[Ba b0 y.2.2.1 y.2.2.2 r0]∧v=(iv y.1)∧RSl (RI .u8) G' r0 y.2.1)):=by
 refine Au (args:=[pb b0]) (N:=58) [.tmp 2] func61 Z Z (lb Z) Z λa f=> ?_
 unfold D.B at hd
 refine Ae (Ac f Z λa f=>Ay (Ab f Z λa f=>Ab f Z λa f=>l_o f (AH (f.e Z)) λa f=>Bu underlying66 Z sizeOf2 f Z λa f=>AG 0 2 m Pl2 f Z Z Z Z λa f=>Ah f Z Z C4 λa f=>Ah f Z Z Ax λa f=>l_o f (AH (f.e Z)) λa f=>Bu underlying66 Z sizeOf2 f Z λa f=>Am 0 2 (ds:=[(iv (i64.wrap ((i64.wrap (ad*6364136223846793005))+1442695040888963407)))]) m sizeOf2 f Z Z Z (Ak Z As) Z (lb Z) Z λw m=>Aa (Ag (A5 13 AF (by kernel_rfl) m (Aj 0 13 Z f Z λa f=>q_p 1 13 Z f (λ_=>AH (f.e Z)) λa f=>BE 2 13 underlying66 Z sizeOf2 Z f Z λa f=>Bf 3 13 0 Pl2 Z Z Z f Z λa f=>q_p 4 13 Z f (λ_=>Es (f.e Z) (f.e Z) (by decide)) λa f=>Aj 5 13 Z f Z λa f=>q_p 6 13 Z f (λ_=>AH (f.e Z)) λa f=>BE 7 13 underlying66 Z sizeOf2 Z f Z λa f=>Bf 8 13 0 Pl2 Z Z Z f Z λa f=> ?_)))))
 refine q_p 9 13 Z f (λ_=>Es (f.e Z) (f.e Z) (by decide)) λa f=>q_p 10 13 Z f (λ_=>A8 (f.e Z) (f.e Z) b_xor) λa f=>q_p 11 13 Z f (λ_=>A8 (f.e Z) (f.e Z) CZ) λa f=>q_p 12 13 Z f (λ_=>Cf (f.e Z)) λa f=>AO λaf w ag m=>have ae:=rd1 ag ae;Aa (Ag (Ag (A5 10 AF (by kernel_rfl) m (Aj 0 10 Z f Z λa f=>q_p 1 10 Z f (λ_=>AH (f.e Z)) λa f=>BE 2 10 underlying66 Z sizeOf3 Z f Z λa f=>Bf 3 10 0 Pl3 Z Z Z f Z λa f=>Aj 4 10 Z f Z λa f=>q_p 5 10 Z f (λ_=>AH (f.e Z)) λa f=>BE 6 10 underlying66 Z sizeOf22 Z f Z λa f=>Bf 7 10 0 Pl22 Z Z Z f Z λa f=>Eo (i:=8) 10 underlying22 ae Z (by kernel_rfl) Z f Z Z Z λa f=>q_p 9 10 Z f (λ_=>A8 (f.e Z) (f.e Z) AV) λa f=>AO λah w ai m=>have ae:=rd1 ai ae;Aa ?_))))
 rcases Af hd with⟨aj,hd⟩|⟨aj,hd⟩
 ·refine Al f Z aj (Ag (A5 15 AF (by kernel_rfl) m (Aj 0 15 Z f Z λa f=>Aj 1 15 Z f Z λa f=>q_p 2 15 Z f (λ_=>AH (f.e Z)) λa f=>BE 3 15 underlying66 Z sizeOf22 Z f Z λa f=>Bf 4 15 0 Pl22 Z Z Z f Z λa f=>Aj 5 15 Z f Z λa f=>q_p 6 15 Z f (λ_=>AH (f.e Z)) λa f=>BE 7 15 underlying66 Z sizeOf3 Z f Z λa f=>Bf 8 15 0 Pl3 Z Z Z f Z λa f=>Bd hd λak al hd=>Cd 9 15 T22 ae al Z f Z Z λam an a ao ap f=> ?_)))
  subst ap
  refine B3 10 15 Pl5 ao Z f Z λa f=>q_p 11 15 Z f (λ_=>C5 (f.e Z) ⟨_,underlying5⟩ underlying2) λa f=>q_p 12 15 Z f (λ_=>A8 (f.e Z) (f.e Z) Ax) λa f=>q_p 13 15 Z f (λ_=>A8 (f.e Z) (f.e Z) CZ) λa f=>q_p 14 15 Z f (λ_=>Cf (f.e Z)) λa f=>AO λaq w ar m=>have ae:=rd1 ar ae;Aa (Aq (Ab f Z λa f=>Ab f Z λa f=>l_o f (AH (f.e Z)) λa f=>Bu underlying66 Z sizeOf3 f Z λa f=>AG 0 1 m Pl3 f Z Z Z Z λa f=>Ah f Z Z Ax λa f=>l_o f (AH (f.e Z)) λa f=>Bu underlying66 Z sizeOf3 f Z λa f=>Am 0 1 (ds:=[(iv (i64.wrap (ac+1)))]) m sizeOf3 f Z Z Z (Ak Z As) Z (lb Z) Z λw m=>Ay (Ab f Z λa f=>Ac f Z λa f=>Aa (Ar ?_))))
  obtain rfl:=sj hd
  exact⟨[(iv (iand .i64 (i64.wrap ((iand .i64 (Bt .i64 (BL .i64 (i64.wrap ((i64.wrap (ad*6364136223846793005))+1442695040888963407)) 33) (BL .i64 (i64.wrap ((i64.wrap (ad*6364136223846793005))+1442695040888963407)) 45)) 255)+(i64.wrap ak))) 255))],f.g Z,f.d,_,[ib b0 66 [aa,(iv (i64.wrap (ac+1))),(iv (i64.wrap ((i64.wrap (ad*6364136223846793005))+1442695040888963407)))]],(gt ag (gt ai ar)),m,_,Z,Z,ae⟩
 ·refine Ai f Z aj (Ap (Ae (Ab f Z λa f=>Ac f Z λa f=>Aa (Ar ?_))))
  obtain rfl:=sj hd
  exact⟨[(iv (iand .i64 (Bt .i64 (BL .i64 (i64.wrap ((i64.wrap (ad*6364136223846793005))+1442695040888963407)) 33) (BL .i64 (i64.wrap ((i64.wrap (ad*6364136223846793005))+1442695040888963407)) 45)) 255))],f.g Z,f.d,_,[ib b0 66 [aa,iv ac,(iv (i64.wrap ((i64.wrap (ad*6364136223846793005))+1442695040888963407)))]],(gt ag ai),m,_,Z,Z,ae⟩
theorem Wk.a {b0:Nat}{aa:Value}{ab:LI}{ac ad x1:Int}(m:Mem W G w (ib b0 66 [aa,iv ac,iv ad]::H))(ae:RSl (RI .u8) G aa ab){y:Int×(LI)×Int×Int}(hd:D.a ab ac ad x1=some y):
  Calls prog 36 #[pb b0,iv x1] w (Res W G H (λG' Ho v=>∃r0:Value,Ho=[Ba b0 y.2.2.1 y.2.2.2 r0]∧v=(iv y.1)∧RSl (RI .u8) G' r0 y.2.1)):=by
 refine Au (args:=[pb b0,iv x1]) (N:=37) [.tmp 4] func36 Z Z (lb Z) Z λa f=> ?_
 unfold D.a at hd
 refine Ae (Ac f Z λa f=>Aa (Ag (Ae (Ab f Z λa f=>Ah f Z Z CL λa f=>Aa ?_))))
 rcases Af hd with⟨af,hd⟩|⟨af,hd⟩
 ·refine Al f Z af (Ae (Ac f Z λa f=>Aa (Ar ?_)))
  obtain rfl:=sj hd
  exact⟨[iv 0],f.g Z,f.d,_,[ib b0 66 [aa,iv ac,iv ad]],gr,m,_,Z,Z,ae⟩
 ·refine Ai f Z af (Ap (Ag (Ae (Ab f Z λa f=>Ah f Z Z CL λa f=>Aa ?_))))
  rcases Af hd with⟨ag,hd⟩|⟨ag,hd⟩
  ·refine Al f Z ag (Ae (Ab f Z λa f=>Bd hd λah ai hd=>AI f Z call61 (Wk.B m ae ai) λaj ak al w am m an a f=> ?_))
   obtain⟨ao,rfl,rfl,ap⟩:=an
   refine Ab f Z λa f=> ?_
   obtain⟨aq,hd⟩:=CO hd
   refine Ah f Z Z (b_rem aq) λa f=>Ac f Z λa f=>Aa (Ar ?_)
   obtain rfl:=sj hd
   exact⟨[(iv (Int.tmod ah.1 x1))],f.g Z,f.d,_,[Ba b0 ah.2.2.1 ah.2.2.2 ao],am,m,_,Z,Z,ap⟩
  ·refine Ai f Z ag (Ap (Ae (Ab f Z λa f=>Bd hd λar au hd=>AI f Z call61 (Wk.B m ae au) λav aw ax w ay m az a f=> ?_)))
   obtain⟨aA,rfl,rfl,aB⟩:=az
   refine Ac f Z λa f=>Ay (Ab f Z λa f=>Bd hd λaC aD hd=>AI f Z call61 (Wk.B m aB aD) λaE aF aG w aH m aI a f=> ?_)
   obtain⟨aJ,rfl,rfl,aK⟩:=aI
   refine Ac f Z λa f=>Ay (Ab f Z λa f=>Bd hd λaL aM hd=>AI f Z call61 (Wk.B m aK aM) λaN aO aP w aQ m aR a f=> ?_)
   obtain⟨aS,rfl,rfl,aT⟩:=aR
   refine Ac f Z λa f=>Ay (Ab f Z λa f=>Bd hd λaU aV hd=>AI f Z call61 (Wk.B m aT aV) λaW aX aY w aZ m a0 a f=> ?_)
   obtain⟨a1,rfl,rfl,a2⟩:=a0
   refine Ac f Z λa f=>Ay (Ab f Z λa f=>Ah f Z Z C4 λa f=>Ab f Z λa f=>Ah f Z Z C4 λa f=>Ah f Z Z Ax λa f=>Ab f Z λa f=>Ah f Z Z C4 λa f=>Ah f Z Z Ax λa f=>Ab f Z λa f=>Ah f Z Z Ax λa f=>Ab f Z λa f=> ?_)
   obtain⟨a3,hd⟩:=CO hd
   refine Ah f Z Z (b_rem a3) λa f=>Ac f Z λa f=>Aa (Ar ?_)
   obtain rfl:=sj hd
   exact⟨[(iv (Int.tmod (i64.wrap ((i64.wrap ((i64.wrap ((i64.wrap (ar.1*16777216))+(i64.wrap (aC.1*65536))))+(i64.wrap (aL.1*256))))+aU.1)) x1))],f.g Z,f.d,_,[Ba b0 aU.2.2.1 aU.2.2.2 a1],(gt ay (gt aH (gt aQ aZ))),m,_,Z,Z,a2⟩
theorem Wk.m {b0:Nat}{aa:Value}{ab:LI}{ac ad x1:Int}(m:Mem W G w (ib b0 66 [aa,iv ac,iv ad]::H))(ae:RSl (RI .u8) G aa ab){y:Bool×(LI)×Int×Int}(hd:D.m ab ac ad x1=some y):
  Calls prog 33 #[pb b0,iv x1] w (Res W G H (λG' Ho v=>∃r0:Value,Ho=[Ba b0 y.2.2.1 y.2.2.2 r0]∧v=(.bool y.1)∧RSl (RI .u8) G' r0 y.2.1)):=by
 refine Au (args:=[pb b0,iv x1]) (N:=9) [.tmp 4] func33 Z Z (lb Z) Z λa f=> ?_
 unfold D.m at hd
 refine Ae (Ac f Z λa f=>Ay (Ab f Z λa f=>Ab f Z λa f=>Bd hd λaf ag hd=>AI f Z call36 (Wk.a m ae ag) λah ai aj w ak m al a f=> ?_))
 obtain⟨am,rfl,rfl,an⟩:=al
 refine Ah f Z Z BA λa f=>Ac f Z λa f=>Aa (Ar ?_)
 obtain rfl:=sj hd
 exact⟨[(.bool (af.1==0))],f.g Z,f.d,_,[Ba b0 af.2.2.1 af.2.2.2 am],ak,m,_,Z,Z,an⟩
theorem Wk.f {x0 x1 x2:Int}(m:Mem W G w (H)){y:Bool}(hd:D.f x0 x1 x2=some y):
  Calls prog 18 #[iv x0,iv x1,iv x2] w (Res W G H (λ_ Ho v=>Ho=[]∧v=(.bool y))):=by
 refine Au (args:=[iv x0,iv x1,iv x2]) (N:=15) [.tmp 6] func18 Z Z (lb Z) Z λa f=> ?_
 unfold D.f at hd
 refine Ae (Ac f Z λa f=>Ay (Ab f Z λa f=>Ab f Z λa f=>Ah f Z Z CC λa f=>Ab f Z λa f=> ?_))
 refine BF 4 (λa w=>∃aa,GLe G aa∧Mem W aa w (H)∧Fr a 15 [(0,iv x0),(1,iv x1),(2,iv x2),(7,iv x0),(8,iv x1),(9,(.bool (decide (x1≤x0)))),(10,(.bool (decide (x1≤x0)))),(14,(.bool ((decide (x1≤x0))&&(decide (x0≤x2)))))]) ?_ ?_
 ·rcases Bool.eq_false_or_eq_true (decide (x1≤x0)) with ab|ab
  ·exact AB f ab (Ab f Z λa f=>AB f ab (Ab f Z λa f=>AB f ab (Ah f Z Z CL λa f=>l_o f (AY (f.e Z) ab (f.e Z)) λa f=>⟨_,gr,m,f.weak ⟨Z,Z,Z,Z,Z,Z,Z,by rw[ab];rfl,trivial⟩⟩)))
  ·exact AC f ab λa f=>AC f ab λa f=>AC f ab λa f=>l_o f (AX (f.e Z) ab (f.e Z)) λa f=>⟨_,gr,m,f.weak ⟨Z,Z,Z,Z,Z,Z,Z,by rw[ab];rfl,trivial⟩⟩
 ·rintro a w ⟨aa,ac,m,f⟩
  refine Ac f Z λa f=>Aa (Ar ?_)
  obtain rfl:=sj hd
  exact⟨[(.bool ((decide (x1≤x0))&&(decide (x0≤x2))))],f.g Z,f.d,_,[],ac,m,Z,Z⟩
theorem Wk.n {x0:Int}(m:Mem W G w (H)){y:(LL)}(hd:D.n x0=some y):
  Calls prog 57 #[iv x0] w (Res W G H (λG' Ho v=>∃r0:Value,∃i0:Itm,Ho=[i0]∧v=(.agg #[r0])∧Ow R1 30 G' i0 r0 y)):=by
 refine Au (args:=[iv x0]) (N:=18) [.cell 2 26] func57 Z Z (lb Z) Z λa f=> ?_
 unfold D.n at hd
 refine Ae (AP (cs:=[sn]) zeroValue26 m f Z Z λaa w a m f=>Ay ?_)
 have ab:∀w,(Instr.build 26 #[]).run prog w= .ok (.agg #[sn]) w:=by intro w;simp[Instr.build,Instr.fill,Bb,A6,AT,A2,AQ,Bc,A7]
 refine Bv f Z Z ab λa f=>AP (cs:=[sn]) zeroValue26 m f Z Z λac w a m f=>Am 0 0 (ds:=[sn]) m sizeOf26 f Z Z Z (Ak Z As) Z (lb Z) Z λw m=>Aa (Ag (Ae (Ac f Z λa f=>Aa ?_)))
 obtain⟨ad,m,ae⟩:=Ow.nil R1 30 m
 have⟨af,ag,hd⟩:=bind_some hd
 refine AL (λa w=>∃ah:LL,ah=af∧∃(ai:GH) (aj:Value) (ak:Itm),GLe G ai∧Fr a 18 [(2,pb aa),(3,pb ac)]∧Mem W ai w (ib aa 26 [sn]::ib ac 26 [aj]::ak::H)∧Ow R1 30 ai ak aj ah) ?_ ?_
 ·refine Ao (have m:=m.fr 1;have m:=m.fr 2;AM (λal a w=>∃am:Int,∃an:LL,(am,an)=al∧∃(ao:GH) (ap:Value) (aq:Itm),GLe G ao∧Fr a 18 [(0,iv x0),(2,pb aa),(3,pb ac),(4,iv am)]∧Mem W ao w (ib aa 26 [sn]::ib ac 26 [ap]::aq::H)∧Ow R1 30 ao aq ap an) ag ⟨_,_,Z,_,sn,ad,gr,f.k Z,m,ae⟩ ?_)
  clear ag f m
  rintro al ar au av a w ⟨am,an,rfl,ao,ap,aq,aw,f,m,ax⟩
  refine Ag (Ae (Ab f Z λa f=>Ab f Z λa f=>Ah f Z Z AV λa f=>Aa ?_))
  rcases Af au with⟨ay,au⟩|⟨ay,au⟩
  ·refine Al f Z ay (Ap (Ag (Ao (Aq (Bu underlying26 Z sizeOf24 f Z λa f=>AG 1 0 m BC f Z Z Z Z λa f=>A9 (R:=R0) (xs:=([]:LI)) (RI.one _) m T30 f Z Z Z (by decide) (All2.nil _) λaz aA w a m aB f=> ?_)))))
   obtain⟨aC,aD,m,aE⟩:=Ow.stamp (RI.mono _) aB m
   refine have ax:=od3 aD ax;A9 (R:=R1) (xs:=([([]:LI)]:LL)) (RSl.one _) m T24 f Z Z Z (by decide) (All2.cons aE (All2.nil _)) λaF aG w a m aH f=>Bd au λaI aJ au=>Bm (RSl.one _) 3 m ax Z T24 Z (by decide) f Z Z Z (Ow.src (j:=0) aH m Z) aJ λaK aL w a m aM f=>Bu underlying26 Z sizeOf24 f Z λa f=>Am 2 0 (ds:=[aL]) m sizeOf24 f Z Z (Ow.cells 3 m aM Z) (Ak (Ow.one1 3 m aM Z) As) Z (lb Z) Z λw m=>Aa (Aq (Ab f Z λa f=>Ah f Z Z Ax λa f=>Ac f Z λa f=>Aa (have m:=m.fr 3;have m:=m.fr 3;have m:=m.fr 3;have m:=m.eraseAt 3;?_)))
   obtain rfl:=sj au
   exact⟨_,Z,_,_,Z,_,aL,aK,(gt aw aD),f.k Z,m,aM⟩
  ·refine Ai f Z ay (AK Z ?_)
   obtain rfl:=sj au
   obtain rfl:=av _ rfl
   exact⟨_,Z,_,ap,aq,aw,f.k Z,m,ax⟩
 ·rintro a w ⟨ah,rfl,ai,aj,ak,aN,f,m,aO⟩
  refine Ae (AA 1 0 (ds:=[aj]) m AJ f Z Z Z Z Z λa f=>Am 0 0 (ds:=[aj]) m sizeOf26 f Z Z Z (Ak (Ow.one1 2 m aO Z) As) Z (lb Z) Z λw m=>Aa (Ar (have aP:=Bi (P:=prog) 0 m AJ f (s:=2) rfl rfl rfl;have m:=m.fr 2;have m:=m.eraseAt 2;have m:=m.eraseAt 1;?_)))
  obtain rfl:=sj hd
  exact⟨[(.agg #[aj])],⟨aP,trivial⟩,f.d,_,[ak],aN,m,_,_,Z,Z,aO⟩
theorem Wk.j {v0:Value}{x0:LI}(m:Mem W G w (H))(h0:R1 G v0 x0){y:(LI)}(hd:D.j x0=some y):
  Calls prog 71 #[v0] w (Res W G H (λG' Ho v=>∃r0:Value,∃i0:Itm,Ho=[i0]∧r0=v∧Ow R0 2 G' i0 r0 y)):=by
 refine Au (args:=[v0]) (N:=6) [.tmp 2] func71 Z Z (lb Z) Z λa f=> ?_
 unfold D.j at hd
 refine Ae (Ac f Z λa f=>Ay (A9 (R:=R0) (xs:=([]:LI)) (RI.one _) m T30 f Z Z Z (by decide) (All2.nil _) λaa ab w a m ac f=>Ab f Z λa f=>Bd hd λad ae hd=>Bm (RI.one _) 0 m ac Z T30 Z (by decide) f Z Z Z (h0.src m) ae λaf ag w a m ah f=>Ac f Z λa f=>Aa (Ar ?_)))
 obtain rfl:=sj hd
 exact⟨[ag],f.g Z,f.d,_,[af],gr,m,_,_,Z,Z,ah⟩
theorem Wk.t {v0:Value}{x0:LI}{x1:Int}(m:Mem W G w (H))(h0:R1 G v0 x0){y:(LI)}(hd:D.t x0 x1=some y):
  Calls prog 95 #[v0,iv x1] w (Res W G H (λG' Ho v=>∃r0:Value,Ho=[]∧r0=v∧R1 G' r0 y)):=by
 refine Au (args:=[v0,iv x1]) (N:=46) [.tmp 4] func95 Z Z (lb Z) Z λa f=> ?_
 unfold D.t at hd
 refine Ae (Ac f Z λa f=>Ay (Ac f Z λa f=>Aa (Ag (Bd hd λaa ab hd=> ?_))))
 refine AL (λa w=>∃ac:Int,ac=aa∧∃(ad:GH),GLe G ad∧Fr a 46 [(0,v0),(1,iv x1),(5,iv ac)]∧Mem W ad w (H)) ?_ ?_
 ·refine Ao (AM (λae a w=>∃af:Int,af=ae∧∃(ag:GH),GLe G ag∧Fr a 46 [(0,v0),(1,iv x1),(5,iv af)]∧Mem W ag w (H)) ab ⟨_,Z,_,gr,f.k Z,m⟩ ?_)
  clear ab f m
  rintro ae ah ai aj a w ⟨af,rfl,ag,ak,f,m⟩
  refine have h0:=rd1 ak h0;Ag (Ae (Ab f Z λa f=>Ab f Z λa f=>Bg underlying30 f Z Z h0 λa f=>Ah f Z Z AV λa f=>Ab f Z λa f=>Bd ai λal am ai=> ?_))
  refine BF 7 (λa w=>∃an,GLe ag an∧Mem W an w (H)∧Fr a 46 [(0,v0),(1,iv x1),(5,iv af),(7,iv af),(8,v0),(9,(iv (x0.length:Int))),(10,(.bool (decide (af<(x0.length:Int))))),(11,(.bool (decide (af<(x0.length:Int))))),(18,(.bool al))]) ?_ ?_
  ·rcases Af am with⟨ao,am⟩|⟨ao,am⟩
   ·refine AB f ao (Ab f Z λa f=>AB f ao (Ab f Z λa f=>AB f ao (Bd am λap aq am=>BI T30 f Z Z Z h0 aq λar au a av aw f=> ?_)))
    subst aw
    refine AB f ao (A3 m Pl2 f Z Z av λa f=>AB f ao (Ab f Z λa f=>AB f ao (Ah f Z Z AV λa f=>l_o f (AY (f.e Z) ao (f.e Z)) λa f=> ?_)))
    obtain rfl:=sj am
    exact⟨_,gr,m,f.k Z⟩
   ·refine AC f ao λa f=>AC f ao λa f=>AC f ao λa f=>AC f ao λa f=>AC f ao λa f=>AC f ao λa f=>l_o f (AX (f.e Z) ao (f.e Z)) λa f=> ?_
    obtain rfl:=sj am
    exact⟨_,gr,m,f.k Z⟩
  ·rintro a w ⟨an,ax,m,f⟩
   refine Aa ?_
   rcases Af ai with⟨ay,ai⟩|⟨ay,ai⟩
   ·refine Al f Z ay (Ap (Ao (Aq (Ab f Z λa f=>Ah f Z Z Ax λa f=>Ac f Z λa f=>Aa ?_))))
    obtain rfl:=sj ai
    exact⟨_,Z,_,Z,_,(gt ak ax),f.k Z,m⟩
   ·refine Ai f Z ay (AK Z ?_)
    obtain rfl:=sj ai
    obtain rfl:=aj _ rfl
    exact⟨_,Z,_,(gt ak ax),f.k Z,m⟩
 ·rintro a w ⟨ac,rfl,ad,az,f,m⟩
  refine have h0:=rd1 az h0;Ag (Ae (Ab f Z λa f=>Ab f Z λa f=>Bg underlying30 f Z Z h0 λa f=>Ah f Z Z AV λa f=>Ab f Z λa f=>Bd hd λaA aB hd=> ?_))
  refine BF 7 (λa w=>∃aC,GLe ad aC∧Mem W aC w (H)∧Fr a 46 [(0,v0),(1,iv x1),(5,iv ac),(21,iv ac),(22,v0),(23,(iv (x0.length:Int))),(24,(.bool (decide (ac<(x0.length:Int))))),(25,(.bool (decide (ac<(x0.length:Int))))),(32,(.bool aA))]) ?_ ?_
  ·rcases Af aB with⟨aD,aB⟩|⟨aD,aB⟩
   ·refine AB f aD (Ab f Z λa f=>AB f aD (Ab f Z λa f=>AB f aD (Bd aB λaE aF aB=>BI T30 f Z Z Z h0 aF λaG aH a aI aJ f=> ?_)))
    subst aJ
    refine AB f aD (A3 m Pl2 f Z Z aI λa f=>AB f aD (Ab f Z λa f=>AB f aD (Ah f Z Z BA λa f=>l_o f (AY (f.e Z) aD (f.e Z)) λa f=> ?_)))
    obtain rfl:=sj aB
    exact⟨_,gr,m,f.k Z⟩
   ·refine AC f aD λa f=>AC f aD λa f=>AC f aD λa f=>AC f aD λa f=>AC f aD λa f=>AC f aD λa f=>l_o f (AX (f.e Z) aD (f.e Z)) λa f=> ?_
    obtain rfl:=sj aB
    exact⟨_,gr,m,f.k Z⟩
  ·rintro a w ⟨aC,aK,m,f⟩
   refine have h0:=rd1 aK h0;Aa ?_
   rcases Af hd with⟨aL,hd⟩|⟨aL,hd⟩
   ·refine Al f Z aL (Ae (Ab f Z λa f=>Ac f Z λa f=>Aa (Ar ?_)))
    obtain rfl:=sj hd
    exact⟨[v0],f.g Z,f.d,_,[],(gt az aK),m,_,Z,Z,h0⟩
   ·refine Ai f Z aL (Ap (Ae (Ab f Z λa f=>Ab f Z λa f=>Bd hd λaM aN hd=>Gk T30 f Z Z h0 (.inl ⟨Z,Z⟩) (.inr ⟨_,_,Z,Z⟩) aN λaO a aP f=>Bd hd λaQ aR hd=>BP f Z call71 (Wk.j m aP aR) λaS aT aU w aV m aW a f=>have h0:=rd1 aV h0;Ab f Z λa f=>A9 (R:=R0) (xs:=([x1]:LI)) (RI.one _) m T30 f Z Z Z (by decide) (All2.cons Z (All2.nil _)) λaX aY w a m aZ f=>Bd hd λa0 a1 hd=>Bm (RI.one _) 1 m aW Z T30 Z (by decide) f Z Z Z (Ow.src (j:=0) aZ m Z) a1 λa2 a3 w a m a4 f=>Ac f Z λa f=>Ay (Ab f Z λa f=>Ab f Z λa f=>Ab f Z λa f=>Bd hd λa5 a6 hd=>Gk T30 f Z Z h0 (.inr ⟨_,_,Z,Z⟩) (.inl ⟨Z,Z⟩) a6 λa7 a a8 f=>Bd hd λa9 ba hd=>Bm (RI.one _) 1 m a4 Z T30 Z (by decide) f Z Z Z (a8.src m) ba λbb bc w a m bd f=>Ac f Z λa f=>Aa (Ar (have m:=m.fr 1;?_))))))
    obtain⟨be,bf,m,bg⟩:=Ow.stamp (RI.mono _) bd m
    have m:=m.dp 1
    obtain rfl:=sj hd
    exact⟨[bc],f.g Z,f.d,_,[],(gt az (gt aK (gt aV bf))),m,_,Z,Z,bg⟩
theorem Wk.k {aa:Value}{ab:Itm}{ac:LL}{x1 x2:Int}(m:Mem W G w (ab::H))(ad:Ow R1 30 G ab aa ac){y:(LL)}(hd:D.k ac x1 x2=some y):
  Calls prog 60 #[(.agg #[aa]),iv x1,iv x2] w (Res W G H (λG' Ho v=>∃i0:Itm,Ho=[i0]∧v=(.agg #[aa])∧Ow R1 30 G' i0 aa y)):=by
 refine Au (args:=[(.agg #[aa]),iv x1,iv x2]) (N:=30) [.cell 6 26] func60 Z Z (lb Z) Z λa f=> ?_
 unfold D.k at hd
 refine Ae (Bz (cs:=[aa]) m f Z Z Z λae w a m f=>AP (cs:=[sn]) zeroValue26 m f Z Z λaf w a m f=>Aa (Ag (A5 11 AF (by kernel_rfl) m (BE 0 11 underlying26 Z sizeOf24 Z f Z λa f=>Bf 1 11 1 BC Z Z Z f Z λa f=>Aj 2 11 Z f Z λa f=>BE 3 11 underlying26 Z sizeOf24 Z f Z λa f=>Bf 4 11 1 BC Z Z Z f Z λa f=>Aj 5 11 Z f Z λa f=>Bd hd λag ah hd=>A4 6 11 2 m ad T24 ah Z f Z Z λai a aj f=>Bk 7 11 2 ad BU aj ah Z f Z λak a al f=>Aj 8 11 Z f Z λa f=>Bh 9 Z λam w an m ao ao=>have al:=rd1 an al;have ad:=od3 an ad;Bd hd λap aq hd=>AI f Z call95 (Wk.t m al aq) λar au av w aw m ax a f=> ?_))))
 obtain⟨ay,rfl,rfl,az⟩:=ax
 refine have ad:=od3 aw ad;Aa (ao au [] _ _ aw m (Bd hd λaA aB hd=>A4 10 11 2 m ad T24 aB Z f Z Z λaC a aD f=>AO λaE w aF m=>have az:=rd1 aF az;have ad:=od3 aF ad;AR 2 m ad Z sizeOf30 f Z Z aD aB az.cells az.one1 az λaG w m aH=>Aa (Ag (A5 11 AF (by kernel_rfl) m (BE 0 11 underlying26 Z sizeOf24 Z f Z λa f=>Bf 1 11 1 BC Z Z Z f Z λa f=>Aj 2 11 Z f Z λa f=>BE 3 11 underlying26 Z sizeOf24 Z f Z λa f=>Bf 4 11 1 BC Z Z Z f Z λa f=>Aj 5 11 Z f Z λa f=>Bd hd λaI aJ hd=>A4 6 11 2 m aH T24 aJ Z f Z Z λaK a aL f=>Bk 7 11 2 aH BU aL aJ Z f Z λaM a aN f=>Aj 8 11 Z f Z λa f=>Bh 9 Z λaO w aP m aQ aQ=>have aN:=rd1 aP aN;have aH:=od3 aP aH;Bd hd λaR aS hd=>AI f Z call95 (Wk.t m aN aS) λaT aU aV w aW m aX a f=> ?_)))))
 obtain⟨aY,rfl,rfl,aZ⟩:=aX
 refine have aH:=od3 aW aH;Aa (aQ aU [] _ _ aW m (Bd hd λa0 a1 hd=>A4 10 11 2 m aH T24 a1 Z f Z Z λa2 a a3 f=>AO λa4 w a5 m=>have aZ:=rd1 a5 aZ;have aH:=od3 a5 aH;AR 2 m aH Z sizeOf30 f Z Z a3 a1 aZ.cells aZ.one1 aZ λa6 w m a7=>Ay (AA 1 0 (ds:=[aa]) m AJ f Z Z Z Z Z λa f=>Am 0 0 (ds:=[aa]) m sizeOf26 f Z Z Z (Ak (Ow.one1 2 m a7 Z) As) Z (lb Z) Z λw m=>Aa (Ar (have a8:=Bi (P:=prog) 0 m AJ f (s:=6) rfl rfl rfl;have m:=m.fr 2;have m:=m.eraseAt 2;have m:=m.eraseAt 1;?_)))))
 obtain rfl:=sj hd
 exact⟨[(.agg #[aa])],⟨a8,trivial⟩,f.d,_,[a6],(gt an (gt aw (gt aF (gt aP (gt aW a5))))),m,_,Z,Z,a7⟩
theorem Wk.B1 {b0:Nat}{aa:Value}{ab:LI}{ac ad:Int}(m:Mem W G w (ib b0 66 [aa,iv ac,iv ad]::H))(ae:RSl (RI .u8) G aa ab){y:Int×(LI)×Int×Int}(hd:D.B1 ab ac ad=some y):
  Calls prog 94 #[pb b0] w (Res W G H (λG' Ho v=>∃r0:Value,Ho=[Ba b0 y.2.2.1 y.2.2.2 r0]∧v=(iv y.1)∧RSl (RI .u8) G' r0 y.2.1)):=by
 refine Au (args:=[pb b0]) (N:=8) [.tmp 2] func94 Z Z (lb Z) Z λa f=> ?_
 unfold D.B1 at hd
 refine Ae (Ac f Z λa f=>Ay (A9 (R:=R0) (xs:=([(-1),0,1,2147483648,(-2147483648),1099511627776,4611686018427387904,(-4611686018427387904),9223372036854775807,(-9223372036854775808)]:LI)) (RI.one _) m T30 f Z Z Z (by decide) (All2.cons Z (All2.cons Z (All2.cons Z (All2.cons Z (All2.cons Z (All2.cons Z (All2.cons Z (All2.cons Z (All2.cons Z (All2.cons Z (All2.nil _))))))))))) λaf ag w a m ah f=>Ab f Z λa f=>have m:=m.fr 1;Bd hd λai aj hd=>AI f Z call36 (Wk.a m ae aj) λak al am w an m ao a f=> ?_))
 obtain⟨ap,rfl,rfl,aq⟩:=ao
 refine have ah:=od1 an ah;Bd hd λar au hd=>Bq 1 m ah Z T30 f Z Z Z au λav a aw f=>BW 1 m ah Z Pl2 f Z Z aw au λax a ay f=> ?_
 subst ay
 refine Ac f Z λa f=>Aa (Ar (have m:=m.eraseAt 1;?_))
 obtain rfl:=sj hd
 exact⟨[iv ar],f.g Z,f.d,_,[Ba b0 ai.2.2.1 ai.2.2.2 ap],an,m,_,Z,Z,aq⟩
theorem Wk.V {x0 x1:Int}(m:Mem W G w (H)){y:Int}(hd:D.V x0 x1=some y):
  Calls prog 63 #[iv x0,iv x1] w (Res W G H (λ_ Ho v=>Ho=[]∧v=(iv y))):=by
 refine Au (args:=[iv x0,iv x1]) (N:=10) [.tmp 4] func63 Z Z (lb Z) Z λa f=> ?_
 unfold D.V at hd
 refine Ae (Ac f Z λa f=>Aa (Ag (Ae (Ab f Z λa f=>Ab f Z λa f=>Ah f Z Z AV λa f=>Aa ?_))))
 rcases Af hd with⟨aa,hd⟩|⟨aa,hd⟩
 ·refine Al f Z aa (Ae (Ab f Z λa f=>Ac f Z λa f=>Aa (Ar ?_)))
  obtain rfl:=sj hd
  exact⟨[iv x0],f.g Z,f.d,_,[],gr,m,Z,Z⟩
 ·refine Ai f Z aa (Ap (Ae (Ab f Z λa f=>Ac f Z λa f=>Aa (Ar ?_))))
  obtain rfl:=sj hd
  exact⟨[iv x1],f.g Z,f.d,_,[],gr,m,Z,Z⟩
theorem Wk.F0 {b0:Nat}{aa:Value}{ab:LI}{ac ad x1:Int}(m:Mem W G w (ib b0 66 [aa,iv ac,iv ad]::H))(ae:RSl (RI .u8) G aa ab){y:Int×(LI)×Int×Int}(hd:D.F0 ab ac ad x1=some y):
  Calls prog 56 #[pb b0,iv x1] w (Res W G H (λG' Ho v=>∃r0:Value,Ho=[Ba b0 y.2.2.1 y.2.2.2 r0]∧v=(iv y.1)∧RSl (RI .u8) G' r0 y.2.1)):=by
 refine Au (args:=[pb b0,iv x1]) (N:=28) [.tmp 4] func56 Z Z (lb Z) Z λa f=> ?_
 unfold D.F0 at hd
 refine Ae (Ac f Z λa f=>Aa (Ag (Ae (Ab f Z λa f=>Bd hd λaf ag hd=>AI f Z call33 (Wk.m m ae ag) λah ai aj w ak m al a f=> ?_))))
 obtain⟨am,rfl,rfl,an⟩:=al
 refine Aa ?_
 rcases Af hd with⟨ao,hd⟩|⟨ao,hd⟩
 ·refine Al f Z ao (Ae (Ab f Z λa f=>Ab f Z λa f=>Ah f Z Z Ax λa f=>Ab f Z λa f=>Bd hd λap aq hd=>AI f Z call94 (Wk.B1 m an aq) λar au av w aw m ax a f=> ?_))
  obtain⟨ay,rfl,rfl,az⟩:=ax
  refine A9 (R:=R0) (xs:=([(-1),x1,(i64.wrap (x1+1)),ap.1]:LI)) (RI.one _) m T30 f Z Z Z (by decide) (All2.cons Z (All2.cons Z (All2.cons Z (All2.cons Z (All2.nil _))))) λaA aB w a m aC f=>Ab f Z λa f=>have m:=m.fr 1;Bd hd λaD aE hd=>AI f Z call36 (Wk.a m az aE) λaF aG aH w aI m aJ a f=> ?_
  obtain⟨aK,rfl,rfl,aL⟩:=aJ
  refine have aC:=od1 aI aC;Bd hd λaM aN hd=>Bq 1 m aC Z T30 f Z Z Z aN λaO a aP f=>BW 1 m aC Z Pl2 f Z Z aP aN λaQ a aR f=> ?_
  subst aR
  refine Ac f Z λa f=>Aa (Ar (have m:=m.eraseAt 1;?_))
  obtain rfl:=sj hd
  exact⟨[iv aM],f.g Z,f.d,_,[Ba b0 aD.2.2.1 aD.2.2.2 aK],(gt ak (gt aw aI)),m,_,Z,Z,aL⟩
 ·refine Ai f Z ao (Ap (Ag (Ae (Ab f Z λa f=>Bd hd λaS aT hd=>AI f Z call33 (Wk.m m an aT) λaU aV aW w aX m aY a f=> ?_))))
  obtain⟨aZ,rfl,rfl,a0⟩:=aY
  refine Aa ?_
  rcases Af hd with⟨a1,hd⟩|⟨a1,hd⟩
  ·refine Al f Z a1 (Ae (Ab f Z λa f=>Ab f Z λa f=>Bd hd λa2 a3 hd=>Bj f Z call63 (Wk.V m a3) λa4 w a5 m a f=>have a0:=rd1 a5 a0;Ah f Z Z Ax λa f=>Bd hd λa6 a7 hd=>AI f Z call36 (Wk.a m a0 a7) λa8 a9 ba w bb m bc a f=> ?_))
   obtain⟨bd,rfl,rfl,be⟩:=bc
   refine Ac f Z λa f=>Aa (Ar ?_)
   obtain rfl:=sj hd
   exact⟨[iv a6.1],f.g Z,f.d,_,[Ba b0 a6.2.2.1 a6.2.2.2 bd],(gt ak (gt aX (gt a5 bb))),m,_,Z,Z,be⟩
  ·refine Ai f Z a1 (Ap (Ae (Ab f Z λa f=>Ab f Z λa f=>Ah f Z Z Ax λa f=>Bd hd λbf bg hd=>AI f Z call36 (Wk.a m a0 bg) λbh bi bj w bk m bl a f=> ?_)))
   obtain⟨bm,rfl,rfl,bn⟩:=bl
   refine Ac f Z λa f=>Aa (Ar ?_)
   obtain rfl:=sj hd
   exact⟨[iv bf.1],f.g Z,f.d,_,[Ba b0 bf.2.2.1 bf.2.2.2 bm],(gt ak (gt aX bk)),m,_,Z,Z,bn⟩
theorem Wk.t1 {v0:Value}{it0:Itm}{x0:LI}{x1:Int}(m:Mem W G w (it0::H))(o0:Ow R0 2 G it0 v0 x0){y:(LI)}(hd:D.t1 x0 x1=some y):
  Calls prog 95 #[v0,iv x1] w (Res W G H (λG' Ho v=>∃r0:Value,∃i0:Itm,Ho=[i0]∧r0=v∧Ow R0 2 G' i0 r0 y)):=by
 refine Au (args:=[v0,iv x1]) (N:=46) [.tmp 4] func95 Z Z (lb Z) Z λa f=> ?_
 unfold D.t1 at hd
 refine Ae (Ac f Z λa f=>Ay (Ac f Z λa f=>Aa (Ag (Bd hd λaa ab hd=> ?_))))
 refine AL (λa w=>∃ac:Int,ac=aa∧∃(ad:GH),GLe G ad∧Fr a 46 [(0,v0),(1,iv x1),(5,iv ac)]∧Mem W ad w (it0::H)) ?_ ?_
 ·refine Ao (AM (λae a w=>∃af:Int,af=ae∧∃(ag:GH),GLe G ag∧Fr a 46 [(0,v0),(1,iv x1),(5,iv af)]∧Mem W ag w (it0::H)) ab ⟨_,Z,_,gr,f.k Z,m⟩ ?_)
  clear ab f m
  rintro ae ah ai aj a w ⟨af,rfl,ag,ak,f,m⟩
  refine have o0:=od1 ak o0;Ag (Ae (Ab f Z λa f=>Ab f Z λa f=>BJ 0 m o0 Z underlying30 f Z Z λa f=>Ah f Z Z AV λa f=>Ab f Z λa f=>Bd ai λal am ai=> ?_))
  refine BF 7 (λa w=>∃an,GLe ag an∧Mem W an w (it0::H)∧Fr a 46 [(0,v0),(1,iv x1),(5,iv af),(7,iv af),(8,v0),(9,(iv (x0.length:Int))),(10,(.bool (decide (af<(x0.length:Int))))),(11,(.bool (decide (af<(x0.length:Int))))),(18,(.bool al))]) ?_ ?_
  ·rcases Af am with⟨ao,am⟩|⟨ao,am⟩
   ·refine AB f ao (Ab f Z λa f=>AB f ao (Ab f Z λa f=>AB f ao (Bd am λap aq am=>Bq 0 m o0 Z T30 f Z Z Z aq λar a au f=>AB f ao (BW 0 m o0 Z Pl2 f Z Z au aq λav a aw f=> ?_))))
    subst aw
    refine AB f ao (Ab f Z λa f=>AB f ao (Ah f Z Z AV λa f=>l_o f (AY (f.e Z) ao (f.e Z)) λa f=> ?_))
    obtain rfl:=sj am
    exact⟨_,gr,m,f.k Z⟩
   ·refine AC f ao λa f=>AC f ao λa f=>AC f ao λa f=>AC f ao λa f=>AC f ao λa f=>AC f ao λa f=>l_o f (AX (f.e Z) ao (f.e Z)) λa f=> ?_
    obtain rfl:=sj am
    exact⟨_,gr,m,f.k Z⟩
  ·rintro a w ⟨an,ax,m,f⟩
   refine Aa ?_
   rcases Af ai with⟨ay,ai⟩|⟨ay,ai⟩
   ·refine Al f Z ay (Ap (Ao (Aq (Ab f Z λa f=>Ah f Z Z Ax λa f=>Ac f Z λa f=>Aa ?_))))
    obtain rfl:=sj ai
    exact⟨_,Z,_,Z,_,(gt ak ax),f.k Z,m⟩
   ·refine Ai f Z ay (AK Z ?_)
    obtain rfl:=sj ai
    obtain rfl:=aj _ rfl
    exact⟨_,Z,_,(gt ak ax),f.k Z,m⟩
 ·rintro a w ⟨ac,rfl,ad,az,f,m⟩
  refine have o0:=od1 az o0;Ag (Ae (Ab f Z λa f=>Ab f Z λa f=>BJ 0 m o0 Z underlying30 f Z Z λa f=>Ah f Z Z AV λa f=>Ab f Z λa f=>Bd hd λaA aB hd=> ?_))
  refine BF 7 (λa w=>∃aC,GLe ad aC∧Mem W aC w (it0::H)∧Fr a 46 [(0,v0),(1,iv x1),(5,iv ac),(21,iv ac),(22,v0),(23,(iv (x0.length:Int))),(24,(.bool (decide (ac<(x0.length:Int))))),(25,(.bool (decide (ac<(x0.length:Int))))),(32,(.bool aA))]) ?_ ?_
  ·rcases Af aB with⟨aD,aB⟩|⟨aD,aB⟩
   ·refine AB f aD (Ab f Z λa f=>AB f aD (Ab f Z λa f=>AB f aD (Bd aB λaE aF aB=>Bq 0 m o0 Z T30 f Z Z Z aF λaG a aH f=>AB f aD (BW 0 m o0 Z Pl2 f Z Z aH aF λaI a aJ f=> ?_))))
    subst aJ
    refine AB f aD (Ab f Z λa f=>AB f aD (Ah f Z Z BA λa f=>l_o f (AY (f.e Z) aD (f.e Z)) λa f=> ?_))
    obtain rfl:=sj aB
    exact⟨_,gr,m,f.k Z⟩
   ·refine AC f aD λa f=>AC f aD λa f=>AC f aD λa f=>AC f aD λa f=>AC f aD λa f=>AC f aD λa f=>l_o f (AX (f.e Z) aD (f.e Z)) λa f=> ?_
    obtain rfl:=sj aB
    exact⟨_,gr,m,f.k Z⟩
  ·rintro a w ⟨aC,aK,m,f⟩
   refine have o0:=od1 aK o0;Aa ?_
   rcases Af hd with⟨aL,hd⟩|⟨aL,hd⟩
   ·refine Al f Z aL (Ae (Ab f Z λa f=>Ac f Z λa f=>Aa (Ar ?_)))
    obtain rfl:=sj hd
    exact⟨[v0],f.g Z,f.d,_,[it0],(gt az aK),m,_,_,Z,Z,o0⟩
   ·refine Ai f Z aL (Ap (Ae (Ab f Z λa f=>Ab f Z λa f=> ?_)))
    obtain⟨aM,aN,m,aO⟩:=Ow.stamp (RI.mono _) o0 m
    refine Bd hd λaP aQ hd=>Gk T30 f Z Z aO (.inl ⟨Z,Z⟩) (.inr ⟨_,_,Z,Z⟩) aQ λaR a aS f=>Bd hd λaT aU hd=>BP f Z call71 (Wk.j m aS aU) λaV aW aX w aY m aZ a f=>have aO:=rd1 aY aO;Ab f Z λa f=>A9 (R:=R0) (xs:=([x1]:LI)) (RI.one _) m T30 f Z Z Z (by decide) (All2.cons Z (All2.nil _)) λa0 a1 w a m a2 f=>Bd hd λa3 a4 hd=>Bm (RI.one _) 1 m aZ Z T30 Z (by decide) f Z Z Z (Ow.src (j:=0) a2 m Z) a4 λa5 a6 w a m a7 f=>Ac f Z λa f=>Ay (Ab f Z λa f=>Ab f Z λa f=>Ab f Z λa f=>Bd hd λa8 a9 hd=>Gk T30 f Z Z aO (.inr ⟨_,_,Z,Z⟩) (.inl ⟨Z,Z⟩) a9 λba a bb f=>Bd hd λbc bd hd=>Bm (RI.one _) 1 m a7 Z T30 Z (by decide) f Z Z Z (bb.src m) bd λbe bf w a m bg f=>Ac f Z λa f=>Aa (Ar (have m:=m.fr 1;have m:=m.eraseAt 1;?_)))
    obtain rfl:=sj hd
    exact⟨[bf],f.g Z,f.d,_,[be],(gt az (gt aK (gt aN aY))),m,_,_,Z,Z,bg⟩
theorem Wk.Y {x0:Int}(m:Mem W G w (H)){y:(LL)}(hd:D.Y x0=some y):
  Calls prog 57 #[iv x0] w (Res W G H (λG' Ho v=>∃r0:Value,∃i0:Itm,Ho=[i0]∧v=(.agg #[r0])∧Ow2 R0 30 2 G' i0 r0 y)):=by
 refine Au (args:=[iv x0]) (N:=18) [.cell 2 26] func57 Z Z (lb Z) Z λa f=> ?_
 unfold D.Y at hd
 refine Ae (AP (cs:=[sn]) zeroValue26 m f Z Z λaa w a m f=>Ay ?_)
 have ab:∀w,(Instr.build 26 #[]).run prog w= .ok (.agg #[sn]) w:=by intro w;simp[Instr.build,Instr.fill,Bb,A6,AT,A2,AQ,Bc,A7]
 refine Bv f Z Z ab λa f=>AP (cs:=[sn]) zeroValue26 m f Z Z λac w a m f=>Am 0 0 (ds:=[sn]) m sizeOf26 f Z Z Z (Ak Z As) Z (lb Z) Z λw m=>Aa (Ag (Ae (Ac f Z λa f=>Aa ?_)))
 obtain⟨ad,m,ae⟩:=Ow2.nil R0 30 2 m
 have⟨af,ag,hd⟩:=bind_some hd
 refine AL (λa w=>∃ah:LL,ah=af∧∃(ai:GH) (aj:Value) (ak:Itm),GLe G ai∧Fr a 18 [(2,pb aa),(3,pb ac)]∧Mem W ai w (ib aa 26 [sn]::ib ac 26 [aj]::ak::H)∧Ow2 R0 30 2 ai ak aj ah) ?_ ?_
 ·refine Ao (have m:=m.fr 1;have m:=m.fr 2;AM (λal a w=>∃am:Int,∃an:LL,(am,an)=al∧∃(ao:GH) (ap:Value) (aq:Itm),GLe G ao∧Fr a 18 [(0,iv x0),(2,pb aa),(3,pb ac),(4,iv am)]∧Mem W ao w (ib aa 26 [sn]::ib ac 26 [ap]::aq::H)∧Ow2 R0 30 2 ao aq ap an) ag ⟨_,_,Z,_,sn,ad,gr,f.k Z,m,ae⟩ ?_)
  clear ag f m
  rintro al ar au av a w ⟨am,an,rfl,ao,ap,aq,aw,f,m,ax⟩
  refine Ag (Ae (Ab f Z λa f=>Ab f Z λa f=>Ah f Z Z AV λa f=>Aa ?_))
  rcases Af au with⟨ay,au⟩|⟨ay,au⟩
  ·refine Al f Z ay (Ap (Ag (Ao (Aq (Bu underlying26 Z sizeOf24 f Z λa f=>AG 1 0 m BC f Z Z Z Z λa f=>A9 (R:=R0) (xs:=([]:LI)) (RI.one _) m T30 f Z Z Z (by decide) (All2.nil _) λaz aA w a m aB f=>A9 (R:=RawS) (xs:=[aA]) RawS.one m T24 f Z Z Z (by decide) (All2.cons ⟨Z,Ow.one1 0 m aB Z,Ow.cells 0 m aB Z⟩ (All2.nil _)) λaC aD w a m aE f=>have m:=m.fr 1;have m:=m.fr 4;Bd au λaF aG au=>EU m ax aB aE T24 Z (by decide) f Z Z Z aG λaH aI w a m aJ f=>Bu underlying26 Z sizeOf24 f Z λa f=>Am 2 0 (ds:=[aI]) m sizeOf24 f Z Z (Ow2.cells 0 m aJ Z) (Ak (Ow2.one1 0 m aJ Z) As) Z (lb Z) Z λw m=>Aa (Aq (Ab f Z λa f=>Ah f Z Z Ax λa f=>Ac f Z λa f=>Aa (have m:=m.fr 2;have m:=m.fr 2;?_))))))))
   obtain rfl:=sj au
   exact⟨_,Z,_,_,Z,_,aI,aH,aw,f.k Z,m,aJ⟩
  ·refine Ai f Z ay (AK Z ?_)
   obtain rfl:=sj au
   obtain rfl:=av _ rfl
   exact⟨_,Z,_,ap,aq,aw,f.k Z,m,ax⟩
 ·rintro a w ⟨ah,rfl,ai,aj,ak,aK,f,m,aL⟩
  refine Ae (AA 1 0 (ds:=[aj]) m AJ f Z Z Z Z Z λa f=>Am 0 0 (ds:=[aj]) m sizeOf26 f Z Z Z (Ak (Ow2.one1 2 m aL Z) As) Z (lb Z) Z λw m=>Aa (Ar (have aM:=Bi (P:=prog) 0 m AJ f (s:=2) rfl rfl rfl;have m:=m.fr 2;have m:=m.eraseAt 2;have m:=m.eraseAt 1;?_)))
  obtain rfl:=sj hd
  exact⟨[(.agg #[aj])],⟨aM,trivial⟩,f.d,_,[ak],aK,m,_,_,Z,Z,aL⟩
theorem Wk.C0 {aa:Value}{ab:Itm}{ac:LL}{x1 x2:Int}(m:Mem W G w (ab::H))(ad:Ow2 R0 30 2 G ab aa ac){y:(LL)}(hd:D.C0 ac x1 x2=some y):
  Calls prog 60 #[(.agg #[aa]),iv x1,iv x2] w (Res W G H (λG' Ho v=>∃i0:Itm,Ho=[i0]∧v=(.agg #[aa])∧Ow2 R0 30 2 G' i0 aa y)):=by
 refine Au (args:=[(.agg #[aa]),iv x1,iv x2]) (N:=30) [.cell 6 26] func60 Z Z (lb Z) Z λa f=> ?_
 unfold D.C0 at hd
 refine Ae (Bz (cs:=[aa]) m f Z Z Z λae w a m f=>AP (cs:=[sn]) zeroValue26 m f Z Z λaf w a m f=>Aa (Ag (have m:=m.fr 2;DY [ab] (ib af 26 [sn]::ib ae 26 [aa]::H) 10 AF (by kernel_rfl) m (BE 0 10 underlying26 Z sizeOf24 Z f Z λa f=>Bf 1 10 1 BC Z Z Z f Z λa f=>Aj 2 10 Z f Z λa f=>BE 3 10 underlying26 Z sizeOf24 Z f Z λa f=>Bf 4 10 1 BC Z Z Z f Z λa f=>Aj 5 10 Z f Z λa f=>Aj 8 10 Z f Z λa f=>Bh 6 Z λag w ah m ai ai=>have ad:=od2 ah ad;Bd hd λaj ak hd=>Dj 0 m ad Z T24 f Z Z Z ak λal a am f=>Aa (ai ag [ab] _ _ gr m (Bh 7 Z λan w ao m ap ap=>have ad:=od2 ao ad;CE 0 m ad Z BU f Z Z am ak λaq a ar f=>Aa (ap an [ab] _ _ gr m (Bh 9 Z λau w av m aw aw=>have ad:=od2 av ad;?_))))))))
 obtain⟨ax,ay,m,az,aA⟩:=Ow2.out ad m ak ar
 refine have m:=m.fr 1;Bd hd λaB aC hd=>BP f Z call95 (Wk.t1 m aA aC) λaD aE aF w aG m aH a f=>have az:=OwH.mono (RI.mono _) aG az;Aa (aw aF [aE,ax] _ _ aG m (AO λaI w aJ m=>have aH:=od1 aJ aH;have az:=OwH.mono (RI.mono _) aJ az;Bd hd λaK aL hd=>CY 1 m az Z T24 f Z Z Z aL λaM a aN f=>have m:=m.fr 1;Cz m az aH sizeOf30 f Z Z aN λaO w m aP=>Aa (Ag (DY [aO] (ib af 26 [sn]::ib ae 26 [aa]::H) 10 AF (by kernel_rfl) m (BE 0 10 underlying26 Z sizeOf24 Z f Z λa f=>Bf 1 10 1 BC Z Z Z f Z λa f=>Aj 2 10 Z f Z λa f=>BE 3 10 underlying26 Z sizeOf24 Z f Z λa f=>Bf 4 10 1 BC Z Z Z f Z λa f=>Aj 5 10 Z f Z λa f=>Aj 8 10 Z f Z λa f=>Bh 6 Z λaQ w aR m aS aS=>have aP:=od2 aR aP;Bd hd λaT aU hd=>Dj 0 m aP Z T24 f Z Z Z aU λaV a aW f=>Aa (aS aQ [aO] _ _ gr m (Bh 7 Z λaX w aY m aZ aZ=>have aP:=od2 aY aP;?_)))))))
 refine CE 0 m aP Z BU f Z Z aW aU λa0 a a1 f=>Aa (aZ aX [aO] _ _ gr m (Bh 9 Z λa2 w a3 m a4 a4=>have aP:=od2 a3 aP;?_))
 obtain⟨a5,a6,m,a7,a8⟩:=Ow2.out aP m aU a1
 refine have m:=m.fr 1;Bd hd λa9 ba hd=>BP f Z call95 (Wk.t1 m a8 ba) λbb bc bd w be m bf a f=>have a7:=OwH.mono (RI.mono _) be a7;Aa (a4 bd [bc,a5] _ _ be m (AO λbg w bh m=>have bf:=od1 bh bf;have a7:=OwH.mono (RI.mono _) bh a7;Bd hd λbi bj hd=>CY 1 m a7 Z T24 f Z Z Z bj λbk a bl f=>have m:=m.fr 1;Cz m a7 bf sizeOf30 f Z Z bl λbm w m bn=>Ay (AA 2 0 (ds:=[aa]) m AJ f Z Z Z Z Z λa f=>Am 1 0 (ds:=[aa]) m sizeOf26 f Z Z Z (Ak (Ow2.one1 0 m bn Z) As) Z (lb Z) Z λw m=>Aa (Ar (have bo:=Bi (P:=prog) 1 m AJ f (s:=6) rfl rfl rfl;have m:=m.eraseAt 2;have m:=m.eraseAt 1;?_)))))
 obtain rfl:=sj hd
 exact⟨[(.agg #[aa])],⟨bo,trivial⟩,f.d,_,[bm],(gt ah (gt ao (gt av (gt aG (gt aJ (gt aR (gt aY (gt a3 (gt be bh))))))))),m,_,Z,Z,bn⟩
theorem Wk.N1 {x0:Int}(m:Mem W G w (H)){y:(LL)×Bool}(hd:D.N1 x0=some y):
  Calls prog 108 #[iv x0] w (Res W G H (λG' Ho v=>∃r0:Value,∃i0:Itm,Ho=[i0]∧v= .tuple #[(.agg #[r0]),(.bool y.2)]∧Ow2 R0 30 2 G' i0 r0 y.1)):=by
 refine Au (args:=[iv x0]) (N:=10) [.cell 2 26,.tmp 3] func108 Z Z (lb Z) Z λa f=> ?_
 unfold D.N1 at hd
 refine Ae (AP (cs:=[sn]) zeroValue26 m f Z Z λaa w a m f=>Ac f Z λa f=>Aa (Ag (Ae (Ab f Z λa f=>Bd hd λab ac hd=>Bj f Z call18 (Wk.f m ac) λad w ae m a f=>l_o f (BN (f.e Z)) λa f=>Aa ?_))))
 rcases Af hd with⟨af,hd⟩|⟨af,hd⟩
 ·refine Al f Z af (Ae ?_)
  have ag:∀w,(Instr.build 26 #[]).run prog w= .ok (.agg #[sn]) w:=by intro w;simp[Instr.build,Instr.fill,Bb,A6,AT,A2,AQ,Bc,A7]
  refine Bv f Z Z ag λa f=>Am 0 0 (ds:=[sn]) m sizeOf26 f Z Z Z (Ak Z As) Z (lb Z) Z λw m=>Ac f Z λa f=>Aa (Ar ?_)
  obtain⟨ah,m,ai⟩:=Ow2.nil R0 30 2 m
  refine have aj:=Bi (P:=prog) 1 m AJ f (s:=2) rfl rfl rfl;have m:=m.eraseAt 1;?_
  obtain rfl:=sj hd
  exact⟨[(.agg #[sn]),(.bool false)],⟨aj,f.get _ _ Z,trivial⟩,f.d,_,[ah],ae,m,_,_,Z,Z,ai⟩
 ·refine Ai f Z af (Ap (Ae (Ab f Z λa f=>Bd hd λak al hd=>AI f Z call57 (Wk.Y m al) λam an ao w ap m aq a f=> ?_)))
  obtain⟨ar,au,rfl,rfl,av⟩:=aq
  refine Am 1 0 (ds:=[ar]) m sizeOf26 f Z Z Z (Ak (Ow2.one1 0 m av Z) As) Z (lb Z) Z λw m=>Ac f Z λa f=>Aa (Ar (have aw:=Bi (P:=prog) 1 m AJ f (s:=2) rfl rfl rfl;have m:=m.eraseAt 1;?_))
  obtain rfl:=sj hd
  exact⟨[(.agg #[ar]),(.bool true)],⟨aw,f.get _ _ Z,trivial⟩,f.d,_,[au],(gt ae ap),m,_,_,Z,Z,av⟩
theorem Wk.J0 {x0:Int}(m:Mem W G w (H)){y:(LL)×Bool}(hd:D.J0 x0=some y):
  Calls prog 92 #[iv x0] w (Res W G H (λG' Ho v=>∃r0:Value,∃i0:Itm,Ho=[i0]∧v= .tuple #[(.agg #[r0]),(.bool y.2)]∧Ow2 R0 30 2 G' i0 r0 y.1)):=by
 refine Au (args:=[iv x0]) (N:=27) [.cell 2 26,.tmp 3] func92 Z Z (lb Z) Z λa f=> ?_
 unfold D.J0 at hd
 refine Ae (AP (cs:=[sn]) zeroValue26 m f Z Z λaa w a m f=>Ac f Z λa f=>Ay (Ab f Z λa f=>Bd hd λab ac hd=>AI f Z call108 (Wk.N1 m ac) λad ae af w ag m ah a f=> ?_))
 obtain⟨ai,aj,rfl,rfl,ak⟩:=ah
 refine Ab f Z λa f=>l_o f (AE (f.e Z) Z) λa f=>l_o f (AE (f.e Z) Z) λa f=>AP (cs:=[sn]) zeroValue26 m f Z Z λal w a m f=>Am 0 0 (ds:=[ai]) m sizeOf26 f Z Z Z (Ak (Ow2.one1 1 m ak Z) As) Z (lb Z) Z λw m=>Ac f Z λa f=>Aa (Ag (Ae (Ac f Z λa f=>Aa (Bd hd λam an hd=> ?_))))
 refine AL (λa w=>∃ao:LL,ao=am∧∃(ap:GH) (aq:Itm),GLe ae ap∧Fr a 27 [(2,pb aa),(4,pb al),(5,(.bool ab.2))]∧Mem W ap w (ib aa 26 [sn]::ib al 26 [ai]::aq::H)∧Ow2 R0 30 2 ap aq ai ao) ?_ ?_
 ·refine Ao (have m:=m.fr 2;AM (λar a w=>∃au:Int,∃av:LL,(au,av)=ar∧∃(aw:GH) (ax:Itm),GLe ae aw∧Fr a 27 [(0,iv x0),(2,pb aa),(4,pb al),(5,(.bool ab.2)),(6,iv au)]∧Mem W aw w (ib aa 26 [sn]::ib al 26 [ai]::ax::H)∧Ow2 R0 30 2 aw ax ai av) an ⟨_,_,Z,_,aj,gr,f.k Z,m,ak⟩ ?_)
  clear an f m
  rintro ar ay az aA a w ⟨au,av,rfl,aw,ax,aB,f,m,aC⟩
  refine Ag (Ae (Ab f Z λa f=>Ab f Z λa f=>Ah f Z Z AV λa f=>Ab f Z λa f=> ?_))
  refine BF 2 (λa w=>∃aD,GLe aw aD∧Mem W aD w (ib aa 26 [sn]::ib al 26 [ai]::ax::H)∧Fr a 27 [(0,iv x0),(2,pb aa),(4,pb al),(5,(.bool ab.2)),(6,iv au),(12,iv au),(13,iv x0),(14,(.bool (decide (au<x0)))),(15,(.bool (decide (au<x0)))),(17,(.bool ((decide (au<x0))&&ab.2)))]) ?_ ?_
  ·rcases Bool.eq_false_or_eq_true (decide (au<x0)) with aE|aE
   ·exact AB f aE (Ab f Z λa f=>l_o f (AY (f.e Z) aE (f.e Z)) λa f=>⟨_,gr,m,f.weak ⟨Z,Z,Z,Z,Z,Z,Z,Z,Z,by rw[aE];rfl,trivial⟩⟩)
   ·exact AC f aE λa f=>l_o f (AX (f.e Z) aE (f.e Z)) λa f=>⟨_,gr,m,f.weak ⟨Z,Z,Z,Z,Z,Z,Z,Z,Z,by rw[aE];rfl,trivial⟩⟩
  ·rintro a w ⟨aD,aF,m,f⟩
   refine have aC:=od2 aF aC;Aa ?_
   rcases Af az with⟨aG,az⟩|⟨aG,az⟩
   ·refine Al f Z aG (Ap (Ag (Ao (Aq (AA 1 0 (ds:=[ai]) m AJ f Z Z Z Z Z λa f=>Ab f Z λa f=>Ah f Z Z Be λa f=>Ab f Z λa f=>have m:=m.fr 2;Bd az λaH aI az=>AI f Z call60 (Wk.C0 m aC aI) λaJ aK aL w aM m aN a f=> ?_)))))
    obtain⟨aO,rfl,rfl,aP⟩:=aN
    refine Am 2 0 (ds:=[ai]) m sizeOf26 f Z Z Z (Ak (Ow2.one1 0 m aP Z) As) Z (lb Z) Z λw m=>Aa (Aq (Ab f Z λa f=>Ah f Z Z Ax λa f=>Ac f Z λa f=>Aa (have m:=m.fr 2;have m:=m.fr 2;?_)))
    obtain rfl:=sj az
    exact⟨_,Z,_,_,Z,_,aO,(gt aB (gt aF aM)),f.k Z,m,aP⟩
   ·refine Ai f Z aG (AK Z ?_)
    obtain rfl:=sj az
    obtain rfl:=aA _ rfl
    exact⟨_,Z,_,ax,(gt aB aF),f.k Z,m,aC⟩
 ·rintro a w ⟨ao,rfl,ap,aq,aQ,f,m,aR⟩
  refine Ae (AA 1 0 (ds:=[ai]) m AJ f Z Z Z Z Z λa f=>Ab f Z λa f=>Am 0 0 (ds:=[ai]) m sizeOf26 f Z Z Z (Ak (Ow2.one1 2 m aR Z) As) Z (lb Z) Z λw m=>Ac f Z λa f=>Aa (Ar (have aS:=Bi (P:=prog) 0 m AJ f (s:=2) rfl rfl rfl;have m:=m.fr 2;have m:=m.eraseAt 2;have m:=m.eraseAt 1;?_)))
  obtain rfl:=sj hd
  exact⟨[(.agg #[ai]),(.bool ab.2)],⟨aS,f.get _ _ Z,trivial⟩,f.d,_,[aq],(gt ag aQ),m,_,_,Z,Z,aR⟩
theorem Wk.H1 {x0:Int}(m:Mem W G w (H)){y:(LL)×Bool}(hd:D.H1 x0=some y):
  Calls prog 91 #[iv x0] w (Res W G H (λG' Ho v=>∃r0:Value,∃i0:Itm,Ho=[i0]∧v= .tuple #[(.agg #[r0]),(.bool y.2)]∧Ow2 R0 30 2 G' i0 r0 y.1)):=by
 refine Au (args:=[iv x0]) (N:=22) [.cell 2 26,.tmp 3] func91 Z Z (lb Z) Z λa f=> ?_
 unfold D.H1 at hd
 refine Ae (AP (cs:=[sn]) zeroValue26 m f Z Z λaa w a m f=>Ac f Z λa f=>Ay (Ab f Z λa f=>Bd hd λab ac hd=>AI f Z call92 (Wk.J0 m ac) λad ae af w ag m ah a f=> ?_))
 obtain⟨ai,aj,rfl,rfl,ak⟩:=ah
 refine Ab f Z λa f=>l_o f (AE (f.e Z) Z) λa f=>l_o f (AE (f.e Z) Z) λa f=>AP (cs:=[sn]) zeroValue26 m f Z Z λal w a m f=>Am 0 0 (ds:=[ai]) m sizeOf26 f Z Z Z (Ak (Ow2.one1 1 m ak Z) As) Z (lb Z) Z λw m=>Ac f Z λa f=>Aa (Ag (Ae (Ab f Z λa f=>l_o f (BN (f.e Z)) λa f=>Ab f Z λa f=> ?_)))
 refine BF 3 (λa w=>∃am,GLe ae am∧Mem W am w (ib al 26 [ai]::aj::ib aa 26 [sn]::H)∧Fr a 22 [(0,iv x0),(2,pb aa),(4,pb al),(5,(.bool ab.2)),(11,(.bool ab.2)),(12,(.bool (!ab.2))),(13,(.bool (!ab.2))),(16,(.bool ((!ab.2)||(decide (x0<3)))))]) ?_ ?_
 ·rcases Bool.eq_false_or_eq_true (!ab.2) with an|an
  ·exact AC f an λa f=>AC f an λa f=>l_o f (AY (f.e Z) an (f.e Z)) λa f=>⟨_,gr,m,f.weak ⟨Z,Z,Z,Z,Z,Z,Z,by rw[an];rfl,trivial⟩⟩
  ·exact AB f an (Ab f Z λa f=>AB f an (Ah f Z Z AV λa f=>l_o f (AX (f.e Z) an (f.e Z)) λa f=>⟨_,gr,m,f.weak ⟨Z,Z,Z,Z,Z,Z,Z,by rw[an];rfl,trivial⟩⟩))
 ·rintro a w ⟨am,ao,m,f⟩
  refine have ak:=od2 ao ak;Aa ?_
  rcases Af hd with⟨ap,hd⟩|⟨ap,hd⟩
  ·refine Al f Z ap (Ae ?_)
   have aq:∀w,(Instr.build 26 #[]).run prog w= .ok (.agg #[sn]) w:=by intro w;simp[Instr.build,Instr.fill,Bb,A6,AT,A2,AQ,Bc,A7]
   refine Bv f Z Z aq λa f=>Am 2 0 (ds:=[sn]) m sizeOf26 f Z Z Z (Ak Z As) Z (lb Z) Z λw m=>Ac f Z λa f=>Aa (Ar ?_)
   obtain⟨ar,m,au⟩:=Ow2.nil R0 30 2 m
   refine have av:=Bi (P:=prog) 3 m AJ f (s:=2) rfl rfl rfl;have m:=m.fr 2;have m:=m.fr 1;have m:=m.eraseAt 3;have m:Mem W am w (ar::aj::H):=m.eraseAt 2;have m:=m.eraseAt 1;?_
   obtain rfl:=sj hd
   exact⟨[(.agg #[sn]),(.bool false)],⟨av,f.get _ _ Z,trivial⟩,f.d,_,[ar],(gt ag ao),m,_,_,Z,Z,au⟩
  ·refine Ai f Z ap (Ap (Ae (AA 0 0 (ds:=[ai]) m AJ f Z Z Z Z Z λa f=>Ab f Z λa f=>Ah f Z Z Be λa f=>have m:=m.fr 1;Bd hd λaw ax hd=>AI f Z call60 (Wk.C0 m ak ax) λay az aA w aB m aC a f=> ?_)))
   obtain⟨aD,rfl,rfl,aE⟩:=aC
   refine Am 2 0 (ds:=[ai]) m sizeOf26 f Z Z Z (Ak (Ow2.one1 0 m aE Z) As) Z (lb Z) Z λw m=>Ac f Z λa f=>Aa (Ar (have aF:=Bi (P:=prog) 2 m AJ f (s:=2) rfl rfl rfl;have m:=m.eraseAt 2;have m:=m.eraseAt 1;?_))
   obtain rfl:=sj hd
   exact⟨[(.agg #[ai]),(.bool true)],⟨aF,f.get _ _ Z,trivial⟩,f.d,_,[aD],(gt ag (gt ao aB)),m,_,_,Z,Z,aE⟩
theorem Wk.k1 {b0:Nat}{aa:Value}{ab:LI}{ac ad x1:Int}(m:Mem W G w (ib b0 66 [aa,iv ac,iv ad]::H))(ae:RSl (RI .u8) G aa ab){y:(LL)×(LI)×Int×Int}(hd:D.k1 ab ac ad x1=some y):
  Calls prog 93 #[pb b0,iv x1] w (Res W G H (λG' Ho v=>∃r0:Value,∃i0:Itm,∃r2:Value,Ho=[i0,Ba b0 y.2.2.1 y.2.2.2 r2]∧v=(.agg #[r0])∧Ow2 R0 30 2 G' i0 r0 y.1∧RSl (RI .u8) G' r2 y.2.1)):=by
 refine Au (args:=[pb b0,iv x1]) (N:=33) [.cell 4 26] func93 Z Z (lb Z) Z λa f=> ?_
 unfold D.k1 at hd
 refine Ae (AP (cs:=[sn]) zeroValue26 m f Z Z λaf w a m f=>Ay (Ab f Z λa f=>Bd hd λag ah hd=>AI f Z call57 (Wk.Y m ah) λai aj ak w al m am a f=> ?_))
 obtain⟨an,ao,rfl,rfl,ap⟩:=am
 refine have ae:=rd1 al ae;AP (cs:=[sn]) zeroValue26 m f Z Z λaq w a m f=>Am 0 0 (ds:=[an]) m sizeOf26 f Z Z Z (Ak (Ow2.one1 1 m ap Z) As) Z (lb Z) Z λw m=>Ay (Ab f Z λa f=>have m:=m.fr 3;Bd hd λar au hd=>AI f Z call36 (Wk.a m ae au) λav aw ax w ay m az a f=> ?_)
 obtain⟨aA,rfl,rfl,aB⟩:=az
 refine have ap:=od2 ay ap;Ah f Z Z Ax λa f=>Ac f Z λa f=>Aa (Ag (Ae (Ac f Z λa f=>Aa (Bd hd λaC aD hd=> ?_))))
 refine AL (λa w=>∃aE:LL,∃aF:LI,∃aG:Int,∃aH:Int,(aE,aF,aG,aH)=aC∧∃(aI:GH) (aJ:Itm) (aK:Value),GLe aw aI∧Fr a 33 [(4,pb af),(5,pb aq)]∧Mem W aI w (ib af 26 [sn]::ib aq 26 [an]::ib b0 66 [aK,iv aG,iv aH]::aJ::H)∧Ow2 R0 30 2 aI aJ an aE∧RSl (RI .u8) aI aK aF) ?_ ?_
 ·refine Ao (have m:=m.fr 3;have m:=m.fr 1;AM (λaL a w=>∃aM:Int,∃aN:LI,∃aO:Int,∃aP:Int,∃aQ:LL,(aM,aN,aO,aP,aQ)=aL∧∃(aR:GH) (aS:Value) (aT:Itm),GLe aw aR∧Fr a 33 [(0,pb b0),(1,iv x1),(4,pb af),(5,pb aq),(6,(iv (i64.wrap (1+ar.1)))),(7,iv aM)]∧Mem W aR w (ib b0 66 [aS,iv aO,iv aP]::ib af 26 [sn]::ib aq 26 [an]::aT::H)∧RSl (RI .u8) aR aS aN∧Ow2 R0 30 2 aR aT an aQ) aD ⟨_,_,_,_,_,Z,_,aA,ao,gr,f.k Z,m,aB,ap⟩ ?_)
  clear aD f m
  rintro aL aU aV aW a w ⟨aM,aN,aO,aP,aQ,rfl,aR,aS,aT,aX,f,m,aY,aZ⟩
  refine Ag (Ae (Ab f Z λa f=>Ab f Z λa f=>Ah f Z Z AV λa f=>Aa ?_))
  rcases Af aV with⟨a0,aV⟩|⟨a0,aV⟩
  ·refine Al f Z a0 (Ap (Ag (Ao (Ae (Ac f Z λa f=>Aa (Bd aV λa1 a2 aV=> ?_))))))
   refine AL (λa w=>∃a3:LI,∃a4:Int,∃a5:Int,∃a6:LL,(a3,a4,a5,a6)=a1∧∃(a7:GH) (a8:Value) (a9:Itm),GLe aR a7∧Fr a 33 [(0,pb b0),(1,iv x1),(4,pb af),(5,pb aq),(6,(iv (i64.wrap (1+ar.1)))),(7,iv aM)]∧Mem W a7 w (ib b0 66 [a8,iv a4,iv a5]::ib af 26 [sn]::ib aq 26 [an]::a9::H)∧RSl (RI .u8) a7 a8 a3∧Ow2 R0 30 2 a7 a9 an a6) ?_ ?_
   ·refine Ao (AM (λba a w=>∃bb:Int,∃bc:LI,∃bd:Int,∃be:Int,∃bf:LL,(bb,bc,bd,be,bf)=ba∧∃(bg:GH) (bh:Value) (bi:Itm),GLe aR bg∧Fr a 33 [(0,pb b0),(1,iv x1),(4,pb af),(5,pb aq),(6,(iv (i64.wrap (1+ar.1)))),(7,iv aM),(8,iv bb)]∧Mem W bg w (ib b0 66 [bh,iv bd,iv be]::ib af 26 [sn]::ib aq 26 [an]::bi::H)∧RSl (RI .u8) bg bh bc∧Ow2 R0 30 2 bg bi an bf) a2 ⟨_,_,_,_,_,Z,_,aS,aT,gr,f.k Z,m,aY,aZ⟩ ?_)
    clear a2 f m
    rintro ba bj bk bl a w ⟨bb,bc,bd,be,bf,rfl,bg,bh,bi,bm,f,m,bn,bo⟩
    refine Ag (Ae (Ab f Z λa f=>Ab f Z λa f=>Ah f Z Z AV λa f=>Aa ?_))
    rcases Af bk with⟨bp,bk⟩|⟨bp,bk⟩
    ·refine Al f Z bp (Ap (Ag (Ao (Ae (Ab f Z λa f=>Bd bk λbq br bk=>AI f Z call36 (Wk.a m bn br) λbs bt bu w bv m bw a f=> ?_)))))
     obtain⟨bx,rfl,rfl,bz⟩:=bw
     refine have bo:=od2 bv bo;Ab f Z λa f=>Ah f Z Z AV λa f=>Aa ?_
     rcases Af bk with⟨bA,bk⟩|⟨bA,bk⟩
     ·refine Al f Z bA (Aq (AA 2 0 (ds:=[an]) m AJ f Z Z Z Z Z λa f=>Ab f Z λa f=>Ab f Z λa f=>have m:=m.fr 3;Bd bk λbB bC bk=>AI f Z call60 (Wk.C0 m bo bC) λbD bE bF w bG m bH a f=> ?_))
      obtain⟨bI,rfl,rfl,bJ⟩:=bH
      refine have bz:=rd1 bG bz;Am 3 0 (ds:=[an]) m sizeOf26 f Z Z Z (Ak (Ow2.one1 0 m bJ Z) As) Z (lb Z) Z λw m=>Aa (Aq (Ab f Z λa f=>Ah f Z Z Ax λa f=>Ac f Z λa f=>Aa (have m:=m.fr 3;have m:=m.fr 3;have m:=m.fr 3;?_)))
      obtain rfl:=sj bk
      exact⟨_,Z,_,_,_,_,_,Z,_,bx,bI,(gt bm (gt bv bG)),f.k Z,m,bz,bJ⟩
     ·refine Ai f Z bA (Ap (Aq (Ab f Z λa f=>Ah f Z Z Ax λa f=>Ac f Z λa f=>Aa ?_)))
      obtain rfl:=sj bk
      exact⟨_,Z,_,_,_,_,_,Z,_,bx,bi,(gt bm bv),f.k Z,m,bz,bo⟩
    ·refine Ai f Z bp (AK Z ?_)
     obtain rfl:=sj bk
     obtain rfl:=bl _ rfl
     exact⟨_,_,_,_,Z,_,bh,bi,bm,f.k Z,m,bn,bo⟩
   ·rintro a w ⟨a3,a4,a5,a6,rfl,a7,a8,a9,bK,f,m,bL,bM⟩
    refine Aq (Ab f Z λa f=>Ah f Z Z Ax λa f=>Ac f Z λa f=>Aa ?_)
    obtain rfl:=sj aV
    exact⟨_,Z,_,_,_,_,_,Z,_,a8,a9,(gt aX bK),f.k Z,m,bL,bM⟩
  ·refine Ai f Z a0 (AK Z (have m:=m.fr 2;have m:=m.fr 2;?_))
   obtain rfl:=sj aV
   obtain rfl:=aW _ rfl
   exact⟨_,_,_,_,Z,_,aT,aS,aX,f.k Z,m,aZ,aY⟩
 ·rintro a w ⟨aE,aF,aG,aH,rfl,aI,aJ,aK,bN,f,m,bO,bP⟩
  refine Ae (AA 1 0 (ds:=[an]) m AJ f Z Z Z Z Z λa f=>Am 0 0 (ds:=[an]) m sizeOf26 f Z Z Z (Ak (Ow2.one1 3 m bO Z) As) Z (lb Z) Z λw m=>Aa (Ar (have bQ:=Bi (P:=prog) 0 m AJ f (s:=4) rfl rfl rfl;have m:=m.fr 2;have m:=m.fr 3;have m:=m.eraseAt 3;have m:=m.eraseAt 2;?_)))
  obtain rfl:=sj hd
  exact⟨[(.agg #[an])],⟨bQ,trivial⟩,f.d,_,[aJ,ib b0 66 [aK,iv aG,iv aH]],(gt al (gt ay bN)),m,_,_,_,Z,Z,bO,bP⟩
theorem Wk.C1 {b0:Nat}{aa:Value}{ab:LI}{ac ad:Int}(m:Mem W G w (ib b0 66 [aa,iv ac,iv ad]::H))(ae:RSl (RI .u8) G aa ab){y:(LL)×(LI)×Int×Int}(hd:D.C1 ab ac ad=some y):
  Calls prog 55 #[pb b0] w (Res W G H (λG' Ho v=>∃r0:Value,∃i0:Itm,∃r2:Value,Ho=[i0,Ba b0 y.2.2.1 y.2.2.2 r2]∧v=(.agg #[r0])∧Ow2 R0 30 2 G' i0 r0 y.1∧RSl (RI .u8) G' r2 y.2.1)):=by
 refine Au (args:=[pb b0]) (N:=34) [.cell 2 26] func55 Z Z (lb Z) Z λa f=> ?_
 unfold D.C1 at hd
 refine Ae (AP (cs:=[sn]) zeroValue26 m f Z Z λaf w a m f=>Aa (Ag (Ae (Ab f Z λa f=>have m:=m.fr 1;Bd hd λag ah hd=>AI f Z call36 (Wk.a m ae ah) λai aj ak w al m am a f=> ?_))))
 obtain⟨an,rfl,rfl,ao⟩:=am
 refine Aa (Ao (Ae (Ah f Z Z BA λa f=>Ac f Z λa f=>Aa ?_)))
 rcases Af hd with⟨ap,hd⟩|⟨ap,hd⟩
 ·refine Al f Z ap (Ae (Ab f Z λa f=>Bd hd λaq ar hd=>AI f Z call36 (Wk.a m ao ar) λau av aw w ax m ay a f=> ?_))
  obtain⟨az,rfl,rfl,aA⟩:=ay
  refine Ah f Z Z Ax λa f=>Bd hd λaB aC hd=>AI f Z call91 (Wk.H1 m aC) λaD aE aF w aG m aH a f=> ?_
  obtain⟨aI,aJ,rfl,rfl,aK⟩:=aH
  refine have aA:=rd1 aG aA;Ab f Z λa f=>l_o f (AE (f.e Z) Z) λa f=>l_o f (AE (f.e Z) Z) λa f=>AP (cs:=[sn]) zeroValue26 m f Z Z λaL w a m f=>Am 0 0 (ds:=[aI]) m sizeOf26 f Z Z Z (Ak (Ow2.one1 1 m aK Z) As) Z (lb Z) Z λw m=>Ac f Z λa f=>Ay (AA 0 0 (ds:=[aI]) m AJ f Z Z Z Z Z λa f=>Am 3 0 (ds:=[aI]) m sizeOf26 f Z Z Z (Ak (Ow2.one1 1 m aK Z) As) Z (lb Z) Z λw m=>Aa (Ar (have aM:=Bi (P:=prog) 3 m AJ f (s:=2) rfl rfl rfl;have m:=m.fr 2;have m:=m.fr 2;have m:=m.eraseAt 3;have m:=m.eraseAt 2;?_)))
  obtain rfl:=sj hd
  exact⟨[(.agg #[aI])],⟨aM,trivial⟩,f.d,_,[aJ,Ba b0 aq.2.2.1 aq.2.2.2 az],(gt al (gt ax aG)),m,_,_,_,Z,Z,aK,aA⟩
 ·refine Ai f Z ap (Ae (Ah f Z Z BA λa f=>Ac f Z λa f=>Aa ?_))
  rcases Af hd with⟨aN,hd⟩|⟨aN,hd⟩
  ·refine Al f Z aN (Ae (Ab f Z λa f=>Bd hd λaO aP hd=>AI f Z call36 (Wk.a m ao aP) λaQ aR aS w aT m aU a f=> ?_))
   obtain⟨aV,rfl,rfl,aW⟩:=aU
   refine Ah f Z Z Ax λa f=>Bd hd λaX aY hd=>AI f Z call92 (Wk.J0 m aY) λaZ a0 a1 w a2 m a3 a f=> ?_
   obtain⟨a4,a5,rfl,rfl,a6⟩:=a3
   refine have aW:=rd1 a2 aW;Ab f Z λa f=>l_o f (AE (f.e Z) Z) λa f=>l_o f (AE (f.e Z) Z) λa f=>AP (cs:=[sn]) zeroValue26 m f Z Z λa7 w a m f=>Am 0 0 (ds:=[a4]) m sizeOf26 f Z Z Z (Ak (Ow2.one1 1 m a6 Z) As) Z (lb Z) Z λw m=>Ac f Z λa f=>Ay (AA 0 0 (ds:=[a4]) m AJ f Z Z Z Z Z λa f=>Am 3 0 (ds:=[a4]) m sizeOf26 f Z Z Z (Ak (Ow2.one1 1 m a6 Z) As) Z (lb Z) Z λw m=>Aa (Ar (have a8:=Bi (P:=prog) 3 m AJ f (s:=2) rfl rfl rfl;have m:=m.fr 2;have m:=m.fr 2;have m:=m.eraseAt 3;have m:=m.eraseAt 2;?_)))
   obtain rfl:=sj hd
   exact⟨[(.agg #[a4])],⟨a8,trivial⟩,f.d,_,[a5,Ba b0 aO.2.2.1 aO.2.2.2 aV],(gt al (gt aT a2)),m,_,_,_,Z,Z,a6,aW⟩
  ·refine Ai f Z aN (Ap (Ae (Ab f Z λa f=>Ab f Z λa f=>Bd hd λa9 ba hd=>AI f Z call36 (Wk.a m ao ba) λbb bc bd w be m bf a f=> ?_)))
   obtain⟨bg,rfl,rfl,bh⟩:=bf
   refine Ah f Z Z Ax λa f=>Bd hd λbi bj hd=>AI f Z call93 (Wk.k1 m bh bj) λbk bl bm w bn m bo a f=> ?_
   obtain⟨bp,bq,br,rfl,rfl,bs,bt⟩:=bo
   refine Am 2 0 (ds:=[bp]) m sizeOf26 f Z Z Z (Ak (Ow2.one1 0 m bs Z) As) Z (lb Z) Z λw m=>Aa (Ar (have bu:=Bi (P:=prog) 2 m AJ f (s:=2) rfl rfl rfl;have m:=m.eraseAt 2;?_))
   obtain rfl:=sj hd
   exact⟨[(.agg #[bp])],⟨bu,trivial⟩,f.d,_,[bq,Ba b0 bi.2.2.1 bi.2.2.2 br],(gt al (gt be bn)),m,_,_,_,Z,Z,bs,bt⟩
theorem Wk.a1 {b0:Nat}{aa:Value}{ab:LI}{ac ad:Int}(m:Mem W G w (ib b0 66 [aa,iv ac,iv ad]::H))(ae:RSl (RI .u8) G aa ab){y:(LL)×(LI)×Int×Int}(hd:D.a1 ab ac ad=some y):
  Calls prog 34 #[pb b0] w (Res W G H (λG' Ho v=>∃r0:Value,∃i0:Itm,∃r2:Value,Ho=[i0,Ba b0 y.2.2.1 y.2.2.2 r2]∧v=(.agg #[r0])∧Ow2 R0 30 2 G' i0 r0 y.1∧RSl (RI .u8) G' r2 y.2.1)):=by
 refine Au (args:=[pb b0]) (N:=56) [.cell 2 26] func34 Z Z (lb Z) Z λa f=> ?_
 unfold D.a1 at hd
 refine Ae (AP (cs:=[sn]) zeroValue26 m f Z Z λaf w a m f=>Ay (Ab f Z λa f=>have m:=m.fr 1;Bd hd λag ah hd=>AI f Z call55 (Wk.C1 m ae ah) λai aj ak w al m am a f=> ?_))
 obtain⟨an,ao,ap,rfl,rfl,aq,ar⟩:=am
 refine AP (cs:=[sn]) zeroValue26 m f Z Z λau w a m f=>Am 0 0 (ds:=[an]) m sizeOf26 f Z Z Z (Ak (Ow2.one1 1 m aq Z) As) Z (lb Z) Z λw m=>Aa (Ag (Ae (Ab f Z λa f=>have m:=m.fr 2;Bd hd λav aw hd=>AI f Z call33 (Wk.m m ar aw) λax ay az w aA m aB a f=> ?_)))
 obtain⟨aC,rfl,rfl,aD⟩:=aB
 refine have aq:=od2 aA aq;Aa ?_
 rcases Af hd with⟨aE,hd⟩|⟨aE,hd⟩
 ·refine Al f Z aE (Ae (Ab f Z λa f=>Bu underlying26 Z sizeOf24 f Z λa f=>AG 1 0 m BC f Z Z Z Z λa f=>l_own2_len 2 m aq Z underlying24 f Z Z λa f=>Bd hd λaF aG hd=>AI f Z call36 (Wk.a m aD aG) λaH aI aJ w aK m aL a f=> ?_))
  obtain⟨aM,rfl,rfl,aN⟩:=aL
  refine have aq:=od2 aK aq;Ac f Z λa f=>Ay (Ab f Z λa f=>Bd hd λaO aP hd=>AI f Z call36 (Wk.a m aN aP) λaQ aR aS w aT m aU a f=> ?_)
  obtain⟨aV,rfl,rfl,aW⟩:=aU
  refine have aq:=od2 aT aq;Aa (Ao (Ae (Ah f Z Z BA λa f=>Ac f Z λa f=>Aa ?_)))
  rcases Af hd with⟨aX,hd⟩|⟨aX,hd⟩
  ·refine Al f Z aX (Bd hd λaY aZ hd=> ?_)
   refine AL (λa w=>∃a0:LL,∃a1:LI,∃a2:Int,∃a3:Int,(a0,a1,a2,a3)=aY∧∃(a4:GH) (a5:Itm) (a6:Value),GLe aR a4∧Fr a 56 [(2,pb af),(3,pb au)]∧Mem W a4 w (ib af 26 [sn]::ib au 26 [an]::ib b0 66 [a6,iv a2,iv a3]::a5::H)∧Ow2 R0 30 2 a4 a5 an a0∧RSl (RI .u8) a4 a6 a1) ?_ ?_
   ·refine have m:=m.fr 2;DY [ao,Ba b0 aO.2.2.1 aO.2.2.2 aV] (ib au 26 [an]::ib af 26 [sn]::H) 12 AF (by kernel_rfl) m (BE 0 12 underlying26 Z sizeOf24 Z f Z λa f=>Bf 1 12 0 BC Z Z Z f Z λa f=>Aj 2 12 Z f Z λa f=>BE 3 12 underlying26 Z sizeOf24 Z f Z λa f=>Bf 4 12 0 BC Z Z Z f Z λa f=>Aj 5 12 Z f Z λa f=>Aj 8 12 Z f Z λa f=>CD (i:=6) (j:=9) (l1:= #[true,true,true,true,true,true,true,false,true,false,false,false,false,false]) (l2:= #[true,true,true,true,true,true,false,false,true,true,false,false,false,false]) Z Z (by kernel_rfl) Z Z ?_ ?_)
    ·intro a7 w a8 m a9 a9
     refine have aq:=od2 a8 aq;have aW:=rd1 a8 aW;Bd aZ λba bb aZ=>Dj 0 m aq Z T24 f Z Z Z bb λbc a bd f=>Aa (a9 a7 [ao,Ba b0 aO.2.2.1 aO.2.2.2 aV] _ _ gr m (CD (i:=7) (j:=9) (l1:= #[true,true,true,true,true,true,true,true,true,false,false,false,false,false]) (l2:= #[true,true,true,true,true,true,true,false,true,true,false,false,false,false]) Z Z (by kernel_rfl) Z Z ?_ ?_))
     ·intro be w bf m bg bg
      refine have aq:=od2 bf aq;have aW:=rd1 bf aW;CE 0 m aq Z BU f Z Z bd bb λbh a bi f=>Aa (bg be [ao,Ba b0 aO.2.2.1 aO.2.2.2 aV] _ _ gr m (Bh 9 Z λbj w bk m bl bl=>have aq:=od2 bk aq;have aW:=rd1 bk aW;have m:=m.fr 1;Bd aZ λbm bn aZ=>AI f Z call56 (Wk.F0 m aW bn) λbo bp bq w br m bs a f=> ?_))
      obtain⟨bt,rfl,rfl,bu⟩:=bs
      refine have aq:=od2 br aq;Aa (bl bp [Ba b0 bm.2.2.1 bm.2.2.2 bt,ao] _ _ br m (Bh 10 Z λbv w bw m bx bx=>have bu:=rd1 bw bu;have aq:=od2 bw aq;A9 (R:=R0) (xs:=([bm.1]:LI)) (RI.one _) m T30 f Z Z Z (by decide) (All2.cons Z (All2.nil _)) λbz bA w a m bB f=>Aa (bx bv [bz,Ba b0 bm.2.2.1 bm.2.2.2 bt,ao] _ _ gr m (Bh 11 Z λbC w bD m bE bE=>have bB:=od1 bD bB;have bu:=rd1 bD bu;have aq:=od2 bD aq;have m:=m.fr 2;?_))))
      obtain⟨bF,bG,m,bH,bI⟩:=Ow2.out aq m bb bi
      refine Bd aZ λbJ bK aZ=>Bm (RI.one _) 1 m bI Z T30 Z (by decide) f Z Z Z (Ow.src (j:=2) bB m Z) bK λbL bM w a m bN f=>Aa (bE bC [bF,bL,bz,Ba b0 bm.2.2.1 bm.2.2.2 bt] _ _ gr m (AO λbO w bP m=>have bH:=OwH.mono (RI.mono _) bP bH;have bN:=od1 bP bN;have bu:=rd1 bP bu;Bd aZ λbQ bR aZ=>CY 0 m bH Z T24 f Z Z Z bR λbS a bT f=>Cz m bH bN sizeOf30 f Z Z bT λbU w m bV=>Aa (have m:=m.fr 2;have m:=m.fr 3;have m:=m.fr 4;have m:=m.eraseAt 4;?_)))
      obtain rfl:=sj aZ
      exact⟨_,_,_,_,Z,_,bU,bt,(gt a8 (gt bf (gt bk (gt br (gt bw (gt bD bP)))))),f.k Z,m,bV,bu⟩
     ·intro bj w bk m bl bl
      refine Bd aZ λbm bn aZ=>Bd aZ λbJ bK aZ=>Bd aZ λbQ bR aZ=>have aq:=od2 bk aq;have aW:=rd1 bk aW;have m:=m.fr 1;AI f Z call56 (Wk.F0 m aW bn) λbo bp bq w br m bs a f=> ?_
      obtain⟨bt,rfl,rfl,bu⟩:=bs
      refine have aq:=od2 br aq;Aa (bl bp [Ba b0 bm.2.2.1 bm.2.2.2 bt,ao] _ _ br m (CD (i:=7) (j:=10) (l1:= #[true,true,true,true,true,true,true,true,true,true,false,false,false,false]) (l2:= #[true,true,true,true,true,true,true,false,true,true,true,false,false,false]) Z Z (by kernel_rfl) Z Z ?_ ?_))
      ·intro be w bf m bg bg
       refine have bu:=rd1 bf bu;have aq:=od2 bf aq;CE 1 m aq Z BU f Z Z bd bb λbh a bi f=>Aa (bg be [Ba b0 bm.2.2.1 bm.2.2.2 bt,ao] _ _ gr m (Bh 10 Z λbv w bw m bx bx=>have bu:=rd1 bw bu;have aq:=od2 bw aq;A9 (R:=R0) (xs:=([bm.1]:LI)) (RI.one _) m T30 f Z Z Z (by decide) (All2.cons Z (All2.nil _)) λbz bA w a m bB f=>Aa (bx bv [bz,Ba b0 bm.2.2.1 bm.2.2.2 bt,ao] _ _ gr m (Bh 11 Z λbC w bD m bE bE=>have bB:=od1 bD bB;have bu:=rd1 bD bu;have aq:=od2 bD aq;have m:=m.fr 2;?_))))
       obtain⟨bF,bG,m,bH,bI⟩:=Ow2.out aq m bb bi
       refine Bm (RI.one _) 1 m bI Z T30 Z (by decide) f Z Z Z (Ow.src (j:=2) bB m Z) bK λbL bM w a m bN f=>Aa (bE bC [bF,bL,bz,Ba b0 bm.2.2.1 bm.2.2.2 bt] _ _ gr m (AO λbO w bP m=>have bH:=OwH.mono (RI.mono _) bP bH;have bN:=od1 bP bN;have bu:=rd1 bP bu;CY 0 m bH Z T24 f Z Z Z bR λbS a bT f=>Cz m bH bN sizeOf30 f Z Z bT λbU w m bV=>Aa (have m:=m.fr 2;have m:=m.fr 3;have m:=m.fr 4;have m:=m.eraseAt 4;?_)))
       obtain rfl:=sj aZ
       exact⟨_,_,_,_,Z,_,bU,bt,(gt a8 (gt bk (gt br (gt bf (gt bw (gt bD bP)))))),f.k Z,m,bV,bu⟩
      ·intro bv w bw m bx bx
       refine have bu:=rd1 bw bu;have aq:=od2 bw aq;A9 (R:=R0) (xs:=([bm.1]:LI)) (RI.one _) m T30 f Z Z Z (by decide) (All2.cons Z (All2.nil _)) λbz bA w a m bB f=>Aa (bx bv [bz,Ba b0 bm.2.2.1 bm.2.2.2 bt,ao] _ _ gr m (Bh 7 Z λbe w bf m bg bg=>have bB:=od1 bf bB;have bu:=rd1 bf bu;have aq:=od2 bf aq;CE 2 m aq Z BU f Z Z bd bb λbh a bi f=>Aa (bg be [bz,Ba b0 bm.2.2.1 bm.2.2.2 bt,ao] _ _ gr m (Bh 11 Z λbC w bD m bE bE=>have bB:=od1 bD bB;have bu:=rd1 bD bu;have aq:=od2 bD aq;have m:=m.fr 2;?_))))
       obtain⟨bF,bG,m,bH,bI⟩:=Ow2.out aq m bb bi
       refine Bm (RI.one _) 1 m bI Z T30 Z (by decide) f Z Z Z (Ow.src (j:=2) bB m Z) bK λbL bM w a m bN f=>Aa (bE bC [bF,bL,bz,Ba b0 bm.2.2.1 bm.2.2.2 bt] _ _ gr m (AO λbO w bP m=>have bH:=OwH.mono (RI.mono _) bP bH;have bN:=od1 bP bN;have bu:=rd1 bP bu;CY 0 m bH Z T24 f Z Z Z bR λbS a bT f=>Cz m bH bN sizeOf30 f Z Z bT λbU w m bV=>Aa (have m:=m.fr 2;have m:=m.fr 3;have m:=m.fr 4;have m:=m.eraseAt 4;?_)))
       obtain rfl:=sj aZ
       exact⟨_,_,_,_,Z,_,bU,bt,(gt a8 (gt bk (gt br (gt bw (gt bf (gt bD bP)))))),f.k Z,m,bV,bu⟩
    ·intro bj w bk m bl bl
     refine Bd aZ λba bb aZ=>Bd aZ λbm bn aZ=>Bd aZ λbJ bK aZ=>Bd aZ λbQ bR aZ=>have aq:=od2 bk aq;have aW:=rd1 bk aW;have m:=m.fr 1;AI f Z call56 (Wk.F0 m aW bn) λbo bp bq w br m bs a f=> ?_
     obtain⟨bt,rfl,rfl,bu⟩:=bs
     refine have aq:=od2 br aq;Aa (bl bp [Ba b0 bm.2.2.1 bm.2.2.2 bt,ao] _ _ br m (CD (i:=6) (j:=10) (l1:= #[true,true,true,true,true,true,true,false,true,true,false,false,false,false]) (l2:= #[true,true,true,true,true,true,false,false,true,true,true,false,false,false]) Z Z (by kernel_rfl) Z Z ?_ ?_))
     ·intro a7 w a8 m a9 a9
      refine have bu:=rd1 a8 bu;have aq:=od2 a8 aq;Dj 1 m aq Z T24 f Z Z Z bb λbc a bd f=>Aa (a9 a7 [Ba b0 bm.2.2.1 bm.2.2.2 bt,ao] _ _ gr m (CD (i:=7) (j:=10) (l1:= #[true,true,true,true,true,true,true,true,true,true,false,false,false,false]) (l2:= #[true,true,true,true,true,true,true,false,true,true,true,false,false,false]) Z Z (by kernel_rfl) Z Z ?_ ?_))
      ·intro be w bf m bg bg
       refine have bu:=rd1 bf bu;have aq:=od2 bf aq;CE 1 m aq Z BU f Z Z bd bb λbh a bi f=>Aa (bg be [Ba b0 bm.2.2.1 bm.2.2.2 bt,ao] _ _ gr m (Bh 10 Z λbv w bw m bx bx=>have bu:=rd1 bw bu;have aq:=od2 bw aq;A9 (R:=R0) (xs:=([bm.1]:LI)) (RI.one _) m T30 f Z Z Z (by decide) (All2.cons Z (All2.nil _)) λbz bA w a m bB f=>Aa (bx bv [bz,Ba b0 bm.2.2.1 bm.2.2.2 bt,ao] _ _ gr m (Bh 11 Z λbC w bD m bE bE=>have bB:=od1 bD bB;have bu:=rd1 bD bu;have aq:=od2 bD aq;have m:=m.fr 2;?_))))
       obtain⟨bF,bG,m,bH,bI⟩:=Ow2.out aq m bb bi
       refine Bm (RI.one _) 1 m bI Z T30 Z (by decide) f Z Z Z (Ow.src (j:=2) bB m Z) bK λbL bM w a m bN f=>Aa (bE bC [bF,bL,bz,Ba b0 bm.2.2.1 bm.2.2.2 bt] _ _ gr m (AO λbO w bP m=>have bH:=OwH.mono (RI.mono _) bP bH;have bN:=od1 bP bN;have bu:=rd1 bP bu;CY 0 m bH Z T24 f Z Z Z bR λbS a bT f=>Cz m bH bN sizeOf30 f Z Z bT λbU w m bV=>Aa (have m:=m.fr 2;have m:=m.fr 3;have m:=m.fr 4;have m:=m.eraseAt 4;?_)))
       obtain rfl:=sj aZ
       exact⟨_,_,_,_,Z,_,bU,bt,(gt bk (gt br (gt a8 (gt bf (gt bw (gt bD bP)))))),f.k Z,m,bV,bu⟩
      ·intro bv w bw m bx bx
       refine have bu:=rd1 bw bu;have aq:=od2 bw aq;A9 (R:=R0) (xs:=([bm.1]:LI)) (RI.one _) m T30 f Z Z Z (by decide) (All2.cons Z (All2.nil _)) λbz bA w a m bB f=>Aa (bx bv [bz,Ba b0 bm.2.2.1 bm.2.2.2 bt,ao] _ _ gr m (Bh 7 Z λbe w bf m bg bg=>have bB:=od1 bf bB;have bu:=rd1 bf bu;have aq:=od2 bf aq;CE 2 m aq Z BU f Z Z bd bb λbh a bi f=>Aa (bg be [bz,Ba b0 bm.2.2.1 bm.2.2.2 bt,ao] _ _ gr m (Bh 11 Z λbC w bD m bE bE=>have bB:=od1 bD bB;have bu:=rd1 bD bu;have aq:=od2 bD aq;have m:=m.fr 2;?_))))
       obtain⟨bF,bG,m,bH,bI⟩:=Ow2.out aq m bb bi
       refine Bm (RI.one _) 1 m bI Z T30 Z (by decide) f Z Z Z (Ow.src (j:=2) bB m Z) bK λbL bM w a m bN f=>Aa (bE bC [bF,bL,bz,Ba b0 bm.2.2.1 bm.2.2.2 bt] _ _ gr m (AO λbO w bP m=>have bH:=OwH.mono (RI.mono _) bP bH;have bN:=od1 bP bN;have bu:=rd1 bP bu;CY 0 m bH Z T24 f Z Z Z bR λbS a bT f=>Cz m bH bN sizeOf30 f Z Z bT λbU w m bV=>Aa (have m:=m.fr 2;have m:=m.fr 3;have m:=m.fr 4;have m:=m.eraseAt 4;?_)))
       obtain rfl:=sj aZ
       exact⟨_,_,_,_,Z,_,bU,bt,(gt bk (gt br (gt a8 (gt bw (gt bf (gt bD bP)))))),f.k Z,m,bV,bu⟩
     ·intro bv w bw m bx bx
      refine have bu:=rd1 bw bu;have aq:=od2 bw aq;A9 (R:=R0) (xs:=([bm.1]:LI)) (RI.one _) m T30 f Z Z Z (by decide) (All2.cons Z (All2.nil _)) λbz bA w a m bB f=>Aa (bx bv [bz,Ba b0 bm.2.2.1 bm.2.2.2 bt,ao] _ _ gr m (Bh 6 Z λa7 w a8 m a9 a9=>have bB:=od1 a8 bB;have bu:=rd1 a8 bu;have aq:=od2 a8 aq;Dj 2 m aq Z T24 f Z Z Z bb λbc a bd f=>Aa (a9 a7 [bz,Ba b0 bm.2.2.1 bm.2.2.2 bt,ao] _ _ gr m (Bh 7 Z λbe w bf m bg bg=>have bB:=od1 bf bB;have bu:=rd1 bf bu;have aq:=od2 bf aq;CE 2 m aq Z BU f Z Z bd bb λbh a bi f=>Aa (bg be [bz,Ba b0 bm.2.2.1 bm.2.2.2 bt,ao] _ _ gr m (Bh 11 Z λbC w bD m bE bE=>have bB:=od1 bD bB;have bu:=rd1 bD bu;have aq:=od2 bD aq;have m:=m.fr 2;?_))))))
      obtain⟨bF,bG,m,bH,bI⟩:=Ow2.out aq m bb bi
      refine Bm (RI.one _) 1 m bI Z T30 Z (by decide) f Z Z Z (Ow.src (j:=2) bB m Z) bK λbL bM w a m bN f=>Aa (bE bC [bF,bL,bz,Ba b0 bm.2.2.1 bm.2.2.2 bt] _ _ gr m (AO λbO w bP m=>have bH:=OwH.mono (RI.mono _) bP bH;have bN:=od1 bP bN;have bu:=rd1 bP bu;CY 0 m bH Z T24 f Z Z Z bR λbS a bT f=>Cz m bH bN sizeOf30 f Z Z bT λbU w m bV=>Aa (have m:=m.fr 2;have m:=m.fr 3;have m:=m.fr 4;have m:=m.eraseAt 4;?_)))
      obtain rfl:=sj aZ
      exact⟨_,_,_,_,Z,_,bU,bt,(gt bk (gt br (gt bw (gt a8 (gt bf (gt bD bP)))))),f.k Z,m,bV,bu⟩
   ·rintro a w ⟨a0,a1,a2,a3,rfl,a4,a5,a6,bW,f,m,bX,bY⟩
    refine Ae (AA 1 0 (ds:=[an]) m AJ f Z Z Z Z Z λa f=>Am 0 0 (ds:=[an]) m sizeOf26 f Z Z Z (Ak (Ow2.one1 3 m bX Z) As) Z (lb Z) Z λw m=>Aa (Ar (have bZ:=Bi (P:=prog) 0 m AJ f (s:=2) rfl rfl rfl;have m:=m.fr 2;have m:=m.fr 3;have m:=m.eraseAt 3;have m:=m.eraseAt 2;?_)))
    obtain rfl:=sj hd
    exact⟨[(.agg #[an])],⟨bZ,trivial⟩,f.d,_,[a5,ib b0 66 [a6,iv a2,iv a3]],(gt al (gt aA (gt aK (gt aT bW)))),m,_,_,_,Z,Z,bX,bY⟩
  ·refine Ai f Z aX (Ae (Ah f Z Z BA λa f=>Ac f Z λa f=>Aa ?_))
   rcases Af hd with⟨b1,hd⟩|⟨b1,hd⟩
   ·refine Al f Z b1 (Aq (Bu underlying26 Z sizeOf24 f Z λa f=>AG 1 0 m BC f Z Z Z Z λa f=>Ab f Z λa f=>Ab f Z λa f=>A9 (R:=R0) (xs:=([aF.1]:LI)) (RI.one _) m T30 f Z Z Z (by decide) (All2.cons Z (All2.nil _)) λb2 b3 w a m b4 f=>Bd hd λb5 b6 hd=>Dj 3 m aq Z T24 f Z Z Z b6 λb7 a b8 f=>have m:=m.fr 3;F8 m aq b4 sizeOf30 f Z Z b8 b6 λb9 w m ca=>Ay (AA 2 0 (ds:=[an]) m AJ f Z Z Z Z Z λa f=>Am 3 0 (ds:=[an]) m sizeOf26 f Z Z Z (Ak (Ow2.one1 0 m ca Z) As) Z (lb Z) Z λw m=>Aa (Ar (have cb:=Bi (P:=prog) 3 m AJ f (s:=2) rfl rfl rfl;have m:=m.eraseAt 3;have m:=m.eraseAt 2;?_)))))
    obtain rfl:=sj hd
    exact⟨[(.agg #[an])],⟨cb,trivial⟩,f.d,_,[b9,Ba b0 aO.2.2.1 aO.2.2.2 aV],(gt al (gt aA (gt aK aT))),m,_,_,_,Z,Z,ca,aW⟩
   ·refine Ai f Z b1 (Ae (Ah f Z Z BA λa f=>Ac f Z λa f=>Aa ?_))
    rcases Af hd with⟨cc,hd⟩|⟨cc,hd⟩
    ·refine Al f Z cc (Aq (Ab f Z λa f=>Bd hd λcd ce hd=>AI f Z call36 (Wk.a m aW ce) λcf cg ch w ci m cj a f=> ?_))
     obtain⟨ck,rfl,rfl,cl⟩:=cj
     refine Ah f Z Z Ax λa f=>Bd hd λcm cn hd=>AI f Z call57 (Wk.Y m cn) λco cp cq w cr m ct a f=> ?_
     obtain⟨cu,cv,rfl,rfl,cw⟩:=ct
     refine have cl:=rd1 cr cl;Am 2 0 (ds:=[cu]) m sizeOf26 f Z Z Z (Ak (Ow2.one1 0 m cw Z) As) Z (lb Z) Z λw m=>Ay (AA 2 0 (ds:=[cu]) m AJ f Z Z Z Z Z λa f=>Am 4 0 (ds:=[cu]) m sizeOf26 f Z Z Z (Ak (Ow2.one1 0 m cw Z) As) Z (lb Z) Z λw m=>Aa (Ar (have cx:=Bi (P:=prog) 4 m AJ f (s:=2) rfl rfl rfl;have m:=m.fr 3;have m:=m.fr 2;have m:=m.fr 2;have m:Mem W cp w (cv::Ba b0 cd.2.2.1 cd.2.2.2 ck::ao::ib au 26 [cu]::H):=m.eraseAt 4;have m:=m.eraseAt 3;have m:=m.eraseAt 2;?_)))
     obtain rfl:=sj hd
     exact⟨[(.agg #[cu])],⟨cx,trivial⟩,f.d,_,[cv,Ba b0 cd.2.2.1 cd.2.2.2 ck],(gt al (gt aA (gt aK (gt aT (gt ci cr))))),m,_,_,_,Z,Z,cw,cl⟩
    ·refine Ai f Z cc (Ae (Ah f Z Z BA λa f=>Ac f Z λa f=>Aa ?_))
     rcases Af hd with⟨cy,hd⟩|⟨cy,hd⟩
     ·refine Al f Z cy (Aq ?_)
      have cz:∀w,(Instr.build 26 #[]).run prog w= .ok (.agg #[sn]) w:=by intro w;simp[Instr.build,Instr.fill,Bb,A6,AT,A2,AQ,Bc,A7]
      refine Bv f Z Z cz λa f=>Am 1 0 (ds:=[sn]) m sizeOf26 f Z Z Z (Ak Z As) Z (lb Z) Z λw m=>Ay (AA 1 0 (ds:=[sn]) m AJ f Z Z Z Z Z λa f=>Am 3 0 (ds:=[sn]) m sizeOf26 f Z Z Z (Ak Z As) Z (lb Z) Z λw m=>Aa (Ar ?_))
      obtain⟨cA,m,cB⟩:=Ow2.nil R0 30 2 m
      refine have cC:=Bi (P:=prog) 4 m AJ f (s:=2) rfl rfl rfl;have m:=m.eraseAt 4;have m:=m.eraseAt 3;have m:=m.eraseAt 2;?_
      obtain rfl:=sj hd
      exact⟨[(.agg #[sn])],⟨cC,trivial⟩,f.d,_,[cA,Ba b0 aO.2.2.1 aO.2.2.2 aV],(gt al (gt aA (gt aK aT))),m,_,_,_,Z,Z,cB,aW⟩
     ·refine Ai f Z cy (Ae (Ah f Z Z BA λa f=>Ac f Z λa f=>Aa ?_))
      rcases Af hd with⟨cD,hd⟩|⟨cD,hd⟩
      ·refine Al f Z cD (Aq (Bu underlying26 Z sizeOf24 f Z λa f=>AG 1 0 m BC f Z Z Z Z λa f=>Ab f Z λa f=>A9 (R:=R0) (xs:=([]:LI)) (RI.one _) m T30 f Z Z Z (by decide) (All2.nil _) λcE cF w a m cG f=>Bd hd λcH cI hd=>Dj 3 m aq Z T24 f Z Z Z cI λcJ a cK f=>have m:=m.fr 3;F8 m aq cG sizeOf30 f Z Z cK cI λcL w m cM=>Ay (AA 2 0 (ds:=[an]) m AJ f Z Z Z Z Z λa f=>Am 3 0 (ds:=[an]) m sizeOf26 f Z Z Z (Ak (Ow2.one1 0 m cM Z) As) Z (lb Z) Z λw m=>Aa (Ar (have cN:=Bi (P:=prog) 3 m AJ f (s:=2) rfl rfl rfl;have m:=m.eraseAt 3;have m:=m.eraseAt 2;?_)))))
       obtain rfl:=sj hd
       exact⟨[(.agg #[an])],⟨cN,trivial⟩,f.d,_,[cL,Ba b0 aO.2.2.1 aO.2.2.2 aV],(gt al (gt aA (gt aK aT))),m,_,_,_,Z,Z,cM,aW⟩
      ·refine Ai f Z cD (Ap (Ae (AA 1 0 (ds:=[an]) m AJ f Z Z Z Z Z λa f=>Am 3 0 (ds:=[an]) m sizeOf26 f Z Z Z (Ak (Ow2.one1 2 m aq Z) As) Z (lb Z) Z λw m=>Aa (Ar (have cO:=Bi (P:=prog) 3 m AJ f (s:=2) rfl rfl rfl;have m:=m.fr 2;have m:=m.eraseAt 3;have m:=m.eraseAt 2;?_)))))
       obtain rfl:=sj hd
       exact⟨[(.agg #[an])],⟨cO,trivial⟩,f.d,_,[ao,Ba b0 aO.2.2.1 aO.2.2.2 aV],(gt al (gt aA (gt aK aT))),m,_,_,_,Z,Z,aq,aW⟩
 ·refine Ai f Z aE (Ap (Ae (AA 1 0 (ds:=[an]) m AJ f Z Z Z Z Z λa f=>Am 3 0 (ds:=[an]) m sizeOf26 f Z Z Z (Ak (Ow2.one1 2 m aq Z) As) Z (lb Z) Z λw m=>Aa (Ar (have cP:=Bi (P:=prog) 3 m AJ f (s:=2) rfl rfl rfl;have m:=m.fr 2;have m:=m.eraseAt 3;have m:=m.eraseAt 2;?_)))))
  obtain rfl:=sj hd
  exact⟨[(.agg #[an])],⟨cP,trivial⟩,f.d,_,[ao,Ba b0 av.2.2.1 av.2.2.2 aC],(gt al aA),m,_,_,_,Z,Z,aq,aD⟩
theorem Wk.h0 {x0:Int}(m:Mem W G w (H)){y:Int×Int}(hd:D.h0 x0=some y):
  Calls prog 58 #[iv x0] w (Res W G H (λ_ Ho v=>Ho=[]∧v= .tuple #[iv y.1,iv y.2])):=by
 refine Au (args:=[iv x0]) (N:=13) [.tmp 2,.tmp 3] func58 Z Z (lb Z) Z λa f=> ?_
 unfold D.h0 at hd
 refine Ae (Ac f Z λa f=>Ac f Z λa f=>Aa (Ag (Ae (Ab f Z λa f=>Aa (Ao (Ae (Ah f Z Z BA λa f=>Ac f Z λa f=>Aa ?_)))))))
 rcases Af hd with⟨aa,hd⟩|⟨aa,hd⟩
 ·refine Al f Z aa (Ae (Ac f Z λa f=>Ac f Z λa f=>Aa (Ar ?_)))
  obtain rfl:=sj hd
  exact⟨[iv 5,iv 0],⟨f.get _ _ Z,f.get _ _ Z,trivial⟩,f.d,_,[],gr,m,Z,Z⟩
 ·refine Ai f Z aa (Ae (Ah f Z Z BA λa f=>Ac f Z λa f=>Aa ?_))
  rcases Af hd with⟨ab,hd⟩|⟨ab,hd⟩
  ·refine Al f Z ab (Ae (Ac f Z λa f=>Ac f Z λa f=>Aa (Ar ?_)))
   obtain rfl:=sj hd
   exact⟨[iv 3,iv 3],⟨f.get _ _ Z,f.get _ _ Z,trivial⟩,f.d,_,[],gr,m,Z,Z⟩
  ·refine Ai f Z ab (Ae (Ah f Z Z BA λa f=>Ac f Z λa f=>Aa ?_))
   rcases Af hd with⟨ac,hd⟩|⟨ac,hd⟩
   ·refine Al f Z ac (Ae (Ac f Z λa f=>Ac f Z λa f=>Aa (Ar ?_)))
    obtain rfl:=sj hd
    exact⟨[iv 4,iv 0],⟨f.get _ _ Z,f.get _ _ Z,trivial⟩,f.d,_,[],gr,m,Z,Z⟩
   ·refine Ai f Z ac (Ae (Ah f Z Z BA λa f=>Ac f Z λa f=>Aa ?_))
    rcases Af hd with⟨ad,hd⟩|⟨ad,hd⟩
    ·refine Al f Z ad (Ae (Ac f Z λa f=>Ac f Z λa f=>Aa (Ar ?_)))
     obtain rfl:=sj hd
     exact⟨[iv 2,iv 3],⟨f.get _ _ Z,f.get _ _ Z,trivial⟩,f.d,_,[],gr,m,Z,Z⟩
    ·refine Ai f Z ad (Ap (Ae (Ac f Z λa f=>Ac f Z λa f=>Aa (Ar ?_))))
     obtain rfl:=sj hd
     exact⟨[iv 0,iv 0],⟨f.get _ _ Z,f.get _ _ Z,trivial⟩,f.d,_,[],gr,m,Z,Z⟩
theorem Wk.l1 {x0:Int}(m:Mem W G w (H)){y:(LL)}(hd:D.l1 x0=some y):
  Calls prog 59 #[iv x0] w (Res W G H (λG' Ho v=>∃r0:Value,∃i0:Itm,Ho=[i0]∧r0=v∧Ow R1 87 G' i0 r0 y)):=by
 refine Au (args:=[iv x0]) (N:=49) [.tmp 2] func59 Z Z (lb Z) Z λa f=> ?_
 unfold D.l1 at hd
 refine Ae (Ac f Z λa f=>Ay (Ab f Z λa f=>Bd hd λaa ab hd=>Bj f Z call58 (Wk.h0 m ab) λac w ad m a f=>Ab f Z λa f=>l_o f (AE (f.e Z) Z) λa f=>l_o f (AE (f.e Z) Z) λa f=>Ac f Z λa f=>Ac f Z λa f=>Ay (A9 (R:=R1) (xs:=([]:LL)) (RSl.one _) m T79 f Z Z Z (by decide) (All2.nil _) λae af w a m ag f=>Ac f Z λa f=>Aa (Ag (Ae (Ac f Z λa f=>Aa (Bd hd λah ai hd=> ?_)))))))
 refine AL (λa w=>∃aj:LL,aj=ah∧∃(ak:GH) (al:Value) (am:Itm),GLe ac ak∧Fr a 49 [(5,al)]∧Mem W ak w (am::H)∧Ow R1 87 ak am al aj) ?_ ?_
 ·refine Ao (AM (λan a w=>∃ao:LL,∃ap:Int,(ao,ap)=an∧∃(aq:GH) (ar:Value) (au:Itm),GLe ac aq∧Fr a 49 [(3,iv aa.1),(4,iv aa.2),(5,ar),(6,iv ap)]∧Mem W aq w (au::H)∧Ow R1 87 aq au ar ao) ai ⟨_,_,Z,_,af,ae,gr,f.k Z,m,ag⟩ ?_)
  clear ai f m
  rintro an av aw ax a w ⟨ao,ap,rfl,aq,ar,au,ay,f,m,az⟩
  refine Ag (Ae (Ab f Z λa f=>Ab f Z λa f=>Ah f Z Z AV λa f=>Aa ?_))
  rcases Af aw with⟨aA,aw⟩|⟨aA,aw⟩
  ·refine Al f Z aA (Ap (Ag (Ao (Ag (Ae (Ab f Z λa f=>Ah f Z Z BA λa f=>Aa (Bd aw λaB aC aw=> ?_)))))))
   refine AL (λa w=>∃aD:LL,aD=aB∧∃(aE:GH) (aF:Value) (aG:Itm),GLe aq aE∧Fr a 49 [(3,iv aa.1),(4,iv aa.2),(5,aF),(6,iv ap)]∧Mem W aE w (aG::H)∧Ow R1 87 aE aG aF aD) ?_ ?_
   ·rcases Af aC with⟨aH,aC⟩|⟨aH,aC⟩
    ·refine Al f Z aH (Ae (Ab f Z λa f=>Ah f Z Z Ax λa f=>Ac f Z λa f=>Aa (Bd aC λaI aJ aC=> ?_)))
     refine AL (λa w=>∃aK:LL,aK=aI∧∃(aL:GH) (aM:Value) (aN:Itm),GLe aq aL∧Fr a 49 [(3,iv aa.1),(4,iv aa.2),(5,aM),(6,iv ap)]∧Mem W aL w (aN::H)∧Ow R1 87 aL aN aM aK) ?_ ?_
     ·refine Ao (AM (λaO a w=>∃aP:LL,∃aQ:Int,(aP,aQ)=aO∧∃(aR:GH) (aS:Value) (aT:Itm),GLe aq aR∧Fr a 49 [(3,iv aa.1),(4,iv aa.2),(5,aS),(6,iv ap),(7,iv aQ)]∧Mem W aR w (aT::H)∧Ow R1 87 aR aT aS aP) aJ ⟨_,_,Z,_,ar,au,gr,f.k Z,m,az⟩ ?_)
      clear aJ f m
      rintro aO aU aV aW a w ⟨aP,aQ,rfl,aR,aS,aT,aX,f,m,aY⟩
      refine Ag (Ae (Ab f Z λa f=>Ab f Z λa f=>Ah f Z Z AV λa f=>Aa ?_))
      rcases Af aV with⟨aZ,aV⟩|⟨aZ,aV⟩
      ·refine Al f Z aZ (Ap (Ag (Ao (Aq (Ab f Z λa f=>Ab f Z λa f=>Ab f Z λa f=>A9 (R:=R0) (xs:=([ap,aQ]:LI)) (RI.one _) m T87 f Z Z Z (by decide) (All2.cons Z (All2.cons Z (All2.nil _))) λa0 a1 w a m a2 f=> ?_)))))
       obtain⟨a3,a4,m,a5⟩:=Ow.stamp (RI.mono _) a2 m
       refine have aY:=od3 a4 aY;A9 (R:=R1) (xs:=([([ap,aQ]:LI)]:LL)) (RSl.one _) m T79 f Z Z Z (by decide) (All2.cons a5 (All2.nil _)) λa6 a7 w a m a8 f=>Bd aV λa9 ba aV=>Bm (RSl.one _) 1 m aY Z T79 Z (by decide) f Z Z Z (Ow.src (j:=0) a8 m Z) ba λbb bc w a m bd f=>Ac f Z λa f=>Aa (Aq (Ab f Z λa f=>Ah f Z Z Ax λa f=>Ac f Z λa f=>Aa (have m:=m.fr 1;have m:=m.eraseAt 1;?_)))
       obtain rfl:=sj aV
       exact⟨_,Z,_,_,Z,_,bc,bb,(gt aX a4),f.k Z,m,bd⟩
      ·refine Ai f Z aZ (AK Z ?_)
       obtain rfl:=sj aV
       obtain rfl:=aW _ rfl
       exact⟨_,Z,_,aS,aT,aX,f.k Z,m,aY⟩
     ·rintro a w ⟨aK,rfl,aL,aM,aN,be,f,m,bf⟩
      obtain rfl:=sj aC
      exact⟨_,Z,_,aM,aN,be,f.k Z,m,bf⟩
    ·refine Ai f Z aH (Ap ?_)
     obtain rfl:=sj aC
     exact⟨_,Z,_,ar,au,gr,f.k Z,m,az⟩
   ·rintro a w ⟨aD,rfl,aE,aF,aG,bg,f,m,bh⟩
    refine Ae (Ac f Z λa f=>Aa (Bd aw λbi bj aw=> ?_))
    refine AL (λa w=>∃bk:LL,bk=bi∧∃(bl:GH) (bm:Value) (bn:Itm),GLe aE bl∧Fr a 49 [(3,iv aa.1),(4,iv aa.2),(5,bm),(6,iv ap)]∧Mem W bl w (bn::H)∧Ow R1 87 bl bn bm bk) ?_ ?_
    ·refine Ao (AM (λbo a w=>∃bp:LL,∃bq:Int,(bp,bq)=bo∧∃(br:GH) (bs:Value) (bt:Itm),GLe aE br∧Fr a 49 [(3,iv aa.1),(4,iv aa.2),(5,bs),(6,iv ap),(8,iv bq)]∧Mem W br w (bt::H)∧Ow R1 87 br bt bs bp) bj ⟨_,_,Z,_,aF,aG,gr,f.k Z,m,bh⟩ ?_)
     clear bj f m
     rintro bo bu bv bw a w ⟨bp,bq,rfl,br,bs,bt,bx,f,m,bz⟩
     refine Ag (Ae (Ab f Z λa f=>Ab f Z λa f=>Ah f Z Z AV λa f=>Aa ?_))
     rcases Af bv with⟨bA,bv⟩|⟨bA,bv⟩
     ·refine Al f Z bA (Ap (Ag (Ao (Aq (Ab f Z λa f=>Ab f Z λa f=>Ab f Z λa f=>Ab f Z λa f=>Ah f Z Z Ax λa f=>A9 (R:=R0) (xs:=([ap,(i64.wrap (aa.1+bq))]:LI)) (RI.one _) m T87 f Z Z Z (by decide) (All2.cons Z (All2.cons Z (All2.nil _))) λbB bC w a m bD f=> ?_)))))
      obtain⟨bE,bF,m,bG⟩:=Ow.stamp (RI.mono _) bD m
      refine have bz:=od3 bF bz;A9 (R:=R1) (xs:=([([ap,(i64.wrap (aa.1+bq))]:LI)]:LL)) (RSl.one _) m T79 f Z Z Z (by decide) (All2.cons bG (All2.nil _)) λbH bI w a m bJ f=>Bd bv λbK bL bv=>Bm (RSl.one _) 1 m bz Z T79 Z (by decide) f Z Z Z (Ow.src (j:=0) bJ m Z) bL λbM bN w a m bO f=>Ac f Z λa f=>Aa (Aq (Ab f Z λa f=>Ah f Z Z Ax λa f=>Ac f Z λa f=>Aa (have m:=m.fr 1;have m:=m.eraseAt 1;?_)))
      obtain rfl:=sj bv
      exact⟨_,Z,_,_,Z,_,bN,bM,(gt bx bF),f.k Z,m,bO⟩
     ·refine Ai f Z bA (AK Z ?_)
      obtain rfl:=sj bv
      obtain rfl:=bw _ rfl
      exact⟨_,Z,_,bs,bt,bx,f.k Z,m,bz⟩
    ·rintro a w ⟨bk,rfl,bl,bm,bn,bP,f,m,bQ⟩
     refine Aq (Ab f Z λa f=>Ah f Z Z Ax λa f=>Ac f Z λa f=>Aa ?_)
     obtain rfl:=sj aw
     exact⟨_,Z,_,_,Z,_,bm,bn,(gt ay (gt bg bP)),f.k Z,m,bQ⟩
  ·refine Ai f Z aA (AK Z ?_)
   obtain rfl:=sj aw
   obtain rfl:=ax _ rfl
   exact⟨_,Z,_,ar,au,ay,f.k Z,m,az⟩
 ·rintro a w ⟨aj,rfl,ak,al,am,bR,f,m,bS⟩
  refine Ae (Ab f Z λa f=>Ac f Z λa f=>Aa (Ar ?_))
  obtain rfl:=sj hd
  exact⟨[al],f.g Z,f.d,_,[am],(gt ad bR),m,_,_,Z,Z,bS⟩
theorem Wk.c1 {x0:Int}(m:Mem W G w (H)){y:(LL)}(hd:D.c1 x0=some y):
  Calls prog 35 #[iv x0] w (Res W G H (λG' Ho v=>∃r0:Value,∃i0:Itm,Ho=[i0]∧v=(.agg #[r0])∧Ow R1 30 G' i0 r0 y)):=by
 refine Au (args:=[iv x0]) (N:=43) [.cell 2 26] func35 Z Z (lb Z) Z λa f=> ?_
 unfold D.c1 at hd
 refine Ae (AP (cs:=[sn]) zeroValue26 m f Z Z λaa w a m f=>Ay (Ab f Z λa f=>Bd hd λab ac hd=>Bj f Z call58 (Wk.h0 m ac) λad w ae m a f=>Ab f Z λa f=>l_o f (AE (f.e Z) Z) λa f=>l_o f (AE (f.e Z) Z) λa f=>Ac f Z λa f=>Ac f Z λa f=>Aa (Ag (Ae (Ab f Z λa f=>Ah f Z Z BA λa f=>Aa ?_)))))
 rcases Af hd with⟨af,hd⟩|⟨af,hd⟩
 ·refine Al f Z af (Ae ?_)
  have ag:∀w,(Instr.build 26 #[]).run prog w= .ok (.agg #[sn]) w:=by intro w;simp[Instr.build,Instr.fill,Bb,A6,AT,A2,AQ,Bc,A7]
  refine Bv f Z Z ag λa f=>Am 0 0 (ds:=[sn]) m sizeOf26 f Z Z Z (Ak Z As) Z (lb Z) Z λw m=>Aa (Ar ?_)
  obtain⟨ah,m,ai⟩:=Ow.nil R1 30 m
  refine have aj:=Bi (P:=prog) 1 m AJ f (s:=2) rfl rfl rfl;have m:=m.eraseAt 1;?_
  obtain rfl:=sj hd
  exact⟨[(.agg #[sn])],⟨aj,trivial⟩,f.d,_,[ah],ae,m,_,_,Z,Z,ai⟩
 ·refine Ai f Z af (Ap (Ae (Ab f Z λa f=>Ab f Z λa f=>Ah f Z Z Ax λa f=>Bd hd λak al hd=>AI f Z call57 (Wk.n m al) λam an ao w ap m aq a f=> ?_)))
  obtain⟨ar,au,rfl,rfl,av⟩:=aq
  refine AP (cs:=[sn]) zeroValue26 m f Z Z λaw w a m f=>Am 0 0 (ds:=[ar]) m sizeOf26 f Z Z Z (Ak (Ow.one1 1 m av Z) As) Z (lb Z) Z λw m=>Ay (Ab f Z λa f=>Bd hd λax ay hd=>BP f Z call59 (Wk.l1 m ay) λaz aA aB w aC m aD a f=>have av:=od3 aC av;Ac f Z λa f=>Aa (Ag (Ae (Ac f Z λa f=>Aa (Bd hd λaE aF hd=> ?_)))))
  refine AL (λa w=>∃aG:LL,aG=aE∧∃(aH:GH) (aI:Itm),GLe aB aH∧Fr a 43 [(2,pb aa),(5,pb aw)]∧Mem W aH w (ib aa 26 [sn]::ib aw 26 [ar]::aI::H)∧Ow R1 30 aH aI ar aG) ?_ ?_
  ·refine Ao (have m:=m.fr 1;have m:=m.fr 3;AM (λaJ a w=>∃aK:Int,∃aL:LL,(aK,aL)=aJ∧∃(aM:GH) (aN:Itm),GLe aB aM∧Fr a 43 [(2,pb aa),(5,pb aw),(6,az),(7,iv aK)]∧Mem W aM w (ib aa 26 [sn]::ib aw 26 [ar]::aA::aN::H)∧Ow R1 30 aM aN ar aL) aF ⟨_,_,Z,_,au,gr,f.k Z,m,av⟩ ?_)
   clear aF f m
   rintro aJ aO aP aQ a w ⟨aK,aL,rfl,aM,aN,aR,f,m,aS⟩
   refine have aD:=od3 aR aD;Ag (Ae (Ab f Z λa f=>Ab f Z λa f=>BJ 2 m aD Z underlying79 f Z Z λa f=>Ah f Z Z AV λa f=>Aa ?_))
   rcases Af aP with⟨aT,aP⟩|⟨aT,aP⟩
   ·refine Al f Z aT (Ap (Ag (Ao (A5 13 AF (by kernel_rfl) m (Cg (i:=0) (ds:=[ar]) 13 1 AJ Z Z Z Z (by kernel_rfl) Z f Z Z Z λa f=>Aj 1 13 Z f Z λa f=>Aj 2 13 Z f Z λa f=>Bd aP λaU aV aP=>A4 3 13 2 m aD T79 aV Z f Z Z λaW a aX f=>Bk 4 13 2 aD Ds aX aV Z f Z λaY a aZ f=>Bd aP λa0 a1 aP=>Cd 5 13 T87 aZ a1 Z f Z Z λa2 a3 a a4 a5 f=> ?_)))))
    subst a5
    refine B3 6 13 Pl3 a4 Z f Z λa f=>Aj 7 13 Z f Z λa f=>Aj 8 13 Z f Z λa f=>Bd aP λa6 a7 aP=>A4 9 13 2 m aD T79 a7 Z f Z Z λa8 a a9 f=>Bk 10 13 2 aD Ds a9 a7 Z f Z λba a bb f=>Bd aP λbc bd aP=>Cd 11 13 T87 bb bd Z f Z Z λbe bf a bg bh f=> ?_
    subst bh
    refine B3 12 13 Pl3 bg Z f Z λa f=>AO λbi w bj m=>have aS:=od3 bj aS;have m:=m.fr 3;Bd aP λbk bl aP=>AI f Z call60 (Wk.k m aS bl) λbm bn bo w bp m bq a f=> ?_
    obtain⟨br,rfl,rfl,bs⟩:=bq
    refine Am 2 0 (ds:=[ar]) m sizeOf26 f Z Z Z (Ak (Ow.one1 0 m bs Z) As) Z (lb Z) Z λw m=>Aa (Aq (Ab f Z λa f=>Ah f Z Z Ax λa f=>Ac f Z λa f=>Aa (have m:=m.fr 3;have m:=m.fr 3;have m:=m.fr 3;?_)))
    obtain rfl:=sj aP
    exact⟨_,Z,_,_,Z,_,br,(gt aR (gt bj bp)),f.k Z,m,bs⟩
   ·refine Ai f Z aT (AK Z (have m:=m.fr 3;have m:=m.fr 2;have m:=m.fr 2;have m:=m.eraseAt 3;?_))
    obtain rfl:=sj aP
    obtain rfl:=aQ _ rfl
    exact⟨_,Z,_,aN,aR,f.k Z,m,aS⟩
  ·rintro a w ⟨aG,rfl,aH,aI,bt,f,m,bu⟩
   refine Ae (AA 1 0 (ds:=[ar]) m AJ f Z Z Z Z Z λa f=>Am 0 0 (ds:=[ar]) m sizeOf26 f Z Z Z (Ak (Ow.one1 2 m bu Z) As) Z (lb Z) Z λw m=>Aa (Ar (have bv:=Bi (P:=prog) 0 m AJ f (s:=2) rfl rfl rfl;have m:=m.fr 2;have m:=m.eraseAt 2;have m:=m.eraseAt 1;?_)))
   obtain rfl:=sj hd
   exact⟨[(.agg #[ar])],⟨bv,trivial⟩,f.d,_,[aI],(gt ae (gt ap (gt aC bt))),m,_,_,Z,Z,bu⟩
end Go.Proofs.YtijemnhleooagaaGreatDoor
