/- Parts. -/
import Derived.Test.YtgdadopbjdlddaaGreatDoorGt2
import Derived.Test.YtgdadopbjdlddaaGreatDoorProg
import Derived.KernelRfl
import Derived.Lib.SplitLaws
import Derived.Lib.ParseIntBTie
import Derived.Lib.SmallJoins
import Derived.Laws.Strings
set_option linter.unusedVariables false
set_option linter.unusedSimpArgs false
set_option linter.unusedSectionVars false
set_option maxRecDepth 100000
namespace Go.Proofs.YtgdadopbjdlddaaGreatDoor
open Go Go.Sx
open Go.Proofs.Tryz Go.Proofs.YtgdadopbjdlddaaGreatDoor.Tryz IntKind
variable {W w : World} {G : GH} {H : List Itm}
theorem T117 :SlT prog 117 3 1 8 (iv 0):=⟨underlying117,Tryz.t3,by kernel_rfl,by kernel_rfl,by kernel_rfl,by kernel_rfl⟩
theorem Pl9 :BM prog 9:=isAgg9
theorem T47 :SlT prog 47 9 1 16 (.string ⟨#[]⟩):=⟨underlying47,Tryz.t9,by kernel_rfl,by kernel_rfl,by kernel_rfl,by kernel_rfl⟩
theorem Wk.P {x0:Int}(hW:TxtW 2 3 1 W)(m:Mem W G w (H)){y:(LI)}(hd:D.P x0=some y):
  Calls prog 100 #[(.int .u32 x0)] w (Res W G H (λG' Ho v=>∃r0:Value,∃i0:Itm,Ho=[i0]∧r0=v∧Ow R0 3 G' i0 r0 y)):=by
 refine Au (args:=[(.int .u32 x0)]) (N:=17) [.tmp 2] func100 Z Z (lb Z) Z λa f=> ?_
 unfold D.P at hd
 refine Ae (Ac f Z λa f=>AA (AM (R:=R0) (xs:=([]:LI)) (RI.one _) m T117 f Z Z Z (by decide) (All2.nil _) λaa ab w a m ac f=>Ac f Z λa f=>Aa (Ag (Bd hd λad ae hd=> ?_))))
 refine AY (λa w=>∃af:LI,af=ad∧∃(ag:GH) (ah:Value) (ai:Itm),GLe G ag∧Fr a 17 [(3,ah)]∧Mem W ag w (ai::H)∧Ow R0 3 ag ai ah af) ?_ ?_
 ·refine Aq (AP (λaj a w=>∃ak:Int,∃al:LI,(ak,al)=aj∧∃(am:GH) (an:Value) (ao:Itm),GLe G am∧Fr a 17 [(0,(.int .u32 ak)),(3,an)]∧Mem W am w (ao::H)∧Ow R0 3 am ao an al) ae ⟨_,_,Z,_,ab,aa,gr,f.k Z,m,ac⟩ ?_)
  clear ae f m
  rintro aj ap aq ar a w ⟨ak,al,rfl,am,an,ao,au,f,m,av⟩
  refine Ag (Ae (Ab f Z λa f=>Ai f Z Z CZ λa f=>Aa ?_))
  rcases Af aq with⟨aw,aq⟩|⟨aw,aq⟩
  ·refine Ak f Z aw (Ap (Ag (Aq (Al (Ab f Z λa f=>Ab f Z λa f=>Bd aq λax ay aq=>A7 f Z call114 (Wk.a0 hW m ay) λaz w aA m a f=>have av:=od1 aA av;AM (R:=R0) (xs:=([ax]:LI)) (RI.one _) m T117 f Z Z Z (by decide) (All2.cons Z (All2.nil _)) λaB aC w a m aD f=>Bd aq λaE aF aq=>A1 (RI.one _) 1 m av Z T117 Z (by decide) f Z Z Z (Ow.src (j:=0) aD m Z) aF λaG aH w a m aI f=>Ac f Z λa f=>Aa (Al (Ab f Z λa f=>Ab f Z λa f=>Ai f Z Z B1 λa f=>Ai f Z Z b_and λa f=>Ac f Z λa f=>Aa (have m:=m.fr 1;have m:=m.eraseAt 1;?_))))))))
   obtain rfl:=sj aq
   exact⟨_,Z,_,_,Z,_,aH,aG,(gt au aA),f.k Z,m,aI⟩
  ·refine Ah f Z aw (AO Z ?_)
   obtain rfl:=sj aq
   obtain rfl:=ar _ rfl
   exact⟨_,Z,_,an,ao,au,f.k Z,m,av⟩
 ·rintro a w ⟨af,rfl,ag,ah,ai,aJ,f,m,aK⟩
  refine Ae (Ab f Z λa f=>Ac f Z λa f=>Aa (Ar ?_))
  obtain rfl:=sj hd
  exact⟨[ah],f.g Z,f.d,_,[ai],aJ,m,_,_,Z,Z,aK⟩
theorem Wk.i0 {v0:Value}{x0:LI}(m:Mem W G w (H))(h0:R1 G v0 x0){y:(LI)}(hd:D.i0 x0=some y):
  Calls prog 99 #[v0] w (Res W G H (λG' Ho v=>∃r0:Value,∃i0:Itm,Ho=[i0]∧r0=v∧Ow R0 2 G' i0 r0 y)):=by
 refine Au (args:=[v0]) (N:=21) [.tmp 2] func99 Z Z (lb Z) Z λa f=> ?_
 unfold D.i0 at hd
 refine Ae (Ac f Z λa f=>AA (Ab f Z λa f=>A9 underlying117 f Z Z h0 λa f=>Bd hd λaa ab hd=>l_make (R:=R0) m T40 Z (by decide) Z f Z Z Z ab λac ad w a m ae f=>Ac f Z λa f=>Aa (Ag (Ae (Ab f Z λa f=>A9 underlying117 f Z Z h0 λa f=>Ab f Z λa f=>Aa (Bd hd λaf ag hd=> ?_))))))
 refine AY (λa w=>∃ah:LI,ah=af∧∃(ai:GH) (aj:Value) (ak:Itm),GLe G ai∧Fr a 21 [(3,aj)]∧Mem W ai w (ak::H)∧Ow R0 2 ai ak aj ah) ?_ ?_
 ·refine Aq (AP (λal a w=>∃am:LI,∃an:Int,(am,an)=al∧∃(ao:GH) (ap:Value) (aq:Itm),GLe G ao∧Fr a 21 [(3,ap),(9,v0),(10,(iv (x0.length:Int))),(11,iv an)]∧Mem W ao w (aq::H)∧Ow R0 2 ao aq ap am) ag ⟨_,_,Z,_,ad,ac,gr,f.k Z,m,ae⟩ ?_)
  clear ag f m
  rintro al ar au av a w ⟨am,an,rfl,ao,ap,aq,aw,f,m,ax⟩
  refine have h0:=rd1 aw h0;Ae (Ai f Z Z AN λa f=>Aa (Ag ?_))
  rcases Af au with⟨ay,au⟩|⟨ay,au⟩
  ·refine Ak f Z ay (Ap (Ag (Aq (Ae (Bd au λaz aA au=>BA T117 f Z Z Z h0 aA λaB aC a aD aE f=> ?_)))))
   subst aE
   refine AU m Pl3 f Z Z aD λa f=>Ac f Z λa f=>Aa (Al (Ab f Z λa f=>Ab f Z λa f=>AM (R:=R0) (xs:=([az]:LI)) (RI.one _) m T40 f Z Z Z (by decide) (All2.cons Z (All2.nil _)) λaF aG w a m aH f=>Bd au λaI aJ au=>A1 (RI.one _) 1 m ax Z T40 Z (by decide) f Z Z Z (Ow.src (j:=0) aH m Z) aJ λaK aL w a m aM f=>Ac f Z λa f=>Aa (Al (Ai f Z Z AD λa f=>Ab f Z λa f=>Aa (have m:=m.fr 1;have m:=m.eraseAt 1;?_)))))
   obtain rfl:=sj au
   exact⟨_,Z,_,_,Z,_,aL,aK,aw,f.k Z,m,aM⟩
  ·refine Ah f Z ay (AO Z ?_)
   obtain rfl:=sj au
   obtain rfl:=av _ rfl
   exact⟨_,Z,_,ap,aq,aw,f.k Z,m,ax⟩
 ·rintro a w ⟨ah,rfl,ai,aj,ak,aN,f,m,aO⟩
  refine Ae (Ab f Z λa f=>Ac f Z λa f=>Aa (Ar ?_))
  obtain rfl:=sj hd
  exact⟨[aj],f.g Z,f.d,_,[ak],aN,m,_,_,Z,Z,aO⟩
theorem Wk.b0 {x0:Int}(hW:TxtW 2 3 1 W)(m:Mem W G w (H)){y:(LI)}(hd:D.b0 x0=some y):
  Calls prog 79 #[(.int .u32 x0)] w (Res W G H (λG' Ho v=>∃r0:Value,∃i0:Itm,Ho=[i0]∧r0=v∧Ow R0 2 G' i0 r0 y)):=by
 refine Au (args:=[(.int .u32 x0)]) (N:=6) [.tmp 2] func79 Z Z (lb Z) Z λa f=> ?_
 unfold D.b0 at hd
 refine Ae (Ac f Z λa f=>AA (Ab f Z λa f=>Bd hd λaa ab hd=>Cy f Z call100 (Wk.P hW m ab) λac ad ae w af m ag a f=>Bd hd λah ai hd=>Cy f Z call99 (Ow.lendCall (RI.mono _) 0 ag m Z (λaj ak m al=>Wk.i0 m al ai) (λ_ G' _ _ ⟨a0,a1,e1,e2,o0⟩=>⟨a0,a1,e1,e2,Ow.free (RI.free _) G' o0⟩)) λam an ao w ap m aq a f=>Ac f Z λa f=>Aa (Ar (have m:=m.eraseAt 1;?_))))
 obtain rfl:=sj hd
 exact⟨[am],f.g Z,f.d,_,[an],(gt af ap),m,_,_,Z,Z,aq⟩
theorem Wk.e0 {v0:Value}{x0:LI}(hW:TxtW 2 3 1 W)(m:Mem W G w (H))(h0:RSl (RI .u32) G v0 x0){y:(LL)}(hd:D.e0 x0=some y):
  Calls prog 59 #[v0] w (Res W G H (λG' Ho v=>∃r0:Value,∃i0:Itm,Ho=[i0]∧v=(.agg #[r0])∧Ow2 R0 40 2 G' i0 r0 y)):=by
 refine Au (args:=[v0]) (N:=22) [.cell 2 26] func59 Z Z (lb Z) Z λa f=> ?_
 unfold D.e0 at hd
 refine Ae (AQ (cs:=[sn]) zeroValue26 m f Z Z λaa w a m f=>AA ?_)
 have ab:∀w,(Instr.build 26 #[]).run prog w= .ok (.agg #[sn]) w:=by intro w;simp[Instr.build,Instr.fill,A3,AX,AL,AR,AI,A4,AZ]
 refine Be f Z Z ab λa f=>AQ (cs:=[sn]) zeroValue26 m f Z Z λac w a m f=>Aj 0 0 (ds:=[sn]) m sizeOf26 f Z Z Z (Ao Z As) Z (lb Z) Z λw m=>Aa (Ag (Ae (Ab f Z λa f=>A9 underlying72 f Z Z h0 λa f=>Ab f Z λa f=>Aa ?_)))
 obtain⟨ad,m,ae⟩:=Ow2.nil R0 40 2 m
 have⟨af,ag,hd⟩:=bind_some hd
 refine AY (λa w=>∃ah:LL,ah=af∧∃(ai:GH) (aj:Value) (ak:Itm),GLe G ai∧Fr a 22 [(2,pb aa),(3,pb ac)]∧Mem W ai w (ib aa 26 [sn]::ib ac 26 [aj]::ak::H)∧Ow2 R0 40 2 ai ak aj ah) ?_ ?_
 ·refine Aq (have m:=m.fr 1;have m:=m.fr 2;AP (λal a w=>∃am:Int,∃an:LL,(am,an)=al∧∃(ao:GH) (ap:Value) (aq:Itm),GLe G ao∧Fr a 22 [(2,pb aa),(3,pb ac),(7,v0),(8,(iv (x0.length:Int))),(9,iv am)]∧Mem W ao w (ib aa 26 [sn]::ib ac 26 [ap]::aq::H)∧Ow2 R0 40 2 ao aq ap an) ag ⟨_,_,Z,_,sn,ad,gr,f.k Z,m,ae⟩ ?_)
  clear ag f m
  rintro al ar au av a w ⟨am,an,rfl,ao,ap,aq,aw,f,m,ax⟩
  refine have h0:=rd1 aw h0;Ae (Ai f Z Z AN λa f=>Aa (Ag ?_))
  rcases Af au with⟨ay,au⟩|⟨ay,au⟩
  ·refine Ak f Z ay (Ap (Ag (Aq (Ae (Bd au λaz aA au=>BA T72 f Z Z Z h0 aA λaB aC a aD aE f=> ?_)))))
   subst aE
   refine AU m Pl75 f Z Z aD λa f=>Ac f Z λa f=>Aa (BE 5 Bi (by kernel_rfl) m (B5 0 5 underlying26 Z sizeOf24 Z f Z λa f=>B4 1 5 1 Bl Z Z Z f Z λa f=>AK 2 5 Z f Z λa f=>Bx 3 Z λaF w aG m aH aH=>have ax:=od2 aG ax;Bd au λaI aJ au=>Cy f Z call79 (Wk.b0 hW m aJ) λaK aL aM w aN m aO a f=>have ax:=od2 aN ax;Aa (aH aM [aL] _ _ aN m (Bx 4 Z λaP w aQ m aR aR=>have aO:=od1 aQ aO;have ax:=od2 aQ ax;AM (R:=RawS) (xs:=[aK]) RawS.one m T24 f Z Z Z (by decide) (All2.cons ⟨Z,Ow.one1 0 m aO Z,Ow.cells 0 m aO Z⟩ (All2.nil _)) λaS aT w a m aU f=>Aa (aR aP [aS,aL] _ _ gr m (Bs λaV w aW m=>have aU:=Ow.mono RawS.mono aW aU;have aO:=od1 aW aO;have ax:=od2 aW ax;have m:=m.fr 1;have m:=m.fr 4;Bd au λaX aY au=>D8 m ax aO aU T24 Z (by decide) f Z Z Z aY λaZ a0 w a m a1 f=>Br underlying26 Z sizeOf24 f Z λa f=> ?_))))))
   refine Aj 2 0 (ds:=[a0]) m sizeOf24 f Z Z (Ow2.cells 0 m a1 Z) (Ao (Ow2.one1 0 m a1 Z) As) Z (lb Z) Z λw m=>Aa (Al (Ai f Z Z AD λa f=>Ab f Z λa f=>Aa (have m:=m.fr 2;have m:=m.fr 2;?_)))
   obtain rfl:=sj au
   exact⟨_,Z,_,_,Z,_,a0,aZ,(gt aw (gt aG (gt aN (gt aQ aW)))),f.k Z,m,a1⟩
  ·refine Ah f Z ay (AO Z ?_)
   obtain rfl:=sj au
   obtain rfl:=av _ rfl
   exact⟨_,Z,_,ap,aq,aw,f.k Z,m,ax⟩
 ·rintro a w ⟨ah,rfl,ai,aj,ak,a2,f,m,a3⟩
  refine Ae (Ax 1 0 (ds:=[aj]) m Az f Z Z Z Z Z λa f=>Aj 0 0 (ds:=[aj]) m sizeOf26 f Z Z Z (Ao (Ow2.one1 2 m a3 Z) As) Z (lb Z) Z λw m=>Aa (Ar (have a4:=AT (P:=prog) 0 m Az f (s:=2) rfl rfl rfl;have m:=m.fr 2;have m:=m.eraseAt 2;have m:=m.eraseAt 1;?_)))
  obtain rfl:=sj hd
  exact⟨[(.agg #[aj])],⟨a4,trivial⟩,f.d,_,[ak],a2,m,_,_,Z,Z,a3⟩
theorem Wk.c0 {v1:Value}{x0:Int}{x1:LL}(hW:TxtW 2 3 1 W)(m:Mem W G w (H))(h1:R2 G v1 x1){y:(LL)×Bool}(hd:D.c0 x0 x1=some y):
  Calls prog 31 #[iv x0,v1] w (Res W G H (λG' Ho v=>∃r0:Value,∃i0:Itm,Ho=[i0]∧v= .tuple #[(.agg #[r0]),(.bool y.2)]∧Ow2 R0 40 2 G' i0 r0 y.1)):=by
 refine Au (args:=[iv x0,v1]) (N:=47) [.cell 4 26,.tmp 5] func31 Z Z (lb Z) Z λa f=> ?_
 unfold D.c0 at hd
 refine Ae (AQ (cs:=[sn]) zeroValue26 m f Z Z λaa w a m f=>Ac f Z λa f=>Aa (Ag (Ae (Ab f Z λa f=>Bd hd λab ac hd=>A7 f Z call57 (Wk.d0 m ac) λad w ae m a f=>have h1:=rd2 ae h1;l_o f (Bg (f.e Z)) λa f=>Ab f Z λa f=> ?_))))
 refine A2 4 (λa w=>∃af,GLe ad af∧Mem W af w (ib aa 26 [sn]::H)∧Fr a 47 [(0,iv x0),(1,v1),(4,pb aa),(9,iv x0),(10,(.bool ab)),(11,(.bool (!ab))),(12,(.bool (!ab))),(16,(.bool ((!ab)||(decide ((120:Int)<(x1.length:Int))))))]) ?_ ?_
 ·rcases Bool.eq_false_or_eq_true (!ab) with ag|ag
  ·exact An f ag λa f=>An f ag λa f=>An f ag λa f=>l_o f (AE (f.e Z) ag (f.e Z)) λa f=>⟨_,gr,m,f.weak ⟨Z,Z,Z,Z,Z,Z,Z,by rw[ag];rfl,trivial⟩⟩
  ·exact Am f ag (Ab f Z λa f=>Am f ag (A9 underlying24 f Z Z h1 λa f=>Am f ag (Ai f Z Z BQ λa f=>l_o f (AF (f.e Z) ag (f.e Z)) λa f=>⟨_,gr,m,f.weak ⟨Z,Z,Z,Z,Z,Z,Z,by rw[ag];rfl,trivial⟩⟩)))
 ·rintro a w ⟨af,ah,m,f⟩
  refine have h1:=rd2 ah h1;Aa ?_
  rcases Af hd with⟨ai,hd⟩|⟨ai,hd⟩
  ·refine Ak f Z ai (Ae ?_)
   have aj:∀w,(Instr.build 26 #[]).run prog w= .ok (.agg #[sn]) w:=by intro w;simp[Instr.build,Instr.fill,A3,AX,AL,AR,AI,A4,AZ]
   refine Be f Z Z aj λa f=>Aj 0 0 (ds:=[sn]) m sizeOf26 f Z Z Z (Ao Z As) Z (lb Z) Z λw m=>Ac f Z λa f=>Aa (Ar ?_)
   obtain⟨ak,m,al⟩:=Ow2.nil R0 40 2 m
   refine have am:=AT (P:=prog) 1 m Az f (s:=4) rfl rfl rfl;have m:=m.eraseAt 1;?_
   obtain rfl:=sj hd
   exact⟨[(.agg #[sn]),(.bool false)],⟨am,f.get _ _ Z,trivial⟩,f.d,_,[ak],(gt ae ah),m,_,_,Z,Z,al⟩
  ·refine Ah f Z ai (Ap (Ae (Ab f Z λa f=>Bd hd λan ao hd=>l_make (R:=(RI .u32)) m T72 Z (by decide) Z f Z Z Z ao λap aq w a m ar f=>Ac f Z λa f=>Aa (Ag (Ae (Ab f Z λa f=>A9 underlying24 f Z Z h1 λa f=>Ab f Z λa f=>Aa (Bd hd λau av hd=> ?_)))))))
   refine AY (λa w=>∃q_146':LI,au= .inl q_146'∧∃aw:LI,aw=q_146'∧∃(ax:GH) (ay:Itm),GLe af ax∧Fr a 47 [(4,pb aa),(6,aq)]∧Mem W ax w (ib aa 26 [sn]::ay::H)∧Ow (RI .u32) 75 ax ay aq aw) ?_ ?_
   ·refine Aq (have m:=m.fr 1;AP (λaz a w=>∃aA:LI,∃aB:Int,(aA,aB)=az∧∃(aC:GH) (aD:Itm),GLe af aC∧Fr a 47 [(0,iv x0),(4,pb aa),(6,aq),(20,v1),(21,(iv (x1.length:Int))),(22,iv aB)]∧Mem W aC w (ib aa 26 [sn]::aD::H)∧Ow (RI .u32) 75 aC aD aq aA) av ⟨_,_,Z,_,ap,gr,f.k Z,m,ar⟩ ?_)
    clear av f m
    rintro az aE aF aG a w ⟨aA,aB,rfl,aC,aD,aH,f,m,aI⟩
    refine have h1:=rd2 aH h1;Ae (Ai f Z Z AN λa f=>Aa (Ag ?_))
    rcases Af aF with⟨aJ,aF⟩|⟨aJ,aF⟩
    ·refine Ak f Z aJ (Ap (Ag (Aq (Ae (Bd aF λaK aL aF=>BA T24 f Z Z Z h1 aL λaM aN a aO aP f=>AU m Bt f Z Z aO λa f=>Ac f Z λa f=>Aa (Ag (Ae (Ab f Z λa f=>A9 underlying40 f Z Z aP λa f=>Ai f Z Z CZ λa f=>Ab f Z λa f=>Bd aF λaQ aR aF=> ?_))))))))
     refine A2 5 (λa w=>∃aS,GLe aC aS∧Mem W aS w (ib aa 26 [sn]::aD::H)∧Fr a 47 [(0,iv x0),(4,pb aa),(6,aq),(8,aN),(20,v1),(21,(iv (x1.length:Int))),(22,iv aB),(26,aN),(27,(iv (aK.length:Int))),(28,(.bool ((aK.length:Int) !=2))),(29,(.bool ((aK.length:Int) !=2))),(34,(.bool aQ))]) ?_ ?_
     ·rcases Af aR with⟨aT,aR⟩|⟨aT,aR⟩
      ·refine An f aT λa f=>An f aT λa f=>An f aT λa f=>An f aT λa f=>l_o f (AE (f.e Z) aT (f.e Z)) λa f=> ?_
       obtain rfl:=sj aR
       exact⟨_,gr,m,f.k Z⟩
      ·refine Am f aT (Ab f Z λa f=>Am f aT (Ab f Z λa f=>Am f aT (Bd aR λaU aV aR=>A7 f Z call43 (Wk.Y m aP aV) λaW w aX m a f=>Am f aT (l_o f (Bg (f.e Z)) λa f=>l_o f (AF (f.e Z) aT (f.e Z)) λa f=> ?_))))
       obtain rfl:=sj aR
       exact⟨_,aX,m,f.k Z⟩
     ·rintro a w ⟨aS,aY,m,f⟩
      refine have aP:=rd1 aY aP;have aI:=od1 aY aI;Aa ?_
      rcases Af aF with⟨aZ,aF⟩|⟨aZ,aF⟩
      ·refine Ak f Z aZ (Ae ?_)
       have a2:∀w,(Instr.build 26 #[]).run prog w= .ok (.agg #[sn]) w:=by intro w;simp[Instr.build,Instr.fill,A3,AX,AL,AR,AI,A4,AZ]
       refine Be f Z Z a2 λa f=>Aj 0 0 (ds:=[sn]) m sizeOf26 f Z Z Z (Ao Z As) Z (lb Z) Z λw m=>Ac f Z λa f=>Aa (Ar ?_)
       obtain⟨a3,m,a4⟩:=Ow2.nil R0 40 2 m
       refine have a5:=AT (P:=prog) 1 m Az f (s:=4) rfl rfl rfl;have m:=m.eraseAt 2;have m:=m.eraseAt 1;?_
       obtain rfl:=sj aF
       obtain rfl:=aG _ rfl
       obtain rfl:=sj hd
       exact⟨[(.agg #[sn]),(.bool false)],⟨a5,f.get _ _ Z,trivial⟩,f.d,_,[a3],(gt ae (gt ah (gt aH aY))),m,_,_,Z,Z,a4⟩
      ·refine Ah f Z aZ (Ap (BE 7 Bi (by kernel_rfl) m (AK 0 7 Z f Z λa f=>AK 1 7 Z f Z λa f=>Bd aF λa6 a7 aF=>B8 2 7 T40 aP a7 Z f Z Z λa8 a9 a ba bb f=> ?_)))
       subst bb
       refine Ca 3 7 Pl2 ba Z f Z λa f=>AK 4 7 Z f Z λa f=>Bd aF λbc bd aF=>B8 5 7 T40 aP bd Z f Z Z λbe bf a bg bh f=> ?_
       subst bh
       refine Ca 6 7 Pl2 bg Z f Z λa f=>Bs λbi w bj m=>have aI:=od1 bj aI;have m:=m.fr 1;Bd aF λbk bl aF=>AH f Z call58 (Wk.x0 m aI bl) λbm bn bo w bp m bq a f=> ?_
       obtain⟨br,rfl,bs⟩:=bq
       refine Aa (Al (Ai f Z Z AD λa f=>Ab f Z λa f=>Aa (have m:=m.fr 1;?_)))
       obtain rfl:=sj aF
       exact⟨_,Z,_,_,Z,_,br,(gt aH (gt aY (gt bj bp))),f.k Z,m,bs⟩
    ·refine Ah f Z aJ (AO Z ?_)
     obtain rfl:=sj aF
     obtain rfl:=aG _ rfl
     exact⟨_,Z,_,Z,_,aD,aH,f.k Z,m,aI⟩
   ·rintro a w ⟨_,rfl,aw,rfl,ax,ay,bt,f,m,bu⟩
    refine Ae (Ab f Z λa f=>Bd hd λbv bw hd=>AH f Z call59 (Ow.lendCall (RI.mono _) 1 bu m Z (λbx bz m bA=>Wk.e0 hW m bA bw) (λ_ G' _ _ ⟨a0,a1,e1,e2,o0⟩=>⟨a0,a1,e1,e2,Ow2.free (RI.free _) G' o0⟩)) λbB bC bD w bE m bF a f=> ?_)
    obtain⟨bG,bH,rfl,rfl,bI⟩:=bF
    refine Aj 1 0 (ds:=[bG]) m sizeOf26 f Z Z Z (Ao (Ow2.one1 0 m bI Z) As) Z (lb Z) Z λw m=>Ac f Z λa f=>Aa (Ar (have bJ:=AT (P:=prog) 1 m Az f (s:=4) rfl rfl rfl;have m:=m.fr 2;have m:=m.fr 1;have m:=m.eraseAt 2;have m:=m.eraseAt 1;?_))
    obtain rfl:=sj hd
    exact⟨[(.agg #[bG]),(.bool true)],⟨bJ,f.get _ _ Z,trivial⟩,f.d,_,[bH],(gt ae (gt ah (gt bt bE))),m,_,_,Z,Z,bI⟩
theorem Wk.t {x0:ByteArray}(hW:TxtW 2 3 1 W)(m:Mem W G w (H)){y:(LL)×Bool}(hd:D.t x0=some y):
  Calls prog 10 #[(.string x0)] w (Res W G H (λG' Ho v=>∃r0:Value,∃i0:Itm,Ho=[i0]∧v= .tuple #[(.agg #[r0]),(.bool y.2)]∧Ow2 R0 40 2 G' i0 r0 y.1)):=by
 refine Au (args:=[(.string x0)]) (N:=101) [.cell 2 26,.tmp 3] func10 Z Z (lb Z) Z λa f=> ?_
 unfold D.t at hd
 refine Ae (AQ (cs:=[sn]) zeroValue26 m f Z Z λaa w a m f=>Ac f Z λa f=>AA (Ab f Z λa f=>Bd hd λab ac hd=>A7 f Z call28 (Wk.q hW m ac) λad w ae m a f=>Ab f Z λa f=>l_o f (AB (f.e Z) Z) λa f=>l_o f (AB (f.e Z) Z) λa f=>l_o f (AB (f.e Z) Z) λa f=>Ac f Z λa f=>Ac f Z λa f=>Ac f Z λa f=>AA (Ab f Z λa f=>Bd hd λaf ag hd=>A7 f Z call29 (Wk.j hW m ag) λah w ai m a f=>Ab f Z λa f=>l_o f (AB (f.e Z) Z) λa f=>l_o f (AB (f.e Z) Z) λa f=>Ac f Z λa f=>Ac f Z λa f=>Aa (Ag (Ae (Ab f Z λa f=>l_o f (BB (f.e Z) underlying9) λa f=>Ai f Z Z BQ λa f=>Ab f Z λa f=> ?_))))))
 refine A2 3 (λa w=>∃aj,GLe ah aj∧Mem W aj w (ib aa 26 [sn]::H)∧Fr a 101 [(0,(.string x0)),(2,pb aa),(4,(.string ab.1)),(5,(.string ab.2.1)),(6,(.bool ab.2.2)),(7,iv af.1),(8,(.bool af.2)),(32,(.string x0)),(33,(iv (x0.size:Int))),(34,(.bool (decide ((800:Int)<(x0.size:Int))))),(35,(.bool (decide ((800:Int)<(x0.size:Int))))),(38,(.bool ((decide ((800:Int)<(x0.size:Int)))||(!ab.2.2))))]) ?_ ?_
 ·rcases Bool.eq_false_or_eq_true (decide ((800:Int)<(x0.size:Int))) with ak|ak
  ·exact An f ak λa f=>An f ak λa f=>l_o f (AE (f.e Z) ak (f.e Z)) λa f=>⟨_,gr,m,f.weak ⟨Z,Z,Z,Z,Z,Z,Z,Z,Z,Z,Z,by rw[ak];rfl,trivial⟩⟩
  ·exact Am f ak (Ab f Z λa f=>Am f ak (l_o f (Bg (f.e Z)) λa f=>l_o f (AF (f.e Z) ak (f.e Z)) λa f=>⟨_,gr,m,f.weak ⟨Z,Z,Z,Z,Z,Z,Z,Z,Z,Z,Z,by rw[ak];rfl,trivial⟩⟩))
 ·rintro a w ⟨aj,al,m,f⟩
  refine Ab f Z λa f=> ?_
  refine A2 3 (λa w=>∃am,GLe aj am∧Mem W am w (ib aa 26 [sn]::H)∧Fr a 101 [(0,(.string x0)),(2,pb aa),(4,(.string ab.1)),(5,(.string ab.2.1)),(6,(.bool ab.2.2)),(7,iv af.1),(8,(.bool af.2)),(32,(.string x0)),(33,(iv (x0.size:Int))),(34,(.bool (decide ((800:Int)<(x0.size:Int))))),(35,(.bool (decide ((800:Int)<(x0.size:Int))))),(38,(.bool ((decide ((800:Int)<(x0.size:Int)))||(!ab.2.2)))),(39,(.bool ((decide ((800:Int)<(x0.size:Int)))||(!ab.2.2)))),(42,(.bool (((decide ((800:Int)<(x0.size:Int)))||(!ab.2.2))||(!af.2))))]) ?_ ?_
  ·rcases Bool.eq_false_or_eq_true ((decide ((800:Int)<(x0.size:Int)))||(!ab.2.2)) with an|an
   ·exact An f an λa f=>An f an λa f=>l_o f (AE (f.e Z) an (f.e Z)) λa f=>⟨_,gr,m,f.weak ⟨Z,Z,Z,Z,Z,Z,Z,Z,Z,Z,Z,Z,Z,by rw[an];rfl,trivial⟩⟩
   ·exact Am f an (Ab f Z λa f=>Am f an (l_o f (Bg (f.e Z)) λa f=>l_o f (AF (f.e Z) an (f.e Z)) λa f=>⟨_,gr,m,f.weak ⟨Z,Z,Z,Z,Z,Z,Z,Z,Z,Z,Z,Z,Z,by rw[an];rfl,trivial⟩⟩))
  ·rintro a w ⟨am,ao,m,f⟩
   refine Aa ?_
   rcases Af hd with⟨ap,hd⟩|⟨ap,hd⟩
   ·refine Ak f Z ap (Ae ?_)
    have aq:∀w,(Instr.build 26 #[]).run prog w= .ok (.agg #[sn]) w:=by intro w;simp[Instr.build,Instr.fill,A3,AX,AL,AR,AI,A4,AZ]
    refine Be f Z Z aq λa f=>Aj 0 0 (ds:=[sn]) m sizeOf26 f Z Z Z (Ao Z As) Z (lb Z) Z λw m=>Ac f Z λa f=>Aa (Ar ?_)
    obtain⟨ar,m,au⟩:=Ow2.nil R0 40 2 m
    refine have av:=AT (P:=prog) 1 m Az f (s:=2) rfl rfl rfl;have m:=m.eraseAt 1;?_
    obtain rfl:=sj hd
    exact⟨[(.agg #[sn]),(.bool false)],⟨av,f.get _ _ Z,trivial⟩,f.d,_,[ar],(gt ae (gt ai (gt al ao))),m,_,_,Z,Z,au⟩
   ·refine Ah f Z ap (Ap (Ae (AM (R:=RawS) (xs:=[]) RawS.one m T24 f Z Z Z (by decide) (All2.nil _) λaw ax w a m ay f=> ?_)))
    obtain⟨az,m,aA⟩:=Ow2.of_empty R0 2 m ay
    refine Ac f Z λa f=>Aa (Ag (Ae (Ab f Z λa f=>Bd hd λaB aC hd=>Cy f Z call30 (Wk.u hW m aC) λaD aE aF w aG m aH a f=>have aA:=od2 aG aA;BF 0 m aH Z underlying47 f Z Z λa f=>Ab f Z λa f=>Aa (Bd hd λaI aJ hd=> ?_))))
    refine AY (λa w=>∃q_149':LL,aI= .inl q_149'∧∃aK:LL,aK=q_149'∧∃(aL:GH) (aM:Value) (aN:Itm),GLe aF aL∧Fr a 101 [(0,(.string x0)),(2,pb aa),(7,iv af.1),(9,aM)]∧Mem W aL w (ib aa 26 [sn]::aN::H)∧Ow2 R0 40 2 aL aN aM aK) ?_ ?_
    ·refine Aq (have m:=m.fr 1;have m:=m.fr 2;AP (λaO a w=>∃aP:LL,∃aQ:Int,(aP,aQ)=aO∧∃(aR:GH) (aS:Value) (aT:Itm),GLe aF aR∧Fr a 101 [(0,(.string x0)),(2,pb aa),(7,iv af.1),(9,aS),(46,aD),(47,(iv (aB.length:Int))),(48,iv aQ)]∧Mem W aR w (ib aa 26 [sn]::aT::aE::H)∧Ow2 R0 40 2 aR aT aS aP) aJ ⟨_,_,Z,_,ax,az,gr,f.k Z,m,aA⟩ ?_)
     clear aJ f m
     rintro aO aU aV aW a w ⟨aP,aQ,rfl,aR,aS,aT,aX,f,m,aY⟩
     refine have aH:=Ow.mono RStr.mono aX aH;Ae (Ai f Z Z AN λa f=>Aa (Ag ?_))
     rcases Af aV with⟨aZ,aV⟩|⟨aZ,aV⟩
     ·refine Ak f Z aZ (Ap (Ag (Aq (Ae (Ab f Z λa f=>Bd aV λa2 a3 aV=>Bz 2 m aH Z T47 f Z Z Z a3 λa4 a a5 f=>Bq 2 m aH Z Pl9 f Z Z a5 a3 λa6 a a7 f=> ?_)))))
      subst a7
      refine Ac f Z λa f=>Ac f Z λa f=>Aa (Ag (Ae (Ab f Z λa f=>Ai f Z Z BD λa f=>Aa ?_)))
      rcases Af aV with⟨a8,aV⟩|⟨a8,aV⟩
      ·refine Ak f Z a8 (AO Z (Al (Ai f Z Z AD λa f=>Ab f Z λa f=>Aa ?_)))
       obtain rfl:=sj aV
       exact⟨_,Z,_,_,Z,_,aS,aT,aX,f.k Z,m,aY⟩
      ·refine Ah f Z a8 (Ap (Ae (Ab f Z λa f=>Bd aV λa9 ba aV=>A7 f Z call28 (Wk.q hW m ba) λbb w bc m a f=>have aY:=od2 bc aY;Ab f Z λa f=>l_o f (AB (f.e Z) Z) λa f=>l_o f (AB (f.e Z) Z) λa f=>l_o f (AB (f.e Z) Z) λa f=>Ac f Z λa f=>Ac f Z λa f=>Ac f Z λa f=>AA (Ab f Z λa f=>Bd aV λbd be aV=>A7 f Z call29 (Wk.j hW m be) λbf w bg m a f=>have aY:=od2 bg aY;Ab f Z λa f=>l_o f (AB (f.e Z) Z) λa f=>l_o f (AB (f.e Z) Z) λa f=>Ac f Z λa f=>Ac f Z λa f=>AA (Ab f Z λa f=>Bd aV λbh bi aV=>A7 f Z call29 (Wk.j hW m bi) λbj w bk m a f=>have aY:=od2 bk aY;Ab f Z λa f=>l_o f (AB (f.e Z) Z) λa f=>l_o f (AB (f.e Z) Z) λa f=>Ac f Z λa f=>Ac f Z λa f=>Aa (Ag (Ae (Ab f Z λa f=>l_o f (Bg (f.e Z)) λa f=>Ab f Z λa f=> ?_))))))))
       refine A2 3 (λa w=>∃bl,GLe bj bl∧Mem W bl w (ib aa 26 [sn]::aT::aE::H)∧Fr a 101 [(0,(.string x0)),(2,pb aa),(7,iv af.1),(9,aS),(10,iv aQ),(11,(.string a2)),(12,(.string a9.1)),(13,(.string a9.2.1)),(14,(.bool a9.2.2)),(15,iv bd.1),(16,(.bool bd.2)),(17,iv bh.1),(18,(.bool bh.2)),(46,aD),(47,(iv (aB.length:Int))),(48,iv aQ),(71,(.bool bd.2)),(72,(.bool (!bd.2))),(73,(.bool (!bd.2))),(76,(.bool ((!bd.2)||(!bh.2))))]) ?_ ?_
       ·rcases Bool.eq_false_or_eq_true (!bd.2) with bm|bm
        ·exact An f bm λa f=>An f bm λa f=>l_o f (AE (f.e Z) bm (f.e Z)) λa f=>⟨_,gr,m,f.weak ⟨Z,Z,Z,Z,Z,Z,Z,Z,Z,Z,Z,Z,Z,Z,Z,Z,Z,Z,Z,by rw[bm];rfl,trivial⟩⟩
        ·exact Am f bm (Ab f Z λa f=>Am f bm (l_o f (Bg (f.e Z)) λa f=>l_o f (AF (f.e Z) bm (f.e Z)) λa f=>⟨_,gr,m,f.weak ⟨Z,Z,Z,Z,Z,Z,Z,Z,Z,Z,Z,Z,Z,Z,Z,Z,Z,Z,Z,by rw[bm];rfl,trivial⟩⟩))
       ·rintro a w ⟨bl,bn,m,f⟩
        refine have aY:=od2 bn aY;Aa ?_
        rcases Af aV with⟨bo,aV⟩|⟨bo,aV⟩
        ·refine Ak f Z bo (Ae ?_)
         have bp:∀w,(Instr.build 26 #[]).run prog w= .ok (.agg #[sn]) w:=by intro w;simp[Instr.build,Instr.fill,A3,AX,AL,AR,AI,A4,AZ]
         refine Be f Z Z bp λa f=>Aj 0 0 (ds:=[sn]) m sizeOf26 f Z Z Z (Ao Z As) Z (lb Z) Z λw m=>Ac f Z λa f=>Aa (Ar ?_)
         obtain⟨bq,m,br⟩:=Ow2.nil R0 40 2 m
         refine have bs:=AT (P:=prog) 1 m Az f (s:=2) rfl rfl rfl;have m:=m.eraseAt 3;have m:=m.eraseAt 2;have m:=m.eraseAt 1;?_
         obtain rfl:=sj aV
         obtain rfl:=aW _ rfl
         obtain rfl:=sj hd
         exact⟨[(.agg #[sn]),(.bool false)],⟨bs,f.get _ _ Z,trivial⟩,f.d,_,[bq],(gt ae (gt ai (gt al (gt ao (gt aG (gt aX (gt bc (gt bg (gt bk bn))))))))),m,_,_,Z,Z,br⟩
        ·refine Ah f Z bo (Ap (Al (Ab f Z λa f=>Ab f Z λa f=>Ab f Z λa f=>AM (R:=R0) (xs:=([bd.1,bh.1]:LI)) (RI.one _) m T40 f Z Z Z (by decide) (All2.cons Z (All2.cons Z (All2.nil _))) λbt bu w a m bv f=>AM (R:=RawS) (xs:=[bu]) RawS.one m T24 f Z Z Z (by decide) (All2.cons ⟨Z,Ow.one1 0 m bv Z,Ow.cells 0 m bv Z⟩ (All2.nil _)) λbw bx w a m bz f=>have m:=m.fr 1;have m:=m.fr 3;Bd aV λbA bB aV=>D8 m aY bv bz T24 Z (by decide) f Z Z Z bB λbC bD w a m bE f=>Ac f Z λa f=>Aa (Al (Ai f Z Z AD λa f=>Ab f Z λa f=>Aa (have m:=m.fr 1;?_))))))
         obtain rfl:=sj aV
         exact⟨_,Z,_,_,Z,_,bD,bC,(gt aX (gt bc (gt bg (gt bk bn)))),f.k Z,m,bE⟩
     ·refine Ah f Z aZ (AO Z (have m:=m.eraseAt 2;?_))
      obtain rfl:=sj aV
      obtain rfl:=aW _ rfl
      exact⟨_,Z,_,Z,_,aS,aT,aX,f.k Z,m,aY⟩
    ·rintro a w ⟨_,rfl,aK,rfl,aL,aM,aN,bF,f,m,bG⟩
     refine Ae (Ab f Z λa f=>Ab f Z λa f=>Bd hd λbH bI hd=>AH f Z call31 (Ow2.lendCall (RI.mono _) 1 bG m Z (λbJ bK m bL=>Wk.c0 hW m bL bI) (λ_ G' _ _ ⟨a0,a1,e1,e2,o0⟩=>⟨a0,a1,e1,e2,Ow2.free (RI.free _) G' o0⟩)) λbM bN bO w bP m bQ a f=> ?_)
     obtain⟨bR,bS,rfl,rfl,bT⟩:=bQ
     refine Ab f Z λa f=>l_o f (AB (f.e Z) Z) λa f=>l_o f (AB (f.e Z) Z) λa f=>AQ (cs:=[sn]) zeroValue26 m f Z Z λbU w a m f=>Aj 0 0 (ds:=[bR]) m sizeOf26 f Z Z Z (Ao (Ow2.one1 1 m bT Z) As) Z (lb Z) Z λw m=>Ac f Z λa f=>Aa (Ag (Ae (Ab f Z λa f=>l_o f (Bg (f.e Z)) λa f=>Ab f Z λa f=>Bd hd λbV bW hd=> ?_)))
     refine A2 5 (λa w=>∃bX,GLe bN bX∧Mem W bX w (ib bU 26 [bR]::bS::ib aa 26 [sn]::aN::H)∧Fr a 101 [(0,(.string x0)),(2,pb aa),(7,iv af.1),(9,aM),(19,pb bU),(20,(.bool bH.2)),(91,(.bool bH.2)),(92,(.bool (!bH.2))),(93,(.bool (!bH.2))),(98,(.bool bV))]) ?_ ?_
     ·rcases Af bW with⟨bY,bW⟩|⟨bY,bW⟩
      ·refine An f bY λa f=>An f bY λa f=>An f bY λa f=>An f bY λa f=>l_o f (AE (f.e Z) bY (f.e Z)) λa f=> ?_
       obtain rfl:=sj bW
       exact⟨_,gr,m,f.k Z⟩
      ·refine Am f bY (Ax 0 0 (ds:=[bR]) m Az f Z Z Z Z Z λa f=>Am f bY (Bd bW λbZ b0 bW=>AH f Z call20 (Ow2.lendCall (RI.mono _) 1 bT m Z (λb1 b2 m b3=>Wk.S hW m b3 b0) (λ_ _ _ _ h=>h)) λb4 b5 b6 w b7 m b8 a f=> ?_))
       obtain⟨rfl,rfl⟩:=b8
       refine Am f bY (Ab f Z λa f=>Am f bY (l_o f (CV (f.e Z) (f.e Z)) λa f=>l_o f (AF (f.e Z) bY (f.e Z)) λa f=> ?_))
       obtain rfl:=sj bW
       exact⟨_,b7,m,f.k Z⟩
     ·rintro a w ⟨bX,b9,m,f⟩
      refine have bT:=od2 b9 bT;Aa ?_
      rcases Af hd with⟨ca,hd⟩|⟨ca,hd⟩
      ·refine Ak f Z ca (Ae ?_)
       have cb:∀w,(Instr.build 26 #[]).run prog w= .ok (.agg #[sn]) w:=by intro w;simp[Instr.build,Instr.fill,A3,AX,AL,AR,AI,A4,AZ]
       refine Be f Z Z cb λa f=>Aj 2 0 (ds:=[sn]) m sizeOf26 f Z Z Z (Ao Z As) Z (lb Z) Z λw m=>Ac f Z λa f=>Aa (Ar ?_)
       obtain⟨cc,m,cd⟩:=Ow2.nil R0 40 2 m
       refine have ce:=AT (P:=prog) 3 m Az f (s:=2) rfl rfl rfl;have m:=m.fr 4;have m:=m.fr 3;have m:=m.fr 2;have m:Mem W bX w (cc::bS::aN::ib bU 26 [bR]::H):=m.eraseAt 4;have m:=m.eraseAt 3;have m:=m.eraseAt 2;have m:=m.eraseAt 1;?_
       obtain rfl:=sj hd
       exact⟨[(.agg #[sn]),(.bool false)],⟨ce,f.get _ _ Z,trivial⟩,f.d,_,[cc],(gt ae (gt ai (gt al (gt ao (gt aG (gt bF (gt bP b9))))))),m,_,_,Z,Z,cd⟩
      ·refine Ah f Z ca (Ap (Ae (Ax 0 0 (ds:=[bR]) m Az f Z Z Z Z Z λa f=>Aj 2 0 (ds:=[bR]) m sizeOf26 f Z Z Z (Ao (Ow2.one1 1 m bT Z) As) Z (lb Z) Z λw m=>Ac f Z λa f=>Aa (Ar (have cf:=AT (P:=prog) 2 m Az f (s:=2) rfl rfl rfl;have m:=m.fr 1;have m:=m.fr 3;have m:=m.fr 1;have m:Mem W bX w (bS::aN::ib bU 26 [bR]::H):=m.eraseAt 3;have m:=m.eraseAt 2;have m:=m.eraseAt 1;?_)))))
       obtain rfl:=sj hd
       exact⟨[(.agg #[bR]),(.bool true)],⟨cf,f.get _ _ Z,trivial⟩,f.d,_,[bS],(gt ae (gt ai (gt al (gt ao (gt aG (gt bF (gt bP b9))))))),m,_,_,Z,Z,bT⟩
theorem Wk.L {x0:ByteArray}(hW:TxtW 2 3 1 W)(m:Mem W G w (H)){y:(LL)×Bool}(hd:D.L x0=some y):
  Calls prog 11 #[(.string x0)] w (Res W G H (λG' Ho v=>∃r0:Value,∃i0:Itm,Ho=[i0]∧v= .tuple #[(.agg #[r0]),(.bool y.2)]∧Ow R1 40 G' i0 r0 y.1)):=by
 refine Au (args:=[(.string x0)]) (N:=70) [.cell 2 26,.tmp 3] func11 Z Z (lb Z) Z λa f=> ?_
 unfold D.L at hd
 refine Ae (AQ (cs:=[sn]) zeroValue26 m f Z Z λaa w a m f=>Ac f Z λa f=>AA (Ab f Z λa f=>Bd hd λab ac hd=>Cy f Z call30 (Wk.u hW m ac) λad ae af w ag m ah a f=>Ac f Z λa f=>AA (Ab f Z λa f=>BF 0 m ah Z underlying47 f Z Z λa f=>Ai f Z Z B1 λa f=>Ac f Z λa f=>Aa (Ag (Ae (Ab f Z λa f=>l_o f (BB (f.e Z) underlying9) λa f=>Ai f Z Z BQ λa f=>Ab f Z λa f=> ?_))))))
 refine A2 3 (λa w=>∃ai,GLe af ai∧Mem W ai w (ae::ib aa 26 [sn]::H)∧Fr a 70 [(0,(.string x0)),(2,pb aa),(4,ad),(5,(iv (i64.wrap ((ab.length:Int)-1)))),(16,(.string x0)),(17,(iv (x0.size:Int))),(18,(.bool (decide ((800:Int)<(x0.size:Int))))),(19,(.bool (decide ((800:Int)<(x0.size:Int))))),(22,(.bool ((decide ((800:Int)<(x0.size:Int)))||(decide ((i64.wrap ((ab.length:Int)-1))<1)))))]) ?_ ?_
 ·rcases Bool.eq_false_or_eq_true (decide ((800:Int)<(x0.size:Int))) with aj|aj
  ·exact An f aj λa f=>An f aj λa f=>l_o f (AE (f.e Z) aj (f.e Z)) λa f=>⟨_,gr,m,f.weak ⟨Z,Z,Z,Z,Z,Z,Z,Z,by rw[aj];rfl,trivial⟩⟩
  ·exact Am f aj (Ab f Z λa f=>Am f aj (Ai f Z Z AN λa f=>l_o f (AF (f.e Z) aj (f.e Z)) λa f=>⟨_,gr,m,f.weak ⟨Z,Z,Z,Z,Z,Z,Z,Z,by rw[aj];rfl,trivial⟩⟩))
 ·rintro a w ⟨ai,ak,m,f⟩
  refine have ah:=Ow.mono RStr.mono ak ah;Ab f Z λa f=> ?_
  refine A2 3 (λa w=>∃al,GLe ai al∧Mem W al w (ae::ib aa 26 [sn]::H)∧Fr a 70 [(0,(.string x0)),(2,pb aa),(4,ad),(5,(iv (i64.wrap ((ab.length:Int)-1)))),(16,(.string x0)),(17,(iv (x0.size:Int))),(18,(.bool (decide ((800:Int)<(x0.size:Int))))),(19,(.bool (decide ((800:Int)<(x0.size:Int))))),(22,(.bool ((decide ((800:Int)<(x0.size:Int)))||(decide ((i64.wrap ((ab.length:Int)-1))<1))))),(23,(.bool ((decide ((800:Int)<(x0.size:Int)))||(decide ((i64.wrap ((ab.length:Int)-1))<1))))),(26,(.bool (((decide ((800:Int)<(x0.size:Int)))||(decide ((i64.wrap ((ab.length:Int)-1))<1)))||(decide ((16:Int)<(i64.wrap ((ab.length:Int)-1)))))))]) ?_ ?_
  ·rcases Bool.eq_false_or_eq_true ((decide ((800:Int)<(x0.size:Int)))||(decide ((i64.wrap ((ab.length:Int)-1))<1))) with am|am
   ·exact An f am λa f=>An f am λa f=>l_o f (AE (f.e Z) am (f.e Z)) λa f=>⟨_,gr,m,f.weak ⟨Z,Z,Z,Z,Z,Z,Z,Z,Z,Z,by rw[am];rfl,trivial⟩⟩
   ·exact Am f am (Ab f Z λa f=>Am f am (Ai f Z Z BQ λa f=>l_o f (AF (f.e Z) am (f.e Z)) λa f=>⟨_,gr,m,f.weak ⟨Z,Z,Z,Z,Z,Z,Z,Z,Z,Z,by rw[am];rfl,trivial⟩⟩))
  ·rintro a w ⟨al,an,m,f⟩
   refine have ah:=Ow.mono RStr.mono an ah;Aa ?_
   rcases Af hd with⟨ao,hd⟩|⟨ao,hd⟩
   ·refine Ak f Z ao (Ae ?_)
    have ap:∀w,(Instr.build 26 #[]).run prog w= .ok (.agg #[sn]) w:=by intro w;simp[Instr.build,Instr.fill,A3,AX,AL,AR,AI,A4,AZ]
    refine Be f Z Z ap λa f=>Aj 1 0 (ds:=[sn]) m sizeOf26 f Z Z Z (Ao Z As) Z (lb Z) Z λw m=>Ac f Z λa f=>Aa (Ar ?_)
    obtain⟨aq,m,ar⟩:=Ow.nil R1 40 m
    refine have au:=AT (P:=prog) 2 m Az f (s:=2) rfl rfl rfl;have m:=m.eraseAt 2;have m:=m.eraseAt 1;?_
    obtain rfl:=sj hd
    exact⟨[(.agg #[sn]),(.bool false)],⟨au,f.get _ _ Z,trivial⟩,f.d,_,[aq],(gt ag (gt ak an)),m,_,_,Z,Z,ar⟩
   ·refine Ah f Z ao (Ap (Ae ?_))
    have av:∀w,(Instr.build 26 #[]).run prog w= .ok (.agg #[sn]) w:=by intro w;simp[Instr.build,Instr.fill,A3,AX,AL,AR,AI,A4,AZ]
    refine Be f Z Z av λa f=>AQ (cs:=[sn]) zeroValue26 m f Z Z λaw w a m f=>Aj 0 0 (ds:=[sn]) m sizeOf26 f Z Z Z (Ao Z As) Z (lb Z) Z λw m=>Aa (Ag (Ae (Ab f Z λa f=>Ab f Z λa f=>Bd hd λax ay hd=>l_own_cut 1 m ah Z T47 f Z Z (.inl Z) Z ay λaz aA a m aB f=>BF 1 m aB Z underlying47 f Z Z λa f=>Ab f Z λa f=>Aa ?_)))
    obtain⟨aC,m,aD⟩:=Ow.nil R1 40 m
    have⟨aE,aF,hd⟩:=bind_some hd
    refine AY (λa w=>∃aG:LL,aG=aE∧∃(aH:GH) (aI:Value) (aJ:Itm),GLe al aH∧Fr a 70 [(0,(.string x0)),(2,pb aa),(6,pb aw)]∧Mem W aH w (ib aa 26 [sn]::ib aw 26 [aI]::aJ::H)∧Ow R1 40 aH aJ aI aG) ?_ ?_
    ·refine Aq (have m:=m.fr 2;have m:=m.fr 2;have m:=m.fr 3;AP (λaK a w=>∃aL:Int,∃aM:LL,(aL,aM)=aK∧∃(aN:GH) (aO:Value) (aP:Itm),GLe al aN∧Fr a 70 [(0,(.string x0)),(2,pb aa),(6,pb aw),(31,aA),(32,(iv (ax.length:Int))),(33,iv aL)]∧Mem W aN w (ib aa 26 [sn]::ib aw 26 [aO]::az::aP::H)∧Ow R1 40 aN aP aO aM) aF ⟨_,_,Z,_,sn,aC,gr,f.k Z,m,aD⟩ ?_)
     clear aF f m
     rintro aK aQ aR aS a w ⟨aL,aM,rfl,aN,aO,aP,aT,f,m,aU⟩
     refine have aB:=Ow.mono RStr.mono aT aB;Ae (Ai f Z Z AN λa f=>Aa (Ag ?_))
     rcases Af aR with⟨aV,aR⟩|⟨aV,aR⟩
     ·refine Ak f Z aV (Ap (Ag (Aq (Ae (Bd aR λaW aX aR=>Bz 2 m aB Z T47 f Z Z Z aX λaY a aZ f=>Bq 2 m aB Z Pl9 f Z Z aZ aX λa0 a a1 f=> ?_)))))
      subst a1
      refine Ac f Z λa f=>AA (AM (R:=R0) (xs:=([]:LI)) (RI.one _) m T40 f Z Z Z (by decide) (All2.nil _) λa2 a3 w a m a4 f=>Ac f Z λa f=>Aa (Ag (Ae (Ac f Z λa f=>Aa (Bd aR λa5 a6 aR=> ?_)))))
      refine AY (λa w=>∃a7:LI,a7=a5∧∃(a8:GH) (a9:Value) (ba:Itm),GLe aN a8∧Fr a 70 [(0,(.string x0)),(2,pb aa),(6,pb aw),(9,a9),(31,aA),(32,(iv (ax.length:Int))),(33,iv aL)]∧Mem W a8 w (ib aa 26 [sn]::ib aw 26 [aO]::ba::az::aP::H)∧Ow R0 2 a8 ba a9 a7) ?_ ?_
      ·refine Aq (have m:=m.fr 2;have m:=m.fr 2;AP (λbb a w=>∃bc:LI,∃bd:Int,(bc,bd)=bb∧∃(be:GH) (bf:Value) (bg:Itm),GLe aN be∧Fr a 70 [(0,(.string x0)),(2,pb aa),(6,pb aw),(8,(.string aW)),(9,bf),(10,iv bd),(31,aA),(32,(iv (ax.length:Int))),(33,iv aL)]∧Mem W be w (ib aa 26 [sn]::ib aw 26 [aO]::bg::az::aP::H)∧Ow R0 2 be bg bf bc) a6 ⟨_,_,Z,_,a3,a2,gr,f.k Z,m,a4⟩ ?_)
       clear a6 f m
       rintro bb bh bi bj a w ⟨bc,bd,rfl,be,bf,bg,bk,f,m,bl⟩
       refine Ag (Ae (Ab f Z λa f=>Ab f Z λa f=>l_o f (BB (f.e Z) underlying9) λa f=>Ai f Z Z AN λa f=>Aa ?_))
       rcases Af bi with⟨bm,bi⟩|⟨bm,bi⟩
       ·refine Ak f Z bm (Ap (Ag (Aq (Ae (Ab f Z λa f=>Ab f Z λa f=>Bd bi λbn bo bi=>l_o f (Cc (f.e Z) (f.e Z) underlying9 bo) λa f=>Ai f Z Z BD λa f=>Aa ?_)))))
        rcases Af bi with⟨bp,bi⟩|⟨bp,bi⟩
        ·refine Ak f Z bp (Al (Ab f Z λa f=>Ab f Z λa f=>AM (R:=R0) (xs:=([bd]:LI)) (RI.one _) m T40 f Z Z Z (by decide) (All2.cons Z (All2.nil _)) λbq br w a m bs f=>Bd bi λbt bu bi=>A1 (RI.one _) 3 m bl Z T40 Z (by decide) f Z Z Z (Ow.src (j:=0) bs m Z) bu λbv bw w a m bx f=>Ac f Z λa f=>Aa (Al (Ab f Z λa f=>Ai f Z Z AD λa f=>Ac f Z λa f=>Aa (have m:=m.fr 5;have m:=m.fr 5;have m:=m.fr 5;have m:Mem W be w (ib aw 26 [aO]::bv::az::aP::bq::ib aa 26 [sn]::H):=m.fr 5;have m:=m.fr 5;have m:=m.eraseAt 5;?_)))))
         obtain rfl:=sj bi
         exact⟨_,Z,_,_,Z,_,bw,bv,bk,f.k Z,m,bx⟩
        ·refine Ah f Z bp (Ap (Al (Ab f Z λa f=>Ai f Z Z AD λa f=>Ac f Z λa f=>Aa ?_)))
         obtain rfl:=sj bi
         exact⟨_,Z,_,_,Z,_,bf,bg,bk,f.k Z,m,bl⟩
       ·refine Ah f Z bm (AO Z ?_)
        obtain rfl:=sj bi
        obtain rfl:=bj _ rfl
        exact⟨_,Z,_,bf,bg,bk,f.k Z,m,bl⟩
      ·rintro a w ⟨a7,rfl,a8,a9,ba,bz,f,m,bA⟩
       refine have aU:=od3 bz aU;Al (Br underlying26 Z sizeOf24 f Z λa f=>AV 1 0 m Bl f Z Z Z Z λa f=>Ab f Z λa f=>have m:=m.fr 2;?_)
       obtain⟨bB,bC,m,bD⟩:=Ow.stamp (RI.mono _) bA m
       refine have aU:=od3 bC aU;AM (R:=R1) (xs:=([a7]:LL)) (RSl.one _) m T24 f Z Z Z (by decide) (All2.cons bD (All2.nil _)) λbE bF w a m bG f=>Bd aR λbH bI aR=>A1 (RSl.one _) 4 m aU Z T24 Z (by decide) f Z Z Z (Ow.src (j:=0) bG m Z) bI λbJ bK w a m bL f=>Br underlying26 Z sizeOf24 f Z λa f=>Aj 2 0 (ds:=[bK]) m sizeOf24 f Z Z (Ow.cells 4 m bL Z) (Ao (Ow.one1 4 m bL Z) As) Z (lb Z) Z λw m=>Aa (Al (Ai f Z Z AD λa f=>Ab f Z λa f=>Aa (have m:=m.fr 4;have m:=m.fr 4;have m:=m.fr 4;have m:Mem W bB w (ib aa 26 [sn]::ib aw 26 [bK]::az::bJ::bE::H):=m.fr 4;have m:=m.eraseAt 4;?_)))
       obtain rfl:=sj aR
       exact⟨_,Z,_,_,Z,_,bK,bJ,(gt aT (gt bz bC)),f.k Z,m,bL⟩
     ·refine Ah f Z aV (AO Z (have m:=m.fr 3;have m:=m.fr 2;have m:=m.fr 2;have m:=m.eraseAt 3;?_))
      obtain rfl:=sj aR
      obtain rfl:=aS _ rfl
      exact⟨_,Z,_,aO,aP,aT,f.k Z,m,aU⟩
    ·rintro a w ⟨aG,rfl,aH,aI,aJ,bM,f,m,bN⟩
     refine Ag (Ae (Ax 1 0 (ds:=[aI]) m Az f Z Z Z Z Z λa f=>Bd hd λbO bP hd=>AH f Z call19 (Ow.lendCall (RSl.mono (RI.mono _)) 2 bN m Z (λbQ bR m bS=>Wk.o m bS bP) (λ_ _ _ _ h=>h)) λbT bU bV w bW m bX a f=> ?_))
     obtain⟨rfl,rfl⟩:=bX
     refine have bN:=od3 bW bN;l_o f (Bg (f.e Z)) λa f=>Ab f Z λa f=>Bd hd λbY bZ hd=> ?_
     refine A2 5 (λa w=>∃b0,GLe bU b0∧Mem W b0 w (ib aa 26 [sn]::ib aw 26 [aI]::aJ::H)∧Fr a 70 [(0,(.string x0)),(2,pb aa),(6,pb aw),(59,(.agg #[aI])),(60,(.bool bO)),(61,(.bool (!bO))),(62,(.bool (!bO))),(67,(.bool bY))]) ?_ ?_
     ·rcases Af bZ with⟨b1,bZ⟩|⟨b1,bZ⟩
      ·refine An f b1 λa f=>An f b1 λa f=>An f b1 λa f=>An f b1 λa f=>l_o f (AE (f.e Z) b1 (f.e Z)) λa f=> ?_
       obtain rfl:=sj bZ
       exact⟨_,gr,m,f.k Z⟩
      ·refine Am f b1 (Ax 1 0 (ds:=[aI]) m Az f Z Z Z Z Z λa f=>Am f b1 (Bd bZ λb2 b3 bZ=>AH f Z call21 (Ow.lendCall (RSl.mono (RI.mono _)) 2 bN m Z (λb4 b5 m b6=>Wk.Q m b6 b3) (λ_ _ _ _ h=>h)) λb7 b8 b9 w ca m cb a f=> ?_))
       obtain⟨rfl,rfl⟩:=cb
       refine Am f b1 (Ab f Z λa f=>Am f b1 (l_o f (CV (f.e Z) (f.e Z)) λa f=>l_o f (AF (f.e Z) b1 (f.e Z)) λa f=> ?_))
       obtain rfl:=sj bZ
       exact⟨_,ca,m,f.k Z⟩
     ·rintro a w ⟨b0,cc,m,f⟩
      refine have bN:=od3 cc bN;Aa ?_
      rcases Af hd with⟨cd,hd⟩|⟨cd,hd⟩
      ·refine Ak f Z cd (Ae ?_)
       have ce:∀w,(Instr.build 26 #[]).run prog w= .ok (.agg #[sn]) w:=by intro w;simp[Instr.build,Instr.fill,A3,AX,AL,AR,AI,A4,AZ]
       refine Be f Z Z ce λa f=>Aj 0 0 (ds:=[sn]) m sizeOf26 f Z Z Z (Ao Z As) Z (lb Z) Z λw m=>Ac f Z λa f=>Aa (Ar ?_)
       obtain⟨cf,m,cg⟩:=Ow.nil R1 40 m
       refine have ch:=AT (P:=prog) 1 m Az f (s:=2) rfl rfl rfl;have m:=m.fr 3;have m:=m.fr 1;have m:=m.eraseAt 3;have m:Mem W b0 w (cf::aJ::H):=m.eraseAt 2;have m:=m.eraseAt 1;?_
       obtain rfl:=sj hd
       exact⟨[(.agg #[sn]),(.bool false)],⟨ch,f.get _ _ Z,trivial⟩,f.d,_,[cf],(gt ag (gt ak (gt an (gt bM (gt bW cc))))),m,_,_,Z,Z,cg⟩
      ·refine Ah f Z cd (Ap (Ae (Ax 1 0 (ds:=[aI]) m Az f Z Z Z Z Z λa f=>Aj 0 0 (ds:=[aI]) m sizeOf26 f Z Z Z (Ao (Ow.one1 2 m bN Z) As) Z (lb Z) Z λw m=>Ac f Z λa f=>Aa (Ar (have ci:=AT (P:=prog) 0 m Az f (s:=2) rfl rfl rfl;have m:=m.fr 2;have m:=m.eraseAt 2;have m:=m.eraseAt 1;?_)))))
       obtain rfl:=sj hd
       exact⟨[(.agg #[aI]),(.bool true)],⟨ci,f.get _ _ Z,trivial⟩,f.d,_,[aJ],(gt ag (gt ak (gt an (gt bM (gt bW cc))))),m,_,_,Z,Z,bN⟩
theorem Wk.h0 {v0 v1:Value}{x0 x1:LL}(m:Mem W G w (H))(h0:R2 G v0 x0)(h1:R2 G v1 x1){y:Bool}(hd:D.h0 x0 x1=some y):
  Calls prog 32 #[v0,v1,Fv 33] w (Res W G H (λ_ Ho v=>Ho=[]∧v=(.bool y))):=by
 refine Au (args:=[v0,v1,Fv 33]) (N:=32) [.tmp 6] func32 Z Z (lb Z) Z λa f=> ?_
 unfold D.h0 at hd
 refine Ae (Ac f Z λa f=>Aa (Ag (Ae (Ab f Z λa f=>A9 underlying24 f Z Z h0 λa f=>Ab f Z λa f=>A9 underlying24 f Z Z h1 λa f=>Ai f Z Z CZ λa f=>Aa ?_))))
 rcases Af hd with⟨aa,hd⟩|⟨aa,hd⟩
 ·refine Ak f Z aa (Ae (Ac f Z λa f=>Aa (Ar ?_)))
  obtain rfl:=sj hd
  exact⟨[(.bool false)],f.g Z,f.d,_,[],gr,m,Z,Z⟩
 ·refine Ah f Z aa (Ap (Ag (Ae (Ab f Z λa f=>A9 underlying24 f Z Z h0 λa f=>Ab f Z λa f=>Aa (Bd hd λab ac hd=> ?_)))))
  refine AY (λa w=>∃q_46':Unit,ab= .inl q_46'∧∃(ad:GH),GLe G ad∧Fr a 32 []∧Mem W ad w (H)) ?_ ?_
  ·refine Aq (AP (λae a w=>∃af:Int,af=ae∧∃(ag:GH),GLe G ag∧Fr a 32 [(1,v1),(2,Fv 33),(15,v0),(16,(iv (x0.length:Int))),(17,iv af)]∧Mem W ag w (H)) ac ⟨_,Z,_,gr,f.k Z,m⟩ ?_)
   clear ac f m
   rintro ae ah ai aj a w ⟨af,rfl,ag,ak,f,m⟩
   refine have h1:=rd2 ak h1;have h0:=rd2 ak h0;Ae (Ai f Z Z AN λa f=>Aa (Ag ?_))
   rcases Af ai with⟨al,ai⟩|⟨al,ai⟩
   ·refine Ak f Z al (Ap (Ag (Aq (Ae (Ab f Z λa f=>Bd ai λam an ai=>BA T24 f Z Z Z h0 an λao ap a aq ar f=>AU m Bt f Z Z aq λa f=>Ac f Z λa f=>Ac f Z λa f=>AA (Ab f Z λa f=>Ab f Z λa f=>Bd ai λau av ai=>BA T24 f Z Z Z h1 av λaw ax a ay az f=>AU m Bt f Z Z ay λa f=>Ac f Z λa f=>AA (Ab f Z λa f=>Ab f Z λa f=>Ab f Z λa f=>Bd ai λaA aB ai=>l_resv0 f Z Z Z call33 (Wk.t0 m ar az aB) λaC aD aE w aF m aG a f=> ?_)))))))
    obtain⟨rfl,rfl⟩:=aG
    refine l_o f (Bg (f.e Z)) λa f=>Aa ?_
    rcases Af ai with⟨aH,ai⟩|⟨aH,ai⟩
    ·refine Ak f Z aH (Ae (Ac f Z λa f=>Aa (Ar ?_)))
     obtain rfl:=sj ai
     obtain rfl:=aj _ rfl
     obtain rfl:=sj hd
     exact⟨[(.bool false)],f.g Z,f.d,_,[],(gt ak aF),m,Z,Z⟩
    ·refine Ah f Z aH (Ap (Al (Ai f Z Z AD λa f=>Ab f Z λa f=>Aa ?_)))
     obtain rfl:=sj ai
     exact⟨_,Z,_,Z,_,(gt ak aF),f.k Z,m⟩
   ·refine Ah f Z al (AO Z ?_)
    obtain rfl:=sj ai
    obtain rfl:=aj _ rfl
    exact⟨_,Z,_,ak,f.weak trivial,m⟩
  ·rintro a w ⟨_,rfl,ad,aI,f,m⟩
   refine Ae (Ac f Z λa f=>Aa (Ar ?_))
   obtain rfl:=sj hd
   exact⟨[(.bool true)],f.g Z,f.d,_,[],aI,m,Z,Z⟩
theorem Wk.U {aa ab:Value}{ac ad:LL}(m:Mem W G w (H))(ae:R2 G aa ac)(af:R2 G ab ad){y:Bool}(hd:D.U ac ad=some y):
  Calls prog 12 #[(.agg #[aa]),(.agg #[ab])] w (Res W G H (λ_ Ho v=>Ho=[]∧v=(.bool y))):=by
 refine Au (args:=[(.agg #[aa]),(.agg #[ab])]) (N:=18) [.tmp 4] func12 Z Z (lb Z) Z λa f=> ?_
 unfold D.U at hd
 refine Ae (BW (cs:=[aa]) m f Z Z Z λag w a m f=>BW (cs:=[ab]) m f Z Z Z λah w a m f=>Ac f Z λa f=>AA (Ax 1 0 (ds:=[aa]) m Az f Z Z Z Z Z λa f=>Bd hd λai aj hd=>A7 f Z call19 (Wk.o m ae aj) λak w al m a f=>have ae:=rd2 al ae;have af:=rd2 al af;Ab f Z λa f=>Bd hd λam an hd=> ?_))
 refine A2 3 (λa w=>∃ao,GLe ak ao∧Mem W ao w (ib ah 26 [ab]::ib ag 26 [aa]::H)∧Fr a 18 [(0,(.agg #[aa])),(1,(.agg #[ab])),(2,pb ag),(3,pb ah),(5,(.agg #[aa])),(6,(.bool ai)),(7,(.bool ai)),(10,(.bool am))]) ?_ ?_
 ·rcases Af an with⟨ap,an⟩|⟨ap,an⟩
  ·refine Am f ap (Ax 0 0 (ds:=[ab]) m Az f Z Z Z Z Z λa f=>Am f ap (Bd an λaq ar an=>A7 f Z call19 (Wk.o m af ar) λau w av m a f=>l_o f (AE (f.e Z) ap (f.e Z)) λa f=> ?_))
   obtain rfl:=sj an
   exact⟨_,av,m,f.k Z⟩
  ·refine An f ap λa f=>An f ap λa f=>l_o f (AF (f.e Z) ap (f.e Z)) λa f=> ?_
   obtain rfl:=sj an
   exact⟨_,gr,m,f.k Z⟩
 ·rintro a w ⟨ao,aw,m,f⟩
  refine have ae:=rd2 aw ae;have af:=rd2 aw af;Ab f Z λa f=>Bd hd λax ay hd=> ?_
  refine A2 6 (λa w=>∃az,GLe ao az∧Mem W az w (ib ah 26 [ab]::ib ag 26 [aa]::H)∧Fr a 18 [(0,(.agg #[aa])),(1,(.agg #[ab])),(2,pb ag),(3,pb ah),(5,(.agg #[aa])),(6,(.bool ai)),(7,(.bool ai)),(10,(.bool am)),(11,(.bool am)),(17,(.bool ax))]) ?_ ?_
  ·rcases Af ay with⟨aA,ay⟩|⟨aA,ay⟩
   ·refine Am f aA (Br underlying26 Z sizeOf24 f Z λa f=>Am f aA (AV 1 0 m Bl f Z Z Z Z λa f=>Am f aA (Br underlying26 Z sizeOf24 f Z λa f=>Am f aA (AV 0 0 m Bl f Z Z Z Z λa f=>Am f aA (Bd ay λaB aC ay=>A7 f Z call32 (Wk.h0 m ae af aC) λaD w aE m a f=>l_o f (AE (f.e Z) aA (f.e Z)) λa f=> ?_)))))
    obtain rfl:=sj ay
    exact⟨_,aE,m,f.k Z⟩
   ·refine An f aA λa f=>An f aA λa f=>An f aA λa f=>An f aA λa f=>An f aA λa f=>l_o f (AF (f.e Z) aA (f.e Z)) λa f=> ?_
    obtain rfl:=sj ay
    exact⟨_,gr,m,f.k Z⟩
  ·rintro a w ⟨az,aF,m,f⟩
   refine Ac f Z λa f=>Aa (Ar (have m:=m.dp 2;?_))
   obtain rfl:=sj hd
   exact⟨[(.bool ax)],f.g Z,f.d,_,[],(gt al (gt aw aF)),m,Z,Z⟩
theorem Wk.T {b0:Nat}{aa:Value}{ab:LI}{ac ad:Int}{x1:ByteArray}{x2:ByteArray}(m:Mem W G w (ib b0 56 [aa,iv ac,iv ad]::H))(ae:RSl (RI .u8) G aa ab){y:ByteArray×(LI)×Int×Int}(hd:D.T ab ac ad x1 x2=some y):
  Calls prog 35 #[pb b0,(.string x1),(.string x2)] w (Res W G H (λG' Ho v=>∃r0:Value,Ho=[ib b0 56 [r0,iv y.2.2.1,iv y.2.2.2]]∧v=(.string y.1)∧RSl (RI .u8) G' r0 y.2.1)):=by
 refine Au (args:=[pb b0,(.string x1),(.string x2)]) (N:=78) [.tmp 6] func35 Z Z (lb Z) Z λa f=> ?_
 unfold D.T at hd
 refine Ae (Ac f Z λa f=>AA (Ab f Z λa f=>Bd hd λaf ag hd=>l_bytesD ⟨_,underlying9⟩ underlying22 underlying5 m f Z Z ag λah ai w a m aj f=>Ac f Z λa f=>Aa (Ag (Ae (Ab f Z λa f=>have m:=m.fr 1;Bd hd λak al hd=>AH f Z call40 (Wk.b m ae al) λam an ao w ap m aq a f=> ?_)))))
 obtain⟨ar,rfl,rfl,au⟩:=aq
 refine have aj:=OwB.mono (RI.mono _) ap aj;Ac f Z λa f=>Aa (Bd hd λav aw hd=> ?_)
 refine AY (λa w=>∃ax:LI,∃ay:LI,∃az:Int,∃aA:Int,(ax,ay,az,aA)=av∧∃(aB:GH) (aC:Value) (aD:Itm) (aE:Value),GLe an aB∧Fr a 78 [(7,aC)]∧Mem W aB w (ib b0 56 [aE,iv az,iv aA]::aD::H)∧OwB (RI .u8) 5 aB aD aC ax∧RSl (RI .u8) aB aE ay) ?_ ?_
 ·refine Aq (AP (λaF a w=>∃aG:LI,∃aH:Int,∃aI:LI,∃aJ:Int,∃aK:Int,(aG,aH,aI,aJ,aK)=aF∧∃(aL:GH) (aM:Value) (aN:Itm) (aO:Value),GLe an aL∧Fr a 78 [(0,pb b0),(2,(.string x2)),(7,aM),(8,iv aH)]∧Mem W aL w (ib b0 56 [aO,iv aJ,iv aK]::aN::H)∧OwB (RI .u8) 5 aL aN aM aG∧RSl (RI .u8) aL aO aI) aw ⟨_,_,_,_,_,Z,_,ai,ah,ar,gr,f.k Z,m,aj,au⟩ ?_)
  clear aw f m
  rintro aF aP aQ aR a w ⟨aG,aH,aI,aJ,aK,rfl,aL,aM,aN,aO,aS,f,m,aT,aU⟩
  refine Ag (Ae (Ab f Z λa f=>Ai f Z Z BQ λa f=>Ab f Z λa f=> ?_))
  refine A2 4 (λa w=>∃aV,GLe aL aV∧Mem W aV w (ib b0 56 [aO,iv aJ,iv aK]::aN::H)∧Fr a 78 [(0,pb b0),(2,(.string x2)),(7,aM),(8,iv aH),(14,iv aH),(15,(.bool (decide ((0:Int)<aH)))),(16,(.bool (decide ((0:Int)<aH)))),(20,(.bool ((decide ((0:Int)<aH))&&(decide ((0:Int)<(aG.length:Int))))))]) ?_ ?_
  ·rcases Bool.eq_false_or_eq_true (decide ((0:Int)<aH)) with aW|aW
   ·exact Am f aW (Ab f Z λa f=>Am f aW (l_ownB_len 1 m aT Z underlying22 f Z Z λa f=>Am f aW (Ai f Z Z BQ λa f=>l_o f (AE (f.e Z) aW (f.e Z)) λa f=>⟨_,gr,m,f.weak ⟨Z,Z,Z,Z,Z,Z,Z,by rw[aW];rfl,trivial⟩⟩)))
   ·exact An f aW λa f=>An f aW λa f=>An f aW λa f=>l_o f (AF (f.e Z) aW (f.e Z)) λa f=>⟨_,gr,m,f.weak ⟨Z,Z,Z,Z,Z,Z,Z,by rw[aW];rfl,trivial⟩⟩
  ·rintro a w ⟨aV,aX,m,f⟩
   refine have aU:=rd1 aX aU;have aT:=OwB.mono (RI.mono _) aX aT;Aa ?_
   rcases Af aQ with⟨aY,aQ⟩|⟨aY,aQ⟩
   ·refine Ak f Z aY (Ap (Ag (Aq (Ae (Ab f Z λa f=>Ab f Z λa f=>l_ownB_len 1 m aT Z underlying22 f Z Z λa f=>Bd aQ λaZ a0 aQ=>AH f Z call40 (Wk.b m aU a0) λa1 a2 a3 w a4 m a5 a f=> ?_)))))
    obtain⟨a6,rfl,rfl,a7⟩:=a5
    refine have aT:=OwB.mono (RI.mono _) a4 aT;Ac f Z λa f=>AA (Ab f Z λa f=>Bd aQ λa8 a9 aQ=>AH f Z call40 (Wk.b m a7 a9) λba bb bc w bd m be a f=> ?_)
    obtain⟨bf,rfl,rfl,bg⟩:=be
    refine have aT:=OwB.mono (RI.mono _) bd aT;Aa (Aq (Ae (Ai f Z Z BD λa f=>Ac f Z λa f=>Aa ?_)))
    rcases Af aQ with⟨bh,aQ⟩|⟨bh,aQ⟩
    ·refine Ak f Z bh (Al (Ab f Z λa f=>Ab f Z λa f=>Ab f Z λa f=>Ab f Z λa f=>Ab f Z λa f=>l_o f (BB (f.e Z) underlying9) λa f=>Bd aQ λbi bj aQ=>AH f Z call40 (Wk.b m bg bj) λbk bl bm w bn m bo a f=> ?_))
     obtain⟨bp,rfl,rfl,bq⟩:=bo
     refine have aT:=OwB.mono (RI.mono _) bn aT;Bd aQ λbr bs aQ=>l_o f (Cc (f.e Z) (f.e Z) underlying9 bs) λa f=>Bd aQ λbt bu aQ=>l_ownB_at 1 m aT Z T22 f Z Z Z bu λbv a bw f=>l_ownB_store 1 m aT Z sizeOf5 f Z Z bw bu Z Z Z λbx w m bz=>Aa (Al (Ab f Z λa f=>Ai f Z Z B1 λa f=>Ac f Z λa f=>Aa ?_))
     obtain rfl:=sj aQ
     exact⟨_,Z,_,_,_,_,_,Z,_,aM,bx,bp,(gt aS (gt aX (gt a4 (gt bd bn)))),f.k Z,m,bz,bq⟩
    ·refine Ah f Z bh (Ae (Ai f Z Z BD λa f=>Ac f Z λa f=>Aa ?_))
     rcases Af aQ with⟨bA,aQ⟩|⟨bA,aQ⟩
     ·refine Ak f Z bA (Al (Ab f Z λa f=>Ab f Z λa f=>Bd aQ λbB bC aQ=>l_ownB_cut 1 m aT Z T22 f Z Z (.inl Z) Z bC λbD bE a m bF f=>Ac f Z λa f=>Aa (Al (Ab f Z λa f=>Ai f Z Z B1 λa f=>Ac f Z λa f=>Aa ?_))))
      obtain rfl:=sj aQ
      exact⟨_,Z,_,_,_,_,_,Z,_,bE,bD,bf,(gt aS (gt aX (gt a4 bd))),f.k Z,m,bF,bg⟩
     ·refine Ah f Z bA (Ae (Ai f Z Z BD λa f=>Ac f Z λa f=>Aa ?_))
      rcases Af aQ with⟨bG,aQ⟩|⟨bG,aQ⟩
      ·refine Ak f Z bG (Bd aQ λbH bI aQ=> ?_)
       refine AY (λa w=>∃bJ:LI,bJ=bH∧∃(bK:GH) (bL:Value) (bM:Itm),GLe bb bK∧Fr a 78 [(0,pb b0),(2,(.string x2)),(7,bL),(8,iv aH)]∧Mem W bK w (ib b0 56 [bf,iv a8.2.2.1,iv a8.2.2.2]::bM::H)∧OwB (RI .u8) 5 bK bM bL bJ) ?_ ?_
       ·have m:=m.fr 1
        obtain⟨bN,bO,m,bP⟩:=OwB.stamp (RI.mono _) aT m
        refine BE 9 Bi (by kernel_rfl) m (AK 1 9 Z f Z λa f=>AK 2 9 Z f Z λa f=>Bd bI λbQ bR bI=>Ee (i:=3) 9 T22 bP bR Z (by kernel_rfl) Z f Z Z Z (.inl ⟨Z,Z⟩) (.inr ⟨_,_,Z,Z⟩) λbS a bT f=>AK 5 9 Z f Z λa f=>AK 6 9 Z f Z λa f=>q_p 7 9 Z f (λ_=>BX (f.e Z) (f.e Z) AD) λa f=>Bd bI λbU bV bI=>Ee (i:=8) 9 T22 bP bV Z (by kernel_rfl) Z f Z Z Z (.inr ⟨_,_,Z,Z⟩) (.inl ⟨Z,Z⟩) λbW a bX f=>Bx 0 Z λbY w bZ m b1 b1=>have bT:=rd1 bZ bT;have bX:=rd1 bZ bX;AM (R:=(RI .u8)) (xs:=([]:LI)) (RI.one _) m T22 f Z Z Z (by decide) (All2.nil _) λb2 b3 w a m b4 f=>Aa (b1 bY [b2] _ _ gr m (Bx 4 Z λb5 w b6 m b7 b7=>have bT:=rd1 b6 bT;have bX:=rd1 b6 bX;have b4:=od1 b6 b4;Bd bI λb8 b9 bI=>A1 (RI.one _) 0 m b4 Z T22 Z (by decide) f Z Z Z (bT.src m) b9 λca cb w a m cc f=>Aa (b7 b5 [ca] _ _ gr m (Bs λcd w ce m=>have bX:=rd1 ce bX;have cc:=od1 ce cc;?_)))))
        refine Bd bI λcf cg bI=>A1 (RI.one _) 0 m cc Z T22 Z (by decide) f Z Z Z (bX.src m) cg λch ci w a m cj f=>have ck:=OwB.of cj;Ac f Z λa f=>Aa (have m:=m.fr 1;?_)
        obtain rfl:=sj bI
        exact⟨_,Z,_,ci,ch,(gt bO (gt bZ (gt b6 ce))),f.k Z,m,ck⟩
       ·rintro a w ⟨bJ,rfl,bK,bL,bM,cl,f,m,cm⟩
        refine have bg:=rd1 cl bg;Al (Ab f Z λa f=>Ai f Z Z B1 λa f=>Ac f Z λa f=>Aa ?_)
        obtain rfl:=sj aQ
        exact⟨_,Z,_,_,_,_,_,Z,_,bL,bM,bf,(gt aS (gt aX (gt a4 (gt bd cl)))),f.k Z,m,cm,bg⟩
      ·refine Ah f Z bG (Ae (Ai f Z Z BD λa f=>Ac f Z λa f=>Aa ?_))
       rcases Af aQ with⟨cn,aQ⟩|⟨cn,aQ⟩
       ·refine Ak f Z cn (Bd aQ λco cp aQ=> ?_)
        refine AY (λa w=>∃cq:LI,∃cr:LI,∃cs:Int,∃ct:Int,(cq,cr,cs,ct)=co∧∃(cu:GH) (cv:Value) (cw:Itm) (cx:Value),GLe bb cu∧Fr a 78 [(0,pb b0),(2,(.string x2)),(7,cv),(8,iv aH)]∧Mem W cu w (ib b0 56 [cx,iv cs,iv ct]::cw::H)∧OwB (RI .u8) 5 cu cw cv cq∧RSl (RI .u8) cu cx cr) ?_ ?_
        ·have m:=m.fr 1
         obtain⟨cy,cz,m,cA⟩:=OwB.stamp (RI.mono _) aT m
         refine have bg:=rd1 cz bg;Eh [ib b0 56 [bf,iv a8.2.2.1,iv a8.2.2.2]] (H) 16 Bi (by kernel_rfl) m (AK 1 16 Z f Z λa f=>AK 2 16 Z f Z λa f=>Bd cp λcB cC cp=>Ee (i:=3) 16 T22 cA cC Z (by kernel_rfl) Z f Z Z Z (.inl ⟨Z,Z⟩) (.inr ⟨_,_,Z,Z⟩) λcD a cE f=>AK 5 16 Z f Z λa f=>AK 6 16 Z f Z λa f=>AK 7 16 Z f Z λa f=>q_p 8 16 Z f (λ_=>BB (f.e Z) underlying9) λa f=>AK 13 16 Z f Z λa f=>AK 14 16 Z f Z λa f=>Bd cp λcF cG cp=>Ee (i:=15) 16 T22 cA cG Z (by kernel_rfl) Z f Z Z Z (.inr ⟨_,_,Z,Z⟩) (.inl ⟨Z,Z⟩) λcH a cI f=>Bx 0 Z λcJ w cK m cL cL=>have cE:=rd1 cK cE;have cI:=rd1 cK cI;have bg:=rd1 cK bg;AM (R:=(RI .u8)) (xs:=([]:LI)) (RI.one _) m T22 f Z Z Z (by decide) (All2.nil _) λcM cN w a m cO f=>Aa (cL cJ [cM,ib b0 56 [bf,iv a8.2.2.1,iv a8.2.2.2]] _ _ gr m (Bx 4 Z λcP w cQ m cR cR=>have cE:=rd1 cQ cE;have cI:=rd1 cQ cI;?_)))
         refine have cO:=od1 cQ cO;have bg:=rd1 cQ bg;Bd cp λcS cT cp=>A1 (RI.one _) 0 m cO Z T22 Z (by decide) f Z Z Z (cE.src m) cT λcU cV w a m cW f=>Aa (cR cP [cU,ib b0 56 [bf,iv a8.2.2.1,iv a8.2.2.2]] _ _ gr m (Bx 9 Z λcX w cY m cZ cZ=>have cI:=rd1 cY cI;have cW:=od1 cY cW;have bg:=rd1 cY bg;have m:=m.fr 1;Bd cp λc0 c1 cp=>AH f Z call40 (Wk.b m bg c1) λc2 c3 c4 w c5 m c6 a f=> ?_))
         obtain⟨c7,rfl,rfl,c8⟩:=c6
         refine have cI:=rd1 c5 cI;have cW:=od1 c5 cW;Aa (cZ c3 [ib b0 56 [c7,iv c0.2.2.1,iv c0.2.2.2],cU] _ _ c5 m (Bd cp λc9 da cp=>q_p 10 16 Z f (λ_=>Cc (f.e Z) (f.e Z) underlying9 da) λa f=>Bx 11 Z λdb w dc m dd dd=>have cI:=rd1 dc cI;have c8:=rd1 dc c8;have cW:=od1 dc cW;AM (R:=(RI .u8)) (xs:=([c9]:LI)) (RI.one _) m T22 f Z Z Z (by decide) (All2.cons Z (All2.nil _)) λde df w a m dg f=>Aa (dd db [de,ib b0 56 [c7,iv c0.2.2.1,iv c0.2.2.2],cU] _ _ gr m (Bx 12 Z λdh w di m dj dj=>have cI:=rd1 di cI;have dg:=od1 di dg;have c8:=rd1 di c8;have cW:=od1 di cW;Bd cp λdk dl cp=>A1 (RI.one _) 2 m cW Z T22 Z (by decide) f Z Z Z (Ow.src (j:=0) dg m Z) dl λdm dn w a m dp f=>Aa (dj dh [de,ib b0 56 [c7,iv c0.2.2.1,iv c0.2.2.2],dm] _ _ gr m (Bs λdq w dr m=>have cI:=rd1 dr cI;have c8:=rd1 dr c8;have dp:=od1 dr dp;Bd cp λds dt cp=> ?_))))))
         refine A1 (RI.one _) 2 m dp Z T22 Z (by decide) f Z Z Z (cI.src m) dt λdu dv w a m dw f=>have dx:=OwB.of dw;Ac f Z λa f=>Aa (have m:=m.fr 2;have m:=m.fr 2;have m:=m.eraseAt 2;?_)
         obtain rfl:=sj cp
         exact⟨_,_,_,_,Z,_,dv,du,c7,(gt cz (gt cK (gt cQ (gt cY (gt c5 (gt dc (gt di dr))))))),f.k Z,m,dx,c8⟩
        ·rintro a w ⟨cq,cr,cs,ct,rfl,cu,cv,cw,cx,dy,f,m,dz,dA⟩
         refine Al (Ab f Z λa f=>Ai f Z Z B1 λa f=>Ac f Z λa f=>Aa ?_)
         obtain rfl:=sj aQ
         exact⟨_,Z,_,_,_,_,_,Z,_,cv,cw,cx,(gt aS (gt aX (gt a4 (gt bd dy)))),f.k Z,m,dz,dA⟩
       ·refine Ah f Z cn (Ap (Al (Ab f Z λa f=>Ai f Z Z B1 λa f=>Ac f Z λa f=>Aa ?_)))
        obtain rfl:=sj aQ
        exact⟨_,Z,_,_,_,_,_,Z,_,aM,aN,bf,(gt aS (gt aX (gt a4 bd))),f.k Z,m,aT,bg⟩
   ·refine Ah f Z aY (AO Z ?_)
    obtain rfl:=sj aQ
    obtain rfl:=aR _ rfl
    exact⟨_,_,_,_,Z,_,aM,aN,aO,(gt aS aX),f.k Z,m,aT,aU⟩
 ·rintro a w ⟨ax,ay,az,aA,rfl,aB,aC,aD,aE,dB,f,m,dC,dD⟩
  refine Ae (Ab f Z λa f=>l_sOf underlying22 underlying5 underlying9 (dC.src m (j:=1) Z) f Z Z λa f=>Ac f Z λa f=>Aa (Ar (have m:=m.eraseAt 1;?_)))
  obtain rfl:=sj hd
  exact⟨[(.string (sOf ax))],f.g Z,f.d,_,[ib b0 56 [aE,iv az,iv aA]],(gt ap dB),m,_,Z,Z,dD⟩
theorem Wk.v0 {v0:Value}{x0:LI}(m:Mem W G w (H))(h0:RSl (RI .u8) G v0 x0){y:ByteArray}(hd:D.v0 x0=some y):
  Calls prog 13 #[v0] w (Res W G H (λ_ Ho v=>Ho=[]∧v=(.string y))):=by
 refine Au (args:=[v0]) (N:=16) [.tmp 2] func13 Z Z (lb Z) Z λa f=> ?_
 unfold D.v0 at hd
 refine Ae (Ac f Z λa f=>AA (Ab f Z λa f=>Bd hd λaa ab hd=>AH f Z call17 (Wk.B m h0 ab) λac ad ae w af m ag a f=> ?_))
 obtain⟨ah,ai,rfl,rfl,aj⟩:=ag
 refine Ac f Z λa f=>AA (Ab f Z λa f=>Bd hd λak al hd=>AH f Z call18 (Wk.x m aj al) λam an ao w ap m aq a f=> ?_)
 obtain⟨ar,au,av,rfl,rfl,aw,ax⟩:=aq
 refine Bd hd λay az hd=>AH f Z call8 (Ow2.lendCall (RI.mono _) 0 aw m Z (λaA aB m aC=>Wk.r m aC az) (λ_ _ _ _ h=>h)) λaD aE aF w aG m aH a f=> ?_
 obtain⟨rfl,rfl⟩:=aH
 refine have ax:=rd1 aG ax;Ac f Z λa f=>Aa (Ag (Ae (Ab f Z λa f=>have m:=m.fr 1;Bd hd λaI aJ hd=>AH f Z call34 (Wk.l m ax aJ) λaK aL aM w aN m aO a f=> ?_)))
 obtain⟨aP,rfl,rfl,aQ⟩:=aO
 refine Aa ?_
 rcases Af hd with⟨aR,hd⟩|⟨aR,hd⟩
 ·refine Ak f Z aR (Ae (Ab f Z λa f=>Ac f Z λa f=>Aa (Ar (have m:=m.dp 2;?_))))
  obtain rfl:=sj hd
  exact⟨[(.string ay)],f.g Z,f.d,_,[],(gt af (gt ap (gt aG aN))),m,Z,Z⟩
 ·refine Ah f Z aR (Ap (Ae (Ab f Z λa f=>Ab f Z λa f=>Bd hd λaS aT hd=>AH f Z call35 (Wk.T m aQ aT) λaU aV aW w aX m aY a f=> ?_)))
  obtain⟨aZ,rfl,rfl,a0⟩:=aY
  refine Ac f Z λa f=>Aa (Ar (have m:=m.dp 2;?_))
  obtain rfl:=sj hd
  exact⟨[(.string aS.1)],f.g Z,f.d,_,[],(gt af (gt ap (gt aG (gt aN aX)))),m,Z,Z⟩
theorem Wk.s {x0:ByteArray}{x1:Int}(m:Mem W G w (H)){y:((List ByteArray))}(hd:D.s x0 x1=some y):
  Calls prog 36 #[(.string x0),(.int .u8 x1)] w (Res W G H (λG' Ho v=>∃r0:Value,∃i0:Itm,Ho=[i0]∧r0=v∧Ow RStr 9 G' i0 r0 y)):=by
 refine Au (args:=[(.string x0),(.int .u8 x1)]) (N:=36) [.tmp 4] func36 Z Z (lb Z) Z λa f=> ?_
 unfold D.s at hd
 refine Ae (Ac f Z λa f=>AA (AM (R:=RStr) (xs:=([]:List ByteArray)) RStr.one m T47 f Z Z Z (by decide) (All2.nil _) λaa ab w a m ac f=>Ac f Z λa f=>AA (Ac f Z λa f=>Aa (Ag (Ae (Ac f Z λa f=>Aa (Bd hd λad ae hd=> ?_)))))))
 refine AY (λa w=>∃af:List ByteArray,af=ad∧∃(ag:GH) (ah:Value) (ai:Itm),GLe G ag∧Fr a 36 [(5,ah)]∧Mem W ag w (ai::H)∧Ow RStr 9 ag ai ah af) ?_ ?_
 ·refine Aq (AP (λaj a w=>∃ak:List ByteArray,∃al:Int,∃am:Int,(ak,al,am)=aj∧∃(an:GH) (ao:Value) (ap:Itm),GLe G an∧Fr a 36 [(0,(.string x0)),(1,(.int .u8 x1)),(5,ao),(6,iv al),(7,iv am)]∧Mem W an w (ap::H)∧Ow RStr 9 an ap ao ak) ae ⟨_,_,_,Z,_,ab,aa,gr,f.k Z,m,ac⟩ ?_)
  clear ae f m
  rintro aj aq ar au a w ⟨ak,al,am,rfl,an,ao,ap,av,f,m,aw⟩
  refine Ag (Ae (Ab f Z λa f=>Ab f Z λa f=>l_o f (BB (f.e Z) underlying9) λa f=>Ai f Z Z b_leq λa f=>Aa ?_))
  rcases Af ar with⟨ax,ar⟩|⟨ax,ar⟩
  ·refine Ak f Z ax (Ap (Ag (Aq (Ae (Ab f Z λa f=>Ab f Z λa f=>l_o f (BB (f.e Z) underlying9) λa f=>Ai f Z Z BD λa f=>Ab f Z λa f=>Bd ar λay az ar=> ?_)))))
   refine A2 6 (λa w=>∃aA,GLe an aA∧Mem W aA w (ap::H)∧Fr a 36 [(0,(.string x0)),(1,(.int .u8 x1)),(5,ao),(6,iv al),(7,iv am),(12,(.bool (decide (am≤(x0.size:Int))))),(15,iv am),(16,(.string x0)),(17,(iv (x0.size:Int))),(18,(.bool (am==(x0.size:Int)))),(19,(.bool (am==(x0.size:Int)))),(25,(.bool ay))]) ?_ ?_
   ·rcases Af az with⟨aB,az⟩|⟨aB,az⟩
    ·refine An f aB λa f=>An f aB λa f=>An f aB λa f=>An f aB λa f=>An f aB λa f=>l_o f (AE (f.e Z) aB (f.e Z)) λa f=> ?_
     obtain rfl:=sj az
     exact⟨_,gr,m,f.k Z⟩
    ·refine Am f aB (Ab f Z λa f=>Am f aB (Ab f Z λa f=>Am f aB (Bd az λaC aD az=>l_o f (Cc (f.e Z) (f.e Z) underlying9 aD) λa f=>Am f aB (Ab f Z λa f=>Am f aB (Ai f Z Z BD λa f=>l_o f (AF (f.e Z) aB (f.e Z)) λa f=> ?_)))))
     obtain rfl:=sj az
     exact⟨_,gr,m,f.k Z⟩
   ·rintro a w ⟨aA,aE,m,f⟩
    refine have aw:=Ow.mono RStr.mono aE aw;Aa ?_
    rcases Af ar with⟨aF,ar⟩|⟨aF,ar⟩
    ·refine Ak f Z aF (Ae (Ab f Z λa f=>Ab f Z λa f=>Ab f Z λa f=>Ab f Z λa f=>Bd ar λaG aH ar=>l_o f (r_sPart (i:=al) (j:=am) underlying9 (f.e Z) (.inr ⟨_,_,Z,f.e Z⟩) (.inr ⟨_,_,Z,f.e Z⟩) aH) λa f=>AM (R:=RStr) (xs:=([aG]:List ByteArray)) RStr.one m T47 f Z Z Z (by decide) (All2.cons Z (All2.nil _)) λaI aJ w a m aK f=>Bd ar λaL aM ar=>A1 RStr.one 1 m aw Z T47 Z (by decide) f Z Z Z (Ow.src (j:=0) aK m Z) aM λaN aO w a m aP f=>Ac f Z λa f=>Aa (Al (Ab f Z λa f=>Ai f Z Z AD λa f=>Ac f Z λa f=>Aa (Al (Ab f Z λa f=>Ai f Z Z AD λa f=>Ac f Z λa f=>Aa (have m:=m.fr 1;have m:=m.eraseAt 1;?_)))))))
     obtain rfl:=sj ar
     exact⟨_,Z,_,_,_,Z,_,aO,aN,(gt av aE),f.k Z,m,aP⟩
    ·refine Ah f Z aF (Ap (Al (Ab f Z λa f=>Ai f Z Z AD λa f=>Ac f Z λa f=>Aa ?_)))
     obtain rfl:=sj ar
     exact⟨_,Z,_,_,_,Z,_,ao,ap,(gt av aE),f.k Z,m,aw⟩
  ·refine Ah f Z ax (AO Z ?_)
   obtain rfl:=sj ar
   obtain rfl:=au _ rfl
   exact⟨_,Z,_,ao,ap,av,f.k Z,m,aw⟩
 ·rintro a w ⟨af,rfl,ag,ah,ai,aQ,f,m,aR⟩
  refine Ae (Ab f Z λa f=>Ac f Z λa f=>Aa (Ar ?_))
  obtain rfl:=sj hd
  exact⟨[ah],f.g Z,f.d,_,[ai],aQ,m,_,_,Z,Z,aR⟩
theorem Wk.k {x0:ByteArray}(m:Mem W G w (H)){y:Int×Bool}(hd:D.k x0=some y):
  Calls prog 37 #[(.string x0)] w (Res W G H (λ_ Ho v=>Ho=[]∧v= .tuple #[iv y.1,(.bool y.2)])):=by
 refine Au (args:=[(.string x0)]) (N:=49) [.tmp 2,.tmp 3] func37 Z Z (lb Z) Z λa f=> ?_
 unfold D.k at hd
 refine Ae (Ac f Z λa f=>Ac f Z λa f=>AA (Ac f Z λa f=>Aa (Ag (Ae (Ab f Z λa f=>l_o f (BB (f.e Z) underlying9) λa f=>Ai f Z Z AN λa f=>Ab f Z λa f=> ?_)))))
 refine A2 4 (λa w=>∃aa,GLe G aa∧Mem W aa w (H)∧Fr a 49 [(0,(.string x0)),(4,iv 0),(6,(.string x0)),(7,(iv (x0.size:Int))),(8,(.bool (decide ((x0.size:Int)<1)))),(9,(.bool (decide ((x0.size:Int)<1)))),(13,(.bool ((decide ((x0.size:Int)<1))||(decide ((9:Int)<(x0.size:Int))))))]) ?_ ?_
 ·rcases Bool.eq_false_or_eq_true (decide ((x0.size:Int)<1)) with ab|ab
  ·exact An f ab λa f=>An f ab λa f=>An f ab λa f=>l_o f (AE (f.e Z) ab (f.e Z)) λa f=>⟨_,gr,m,f.weak ⟨Z,Z,Z,Z,Z,Z,by rw[ab];rfl,trivial⟩⟩
  ·exact Am f ab (Ab f Z λa f=>Am f ab (l_o f (BB (f.e Z) underlying9) λa f=>Am f ab (Ai f Z Z BQ λa f=>l_o f (AF (f.e Z) ab (f.e Z)) λa f=>⟨_,gr,m,f.weak ⟨Z,Z,Z,Z,Z,Z,by rw[ab];rfl,trivial⟩⟩)))
 ·rintro a w ⟨aa,ac,m,f⟩
  refine Ab f Z λa f=>Bd hd λad ae hd=> ?_
  refine A2 9 (λa w=>∃af,GLe aa af∧Mem W af w (H)∧Fr a 49 [(0,(.string x0)),(4,iv 0),(6,(.string x0)),(7,(iv (x0.size:Int))),(8,(.bool (decide ((x0.size:Int)<1)))),(9,(.bool (decide ((x0.size:Int)<1)))),(13,(.bool ((decide ((x0.size:Int)<1))||(decide ((9:Int)<(x0.size:Int)))))),(14,(.bool ((decide ((x0.size:Int)<1))||(decide ((9:Int)<(x0.size:Int)))))),(23,(.bool ad))]) ?_ ?_
  ·rcases Af ae with⟨ag,ae⟩|⟨ag,ae⟩
   ·refine An f ag λa f=>An f ag λa f=>An f ag λa f=>An f ag λa f=>BH f Z Z Z λa f=>BH f Z Z Z λa f=>BH f Z Z Z λa f=>An f ag λa f=>l_o f (AE (f.e Z) ag (f.e Z)) λa f=> ?_
    obtain rfl:=sj ae
    exact⟨_,gr,m,f.k Z⟩
   ·refine Am f ag (Ab f Z λa f=>Am f ag (Bd ae λah ai ae=>l_o f (Cc (f.e Z) (f.e Z) underlying9 ai) λa f=>Am f ag (Ai f Z Z BD λa f=>Am f ag (Ab f Z λa f=> ?_))))
    refine A2 4 (λa w=>∃aj,GLe aa aj∧Mem W aj w (H)∧Fr a 49 [(0,(.string x0)),(4,iv 0),(6,(.string x0)),(7,(iv (x0.size:Int))),(8,(.bool (decide ((x0.size:Int)<1)))),(9,(.bool (decide ((x0.size:Int)<1)))),(13,(.bool ((decide ((x0.size:Int)<1))||(decide ((9:Int)<(x0.size:Int)))))),(14,(.bool ((decide ((x0.size:Int)<1))||(decide ((9:Int)<(x0.size:Int)))))),(15,(.string x0)),(16,(.int .u8 ah)),(17,(.bool (ah==48))),(18,(.bool (ah==48))),(22,(.bool ((ah==48)&&(decide ((1:Int)<(x0.size:Int))))))]) ?_ ?_
    ·rcases Bool.eq_false_or_eq_true (ah==48) with ak|ak
     ·exact Am f ak (Ab f Z λa f=>Am f ak (l_o f (BB (f.e Z) underlying9) λa f=>Am f ak (Ai f Z Z BQ λa f=>Am f ag (l_o f (AE (f.e Z) ak (f.e Z)) λa f=>⟨_,gr,m,f.weak ⟨Z,Z,Z,Z,Z,Z,Z,Z,Z,Z,Z,Z,by rw[ak];rfl,trivial⟩⟩))))
     ·exact An f ak λa f=>An f ak λa f=>An f ak λa f=>Am f ag (l_o f (AF (f.e Z) ak (f.e Z)) λa f=>⟨_,gr,m,f.weak ⟨Z,Z,Z,Z,Z,Z,Z,Z,Z,Z,Z,Z,by rw[ak];rfl,trivial⟩⟩)
    ·rintro a w ⟨aj,al,m,f⟩
     refine l_o f (AF (f.e Z) ag (f.e Z)) λa f=> ?_
     obtain rfl:=sj ae
     exact⟨_,al,m,f.k Z⟩
  ·rintro a w ⟨af,am,m,f⟩
   refine Aa ?_
   rcases Af hd with⟨an,hd⟩|⟨an,hd⟩
   ·refine Ak f Z an (Ae (Ac f Z λa f=>Ac f Z λa f=>Aa (Ar ?_)))
    obtain rfl:=sj hd
    exact⟨[iv 0,(.bool false)],⟨f.get _ _ Z,f.get _ _ Z,trivial⟩,f.d,_,[],(gt ac am),m,Z,Z⟩
   ·refine Ah f Z an (Ap (Ag (Ae (Ac f Z λa f=>Aa (Bd hd λao ap hd=> ?_)))))
    refine AY (λa w=>∃q_62':Int,ao= .inl q_62'∧∃aq:Int,aq=q_62'∧∃(ar:GH),GLe af ar∧Fr a 49 [(4,iv aq)]∧Mem W ar w (H)) ?_ ?_
    ·refine Aq (AP (λau a w=>∃av:Int,∃aw:Int,(av,aw)=au∧∃(ax:GH),GLe af ax∧Fr a 49 [(0,(.string x0)),(4,iv av),(5,iv aw)]∧Mem W ax w (H)) ap ⟨_,_,Z,_,gr,f.k Z,m⟩ ?_)
     clear ap f m
     rintro au ay az aA a w ⟨av,aw,rfl,ax,aB,f,m⟩
     refine Ag (Ae (Ab f Z λa f=>Ab f Z λa f=>l_o f (BB (f.e Z) underlying9) λa f=>Ai f Z Z AN λa f=>Aa ?_))
     rcases Af az with⟨aC,az⟩|⟨aC,az⟩
     ·refine Ak f Z aC (Ap (Ag (Aq (Ag (Ae (Ab f Z λa f=>Ab f Z λa f=>Bd az λaD aE az=>l_o f (Cc (f.e Z) (f.e Z) underlying9 aE) λa f=>Ai f Z Z AN λa f=>Ab f Z λa f=>Bd az λaF aG az=> ?_))))))
      refine A2 5 (λa w=>∃aH,GLe ax aH∧Mem W aH w (H)∧Fr a 49 [(0,(.string x0)),(4,iv av),(5,iv aw),(27,(.bool (decide (aw<(x0.size:Int))))),(30,(.string x0)),(31,iv aw),(32,(.int .u8 aD)),(33,(.bool (decide (aD<48)))),(34,(.bool (decide (aD<48)))),(39,(.bool aF))]) ?_ ?_
      ·rcases Af aG with⟨aI,aG⟩|⟨aI,aG⟩
       ·refine An f aI λa f=>An f aI λa f=>An f aI λa f=>An f aI λa f=>l_o f (AE (f.e Z) aI (f.e Z)) λa f=> ?_
        obtain rfl:=sj aG
        exact⟨_,gr,m,f.k Z⟩
       ·refine Am f aI (Ab f Z λa f=>Am f aI (Ab f Z λa f=>Am f aI (Bd aG λaJ aK aG=>l_o f (Cc (f.e Z) (f.e Z) underlying9 aK) λa f=>Am f aI (Ai f Z Z BQ λa f=>l_o f (AF (f.e Z) aI (f.e Z)) λa f=> ?_))))
        obtain rfl:=sj aG
        exact⟨_,gr,m,f.k Z⟩
      ·rintro a w ⟨aH,aL,m,f⟩
       refine Aa ?_
       rcases Af az with⟨aM,az⟩|⟨aM,az⟩
       ·refine Ak f Z aM (Ae (Ac f Z λa f=>Ac f Z λa f=>Aa (Ar ?_)))
        obtain rfl:=sj az
        obtain rfl:=aA _ rfl
        obtain rfl:=sj hd
        exact⟨[iv 0,(.bool false)],⟨f.get _ _ Z,f.get _ _ Z,trivial⟩,f.d,_,[],(gt ac (gt am (gt aB aL))),m,Z,Z⟩
       ·refine Ah f Z aM (Ap (Al (Ab f Z λa f=>Ai f Z Z b_mul λa f=>Ab f Z λa f=>Ab f Z λa f=>Bd az λaN aO az=>l_o f (Cc (f.e Z) (f.e Z) underlying9 aO) λa f=>Ai f Z Z B1 λa f=>l_o f (Dc (f.e Z) ⟨_,underlying5⟩ underlying2) λa f=>Ai f Z Z AD λa f=>Ac f Z λa f=>Aa (Al (Ab f Z λa f=>Ai f Z Z AD λa f=>Ac f Z λa f=>Aa ?_)))))
        obtain rfl:=sj az
        exact⟨_,Z,_,_,Z,_,(gt aB aL),f.k Z,m⟩
     ·refine Ah f Z aC (AO Z ?_)
      obtain rfl:=sj az
      obtain rfl:=aA _ rfl
      exact⟨_,Z,_,Z,_,aB,f.k Z,m⟩
    ·rintro a w ⟨_,rfl,aq,rfl,ar,aP,f,m⟩
     refine Ae (Ab f Z λa f=>Ac f Z λa f=>Ac f Z λa f=>Aa (Ar ?_))
     obtain rfl:=sj hd
     exact⟨[iv aq,(.bool true)],⟨f.get _ _ Z,f.get _ _ Z,trivial⟩,f.d,_,[],(gt ac (gt am aP)),m,Z,Z⟩
theorem Wk.E {v1:Value}{x0:Int}{x1:LL}(m:Mem W G w (H))(h1:R2 G v1 x1){y:(LL)×Bool}(hd:D.E x0 x1=some y):
  Calls prog 38 #[iv x0,v1] w (Res W G H (λG' Ho v=>∃r0:Value,∃i0:Itm,Ho=[i0]∧v= .tuple #[(.agg #[r0]),(.bool y.2)]∧Ow R1 40 G' i0 r0 y.1)):=by
 refine Au (args:=[iv x0,v1]) (N:=56) [.cell 4 26,.tmp 5] func38 Z Z (lb Z) Z λa f=> ?_
 unfold D.E at hd
 refine Ae (AQ (cs:=[sn]) zeroValue26 m f Z Z λaa w a m f=>Ac f Z λa f=>Aa (Ag (Ae (Ab f Z λa f=>Bd hd λab ac hd=>A7 f Z call51 (Wk.a m ac) λad w ae m a f=>have h1:=rd2 ae h1;l_o f (Bg (f.e Z)) λa f=>Ab f Z λa f=> ?_))))
 refine A2 4 (λa w=>∃af,GLe ad af∧Mem W af w (ib aa 26 [sn]::H)∧Fr a 56 [(0,iv x0),(1,v1),(4,pb aa),(8,iv x0),(9,(.bool ab)),(10,(.bool (!ab))),(11,(.bool (!ab))),(15,(.bool ((!ab)||(decide ((120:Int)<(x1.length:Int))))))]) ?_ ?_
 ·rcases Bool.eq_false_or_eq_true (!ab) with ag|ag
  ·exact An f ag λa f=>An f ag λa f=>An f ag λa f=>l_o f (AE (f.e Z) ag (f.e Z)) λa f=>⟨_,gr,m,f.weak ⟨Z,Z,Z,Z,Z,Z,Z,by rw[ag];rfl,trivial⟩⟩
  ·exact Am f ag (Ab f Z λa f=>Am f ag (A9 underlying24 f Z Z h1 λa f=>Am f ag (Ai f Z Z BQ λa f=>l_o f (AF (f.e Z) ag (f.e Z)) λa f=>⟨_,gr,m,f.weak ⟨Z,Z,Z,Z,Z,Z,Z,by rw[ag];rfl,trivial⟩⟩)))
 ·rintro a w ⟨af,ah,m,f⟩
  refine have h1:=rd2 ah h1;Aa ?_
  rcases Af hd with⟨ai,hd⟩|⟨ai,hd⟩
  ·refine Ak f Z ai (Ae ?_)
   have aj:∀w,(Instr.build 26 #[]).run prog w= .ok (.agg #[sn]) w:=by intro w;simp[Instr.build,Instr.fill,A3,AX,AL,AR,AI,A4,AZ]
   refine Be f Z Z aj λa f=>Aj 0 0 (ds:=[sn]) m sizeOf26 f Z Z Z (Ao Z As) Z (lb Z) Z λw m=>Ac f Z λa f=>Aa (Ar ?_)
   obtain⟨ak,m,al⟩:=Ow.nil R1 40 m
   refine have am:=AT (P:=prog) 1 m Az f (s:=4) rfl rfl rfl;have m:=m.eraseAt 1;?_
   obtain rfl:=sj hd
   exact⟨[(.agg #[sn]),(.bool false)],⟨am,f.get _ _ Z,trivial⟩,f.d,_,[ak],(gt ae ah),m,_,_,Z,Z,al⟩
  ·refine Ah f Z ai (Ap (Ae (Ab f Z λa f=>Bd hd λan ao hd=>AH f Z call42 (Wk.e m ao) λap aq ar w au m av a f=> ?_)))
   obtain⟨aw,ax,rfl,rfl,ay⟩:=av
   refine have h1:=rd2 au h1;AQ (cs:=[sn]) zeroValue26 m f Z Z λaz w a m f=>Aj 0 0 (ds:=[aw]) m sizeOf26 f Z Z Z (Ao (Ow.one1 1 m ay Z) As) Z (lb Z) Z λw m=>Aa (Ag (Ae (Ac f Z λa f=>Aa (Bd hd λaA aB hd=> ?_))))
   refine AY (λa w=>∃q_213':LL,aA= .inl q_213'∧∃aC:LL,aC=q_213'∧∃(aD:GH) (aE:Itm),GLe aq aD∧Fr a 56 [(4,pb aa),(6,pb az)]∧Mem W aD w (ib aa 26 [sn]::ib az 26 [aw]::aE::H)∧Ow R1 40 aD aE aw aC) ?_ ?_
   ·refine Aq (have m:=m.fr 2;AP (λaF a w=>∃aG:Int,∃aH:LL,(aG,aH)=aF∧∃(aI:GH) (aJ:Itm),GLe aq aI∧Fr a 56 [(0,iv x0),(1,v1),(4,pb aa),(6,pb az),(7,iv aG)]∧Mem W aI w (ib aa 26 [sn]::ib az 26 [aw]::aJ::H)∧Ow R1 40 aI aJ aw aH) aB ⟨_,_,Z,_,ax,gr,f.k Z,m,ay⟩ ?_)
    clear aB f m
    rintro aF aK aL aM a w ⟨aG,aH,rfl,aI,aJ,aN,f,m,aO⟩
    refine have h1:=rd2 aN h1;Ag (Ae (Ab f Z λa f=>Ab f Z λa f=>A9 underlying24 f Z Z h1 λa f=>Ai f Z Z AN λa f=>Aa ?_))
    rcases Af aL with⟨aP,aL⟩|⟨aP,aL⟩
    ·refine Ak f Z aP (Ap (Ag (Aq (Ag (Ae (Ab f Z λa f=>Ab f Z λa f=>Bd aL λaQ aR aL=>BA T24 f Z Z Z h1 aR λaS aT a aU aV f=>AU m Bt f Z Z aU λa f=>A9 underlying40 f Z Z aV λa f=>Ai f Z Z CZ λa f=>Ab f Z λa f=>Bd aL λaW aX aL=> ?_))))))
     refine A2 8 (λa w=>∃aY,GLe aI aY∧Mem W aY w (ib aa 26 [sn]::ib az 26 [aw]::aJ::H)∧Fr a 56 [(0,iv x0),(1,v1),(4,pb aa),(6,pb az),(7,iv aG),(22,(.bool (decide (aG<(x1.length:Int))))),(25,v1),(26,iv aG),(27,aS),(28,aT),(29,(iv (aQ.length:Int))),(30,(.bool ((aQ.length:Int) !=2))),(31,(.bool ((aQ.length:Int) !=2))),(39,(.bool aW))]) ?_ ?_
     ·rcases Af aX with⟨aZ,aX⟩|⟨aZ,aX⟩
      ·refine An f aZ λa f=>An f aZ λa f=>An f aZ λa f=>An f aZ λa f=>An f aZ λa f=>An f aZ λa f=>An f aZ λa f=>l_o f (AE (f.e Z) aZ (f.e Z)) λa f=> ?_
       obtain rfl:=sj aX
       exact⟨_,gr,m,f.k Z⟩
      ·refine Am f aZ (Ab f Z λa f=>Am f aZ (Ab f Z λa f=>Am f aZ (Bd aX λa0 a1 aX=>BA T24 f Z Z Z h1 a1 λa2 a3 a a4 a5 f=>Am f aZ (AU m Bt f Z Z a4 λa f=>Am f aZ (Ab f Z λa f=>Am f aZ (Bd aX λa6 a7 aX=>A7 f Z call52 (Wk.K m a5 a7) λa8 w a9 m a f=>Am f aZ (l_o f (Bg (f.e Z)) λa f=>l_o f (AF (f.e Z) aZ (f.e Z)) λa f=> ?_)))))))
       obtain rfl:=sj aX
       exact⟨_,a9,m,f.k Z⟩
     ·rintro a w ⟨aY,ba,m,f⟩
      refine have h1:=rd2 ba h1;have aO:=od3 ba aO;Aa ?_
      rcases Af aL with⟨bb,aL⟩|⟨bb,aL⟩
      ·refine Ak f Z bb (Ae ?_)
       have bc:∀w,(Instr.build 26 #[]).run prog w= .ok (.agg #[sn]) w:=by intro w;simp[Instr.build,Instr.fill,A3,AX,AL,AR,AI,A4,AZ]
       refine Be f Z Z bc λa f=>Aj 0 0 (ds:=[sn]) m sizeOf26 f Z Z Z (Ao Z As) Z (lb Z) Z λw m=>Ac f Z λa f=>Aa (Ar ?_)
       obtain⟨bd,m,be⟩:=Ow.nil R1 40 m
       refine have bf:=AT (P:=prog) 1 m Az f (s:=4) rfl rfl rfl;have m:=m.fr 3;have m:=m.fr 1;have m:=m.eraseAt 3;have m:Mem W aY w (bd::aJ::H):=m.eraseAt 2;have m:=m.eraseAt 1;?_
       obtain rfl:=sj aL
       obtain rfl:=aM _ rfl
       obtain rfl:=sj hd
       exact⟨[(.agg #[sn]),(.bool false)],⟨bf,f.get _ _ Z,trivial⟩,f.d,_,[bd],(gt ae (gt ah (gt au (gt aN ba)))),m,_,_,Z,Z,be⟩
      ·refine Ah f Z bb (Ap (BE 13 Bi (by kernel_rfl) m (q_boxAgg (i:=0) (ds:=[aw]) 13 1 Az Z Z Z Z (by kernel_rfl) Z f Z Z Z λa f=>AK 1 13 Z f Z λa f=>AK 2 13 Z f Z λa f=>Bd aL λbg bh aL=>B8 3 13 T24 h1 bh Z f Z Z λbi bj a bk bl f=>Ca 4 13 Bt bk Z f Z λa f=>Bd aL λbm bn aL=>B8 5 13 T40 bl bn Z f Z Z λbo bp a bq br f=> ?_)))
       subst br
       refine Ca 6 13 Pl2 bq Z f Z λa f=>AK 7 13 Z f Z λa f=>AK 8 13 Z f Z λa f=>Bd aL λbs bt aL=>B8 9 13 T24 h1 bt Z f Z Z λbu bv a bw bx f=>Ca 10 13 Bt bw Z f Z λa f=>Bd aL λbz bA aL=>B8 11 13 T40 bx bA Z f Z Z λbB bC a bD bE f=> ?_
       subst bE
       refine Ca 12 13 Pl2 bD Z f Z λa f=>Bs λbF w bG m=>have aO:=od3 bG aO;have m:=m.fr 2;Bd aL λbH bI aL=>AH f Z call60 (Wk.d m aO bI) λbJ bK bL w bM m bN a f=> ?_
       obtain⟨bO,rfl,rfl,bP⟩:=bN
       refine Aj 2 0 (ds:=[aw]) m sizeOf26 f Z Z Z (Ao (Ow.one1 0 m bP Z) As) Z (lb Z) Z λw m=>Aa (Al (Ab f Z λa f=>Ai f Z Z AD λa f=>Ac f Z λa f=>Aa (have m:=m.fr 2;have m:=m.fr 2;?_)))
       obtain rfl:=sj aL
       exact⟨_,Z,_,_,Z,_,bO,(gt aN (gt ba (gt bG bM))),f.k Z,m,bP⟩
    ·refine Ah f Z aP (AO Z ?_)
     obtain rfl:=sj aL
     obtain rfl:=aM _ rfl
     exact⟨_,Z,_,Z,_,aJ,aN,f.k Z,m,aO⟩
   ·rintro a w ⟨_,rfl,aC,rfl,aD,aE,bQ,f,m,bR⟩
    refine Ae (Ax 1 0 (ds:=[aw]) m Az f Z Z Z Z Z λa f=>Aj 0 0 (ds:=[aw]) m sizeOf26 f Z Z Z (Ao (Ow.one1 2 m bR Z) As) Z (lb Z) Z λw m=>Ac f Z λa f=>Aa (Ar (have bS:=AT (P:=prog) 0 m Az f (s:=4) rfl rfl rfl;have m:=m.fr 2;have m:=m.eraseAt 2;have m:=m.eraseAt 1;?_)))
    obtain rfl:=sj hd
    exact⟨[(.agg #[aw]),(.bool true)],⟨bS,f.get _ _ Z,trivial⟩,f.d,_,[aE],(gt ae (gt ah (gt au bQ))),m,_,_,Z,Z,bR⟩
theorem Wk.N {x0:ByteArray}(m:Mem W G w (H)){y:(LL)×Bool}(hd:D.N x0=some y):
  Calls prog 14 #[(.string x0)] w (Res W G H (λG' Ho v=>∃r0:Value,∃i0:Itm,Ho=[i0]∧v= .tuple #[(.agg #[r0]),(.bool y.2)]∧Ow R1 40 G' i0 r0 y.1)):=by
 refine Au (args:=[(.string x0)]) (N:=116) [.cell 2 26,.tmp 3] func14 Z Z (lb Z) Z λa f=> ?_
 unfold D.N at hd
 refine Ae (AQ (cs:=[sn]) zeroValue26 m f Z Z λaa w a m f=>Ac f Z λa f=>Aa (Ag (Ae (Ab f Z λa f=>l_o f (BB (f.e Z) underlying9) λa f=>Ai f Z Z BQ λa f=>Aa ?_))))
 rcases Af hd with⟨ab,hd⟩|⟨ab,hd⟩
 ·refine Ak f Z ab (Ae ?_)
  have ac:∀w,(Instr.build 26 #[]).run prog w= .ok (.agg #[sn]) w:=by intro w;simp[Instr.build,Instr.fill,A3,AX,AL,AR,AI,A4,AZ]
  refine Be f Z Z ac λa f=>Aj 0 0 (ds:=[sn]) m sizeOf26 f Z Z Z (Ao Z As) Z (lb Z) Z λw m=>Ac f Z λa f=>Aa (Ar ?_)
  obtain⟨ad,m,ae⟩:=Ow.nil R1 40 m
  refine have af:=AT (P:=prog) 1 m Az f (s:=2) rfl rfl rfl;have m:=m.eraseAt 1;?_
  obtain rfl:=sj hd
  exact⟨[(.agg #[sn]),(.bool false)],⟨af,f.get _ _ Z,trivial⟩,f.d,_,[ad],gr,m,_,_,Z,Z,ae⟩
 ·refine Ah f Z ab (Ap (Ae (Ab f Z λa f=>Bd hd λag ah hd=>Cy f Z call36 (Wk.s m ah) λai aj ak w al m am a f=>Ac f Z λa f=>Aa (Ag (Ag (BE 17 Bi (by kernel_rfl) m (AK 0 17 Z f Z λa f=>Bd hd λan ao hd=>Cz 1 17 0 m am T47 ao Z f Z Z λap a aq f=>q_ol 2 17 0 am Pl9 aq ao Z f Z λar a au f=> ?_)))))))
  subst au
  refine q_p 3 17 Z f (λ_=>BB (f.e Z) underlying9) λa f=>q_p 4 17 Z f (λ_=>BX (f.e Z) (f.e Z) AN) λa f=>AK 5 17 Z f Z λa f=>Bd hd λav aw hd=>q_cut (fuel':=0) (listed':= #[true,true,true,true,true,true,true,true,true,true,true,true,true,true,true,true,true]) (λa=>Fr a 116 [(0,(.string x0)),(2,pb aa),(4,ai),(22,ai),(23,ap),(24,(.string an)),(25,(iv (an.size:Int))),(26,(.bool (decide ((an.size:Int)<2)))),(27,(.bool (decide ((an.size:Int)<2)))),(38,(.bool av))]) ?_ ?_
  ·intro a f
   refine Bs λax w ay m=>have am:=Ow.mono RStr.mono ay am;Aa ?_
   rcases Af hd with⟨az,hd⟩|⟨az,hd⟩
   ·refine Ak f Z az (Ae ?_)
    have aA:∀w,(Instr.build 26 #[]).run prog w= .ok (.agg #[sn]) w:=by intro w;simp[Instr.build,Instr.fill,A3,AX,AL,AR,AI,A4,AZ]
    refine Be f Z Z aA λa f=>Aj 1 0 (ds:=[sn]) m sizeOf26 f Z Z Z (Ao Z As) Z (lb Z) Z λw m=>Ac f Z λa f=>Aa (Ar ?_)
    obtain⟨aB,m,aC⟩:=Ow.nil R1 40 m
    refine have aD:=AT (P:=prog) 2 m Az f (s:=2) rfl rfl rfl;have m:=m.eraseAt 2;have m:=m.eraseAt 1;?_
    obtain rfl:=sj hd
    exact⟨[(.agg #[sn]),(.bool false)],⟨aD,f.get _ _ Z,trivial⟩,f.d,_,[aB],(gt al ay),m,_,_,Z,Z,aC⟩
   ·refine Ah f Z az (Ap (Ag (BE 15 Bi (by kernel_rfl) m (AK 0 15 Z f Z λa f=>Bd hd λaE aF hd=>Cz 1 15 0 m am T47 aF Z f Z Z λaG a aH f=>q_ol 2 15 0 am Pl9 aH aF Z f Z λaI a aJ f=> ?_))))
    subst aJ
    refine AK 3 15 Z f Z λa f=>Bd hd λaK aL hd=>Cz 4 15 0 m am T47 aL Z f Z Z λaM a aN f=>q_ol 5 15 0 am Pl9 aN aL Z f Z λaO a aP f=> ?_
    subst aP
    refine q_p 6 15 Z f (λ_=>BB (f.e Z) underlying9) λa f=>q_p 7 15 Z f (λ_=>BX (f.e Z) (f.e Z) B1) λa f=>Bd hd λaQ aR hd=>q_p 8 15 Z f (λ_=>r_sPart (i:=0) (j:=(i64.wrap ((aK.size:Int)-1))) underlying9 (f.e Z) (.inl ⟨Z,Z⟩) (.inr ⟨_,_,Z,f.e Z⟩) aR) λa f=>Bx 9 Z λaS w aT m aU aU=>have am:=Ow.mono RStr.mono aT am;Bd hd λaV aW hd=>A7 f Z call37 (Wk.k m aW) λaX w aY m a f=>have am:=Ow.mono RStr.mono aY am;Aa (aU aX [] _ _ aY m (AK 10 15 Z f Z λa f=>q_p 11 15 Z f (λ_=>AB (f.e Z) Z) λa f=>q_p 12 15 Z f (λ_=>AB (f.e Z) Z) λa f=>q_p 13 15 Z f (λ_=>CN (f.e Z)) λa f=>q_p 14 15 Z f (λ_=>CN (f.e Z)) λa f=>Bs λaZ w a0 m=>have am:=Ow.mono RStr.mono a0 am;AA (AM (R:=R1) (xs:=([]:LL)) (RSl.one _) m T24 f Z Z Z (by decide) (All2.nil _) λa1 a2 w a m a3 f=>Ac f Z λa f=>Aa (Ag (Ae (Ac f Z λa f=> ?_))))))
    refine Aa (Bd hd λa4 a5 hd=> ?_)
    refine AY (λa w=>∃q_239':LL,a4= .inl q_239'∧∃a6:LL,a6=q_239'∧∃(a7:GH) (a8:Value) (a9:Itm),GLe aZ a7∧Fr a 116 [(0,(.string x0)),(2,pb aa),(5,iv aV.1),(6,(.bool aV.2)),(7,a8)]∧Mem W a7 w (ib aa 26 [sn]::a9::H)∧Ow R1 40 a7 a9 a8 a6) ?_ ?_
    ·refine Aq (have m:=m.fr 1;have m:=m.fr 2;AP (λba a w=>∃bb:LL,∃bc:Int,(bb,bc)=ba∧∃(bd:GH) (be:Value) (bf:Itm),GLe aZ bd∧Fr a 116 [(0,(.string x0)),(2,pb aa),(4,ai),(5,iv aV.1),(6,(.bool aV.2)),(7,be),(8,iv bc)]∧Mem W bd w (ib aa 26 [sn]::aj::bf::H)∧Ow R1 40 bd bf be bb) a5 ⟨_,_,Z,_,a2,a1,gr,f.k Z,m,a3⟩ ?_)
     clear a5 f m
     rintro ba bg bh bi a w ⟨bb,bc,rfl,bd,be,bf,bj,f,m,bk⟩
     refine have am:=Ow.mono RStr.mono bj am;Ag (Ae (Ab f Z λa f=>Ab f Z λa f=>BF 1 m am Z underlying47 f Z Z λa f=>Ai f Z Z AN λa f=>Aa ?_))
     rcases Af bh with⟨bl,bh⟩|⟨bl,bh⟩
     ·refine Ak f Z bl (Ap (Ag (Aq (Ae (Ab f Z λa f=>Ab f Z λa f=>Bd bh λbm bn bh=>Bz 1 m am Z T47 f Z Z Z bn λbo a bp f=>Bq 1 m am Z Pl9 f Z Z bp bn λbq a br f=> ?_)))))
      subst br
      refine Bd bh λbs bt bh=>Cy f Z call36 (Wk.s m bt) λbu bv bw w bx m bz a f=>have bk:=od3 bx bk;Ac f Z λa f=>Aa (Ag (Ae (Ab f Z λa f=>BF 0 m bz Z underlying47 f Z Z λa f=>Ai f Z Z CZ λa f=>Aa ?_)))
      rcases Af bh with⟨bA,bh⟩|⟨bA,bh⟩
      ·refine Ak f Z bA (Ae ?_)
       have bB:∀w,(Instr.build 26 #[]).run prog w= .ok (.agg #[sn]) w:=by intro w;simp[Instr.build,Instr.fill,A3,AX,AL,AR,AI,A4,AZ]
       refine Be f Z Z bB λa f=>Aj 1 0 (ds:=[sn]) m sizeOf26 f Z Z Z (Ao Z As) Z (lb Z) Z λw m=>Ac f Z λa f=>Aa (Ar ?_)
       obtain⟨bC,m,bD⟩:=Ow.nil R1 40 m
       refine have bE:=AT (P:=prog) 2 m Az f (s:=2) rfl rfl rfl;have m:=m.eraseAt 4;have m:=m.eraseAt 3;have m:=m.eraseAt 2;have m:=m.eraseAt 1;?_
       obtain rfl:=sj bh
       obtain rfl:=bi _ rfl
       obtain rfl:=sj hd
       exact⟨[(.agg #[sn]),(.bool false)],⟨bE,f.get _ _ Z,trivial⟩,f.d,_,[bC],(gt al (gt ay (gt aT (gt aY (gt a0 (gt bj bx)))))),m,_,_,Z,Z,bD⟩
      ·refine Ah f Z bA (Ap (Ae (Ab f Z λa f=>Bd bh λbF bG bh=>Bz 0 m bz Z T47 f Z Z Z bG λbH a bI f=>Bq 0 m bz Z Pl9 f Z Z bI bG λbJ a bK f=> ?_)))
       subst bK
       refine Bd bh λbL bM bh=>A7 f Z call37 (Wk.k m bM) λbN w bO m a f=>have bz:=Ow.mono RStr.mono bO bz;have bk:=od3 bO bk;Ab f Z λa f=>l_o f (AB (f.e Z) Z) λa f=>l_o f (AB (f.e Z) Z) λa f=>Ac f Z λa f=>Ac f Z λa f=>AA (Ab f Z λa f=>Bd bh λbP bQ bh=>Bz 0 m bz Z T47 f Z Z Z bQ λbR a bS f=>Bq 0 m bz Z Pl9 f Z Z bS bQ λbT a bU f=> ?_)
       subst bU
       refine Bd bh λbV bW bh=>A7 f Z call37 (Wk.k m bW) λbX w bY m a f=>have bk:=od3 bY bk;Ab f Z λa f=>l_o f (AB (f.e Z) Z) λa f=>l_o f (AB (f.e Z) Z) λa f=>Ac f Z λa f=>Ac f Z λa f=>Aa (Ag (Ae (Ab f Z λa f=>l_o f (Bg (f.e Z)) λa f=>Ab f Z λa f=> ?_)))
       refine A2 3 (λa w=>∃bZ,GLe bX bZ∧Mem W bZ w (bv::ib aa 26 [sn]::aj::bf::H)∧Fr a 116 [(0,(.string x0)),(2,pb aa),(4,ai),(5,iv aV.1),(6,(.bool aV.2)),(7,be),(8,iv bc),(9,bu),(10,iv bL.1),(11,(.bool bL.2)),(12,iv bV.1),(13,(.bool bV.2)),(83,(.bool bL.2)),(84,(.bool (!bL.2))),(85,(.bool (!bL.2))),(88,(.bool ((!bL.2)||(!bV.2))))]) ?_ ?_
       ·rcases Bool.eq_false_or_eq_true (!bL.2) with b0|b0
        ·exact An f b0 λa f=>An f b0 λa f=>l_o f (AE (f.e Z) b0 (f.e Z)) λa f=>⟨_,gr,m,f.weak ⟨Z,Z,Z,Z,Z,Z,Z,Z,Z,Z,Z,Z,Z,Z,Z,by rw[b0];rfl,trivial⟩⟩
        ·exact Am f b0 (Ab f Z λa f=>Am f b0 (l_o f (Bg (f.e Z)) λa f=>l_o f (AF (f.e Z) b0 (f.e Z)) λa f=>⟨_,gr,m,f.weak ⟨Z,Z,Z,Z,Z,Z,Z,Z,Z,Z,Z,Z,Z,Z,Z,by rw[b0];rfl,trivial⟩⟩))
       ·rintro a w ⟨bZ,b1,m,f⟩
        refine have bk:=od3 b1 bk;Aa ?_
        rcases Af bh with⟨b2,bh⟩|⟨b2,bh⟩
        ·refine Ak f Z b2 (Ae ?_)
         have b3:∀w,(Instr.build 26 #[]).run prog w= .ok (.agg #[sn]) w:=by intro w;simp[Instr.build,Instr.fill,A3,AX,AL,AR,AI,A4,AZ]
         refine Be f Z Z b3 λa f=>Aj 1 0 (ds:=[sn]) m sizeOf26 f Z Z Z (Ao Z As) Z (lb Z) Z λw m=>Ac f Z λa f=>Aa (Ar ?_)
         obtain⟨b4,m,b5⟩:=Ow.nil R1 40 m
         refine have b6:=AT (P:=prog) 2 m Az f (s:=2) rfl rfl rfl;have m:=m.eraseAt 4;have m:=m.eraseAt 3;have m:=m.eraseAt 2;have m:=m.eraseAt 1;?_
         obtain rfl:=sj bh
         obtain rfl:=bi _ rfl
         obtain rfl:=sj hd
         exact⟨[(.agg #[sn]),(.bool false)],⟨b6,f.get _ _ Z,trivial⟩,f.d,_,[b4],(gt al (gt ay (gt aT (gt aY (gt a0 (gt bj (gt bx (gt bO (gt bY b1))))))))),m,_,_,Z,Z,b5⟩
        ·refine Ah f Z b2 (Ap (Al (Ab f Z λa f=>Ab f Z λa f=>Ab f Z λa f=>AM (R:=R0) (xs:=([bL.1,bV.1]:LI)) (RI.one _) m T40 f Z Z Z (by decide) (All2.cons Z (All2.cons Z (All2.nil _))) λb7 b8 w a m b9 f=> ?_)))
         obtain⟨ca,cb,m,cc⟩:=Ow.stamp (RI.mono _) b9 m
         refine have bk:=od3 cb bk;AM (R:=R1) (xs:=([([bL.1,bV.1]:LI)]:LL)) (RSl.one _) m T24 f Z Z Z (by decide) (All2.cons cc (All2.nil _)) λcd ce w a m cf f=>Bd bh λcg ch bh=>A1 (RSl.one _) 4 m bk Z T24 Z (by decide) f Z Z Z (Ow.src (j:=0) cf m Z) ch λci cj w a m ck f=>Ac f Z λa f=>Aa (Al (Ab f Z λa f=>Ai f Z Z AD λa f=>Ac f Z λa f=>Aa (have m:=m.fr 4;have m:=m.fr 4;have m:=m.fr 4;have m:Mem W ca w (ib aa 26 [sn]::aj::ci::cd::H):=m.eraseAt 4;have m:=m.eraseAt 3;?_)))
         obtain rfl:=sj bh
         exact⟨_,Z,_,_,Z,_,cj,ci,(gt bj (gt bx (gt bO (gt bY (gt b1 cb))))),f.k Z,m,ck⟩
     ·refine Ah f Z bl (AO Z (have m:=m.fr 2;have m:=m.fr 1;have m:=m.eraseAt 2;?_))
      obtain rfl:=sj bh
      obtain rfl:=bi _ rfl
      exact⟨_,Z,_,Z,_,be,bf,bj,f.k Z,m,bk⟩
    ·rintro a w ⟨_,rfl,a6,rfl,a7,a8,a9,cl,f,m,cm⟩
     refine Ae (Ab f Z λa f=>Ab f Z λa f=>have m:=m.fr 1;?_)
     obtain⟨cn,co,m,cp⟩:=Ow.stamp (RSl.mono (RI.mono _)) cm m
     refine Bd hd λcq cr hd=>AH f Z call38 (Wk.E m cp cr) λct cu cv w cw m cx a f=> ?_
     obtain⟨cy,cz,rfl,rfl,cA⟩:=cx
     refine Ab f Z λa f=>l_o f (AB (f.e Z) Z) λa f=>l_o f (AB (f.e Z) Z) λa f=>AQ (cs:=[sn]) zeroValue26 m f Z Z λcB w a m f=>Aj 0 0 (ds:=[cy]) m sizeOf26 f Z Z Z (Ao (Ow.one1 1 m cA Z) As) Z (lb Z) Z λw m=>Ac f Z λa f=>Aa (Ag (Ae (Ab f Z λa f=>l_o f (Bg (f.e Z)) λa f=>Ab f Z λa f=> ?_)))
     refine A2 3 (λa w=>∃cC,GLe cu cC∧Mem W cC w (ib cB 26 [cy]::cz::ib aa 26 [sn]::H)∧Fr a 116 [(0,(.string x0)),(2,pb aa),(5,iv aV.1),(6,(.bool aV.2)),(7,a8),(14,pb cB),(15,(.bool cq.2)),(102,(.bool aV.2)),(103,(.bool (!aV.2))),(104,(.bool (!aV.2))),(107,(.bool ((!aV.2)||(!cq.2))))]) ?_ ?_
     ·rcases Bool.eq_false_or_eq_true (!aV.2) with cD|cD
      ·exact An f cD λa f=>An f cD λa f=>l_o f (AE (f.e Z) cD (f.e Z)) λa f=>⟨_,gr,m,f.weak ⟨Z,Z,Z,Z,Z,Z,Z,Z,Z,Z,by rw[cD];rfl,trivial⟩⟩
      ·exact Am f cD (Ab f Z λa f=>Am f cD (l_o f (Bg (f.e Z)) λa f=>l_o f (AF (f.e Z) cD (f.e Z)) λa f=>⟨_,gr,m,f.weak ⟨Z,Z,Z,Z,Z,Z,Z,Z,Z,Z,by rw[cD];rfl,trivial⟩⟩))
     ·rintro a w ⟨cC,cE,m,f⟩
      refine have cA:=od3 cE cA;Ab f Z λa f=>Bd hd λcF cG hd=> ?_
      refine A2 5 (λa w=>∃cH,GLe cC cH∧Mem W cH w (ib cB 26 [cy]::cz::ib aa 26 [sn]::H)∧Fr a 116 [(0,(.string x0)),(2,pb aa),(5,iv aV.1),(6,(.bool aV.2)),(7,a8),(14,pb cB),(15,(.bool cq.2)),(102,(.bool aV.2)),(103,(.bool (!aV.2))),(104,(.bool (!aV.2))),(107,(.bool ((!aV.2)||(!cq.2)))),(108,(.bool ((!aV.2)||(!cq.2)))),(113,(.bool cF))]) ?_ ?_
      ·rcases Af cG with⟨cI,cG⟩|⟨cI,cG⟩
       ·refine An f cI λa f=>An f cI λa f=>An f cI λa f=>An f cI λa f=>l_o f (AE (f.e Z) cI (f.e Z)) λa f=> ?_
        obtain rfl:=sj cG
        exact⟨_,gr,m,f.k Z⟩
       ·refine Am f cI (Ax 0 0 (ds:=[cy]) m Az f Z Z Z Z Z λa f=>Am f cI (Bd cG λcJ cK cG=>AH f Z call8 (Ow.lendCall (RSl.mono (RI.mono _)) 1 cA m Z (λcL cM m cN=>Wk.r m cN cK) (λ_ _ _ _ h=>h)) λcO cP cQ w cR m cS a f=> ?_))
        obtain⟨rfl,rfl⟩:=cS
        refine Am f cI (Ab f Z λa f=>Am f cI (l_o f (CV (f.e Z) (f.e Z)) λa f=>l_o f (AF (f.e Z) cI (f.e Z)) λa f=> ?_))
        obtain rfl:=sj cG
        exact⟨_,cR,m,f.k Z⟩
      ·rintro a w ⟨cH,cT,m,f⟩
       refine have cA:=od3 cT cA;Aa ?_
       rcases Af hd with⟨cU,hd⟩|⟨cU,hd⟩
       ·refine Ak f Z cU (Ae ?_)
        have cV:∀w,(Instr.build 26 #[]).run prog w= .ok (.agg #[sn]) w:=by intro w;simp[Instr.build,Instr.fill,A3,AX,AL,AR,AI,A4,AZ]
        refine Be f Z Z cV λa f=>Aj 2 0 (ds:=[sn]) m sizeOf26 f Z Z Z (Ao Z As) Z (lb Z) Z λw m=>Ac f Z λa f=>Aa (Ar ?_)
        obtain⟨cW,m,cX⟩:=Ow.nil R1 40 m
        refine have cY:=AT (P:=prog) 3 m Az f (s:=2) rfl rfl rfl;have m:=m.fr 2;have m:=m.fr 1;have m:=m.eraseAt 3;have m:Mem W cH w (cW::cz::H):=m.eraseAt 2;have m:=m.eraseAt 1;?_
        obtain rfl:=sj hd
        exact⟨[(.agg #[sn]),(.bool false)],⟨cY,f.get _ _ Z,trivial⟩,f.d,_,[cW],(gt al (gt ay (gt aT (gt aY (gt a0 (gt cl (gt co (gt cw (gt cE cT))))))))),m,_,_,Z,Z,cX⟩
       ·refine Ah f Z cU (Ap (Ae (Ax 0 0 (ds:=[cy]) m Az f Z Z Z Z Z λa f=>Aj 2 0 (ds:=[cy]) m sizeOf26 f Z Z Z (Ao (Ow.one1 1 m cA Z) As) Z (lb Z) Z λw m=>Ac f Z λa f=>Aa (Ar (have cZ:=AT (P:=prog) 2 m Az f (s:=2) rfl rfl rfl;have m:=m.fr 1;have m:=m.eraseAt 2;have m:=m.eraseAt 1;?_)))))
        obtain rfl:=sj hd
        exact⟨[(.agg #[cy]),(.bool true)],⟨cZ,f.get _ _ Z,trivial⟩,f.d,_,[cz],(gt al (gt ay (gt aT (gt aY (gt a0 (gt cl (gt co (gt cw (gt cE cT))))))))),m,_,_,Z,Z,cA⟩
  ·intro c0
   rcases Af aw with⟨c1,aw⟩|⟨c1,aw⟩
   ·refine BR 6 17 Z f c1 λa f=>BR 7 17 Z f c1 λa f=>BR 8 17 Z f c1 λa f=>BR 9 17 Z f c1 λa f=>BR 10 17 Z f c1 λa f=>BR 11 17 Z f c1 λa f=>BR 12 17 Z f c1 λa f=>BR 13 17 Z f c1 λa f=>BR 14 17 Z f c1 λa f=>BR 15 17 Z f c1 λa f=>q_p 16 17 Z f (λ_=>AE (f.e Z) c1 (f.e Z)) λa f=> ?_
    obtain rfl:=sj aw
    exact c0 _ (f.k Z)
   ·refine AK (hw:=wo f c1) 6 17 Z f Z λa f=>Bd aw λc2 c3 aw=>Cz (hw:=wo f c1) 7 17 0 m am T47 c3 Z f Z Z λc4 a c5 f=>q_ol (hw:=wo f c1) 8 17 0 am Pl9 c5 c3 Z f Z λc6 a c7 f=> ?_
    subst c7
    refine AK (hw:=wo f c1) 9 17 Z f Z λa f=>Bd aw λc8 c9 aw=>Cz (hw:=wo f c1) 10 17 0 m am T47 c9 Z f Z Z λda a db f=>q_ol (hw:=wo f c1) 11 17 0 am Pl9 db c9 Z f Z λdc a dd f=> ?_
    subst dd
    refine q_p (hw:=wo f c1) 12 17 Z f (λ_=>BB (f.e Z) underlying9) λa f=>q_p (hw:=wo f c1) 13 17 Z f (λ_=>BX (f.e Z) (f.e Z) B1) λa f=>Bd aw λde df aw=>q_p (hw:=wo f c1) 14 17 Z f (λ_=>Cc (f.e Z) (f.e Z) underlying9 df) λa f=>q_p (hw:=wo f c1) 15 17 Z f (λ_=>BX (f.e Z) (f.e Z) CZ) λa f=>q_p 16 17 Z f (λ_=>AF (f.e Z) c1 (f.e Z)) λa f=> ?_
    obtain rfl:=sj aw
    exact c0 _ (f.k Z)
theorem Wk.f0 {v0:Value}{x0:LI}(m:Mem W G w (H))(h0:RSl (RI .u8) G v0 x0){y:ByteArray}(hd:D.f0 x0=some y):
  Calls prog 15 #[v0] w (Res W G H (λ_ Ho v=>Ho=[]∧v=(.string y))):=by
 refine Au (args:=[v0]) (N:=16) [.tmp 2] func15 Z Z (lb Z) Z λa f=> ?_
 unfold D.f0 at hd
 refine Ae (Ac f Z λa f=>AA (Ab f Z λa f=>Bd hd λaa ab hd=>AH f Z call17 (Wk.B m h0 ab) λac ad ae w af m ag a f=> ?_))
 obtain⟨ah,ai,rfl,rfl,aj⟩:=ag
 refine Ac f Z λa f=>AA (Ab f Z λa f=>Bd hd λak al hd=>AH f Z call18 (Wk.x m aj al) λam an ao w ap m aq a f=> ?_)
 obtain⟨ar,au,av,rfl,rfl,aw,ax⟩:=aq
 refine Bd hd λay az hd=>AH f Z call9 (Ow2.lendCall (RI.mono _) 0 aw m Z (λaA aB m aC=>Wk.y m aC az) (λ_ _ _ _ h=>h)) λaD aE aF w aG m aH a f=> ?_
 obtain⟨rfl,rfl⟩:=aH
 refine have ax:=rd1 aG ax;Ac f Z λa f=>Aa (Ag (Ae (Ab f Z λa f=>have m:=m.fr 1;Bd hd λaI aJ hd=>AH f Z call34 (Wk.l m ax aJ) λaK aL aM w aN m aO a f=> ?_)))
 obtain⟨aP,rfl,rfl,aQ⟩:=aO
 refine Aa ?_
 rcases Af hd with⟨aR,hd⟩|⟨aR,hd⟩
 ·refine Ak f Z aR (Ae (Ab f Z λa f=>Ac f Z λa f=>Aa (Ar (have m:=m.dp 2;?_))))
  obtain rfl:=sj hd
  exact⟨[(.string ay)],f.g Z,f.d,_,[],(gt af (gt ap (gt aG aN))),m,Z,Z⟩
 ·refine Ah f Z aR (Ap (Ae (Ab f Z λa f=>Ab f Z λa f=>Bd hd λaS aT hd=>AH f Z call35 (Wk.T m aQ aT) λaU aV aW w aX m aY a f=> ?_)))
  obtain⟨aZ,rfl,rfl,a0⟩:=aY
  refine Ac f Z λa f=>Aa (Ar (have m:=m.dp 2;?_))
  obtain rfl:=sj hd
  exact⟨[(.string aS.1)],f.g Z,f.d,_,[],(gt af (gt ap (gt aG (gt aN aX)))),m,Z,Z⟩
theorem Wk.q0 {x0:ByteArray}(m:Mem W G w (H)){y:(LL)×Bool}(hd:D.q0 x0=some y):
  Calls prog 16 #[(.string x0)] w (Res W G H (λG' Ho v=>∃r0:Value,∃i0:Itm,Ho=[i0]∧v= .tuple #[(.agg #[r0]),(.bool y.2)]∧Ow R1 40 G' i0 r0 y.1)):=by
 refine Au (args:=[(.string x0)]) (N:=61) [.cell 2 26,.tmp 3] func16 Z Z (lb Z) Z λa f=> ?_
 unfold D.q0 at hd
 refine Ae (AQ (cs:=[sn]) zeroValue26 m f Z Z λaa w a m f=>Ac f Z λa f=>Aa (Ag (Ae (Ab f Z λa f=>l_o f (BB (f.e Z) underlying9) λa f=>Ai f Z Z BQ λa f=>Aa ?_))))
 rcases Af hd with⟨ab,hd⟩|⟨ab,hd⟩
 ·refine Ak f Z ab (Ae ?_)
  have ac:∀w,(Instr.build 26 #[]).run prog w= .ok (.agg #[sn]) w:=by intro w;simp[Instr.build,Instr.fill,A3,AX,AL,AR,AI,A4,AZ]
  refine Be f Z Z ac λa f=>Aj 0 0 (ds:=[sn]) m sizeOf26 f Z Z Z (Ao Z As) Z (lb Z) Z λw m=>Ac f Z λa f=>Aa (Ar ?_)
  obtain⟨ad,m,ae⟩:=Ow.nil R1 40 m
  refine have af:=AT (P:=prog) 1 m Az f (s:=2) rfl rfl rfl;have m:=m.eraseAt 1;?_
  obtain rfl:=sj hd
  exact⟨[(.agg #[sn]),(.bool false)],⟨af,f.get _ _ Z,trivial⟩,f.d,_,[ad],gr,m,_,_,Z,Z,ae⟩
 ·refine Ah f Z ab (Ap (Ae (Ab f Z λa f=>Bd hd λag ah hd=>Cy f Z call36 (Wk.s m ah) λai aj ak w al m am a f=>Ac f Z λa f=>AA ?_)))
  have an:∀w,(Instr.build 26 #[]).run prog w= .ok (.agg #[sn]) w:=by intro w;simp[Instr.build,Instr.fill,A3,AX,AL,AR,AI,A4,AZ]
  refine Be f Z Z an λa f=>AQ (cs:=[sn]) zeroValue26 m f Z Z λao w a m f=>Aj 0 0 (ds:=[sn]) m sizeOf26 f Z Z Z (Ao Z As) Z (lb Z) Z λw m=>Aa (Ag (Ae (Ac f Z λa f=>Aa ?_)))
  obtain⟨ap,m,aq⟩:=Ow.nil R1 40 m
  have⟨ar,au,hd⟩:=bind_some hd
  refine AY (λa w=>∃av:LL,av=ar∧∃(aw:GH) (ax:Value) (ay:Itm),GLe ak aw∧Fr a 61 [(0,(.string x0)),(2,pb aa),(5,pb ao)]∧Mem W aw w (ib aa 26 [sn]::ib ao 26 [ax]::ay::H)∧Ow R1 40 aw ay ax av) ?_ ?_
  ·refine Aq (have m:=m.fr 2;have m:=m.fr 2;have m:=m.fr 3;AP (λaz a w=>∃aA:Int,∃aB:LL,(aA,aB)=az∧∃(aC:GH) (aD:Value) (aE:Itm),GLe ak aC∧Fr a 61 [(0,(.string x0)),(2,pb aa),(4,ai),(5,pb ao),(6,iv aA)]∧Mem W aC w (ib aa 26 [sn]::ib ao 26 [aD]::aj::aE::H)∧Ow R1 40 aC aE aD aB) au ⟨_,_,Z,_,sn,ap,gr,f.k Z,m,aq⟩ ?_)
   clear au f m
   rintro az aF aG aH a w ⟨aA,aB,rfl,aC,aD,aE,aI,f,m,aJ⟩
   refine have am:=Ow.mono RStr.mono aI am;Ag (Ae (Ab f Z λa f=>Ab f Z λa f=>BF 2 m am Z underlying47 f Z Z λa f=>Ai f Z Z B1 λa f=>Ai f Z Z AN λa f=>Aa ?_))
   rcases Af aG with⟨aK,aG⟩|⟨aK,aG⟩
   ·refine Ak f Z aK (Ap (Ag (Aq (Ae (AM (R:=R0) (xs:=([]:LI)) (RI.one _) m T40 f Z Z Z (by decide) (All2.nil _) λaL aM w a m aN f=>Ac f Z λa f=>Aa (Ag (Ae (Ac f Z λa f=>Aa (Bd aG λaO aP aG=> ?_)))))))))
    refine AY (λa w=>∃aQ:LI,aQ=aO∧∃(aR:GH) (aS:Value) (aT:Itm),GLe aC aR∧Fr a 61 [(0,(.string x0)),(2,pb aa),(4,ai),(5,pb ao),(6,iv aA),(7,aS)]∧Mem W aR w (ib aa 26 [sn]::ib ao 26 [aD]::aj::aT::aE::H)∧Ow R0 2 aR aT aS aQ) ?_ ?_
    ·refine Aq (have m:=m.fr 3;have m:=m.fr 3;have m:=m.fr 3;AP (λaU a w=>∃aV:LI,∃aW:Int,(aV,aW)=aU∧∃(aX:GH) (aY:Value) (aZ:Itm),GLe aC aX∧Fr a 61 [(0,(.string x0)),(2,pb aa),(4,ai),(5,pb ao),(6,iv aA),(7,aY),(8,iv aW)]∧Mem W aX w (ib aa 26 [sn]::ib ao 26 [aD]::aj::aZ::aE::H)∧Ow R0 2 aX aZ aY aV) aP ⟨_,_,Z,_,aM,aL,gr,f.k Z,m,aN⟩ ?_)
     clear aP f m
     rintro aU a0 a1 a2 a w ⟨aV,aW,rfl,aX,aY,aZ,a3,f,m,a4⟩
     refine have am:=Ow.mono RStr.mono a3 am;Ag (Ae (Ab f Z λa f=>Ab f Z λa f=>Ab f Z λa f=>Bd a1 λa5 a6 a1=>Bz 2 m am Z T47 f Z Z Z a6 λa7 a a8 f=>Bq 2 m am Z Pl9 f Z Z a8 a6 λa9 a ba f=> ?_))
     subst ba
     refine l_o f (BB (f.e Z) underlying9) λa f=>Ai f Z Z AN λa f=>Aa ?_
     rcases Af a1 with⟨bb,a1⟩|⟨bb,a1⟩
     ·refine Ak f Z bb (Ap (Ag (Aq (Ae (Ab f Z λa f=>Ab f Z λa f=>Bd a1 λbc bd a1=>Bz 2 m am Z T47 f Z Z Z bd λbe a bf f=>Bq 2 m am Z Pl9 f Z Z bf bd λbg a bh f=> ?_)))))
      subst bh
      refine Ab f Z λa f=>Bd a1 λbi bj a1=>l_o f (Cc (f.e Z) (f.e Z) underlying9 bj) λa f=>Ai f Z Z BD λa f=>Aa ?_
      rcases Af a1 with⟨bk,a1⟩|⟨bk,a1⟩
      ·refine Ak f Z bk (Al (Ab f Z λa f=>Ab f Z λa f=>AM (R:=R0) (xs:=([aW]:LI)) (RI.one _) m T40 f Z Z Z (by decide) (All2.cons Z (All2.nil _)) λbl bm w a m bn f=>Bd a1 λbo bp a1=>A1 (RI.one _) 4 m a4 Z T40 Z (by decide) f Z Z Z (Ow.src (j:=0) bn m Z) bp λbq br w a m bs f=>Ac f Z λa f=>Aa (Al (Ab f Z λa f=>Ai f Z Z AD λa f=>Ac f Z λa f=>Aa (have m:=m.fr 5;have m:=m.fr 5;have m:=m.fr 5;have m:Mem W aX w (ib ao 26 [aD]::aj::bq::aE::bl::ib aa 26 [sn]::H):=m.fr 5;have m:=m.fr 5;have m:=m.eraseAt 5;?_)))))
       obtain rfl:=sj a1
       exact⟨_,Z,_,_,Z,_,br,bq,a3,f.k Z,m,bs⟩
      ·refine Ah f Z bk (Ap (Al (Ab f Z λa f=>Ai f Z Z AD λa f=>Ac f Z λa f=>Aa ?_)))
       obtain rfl:=sj a1
       exact⟨_,Z,_,_,Z,_,aY,aZ,a3,f.k Z,m,a4⟩
     ·refine Ah f Z bb (AO Z ?_)
      obtain rfl:=sj a1
      obtain rfl:=a2 _ rfl
      exact⟨_,Z,_,aY,aZ,a3,f.k Z,m,a4⟩
    ·rintro a w ⟨aQ,rfl,aR,aS,aT,bt,f,m,bu⟩
     refine have aJ:=od3 bt aJ;Al (Br underlying26 Z sizeOf24 f Z λa f=>AV 1 0 m Bl f Z Z Z Z λa f=>Ab f Z λa f=>have m:=m.fr 3;?_)
     obtain⟨bv,bw,m,bx⟩:=Ow.stamp (RI.mono _) bu m
     refine have aJ:=od3 bw aJ;AM (R:=R1) (xs:=([aQ]:LL)) (RSl.one _) m T24 f Z Z Z (by decide) (All2.cons bx (All2.nil _)) λbz bA w a m bB f=>Bd aG λbC bD aG=>A1 (RSl.one _) 4 m aJ Z T24 Z (by decide) f Z Z Z (Ow.src (j:=0) bB m Z) bD λbE bF w a m bG f=>Br underlying26 Z sizeOf24 f Z λa f=>Aj 2 0 (ds:=[bF]) m sizeOf24 f Z Z (Ow.cells 4 m bG Z) (Ao (Ow.one1 4 m bG Z) As) Z (lb Z) Z λw m=>Aa (Al (Ab f Z λa f=>Ai f Z Z AD λa f=>Ac f Z λa f=>Aa (have m:=m.fr 4;have m:=m.fr 4;have m:=m.fr 4;have m:Mem W bv w (ib aa 26 [sn]::ib ao 26 [bF]::aj::bE::bz::H):=m.fr 4;have m:=m.eraseAt 4;?_)))
     obtain rfl:=sj aG
     exact⟨_,Z,_,_,Z,_,bF,bE,(gt aI (gt bt bw)),f.k Z,m,bG⟩
   ·refine Ah f Z aK (AO Z (have m:=m.fr 3;have m:=m.fr 2;have m:=m.fr 2;have m:=m.eraseAt 3;?_))
    obtain rfl:=sj aG
    obtain rfl:=aH _ rfl
    exact⟨_,Z,_,aD,aE,aI,f.k Z,m,aJ⟩
  ·rintro a w ⟨av,rfl,aw,ax,ay,bH,f,m,bI⟩
   refine Ag (Ae (Ax 1 0 (ds:=[ax]) m Az f Z Z Z Z Z λa f=>Bd hd λbJ bK hd=>AH f Z call22 (Ow.lendCall (RSl.mono (RI.mono _)) 2 bI m Z (λbL bM m bN=>Wk.v m bN bK) (λ_ _ _ _ h=>h)) λbO bP bQ w bR m bS a f=> ?_))
   obtain⟨rfl,rfl⟩:=bS
   refine have bI:=od3 bR bI;l_o f (Bg (f.e Z)) λa f=>Ab f Z λa f=>Bd hd λbT bU hd=> ?_
   refine A2 5 (λa w=>∃bV,GLe bP bV∧Mem W bV w (ib aa 26 [sn]::ib ao 26 [ax]::ay::H)∧Fr a 61 [(0,(.string x0)),(2,pb aa),(5,pb ao),(50,(.agg #[ax])),(51,(.bool bJ)),(52,(.bool (!bJ))),(53,(.bool (!bJ))),(58,(.bool bT))]) ?_ ?_
   ·rcases Af bU with⟨bW,bU⟩|⟨bW,bU⟩
    ·refine An f bW λa f=>An f bW λa f=>An f bW λa f=>An f bW λa f=>l_o f (AE (f.e Z) bW (f.e Z)) λa f=> ?_
     obtain rfl:=sj bU
     exact⟨_,gr,m,f.k Z⟩
    ·refine Am f bW (Ax 1 0 (ds:=[ax]) m Az f Z Z Z Z Z λa f=>Am f bW (Bd bU λbX bY bU=>AH f Z call9 (Ow.lendCall (RSl.mono (RI.mono _)) 2 bI m Z (λbZ b0 m b1=>Wk.y m b1 bY) (λ_ _ _ _ h=>h)) λb2 b3 b4 w b5 m b6 a f=> ?_))
     obtain⟨rfl,rfl⟩:=b6
     refine Am f bW (Ab f Z λa f=>Am f bW (l_o f (CV (f.e Z) (f.e Z)) λa f=>l_o f (AF (f.e Z) bW (f.e Z)) λa f=> ?_))
     obtain rfl:=sj bU
     exact⟨_,b5,m,f.k Z⟩
   ·rintro a w ⟨bV,b7,m,f⟩
    refine have bI:=od3 b7 bI;Aa ?_
    rcases Af hd with⟨b8,hd⟩|⟨b8,hd⟩
    ·refine Ak f Z b8 (Ae ?_)
     have b9:∀w,(Instr.build 26 #[]).run prog w= .ok (.agg #[sn]) w:=by intro w;simp[Instr.build,Instr.fill,A3,AX,AL,AR,AI,A4,AZ]
     refine Be f Z Z b9 λa f=>Aj 0 0 (ds:=[sn]) m sizeOf26 f Z Z Z (Ao Z As) Z (lb Z) Z λw m=>Ac f Z λa f=>Aa (Ar ?_)
     obtain⟨ca,m,cb⟩:=Ow.nil R1 40 m
     refine have cc:=AT (P:=prog) 1 m Az f (s:=2) rfl rfl rfl;have m:=m.fr 3;have m:=m.fr 1;have m:=m.eraseAt 3;have m:Mem W bV w (ca::ay::H):=m.eraseAt 2;have m:=m.eraseAt 1;?_
     obtain rfl:=sj hd
     exact⟨[(.agg #[sn]),(.bool false)],⟨cc,f.get _ _ Z,trivial⟩,f.d,_,[ca],(gt al (gt bH (gt bR b7))),m,_,_,Z,Z,cb⟩
    ·refine Ah f Z b8 (Ap (Ae (Ax 1 0 (ds:=[ax]) m Az f Z Z Z Z Z λa f=>Aj 0 0 (ds:=[ax]) m sizeOf26 f Z Z Z (Ao (Ow.one1 2 m bI Z) As) Z (lb Z) Z λw m=>Ac f Z λa f=>Aa (Ar (have cd:=AT (P:=prog) 0 m Az f (s:=2) rfl rfl rfl;have m:=m.fr 2;have m:=m.eraseAt 2;have m:=m.eraseAt 1;?_)))))
     obtain rfl:=sj hd
     exact⟨[(.agg #[ax]),(.bool true)],⟨cd,f.get _ _ Z,trivial⟩,f.d,_,[ay],(gt al (gt bH (gt bR b7))),m,_,_,Z,Z,bI⟩
set_option maxHeartbeats 1000000 in
theorem Wk.C0 {v0:Value}{x0:LI}(hW:TxtW 2 3 1 W)(m:Mem W G w (H))(h0:RSl (RI .u8) G v0 x0){y:Bool}(hd:D.C0 x0=some y):
  Calls prog 3 #[v0] w (Res W G H (λ_ Ho v=>Ho=[]∧v=(.bool y))):=by
 refine Au (args:=[v0]) (N:=120) [.tmp 2] func3 Z Z (lb Z) Z λa f=> ?_
 unfold D.C0 at hd
 refine Ae (Ac f Z λa f=>Aa (Ag (Ae (Ab f Z λa f=>Bd hd λaa ab hd=>A7 f Z call4 (Wk.A0 m h0 ab) λac w ad m a f=>have h0:=rd1 ad h0;Aa ?_))))
 rcases Af hd with⟨ae,hd⟩|⟨ae,hd⟩
 ·refine Ak f Z ae (Ae (Ac f Z λa f=>Aa (Ar ?_)))
  obtain rfl:=sj hd
  exact⟨[(.bool true)],f.g Z,f.d,_,[],ad,m,Z,Z⟩
 ·refine Ah f Z ae (Ap (Ae (Ab f Z λa f=>Bd hd λaf ag hd=>AH f Z call5 (Wk.j0 m h0 ag) λah ai aj w ak m al a f=> ?_)))
  obtain⟨am,an,rfl,rfl,ao⟩:=al
  refine have h0:=rd1 ak h0;AQ (cs:=[sn]) zeroValue26 m f Z Z λap w a m f=>Aj 0 0 (ds:=[am]) m sizeOf26 f Z Z Z (Ao (Ow2.one1 1 m ao Z) As) Z (lb Z) Z λw m=>AA (Ax 0 0 (ds:=[am]) m Az f Z Z Z Z Z λa f=>Bd hd λaq ar hd=>AH f Z call6 (Ow2.lendCall (RI.mono _) 1 ao m Z (λau av m aw=>Wk.M hW m aw ar) (λ_ _ _ _ h=>h)) λax ay az w aA m aB a f=> ?_)
  obtain⟨rfl,rfl⟩:=aB
  refine have h0:=rd1 aA h0;have ao:=od2 aA ao;Ac f Z λa f=>AA (Ax 0 0 (ds:=[am]) m Az f Z Z Z Z Z λa f=>Bd hd λaC aD hd=>AH f Z call7 (Ow2.lendCall (RI.mono _) 1 ao m Z (λaE aF m aG=>Wk.J m aG aD) (λ_ _ _ _ h=>h)) λaH aI aJ w aK m aL a f=> ?_)
  obtain⟨rfl,rfl⟩:=aL
  refine have h0:=rd1 aK h0;have ao:=od2 aK ao;Ac f Z λa f=>Aa (Ag (Ae (Ab f Z λa f=>Ax 0 0 (ds:=[am]) m Az f Z Z Z Z Z λa f=>Bd hd λaM aN hd=>AH f Z call8 (Ow2.lendCall (RI.mono _) 1 ao m Z (λaO aP m aQ=>Wk.r m aQ aN) (λ_ _ _ _ h=>h)) λaR aS aT w aU m aV a f=> ?_)))
  obtain⟨rfl,rfl⟩:=aV
  refine have h0:=rd1 aU h0;have ao:=od2 aU ao;l_o f (CV (f.e Z) (f.e Z)) λa f=>Ab f Z λa f=>Bd hd λaW aX hd=> ?_
  refine A2 5 (λa w=>∃aY,GLe aS aY∧Mem W aY w (ib ap 26 [am]::an::H)∧Fr a 120 [(0,v0),(3,pb ap),(4,(.string aq)),(5,(.string aC)),(28,(.string aq)),(29,(.agg #[am])),(30,(.string aM)),(31,(.bool (!sEq aq aM))),(32,(.bool (!sEq aq aM))),(37,(.bool aW))]) ?_ ?_
  ·rcases Af aX with⟨aZ,aX⟩|⟨aZ,aX⟩
   ·refine An f aZ λa f=>An f aZ λa f=>An f aZ λa f=>An f aZ λa f=>l_o f (AE (f.e Z) aZ (f.e Z)) λa f=> ?_
    obtain rfl:=sj aX
    exact⟨_,gr,m,f.k Z⟩
   ·refine Am f aZ (Ab f Z λa f=>Am f aZ (Ax 0 0 (ds:=[am]) m Az f Z Z Z Z Z λa f=>Am f aZ (Bd aX λa0 a1 aX=>AH f Z call9 (Ow2.lendCall (RI.mono _) 1 ao m Z (λa2 a3 m a4=>Wk.y m a4 a1) (λ_ _ _ _ h=>h)) λa5 a6 a7 w a8 m a9 a f=> ?_)))
    obtain⟨rfl,rfl⟩:=a9
    refine Am f aZ (l_o f (CV (f.e Z) (f.e Z)) λa f=>l_o f (AF (f.e Z) aZ (f.e Z)) λa f=> ?_)
    obtain rfl:=sj aX
    exact⟨_,a8,m,f.k Z⟩
  ·rintro a w ⟨aY,ba,m,f⟩
   refine have h0:=rd1 ba h0;have ao:=od2 ba ao;Aa ?_
   rcases Af hd with⟨bb,hd⟩|⟨bb,hd⟩
   ·refine Ak f Z bb (Ae (Ac f Z λa f=>Aa (Ar (have m:=m.dp 2;?_))))
    obtain rfl:=sj hd
    exact⟨[(.bool false)],f.g Z,f.d,_,[],(gt ad (gt ak (gt aA (gt aK (gt aU ba))))),m,Z,Z⟩
   ·refine Ah f Z bb (Ap (Ag (Ae (Ab f Z λa f=>l_o f (CV (f.e Z) (f.e Z)) λa f=>Aa (Bd hd λbc bd hd=> ?_)))))
    refine AY (λa w=>∃j_207':Unit,bc= .inl j_207'∧∃(be:GH),GLe aY be∧Fr a 120 [(0,v0)]∧Mem W be w (H)) ?_ ?_
    ·rcases Af bd with⟨bf,bd⟩|⟨bf,bd⟩
     ·refine Ak f Z bf (Ae (Ab f Z λa f=>Bd bd λbg bh bd=>AH f Z call10 (Wk.t hW m bh) λbi bj bk w bl m bm a f=> ?_))
      obtain⟨bn,bo,rfl,rfl,bp⟩:=bm
      refine have ao:=od2 bl ao;Ab f Z λa f=>l_o f (AB (f.e Z) Z) λa f=>l_o f (AB (f.e Z) Z) λa f=>AQ (cs:=[sn]) zeroValue26 m f Z Z λbq w a m f=>Aj 0 0 (ds:=[bn]) m sizeOf26 f Z Z Z (Ao (Ow2.one1 1 m bp Z) As) Z (lb Z) Z λw m=>Ac f Z λa f=>AA (Ab f Z λa f=>Bd bd λbr bs bd=>AH f Z call11 (Wk.L hW m bs) λbt bu bv w bw m bx a f=> ?_)
      obtain⟨bz,bA,rfl,rfl,bB⟩:=bx
      refine have bp:=od2 bw bp;have ao:=od2 bw ao;Ab f Z λa f=>l_o f (AB (f.e Z) Z) λa f=>l_o f (AB (f.e Z) Z) λa f=>AQ (cs:=[sn]) zeroValue26 m f Z Z λbC w a m f=>Aj 0 0 (ds:=[bz]) m sizeOf26 f Z Z Z (Ao (Ow.one1 1 m bB Z) As) Z (lb Z) Z λw m=>Ac f Z λa f=>AA (Ab f Z λa f=>l_o f (Bg (f.e Z)) λa f=>Ab f Z λa f=> ?_)
      refine A2 3 (λa w=>∃bD,GLe bu bD∧Mem W bD w (ib bC 26 [bz]::bA::ib bq 26 [bn]::bo::ib ap 26 [am]::an::H)∧Fr a 120 [(0,v0),(3,pb ap),(4,(.string aq)),(5,(.string aC)),(6,pb bq),(7,(.bool bg.2)),(8,pb bC),(9,(.bool br.2)),(50,(.bool bg.2)),(51,(.bool (!bg.2))),(52,(.bool (!bg.2))),(55,(.bool ((!bg.2)||(!br.2))))]) ?_ ?_
      ·rcases Bool.eq_false_or_eq_true (!bg.2) with bE|bE
       ·exact An f bE λa f=>An f bE λa f=>l_o f (AE (f.e Z) bE (f.e Z)) λa f=>⟨_,gr,m,f.weak ⟨Z,Z,Z,Z,Z,Z,Z,Z,Z,Z,Z,by rw[bE];rfl,trivial⟩⟩
       ·exact Am f bE (Ab f Z λa f=>Am f bE (l_o f (Bg (f.e Z)) λa f=>l_o f (AF (f.e Z) bE (f.e Z)) λa f=>⟨_,gr,m,f.weak ⟨Z,Z,Z,Z,Z,Z,Z,Z,Z,Z,Z,by rw[bE];rfl,trivial⟩⟩))
      ·rintro a w ⟨bD,bF,m,f⟩
       refine have bB:=od3 bF bB;have bp:=od2 bF bp;have ao:=od2 bF ao;Ab f Z λa f=>Bd bd λbG bH bd=> ?_
       refine A2 5 (λa w=>∃bI,GLe bD bI∧Mem W bI w (ib bC 26 [bz]::bA::ib bq 26 [bn]::bo::ib ap 26 [am]::an::H)∧Fr a 120 [(0,v0),(3,pb ap),(4,(.string aq)),(5,(.string aC)),(6,pb bq),(7,(.bool bg.2)),(8,pb bC),(9,(.bool br.2)),(50,(.bool bg.2)),(51,(.bool (!bg.2))),(52,(.bool (!bg.2))),(55,(.bool ((!bg.2)||(!br.2)))),(56,(.bool ((!bg.2)||(!br.2)))),(61,(.bool bG))]) ?_ ?_
       ·rcases Af bH with⟨bJ,bH⟩|⟨bJ,bH⟩
        ·refine An f bJ λa f=>An f bJ λa f=>An f bJ λa f=>An f bJ λa f=>l_o f (AE (f.e Z) bJ (f.e Z)) λa f=> ?_
         obtain rfl:=sj bH
         exact⟨_,gr,m,f.k Z⟩
        ·refine Am f bJ (Ax 2 0 (ds:=[bn]) m Az f Z Z Z Z Z λa f=>Am f bJ (Ax 4 0 (ds:=[am]) m Az f Z Z Z Z Z λa f=>Am f bJ (Bd bH λbK bL bH=>AH f Z call12 (Ow2.lendCall (RI.mono _) 3 bp m Z (λbM bN m bO=>(Ow2.lendCall (RI.mono _) 4 (od2 bN ao) m Z (λbP bQ m bR=>Wk.U m (rd2 bQ bO) bR bL) (λ_ _ _ _ h=>h))) (λ_ _ _ _ h=>h)) λbS bT bU w bV m bW a f=> ?_)))
         obtain⟨rfl,rfl⟩:=bW
         refine Am f bJ (l_o f (Bg (f.e Z)) λa f=>l_o f (AF (f.e Z) bJ (f.e Z)) λa f=> ?_)
         obtain rfl:=sj bH
         exact⟨_,bV,m,f.k Z⟩
       ·rintro a w ⟨bI,bX,m,f⟩
        refine have bB:=od3 bX bB;have ao:=od2 bX ao;Ab f Z λa f=>Bd bd λbY bZ bd=> ?_
        refine A2 5 (λa w=>∃b0,GLe bI b0∧Mem W b0 w (ib bC 26 [bz]::bA::ib bq 26 [bn]::bo::ib ap 26 [am]::an::H)∧Fr a 120 [(0,v0),(3,pb ap),(4,(.string aq)),(5,(.string aC)),(6,pb bq),(7,(.bool bg.2)),(8,pb bC),(9,(.bool br.2)),(50,(.bool bg.2)),(51,(.bool (!bg.2))),(52,(.bool (!bg.2))),(55,(.bool ((!bg.2)||(!br.2)))),(56,(.bool ((!bg.2)||(!br.2)))),(61,(.bool bG)),(62,(.bool bG)),(67,(.bool bY))]) ?_ ?_
        ·rcases Af bZ with⟨b1,bZ⟩|⟨b1,bZ⟩
         ·refine An f b1 λa f=>An f b1 λa f=>An f b1 λa f=>An f b1 λa f=>l_o f (AE (f.e Z) b1 (f.e Z)) λa f=> ?_
          obtain rfl:=sj bZ
          exact⟨_,gr,m,f.k Z⟩
         ·refine Am f b1 (Ax 0 0 (ds:=[bz]) m Az f Z Z Z Z Z λa f=>Am f b1 (Ax 4 0 (ds:=[am]) m Az f Z Z Z Z Z λa f=>Am f b1 (Bd bZ λb2 b3 bZ=>AH f Z call12 (Ow.lendCall (RSl.mono (RI.mono _)) 1 bB m Z (λb4 b5 m b6=>(Ow2.lendCall (RI.mono _) 4 (od2 b5 ao) m Z (λb7 b8 m b9=>Wk.U m (rd2 b8 b6) b9 b3) (λ_ _ _ _ h=>h))) (λ_ _ _ _ h=>h)) λca cb cc w cd m ce a f=> ?_)))
          obtain⟨rfl,rfl⟩:=ce
          refine Am f b1 (l_o f (Bg (f.e Z)) λa f=>l_o f (AF (f.e Z) b1 (f.e Z)) λa f=> ?_)
          obtain rfl:=sj bZ
          exact⟨_,cd,m,f.k Z⟩
        ·rintro a w ⟨b0,cf,m,f⟩
         refine Aa ?_
         rcases Af bd with⟨cg,bd⟩|⟨cg,bd⟩
         ·refine Ak f Z cg (Ae (Ac f Z λa f=>Aa (Ar (have m:=m.dp 6;?_))))
          obtain rfl:=sj bd
          obtain rfl:=sj hd
          exact⟨[(.bool false)],f.g Z,f.d,_,[],(gt ad (gt ak (gt aA (gt aK (gt aU (gt ba (gt bl (gt bw (gt bF (gt bX cf)))))))))),m,Z,Z⟩
         ·refine Ah f Z cg (Ap (have m:=m.dp 6;?_))
          obtain rfl:=sj bd
          exact⟨_,Z,_,(gt bl (gt bw (gt bF (gt bX cf)))),f.k Z,m⟩
     ·refine Ah f Z bf (Ap (have m:=m.dp 2;?_))
      obtain rfl:=sj bd
      exact⟨_,Z,_,gr,f.k Z,m⟩
    ·rintro a w ⟨_,rfl,be,ch,f,m⟩
     refine have h0:=rd1 ch h0;Ae (Ab f Z λa f=>Bd hd λci cj hd=>A7 f Z call13 (Wk.v0 m h0 cj) λck w cl m a f=>have h0:=rd1 cl h0;Ac f Z λa f=>AA (Ab f Z λa f=>Bd hd λcm cn hd=>AH f Z call10 (Wk.t hW m cn) λco cp cq w cr m ct a f=> ?_))
     obtain⟨cu,cv,rfl,rfl,cw⟩:=ct
     refine have h0:=rd1 cr h0;Ab f Z λa f=>l_o f (AB (f.e Z) Z) λa f=>l_o f (AB (f.e Z) Z) λa f=>AQ (cs:=[sn]) zeroValue26 m f Z Z λcx w a m f=>Aj 0 0 (ds:=[cu]) m sizeOf26 f Z Z Z (Ao (Ow2.one1 1 m cw Z) As) Z (lb Z) Z λw m=>Ac f Z λa f=>AA (Ab f Z λa f=>Bd hd λcy cz hd=>AH f Z call14 (Wk.N m cz) λcA cB cC w cD m cE a f=> ?_)
     obtain⟨cF,cG,rfl,rfl,cH⟩:=cE
     refine have h0:=rd1 cD h0;have cw:=od2 cD cw;Ab f Z λa f=>l_o f (AB (f.e Z) Z) λa f=>l_o f (AB (f.e Z) Z) λa f=>AQ (cs:=[sn]) zeroValue26 m f Z Z λcI w a m f=>Aj 0 0 (ds:=[cF]) m sizeOf26 f Z Z Z (Ao (Ow.one1 1 m cH Z) As) Z (lb Z) Z λw m=>Ac f Z λa f=>AA (Ab f Z λa f=>Bd hd λcJ cK hd=>A7 f Z call15 (Wk.f0 m h0 cK) λcL w cM m a f=>have cw:=od2 cM cw;Ac f Z λa f=>AA (Ab f Z λa f=>Bd hd λcN cO hd=>AH f Z call11 (Wk.L hW m cO) λcP cQ cR w cS m cT a f=> ?_))
     obtain⟨cU,cV,rfl,rfl,cW⟩:=cT
     refine have cw:=od2 cS cw;Ab f Z λa f=>l_o f (AB (f.e Z) Z) λa f=>l_o f (AB (f.e Z) Z) λa f=>AQ (cs:=[sn]) zeroValue26 m f Z Z λcX w a m f=>Aj 0 0 (ds:=[cU]) m sizeOf26 f Z Z Z (Ao (Ow.one1 1 m cW Z) As) Z (lb Z) Z λw m=>Ac f Z λa f=>AA (Ab f Z λa f=>Bd hd λcY cZ hd=>AH f Z call16 (Wk.q0 m cZ) λc0 c1 c2 w c3 m c4 a f=> ?_)
     obtain⟨c5,c6,rfl,rfl,c7⟩:=c4
     refine have cW:=od3 c3 cW;have cw:=od2 c3 cw;Ab f Z λa f=>l_o f (AB (f.e Z) Z) λa f=>l_o f (AB (f.e Z) Z) λa f=>AQ (cs:=[sn]) zeroValue26 m f Z Z λc8 w a m f=>Aj 0 0 (ds:=[c5]) m sizeOf26 f Z Z Z (Ao (Ow.one1 1 m c7 Z) As) Z (lb Z) Z λw m=>Ac f Z λa f=>AA (Ab f Z λa f=>Ab f Z λa f=>l_o f (r_bool_eql (f.e Z) (f.e Z) underlying4) λa f=>Ab f Z λa f=>Bd hd λc9 da hd=> ?_)
     refine A2 9 (λa w=>∃db,GLe c1 db∧Mem W db w (ib c8 26 [c5]::c6::ib cX 26 [cU]::cV::ib cI 26 [cF]::cG::ib cx 26 [cu]::cv::H)∧Fr a 120 [(0,v0),(10,(.string ci)),(11,pb cx),(12,(.bool cm.2)),(13,pb cI),(14,(.bool cy.2)),(15,(.string cJ)),(16,pb cX),(17,(.bool cN.2)),(18,pb c8),(19,(.bool cY.2)),(92,(.bool cm.2)),(93,(.bool cy.2)),(94,(.bool (cm.2==cy.2))),(95,(.bool (cm.2==cy.2))),(104,(.bool c9))]) ?_ ?_
     ·rcases Af da with⟨dc,da⟩|⟨dc,da⟩
      ·refine Am f dc (Ab f Z λa f=>Am f dc (l_o f (Bg (f.e Z)) λa f=>Am f dc (Ab f Z λa f=>Bd da λdd de da=> ?_)))
       refine A2 5 (λa w=>∃df,GLe c1 df∧Mem W df w (ib c8 26 [c5]::c6::ib cX 26 [cU]::cV::ib cI 26 [cF]::cG::ib cx 26 [cu]::cv::H)∧Fr a 120 [(0,v0),(10,(.string ci)),(11,pb cx),(12,(.bool cm.2)),(13,pb cI),(14,(.bool cy.2)),(15,(.string cJ)),(16,pb cX),(17,(.bool cN.2)),(18,pb c8),(19,(.bool cY.2)),(92,(.bool cm.2)),(93,(.bool cy.2)),(94,(.bool (cm.2==cy.2))),(95,(.bool (cm.2==cy.2))),(96,(.bool cm.2)),(97,(.bool (!cm.2))),(98,(.bool (!cm.2))),(103,(.bool dd))]) ?_ ?_
       ·rcases Af de with⟨dg,de⟩|⟨dg,de⟩
        ·refine An f dg λa f=>An f dg λa f=>An f dg λa f=>An f dg λa f=>Am f dc (l_o f (AE (f.e Z) dg (f.e Z)) λa f=> ?_)
         obtain rfl:=sj de
         exact⟨_,gr,m,f.k Z⟩
        ·refine Am f dg (Ax 6 0 (ds:=[cu]) m Az f Z Z Z Z Z λa f=>Am f dg (Bd de λdh di de=>AH f Z call6 (Ow2.lendCall (RI.mono _) 7 cw m Z (λdj dk m dl=>Wk.M hW m dl di) (λ_ _ _ _ h=>h)) λdm dn dq w dr m dt a f=> ?_))
         obtain⟨rfl,rfl⟩:=dt
         refine Am f dg (Ab f Z λa f=>Am f dg (l_o f (r_sEql (f.e Z) (f.e Z)) λa f=>Am f dc (l_o f (AF (f.e Z) dg (f.e Z)) λa f=> ?_)))
         obtain rfl:=sj de
         exact⟨_,dr,m,f.k Z⟩
       ·rintro a w ⟨df,du,m,f⟩
        refine l_o f (AE (f.e Z) dc (f.e Z)) λa f=> ?_
        obtain rfl:=sj da
        exact⟨_,du,m,f.k Z⟩
      ·refine An f dc λa f=>An f dc λa f=>An f dc λa f=>BH f Z Z Z λa f=>BH f Z Z Z λa f=>BH f Z Z Z λa f=>BH f Z Z Z λa f=>An f dc λa f=>l_o f (AF (f.e Z) dc (f.e Z)) λa f=> ?_
       obtain rfl:=sj da
       exact⟨_,gr,m,f.k Z⟩
     ·rintro a w ⟨db,dv,m,f⟩
      refine have cW:=od3 dv cW;Ab f Z λa f=> ?_
      refine A2 4 (λa w=>∃dw,GLe db dw∧Mem W dw w (ib c8 26 [c5]::c6::ib cX 26 [cU]::cV::ib cI 26 [cF]::cG::ib cx 26 [cu]::cv::H)∧Fr a 120 [(0,v0),(10,(.string ci)),(11,pb cx),(12,(.bool cm.2)),(13,pb cI),(14,(.bool cy.2)),(15,(.string cJ)),(16,pb cX),(17,(.bool cN.2)),(18,pb c8),(19,(.bool cY.2)),(92,(.bool cm.2)),(93,(.bool cy.2)),(94,(.bool (cm.2==cy.2))),(95,(.bool (cm.2==cy.2))),(104,(.bool c9)),(105,(.bool c9)),(109,(.bool (c9&&(cN.2==cY.2))))]) ?_ ?_
      ·rcases Bool.eq_false_or_eq_true c9 with dx|dx
       ·exact Am f dx (Ab f Z λa f=>Am f dx (Ab f Z λa f=>Am f dx (l_o f (r_bool_eql (f.e Z) (f.e Z) underlying4) λa f=>l_o f (AE (f.e Z) dx (f.e Z)) λa f=>⟨_,gr,m,f.weak ⟨Z,Z,Z,Z,Z,Z,Z,Z,Z,Z,Z,Z,Z,Z,Z,Z,Z,by rw[dx];rfl,trivial⟩⟩)))
       ·exact An f dx λa f=>An f dx λa f=>An f dx λa f=>l_o f (AF (f.e Z) dx (f.e Z)) λa f=>⟨_,gr,m,f.weak ⟨Z,Z,Z,Z,Z,Z,Z,Z,Z,Z,Z,Z,Z,Z,Z,Z,Z,by rw[dx];rfl,trivial⟩⟩
      ·rintro a w ⟨dw,dy,m,f⟩
       refine have cW:=od3 dy cW;Ab f Z λa f=>Bd hd λdz dA hd=> ?_
       refine A2 9 (λa w=>∃dB,GLe dw dB∧Mem W dB w (ib c8 26 [c5]::c6::ib cX 26 [cU]::cV::ib cI 26 [cF]::cG::ib cx 26 [cu]::cv::H)∧Fr a 120 [(0,v0),(10,(.string ci)),(11,pb cx),(12,(.bool cm.2)),(13,pb cI),(14,(.bool cy.2)),(15,(.string cJ)),(16,pb cX),(17,(.bool cN.2)),(18,pb c8),(19,(.bool cY.2)),(92,(.bool cm.2)),(93,(.bool cy.2)),(94,(.bool (cm.2==cy.2))),(95,(.bool (cm.2==cy.2))),(104,(.bool c9)),(105,(.bool c9)),(109,(.bool (c9&&(cN.2==cY.2)))),(110,(.bool (c9&&(cN.2==cY.2)))),(119,(.bool dz))]) ?_ ?_
       ·rcases Af dA with⟨dC,dA⟩|⟨dC,dA⟩
        ·refine Am f dC (Ab f Z λa f=>Am f dC (l_o f (Bg (f.e Z)) λa f=>Am f dC (Ab f Z λa f=>Bd dA λdD dE dA=> ?_)))
         refine A2 5 (λa w=>∃dF,GLe dw dF∧Mem W dF w (ib c8 26 [c5]::c6::ib cX 26 [cU]::cV::ib cI 26 [cF]::cG::ib cx 26 [cu]::cv::H)∧Fr a 120 [(0,v0),(10,(.string ci)),(11,pb cx),(12,(.bool cm.2)),(13,pb cI),(14,(.bool cy.2)),(15,(.string cJ)),(16,pb cX),(17,(.bool cN.2)),(18,pb c8),(19,(.bool cY.2)),(92,(.bool cm.2)),(93,(.bool cy.2)),(94,(.bool (cm.2==cy.2))),(95,(.bool (cm.2==cy.2))),(104,(.bool c9)),(105,(.bool c9)),(109,(.bool (c9&&(cN.2==cY.2)))),(110,(.bool (c9&&(cN.2==cY.2)))),(111,(.bool cN.2)),(112,(.bool (!cN.2))),(113,(.bool (!cN.2))),(118,(.bool dD))]) ?_ ?_
         ·rcases Af dE with⟨dG,dE⟩|⟨dG,dE⟩
          ·refine An f dG λa f=>An f dG λa f=>An f dG λa f=>An f dG λa f=>Am f dC (l_o f (AE (f.e Z) dG (f.e Z)) λa f=> ?_)
           obtain rfl:=sj dE
           exact⟨_,gr,m,f.k Z⟩
          ·refine Am f dG (Ax 2 0 (ds:=[cU]) m Az f Z Z Z Z Z λa f=>Am f dG (Bd dE λdH dI dE=>AH f Z call7 (Ow.lendCall (RSl.mono (RI.mono _)) 3 cW m Z (λdJ dK m dL=>Wk.J m dL dI) (λ_ _ _ _ h=>h)) λdM dN dO w dP m dQ a f=> ?_))
           obtain⟨rfl,rfl⟩:=dQ
           refine Am f dG (Ab f Z λa f=>Am f dG (l_o f (r_sEql (f.e Z) (f.e Z)) λa f=>Am f dC (l_o f (AF (f.e Z) dG (f.e Z)) λa f=> ?_)))
           obtain rfl:=sj dE
           exact⟨_,dP,m,f.k Z⟩
         ·rintro a w ⟨dF,dR,m,f⟩
          refine l_o f (AE (f.e Z) dC (f.e Z)) λa f=> ?_
          obtain rfl:=sj dA
          exact⟨_,dR,m,f.k Z⟩
        ·refine An f dC λa f=>An f dC λa f=>An f dC λa f=>BH f Z Z Z λa f=>BH f Z Z Z λa f=>BH f Z Z Z λa f=>BH f Z Z Z λa f=>An f dC λa f=>l_o f (AF (f.e Z) dC (f.e Z)) λa f=> ?_
         obtain rfl:=sj dA
         exact⟨_,gr,m,f.k Z⟩
       ·rintro a w ⟨dB,dS,m,f⟩
        refine Ac f Z λa f=>Aa (Ar (have m:=m.dp 8;?_))
        obtain rfl:=sj hd
        exact⟨[(.bool dz)],f.g Z,f.d,_,[],(gt ad (gt ak (gt aA (gt aK (gt aU (gt ba (gt ch (gt cl (gt cr (gt cD (gt cM (gt cS (gt c3 (gt dv (gt dy dS))))))))))))))),m,Z,Z⟩
end Go.Proofs.YtgdadopbjdlddaaGreatDoor

namespace Go.Sx
open Go.Lib
def spl (c:UInt8):List UInt8→List (List UInt8)
 |[]=>[[]]
 |b::r=>if b=c then []::spl c r else match spl c r with
  |[]=>[[b]]
  |x::y=>(b::x)::y
theorem spl_ne (c:UInt8):∀s,spl c s≠[]
 |[]=>by simp[spl]
 |b::r=>by
  unfold spl
  split
  ·simp
  ·split<;>simp
theorem spl_no {c:UInt8}{x:List UInt8}(h:c∉x):spl c x=[x]:=by
 induction x with
 |nil=>rfl
 |cons b r ih=>
  have h1:b≠c:=λe=>h (by simp[e])
  have h2:c∉r:=λe=>h (by simp[e])
  rw[spl,if_neg h1,ih h2]
theorem Dr {c:UInt8}{x:List UInt8}(h:c∉x)(y:List UInt8):spl c (x++c::y)=x::spl c y:=by
 induction x with
 |nil=>simp[spl]
 |cons b r ih=>
  have h1:b≠c:=λe=>h (by simp[e])
  have h2:c∉r:=λe=>h (by simp[e])
  rw[List.cons_append,spl,if_neg h1,ih h2]
theorem spl_has {c:UInt8}:∀{s:List UInt8},c∈s→∃x y,s=x++c::y∧c∉x
 |b::r,h=>by
  by_cases hb:b=c
  ·exact⟨[],r,by simp[hb],by simp⟩
  ·have hr:c∈r:=by
    rcases List.mem_cons.1 h with h|h
    ·exact absurd h.symm hb
    ·exact h
   obtain⟨x,y,e,hx⟩:=spl_has hr
   refine⟨b::x,y,by rw[e,List.cons_append],?_⟩
   intro h
   rcases List.mem_cons.1 h with h|h
   ·exact hb h.symm
   ·exact hx h
 |[],h=>by simp at h
theorem Dt (c:UInt8):∀s:List UInt8,(spl c s).length≤s.length+1
 |[]=>by simp[spl]
 |b::r=>by
  have:=Dt c r
  unfold spl
  split
  ·simp;omega
  ·split
   ·simp
   ·rename_i x y e;rw[e] at this;simp at this ⊢;omega
theorem C9 (c:UInt8):∀(s:List UInt8),∀x∈spl c s,x.length≤s.length
 |[],x,h=>by simp[spl] at h;simp[h]
 |b::r,x,h=>by
  have ih:=C9 c r
  unfold spl at h
  split at h
  ·rcases List.mem_cons.1 h with rfl|h
   ·simp
   ·have:=ih x h;simp;omega
  ·split at h
   ·simp at h;simp[h]
   ·rename_i y z e
    rw[e] at ih
    rcases List.mem_cons.1 h with rfl|h
    ·have:=ih y (by simp);simp;omega
    ·have:=ih x (by simp[h]);simp;omega
theorem index_no {c:UInt8}:∀{x:List UInt8},c∉x→index x [c]= -1
 |[],_=>by simp[index]
 |b::r,h=>by
  have h1:c≠b:=λe=>h (by simp[e])
  have h2:c∉r:=λe=>h (by simp[e])
  rw[index,index_no h2]
  simp[List.isPrefixOf,h1]
theorem D9 {c:UInt8}:∀{x:List UInt8},c∉x→∀y,index (x++c::y) [c]=(x.length:Int)
 |[],_,y=>by simp[index,List.isPrefixOf]
 |b::r,h,y=>by
  have h1:c≠b:=λe=>h (by simp[e])
  have h2:c∉r:=λe=>h (by simp[e])
  rw[List.cons_append,index,D9 h2 y]
  simp[List.isPrefixOf,h1]
theorem cut_no {c:UInt8}{x:List UInt8}(h:c∉x):cut x [c]=(x,[],false):=by
 unfold cut;rw[index_no h,if_neg (by omega)]
theorem cut_app {c:UInt8}{x:List UInt8}(h:c∉x)(y:List UInt8):cut (x++c::y) [c]=(x,y,true):=by
 unfold cut
 rw[D9 h y,if_pos (by omega)]
 simp
theorem split_one (c:UInt8):∀(k:Nat) (s:List UInt8),s.count c=k→splitK [c] 0 k s=spl c s
 |0,s,hk=>by
  rw[spl_no (List.count_eq_zero.1 hk)];rfl
 |k+1,s,hk=>by
  have hm:c∈s:=List.count_pos_iff.1 (by omega)
  obtain⟨x,y,rfl,hx⟩:=spl_has hm
  rw[Dr hx,splitK,D9 hx,if_neg (by simp)]
  have hc:y.count c=k:=by
   rw[List.count_append,List.count_cons_self,List.count_eq_zero.2 hx] at hk;omega
  simp only[Int.toNat_natCast,Nat.add_zero,List.take_left,List.length_singleton]
  rw[←split_one c k y hc]
  congr 2
  rw[show x.length+1=(x++[c]).length by simp,show x++c::y=(x++[c])++y by simp,List.drop_left]
theorem split_eq (c:UInt8)(s:ByteArray):(splitB ⟨#[c]⟩ 0 (countB s ⟨#[c]⟩) s).map (·.data.toList)=spl c s.data.toList:=by
 rw[splitB_data]
 have:countB s ⟨#[c]⟩=s.data.toList.count c:=count_one c s.data.toList
 rw[this]
 exact split_one c _ _ rfl
end Go.Sx

namespace Go.Sx
end Go.Sx



namespace Go.Sx
def Sh {α:Type}(xs:List α):Prop:=xs.length≤4294967296
theorem DA (a b c:Int):D.a a b c=some (decide (b≤a)&&decide (a≤c)):=rfl
theorem inRange_eq (a b c:Int):D.d0 a b c=some (decide (b≤a)&&decide (a≤c)):=rfl
theorem any_beq (xs:LI)(n:Int):xs.any (λx=>x==n)=decide (n∈xs):=by
 rw[Bool.eq_iff_iff,List.any_eq_true];simp
theorem l1Has_eq (xs:LI)(n:Int)(h:Sh xs):D.z xs n=some (decide (n∈xs)):=by
 unfold Sh at h
 unfold D.z
 refine(loop_anyb xs.length (λi=>xs.getD i 0==n) true (λi hi=> ?_) ?_ rfl rfl).trans ?_
 ·simp only[dlt hi,cT,AS hi,bs,wi' hi (by omega),Ba hi]
  cases xs[i]==n<;>rfl
 ·simp only[Bb,cF]
 ·rw[range_any_list xs (λx=>x==n) _ (λi hi=>by rw[Ba hi]),any_beq]
theorem Em (xs:LI)(n:Int)(h:Sh xs):D.X xs n=some (decide (n∈xs)):=by
 unfold Sh at h
 unfold D.X D.z0
 have e:Ay (σ:=Int) (ρ:=(Unit) ⊕ (Int)) (fun(x_26:Int)=>cond (decide (x_26<(xs.length:Int))) ((idx xs x_26).bind λe_39=>cond (n==e_39) (some (.inr (.inr x_26))) (some (.inl (IntKind.i64.wrap (x_26+1))))) (some (.inr (.inl ())))) 0=
   some (((List.range xs.length).findSome? (λi=>if xs.getD i 0==n then some (Sum.inr (i:Int)) else none)).getD (.inl ())):=by
  refine Dg xs.length _ _ (λi hi=> ?_) ?_
  ·simp only[dlt hi,cT,AS hi,bs,wi' hi (by omega),Ba hi]
   rw[show (n==xs[i])=(xs[i]==n) from Bool.beq_comm ..]
   cases xs[i]==n<;>rfl
  ·simp only[Bb,cF]
 rw[e,bs]
 cases hf:(List.range xs.length).findSome? (λi=>if xs.getD i 0==n then some (Sum.inr (i:Int):Unit ⊕ Int) else none) with
 |none=>
  have:n∉xs:=λhm=>by
   obtain⟨i,hi,e⟩:=List.getElem_of_mem hm
   have:=(List.findSome?_eq_none_iff.1 hf) i (List.mem_range.2 hi)
   rw[Ba hi,e] at this
   simp at this
  simp[this]
 |some r=>
  obtain⟨i,hi,hr⟩:=List.exists_of_findSome?_eq_some hf
  have hi':=List.mem_range.1 hi
  rw[Ba hi'] at hr
  split at hr
  ·rename_i hc
   cases hr
   have:n∈xs:=by rw[←(beq_iff_eq.1 hc)];exact List.getElem_mem _
   simp[this]
  ·cases hr
def SetOf (xs : LI) (n : Int) : Prop := Inc xs ∧ ∀ x ∈ xs, 0 ≤ x ∧ x < n
theorem SetOf.len :∀{xs:LI} {n a:Int},Inc xs→(∀x∈xs,a≤x∧x<n)→xs=[]∨(xs.length:Int)≤n-a
 |[],_,_,_,_=> .inl rfl
 |x::xs,n,a,h,hr=>by
  right
  have h':=List.pairwise_cons.1 h
  have hx:=hr x (by simp)
  rcases SetOf.len (a:=x+1) (n:=n) h'.2 (λy hy=>⟨by have:=h'.1 y hy;omega,(hr y (by simp[hy])).2⟩) with e|e
  ·subst e;simp;omega
  ·simp;omega
theorem SetOf.length_le {xs:LI}{n:Int}(h:SetOf xs n)(hn:0≤n):(xs.length:Int)≤n:=by
 rcases SetOf.len h.1 h.2 with e|e
 ·subst e;simpa using hn
 ·omega
theorem inc_iff (xs:LI):Inc xs↔∀i (hi:i+1<xs.length),xs[i]<xs[i+1]:=by
 unfold Inc
 constructor
 ·intro h i hi
  exact List.pairwise_iff_getElem.1 h i (i+1) (by omega) hi (by omega)
 ·intro h
  rw[List.pairwise_iff_getElem]
  intro i j hi hj hij
  have key:∀k,∀hk:i+k+1<xs.length,xs[i]<xs[i+k+1]:=by
   intro k
   induction k with
   |zero=>intro hk;exact h i hk
   |succ k ih=>intro hk;have:=ih (by omega);have:=h (i+k+1) hk;exact Int.lt_trans (ih (by omega)) this
  obtain⟨k,rfl⟩:∃k,j=i+k+1:=⟨j-i-1,by omega⟩
  exact key k hj
def Cv (xs:LI)(n:Int):Bool:=(List.range xs.length).all λi=>(decide (0≤xs.getD i 0)&&decide (xs.getD i 0≤n-1))&& !(decide (0<i)&&decide (xs.getD i 0≤xs.getD (i-1) 0))
theorem CJ (xs:LI)(n:Int):Cv xs n=true↔SetOf xs n:=by
 unfold Cv SetOf
 rw[DB,inc_iff]
 constructor
 ·intro h
  refine⟨λi hi=> ?_,λx hx=> ?_⟩
  ·have:=h (i+1) hi
   simp[hi,show i<xs.length by omega] at this
   omega
  ·obtain⟨i,hi,rfl⟩:=List.getElem_of_mem hx
   have:=h i hi
   simp[hi] at this
   omega
 ·rintro⟨h1,h2⟩ i hi
  have h3:=h2 _ (List.getElem_mem hi)
  simp[hi]
  refine⟨by omega,?_⟩
  rcases Nat.eq_zero_or_pos i with h0|h0
  ·exact .inl h0
  ·right
   have:=h1 (i-1) (by omega)
   have e:i-1+1=i:=by omega
   simp only[e] at this
   have e2:xs[i-1]?.getD 0=xs[i-1]:=by rw[List.getElem?_eq_getElem (by omega)];rfl
   rw[e2];exact this
theorem DT (xs:LI)(n:Int)(h:Sh xs)(h0:0≤n)(hn:n≤4294967296):D.Y xs n=some (Cv xs n):=by
 unfold Sh at h
 unfold D.Y
 refine CE xs.length _ false (λi hi=> ?_) ?_ rfl rfl
 ·simp only[dlt hi,cT,AS hi,bs,wi' hi (by omega),Ba hi,inRange_eq]
  rw[w64 (x:=n-1) (by omega) (by omega)]
  cases (decide (0≤xs[i])&&decide (xs[i]≤n-1))
  ·simp
  ·by_cases h0:0<i
   ·have e1:IntKind.i64.wrap ((i:Int)-1)=((i-1:Nat):Int):=by rw[w64 (by omega) (by omega)];omega
    have hd:decide ((0:Int)<(i:Int))=true:=by simp;omega
    simp only[Bool.not_true,cF,hd,cT,e1,AS (show i-1<xs.length by omega),bs,Ba (show i-1<xs.length by omega),h0,decide_true,Bool.true_and]
    cases decide (xs[i]≤xs[i-1])<;>rfl
   ·have hd:decide ((0:Int)<(i:Int))=false:=by simp;omega
    simp only[Bool.not_true,cF,hd,bs,h0,decide_false,Bool.false_and,Bool.not_false,Bool.and_true,if_true]
 ·simp only[Bb,cF]
theorem l1Set_eq (xs:LI)(n:Int)(h:Sh xs)(h0:0≤n)(hn:n≤4294967296):D.K xs n=some (Cv xs n):=by
 have hh:=h
 unfold Sh at h
 unfold D.K
 by_cases hl:n<xs.length
 ·have:Cv xs n=false:=by
   cases hb:Cv xs n
   ·rfl
   ·have:=((CJ xs n).1 hb).length_le h0;omega
  simp[hl,this]
 ·simp only[hl,decide_false,cF]
  refine CE xs.length _ false (λi hi=> ?_) ?_ rfl rfl
  ·simp only[dlt hi,cT,AS hi,bs,wi' hi (by omega),Ba hi,DA]
   rw[w64 (x:=n-1) (by omega) (by omega)]
   cases (decide (0≤xs[i])&&decide (xs[i]≤n-1))
   ·simp
   ·by_cases h0:0<i
    ·have e1:IntKind.i64.wrap ((i:Int)-1)=((i-1:Nat):Int):=by rw[w64 (by omega) (by omega)];omega
     have hd:decide ((0:Int)<(i:Int))=true:=by simp;omega
     simp only[Bool.not_true,cF,hd,cT,e1,AS (show i-1<xs.length by omega),bs,Ba (show i-1<xs.length by omega),h0,decide_true,Bool.true_and]
     cases decide (xs[i]≤xs[i-1])<;>rfl
    ·have hd:decide ((0:Int)<(i:Int))=false:=by simp;omega
     simp only[Bool.not_true,cF,hd,bs,h0,decide_false,Bool.false_and,Bool.not_false,Bool.and_true,if_true]
  ·simp only[Bb,cF]
def row (g : LL) (v : Nat) : LI := g.getD v []
theorem C8 {g:LL}{v:Nat}(h:v<g.length):row g v=g[v]:=Ba h _
def adj (g : LL) (u v : Nat) : Prop := (v : Int) ∈ row g u
structure GOk (g : LL) : Prop where
  n1 : 1 ≤ g.length
  n16 : g.length ≤ 16
  rows : ∀ v, v < g.length → SetOf (row g v) g.length
  irr : ∀ v, v < g.length → ¬ adj g v v
  sym : ∀ u v, u < g.length → adj g u v → adj g v u
theorem GOk.mem {g:LL}(h:GOk g){u:Nat}(hu:u<g.length){x:Int}(hx:x∈row g u):∃v:Nat,x=v∧v<g.length∧adj g u v:=by
 have:=(h.rows u hu).2 x hx
 refine⟨x.toNat,by omega,by omega,?_⟩
 unfold adj
 rw[show ((x.toNat:Nat):Int)=x by omega];exact hx
theorem GOk.row_len {g:LL}(h:GOk g){u:Nat}(hu:u<g.length):(row g u).length≤16:=by
 have:=(h.rows u hu).length_le (by omega)
 have:=h.n16
 omega
theorem GOk.lt {g:LL}(h:GOk g){u v:Nat}(hu:u<g.length)(ha:adj g u v):v<g.length:=by
 obtain⟨w,h1,h2,_⟩:=h.mem hu ha
 omega
def Sh2 (g:LL):Prop:=Sh g∧∀r∈g,Sh r
theorem Sh2.row {g:LL}(h:Sh2 g){v:Nat}(hv:v<g.length):Sh (row g v):=by
 rw[C8 hv];exact h.2 _ (List.getElem_mem hv)
theorem BU {g:LL}{v:Nat}(h:v<g.length):idx g (v:Int)=some (row g v):=by rw[C8 h,AS h]
def gB1 (g:LL):Bool:=(List.range g.length).all λv=>Cv (row g v) g.length&& !decide ((v:Int)∈row g v)
def gB2 (g:LL):Bool:=(List.range g.length).all λv=>(row g v).all λx=>decide ((v:Int)∈row g x.toNat)
def gB (g:LL):Bool:=decide (1≤g.length)&&decide (g.length≤16)&&gB1 g&&gB2 g
theorem Ci (g:LL):gB g=true↔GOk g:=by
 unfold gB gB1 gB2
 simp only[Bool.and_eq_true,decide_eq_true_eq,CJ,Bool.not_eq_true',decide_eq_false_iff_not,List.all_eq_true,List.mem_range]
 constructor
 ·rintro⟨⟨⟨h1,h2⟩,h3⟩,h4⟩
  refine⟨h1,h2,λv hv=>(h3 v hv).1,λv hv=>(h3 v hv).2,λu v hu ha=> ?_⟩
  have:=h4 u hu v ha
  unfold adj
  simpa using this
 ·intro h
  refine⟨⟨⟨h.n1,h.n16⟩,λv hv=>⟨h.rows v hv,h.irr v hv⟩⟩,λv hv x hx=> ?_⟩
  obtain⟨u,rfl,hu,ha⟩:=h.mem hv hx
  have:=h.sym v u hv ha
  simpa [adj] using this
theorem B2 (g:LL)(h:Sh2 g):D.v g=some (gB g):=by
 have hl:g.length≤4294967296:=h.1
 unfold D.v D.g
 simp only[bs,DA]
 by_cases hn:1≤g.length∧g.length≤16
 ·have e:(decide ((1:Int)≤(g.length:Int))&&decide ((g.length:Int)≤16))=true:=by simp;omega
  simp only[e,Bool.not_true,cF]
  refine(Ed g.length (λv=>Cv (row g v) g.length&& !decide ((v:Int)∈row g v)) (.inl ()) (.inr false) (λv hv=> ?_) ?_).trans ?_
  rotate_left
  ·simp only[Bb,cF]
  ·show cond (gB1 g) _ _=_
   have e4:gB g=(gB1 g&&gB2 g):=by unfold gB;simp[hn.1,hn.2]
   rw[e4]
   cases hc:gB1 g with
   |false=>rfl
   |true=>
    rw[cT,Bool.true_and]
    refine CE g.length _ false (λv hv=> ?_) ?_ rfl rfl
    ·have hset:SetOf (row g v) g.length:=by
      have:=(DB _ _).1 hc v hv
      simp only[Bool.and_eq_true] at this
      exact(CJ _ _).1 this.1
     simp only[dlt hv,cT]
     refine(Ed (row g v).length (λi=>decide ((v:Int)∈row g ((row g v).getD i 0).toNat)) (.inl ()) (.inr false) (λi hi=> ?_) ?_).trans ?_
     ·have hx:=hset.2 _ (List.getElem_mem hi)
      have e5:idx g (row g v)[i]=some (row g ((row g v)[i]).toNat):=by
       have:=BU (g:=g) (v:=((row g v)[i]).toNat) (by omega)
       rwa [show ((((row g v)[i]).toNat:Nat):Int)=(row g v)[i] by omega] at this
      have hs:=h.row (v:=((row g v)[i]).toNat) (by omega)
      simp only[BU hv,bs,dlt hi,cT,AS hi,e5,l1Has_eq _ _ hs,wi (show i<4611686018427387904 by have:=h.row hv;unfold Sh at this;omega),Ba hi]
      cases decide ((v:Int)∈row g ((row g v)[i]).toNat)<;>rfl
     ·simp only[BU hv,bs,Bb,cF]
     ·rw[Dz (row g v) (λx=>decide ((v:Int)∈row g x.toNat)) _ (λi hi=>by rw[Ba hi]),wi' hv (by omega)]
      cases (row g v).all λx=>decide ((v:Int)∈row g x.toNat)<;>rfl
    ·simp only[Bb,cF]
  ·simp only[dlt hv,cT,BU hv,bs,l1Set_eq _ _ (h.row hv) (show (0:Int)≤(g.length:Int) by omega) (by omega),l1Has_eq _ _ (h.row hv),wi' hv (by omega)]
   cases Cv (row g v) g.length
   ·rfl
   ·cases decide ((v:Int)∈row g v)<;>rfl
 ·have e:(decide ((1:Int)≤(g.length:Int))&&decide ((g.length:Int)≤16))=false:=by
   rw[Bool.eq_false_iff];simp;omega
  simp only[e,Bool.not_false,cT]
  unfold gB
  congr 1
  symm
  rw[Bool.eq_false_iff]
  simp
  omega
theorem Cg (g:LL)(h:Sh2 g):D.o g=some (gB g):=by
 have hl:g.length≤4294967296:=h.1
 unfold D.o
 by_cases hn:1≤g.length∧g.length≤16
 ·have e:(decide ((g.length:Int)<(1:Int))||decide ((16:Int)<(g.length:Int)))=false:=by simp;omega
  simp only[e,cF]
  refine(Ed g.length (λv=>Cv (row g v) g.length&& !decide ((v:Int)∈row g v)) (.inl ()) (.inr false) (λv hv=> ?_) ?_).trans ?_
  rotate_left
  ·simp only[Bb,cF]
  ·show cond (gB1 g) _ _=_
   have e4:gB g=(gB1 g&&gB2 g):=by unfold gB;simp[hn.1,hn.2]
   rw[e4]
   cases hc:gB1 g with
   |false=>rfl
   |true=>
    rw[cT,Bool.true_and]
    refine CE g.length _ false (λv hv=> ?_) ?_ rfl rfl
    ·have hset:SetOf (row g v) g.length:=by
      have:=(DB _ _).1 hc v hv
      simp only[Bool.and_eq_true] at this
      exact(CJ _ _).1 this.1
     simp only[dlt hv,cT,BU hv,bs]
     refine(Ed (row g v).length (λi=>decide ((v:Int)∈row g ((row g v).getD i 0).toNat)) (.inl ()) (.inr false) (λi hi=> ?_) ?_).trans ?_
     ·have hx:=hset.2 _ (List.getElem_mem hi)
      have e5:idx g (row g v)[i]=some (row g ((row g v)[i]).toNat):=by
       have:=BU (g:=g) (v:=((row g v)[i]).toNat) (by omega)
       rwa [show ((((row g v)[i]).toNat:Nat):Int)=(row g v)[i] by omega] at this
      have hs:=h.row (v:=((row g v)[i]).toNat) (by omega)
      simp only[bs,dlt hi,cT,AS hi,e5,Em _ _ hs,wi (show i<4611686018427387904 by have:=h.row hv;unfold Sh at this;omega),Ba hi]
      cases decide ((v:Int)∈row g ((row g v)[i]).toNat)<;>rfl
     ·simp only[Bb,cF]
     ·rw[Dz (row g v) (λx=>decide ((v:Int)∈row g x.toNat)) _ (λi hi=>by rw[Ba hi]),wi' hv (by omega)]
      cases (row g v).all λx=>decide ((v:Int)∈row g x.toNat)<;>rfl
    ·simp only[Bb,cF]
  ·simp only[dlt hv,cT,BU hv,bs,DT _ _ (h.row hv) (show (0:Int)≤(g.length:Int) by omega) (by omega),Em _ _ (h.row hv),wi' hv (by omega)]
   cases Cv (row g v) g.length
   ·rfl
   ·cases decide ((v:Int)∈row g v)<;>rfl
 ·have e:(decide ((g.length:Int)<(1:Int))||decide ((16:Int)<(g.length:Int)))=true:=by
   simp;omega
  simp only[e,cT]
  unfold gB
  congr 1
  symm
  rw[Bool.eq_false_iff]
  simp
  omega
structure OOk (g : LL) (o : LI) : Prop where
  len : o.length = g.length
  rng : ∀ x ∈ o, 0 ≤ x ∧ x < g.length
  nd : o.Nodup
theorem En (v:Nat):D.p (v:Int)=some (ishl .u32 1 (v:Int)):=by
 unfold D.p
 have:decide ((v:Int)<0)=false:=by simp
 rw[this];rfl
theorem impl_one_eq' {x:Int}(h:0≤x):D.p x=some (ishl .u32 1 x):=by
 have:=En x.toNat
 rwa [show ((x.toNat:Nat):Int)=x by omega] at this
def mk (xs : LI) : Int := xs.foldl (fun s v => ior .u32 s (ishl .u32 1 v)) 0
theorem maskOf_eq (xs:LI)(h:Sh xs)(h0:∀x∈xs,0≤x):D.s0 xs=some (mk xs):=by
 unfold Sh at h
 unfold D.s0
 refine(loop_listb xs (λs i=>(s,i)) (λs v=>ior .u32 s (ishl .u32 1 v)) (λs=>s) (λ_=>True) 0 trivial (λs i hi _=>⟨?_,trivial⟩) (λs _=> ?_)).trans rfl
 ·simp only[dlt hi,cT,AS hi,bs,wi' hi (by omega),impl_one_eq' (h0 _ (List.getElem_mem hi))]
 ·simp only[Bb,cF]
theorem DX :∀(xs:LI) (s:Int),VS s→VS (xs.foldl (λs v=>ior .u32 s (ishl .u32 1 v)) s)
 |[],s,h=>h
 |x::xs,s,_=>DX xs _ (VS.ior _ _)
theorem VS.mk (xs:LI):VS (mk xs):=DX xs 0 VS.zero
theorem DU (u:Nat):∀(xs:LI) (s:Int),VS s→(∀x∈xs,0≤x∧x<32)→has (xs.foldl (λs v=>ior .u32 s (ishl .u32 1 v)) s) u=(has s u||decide ((u:Int)∈xs))
 |[],s,_,_=>by simp
 |x::xs,s,hs,h=>by
  have hx:=h x (by simp)
  rw[List.foldl_cons,DU u xs _ (VS.ior _ _) (λy hy=>h y (by simp[hy])),has_ior hs (VS.ishl _ _)]
  obtain⟨k,rfl⟩:∃k:Nat,x=k:=⟨x.toNat,by omega⟩
  rw[has_one (by omega)]
  by_cases hu:u=k
  ·subst hu;simp
  ·have:¬(u:Int)=(k:Int):=by omega
   simp[hu,this]
theorem has_mk {xs:LI}(h:∀x∈xs,0≤x∧x<32)(u:Nat):has (mk xs) u=decide ((u:Int)∈xs):=by
 unfold mk;rw[DU u xs 0 VS.zero h,CM,Bool.false_or]
theorem GOk.mem0 {g:LL}(hg:GOk g){r:LI}(hr:r∈g):r.length≤16∧∀x∈r,0≤x∧x<g.length:=by
 obtain⟨v,hv,rfl⟩:=List.getElem_of_mem hr
 rw[←C8 hv]
 exact⟨hg.row_len hv,(hg.rows v hv).2⟩
theorem netsOf_eq (g:LL)(hg:GOk g):D.m0 g=some (g.map mk):=by
 have h16:=hg.n16
 unfold D.m0
 refine(Db g (λs i=>(s,i)) mk (by omega) (λs i hi _=> ?_) (λs=> ?_)).trans rfl
 ·obtain⟨h1,h2⟩:=hg.mem0 (List.getElem_mem hi)
  simp only[dlt hi,cT,AS hi,bs,wi' hi (by omega),maskOf_eq g[i] (by unfold Sh;omega) (λx hx=>(h2 x hx).1)]
 ·simp only[Bb,cF]
theorem wide_eq (xs:LI)(h:Sh xs):D.i0 xs=some xs:=by
 unfold Sh at h
 unfold D.i0
 rw[makeD_zero (by omega) (by omega),bs]
 refine(Db xs (λs i=>(s,i)) (λx=>x) h (λs i hi _=> ?_) (λs=> ?_)).trans (by simp)
 ·simp only[dlt hi,cT,AS hi,bs,wi' hi (by omega)]
 ·simp only[Bb,cF]
theorem least_eq {s:Int}(h:VS s)(h0:s≠0):∃k:Nat,k<32∧D.a0 s=some (k:Int)∧has s k=true∧(∀v,v<k→has s v=false)∧
  (∀v,has (iand .u32 s (IntKind.u32.wrap (s-1))) v=(has s v&& !decide (v=k))):=by
 obtain⟨k,h1,h2,h3,h4,h5⟩:=least_spec h h0
 refine⟨k,h1,?_,h2,h3,h5⟩
 unfold D.a0 D.D0
 have e:(s==0)=false:=by simpa using h0
 simp only[e,cF,h4,tz_table k h1,bs]
 rw[w64 (by omega) (by omega)]
theorem list_eq (s:Int)(h:VS s):D.P s=some (Bc s):=by
 unfold D.P
 have key:∀(n:Nat) (x:Int) (l:LI),VS x→(Bc x).length=n→l.length+n≤32→
   Ay (σ:=Int×LI) (ρ:=(LI)) (fun(s_52:Int×LI)=>match s_52 with|(x_55,l_56)=>cond (x_55 !=0) ((D.a0 x_55).bind λy_88=>(AC l_56 ([y_88]:LI)).bind λl_99=>some (.inl ((iand .u32 x_55 (IntKind.u32.wrap (x_55-1))),l_99))) (some (.inr l_56))) (x,l)=some (l++Bc x):=by
  intro n
  induction n with
  |zero=>
   intro x l hx hn _
   have e:Bc x=[]:=List.eq_nil_of_length_eq_zero hn
   have e0:x=0:=hx.eq_zero.2 λv hv=>by
    cases hc:has x v
    ·rfl
    ·have:=mem_elems.2 ⟨v,hv,hc,rfl⟩;rw[e] at this;simp at this
   rw[e]
   refine Bp ?_
   have:(x !=0)=false:=by simp[e0]
   simp only[this,cF,List.append_nil]
  |succ n ih=>
   intro x l hx hn hl
   have h0:x≠0:=by rintro rfl;rw[elems_zero] at hn;simp at hn
   obtain⟨k,h1,h2,h3,h4,h5⟩:=least_eq hx h0
   have e:=elems_least h1 h3 h4 h5
   have en:(Bc (iand .u32 x (IntKind.u32.wrap (x-1)))).length=n:=by rw[e] at hn;simpa using hn
   have hstep:=ih (iand .u32 x (IntKind.u32.wrap (x-1))) (l++[(k:Int)]) (VS.iand _ _) en (by simp;omega)
   have e1:(x !=0)=true:=by simpa using h0
   rw[Bj (s':=(iand .u32 x (IntKind.u32.wrap (x-1)),l++[(k:Int)]))]
   ·rw[hstep,e];simp
   ·simp only[e1,cT,h2,bs,AW (xs:=l) (ys:=[(k:Int)]) (by simp;omega)]
 have:=key (Bc s).length s [] h rfl (by simpa using elems_len s)
 rw[this];simp
theorem elems_sh (s:Int):Sh (Bc s):=by have:=elems_len s;unfold Sh;omega
theorem numbers_eq (s:Int)(h:VS s):D.b0 s=some (Bc s):=by
 unfold D.b0
 rw[list_eq s h,bs,wide_eq _ (elems_sh s)];rfl
theorem l1Copy_eq (xs:LI)(h:Sh xs):D.F xs=some xs:=by
 unfold Sh at h
 unfold D.F
 rw[AW (by simpa using h)];rfl
def into (xs:LI)(n:Int):LI:=if n∈xs then xs else xs.takeWhile (λx=>decide (x<n))++n::xs.dropWhile (λx=>decide (x<n))
theorem mem_into {xs:LI}{n x:Int}:x∈into xs n↔x=n∨x∈xs:=by
 unfold into
 split
 ·constructor
  ·intro h;exact .inr h
  ·rintro(rfl|h)
   ·assumption
   ·exact h
 ·have e:x∈xs↔x∈xs.takeWhile (λx=>decide (x<n))++xs.dropWhile (λx=>decide (x<n)):=by rw[List.takeWhile_append_dropWhile]
  rw[e];simp only[List.mem_append,List.mem_cons]
  constructor
  ·rintro(h|h|h)<;>simp[h]
  ·rintro(h|h|h)<;>simp[h]
theorem DQ {xs:LI}{n:Int}(h:Inc xs):∀y∈xs.dropWhile (λx=>decide (x<n)),n≤y:=by
 induction xs with
 |nil=>simp
 |cons x xs ih=>
  have h':=List.pairwise_cons.1 h
  intro y hy
  rw[List.dropWhile_cons] at hy
  split at hy
  ·exact ih h'.2 y hy
  ·rename_i hc
   simp at hc
   rcases List.mem_cons.1 hy with rfl|hy
   ·exact hc
   ·have:=h'.1 y hy;omega
theorem inc_takeWhile {xs:LI}{n:Int}:∀y∈xs.takeWhile (λx=>decide (x<n)),y<n:=by
 intro y hy
 induction xs with
 |nil=>simp at hy
 |cons x xs ih=>
  rw[List.takeWhile_cons] at hy
  split at hy
  ·rename_i hc
   rcases List.mem_cons.1 hy with rfl|hy
   ·simpa using hc
   ·exact ih hy
  ·simp at hy
theorem Inc.into {xs:LI}(h:Inc xs)(n:Int):Inc (into xs n):=by
 unfold Sx.into
 split
 ·exact h
 ·rename_i hn
  unfold Inc
  rw[List.pairwise_append]
  refine⟨List.Pairwise.sublist (List.takeWhile_sublist _) h,List.pairwise_cons.2 ⟨λy hy=> ?_,List.Pairwise.sublist (List.dropWhile_sublist _) h⟩,λa ha b hb=> ?_⟩
  ·have h1:=DQ h y hy
   have h2:y≠n:=λe=>hn (e▸(List.dropWhile_sublist _).mem hy)
   omega
  ·have h1:=inc_takeWhile a ha
   rcases List.mem_cons.1 hb with rfl|hb
   ·exact h1
   ·have:=DQ h b hb;omega
theorem Cu {α:Type}(p:α→Bool):∀(xs:List α),xs.takeWhile p=xs.take (xs.takeWhile p).length∧xs.dropWhile p=xs.drop (xs.takeWhile p).length
 |[]=>by simp
 |x::xs=>by
  rw[List.takeWhile_cons,List.dropWhile_cons]
  cases p x
  ·simp
  ·have:=Cu p xs
   simp only[if_true,List.length_cons,List.take_succ_cons,List.drop_succ_cons,←this.1,←this.2,and_self]
theorem Cx {α:Type}(p:α→Bool):∀(xs:List α) (i:Nat) (h:i<(xs.takeWhile p).length) (h':i<xs.length),p xs[i]=true
 |x::xs,i,h,h'=>by
  rw[List.takeWhile_cons] at h
  cases hp:p x
  ·rw[hp] at h;simp at h
  ·rw[hp] at h
   cases i with
   |zero=>simpa using hp
   |succ i=>simp only[if_true,List.length_cons] at h;simpa using Cx p xs i (by omega) (by simpa using h')
theorem CK {α:Type}(p:α→Bool):∀(xs:List α) (h:(xs.takeWhile p).length<xs.length),p (xs[(xs.takeWhile p).length])=false
 |x::xs,h=>by
  cases hp:p x
  ·simp[List.takeWhile_cons,hp]
  ·have h2:(xs.takeWhile p).length<xs.length:=by simpa [List.takeWhile_cons,hp] using h
   simpa [List.takeWhile_cons,hp] using CK p xs h2
theorem Ey {α:Type}(p:α→Bool)(xs:List α):(xs.takeWhile p).length≤xs.length:=(List.takeWhile_sublist _).length_le
theorem l1Into_eq (xs:LI)(n:Int)(h:Inc xs)(hl:xs.length≤4294967295):D.h xs n=some (into xs n):=by
 unfold D.h
 generalize hk:(xs.takeWhile (λx=>decide (x<n))).length=k
 have hkl:k≤xs.length:=by rw[←hk];exact Ey _ _
 have htk:xs.takeWhile (λx=>decide (x<n))=xs.take k:=by rw[←hk];exact(Cu _ xs).1
 have hdk:xs.dropWhile (λx=>decide (x<n))=xs.drop k:=by rw[←hk];exact(Cu _ xs).2
 refine(BZ (λi=>((i:Nat):Int)) k (k:Int) rfl (λi hi=> ?_) ?_).trans ?_
 ·have hi':i<xs.length:=by omega
  have hp:decide (xs[i]<n)=true:=Cx (λx=>decide (x<n)) xs i (by omega) hi'
  simp only[dlt hi',cT,AS hi',bs,hp,wq i]
 ·by_cases hlt:k<xs.length
  ·have hp:decide (xs[k]<n)=false:=by
    have:=CK (λx=>decide (x<n)) xs (by omega)
    simp only[hk] at this;exact this
   simp only[dlt hlt,cT,AS hlt,bs,hp,cF]
  ·obtain rfl:k=xs.length:=by omega
   simp only[Bb,cF,bs]
 ·have hS1:Sh (xs.take k):=by unfold Sh;rw[List.length_take];omega
  have hrest:((Bh xs 0 (k:Int)).bind λl_135=>(D.F l_135).bind λy_139=>(AC y_139 ([n]:LI)).bind λl_154=>(Bh xs (k:Int) (xs.length:Int)).bind λl_160=>(AC l_154 l_160).bind λl_164=>some l_164)=some (xs.take k++n::xs.drop k):=by
   simp only[sliceD_pre hkl,sliceD_post hkl,bs,l1Copy_eq _ hS1]
   rw[AW (by simp;omega),bs,AW (by simp;omega),bs]
   simp
  by_cases hlt:k<xs.length
  ·simp only[dlt hlt,cT,AS hlt,bs]
   by_cases he:xs[k]=n
   ·have hm:n∈xs:=by rw[←he];exact List.getElem_mem _
    have:(xs[k]==n)=true:=by simp[he]
    simp only[this,cT]
    unfold into;rw[if_pos hm]
   ·have:(xs[k]==n)=false:=by simpa using he
    simp only[this,cF,hrest]
    unfold into
    rw[htk,hdk,if_neg]
    intro hm
    obtain⟨j,hj,e⟩:=List.getElem_of_mem hm
    have hst:decide (xs[k]<n)=false:=by
     have:=CK (λx=>decide (x<n)) xs (by omega)
     simp only[hk] at this;exact this
    simp at hst
    rcases Nat.lt_trichotomy j k with h1|h1|h1
    ·have:=Cx (λx=>decide (x<n)) xs j (by omega) hj
     simp at this;omega
    ·subst h1;exact he e
    ·have:=(List.pairwise_iff_getElem.1 h) k j hlt hj h1
     omega
  ·obtain rfl:k=xs.length:=by omega
   simp only[Bb,cF,bs,hrest]
   unfold into
   rw[htk,hdk,if_neg]
   intro hm
   obtain⟨j,hj,e⟩:=List.getElem_of_mem hm
   have:=Cx (λx=>decide (x<n)) xs j (by omega) hj
   simp at this;omega
end Go.Sx



namespace Go.Sx
structure DK (b:LI)(i:Int):Prop where
 byte:∀x∈b,0≤x∧x≤255
 len:b.length≤4096
 i0:0≤i
 i1:i≤b.length
theorem tmod_rng {x n:Int}(hx:0≤x)(hn:0<n):0≤Int.tmod x n∧Int.tmod x n<n:=
 ⟨Int.tmod_nonneg _ hx,Int.tmod_lt_of_pos _ hn⟩
theorem l1Empty_eq (n:Nat)(hn:n≤16):D.e (n:Int)=some (List.replicate n []):=by
 unfold D.e
 refine(BZ (λi=>((i:Int),List.replicate i [])) n (List.replicate n []) (by simp) (λi hi=> ?_) ?_).trans rfl
 ·simp only[dlt hi,cT,wq i]
  rw[AW (by simp;omega),bs,←List.replicate_succ']
 ·simp only[Bb,cF]
theorem row_set {g:LL}{u v:Nat}{r:LI}(hu:u<g.length):row (g.set u r) v=if v=u then r else row g v:=by
 unfold row
 by_cases h:v=u
 ·subst h;simp[hu]
 ·rw[if_neg h,List.getD_eq_getElem?_getD,List.getElem?_set_ne (λe=>h e.symm),←List.getD_eq_getElem?_getD]
theorem CO {g:LL}(hg:GOk g){u v:Nat}(hu:u<g.length)(hv:v<g.length)(huv:u≠v):
  ∃g',D.d g (u:Int) (v:Int)=some g'∧GOk g'∧g'.length=g.length∧∀a b,adj g' a b↔adj g a b∨(a=u∧b=v)∨(a=v∧b=u):=by
 have h16:=hg.n16
 have hru:=hg.rows u hu;have hrv:=hg.rows v hv
 have hlu:=hg.row_len hu;have hlv:=hg.row_len hv
 refine⟨(g.set u (into (row g u) v)).set v (into (row g v) u),?_,?_⟩
 ·unfold D.d
  have e1:row (g.set u (into (row g u) v)) v=row g v:=by rw[row_set hu,if_neg (Ne.symm huv)]
  simp only[BU hu,bs,l1Into_eq _ _ hru.1 (show (row g u).length≤4294967295 by omega),Int.toNat_natCast]
  rw[BU (show v<(g.set u (into (row g u) v)).length by simpa using hv),e1]
  simp only[bs,l1Into_eq _ _ hrv.1 (show (row g v).length≤4294967295 by omega)]
 ·have hrow:∀w,row ((g.set u (into (row g u) v)).set v (into (row g v) u)) w=if w=v then into (row g v) u else if w=u then into (row g u) v else row g w:=by
   intro w
   rw[row_set (by simpa using hv),row_set hu]
  have hadj:∀a b,adj ((g.set u (into (row g u) v)).set v (into (row g v) u)) a b↔adj g a b∨(a=u∧b=v)∨(a=v∧b=u):=by
   intro a b
   unfold adj
   rw[hrow]
   by_cases ha:a=v
   ·subst ha
    rw[if_pos rfl,mem_into]
    constructor
    ·rintro(h|h)
     ·exact .inr (.inr ⟨rfl,by omega⟩)
     ·exact .inl h
    ·rintro(h|⟨h,_⟩|⟨_,h⟩)
     ·exact .inr h
     ·exact absurd h.symm huv
     ·exact .inl (by omega)
   ·rw[if_neg ha]
    by_cases ha':a=u
    ·subst ha'
     rw[if_pos rfl,mem_into]
     constructor
     ·rintro(h|h)
      ·exact .inr (.inl ⟨rfl,by omega⟩)
      ·exact .inl h
     ·rintro(h|⟨_,h⟩|⟨h,_⟩)
      ·exact .inr h
      ·exact .inl (by omega)
      ·exact absurd h ha
    ·rw[if_neg ha']
     constructor
     ·exact .inl
     ·rintro(h|⟨h,_⟩|⟨h,_⟩)
      ·exact h
      ·exact absurd h ha'
      ·exact absurd h ha
  refine⟨⟨by simpa using hg.n1,by simpa using h16,λw hw=> ?_,λw hw=> ?_,λa b ha hab=> ?_⟩,by simp,hadj⟩
  ·simp only[List.length_set] at hw ⊢
   rw[hrow]
   split
   ·refine⟨hrv.1.into _,λx hx=> ?_⟩
    rcases mem_into.1 hx with rfl|hx
    ·omega
    ·exact hrv.2 x hx
   ·split
    ·refine⟨hru.1.into _,λx hx=> ?_⟩
     rcases mem_into.1 hx with rfl|hx
     ·omega
     ·exact hru.2 x hx
    ·exact hg.rows w hw
  ·simp only[List.length_set] at hw
   rw[hadj]
   rintro(h|⟨h1,h2⟩|⟨h1,h2⟩)
   ·exact hg.irr w hw h
   ·omega
   ·omega
  ·simp only[List.length_set] at ha
   rw[hadj] at hab ⊢
   rcases hab with h|h|h
   ·exact .inl (hg.sym a b ha h)
   ·exact .inr (.inr ⟨h.2,h.1⟩)
   ·exact .inr (.inl ⟨h.2,h.1⟩)
theorem GOk.empty {n:Nat}(h1:1≤n)(h16:n≤16):GOk (List.replicate n []):=by
 have hr:∀v,row (List.replicate n []) v=[]:=λv=>by
  unfold row
  rw[List.getD_eq_getElem?_getD,List.getElem?_replicate];split<;>rfl
 refine⟨by simpa using h1,by simpa using h16,λv _=> ?_,λv _=> ?_,λu v _ h=> ?_⟩
 ·rw[hr];exact⟨by simp[Inc],by simp⟩
 ·unfold adj;rw[hr];simp
 ·unfold adj at h;rw[hr] at h;simp at h
def Dv (n:Nat)(e:LI):Prop:=∃a b:Nat,e=[(a:Int),(b:Int)]∧a<b∧b<n
theorem setB_edge {n:Nat}{a b:Nat}(h:a<b)(hb:b<n):Cv [(a:Int),(b:Int)] n=true:=by
 rw[CJ]
 refine⟨by simp[Inc];omega,λx hx=> ?_⟩
 simp at hx
 rcases hx with rfl|rfl<;>omega
theorem GraphOf_ok (n:Nat)(edges:LL)(h1:1≤n)(h16:n≤16)(he:edges.length≤120)(hE:∀e∈edges,Dv n e):
  ∃g,D.E (n:Int) edges=some (g,true)∧GOk g∧g.length=n∧∀a b:Nat,adj g a b↔([(a:Int),(b:Int)]∈edges∧a<b)∨([(b:Int),(a:Int)]∈edges∧b<a):=by
 unfold D.E
 rw[DA]
 have e1:(decide ((1:Int)≤(n:Int))&&decide ((n:Int)≤16))=true:=by simp;omega
 have e2:decide ((120:Int)<(edges.length:Int))=false:=by simp;omega
 simp only[bs,e1,e2,Bool.not_true,Bool.or_false,cF,l1Empty_eq n h16]
 have key:∀(k i:Nat) (g:LL),i+k=edges.length→GOk g→g.length=n→(∀a b:Nat,adj g a b↔([(a:Int),(b:Int)]∈edges.take i∧a<b)∨([(b:Int),(a:Int)]∈edges.take i∧b<a))→
   ∃g',Ay (σ:=Int×LL) (ρ:=(LL) ⊕ ((LL)×Bool)) (fun(s_217:Int×LL)=>match s_217 with|(x_220,l_221)=>cond (decide (x_220<(edges.length:Int))) ((idx edges x_220).bind λe_319=>(cond ((e_319.length:Int) !=2) (some true) ((idx edges x_220).bind λe_356=>(D.K e_356 (n:Int)).bind λy_362=>some (!y_362))).bind λb_354=>cond b_354 (some (.inr (.inr (([]:LL),false)))) ((idx edges x_220).bind λe_375=>(idx e_375 0).bind λe_381=>(idx edges x_220).bind λe_387=>(idx e_387 1).bind λe_393=>(D.d l_221 e_381 e_393).bind λy_401=>some (.inl ((IntKind.i64.wrap (x_220+1)),y_401)))) (some (.inr (.inl l_221)))) ((i:Int),g)=some (.inl g')∧GOk g'∧g'.length=n∧(∀a b:Nat,adj g' a b↔([(a:Int),(b:Int)]∈edges∧a<b)∨([(b:Int),(a:Int)]∈edges∧b<a)):=by
  intro k
  induction k with
  |zero=>
   intro i g hi hg hl ha
   obtain rfl:i=edges.length:=by omega
   rw[List.take_length] at ha
   exact⟨g,Bp (by simp only[Bb,cF]),hg,hl,ha⟩
  |succ k ih=>
   intro i g hi hg hl ha
   have hil:i<edges.length:=by omega
   obtain⟨a,b,eab,hab,hbn⟩:=hE _ (List.getElem_mem hil)
   obtain⟨g',k1,k2,k3,k4⟩:=CO hg (u:=a) (v:=b) (by omega) (by omega) (by omega)
   obtain⟨g'',m1,m2⟩:=ih (i+1) g' (by omega) k2 (by omega) (λc d=>by
    rw[k4,ha,List.take_succ_eq_append_getElem hil]
    simp only[List.mem_append,List.mem_singleton,eab,List.cons.injEq,and_true]
    constructor
    ·rintro((⟨h,h'⟩|⟨h,h'⟩)|⟨rfl,rfl⟩|⟨rfl,rfl⟩)
     ·exact .inl ⟨.inl h,h'⟩
     ·exact .inr ⟨.inl h,h'⟩
     ·exact .inl ⟨.inr ⟨rfl,rfl⟩,hab⟩
     ·exact .inr ⟨.inr ⟨rfl,rfl⟩,hab⟩
    ·rintro(⟨h|⟨h,h2⟩,h'⟩|⟨h|⟨h,h2⟩,h'⟩)
     ·exact .inl (.inl ⟨h,h'⟩)
     ·exact .inr (.inl ⟨by omega,by omega⟩)
     ·exact .inl (.inr ⟨h,h'⟩)
     ·exact .inr (.inr ⟨by omega,by omega⟩))
   refine⟨g'',?_,m2⟩
   rw[Bj (s':=(((i+1:Nat):Int),g'))]
   ·exact m1
   ·have h0:idx [(a:Int),(b:Int)] 0=some (a:Int):=rfl
    have h1':idx [(a:Int),(b:Int)] 1=some (b:Int):=rfl
    have hlen:((([(a:Int),(b:Int)]).length:Int) !=2)=false:=rfl
    simp only[dlt hil,cT,AS hil,eab,bs,hlen,cF,l1Set_eq [(a:Int),(b:Int)] n (by simp[Sh]) (by omega) (by omega),setB_edge hab hbn,Bool.not_true,h0,h1',k1,wq i]
 obtain⟨g',m1,m2,m3,m4⟩:=key edges.length 0 (List.replicate n []) (by omega) (GOk.empty h1 h16) (by simp) (λa b=>by
  unfold adj row
  rw[List.getD_eq_getElem?_getD,List.getElem?_replicate]
  split<;>simp)
 refine⟨g',?_,m2,m3,m4⟩
 rw[show ((0:Nat):Int)=0 from rfl] at m1
 rw[m1];rfl
open Go
abbrev byt (s:ByteArray):List UInt8:=s.data.toList
abbrev tx (l:List UInt8):ByteArray:=⟨l.toArray⟩
theorem Bf (l:List UInt8):byt (tx l)=l:=rfl
theorem Dm (s:ByteArray):tx (byt s)=s:=by
 cases s;simp[tx,byt]
theorem Eg {a b:ByteArray}(h:byt a=byt b):a=b:=by rw[←Dm a,←Dm b,h]
theorem A8 (s:ByteArray):s.size=(byt s).length:=(Array.length_toList (xs:=s.data)).symm
theorem size_tx (l:List UInt8):(tx l).size=l.length:=A8 (tx l)
theorem Cj {s:ByteArray}{i:Nat}(h:i<(byt s).length):Bn s (i:Int)=some (((byt s)[i]).toNat:Int):=by
 have hs:i<s.size:=by rw[A8];exact h
 unfold Bn
 rw[if_pos (by omega)]
 have:s[((i:Int)).toNat]? =some s[i]:=by
  rw[Int.toNat_natCast]
  exact getElem?_pos s i hs
 rw[this]
 rfl
theorem byt_append (a b:ByteArray):byt (a++b)=byt a++byt b:=by
 show (a++b).data.toList=_
 rw[ByteArray.data_append,Array.toList_append]
theorem sAdd_ok {a b:ByteArray}(h:(byt a).length+(byt b).length≤9223372036854775807):BG a b=some (tx (byt a++byt b)):=by
 unfold BG
 rw[if_pos (by rw[A8,A8];exact h)]
 exact congrArg some (Eg (by rw[byt_append]))
theorem BY {x y:List UInt8}(h:x.length+y.length≤9223372036854775807):BG (tx x) (tx y)=some (tx (x++y)):=sAdd_ok h
theorem BN (a b:ByteArray):sEq a b=decide (byt a=byt b):=by
 unfold sEq
 rw[ByteArray.toList_eq,ByteArray.toList_eq,Bool.eq_iff_iff]
 simp
theorem DP {s:ByteArray}{i j:Nat}(h1:i≤j)(h2:j≤(byt s).length):sPart s (i:Int) (j:Int)=some (tx (((byt s).take j).drop i)):=by
 unfold sPart
 rw[if_pos ⟨by omega,by omega,by rw[A8];omega⟩]
 refine congrArg some (Eg ?_)
 show (s.extract i j).data.toList=_
 rw[ByteArray.data_extract]
 simp[Array.toList_extract,List.extract_eq_take_drop,List.drop_take]
theorem l1Split_ok {s:ByteArray}(hs:(byt s).length≤1048576)(c:UInt8):∃w,D.s s (c.toNat:Int)=some w∧w.map byt=spl c (byt s):=by
 unfold D.s
 refine BT (λt=>∃i:Nat,t.2.2=(i:Int)∧((∃f:Nat,t.2.1=(f:Int)∧f≤i∧i≤(byt s).length∧c∉((byt s).take i).drop f∧t.1.map byt++spl c ((byt s).drop f)=spl c (byt s)∧t.1.length≤f)∨i=(byt s).length+1∧t.1.map byt=spl c (byt s)))
  (λt=>(byt s).length+1-t.2.2.toNat) (λr=>r.map byt=spl c (byt s)) ?_ ⟨0,rfl,.inl ⟨0,rfl,Nat.le_refl _,Nat.zero_le _,by simp,by simp,Nat.zero_le _⟩⟩ (λr hr=>⟨_,rfl,hr⟩)
 rintro⟨l,fz,_⟩ ⟨i,rfl,h⟩
 rcases h with⟨f,rfl,h1,h2,h3,h4,h5⟩|⟨rfl,h4⟩
 ·dsimp only at h3 h4 h5 ⊢
  have hsz:(s.size:Int)=((byt s).length:Int):=by rw[A8]
  rw[hsz]
  have d1:decide ((i:Int)≤((byt s).length:Int))=true:=by simp;omega
  simp only[d1,cT,wq i]
  by_cases hi:i=(byt s).length
  ·subst hi
   have e1:(((byt s).length:Int)==((byt s).length:Int))=true:=by simp
   rw[List.take_length] at h3
   simp only[e1,cT,bs,DP h1 (Nat.le_refl _)]
   rw[AW (by simp;omega),bs]
   refine⟨_,rfl,⟨(byt s).length+1,rfl,.inr ⟨rfl,?_⟩⟩,by dsimp only;omega⟩
   rw[←h4,spl_no h3,List.map_append,List.take_length]
   rfl
  ·have hil:i<(byt s).length:=by omega
   have e1:((i:Int)==((byt s).length:Int))=false:=by simp;omega
   simp only[e1,cF,Cj hil,bs]
   have hd:(byt s).drop f=((byt s).take i).drop f++(byt s)[i]::(byt s).drop (i+1):=by
    rw[←List.drop_eq_getElem_cons hil]
    conv=>lhs;rw[←List.take_append_drop i (byt s)]
    rw[List.drop_append_of_le_length (by simp;omega)]
   by_cases hc:(byt s)[i]=c
   ·have e2:((((byt s)[i]).toNat:Int)==(c.toNat:Int))=true:=by simp[hc]
    simp only[e2,cT,DP h1 h2,bs]
    rw[AW (by simp;omega),bs]
    refine⟨_,rfl,⟨i+1,rfl,.inl ⟨i+1,rfl,Nat.le_refl _,by omega,by simp,?_,by simp;omega⟩⟩,by dsimp only;omega⟩
    rw[←h4,hd,hc,Dr h3,List.map_append]
    simp[Bf]
   ·have e2:((((byt s)[i]).toNat:Int)==(c.toNat:Int))=false:=by
     simp only[beq_eq_false_iff_ne,ne_eq]
     intro e
     exact hc (UInt8.toNat_inj.1 (by omega))
    simp only[e2,cF]
    refine⟨_,rfl,⟨i+1,rfl,.inl ⟨f,rfl,by omega,by omega,?_,h4,h5⟩⟩,by dsimp only;omega⟩
    rw[List.take_succ_eq_append_getElem hil,List.drop_append_of_le_length (by simp;omega)]
    simp only[List.mem_append,List.mem_singleton,not_or]
    exact⟨h3,λe=>hc e.symm⟩
 ·dsimp only at h4 ⊢
  have d1:decide ((((byt s).length+1:Nat):Int)≤(s.size:Int))=false:=by rw[A8];simp;omega
  simp only[d1,cF]
  exact⟨_,rfl,h4⟩
theorem D1 (s:ByteArray):∃y,D.k s=some y:=by
 have hsz:(s.size:Int)=((byt s).length:Int):=by rw[A8]
 unfold D.k
 rw[hsz]
 by_cases h:((decide (((byt s).length:Int)<1))||(decide ((9:Int)<((byt s).length:Int))))=true
 ·rw[h];exact⟨_,rfl⟩
 ·rw[Bool.not_eq_true] at h
  rw[h,cF]
  simp only[Bool.or_eq_false_iff,decide_eq_false_iff_not] at h
  have h0:Bn s 0=some (((byt s)[0]'(by omega)).toNat:Int):=Cj (i:=0) (by omega)
  rw[h0,bs,bs]
  cases (((((byt s)[0]'(by omega)).toNat:Int)==48)&&(decide ((1:Int)<((byt s).length:Int))))
  ·rw[cF]
   obtain⟨y,e,_⟩:=BT (k:=λzz:Int ⊕ (Int×Bool)=>match zz with| .inl x_90=>(some (x_90,true))| .inr z=>(some z)) (Q:=λ_=>True)
    (step:=(fun(s_66:Int×Int)=>match s_66 with|(x_69,x_70)=>cond (decide (x_70<((byt s).length:Int))) ((Bn s x_70).bind λe_93=>(cond (decide (e_93<48)) (some true) ((Bn s x_70).bind λe_104=>some (decide ((57:Int)<e_104)))).bind λb_102=>cond b_102 (some (.inr (.inr (0,false)))) ((Bn s x_70).bind λe_107=>some (.inl ((IntKind.i64.wrap ((IntKind.i64.wrap (x_69*10))+(IntKind.i64.wrap (IntKind.u8.wrap (e_107-48))))),(IntKind.i64.wrap (x_70+1)))))) (some (.inr (.inl x_69))))) (s:=(0,0))
    (λt=>∃i:Nat,t.2=(i:Int)∧i≤(byt s).length) (λt=>(byt s).length-t.2.toNat) (λ_=>True) (by
     rintro⟨x,_⟩ ⟨i,rfl,hi⟩
     dsimp only
     by_cases hil:i<(byt s).length
     ·simp only[dlt hil,cT,Cj hil,bs,wq i]
      have hb:∃b,(cond (decide ((((byt s)[i]).toNat:Int)<48)) (some true) (some (decide ((57:Int)<(((byt s)[i]).toNat:Int)))))=some b:=by
       cases decide ((((byt s)[i]).toNat:Int)<48)
       ·exact⟨_,rfl⟩
       ·exact⟨_,rfl⟩
      obtain⟨b,eb⟩:=hb
      rw[eb,bs]
      cases b
      ·exact⟨_,rfl,⟨i+1,rfl,by omega⟩,by dsimp only;omega⟩
      ·exact⟨_,rfl,trivial⟩
     ·obtain rfl:i=(byt s).length:=by omega
      simp only[Bb,cF]
      exact⟨_,rfl,trivial⟩) ⟨0,rfl,Nat.zero_le _⟩ (λr _=>by cases r<;>exact⟨_,rfl,trivial⟩)
   exact⟨y,e⟩
  ·exact⟨_,rfl⟩
theorem CW (s:ByteArray):∃y,D.j s=some y:=by
 have hsz:(s.size:Int)=((byt s).length:Int):=by rw[A8]
 unfold D.j
 by_cases h:((decide ((s.size:Int)<1))||(decide ((9:Int)<(s.size:Int))))=true
 ·rw[h];exact⟨_,rfl⟩
 ·rw[Bool.not_eq_true] at h
  rw[h,cF]
  simp only[Bool.or_eq_false_iff,decide_eq_false_iff_not] at h
  unfold D.i
  rw[if_pos ⟨rfl,rfl,by omega⟩,bs]
  cases hp:Lib.parseIntB 64 s.data.toList with
  |ok v=>
   have hb:=Lib.parseIntB_bounds hp
   dsimp only
   rw[cF]
   unfold D.f
   rw[if_pos ⟨rfl,by have:=hb.1;simp at this;omega,by have:=hb.2;simp at this;omega⟩,bs,bs]
   cases sEq (tx (Lib.itoa v)) s
   ·exact⟨_,rfl⟩
   ·exact⟨_,rfl⟩
  |«syntax»=>exact⟨_,rfl⟩
  |range=>exact⟨_,rfl⟩
end Go.Sx

namespace Go.Sx
end Go.Sx



namespace Go.Sx
theorem ext_getD {a b:LI}(hl:a.length=b.length)(h:∀j,j<a.length→a.getD j 0=b.getD j 0):a=b:=by
 apply List.ext_getElem hl
 intro j h1 h2
 have:=h j h1
 rwa [Ba h1,Ba h2] at this
def nb (F : LI) (u w : Nat) : Bool := has (F.getD u 0) w
structure FOk (F : LI) (n : Nat) : Prop where
  len : F.length = n
  vs : ∀ u, u < n → VS (F.getD u 0)
  lt : ∀ u w, u < n → nb F u w = true → w < n
  irr : ∀ u, u < n → nb F u u = false
  sym : ∀ u w, u < n → nb F u w = true → nb F w u = true
theorem FOk.ext {F F':LI}{n:Nat}(h:F.length=n)(h':F'.length=n)(v:∀u,u<n→VS (F.getD u 0))(v':∀u,u<n→VS (F'.getD u 0))(e:∀u w,u<n→nb F u w=nb F' u w):F=F':=by
 refine ext_getD (by omega) (λj hj=> ?_)
 exact(v j (by omega)).ext (v' j (by omega)) (λw _=>e j w (by omega))
theorem Er (g:LL)(u:Nat):(g.map mk).getD u 0=mk (row g u):=by
 unfold row
 simp only[List.getD_eq_getElem?_getD,List.getElem?_map]
 cases g[u]? with
 |none=>simp[mk]
 |some r=>rfl
theorem Dd {g:LL}(hg:GOk g){u w:Nat}(hu:u<g.length):nb (g.map mk) u w=true↔adj g u w:=by
 have h16:=hg.n16
 unfold nb
 rw[Er,has_mk (λx hx=>by have:=(hg.rows u hu).2 x hx;omega)]
 simp[adj]
theorem FOk.of {g:LL}(hg:GOk g):FOk (g.map Sx.mk) g.length:=by
 refine⟨by simp,λu _=>by rw[Er];exact VS.mk _,λu w hu h=>hg.lt hu ((Dd hg hu).1 h),λu hu=> ?_,λu w hu h=> ?_⟩
 ·cases h:nb (g.map Sx.mk) u u
  ·rfl
  ·exact absurd ((Dd hg hu).1 h) (hg.irr u hu)
 ·have ha:=(Dd hg hu).1 h
  exact(Dd hg (hg.lt hu ha)).2 (hg.sym u w hu ha)
def grow (F:LI):LL:=F.map Bc
theorem row_grow (F:LI)(u:Nat):row (grow F) u=Bc (F.getD u 0):=by
 unfold row grow
 simp only[List.getD_eq_getElem?_getD,List.getElem?_map]
 cases F[u]? with
 |none=>simp[elems_zero]
 |some r=>rfl
theorem DF {F:LI}{n u w:Nat}(h:FOk F n)(hu:u<n):adj (grow F) u w↔nb F u w=true:=by
 unfold adj nb
 rw[row_grow,mem_elems_nat (h.vs u hu)]
theorem GOk.grow {F:LI}{n:Nat}(h:FOk F n)(h1:1≤n)(h16:n≤16):GOk (grow F):=by
 have hl:(Sx.grow F).length=n:=by unfold Sx.grow;rw[List.length_map,h.len]
 refine⟨by omega,by omega,λv hv=> ?_,λv hv ha=> ?_,λu v hu ha=> ?_⟩
 ·rw[row_grow,hl]
  refine⟨Dh _,λx hx=> ?_⟩
  obtain⟨w,_,h2,rfl⟩:=mem_elems.1 hx
  have:=h.lt v w (by omega) h2
  omega
 ·rw[DF h (by omega)] at ha
  rw[h.irr v (by omega)] at ha;cases ha
 ·rw[DF h (by omega)] at ha
  have:=h.lt u v (by omega) ha
  rw[DF h (by omega)]
  exact h.sym u v (by omega) ha
def PEO (F : LI) (o : LI) : Prop := ∀ (j : Nat) (v u w : Nat), o[j]? = some (v : Int) → nb F v u = true → nb F v w = true → (u : Int) ∉ o.take (j + 1) → (w : Int) ∉ o.take (j + 1) → u ≠ w → nb F u w = true
def Lat (F L : LI) (o : LI) (i : Nat) : Prop := ∀ (j : Nat) (v : Nat), j < i → o[j]? = some (v : Int) → ∀ w, nb L v w = (nb F v w && decide ((w : Int) ∉ o.take (j + 1)))
inductive Via (F : LI) (gone : Nat → Prop) (u : Nat) : Nat → Prop
  | me : Via F gone u u
  | step {x y : Nat} : Via F gone u x → nb F x y = true → gone y → Via F gone u y
def Bhd (F : LI) (gone : Nat → Prop) (v w : Nat) : Prop := ∃ x, Via F gone v x ∧ nb F x w = true
theorem nodup_le :∀{l m:LI},l.Nodup→(∀x∈l,x∈m)→l.length≤m.length
 |[],_,_,_=>by simp
 |x::l,m,h,hs=>by
  have h':=List.nodup_cons.1 h
  have hx:=hs x (by simp)
  have:=nodup_le (l:=l) (m:=m.erase x) h'.2 (λy hy=>by
   have hne:y≠x:=λe=>h'.1 (e▸hy)
   exact(List.mem_erase_of_ne hne).2 (hs y (by simp[hy])))
  rw[List.length_erase_of_mem hx] at this
  have hp:0<m.length:=List.length_pos_of_mem hx
  simp;omega
theorem Inc.nodup {l:LI}(h:Inc l):l.Nodup:=List.Pairwise.imp (λh e=>by omega) h
def withV (bags : LL) (v : Int) : LI := ((List.range bags.length).filter fun b => decide (v ∈ bags.getD b [])).map Int.ofNat
def Lk (links : LL) (x y : Int) : Prop := [x, y] ∈ links ∨ [y, x] ∈ links
structure Closed (links : LL) (sel m : LI) : Prop where
  sub : ∀ x ∈ m, x ∈ sel
  first : ∀ x, sel.head? = some x → x ∈ m
  step : ∀ x ∈ m, ∀ y ∈ sel, Lk links x y → y ∈ m
def Conn (links : LL) (sel : LI) : Prop := ∀ m, Closed links sel m → ∀ x ∈ sel, x ∈ m
def LinkIn (n : Nat) (l : LI) : Prop := ∃ a b : Nat, l = [(a : Int), (b : Int)] ∧ a < b ∧ b < n
def rowF (r:LI)(u:Nat)(s:LL):LL:=(List.range r.length).foldl (λs i=>if(u:Int)<r.getD i 0 then s++[[(u:Int),r.getD i 0]] else s) s
theorem Ep (r:LI)(u:Nat)(s0:LL)(h:s0.length+r.length≤4294967296){step:LL×Int→Option ((LL×Int) ⊕ LL)}
  (hstep:∀s (i:Nat) (hi:i<r.length),step (s,(i:Int))=cond (decide ((u:Int)<r[i])) ((AC s [[(u:Int),r[i]]]).bind λl=>some (.inl (l,((i+1:Nat):Int)))) (some (.inl (s,((i+1:Nat):Int)))))
  (hend:∀s,step (s,(r.length:Int))=some (.inr s)):Ay step (s0,0)=some (rowF r u s0)∧(rowF r u s0).length≤s0.length+r.length:=by
 have key:=loop_nat (step:=step) r.length (λs i=>(s,i)) (λs i=>if(u:Int)<r.getD i 0 then s++[[(u:Int),r.getD i 0]] else s) (λs=>s) (λi s=>s.length≤s0.length+i) s0 (by omega)
  (λs i hi hs=> ?_) (λs _=>hend s)
 ·exact key
 ·have hg:r.getD i 0=r[i]:=Ba hi 0
  refine⟨?_,?_⟩
  ·rw[hstep s i hi,hg]
   by_cases hc:(u:Int)<r[i]
   ·rw[decide_eq_true hc,cT,AW (by simp;omega),if_pos hc];rfl
   ·rw[decide_eq_false hc,cF,if_neg hc]
  ·rw[hg]
   split
   ·rw[List.length_append,List.length_singleton];omega
   ·omega
def AJ (g:LL):LL:=(List.range g.length).foldl (λs u=>rowF (row g u) u s) []
theorem EC (g:LL)(hg:GOk g):D.w0 g=some (AJ g):=by
 have h16:=hg.n16
 unfold D.w0
 have key:=loop_nat (ρ:=LL) (step:=(fun(s_288:LL×Int)=>match s_288 with|(l_291,x_296)=>cond (decide (x_296<(g.length:Int))) ((idx g x_296).bind λe_441=>(Ay (σ:=LL×Int) (ρ:=(LL)) (fun(s_508:LL×Int)=>match s_508 with|(l_511,x_516)=>cond (decide (x_516<(e_441.length:Int))) ((idx e_441 x_516).bind λe_551=>cond (decide (x_296<e_551)) ((AC l_511 ([([x_296,e_551]:LI)]:LL)).bind λl_569=>some (.inl (l_569,(IntKind.i64.wrap (x_516+1))))) (some (.inl (l_511,(IntKind.i64.wrap (x_516+1)))))) (some (.inr l_511))) (l_291,0)).bind λl_544=>some (.inl (l_544,(IntKind.i64.wrap (x_296+1))))) (some (.inr l_291))))
  g.length (λs i=>(s,i)) (λs u=>rowF (row g u) u s) (λs=>s) (λi s=>s.length≤16*i) [] (by simp) (λs u hu hs=> ?_) (λs _=> ?_)
 ·exact congrArg (λz=>Option.bind z λl=>some l) key.1
 ·have hr:=hg.row_len hu
  obtain⟨k1,k2⟩:=Ep (row g u) u s (by omega) (step:=(fun(s_508:LL×Int)=>match s_508 with|(l_511,x_516)=>cond (decide (x_516<((row g u).length:Int))) ((idx (row g u) x_516).bind λe_551=>cond (decide ((u:Int)<e_551)) ((AC l_511 ([([(u:Int),e_551]:LI)]:LL)).bind λl_569=>some (.inl (l_569,(IntKind.i64.wrap (x_516+1))))) (some (.inl (l_511,(IntKind.i64.wrap (x_516+1)))))) (some (.inr l_511)))) (λs i hi=>by
    simp only[dlt hi,cT,AS hi,bs,wq i]) (λs=>by simp only[Bb,cF])
  refine⟨?_,by omega⟩
  simp only[dlt hu,cT,BU hu,bs,wq u]
  exact(congrArg (λz=>Option.bind z _) k1).trans rfl
 ·simp only[Bb,cF]
theorem l1Edges_eq (g:LL)(hg:GOk g):D.u0 g=some (AJ g):=by
 have h16:=hg.n16
 unfold D.u0 D.g
 have key:=loop_nat (ρ:=LL) (step:=(fun(s_482:LL×Int)=>match s_482 with|(l_485,x_490)=>(some (g.length:Int)).bind λy_731=>cond (decide (x_490<y_731)) ((Ay (σ:=LL×Int) (ρ:=(LL)) (fun(s_848:LL×Int)=>match s_848 with|(l_851,x_856)=>(idx g x_490).bind λe_914=>cond (decide (x_856<(e_914.length:Int))) ((idx g x_490).bind λe_921=>(idx e_921 x_856).bind λe_927=>cond (decide (x_490<e_927)) ((idx g x_490).bind λe_934=>(idx e_934 x_856).bind λe_940=>(AC l_851 ([([x_490,e_940]:LI)]:LL)).bind λl_957=>some (.inl (l_957,(IntKind.i64.wrap (x_856+1))))) (some (.inl (l_851,(IntKind.i64.wrap (x_856+1)))))) (some (.inr l_851))) (l_485,0)).bind λl_908=>some (.inl (l_908,(IntKind.i64.wrap (x_490+1))))) (some (.inr l_485))))
  g.length (λs i=>(s,i)) (λs u=>rowF (row g u) u s) (λs=>s) (λi s=>s.length≤16*i) [] (by simp) (λs u hu hs=> ?_) (λs _=> ?_)
 ·exact congrArg (λz=>Option.bind z λl=>some l) key.1
 ·have hr:=hg.row_len hu
  obtain⟨k1,k2⟩:=Ep (row g u) u s (by omega) (step:=(fun(s_848:LL×Int)=>match s_848 with|(l_851,x_856)=>(idx g (u:Int)).bind λe_914=>cond (decide (x_856<(e_914.length:Int))) ((idx g (u:Int)).bind λe_921=>(idx e_921 x_856).bind λe_927=>cond (decide ((u:Int)<e_927)) ((idx g (u:Int)).bind λe_934=>(idx e_934 x_856).bind λe_940=>(AC l_851 ([([(u:Int),e_940]:LI)]:LL)).bind λl_957=>some (.inl (l_957,(IntKind.i64.wrap (x_856+1))))) (some (.inl (l_851,(IntKind.i64.wrap (x_856+1)))))) (some (.inr l_851)))) (λs i hi=>by
    simp only[BU hu,dlt hi,cT,AS hi,bs,wq i]) (λs=>by simp only[BU hu,bs,Bb,cF])
  refine⟨?_,by omega⟩
  simp only[bs,dlt hu,cT,wq u]
  exact(congrArg (λz=>Option.bind z _) k1).trans rfl
 ·simp only[bs,Bb,cF]
theorem GOk.sh2 {g:LL}(hg:GOk g):Sh2 g:=by
 have h16:=hg.n16
 exact⟨by unfold Sh;omega,λr hr=>by have:=(hg.mem0 hr).1;unfold Sh;omega⟩
theorem Eb {g:LL}(hg:GOk g):gB g=true:=(Ci g).2 hg
theorem nets_graph_eq (F:LI)(h:F.length≤16)(hV:∀u,u<F.length→VS (F.getD u 0)):D.C F=some (grow F):=by
 unfold D.C
 refine(Db F (λs i=>(i,s)) Bc (by omega) (λs i hi _=> ?_) (λs=> ?_)).trans rfl
 ·have:=hV i hi
  rw[Ba hi] at this
  simp only[dlt hi,cT,AS hi,bs,numbers_eq _ this,wq i]
 ·simp only[Bb,cF]
theorem grow_len (F:LI):(grow F).length=F.length:=by simp[grow]
theorem l1Edge_eq (g:LL)(hg:GOk g){u:Nat}(hu:u<g.length)(w:Int):D.m g (u:Int) w=some (decide (w∈row g u)):=by
 unfold D.m
 rw[BU hu,bs,l1Has_eq _ _ (hg.sh2.row hu)];rfl
def Bk (f:Nat→Nat):Nat→Nat
 |0=>0
 |n+1=>Bk f n+f n
theorem BJ {f g:Nat→Nat}:∀{n:Nat},(∀i,i<n→f i=g i)→Bk f n=Bk g n
 |0,_=>rfl
 |n+1,h=>by simp only[Bk];rw[BJ (n:=n) (λi hi=>h i (by omega)),h n (by omega)]
theorem DJ (f g:Nat→Nat):∀n,Bk (λi=>f i+g i) n=Bk f n+Bk g n
 |0=>rfl
 |n+1=>by simp only[Bk];rw[DJ f g n];omega
theorem sumN_zero :∀n,Bk (λ_=>0) n=0
 |0=>rfl
 |n+1=>by simp only[Bk];rw[sumN_zero n]
theorem sumN_swap (f:Nat→Nat→Nat)(m:Nat):∀n,Bk (λi=>Bk (f i) m) n=Bk (λj=>Bk (λi=>f i j) n) m
 |0=>by simp only[Bk];rw[sumN_zero]
 |n+1=>by simp only[Bk];rw[sumN_swap f m n,←DJ]
def bit (b:Bool):Nat:=if b then 1 else 0
theorem DE (p:Nat→Bool):∀n,((List.range n).filter p).length=Bk (λi=>bit (p i)) n
 |0=>rfl
 |n+1=>by
  rw[List.range_succ,List.filter_append,List.length_append,DE p n]
  simp only[Bk,bit]
  cases h:p n<;>simp[h]
theorem sumN_tail {f : Nat → Nat} {n m : Nat} (h : n ≤ m) (hz : ∀ i, n ≤ i → f i = 0) : Bk f m = Bk f n := by
  induction m with
  | zero => obtain rfl : n = 0 := by omega
            rfl
  | succ m ih =>
    by_cases hm : n = m + 1
    · rw [hm]
    · simp only [Bk]; rw [ih (by omega), hz m (by omega)]; rfl
theorem elems_sum {s:Int}{n:Nat}(hn:n≤32)(h:∀v,has s v=true→v<n):(Bc s).length=Bk (λv=>bit (has s v)) n:=by
 unfold Bc
 rw[List.length_map,DE]
 refine sumN_tail hn (λi hi=> ?_)
 unfold bit
 cases hc:has s i
 ·rfl
 ·have:=h i hc;omega
def S2 (n:Nat)(p:Nat→Nat→Bool):Nat:=Bk (λu=>Bk (λw=>bit (p u w)) n) n
theorem S2_congr {n:Nat}{p q:Nat→Nat→Bool}(h:∀u w,u<n→w<n→p u w=q u w):S2 n p=S2 n q:=
 BJ λu hu=>BJ λw hw=>by rw[h u w hu hw]
theorem S2_swap (n:Nat)(p:Nat→Nat→Bool):S2 n p=S2 n (λu w=>p w u):=by
 unfold S2
 rw[sumN_swap]
theorem S2_or (n:Nat)(p q:Nat→Nat→Bool)(h:∀u w,u<n→w<n→p u w=true→q u w=true→False):S2 n (λu w=>p u w||q u w)=S2 n p+S2 n q:=by
 unfold S2
 rw[←DJ]
 refine BJ λu hu=> ?_
 rw[←DJ]
 refine BJ λw hw=> ?_
 have:=h u w hu hw
 unfold bit
 cases h1:p u w<;>cases h2:q u w<;>simp_all
theorem S2_half {n:Nat}{A:Nat→Nat→Bool}{lt:Nat→Nat→Bool}(hs:∀u w,u<n→w<n→A u w=A w u)(h1:∀u w,u<n→w<n→A u w=true→(lt u w=true∨lt w u=true))(h2:∀u w,u<n→w<n→lt u w=true→lt w u=true→False):
  S2 n A=2*S2 n (λu w=>A u w&&lt u w):=by
 have e1:S2 n A=S2 n (λu w=>(A u w&&lt u w)||(A u w&&lt w u)):=S2_congr λu w hu hw=>by
  have:=h1 u w hu hw
  cases ha:A u w
  ·simp
  ·rcases this ha with h|h<;>simp[h]
 have e2:S2 n (λu w=>A u w&&lt w u)=S2 n (λu w=>A u w&&lt u w):=by
  rw[S2_swap]
  exact S2_congr λu w hu hw=>by rw[hs u w hu hw]
 rw[e1,S2_or,e2]
 ·omega
 ·intro u w hu hw h3 h4
  simp only[Bool.and_eq_true] at h3 h4
  exact h2 u w hu hw h3.2 h4.2
theorem rowF_len (r:LI)(u:Nat)(s:LL):(rowF r u s).length=s.length+(r.filter λx=>decide ((u:Int)<x)).length:=by
 unfold rowF
 have key:∀i,i≤r.length→((List.range i).foldl (λs i=>if(u:Int)<r.getD i 0 then s++[[(u:Int),r.getD i 0]] else s) s).length=s.length+((r.take i).filter λx=>decide ((u:Int)<x)).length:=by
  intro i
  induction i with
  |zero=>intro _;simp
  |succ i ih=>
   intro hi
   have hi':i<r.length:=by omega
   rw[List.range_succ,List.foldl_append,List.foldl_cons,List.foldl_nil,List.take_succ_eq_append_getElem hi',List.filter_append,List.length_append,←Nat.add_assoc,←ih (by omega),Ba hi']
   by_cases hc:(u:Int)<r[i]<;>simp[hc]
 have:=key r.length (Nat.le_refl _)
 rwa [List.take_length] at this
theorem edgesF_len (g:LL):(AJ g).length=Bk (λu=>((row g u).filter λx=>decide ((u:Int)<x)).length) g.length:=by
 unfold AJ
 have key:∀n,((List.range n).foldl (λs u=>rowF (row g u) u s) []).length=Bk (λu=>((row g u).filter λx=>decide ((u:Int)<x)).length) n:=by
  intro n
  induction n with
  |zero=>rfl
  |succ n ih=>rw[List.range_succ,List.foldl_append,List.foldl_cons,List.foldl_nil,rowF_len,ih];rfl
 exact key _
theorem Ex {s:Int}{n:Nat}(hn:n≤32)(h:∀v,has s v=true→v<n)(p:Int→Bool):((Bc s).filter p).length=Bk (λv=>bit (has s v&&p (v:Int))) n:=by
 unfold Bc
 rw[List.filter_map,List.length_map,List.filter_filter,DE]
 have e:Bk (λi=>bit ((p∘Int.ofNat) i&&has s i)) 32=Bk (λv=>bit (has s v&&p (v:Int))) 32:=BJ λi _=>by
  rw[Bool.and_comm];rfl
 rw[e]
 refine sumN_tail hn (λi hi=> ?_)
 cases hc:has s i
 ·rfl
 ·have:=h i hc;omega
def full (n : Nat) : Int := IntKind.u32.wrap (ishl .u32 1 (n : Int) - 1)
theorem Ei (x:LI)(h:Sh x):D.t0 x x=some true:=by
 unfold Sh at h
 unfold D.t0
 have e:((x.length:Int) !=(x.length:Int))=false:=by simp
 rw[e,cF]
 refine(CE x.length (λ_=>true) false (λi hi=> ?_) ?_ rfl rfl).trans (by simp)
 ·simp only[dlt hi,cT,AS hi,bs,wi' hi (by omega)]
  simp
 ·simp only[Bb,cF]
theorem EqualFunc_self (g:LL)(h:Sh2 g):D.h0 g g=some true:=by
 have hl:g.length≤4294967296:=h.1
 unfold D.h0
 have e:((g.length:Int) !=(g.length:Int))=false:=by simp
 rw[e,cF]
 refine(CE g.length (λ_=>true) false (λi hi=> ?_) ?_ rfl rfl).trans (by simp)
 ·simp only[dlt hi,cT,AS hi,bs,wi' hi (by omega),Ei _ (h.2 _ (List.getElem_mem hi)),Bool.not_true,cF,if_true]
 ·simp only[Bb,cF]
theorem SameGraph_self {g:LL}(hg:GOk g):D.U g g=some true:=by
 unfold D.U
 rw[Cg g hg.sh2,Eb hg]
 simp only[bs,cT,EqualFunc_self g hg.sh2]
section
variable {g : LL} {o : LI} (hg : GOk g) (ho : OOk g o)
include hg ho
def mx (f:Nat→Int):Nat→Int
 |0=>0
 |n+1=>max (mx f n) (f n)
end
end Go.Sx

namespace Go.Sx
def dg (g:LL)(s:Int)(v:Int):Int:=((Bc (iand .u32 (mk (row g v.toNat)) s)).length:Int)
theorem graph_ext {g g':LL}(hg:GOk g)(hg':GOk g')(hl:g.length=g'.length)(h:∀a b:Nat,a<g.length→(adj g a b↔adj g' a b)):g=g':=by
 apply List.ext_getElem hl
 intro i h1 h2
 rw[←C8 h1,←C8 h2]
 refine Inc.ext (hg.rows i h1).1 (hg'.rows i h2).1 (λx=> ?_)
 constructor
 ·intro hx
  obtain⟨w,rfl,_,ha⟩:=hg.mem h1 hx
  exact(h i w h1).1 ha
 ·intro hx
  obtain⟨w,rfl,_,ha⟩:=hg'.mem h2 hx
  exact(h i w h1).2 ha
theorem grow_of {g:LL}(hg:GOk g):grow (g.map mk)=g:=by
 have hf:=FOk.of hg
 refine graph_ext (GOk.grow hf hg.n1 hg.n16) hg (by rw[grow_len,hf.len]) (λa b ha=> ?_)
 rw[grow_len,hf.len] at ha
 rw[DF hf ha,Dd hg ha]
theorem D6 {α:Type}(p:Nat→Bool)(f:Nat→α)(s0:List α)(x:α):∀n,x∈(List.range n).foldl (λs i=>if p i then s++[f i] else s) s0↔x∈s0∨∃i,i<n∧p i=true∧x=f i
 |0=>by simp
 |n+1=>by
  rw[List.range_succ,List.foldl_append,List.foldl_cons,List.foldl_nil]
  have ih:=D6 p f s0 x n
  by_cases hp:p n=true
  ·rw[if_pos hp,List.mem_append,ih]
   constructor
   ·rintro((h|⟨i,h1,h2⟩)|h)
    ·exact .inl h
    ·exact .inr ⟨i,by omega,h2⟩
    ·simp at h;exact .inr ⟨n,by omega,hp,h⟩
   ·rintro(h|⟨i,h1,h2,h3⟩)
    ·exact .inl (.inl h)
    ·by_cases e:i=n
     ·subst e;exact .inr (by simp[h3])
     ·exact .inl (.inr ⟨i,by omega,h2,h3⟩)
  ·rw[if_neg hp,ih]
   constructor
   ·rintro(h|⟨i,h1,h2⟩)
    ·exact .inl h
    ·exact .inr ⟨i,by omega,h2⟩
   ·rintro(h|⟨i,h1,h2,h3⟩)
    ·exact .inl h
    ·by_cases e:i=n
     ·subst e;exact absurd h2 hp
     ·exact .inr ⟨i,by omega,h2,h3⟩
theorem mem_rowF (r:LI)(u:Nat)(s:LL)(x:LI):x∈rowF r u s↔x∈s∨∃v∈r,(u:Int)<v∧x=[(u:Int),v]:=by
 unfold rowF
 have:=D6 (λi=>decide ((u:Int)<r.getD i 0)) (λi=>[(u:Int),r.getD i 0]) s x r.length
 simp only[decide_eq_true_eq] at this
 rw[this]
 constructor
 ·rintro(h|⟨i,h1,h2,h3⟩)
  ·exact .inl h
  ·rw[Ba h1] at h2 h3
   exact .inr ⟨r[i],List.getElem_mem h1,h2,h3⟩
 ·rintro(h|⟨v,h1,h2,h3⟩)
  ·exact .inl h
  ·obtain⟨i,hi,rfl⟩:=List.getElem_of_mem h1
   exact .inr ⟨i,hi,by rw[Ba hi];exact h2,by rw[Ba hi];exact h3⟩
theorem B9 {g:LL}(hg:GOk g)(x:LI):x∈AJ g↔∃u v:Nat,u<g.length∧adj g u v∧u<v∧x=[(u:Int),(v:Int)]:=by
 have key:∀n,n≤g.length→(x∈(List.range n).foldl (λs u=>rowF (row g u) u s) []↔∃u v:Nat,u<n∧adj g u v∧u<v∧x=[(u:Int),(v:Int)]):=by
  intro n
  induction n with
  |zero=>intro _;simp
  |succ n ih=>
   intro hn
   rw[List.range_succ,List.foldl_append,List.foldl_cons,List.foldl_nil,mem_rowF,ih (by omega)]
   constructor
   ·rintro(⟨u,v,h1,h2⟩|⟨v,h1,h2,h3⟩)
    ·exact⟨u,v,by omega,h2⟩
    ·obtain⟨w,rfl,hw,ha⟩:=hg.mem (by omega) h1
     exact⟨n,w,by omega,ha,by omega,h3⟩
   ·rintro⟨u,v,h1,h2,h3,h4⟩
    by_cases e:u=n
    ·subst e;exact .inr ⟨v,h2,by omega,h4⟩
    ·exact .inl ⟨u,v,by omega,h2,h3,h4⟩
 exact key g.length (Nat.le_refl _)
def RowOk (t N : LI) : Prop := (t.length = N.length ∧ ∀ k (hk : k < t.length), t[k] ∈ N ∧ t[k] ∉ t.take k) ∧ (0 < t.length → t.getD 0 0 = N.getD 0 0)
def cz :LI→LI→Int
 |[],[]=>0
 |[],_::_=> -1
 |_::_,[]=>1
 |a::x,b::y=>if a<b then-1 else if b<a then 1 else cz x y
def lk : Nat → LI → Int
  | 0, _ => 0
  | _ + 1, [] => 0
  | d + 1, a :: l => (a + 1) * 33 ^ d + lk d l
def lkey (s : Int) : Int := lk 32 (Bc s)
def skey (s : Int) : Int := ((Bc s).length : Int) * 33 ^ 32 + lkey s
def CQ (F : LI) (K : Int) : Prop := ∀ u w, has K u = true → has K w = true → u ≠ w → nb F u w = true
def MX (F : LI) (n : Nat) (K : Int) : Prop := CQ F K ∧ ∀ w, w < n → has K w = false → ∃ u, has K u = true ∧ nb F u w = false
def In (n:Nat)(K:Int):Prop:=VS K∧∀w,has K w=true→w<n
theorem iand255 (a:Int):0≤iand .i64 a 255∧iand .i64 a 255≤255:=by
 have e:(BitVec.ofInt 64 255).toNat=255:=rfl
 have h:(BitVec.ofInt 64 a&&&BitVec.ofInt 64 255).toNat≤255:=by
  rw[BitVec.toNat_and,e];exact Nat.and_le_right
 have e2:iand .i64 a 255=(((BitVec.ofInt 64 a&&&BitVec.ofInt 64 255).toNat:Nat):Int):=by
  show IntKind.i64.wrap (((BitVec.ofInt 64 a&&&BitVec.ofInt 64 255).toNat:Nat):Int)=_
  exact w64 (by omega) (by omega)
 rw[e2];omega
theorem new_ok (code:LI)(h:∀x∈code,0≤x∧x≤255)(hl:code.length≤4096):∃z,D.B code=some (code,0,z)∧DK code 0:=by
 unfold D.B
 refine⟨_,(loop_listb code (λs i=>(s,i)) (λs e=>iand .i64 (IntKind.i64.wrap ((IntKind.i64.wrap ((IntKind.i64.wrap (s*331))+(IntKind.i64.wrap e)))+11)) 1073741823) (λs=>s) (λ_=>True) _ trivial (λs i hi _=>⟨?_,trivial⟩) (λs _=> ?_)).trans rfl,h,hl,by omega,by omega⟩
 ·simp only[dlt hi,cT,AS hi,bs,wq i]
 ·simp only[Bb,cF]
def Dw {α:Type}(b:LI)(P:α→Prop)(e:Option (α×LI×Int×Int)):Prop:=∃y,e=some y∧(P y.1∧y.2.1=b∧DK b y.2.2.1)
theorem Dw.then {α β:Type}{b:LI}{P:α→Prop}{e:Option (α×LI×Int×Int)}{k:α×LI×Int×Int→Option β}{Q:β→Prop}(h:Dw b P e)
  (hk:∀a i z,P a→DK b i→∃y,k (a,b,i,z)=some y∧Q y):∃y,e.bind k=some y∧Q y:=by
 obtain⟨⟨a,b',i,z⟩,rfl,h1,h2,h3⟩:=h
 dsimp only at h1 h2 h3
 subst h2
 exact hk a i z h1 h3
theorem Dp {b:LI}{i:Int}(h:DK b i)(z:Int):Dw b (λr=>0≤r∧r≤255) (D.n b i z):=by
 obtain⟨h1,h2,h3,h4⟩:=h
 unfold D.n
 by_cases hi:i<b.length
 ·simp only[hi,decide_true,cT,Dx h3 hi,bs]
  rw[w64 (x:=i+1) (by omega) (by omega)]
  exact⟨_,rfl,iand255 _,rfl,h1,h2,by dsimp only;omega,by dsimp only;omega⟩
 ·simp only[hi,decide_false,cF]
  exact⟨_,rfl,iand255 _,rfl,h1,h2,h3,h4⟩
theorem DM {b:LI}{i:Int}(h:DK b i)(z n:Int):Dw b (λr=>0≤r∧(0<n→r<n)) (D.b b i z n):=by
 unfold D.b
 by_cases h0:n≤0
 ·simp only[h0,decide_true,cT]
  exact⟨_,rfl,⟨by dsimp only;omega,λ_=>by omega⟩,rfl,h⟩
 ·have hn0:(n==0)=false:=by simp;omega
  simp only[h0,decide_false,cF,hn0]
  by_cases h1:n≤256
  ·simp only[h1,decide_true,cT]
   refine(Dp h z).then λr i1 z1 hr hk=> ?_
   have:=tmod_rng (x:=r) (n:=n) hr.1 (by omega)
   exact⟨_,rfl,⟨this.1,λ_=>this.2⟩,rfl,hk⟩
  ·simp only[h1,decide_false,cF]
   refine(Dp h z).then λr i1 z1 hr hk=> ?_
   refine(Dp hk z1).then λr2 i2 z2 hr2 hk=> ?_
   refine(Dp hk z2).then λr3 i3 z3 hr3 hk=> ?_
   refine(Dp hk z3).then λr4 i4 z4 hr4 hk=> ?_
   dsimp only
   rw[w64 (x:=r*16777216) (by omega) (by omega),w64 (x:=r2*65536) (by omega) (by omega),w64 (x:=r3*256) (by omega) (by omega),w64 (x:=r*16777216+r2*65536) (by omega) (by omega),w64 (x:=r*16777216+r2*65536+r3*256) (by omega) (by omega),w64 (x:=r*16777216+r2*65536+r3*256+r4) (by omega) (by omega)]
   have:=tmod_rng (x:=r*16777216+r2*65536+r3*256+r4) (n:=n) (by omega) (by omega)
   exact⟨_,rfl,⟨this.1,λ_=>this.2⟩,rfl,hk⟩
theorem Bu {b:LI}{i:Int}(h:DK b i)(z n:Int)(hn:0<n):Dw b (λr=>0≤r∧r<n) (D.b b i z n):=by
 obtain⟨y,e,h1,h2⟩:=DM h z n
 exact⟨y,e,⟨h1.1,h1.2 hn⟩,h2⟩
theorem Do {b:LI}{i:Int}(h:DK b i)(z n:Int):Dw b (λ_:Bool=>True) (D.l b i z n):=by
 unfold D.l
 exact(DM h z n).then λr i1 z1 _ hk=>⟨_,rfl,trivial,rfl,hk⟩
theorem odd_dw {b:LI}{i:Int}(h:DK b i)(z:Int):Dw b (λ_:Int=>True) (D.p0 b i z):=by
 unfold D.p0
 refine(Bu h z 10 (by omega)).then λr i1 z1 hr hk=> ?_
 rw[Dx hr.1 (by simpa using hr.2),bs]
 exact⟨_,rfl,trivial,rfl,hk⟩
theorem min_ok (a b:Int):∃m,D.n0 a b=some m:=by
 unfold D.n0
 by_cases h:a<b
 ·exact⟨a,by simp[h]⟩
 ·exact⟨b,by simp[h]⟩
theorem num_dw {b:LI}{i:Int}(h:DK b i)(z n:Int):Dw b (λ_:Int=>True) (D.R b i z n):=by
 unfold D.R
 refine(Do h z 10).then λr i1 z1 _ hk=> ?_
 dsimp only
 cases r
 ·simp only[cF]
  refine(Do hk z1 2).then λr i1 z1 _ hk=> ?_
  dsimp only
  cases r
  ·simp only[cF]
   exact(DM hk z1 _).then λr i1 z1 _ hk=>⟨_,rfl,trivial,rfl,hk⟩
  ·obtain⟨m,e⟩:=min_ok n 4
   simp only[cT,e,bs]
   exact(DM hk z1 _).then λr i1 z1 _ hk=>⟨_,rfl,trivial,rfl,hk⟩
 ·simp only[cT]
  refine(odd_dw hk z1).then λq i1 z1 _ hk=> ?_
  refine(Bu hk z1 4 (by omega)).then λr i1 z1 hr hk=> ?_
  dsimp only
  rw[Dx hr.1 (by simpa using hr.2),bs]
  exact⟨_,rfl,trivial,rfl,hk⟩
theorem DH (n:Nat)(hn:n≤100):D.A (n:Int)=some (List.replicate n []):=by
 unfold D.A
 refine(BZ (λi=>((i:Int),List.replicate i [])) n (List.replicate n []) (by simp) (λi hi=> ?_) ?_).trans rfl
 ·simp only[dlt hi,cT,wq i]
  rw[AW (by simp;omega),bs,←List.replicate_succ']
 ·simp only[Bb,cF]
theorem D4 :D.I=D.d:=rfl
theorem Of_deep (n:Nat)(h1:1≤n)(h16:n≤16):D.r0 (n:Int)=some (List.replicate n [],true):=by
 unfold D.r0
 have e1:(decide ((1:Int)≤(n:Int))&&decide ((n:Int)≤16))=true:=by simp;omega
 rw[DA,bs,e1,Bool.not_true,cF,DH n (by omega)];rfl
theorem Path_deep (n:Nat)(h1:1≤n)(h16:n≤16):∃y,D.V (n:Int)=some y∧(GOk y.1∧y.1.length=n∧y.2=true):=by
 unfold D.V
 rw[Of_deep n h1 h16,bs]
 simp only[Bool.and_true]
 refine BT (λs=>∃v:Nat,s.1=(v:Int)∧1≤v∧v≤n∧GOk s.2∧s.2.length=n) (λs=>n-s.1.toNat) (λr=>GOk r∧r.length=n) ?_ ⟨1,rfl,by omega,h1,GOk.empty h1 h16,by simp⟩ ?_
 ·rintro⟨_,l⟩ ⟨v,rfl,hv1,hvn,hg,hl⟩
  dsimp only at hg hl ⊢
  by_cases hv:v<n
  ·obtain⟨g',k1,k2,k3,_⟩:=CO hg (u:=v-1) (v:=v) (by omega) (by omega) (by omega)
   have e:IntKind.i64.wrap ((v:Int)-1)=((v-1:Nat):Int):=by rw[w64 (by omega) (by omega)];omega
   simp only[dlt hv,cT,e,D4,k1,bs,wq v]
   exact⟨_,rfl,⟨v+1,rfl,by omega,by omega,k2,by dsimp only;omega⟩,by dsimp only;omega⟩
  ·obtain rfl:v=n:=by omega
   simp only[Bb,cF]
   exact⟨_,rfl,hg,hl⟩
 ·rintro r ⟨hg,hl⟩
  exact⟨_,rfl,hg,hl,rfl⟩
theorem Loop_deep (n:Nat)(h1:3≤n)(h16:n≤16):∃y,D.l0 (n:Int)=some y∧(GOk y.1∧y.1.length=n):=by
 unfold D.l0
 refine Dk _ (Path_deep n (by omega) h16) ?_
 rintro⟨g,t⟩ ⟨hg,hl,rfl⟩
 dsimp only at hg hl ⊢
 have e3:decide ((n:Int)<3)=false:=by simp;omega
 obtain⟨g',k1,k2,k3,_⟩:=CO hg (u:=0) (v:=n-1) (by omega) (by omega) (by omega)
 have e:IntKind.i64.wrap ((n:Int)-1)=((n-1:Nat):Int):=by rw[w64 (by omega) (by omega)];omega
 rw[show ((0:Nat):Int)=0 from rfl] at k1
 simp only[Bool.not_true,Bool.false_or,e3,cF,D4,e,k1,bs]
 exact⟨_,rfl,k2,by dsimp only;omega⟩
theorem DrawOf_deep {b:LI}{i:Int}(h:DK b i)(z:Int)(n:Nat)(h1:1≤n)(h16:n≤16):Dw b (λg=>GOk g∧g.length=n) (D.o0 b i z (n:Int)):=by
 unfold D.o0
 rw[DH n (by omega),bs]
 refine(Bu h z 3 (by omega)).then λq i0 z0 hq k2=> ?_
 dsimp only
 refine BT (λs=>∃v:Nat,s.1=(v:Int)∧1≤v∧v≤n∧s.2.1=b∧DK b s.2.2.1∧GOk s.2.2.2.2∧s.2.2.2.2.length=n) (λs=>n-s.1.toNat)
  (λr=>r.2.1=b∧DK b r.2.2.1∧GOk r.1∧r.1.length=n) ?_ ⟨1,rfl,by omega,h1,rfl,k2,GOk.empty h1 h16,by simp⟩ ?_
 ·rintro⟨_,b2,i,z,g⟩ ⟨v,rfl,g1,g2,rfl,hk,hg,hl⟩
  dsimp only at hk hg hl ⊢
  by_cases hv:v<n
  ·simp only[dlt hv,cT]
   refine BT (λs=>∃u:Nat,s.1=(u:Int)∧u≤v∧s.2.1=b2∧DK b2 s.2.2.1∧GOk s.2.2.2.2∧s.2.2.2.2.length=n) (λs=>v-s.1.toNat)
    (λr=>r.1=b2∧DK b2 r.2.1∧GOk r.2.2.2∧r.2.2.2.length=n) ?_ ⟨0,rfl,by omega,rfl,hk,hg,hl⟩ ?_
   ·rintro⟨_,b2,i,z,g⟩ ⟨u,rfl,g3,rfl,hk,hg,hl⟩
    dsimp only at hk hg hl ⊢
    by_cases hu:u<v
    ·simp only[dlt hu,cT]
     refine(Bu hk z 4 (by omega)).then λt i3 z3 ht hk'=> ?_
     dsimp only
     by_cases hc:t<IntKind.i64.wrap (1+q)
     ·obtain⟨g',k1,k3,k4,_⟩:=CO hg (u:=u) (v:=v) (by omega) (by omega) (by omega)
      simp only[hc,decide_true,cT,D4,k1,bs,wq u]
      exact⟨_,rfl,⟨u+1,rfl,by omega,rfl,hk',k3,by dsimp only;omega⟩,by dsimp only;omega⟩
     ·simp only[hc,decide_false,cF,wq u]
      exact⟨_,rfl,⟨u+1,rfl,by omega,rfl,hk',hg,hl⟩,by dsimp only;omega⟩
    ·obtain rfl:u=v:=by omega
     simp only[Bb,cF]
     exact⟨_,rfl,rfl,hk,hg,hl⟩
   ·rintro⟨b2,i3,z3,g⟩ ⟨rfl,hk',hg',hl'⟩
    dsimp only at hk' hg' hl' ⊢
    simp only[wq v]
    exact⟨_,rfl,⟨v+1,rfl,by omega,by omega,rfl,hk',hg',hl'⟩,by dsimp only;omega⟩
  ·obtain rfl:v=n:=by omega
   simp only[Bb,cF]
   exact⟨_,rfl,rfl,hk,hg,hl⟩
 ·rintro⟨g,b2,i3,z3⟩ ⟨rfl,hk,hg,hl⟩
  exact⟨_,rfl,⟨hg,hl⟩,rfl,hk⟩
theorem Draw_deep {b:LI}{i:Int}(h:DK b i)(z:Int):Dw b (λg=>GOk g∧g.length≤7) (D.g0 b i z):=by
 unfold D.g0
 refine(Bu h z 6 (by omega)).then λq i0 z0 hq hk=> ?_
 dsimp only
 by_cases h0:q=0
 ·have e0:(q==0)=true:=by simp[h0]
  simp only[e0,cT]
  refine(Bu hk z0 4 (by omega)).then λr i1 z1 hr hk=> ?_
  dsimp only
  have e:IntKind.i64.wrap (3+r)=((3+r.toNat:Nat):Int):=by rw[w64 (by omega) (by omega)];omega
  rw[e]
  refine Dk _ (Loop_deep (3+r.toNat) (by omega) (by omega)) ?_
  rintro⟨g,t⟩ ⟨hg,hl⟩
  exact⟨_,rfl,⟨hg,by dsimp only at hl ⊢;omega⟩,rfl,hk⟩
 ·have e0:(q==0)=false:=by simp[h0]
  simp only[e0,cF]
  by_cases h1:q=1
  ·have e1:(q==1)=true:=by simp[h1]
   simp only[e1,cT]
   refine(Bu hk z0 6 (by omega)).then λr i1 z1 hr hk=> ?_
   dsimp only
   have e:IntKind.i64.wrap (1+r)=((1+r.toNat:Nat):Int):=by rw[w64 (by omega) (by omega)];omega
   rw[e]
   refine Dk _ (Path_deep (1+r.toNat) (by omega) (by omega)) ?_
   rintro⟨g,t⟩ ⟨hg,hl,_⟩
   exact⟨_,rfl,⟨hg,by dsimp only at hl ⊢;omega⟩,rfl,hk⟩
  ·have e1:(q==1)=false:=by simp[h1]
   simp only[e1,cF]
   refine(Bu hk z0 7 (by omega)).then λr i1 z1 hr hk=> ?_
   dsimp only
   have e:IntKind.i64.wrap (1+r)=((1+r.toNat:Nat):Int):=by rw[w64 (by omega) (by omega)];omega
   rw[e]
   refine(DrawOf_deep hk z1 (1+r.toNat) (by omega) (by omega)).then λg i2 z2 hg hk=> ?_
   exact⟨_,rfl,⟨hg.1,by have:=hg.2;dsimp only;omega⟩,rfl,hk⟩
def Few (g:LL):Prop:=g.length≤17∧∀r∈g,r.length≤17
theorem Few.sh2 {g:LL}(h:Few g):Sh2 g:=⟨by have:=h.1;unfold Sh;omega,λr hr=>by have:=h.2 r hr;unfold Sh;omega⟩
theorem GOk.few {g:LL}(hg:GOk g):Few g:=by
 have h16:=hg.n16
 exact⟨by omega,λr hr=>by have:=(hg.mem0 hr).1;omega⟩
theorem Few.set {g:LL}(h:Few g)(k:Nat){r:LI}(hr:r.length≤17):Few (g.set k r):=by
 refine⟨by have:=h.1;simpa using this,λx hx=> ?_⟩
 rcases List.mem_or_eq_of_mem_set hx with hx|rfl
 ·exact h.2 x hx
 ·exact hr
theorem DL {b:LI}{i:Int}(h:DK b i)(z:Int):Dw b Few (D.x b i z):=by
 unfold D.x
 refine(Draw_deep h z).then λg i0 z0 hg hk=> ?_
 have hn1:=hg.1.n1
 have hf:=hg.1.few
 refine(Do hk z0 12).then λt i1 z1 _ hk=> ?_
 dsimp only
 cases t
 ·exact⟨_,rfl,hf,rfl,hk⟩
 ·simp only[cT]
  refine(Bu hk z1 g.length (by omega)).then λv i2 z2 hv hk=> ?_
  refine(Bu hk z2 5 (by omega)).then λq i3 z3 hq hk=> ?_
  dsimp only
  have hrow:=Dx (xs:=g) hv.1 hv.2
  have hmem:g[v.toNat]'(by omega)∈g:=List.getElem_mem _
  have hrl:=(hg.1.mem0 hmem).1
  rcases(show q=0∨q=1∨q=2∨q=3∨q=4 by omega) with rfl|rfl|rfl|rfl|rfl
  ·simp only[hrow,bs,show ((0:Int)==0)=true from rfl,cT]
   refine Dk (λy=>Few y.1∧y.2.1=b∧DK b y.2.2.1) ?_ (λy hy=>⟨_,rfl,hy⟩)
   refine(num_dw hk z3 16).then λw i4 z4 _ hk=> ?_
   dsimp only
   rw[AW (by simp;omega),bs]
   exact⟨_,rfl,hf.set _ (by simp;omega),rfl,hk⟩
  ·simp only[hrow,bs,show ((1:Int)==0)=false from rfl,show ((1:Int)==1)=true from rfl,cT,cF]
   exact⟨_,rfl,hf.set _ (by simp),rfl,hk⟩
  ·simp only[show ((2:Int)==0)=false from rfl,show ((2:Int)==1)=false from rfl,show ((2:Int)==2)=true from rfl,cT,cF]
   refine(Bu hk z3 2 (by omega)).then λw i4 z4 hw hk=> ?_
   dsimp only
   have e:IntKind.i64.wrap (16+w)=((16+w.toNat:Nat):Int):=by rw[w64 (by omega) (by omega)];omega
   rw[e,DH _ (by omega),bs]
   exact⟨_,rfl,⟨by simp;omega,λr hr=>by have:=List.eq_of_mem_replicate hr;subst this;simp⟩,rfl,hk⟩
  ·simp only[show ((3:Int)==0)=false from rfl,show ((3:Int)==1)=false from rfl,show ((3:Int)==2)=false from rfl,show ((3:Int)==3)=true from rfl,cT,cF]
   exact⟨_,rfl,⟨by simp,by simp⟩,rfl,hk⟩
  ·simp only[hrow,bs,show ((4:Int)==0)=false from rfl,show ((4:Int)==1)=false from rfl,show ((4:Int)==2)=false from rfl,show ((4:Int)==3)=false from rfl,show ((4:Int)==4)=true from rfl,cT,cF]
   exact⟨_,rfl,hf.set _ (by simp),rfl,hk⟩
theorem elems_mk {n:Nat}{x:LI}(hn:n≤16)(hi:Inc x)(hr:∀z∈x,0≤z∧z<n):Bc (mk x)=x:=by
 have h32:∀z∈x,0≤z∧z<32:=λz hz=>by have:=hr z hz;omega
 refine Inc.ext (Dh _) hi (λz=> ?_)
 rw[mem_elems]
 constructor
 ·rintro⟨v,_,h,rfl⟩
  rw[has_mk h32] at h
  exact of_decide_eq_true h
 ·intro hz
  have:=h32 z hz
  refine⟨z.toNat,by omega,?_,by omega⟩
  rw[has_mk h32,show ((z.toNat:Nat):Int)=z by omega]
  exact decide_eq_true hz
def Cq (g : LL) (x : LI) : Prop := ∀ u w : Nat, (u : Int) ∈ x → (w : Int) ∈ x → u ≠ w → adj g u w
def mis (F:LI)(n:Nat)(S:Int):Nat:=S2 n (λu w=>has S u&&(has S w&&(decide (w<u)&& !nb F w u)))
def cd (F:LI)(s v:Int):Int:=((Bc (iand .u32 (F.getD v.toNat 0) s)).length:Int)
def cf (n:Nat)(F:LI)(s v:Int):Int:=(mis F n (iand .u32 (F.getD v.toNat 0) s):Int)
def ch (cs : LI) (i v : Nat) : Bool := has (cs.getD i 0) v
def Opn (cs : LI) (p : Int) (v : Nat) : Prop := (∃ i, i < cs.length ∧ has p i = true ∧ ch cs i v = true) ∧ ∃ i, i < cs.length ∧ has p i = false ∧ ch cs i v = true
def Ft (cs : LI) (p : Int) (k : Nat) : Prop := k < cs.length ∧ has p k = false ∧ ∀ v, Opn cs p v → ch cs k v = true
abbrev Pr :=Int×Int×Int
def joinF (n : Nat) (F : LI) (v : Nat) (S : Int) : LI := (List.range n).map fun u => ior .u32 (ior .u32 (F.getD u 0) (if u = v then S else 0)) (if has S u then ishl .u32 1 (v : Int) else 0)
theorem nets_join_ok {n:Nat}(hn:n≤16){X:LI}(hl:X.length=n)(hV:∀u,u<n→VS (X.getD u 0)){v t:Nat}(hv:v<n)(ht:t<n)(hvt:v≠t):
  ∃y,D.x0 X (v:Int) (t:Int)=some y∧(y.length=n∧(∀u,u<n→VS (y.getD u 0))∧∀u w,u<n→nb y u w=(nb X u w||(decide (u=v)&&decide (w=t))||(decide (u=t)&&decide (w=v)))):=by
 have hx:∀k,k<n→idx X (k:Int)=some (X.getD k 0):=λk hk=>by rw[AS (by omega),Ba (by omega)]
 refine⟨(X.set v (ior .u32 (X.getD v 0) (ishl .u32 1 (t:Int)))).set t (ior .u32 (X.getD t 0) (ishl .u32 1 (v:Int))),?_,by simp[hl],λu hu=> ?_,λu w hu=> ?_⟩
 ·unfold D.x0
  have e1:idx (X.set v (ior .u32 (X.getD v 0) (ishl .u32 1 (t:Int)))) (t:Int)=some (X.getD t 0):=by
   rw[AS (by simp;omega),List.getElem_set_ne hvt]
   exact congrArg some (Ba (by omega) 0).symm
  simp only[hx v hv,bs,En,Int.toNat_natCast,e1]
 ·rw[List.getD_eq_getElem?_getD,List.getElem?_set]
  by_cases h:t=u
  ·rw[if_pos h,if_pos (by simp;omega)];exact VS.ior _ _
  ·rw[if_neg h,List.getElem?_set]
   by_cases h2:v=u
   ·rw[if_pos h2,if_pos (by omega)];exact VS.ior _ _
   ·rw[if_neg h2,←List.getD_eq_getElem?_getD];exact hV u hu
 ·unfold nb
  rw[List.getD_eq_getElem?_getD,List.getElem?_set]
  by_cases h:t=u
  ·subst h
   rw[if_pos rfl,if_pos (by simp;omega),Option.getD_some,has_ior (hV _ hu) (VS.ishl _ _),has_one (by omega)]
   have:decide (t=v)=false:=decide_eq_false (λe=>hvt e.symm)
   rw[this];simp
  ·rw[if_neg h,List.getElem?_set]
   have e2:decide (u=t)=false:=decide_eq_false (λe=>h e.symm)
   by_cases h2:v=u
   ·subst h2
    rw[if_pos rfl,if_pos (by omega),Option.getD_some,has_ior (hV _ hu) (VS.ishl _ _),has_one (by omega),e2];simp
   ·rw[if_neg h2,←List.getD_eq_getElem?_getD,e2,decide_eq_false (λe=>h2 e.symm)];simp
def Cn (ad:Nat→Nat→Prop)(S:Nat→Prop)(x y:Nat):Prop:=∀T:Nat→Prop,T x→(∀a b,T a→ad a b→S b→T b)→T y
def Joint (ad:Nat→Nat→Prop)(S:Nat→Prop):Prop:=∀x y,S x→S y→Cn ad S x y
abbrev Ad (F : LI) (a b : Nat) : Prop := nb F a b = true
abbrev El (s:Int)(x:Nat):Prop:=has s x=true
abbrev Mn (s:Int)(v x:Nat):Prop:=has s x=true∧x≠v
def Way (ad:Nat→Nat→Prop):List Nat→Prop
 |[]=>True
 |[_]=>True
 |a::b::l=>ad a b∧Way ad (b::l)
structure Hole (ad:Nat→Nat→Prop)(c:List Nat):Prop where
 len:4≤c.length
 nd:c.Nodup
 step:∀i (h:i+1<c.length),ad c[i] c[i+1]
 close:ad (c[c.length-1]'(by omega)) (c[0]'(by omega))
 no:∀i j (_:i+1<j) (hj:j<c.length),¬(i=0∧j=c.length-1)→¬ad (c[i]'(by omega)) c[j]
def NoHole (ad:Nat→Nat→Prop)(X:Nat→Prop):Prop:=∀c,Hole ad c→¬∀x∈c,X x
def Nr (ad:Nat→Nat→Prop)(v:Nat):Nat→Nat→Prop
 |0,_=>False
 |k+1,u=>u=v∨∃w,Nr ad v k w∧ad w u
def Gm (E:Nat→Nat→Prop)(a b c d:Nat):Prop:=E c d∧((a=c∧¬E b d∧b≠d)∨(b=d∧¬E a c∧a≠c))
def Kl (E:Nat→Nat→Prop)(a b c d:Nat):Prop:=∀T:Nat→Nat→Prop,T a b→(∀p q r s,T p q→Gm E p q r s→T r s)→T c d
def AdW (g : LL) (all : Int) (a b : Nat) : Prop := adj g a b ∧ has all b = true
def Dst (g : LL) (all : Int) (v j u : Nat) : Prop := Nr (AdW g all) v (j + 1) u ∧ ¬ Nr (AdW g all) v j u
def Av (ad:Nat→Nat→Prop)(X:Nat→Prop)(c z:Nat):Prop:=X z∧z≠c∧¬ad c z
def Apt (ad:Nat→Nat→Prop)(X:Nat→Prop)(a b c:Nat):Prop:=
 X a∧X b∧X c∧a≠b∧a≠c∧b≠c∧¬ad a b∧¬ad a c∧¬ad b c∧Cn ad (Av ad X c) a b∧Cn ad (Av ad X b) a c∧Cn ad (Av ad X a) b c
def Ape (ad : Nat → Nat → Prop) (X S : Nat → Prop) (a b : Nat) : Prop :=
  X a ∧ X b ∧ a ≠ b ∧ ¬ ad a b ∧ (∃ k, S k ∧ Cn ad (Av ad X b) a k) ∧ ∃ k, S k ∧ Cn ad (Av ad X a) b k
section
variable {g : LL} (hg : GOk g)
include hg
end
end Go.Sx

namespace Go.Sx
def atp (cs o : LI) (k v : Nat) : Bool := ch cs (o.getD k 0).toNat v
end Go.Sx



namespace Go.Sx
def nearS (F : LI) (p : Pr) : Int := if p.2.2 = 2 then ishl .u32 1 p.2.1 else if p.2.2 = 3 then F.getD p.2.1.toNat 0 else if p.2.2 = 4 then ior .u32 (F.getD p.2.1.toNat 0) (ishl .u32 1 p.2.1) else 0
def Fs (n : Nat) : List Pr → LI
  | [] => List.replicate n 0
  | p :: l => joinF n (Fs n l) p.1.toNat (nearS (Fs n l) p)
def vsOf (l : List Pr) : LI := l.map (·.1)
def Lsts (g : LL) (K : Int) : Prop := In g.length K ∧ (∀ u w, has K u = true → has K w = true → ¬ adj g u w) ∧ ∀ w, w < g.length → has K w = true ∨ ∃ v, has K v = true ∧ adj g v w
def lf (xs:List (Int×Int))(v:Nat):Int:=(xs.getD v (0,0)).1
abbrev ap (a b : Nat) : Int × Int := ((a : Int), (b : Int))
section
variable {g : LL} (hg : GOk g)
include hg
end
end Go.Sx

namespace Go.Sx
abbrev Vx (n at' x:Nat):Prop:=x<n∧x≠at'
def PP (F : LI) (n : Nat) (S : Nat → Prop) : Prop := ∀ c x, S c → S x → x ≠ c → (∀ w, Ad F c w → Cn (Ad F) (Vx n c) x w → S w) ∧ ∀ y, S y → y ≠ c → Cn (Ad F) (Vx n c) x y → Cn (Ad F) (fun z => S z ∧ z ≠ c) x y
def Two (S:Int):Prop:=∃x y,El S x∧El S y∧x≠y
section
variable {F : LI} {n : Nat} (hn : n ≤ 16) (hF : FOk F n)
include hn hF
end
end Go.Sx

namespace Go.Sx
def pr (a b : Nat) : LI := [(a : Int), (b : Int)]
def Clo (g : LL) (u v a b : Nat) : Prop := ∀ T : Nat → Nat → Prop, T u v → T v u → (∀ a b w, T a b → adj g a w → Cn (adj g) (Vx g.length a) b w → T a w ∧ T w a) → T a b
section
variable {g : LL} (hg : GOk g)
include hg
end
end Go.Sx

namespace Go.Sx
def prt (s t:Int):Bool:=(Ec .u32 s t)==0
def spareM (M:LI)(l:LI):Option (Nat×Nat):=
 if prt (M.getD (l.getD 1 0).toNat 0) (M.getD (l.getD 0 0).toNat 0) then some ((l.getD 1 0).toNat,(l.getD 0 0).toNat)
 else if prt (M.getD (l.getD 0 0).toNat 0) (M.getD (l.getD 1 0).toNat 0) then some ((l.getD 0 0).toNat,(l.getD 1 0).toNat) else none
def spare (M:LI)(K:LL):Option (Nat×Nat):=(List.range K.length).findSome? (λi=>spareM M (K.getD i []))
section
variable {g : LL} (hg : GOk g)
include hg
def prs (P : List (Nat × Nat)) : LL := P.map fun p => pr p.1 p.2
end
end Go.Sx

namespace Go.Sx
def wst (A:Nat→Nat→Bool)(s v u:Nat):Bool:=A v u&& !s.testBit u
def wcnF (A:Nat→Nat→Bool)(n:Nat)(L:Nat→Bool):Nat→Nat→Nat→Nat
 |0,_,_=>0
 |k+1,s,v=>if s=2^n-1 then bit (L v) else Bk (λu=>bit (wst A s v u)*wcnF A n L k (s|||2^u) u) n
def wcn (A:Nat→Nat→Bool)(n:Nat)(L:Nat→Bool)(s v:Nat):Nat:=wcnF A n L (2^n) s v
def rm (n:Nat)(m:Int):Int:=Ec .u32 (full n) m
noncomputable def bh (F : LI) (m v : Int) : Int := (D.H0 F m v).getD 0
noncomputable def indP (p:Prop):Nat:=by classical exact if p then 1 else 0
noncomputable def cntP (n:Nat)(p:Nat→Prop):Nat:=Bk (λv=>indP (p v)) n
section
variable (A : Nat → Nat → Prop) (n : Nat)
def EdI (e:Nat):Prop:=e<n*n∧(e/n=e%n∨A (e/n) (e%n))
def AtI (v:Nat)(P:Nat→Prop):Prop:=∃e,EdI A n e∧P e∧(e/n=v∨e%n=v)
def TI (X:BitVec (n*n))(v:Nat):Prop:=AtI A n v λe=>X.getLsbD e=true
def BdI (X:BitVec (n*n))(v:Nat):Prop:=TI A n X v∧TI A n (~~~X) v
def DelI (m:List (BitVec (n*n)))(v:Nat):Prop:=∃X∈m,BdI A n X v
end
def DisI {N:Nat}(X Y:BitVec N):Prop:=∀e,¬(X.getLsbD e=true∧Y.getLsbD e=true)
def PartI {N:Nat}(m:List (BitVec N)):Prop:=m.Pairwise DisI∧∀e,e<N→∃X∈m,X.getLsbD e=true
end Go.Sx

namespace Go.Sx
def nx (t:LI)(x:Int):Int:=t.getD ((t.idxOf x+1)%t.length) 0
def Pot (n:Nat)(h w:Nat→Nat→Nat)(a:Nat):Nat:=Bk (λk=>Bk (λu=>(if a≤k then w k u else 0)*h k u) n) (2^n)
def zer (n s:Nat):Nat:=Bk (λu=>bit (!s.testBit u)) n
noncomputable def wv (F : LI) (rec : Int → Int) (m v : Int) : Int := if ((Bc (bh F m v)).length : Int) < rec (ior .u32 m (ishl .u32 1 v)) then rec (ior .u32 m (ishl .u32 1 v)) else ((Bc (bh F m v)).length : Int)
noncomputable def wd (F : LI) (n : Nat) : Nat → Int → Int
  | 0, _ => 0
  | k + 1, m => (Bc (rm n m)).foldl (fun b v => if wv F (wd F n k) m v < b then wv F (wd F n k) m v else b) 16
def Tch (F:LI)(s t:Int):Prop:=∃x y,El s x∧El t y∧(x=y∨nb F x y=true)
noncomputable def bo (F:LI)(n:Nat)(most:Int):Nat→Int→LI
 |0,_=>[]
 |k+1,m=>match(Bc (rm n m)).find? (λv=>decide (wv F (wd F n k) m v≤most)) with
  |some v=>v::bo F n most k (ior .u32 m (ishl .u32 1 v))
  |none=>[]
theorem sides_eq {g:LL}(hg:GOk g):Bk (λu=>(row g u).length) g.length=2*(AJ g).length:=by
 have h16:=hg.n16
 have hA:∀u v,Decidable (adj g u v):=λu v=>Classical.propDecidable _
 have hm:∀u,u<g.length→∀v,has (mk (row g u)) v=decide (adj g u v):=λu hu v=>by
  rw[has_mk (λx hx=>by have:=(hg.rows u hu).2 x hx;omega),Bool.eq_iff_iff,decide_eq_true_eq,decide_eq_true_eq];exact Iff.rfl
 have hr:∀u,u<g.length→Bc (mk (row g u))=row g u:=λu hu=>elems_mk h16 (hg.rows u hu).1 (hg.rows u hu).2
 have hlt:∀u,u<g.length→∀v,has (mk (row g u)) v=true→v<g.length:=λu hu v hv=>hg.lt hu (by rw[hm u hu] at hv;exact of_decide_eq_true hv)
 have e1:Bk (λu=>(row g u).length) g.length=S2 g.length (λu v=>decide (adj g u v)):=BJ λu hu=>by
  rw[←hr u hu,elems_sum (n:=g.length) (by omega) (hlt u hu)]
  exact BJ λv _=>by rw[hm u hu]
 have e3:=S2_half (n:=g.length) (A:=λu v=>decide (adj g u v)) (lt:=λu v=>decide (u<v)) (λu w hu hw=>by
   rw[Bool.eq_iff_iff,decide_eq_true_eq,decide_eq_true_eq];exact⟨hg.sym u w hu,hg.sym w u hw⟩)
  (λu w hu hw h=>by
   rw[decide_eq_true_eq] at h
   have:u≠w:=λe=>hg.irr u hu (by rw[←e] at h;exact h)
   rw[decide_eq_true_eq,decide_eq_true_eq];omega)
  (λu w hu hw h1 h2=>by rw[decide_eq_true_eq] at h1 h2;omega)
 have e4:(AJ g).length=S2 g.length (λu v=>decide (adj g u v)&&decide (u<v)):=by
  rw[edgesF_len]
  refine BJ λu hu=> ?_
  rw[←hr u hu,Ex (n:=g.length) (by omega) (hlt u hu)]
  refine BJ λv hv=> ?_
  rw[hm u hu]
  congr 2
  rw[Bool.eq_iff_iff,decide_eq_true_eq,decide_eq_true_eq];omega
 omega
theorem sumN_bd {f:Nat→Nat}{c:Nat}:∀n,(∀i,i<n→f i≤c)→Bk f n≤n*c
 |0,_=>by rw[Nat.zero_mul];exact Nat.le_refl _
 |n+1,h=>by
  have:=sumN_bd n (λi hi=>h i (by omega))
  have:=h n (by omega)
  rw[Nat.succ_mul]
  show Bk f n+f n≤_
  omega
open Go
abbrev num (n:Nat):List UInt8:=Lib.decDigits n
theorem CC {n:Nat}(h:n<10):num n=[UInt8.ofNat (48+n)]:=Lib.decDigits_one h
theorem C1 {k:Nat}(h:k<7):num (10+k)=[49,UInt8.ofNat (48+k)]:=by
 rw[num,Lib.decDigits_two (by omega) (by omega)]
 have e1:(10+k)/10=1:=by omega
 have e2:(10+k)%10=k:=by omega
 rw[e1,e2];rfl
theorem CT {n:Nat}(h:n<17):n<10∨∃k:Nat,k<7∧n=10+k:=by
 by_cases h1:n<10
 ·exact .inl h1
 ·exact .inr ⟨n-10,by omega,by omega⟩
theorem BI {n:Nat}(h:n<17):1≤(num n).length∧(num n).length≤2:=by
 rcases CT h with h1|⟨k,hk,rfl⟩
 ·rw[CC h1];simp
 ·rw[C1 hk];simp
theorem digit_fin :∀n:Fin 10,(48:UInt8)≤UInt8.ofNat (48+n.val)∧UInt8.ofNat (48+n.val)≤57:=by decide+kernel
theorem num_digits {n:Nat}(h:n<17):∀b∈num n,(48:UInt8)≤b∧b≤57:=by
 intro b hb
 rcases CT h with h1|⟨k,hk,rfl⟩
 ·rw[CC h1,List.mem_singleton] at hb
  subst hb
  exact digit_fin ⟨n,h1⟩
 ·rw[C1 hk,List.mem_cons,List.mem_singleton] at hb
  rcases hb with rfl|rfl
  ·decide
  ·exact digit_fin ⟨k,by omega⟩
theorem Da {n:Nat}(h:n<17){c:UInt8}(hc:c<48∨57<c):c∉num n:=by
 intro hb
 have:=num_digits h c hb
 rcases hc with hc|hc
 ·exact absurd (UInt8.lt_of_lt_of_le hc this.1) (UInt8.lt_irrefl _)
 ·exact absurd (UInt8.lt_of_lt_of_le hc this.2) (UInt8.lt_irrefl _)
theorem readNumber_one :∀n:Fin 10,D.j (tx [UInt8.ofNat (48+n.val)])=some ((n.val:Int),true):=by
 intro n
 have h:∀n:Fin 10,D.i (tx [UInt8.ofNat (48+n.val)]) 10 64=some ((n.val:Int),false):=by decide+kernel
 have h2:Lib.itoa (n.val:Int)=[UInt8.ofNat (48+n.val)]:=by
  unfold Lib.itoa
  rw[if_neg (by omega),Int.toNat_natCast]
  exact CC n.isLt
 unfold D.j
 rw[h n,bs]
 have h3:D.f (n.val:Int) 10=some (tx [UInt8.ofNat (48+n.val)]):=by
  unfold D.f
  rw[if_pos ⟨rfl,by omega,by omega⟩,h2]
 simp only[cF,h3,bs,BN,decide_true,Bool.not_true]
 rfl
theorem readNumber_two :∀k:Fin 7,D.j (tx [49,UInt8.ofNat (48+k.val)])=some (((10+k.val:Nat):Int),true):=by
 intro k
 have h:∀k:Fin 7,D.i (tx [49,UInt8.ofNat (48+k.val)]) 10 64=some (((10+k.val:Nat):Int),false):=by decide+kernel
 have h2:Lib.itoa ((10+k.val:Nat):Int)=[49,UInt8.ofNat (48+k.val)]:=by
  unfold Lib.itoa
  rw[if_neg (by omega),Int.toNat_natCast]
  exact C1 k.isLt
 unfold D.j
 rw[h k,bs]
 have h3:D.f ((10+k.val:Nat):Int) 10=some (tx [49,UInt8.ofNat (48+k.val)]):=by
  unfold D.f
  rw[if_pos ⟨rfl,by omega,by omega⟩,h2]
 simp only[cF,h3,bs,BN,decide_true,Bool.not_true]
 rfl
theorem CL {n:Nat}(h:n<17):D.j (tx (num n))=some ((n:Int),true):=by
 rcases CT h with h1|⟨k,hk,rfl⟩
 ·rw[CC h1];exact readNumber_one ⟨n,h1⟩
 ·rw[C1 hk];exact readNumber_two ⟨k,hk⟩
theorem l1Read_one :∀n:Fin 10,D.k (tx [UInt8.ofNat (48+n.val)])=some ((n.val:Int),true):=by
 intro n
 unfold D.k
 have e0:∀n:Fin 10,((Bn (tx [UInt8.ofNat (48+n.val)]) 0).bind λe_19=>some ((e_19==48)&&(decide ((1:Int)<((tx [UInt8.ofNat (48+n.val)]).size:Int)))))=some false:=by decide+kernel
 have e1:((decide (((tx [UInt8.ofNat (48+n.val)]).size:Int)<1))||(decide ((9:Int)<((tx [UInt8.ofNat (48+n.val)]).size:Int))))=false:=rfl
 rw[e1,cF,e0 n,bs,cF]
 rw[Bj (s':=((n.val:Int),1)),Bp (r:= .inl (n.val:Int))]
 ·rfl
 ·rfl
 ·have:∀n:Fin 10,(cond (decide ((0:Int)<((tx [UInt8.ofNat (48+n.val)]).size:Int))) ((Bn (tx [UInt8.ofNat (48+n.val)]) 0).bind λe_93=>(cond (decide (e_93<48)) (some true) ((Bn (tx [UInt8.ofNat (48+n.val)]) 0).bind λe_104=>some (decide ((57:Int)<e_104)))).bind λb_102=>cond b_102 (some (.inr (.inr (0,false)))) ((Bn (tx [UInt8.ofNat (48+n.val)]) 0).bind λe_107=>some (.inl ((IntKind.i64.wrap ((IntKind.i64.wrap (0*10))+(IntKind.i64.wrap (IntKind.u8.wrap (e_107-48))))),(IntKind.i64.wrap (0+1)))))) (some (.inr (.inl 0))):Option ((Int×Int) ⊕ (Int ⊕ (Int×Bool))))=some (.inl ((n.val:Int),1)):=by decide+kernel
  exact this n
theorem l1Read_two :∀k:Fin 7,D.k (tx [49,UInt8.ofNat (48+k.val)])=some (((10+k.val:Nat):Int),true):=by
 intro n
 unfold D.k
 have e0:∀n:Fin 7,((Bn (tx [49,UInt8.ofNat (48+n.val)]) 0).bind λe_19=>some ((e_19==48)&&(decide ((1:Int)<((tx [49,UInt8.ofNat (48+n.val)]).size:Int)))))=some false:=by decide+kernel
 have e1:((decide (((tx [49,UInt8.ofNat (48+n.val)]).size:Int)<1))||(decide ((9:Int)<((tx [49,UInt8.ofNat (48+n.val)]).size:Int))))=false:=rfl
 rw[e1,cF,e0 n,bs,cF]
 have st:∀(n:Fin 7) (i:Fin 2),(cond (decide (((i.val:Nat):Int)<((tx [49,UInt8.ofNat (48+n.val)]).size:Int))) ((Bn (tx [49,UInt8.ofNat (48+n.val)]) ((i.val:Nat):Int)).bind λe_93=>(cond (decide (e_93<48)) (some true) ((Bn (tx [49,UInt8.ofNat (48+n.val)]) ((i.val:Nat):Int)).bind λe_104=>some (decide ((57:Int)<e_104)))).bind λb_102=>cond b_102 (some (.inr (.inr (0,false)))) ((Bn (tx [49,UInt8.ofNat (48+n.val)]) ((i.val:Nat):Int)).bind λe_107=>some (.inl ((IntKind.i64.wrap ((IntKind.i64.wrap ((if i.val=0 then 0 else 1)*10))+(IntKind.i64.wrap (IntKind.u8.wrap (e_107-48))))),(IntKind.i64.wrap (((i.val:Nat):Int)+1)))))) (some (.inr (.inl (if i.val=0 then 0 else 1)))):Option ((Int×Int) ⊕ (Int ⊕ (Int×Bool))))=some (.inl ((if i.val=0 then 1 else((10+n.val:Nat):Int)),((i.val+1:Nat):Int))):=by decide+kernel
 rw[Bj (s':=(1,1)),Bj (s':=(((10+n.val:Nat):Int),2)),Bp (r:= .inl ((10+n.val:Nat):Int))]
 ·rfl
 ·rfl
 ·exact st n 1
 ·exact st n 0
theorem DN {n:Nat}(h:n<17):D.k (tx (num n))=some ((n:Int),true):=by
 rcases CT h with h1|⟨k,hk,rfl⟩
 ·rw[CC h1];exact l1Read_one ⟨n,h1⟩
 ·rw[C1 hk];exact l1Read_two ⟨k,hk⟩
theorem DR {n:Nat}(h:n<17):D.f (n:Int) 10=some (tx (num n)):=by
 unfold D.f
 rw[if_pos ⟨rfl,by omega,by omega⟩]
 unfold Lib.itoa
 rw[if_neg (by omega),Int.toNat_natCast]
theorem itoa_num {n:Nat}(h:n<17):D.O (n:Int)=some (tx (num n)):=by
 unfold D.O
 rw[if_pos (by omega),Int.toNat_natCast]
theorem CU {n:Nat}(h:n<17):D.c (n:Int)=some (tx (num n)):=by
 unfold D.c
 have hn:decide ((n:Int)<0)=false:=decide_eq_false (by omega)
 rw[hn]
 have st:∀(d:Fin 10) (c:Fin 2),(BG (sOf ([(IntKind.u8.wrap (IntKind.i64.wrap (48+(Int.tmod ((10*c.val+d.val:Nat):Int) 10))))]:LI)) (⟨#[]⟩))=some (tx [UInt8.ofNat (48+d.val)])∧decide ((Int.tmod ((10*c.val+d.val:Nat):Int) 10)<0)=false∧IntKind.i64.wrap (Int.tdiv ((10*c.val+d.val:Nat):Int) 10)=(c.val:Int):=by decide+kernel
 rcases CT h with h1|⟨k,hk,rfl⟩
 ·obtain⟨a1,a2,a3⟩:=st ⟨n,h1⟩ 0
  simp only[Fin.val_zero,Nat.mul_zero,Nat.zero_add] at a1 a2 a3
  rw[Bj (s':=(0,tx [UInt8.ofNat (48+n)])),Bp (r:=tx [UInt8.ofNat (48+n)]),CC h1]
  ·rfl
  ·have:sEq (tx [UInt8.ofNat (48+n)]) ⟨#[]⟩=false:=by rw[BN];rfl
   simp only[this];rfl
  ·have:sEq (⟨#[]⟩:ByteArray) ⟨#[]⟩=true:=by rw[BN];rfl
   simp only[this,Bool.true_or,cT,a1,a2,a3,cF,bs]
   rfl
 ·obtain⟨a1,a2,a3⟩:=st ⟨k,by omega⟩ 1
  simp only[Fin.val_one,Nat.mul_one] at a1 a2 a3
  have b1:BG (sOf ([(IntKind.u8.wrap (IntKind.i64.wrap (48+(Int.tmod 1 10))))]:LI)) (tx [UInt8.ofNat (48+k)])=some (tx [49,UInt8.ofNat (48+k)]):=rfl
  rw[Bj (s':=(1,tx [UInt8.ofNat (48+k)])),Bj (s':=(0,tx [49,UInt8.ofNat (48+k)])),Bp (r:=tx [49,UInt8.ofNat (48+k)]),C1 hk]
  ·rfl
  ·have:sEq (tx [49,UInt8.ofNat (48+k)]) ⟨#[]⟩=false:=by rw[BN];rfl
   simp only[this];rfl
  ·have:sEq (tx [UInt8.ofNat (48+k)]) ⟨#[]⟩=false:=by rw[BN];rfl
   have t1:((1:Int) !=0)=true:=rfl
   have t2:decide (Int.tmod 1 10<0)=false:=rfl
   simp only[this,t1,t2,Bool.false_or,cT,cF,b1,bs]
   rfl
  ·have:sEq (⟨#[]⟩:ByteArray) ⟨#[]⟩=true:=by rw[BN];rfl
   simp only[this,Bool.true_or,cT,a1,a2,a3,cF,bs]
   rfl
def etx (e:LI):List UInt8:=num (e.getD 0 0).toNat++45::num (e.getD 1 0).toNat
def txg (g:LL):List UInt8:=num g.length++58::(AJ g).flatMap λe=>32::etx e
theorem edge_nat {g:LL}(hg:GOk g){i:Nat}(hi:i<(AJ g).length):∃u v:Nat,(AJ g)[i]=[(u:Int),(v:Int)]∧u<v∧v<g.length∧adj g u v:=by
 obtain⟨u,v,h1,h2,h3,h4⟩:=(B9 hg _).1 (List.getElem_mem hi)
 exact⟨u,v,h4,h3,hg.lt h1 h2,h2⟩
theorem etx_len {g:LL}(hg:GOk g){e:LI}(he:e∈AJ g):(etx e).length≤5:=by
 have h16:=hg.n16
 obtain⟨u,v,h1,h2,h3,rfl⟩:=(B9 hg _).1 he
 have:=hg.lt h1 h2
 have a:=BI (show u<17 by omega)
 have b:=BI (show v<17 by omega)
 simp[etx];omega
theorem Ck {g:LL}(hg:GOk g):(AJ g).length≤120:=by
 have h16:=hg.n16
 have e:=sides_eq hg
 have hb:∀u,u<g.length→(row g u).length≤15:=λu hu=>by
  have hn:((u:Int)::row g u).Nodup:=List.nodup_cons.2 ⟨hg.irr u hu,(hg.rows u hu).1.nodup⟩
  have h1:((u:Int)::row g u).length≤((List.range g.length).map Int.ofNat).length:=nodup_le hn (λx hx=>by
   rcases List.mem_cons.1 hx with rfl|hx
   ·exact List.mem_map.2 ⟨u,List.mem_range.2 hu,rfl⟩
   ·have:=(hg.rows u hu).2 x hx
    exact List.mem_map.2 ⟨x.toNat,List.mem_range.2 (by omega),by show ((x.toNat:Nat):Int)=x;omega⟩)
  simp at h1;omega
 have:=sumN_bd (c:=15) g.length hb
 omega
theorem flat_len {l:LL}{k:Nat}(h:∀e∈l,(etx e).length≤5)(hk:l.length≤k):(l.flatMap λe=>32::etx e).length≤6*k:=by
 induction l generalizing k with
 |nil=>simp
 |cons e l ih=>
  have h1:=h e (by simp)
  have h2:=ih (k:=k-1) (λx hx=>h x (by simp[hx])) (by simp at hk;omega)
  rw[List.flatMap_cons,List.length_append,List.length_cons]
  rw[List.length_cons] at hk
  omega
theorem DI {g:LL}(hg:GOk g)(i:Nat):(((AJ g).take i).flatMap λe=>32::etx e).length≤720:=by
 have:=Ck hg
 exact flat_len (k:=120) (λe he=>etx_len hg (List.mem_of_mem_take he)) (by simp;omega)
theorem txg_len {g:LL}(hg:GOk g):(txg g).length≤723:=by
 have h16:=hg.n16
 have a:=BI (show g.length<17 by omega)
 have:=DI hg (AJ g).length
 rw[List.take_length] at this
 simp only[txg,List.length_append,List.length_cons];omega
theorem take_flat {l:LL}{i:Nat}(hi:i<l.length):((l.take (i+1)).flatMap λe=>32::etx e)=(l.take i).flatMap (λe=>32::etx e)++32::etx l[i]:=by
 rw[List.take_succ_eq_append_getElem hi,List.flatMap_append];simp
theorem Cs {g:LL}(hg:GOk g):D.r g=some (tx (txg g)):=by
 have h16:=hg.n16
 unfold D.r D.g
 have a:=BI (show g.length<17 by omega)
 rw[B2 g hg.sh2,Eb hg,bs,Bool.not_true,cF,bs,CU (by omega),bs]
 rw[show (⟨#[58]⟩:ByteArray)=tx [58] from rfl,BY (by simp;omega),bs,l1Edges_eq g hg,bs]
 refine(BZ (λi=>(tx ((num g.length++[58])++((AJ g).take i).flatMap λe=>32::etx e),(i:Int))) (AJ g).length (tx (txg g)) (by simp) (λi hi=> ?_) ?_).trans rfl
 ·have hl:=DI hg i
  have h120:=Ck hg
  generalize hT:((num g.length++[58])++((AJ g).take i).flatMap λe=>32::etx e)=T
  have hTl:T.length≤800:=by rw[←hT];simp only[List.length_append,List.length_singleton];omega
  obtain⟨u,v,e1,h1,h2,_⟩:=edge_nat hg hi
  have a1:=BI (show u<17 by omega)
  have a2:=BI (show v<17 by omega)
  have i0:idx [(u:Int),(v:Int)] 0=some (u:Int):=rfl
  have i1:idx [(u:Int),(v:Int)] 1=some (v:Int):=rfl
  have c1:(⟨#[32]⟩:ByteArray)=tx [32]:=rfl
  have c2:(⟨#[45]⟩:ByteArray)=tx [45]:=rfl
  have s1:BG (tx T) (tx [32])=some (tx (T++[32])):=BY (by simp;omega)
  have s2:BG (tx (T++[32])) (tx (num u))=some (tx ((T++[32])++num u)):=BY (by simp;omega)
  have s3:BG (tx ((T++[32])++num u)) (tx [45])=some (tx (((T++[32])++num u)++[45])):=BY (by simp;omega)
  have s4:BG (tx (((T++[32])++num u)++[45])) (tx (num v))=some (tx ((((T++[32])++num u)++[45])++num v)):=BY (by simp;omega)
  simp only[dlt hi,cT,c1,c2,s1,bs,AS hi,e1,i0,i1,CU (show u<17 by omega),CU (show v<17 by omega),s2,s3,s4,wq i]
  rw[take_flat hi,←List.append_assoc,hT,e1]
  simp[etx]
 ·simp only[Bb,cF,List.take_length]
  simp[txg]
theorem Cw {g:LL}(hg:GOk g):D.S g=some (tx (txg g)):=by
 have h16:=hg.n16
 unfold D.S
 have a:=BI (show g.length<17 by omega)
 have hsb:∀T:List UInt8,sBy (tx T)=T.map λb=>(b.toNat:Int):=λT=>rfl
 rw[itoa_num (by omega),bs]
 rw[show (⟨#[58]⟩:ByteArray)=tx [58] from rfl,BY (by simp;omega),bs,AW (by rw[hsb];simp;omega),bs,EC g hg,bs,List.nil_append]
 refine(BZ (λi=>((i:Int),sBy (tx ((num g.length++[58])++((AJ g).take i).flatMap λe=>32::etx e)))) (AJ g).length (sBy (tx (txg g))) (by simp) (λi hi=> ?_) ?_).trans ?_
 ·have hl:=DI hg i
  have h120:=Ck hg
  generalize hT:((num g.length++[58])++((AJ g).take i).flatMap λe=>32::etx e)=T
  have hTl:T.length≤800:=by rw[←hT];simp only[List.length_append,List.length_singleton];omega
  obtain⟨u,v,e1,h1,h2,_⟩:=edge_nat hg hi
  have a1:=BI (show u<17 by omega)
  have a2:=BI (show v<17 by omega)
  have i0:idx [(u:Int),(v:Int)] 0=some (u:Int):=rfl
  have i1:idx [(u:Int),(v:Int)] 1=some (v:Int):=rfl
  have c1:(⟨#[32]⟩:ByteArray)=tx [32]:=rfl
  have c2:(⟨#[45]⟩:ByteArray)=tx [45]:=rfl
  have s1:BG (tx [32]) (tx (num u))=some (tx ([32]++num u)):=BY (by simp;omega)
  have s2:BG (tx ([32]++num u)) (tx [45])=some (tx (([32]++num u)++[45])):=BY (by simp;omega)
  have s3:BG (tx (([32]++num u)++[45])) (tx (num v))=some (tx ((([32]++num u)++[45])++num v)):=BY (by simp;omega)
  have s4:AC (sBy (tx T)) (sBy (tx ((([32]++num u)++[45])++num v)))=some (sBy (tx T)++sBy (tx ((([32]++num u)++[45])++num v))):=AW (by rw[hsb,hsb];simp;omega)
  simp only[dlt hi,cT,c1,c2,s1,bs,AS hi,e1,i0,i1,DR (show u<17 by omega),DR (show v<17 by omega),s2,s3,s4,wq i]
  rw[take_flat hi,←List.append_assoc,hT,e1]
  simp only[hsb,List.map_append]
  simp[etx]
 ·simp only[Bb,cF,List.take_length]
  simp[txg]
 ·unfold D.B0
  have hm:sBy (tx (txg g))=(txg g).map λb=>(b.toNat:Int):=rfl
  have h1:sBy (tx (txg g))≠[]:=by rw[hm];simp[txg]
  have h2:((sBy (tx (txg g))).all λx=>decide (0≤x)&&decide (x<256))=true:=by
   rw[hm,List.all_eq_true]
   intro x hx
   obtain⟨b,_,rfl⟩:=List.mem_map.1 hx
   have:=b.toNat_lt
   simp;omega
  rw[if_pos ⟨h1,h2⟩,bs]
  refine congrArg some (Eg ?_)
  rw[hm]
  show (((txg g).map λb=>(b.toNat:Int)).map λn=>UInt8.ofNat n.toNat)=_
  rw[List.map_map]
  refine(List.map_congr_left λb _=> ?_).trans (List.map_id _)
  simp
end Go.Sx

namespace Go.Sx
open Go
theorem D5 {n:Nat}{e:LI}(h2:e.length=2)(h:Cv e n=true):Dv n e:=by
 obtain⟨a,b,rfl⟩:∃a b,e=[a,b]:=by
  match e,h2 with
  |[a,b],_=>exact⟨a,b,rfl⟩
 obtain⟨h3,h4⟩:=(CJ _ _).1 h
 have:=h4 a (by simp)
 have:=h4 b (by simp)
 have h5:a<b:=by simpa [Inc] using h3
 refine⟨a.toNat,b.toNat,?_,by omega,by omega⟩
 congr 1
 ·omega
 ·congr 1;omega
theorem edgeIn_iff {n:Nat}{e:LI}:Dv n e↔e.length=2∧Cv e n=true:=
 ⟨fun⟨a,b,h1,h2,h3⟩=>by subst h1;exact⟨rfl,setB_edge h2 h3⟩,λh=>D5 h.1 h.2⟩
theorem Ev (n:Int)(es:LL)(hE:∀e∈es,Sh e)(hl:es.length≤4294967295):
  ∃r,D.E n es=some r∧(r=([],false)∨∃g,r=(g,true)∧GOk g):=by
 unfold D.E
 rw[DA,bs]
 by_cases hc:((!(decide ((1:Int)≤n)&&decide (n≤16)))||(decide ((120:Int)<(es.length:Int))))=true
 ·rw[hc];exact⟨_,rfl,.inl rfl⟩
 ·rw[Bool.not_eq_true] at hc
  rw[hc,cF]
  simp only[Bool.or_eq_false_iff,Bool.not_eq_eq_eq_not,Bool.not_false,Bool.and_eq_true,decide_eq_true_eq,decide_eq_false_iff_not] at hc
  obtain⟨m,rfl⟩:∃m:Nat,n=m:=⟨n.toNat,by omega⟩
  rw[l1Empty_eq m (by omega),bs]
  refine BT (λt=>∃i:Nat,t.1=(i:Int)∧i≤es.length∧GOk t.2∧t.2.length=m) (λt=>es.length-t.1.toNat) (λr=>(∃g,r= .inl g∧GOk g)∨r= .inr ([],false)) ?_ ⟨0,rfl,Nat.zero_le _,GOk.empty (by omega) (by omega),by simp⟩ (λr hr=> ?_)
  ·rintro⟨_,g⟩ ⟨i,rfl,hi,hg,hgl⟩
   dsimp only at hg hgl ⊢
   by_cases hil:i<es.length
   ·have hs:=hE _ (List.getElem_mem hil)
    simp only[dlt hil,cT,AS hil,bs,l1Set_eq _ (m:Int) hs (by omega) (by omega),wq i]
    by_cases h2:es[i].length=2
    ·have e2:((es[i].length:Int) !=2)=false:=by simp;omega
     rw[e2,cF,bs]
     cases hb:Cv es[i] m
     ·exact⟨_,rfl,.inr rfl⟩
     ·obtain⟨a,b,e,h3,h4⟩:=D5 h2 hb
      obtain⟨g',k1,k2,k3,_⟩:=CO hg (u:=a) (v:=b) (by omega) (by omega) (by omega)
      have i0:idx [(a:Int),(b:Int)] 0=some (a:Int):=rfl
      have i1:idx [(a:Int),(b:Int)] 1=some (b:Int):=rfl
      rw[Bool.not_true,cF,e,i0,i1,bs,bs,k1,bs]
      exact⟨_,rfl,⟨i+1,rfl,by omega,k2,by dsimp only;omega⟩,by dsimp only;omega⟩
    ·have e2:((es[i].length:Int) !=2)=true:=by simp;omega
     rw[e2]
     exact⟨_,rfl,.inr rfl⟩
   ·obtain rfl:i=es.length:=by omega
    simp only[Bb,cF]
    exact⟨_,rfl,.inl ⟨g,rfl,hg⟩⟩
  ·rcases hr with⟨g,rfl,hg⟩|rfl
   ·exact⟨_,rfl,.inr ⟨g,rfl,hg⟩⟩
   ·exact⟨_,rfl,.inl rfl⟩
theorem EB (F:LI):D.e0 F=D.C F:=rfl
theorem FOk.zero (n:Nat):FOk (List.replicate n 0) n:=by
 have h0:∀u,(List.replicate n (0:Int)).getD u 0=0:=λu=>by
  rw[List.getD_eq_getElem?_getD,List.getElem?_replicate];split<;>rfl
 have hz:∀u w,nb (List.replicate n 0) u w=false:=λu w=>by unfold nb;rw[h0];exact CM w
 exact⟨by simp,λu _=>by rw[h0];exact VS.zero,λu w _ h=>(by rw[hz] at h;cases h),λu _=>hz u u,λu w _ h=>(by rw[hz] at h;cases h)⟩
def Ej (es:LL)(u w:Nat):Prop:=[(u:Int),(w:Int)]∈es∨[(w:Int),(u:Int)]∈es
theorem C3 (n:Int)(es:LL)(hE:∀e∈es,Sh e)(hl:es.length≤4294967295):
  ∃r,D.c0 n es=some r∧(r=([],false)∧¬(1≤n∧n≤16∧es.length≤120∧∀e∈es,Dv n.toNat e)∨∃F,r=(grow F,true)∧FOk F n.toNat∧1≤n∧n≤16∧∀u w,u<n.toNat→(nb F u w=true↔Ej es u w)):=by
 unfold D.c0
 rw[inRange_eq,bs]
 by_cases hc:((!(decide ((1:Int)≤n)&&decide (n≤16)))||(decide ((120:Int)<(es.length:Int))))=true
 ·rw[hc]
  refine⟨_,rfl,.inl ⟨rfl,λh=> ?_⟩⟩
  simp at hc
  omega
 ·rw[Bool.not_eq_true] at hc
  rw[hc,cF]
  simp only[Bool.or_eq_false_iff,Bool.not_eq_eq_eq_not,Bool.not_false,Bool.and_eq_true,decide_eq_true_eq,decide_eq_false_iff_not] at hc
  obtain⟨m,rfl⟩:∃m:Nat,n=m:=⟨n.toNat,by omega⟩
  rw[makeD_ok (Int.le_refl _) (by omega),bs,Int.toNat_natCast]
  refine BT (λt=>∃i:Nat,t.2=(i:Int)∧i≤es.length∧FOk t.1 m∧(∀u w,u<m→(nb t.1 u w=true↔Ej (es.take i) u w))) (λt=>es.length-t.2.toNat)
   (λr=>(∃F,r= .inl F∧FOk F m∧∀u w,u<m→(nb F u w=true↔Ej es u w))∨r= .inr ([],false)∧¬∀e∈es,Dv m e) ?_ ⟨0,rfl,Nat.zero_le _,FOk.zero m,λu w _=>by
    have:nb (List.replicate m 0) u w=false:=by
     unfold nb
     have h0:(List.replicate m (0:Int)).getD u 0=0:=by rw[List.getD_eq_getElem?_getD,List.getElem?_replicate];split<;>rfl
     rw[h0];exact CM w
    rw[this];simp[Ej]⟩ (λr hr=> ?_)
  ·rintro⟨F,_⟩ ⟨i,rfl,hi,hF,hn⟩
   dsimp only at hF hn ⊢
   by_cases hil:i<es.length
   ·have hs:=hE _ (List.getElem_mem hil)
    simp only[dlt hil,cT,AS hil,bs,DT _ (m:Int) hs (by omega) (by omega),wq i]
    by_cases h2:es[i].length=2
    ·have e2:((es[i].length:Int) !=2)=false:=by simp;omega
     rw[e2,cF,bs]
     cases hb:Cv es[i] m
     ·refine⟨_,rfl,.inr ⟨rfl,λh=> ?_⟩⟩
      have:=(edgeIn_iff.1 (h _ (List.getElem_mem hil))).2
      rw[hb] at this;cases this
     ·obtain⟨a,b,e,h3,h4⟩:=D5 h2 hb
      obtain⟨y,k1,k2,k3,k4⟩:=nets_join_ok (show m≤16 by omega) hF.len hF.vs (v:=a) (t:=b) (by omega) h4 (by omega)
      have i0:idx [(a:Int),(b:Int)] 0=some (a:Int):=rfl
      have i1:idx [(a:Int),(b:Int)] 1=some (b:Int):=rfl
      rw[Bool.not_true,cF,e,i0,i1,bs,bs,k1,bs]
      have hk:∀u w,u<m→(nb y u w=true↔Ej (es.take (i+1)) u w):=λu w hu=>by
       rw[k4 u w hu,List.take_succ_eq_append_getElem hil,e]
       simp only[Bool.or_eq_true,Bool.and_eq_true,decide_eq_true_eq,hn u w hu,Ej,List.mem_append,List.mem_singleton,List.cons.injEq,and_true]
       constructor
       ·rintro((h|h)|⟨rfl,rfl⟩)
        ·rcases h with h|h
         ·exact .inl (.inl h)
         ·exact .inr (.inl h)
        ·obtain⟨rfl,rfl⟩:=h;exact .inl (.inr ⟨rfl,rfl⟩)
        ·exact .inr (.inr ⟨rfl,rfl⟩)
       ·rintro((h|⟨h,h'⟩)|(h|⟨h,h'⟩))
        ·exact .inl (.inl (.inl h))
        ·exact .inl (.inr ⟨by omega,by omega⟩)
        ·exact .inl (.inl (.inr h))
        ·exact .inr ⟨by omega,by omega⟩
      refine⟨_,rfl,⟨i+1,rfl,by omega,⟨k2,k3,λu w hu h=> ?_,λu hu=> ?_,λu w hu h=> ?_⟩,hk⟩,by dsimp only;omega⟩
      ·rw[k4 u w hu] at h
       simp only[Bool.or_eq_true,Bool.and_eq_true,decide_eq_true_eq] at h
       rcases h with(h|h)|h
       ·exact hF.lt u w hu h
       ·omega
       ·omega
      ·rw[k4 u u hu,hF.irr u hu]
       simp;omega
      ·have hw:w<m:=by
        rw[k4 u w hu] at h
        simp only[Bool.or_eq_true,Bool.and_eq_true,decide_eq_true_eq] at h
        rcases h with(h|h)|h
        ·exact hF.lt u w hu h
        ·omega
        ·omega
       rw[hk u w hu] at h
       rw[hk w u hw]
       exact h.symm
    ·have e2:((es[i].length:Int) !=2)=true:=by simp;omega
     rw[e2]
     refine⟨_,rfl,.inr ⟨rfl,λh=> ?_⟩⟩
     exact h2 (edgeIn_iff.1 (h _ (List.getElem_mem hil))).1
   ·obtain rfl:i=es.length:=by omega
    rw[List.take_length] at hn
    simp only[Bb,cF]
    exact⟨_,rfl,.inl ⟨F,rfl,hF,hn⟩⟩
  ·rcases hr with⟨F,rfl,hF,hn⟩|⟨rfl,hn⟩
   ·refine⟨(grow F,true),?_,.inr ⟨F,rfl,hF,by omega,by omega,hn⟩⟩
    show (D.e0 F).bind _=_
    rw[EB,nets_graph_eq F (by rw[hF.len];omega) (λu hu=>hF.vs u (by rw[hF.len] at hu;exact hu))]
    rfl
   ·exact⟨_,rfl,.inl ⟨rfl,λh=>hn (by simpa using h.2.2.2)⟩⟩
theorem GOk.same {g h:LL}(hg:GOk g)(hh:GOk h)(hl:g.length=h.length)(ha:∀u w:Nat,u<g.length→(adj g u w↔adj h u w)):g=h:=by
 rw[←grow_of hg,←grow_of hh]
 congr 1
 refine FOk.ext (n:=g.length) (by simp) (by simp[hl]) (FOk.of hg).vs (by have:=(FOk.of hh).vs;rw[←hl] at this;exact this) (λu w hu=> ?_)
 rw[Bool.eq_iff_iff,Dd hg hu,Dd hh (by omega)]
 exact ha u w hu
theorem DD {g:LL}(hg:GOk g):∀e∈AJ g,Dv g.length e:=by
 intro e he
 obtain⟨u,v,h1,h2,h3,rfl⟩:=(B9 hg _).1 he
 exact⟨u,v,rfl,h3,hg.lt h1 h2⟩
theorem edges_ej {g:LL}(hg:GOk g){u w:Nat}(hu:u<g.length):Ej (AJ g) u w↔adj g u w:=by
 unfold Ej
 rw[B9 hg,B9 hg]
 constructor
 ·rintro(⟨a,b,h1,h2,h3,e⟩|⟨a,b,h1,h2,h3,e⟩)
  ·simp only[List.cons.injEq,and_true] at e
   obtain⟨e1,e2⟩:=e
   obtain rfl:u=a:=by omega
   obtain rfl:w=b:=by omega
   exact h2
  ·simp only[List.cons.injEq,and_true] at e
   obtain⟨e1,e2⟩:=e
   obtain rfl:w=a:=by omega
   obtain rfl:u=b:=by omega
   exact hg.sym w u h1 h2
 ·intro h
  have hw:=hg.lt hu h
  rcases Nat.lt_trichotomy u w with h1|h1|h1
  ·exact .inl ⟨u,w,hu,h,h1,rfl⟩
  ·subst h1;exact absurd h (hg.irr u hu)
  ·exact .inr ⟨w,u,hw,hg.sym u w hu h,h1,rfl⟩
theorem Sh.two {a b:Int}:Sh [a,b]:=by simp[Sh]
theorem edges_sh {g:LL}(hg:GOk g):∀e∈AJ g,Sh e:=by
 intro e he
 obtain⟨u,v,h1,h2,h3,rfl⟩:=(B9 hg _).1 he
 exact Sh.two
theorem D2 {g:LL}(hg:GOk g):D.E (g.length:Int) (AJ g)=some (g,true):=by
 obtain⟨h,e,h1,h2,h3⟩:=GraphOf_ok g.length (AJ g) hg.n1 hg.n16 (Ck hg) (DD hg)
 rw[e]
 have:g=h:=hg.same h1 h2.symm (λu w hu=>by
  rw[h3,←edges_ej hg hu]
  unfold Ej
  constructor
  ·rintro(h|h)
   ·obtain⟨a,b,e,h4,_⟩:=DD hg _ h
    simp only[List.cons.injEq,and_true] at e
    exact .inl ⟨h,by omega⟩
   ·obtain⟨a,b,e,h4,_⟩:=DD hg _ h
    simp only[List.cons.injEq,and_true] at e
    exact .inr ⟨h,by omega⟩
  ·rintro(h|h)
   ·exact .inl h.1
   ·exact .inr h.1)
 rw[←this]
theorem DV {g:LL}(hg:GOk g):D.c0 (g.length:Int) (AJ g)=some (g,true):=by
 have h120:=Ck hg
 have n1:=hg.n1
 have n16:=hg.n16
 obtain⟨r,e,h⟩:=C3 (g.length:Int) (AJ g) (edges_sh hg) (by omega)
 rw[e]
 rcases h with⟨_,h⟩|⟨F,rfl,hF,_,_,hn⟩
 ·exact absurd ⟨by omega,by omega,h120,by simpa using DD hg⟩ h
 ·rw[Int.toNat_natCast] at hF hn
  have:g.map mk=F:=FOk.ext (n:=g.length) (by simp) hF.len (FOk.of hg).vs hF.vs (λu w hu=>by
   rw[Bool.eq_iff_iff,Dd hg hu,hn u w hu,edges_ej hg hu])
  rw[←this,grow_of hg]
end Go.Sx

namespace Go.Sx
open Go
theorem CH {s:ByteArray}(hs:(byt s).length≤1048576)(c:UInt8):D.s s (c.toNat:Int)=some ((spl c (byt s)).map tx):=by
 obtain⟨w,e,h⟩:=l1Split_ok hs c
 rw[e,←h,List.map_map]
 congr 1
 refine(List.map_id w).symm.trans (List.map_congr_left λx _=> ?_)
 exact(Dm x).symm
theorem Cr {s:ByteArray}(hs:(byt s).length≤1048576)(c:UInt8):D.q s (tx [c])=some (tx (Lib.cut (byt s) [c]).1,tx (Lib.cut (byt s) [c]).2.1,(Lib.cut (byt s) [c]).2.2):=by
 unfold D.q
 rw[if_pos (by rw[A8];omega)]
theorem CA {s:ByteArray}(hs:(byt s).length≤1048576)(c:UInt8):D.u s (tx [c])=some ((spl c (byt s)).map tx):=by
 unfold D.u
 rw[if_pos ⟨by rw[A8];omega,by rw[size_tx];simp⟩,←split_eq c s,List.map_map]
 congr 1
 refine(List.map_id _).symm.trans (List.map_congr_left λx _=> ?_)
 exact(Dm x).symm
theorem cut_len (x:List UInt8)(c:UInt8):(Lib.cut x [c]).1.length≤x.length∧(Lib.cut x [c]).2.1.length≤x.length:=by
 by_cases h:c∈x
 ·obtain⟨a,b,rfl,ha⟩:=spl_has h
  rw[cut_app ha];simp;omega
 ·rw[cut_no h];simp
theorem spl_flat {x:List UInt8}(hx:(32:UInt8)∉x):∀{l:LL},(∀e∈l,(32:UInt8)∉etx e)→spl 32 (x++l.flatMap λe=>32::etx e)=x::l.map etx:=by
 intro l
 induction l generalizing x with
 |nil=>intro _;rw[List.flatMap_nil,List.append_nil,spl_no hx];rfl
 |cons e l ih=>
  intro h
  rw[List.flatMap_cons,List.cons_append,Dr hx,ih (h e (by simp)) (λz hz=>h z (by simp[hz]))]
  rfl
theorem etx_nat (u v:Nat):etx [(u:Int),(v:Int)]=num u++45::num v:=rfl
theorem etx_no {g:LL}(hg:GOk g):∀e∈AJ g,(32:UInt8)∉etx e:=by
 have h16:=hg.n16
 intro e he
 obtain⟨u,v,h1,h2,h3,rfl⟩:=(B9 hg _).1 he
 have:=hg.lt h1 h2
 rw[etx_nat]
 have a:=Da (show u<17 by omega) (c:=32) (.inl (by decide))
 have b:=Da (show v<17 by omega) (c:=32) (.inl (by decide))
 simp[a,b]
theorem Ej2 {g:LL}(hg:GOk g){i:Nat}(hi:i<(AJ g).length):∃u v:Nat,(AJ g)[i]=[(u:Int),(v:Int)]∧u<17∧v<17:=by
 have h16:=hg.n16
 obtain⟨u,v,h1,h2,h3,_⟩:=edge_nat hg hi
 exact⟨u,v,h1,by omega,by omega⟩
theorem D3 {s:ByteArray}(hs:(byt s).length≤1048576):∃r,D.N s=some r∧(r=([],false)∨∃g,r=(g,true)∧GOk g∧byt s=txg g):=by
 unfold D.N
 rw[A8]
 by_cases h8:(800:Int)<((byt s).length:Int)
 ·rw[decide_eq_true h8];exact⟨_,rfl,.inl rfl⟩
 rw[decide_eq_false h8,cF,show (32:Int)=((32:UInt8).toNat:Int) from rfl,CH hs,bs]
 have hW:∀x∈(spl 32 (byt s)).map tx,(byt x).length≤800:=λx hx=>by
  obtain⟨y,hy,rfl⟩:=List.mem_map.1 hx
  have:=C9 32 (byt s) y hy
  rw[Bf];omega
 have hWl:((spl 32 (byt s)).map tx).length≤801:=by have:=Dt 32 (byt s);rw[List.length_map];omega
 have hW1:1≤((spl 32 (byt s)).map tx).length:=by
  have:=List.length_pos_iff.2 (spl_ne 32 (byt s));rw[List.length_map];exact this
 generalize (spl 32 (byt s)).map tx=w at hW hWl hW1
 have i0:idx w 0=some (w[0]'(by omega)):=AS (i:=0) (by omega)
 have hx:=hW _ (List.getElem_mem (show 0<w.length by omega))
 generalize w[0]'(by omega)=x at i0 hx
 simp only[i0,bs,A8 x]
 by_cases h2:((byt x).length:Int)<2
 ·rw[decide_eq_true h2];exact⟨_,rfl,.inl rfl⟩
 rw[decide_eq_false h2,cF,w64 (x:=((byt x).length:Int)-1) (by omega) (by omega)]
 have hn:((byt x).length:Int)-1=(((byt x).length-1:Nat):Int):=by omega
 rw[hn,Cj (i:=(byt x).length-1) (by omega),bs,bs]
 cases ((((byt x)[(byt x).length-1]'(by omega)).toNat:Int) !=58)
 rotate_left
 ·exact⟨_,rfl,.inl rfl⟩
 rw[cF,show (0:Int)=((0:Nat):Int) from rfl,DP (Nat.zero_le _) (Nat.sub_le _ _),bs]
 obtain⟨⟨n,ok⟩,e1⟩:=D1 (tx (((byt x).take ((byt x).length-1)).drop 0))
 rw[e1,bs]
 refine BT (λt=>∃i:Nat,t.2=(i:Int)∧i≤w.length∧t.1.length≤i∧∀e∈t.1,Sh e) (λt=>w.length-t.2.toNat)
  (λr=>(∃l:LL,r= .inl l∧l.length≤801∧∀e∈l,Sh e)∨r= .inr ([],false)) ?_ ⟨1,rfl,hW1,by simp,by simp⟩ (λr hr=> ?_)
 ·rintro⟨l,_⟩ ⟨i,rfl,hi,hl,hE⟩
  dsimp only at hl hE ⊢
  by_cases hil:i<w.length
  ·have hwi:=hW _ (List.getElem_mem hil)
   simp only[dlt hil,cT,AS hil,bs]
   rw[show (45:Int)=((45:UInt8).toNat:Int) from rfl,CH (by omega),bs]
   generalize (spl 45 (byt w[i])).map tx=z
   by_cases hz:z.length=2
   ·have e2:((z.length:Int) !=2)=false:=by simp;omega
    have j0:idx z 0=some (z[0]'(by omega)):=AS (i:=0) (by omega)
    have j1:idx z 1=some (z[1]'(by omega)):=AS (i:=1) (by omega)
    obtain⟨⟨u,o1⟩,r1⟩:=D1 (z[0]'(by omega))
    obtain⟨⟨v,o2⟩,r2⟩:=D1 (z[1]'(by omega))
    simp only[e2,cF,show ((0:Nat):Int)=0 from rfl,j0,j1,bs,r1,r2,wq i]
    cases hb:(!o1|| !o2)
    ·rw[cF,AW (by simp;omega),bs]
     refine⟨_,rfl,⟨i+1,rfl,by omega,by simp;omega,λe he=> ?_⟩,by dsimp only;omega⟩
     rcases List.mem_append.1 he with he|he
     ·exact hE e he
     ·rw[List.mem_singleton.1 he];exact Sh.two
    ·exact⟨_,rfl,.inr rfl⟩
   ·have e2:((z.length:Int) !=2)=true:=by simp;omega
    rw[e2]
    exact⟨_,rfl,.inr rfl⟩
  ·obtain rfl:i=w.length:=by omega
   simp only[Bb,cF]
   exact⟨_,rfl,.inl ⟨l,rfl,by omega,hE⟩⟩
 ·rcases hr with⟨l,rfl,hl,hE⟩|rfl
  ·obtain⟨r,e3,h3⟩:=Ev n l hE (by omega)
   dsimp only
   rw[e3,bs]
   rcases h3 with rfl|⟨g,rfl,hg⟩
   ·dsimp only
    rw[Bool.not_false,Bool.or_true,cT]
    exact⟨_,rfl,.inl rfl⟩
   ·dsimp only
    rw[Bool.not_true,Bool.or_false,Cs hg,bs,BN]
    cases ok
    ·exact⟨_,rfl,.inl rfl⟩
    ·by_cases ht:byt (tx (txg g))=byt s
     ·rw[decide_eq_true ht];exact⟨_,rfl,.inr ⟨g,rfl,hg,ht.symm⟩⟩
     ·rw[decide_eq_false ht];exact⟨_,rfl,.inl rfl⟩
  ·exact⟨_,rfl,.inl rfl⟩
theorem DW {g:LL}(hg:GOk g):D.N (tx (txg g))=some (g,true):=by
 have h16:=hg.n16
 have h120:=Ck hg
 have hl:=txg_len hg
 have hn:=BI (show g.length<17 by omega)
 unfold D.N
 rw[A8,Bf]
 have h8:¬(800:Int)<((txg g).length:Int):=by omega
 rw[decide_eq_false h8,cF,show (32:Int)=((32:UInt8).toNat:Int) from rfl,CH (by rw[Bf];omega),bs,Bf]
 have hs:spl 32 (txg g)=(num g.length++[58])::(AJ g).map etx:=by
  have:txg g=(num g.length++[58])++(AJ g).flatMap λe=>32::etx e:=by simp[txg]
  rw[this]
  refine spl_flat ?_ (etx_no hg)
  have:=Da (show g.length<17 by omega) (c:=32) (.inl (by decide))
  simp[this]
 rw[hs,List.map_cons]
 have i0:idx (tx (num g.length++[58])::((AJ g).map etx).map tx) 0=some (tx (num g.length++[58])):=rfl
 simp only[i0,bs]
 have hz:(tx (num g.length++[58])).size=(num g.length).length+1:=by rw[size_tx];simp
 rw[hz]
 have d2:decide ((((num g.length).length+1:Nat):Int)<2)=false:=decide_eq_false (by omega)
 have w1:IntKind.i64.wrap ((((num g.length).length+1:Nat):Int)-1)=(((num g.length).length:Nat):Int):=by rw[w64 (by omega) (by omega)];omega
 have s1:Bn (tx (num g.length++[58])) (((num g.length).length:Nat):Int)=some 58:=by
  rw[Cj (by rw[Bf];simp)]
  simp[Bf]
 have s2:sPart (tx (num g.length++[58])) 0 (((num g.length).length:Nat):Int)=some (tx (num g.length)):=by
  have:=DP (s:=tx (num g.length++[58])) (Nat.zero_le (num g.length).length) (by rw[Bf];simp)
  rw[Bf] at this
  simpa using this
 have b58:((58:Int) !=58)=false:=rfl
 simp only[d2,cF,w1,s1,b58,bs,s2,DN (show g.length<17 by omega)]
 refine(BZ (λi=>((AJ g).take i,((i+1:Nat):Int))) (AJ g).length (.inl (AJ g)) (by simp) (λi hi=> ?_) ?_).trans ?_
 ·obtain⟨u,v,e1,h1,h2⟩:=Ej2 hg hi
  have hlt:i+1<(tx (num g.length++[58])::((AJ g).map etx).map tx).length:=by simp;omega
  have hx:idx (tx (num g.length++[58])::((AJ g).map etx).map tx) ((i+1:Nat):Int)=some (tx (num u++45::num v)):=by
   rw[AS hlt]
   simp[e1,etx_nat]
  have hlen:(num u++45::num v).length≤1048576:=by
   have:=BI h1;have:=BI h2;simp;omega
  have hsp:D.s (tx (num u++45::num v)) 45=some [tx (num u),tx (num v)]:=by
   rw[show (45:Int)=((45:UInt8).toNat:Int) from rfl,CH (by rw[Bf];exact hlen),Bf,Dr (Da h1 (.inl (by decide))),spl_no (Da h2 (.inl (by decide)))]
   rfl
  have j0:idx [tx (num u),tx (num v)] 0=some (tx (num u)):=rfl
  have j1:idx [tx (num u),tx (num v)] 1=some (tx (num v)):=rfl
  have l2:((([tx (num u),tx (num v)]).length:Int) !=2)=false:=rfl
  simp only[dlt hlt,cT,hx,bs,hsp,l2,cF,j0,j1,DN h1,DN h2,Bool.not_true,Bool.or_self,wi (show i+1<4611686018427387904 by omega)]
  rw[AW (by simp;omega),bs,List.take_succ_eq_append_getElem hi,e1]
 ·have:(((AJ g).length+1:Nat):Int)=(((tx (num g.length++[58])::((AJ g).map etx).map tx).length:Nat):Int):=by simp
  simp only[this,Bb,cF,List.take_length]
 ·dsimp only
  rw[D2 hg,bs]
  dsimp only
  rw[Cs hg,bs,BN]
  simp
theorem DZ {s:ByteArray}(hs:(byt s).length≤1048576):∃r,D.t s=some r∧(r=([],false)∨∃g,r=(g,true)∧GOk g∧byt s=txg g):=by
 unfold D.t
 rw[show (⟨#[58]⟩:ByteArray)=tx [58] from rfl,Cr hs,bs]
 have hcl:=cut_len (byt s) 58
 generalize Lib.cut (byt s) [58]=c at hcl
 obtain⟨a,b,fo⟩:=c
 dsimp only at hcl ⊢
 obtain⟨⟨n,ok⟩,e1⟩:=CW (tx a)
 rw[e1,bs,A8]
 by_cases hc:(((decide ((800:Int)<((byt s).length:Int)))||(!fo))||(!ok))=true
 ·rw[hc];exact⟨_,rfl,.inl rfl⟩
 rw[Bool.not_eq_true] at hc
 rw[hc,cF]
 simp only[Bool.or_eq_false_iff,decide_eq_false_iff_not] at hc
 have h8:=hc.1.1
 rw[show (⟨#[32]⟩:ByteArray)=tx [32] from rfl,CA (by rw[Bf];omega),bs,Bf]
 have hW:∀x∈(spl 32 b).map tx,(byt x).length≤800:=λx hx=>by
  obtain⟨y,hy,rfl⟩:=List.mem_map.1 hx
  have:=C9 32 b y hy
  rw[Bf];omega
 have hWl:((spl 32 b).map tx).length≤801:=by have:=Dt 32 b;rw[List.length_map];omega
 generalize (spl 32 b).map tx=w at hW hWl
 refine BT (λt=>∃i:Nat,t.2=(i:Int)∧i≤w.length∧t.1.length≤i∧∀e∈t.1,Sh e) (λt=>w.length-t.2.toNat)
  (λr=>(∃l:LL,r= .inl l∧l.length≤801∧∀e∈l,Sh e)∨r= .inr ([],false)) ?_ ⟨0,rfl,Nat.zero_le _,by simp,by simp⟩ (λr hr=> ?_)
 ·rintro⟨l,_⟩ ⟨i,rfl,hi,hl,hE⟩
  dsimp only at hl hE ⊢
  by_cases hil:i<w.length
  ·have hwi:=hW _ (List.getElem_mem hil)
   simp only[dlt hil,cT,AS hil,bs,wq i]
   cases ((i:Int)==0)
   ·rw[cF,show (⟨#[45]⟩:ByteArray)=tx [45] from rfl,Cr (by omega),bs]
    generalize Lib.cut (byt w[i]) [45]=c
    obtain⟨p,q,f⟩:=c
    dsimp only
    obtain⟨⟨u,o1⟩,r1⟩:=CW (tx p)
    obtain⟨⟨v,o2⟩,r2⟩:=CW (tx q)
    rw[r1,bs,r2,bs]
    dsimp only
    cases hb:(!o1|| !o2)
    ·rw[cF,AW (by simp;omega),bs]
     refine⟨_,rfl,⟨i+1,rfl,by omega,by simp;omega,λe he=> ?_⟩,by dsimp only;omega⟩
     rcases List.mem_append.1 he with he|he
     ·exact hE e he
     ·rw[List.mem_singleton.1 he];exact Sh.two
    ·exact⟨_,rfl,.inr rfl⟩
   ·rw[cT]
    exact⟨_,rfl,⟨i+1,rfl,by omega,by dsimp only;omega,hE⟩,by dsimp only;omega⟩
  ·obtain rfl:i=w.length:=by omega
   simp only[Bb,cF]
   exact⟨_,rfl,.inl ⟨l,rfl,by omega,hE⟩⟩
 ·rcases hr with⟨l,rfl,hl,hE⟩|rfl
  ·obtain⟨r,e3,h3⟩:=C3 n l hE (by omega)
   dsimp only
   rw[e3,bs]
   rcases h3 with⟨rfl,_⟩|⟨F,rfl,hF,n1,n16,_⟩
   ·exact⟨_,rfl,.inl rfl⟩
   ·dsimp only
    have hg:=GOk.grow hF (by omega) (by omega)
    rw[Bool.not_true,cF,Cw hg,bs,BN,bs]
    by_cases ht:byt (tx (txg (grow F)))=byt s
    ·rw[decide_eq_true ht];exact⟨_,rfl,.inr ⟨_,rfl,hg,ht.symm⟩⟩
    ·rw[decide_eq_false ht];exact⟨_,rfl,.inl rfl⟩
  ·exact⟨_,rfl,.inl rfl⟩
theorem CS {g:LL}(hg:GOk g):D.t (tx (txg g))=some (g,true):=by
 have h16:=hg.n16
 have h120:=Ck hg
 have hl:=txg_len hg
 have hn:=BI (show g.length<17 by omega)
 unfold D.t
 rw[show (⟨#[58]⟩:ByteArray)=tx [58] from rfl,Cr (by rw[Bf];omega),bs,Bf]
 have hc:Lib.cut (txg g) [58]=(num g.length,(AJ g).flatMap (λe=>32::etx e),true):=cut_app (Da (by omega) (.inr (by decide))) _
 have hfl:((AJ g).flatMap (λe=>32::etx e)).length≤720:=by
  have:=DI hg (AJ g).length;rwa [List.take_length] at this
 rw[hc]
 dsimp only
 rw[CL (by omega),bs,A8,Bf]
 have h8:decide ((800:Int)<((txg g).length:Int))=false:=decide_eq_false (by omega)
 rw[h8,show (⟨#[32]⟩:ByteArray)=tx [32] from rfl,CA (by rw[Bf];omega),Bf]
 have hs:spl 32 ((AJ g).flatMap λe=>32::etx e)=[]::(AJ g).map etx:=spl_flat (x:=[]) (by simp) (etx_no hg)
 rw[hs,List.map_cons,bs]
 dsimp only[Bool.not_true,Bool.or_self,cF]
 have f0:(((AJ g).take 0,(0:Int)):LL×Int)=([],0):=by simp
 rw[Bj (s':=(([]:LL),1))]
 rotate_left
 ·have hp:decide ((0:Int)<(((tx []::((AJ g).map etx).map tx).length:Nat):Int))=true:=decide_eq_true (by simp)
  have i0:idx (tx []::((AJ g).map etx).map tx) 0=some (tx []):=rfl
  simp only[hp,cT,i0,bs]
  rfl
 refine(BZ (λi=>((AJ g).take i,((i+1:Nat):Int))) (AJ g).length (.inl (AJ g)) (by simp) (λi hi=> ?_) ?_).trans ?_
 ·obtain⟨u,v,e1,h1,h2⟩:=Ej2 hg hi
  have hlt:i+1<(tx []::((AJ g).map etx).map tx).length:=by simp;omega
  have hx:idx (tx []::((AJ g).map etx).map tx) ((i+1:Nat):Int)=some (tx (num u++45::num v)):=by
   rw[AS hlt]
   simp[e1,etx_nat]
  have hlen:(num u++45::num v).length≤1048576:=by
   have:=BI h1;have:=BI h2;simp;omega
  have hsp:D.q (tx (num u++45::num v)) ⟨#[45]⟩=some (tx (num u),tx (num v),true):=by
   rw[show (⟨#[45]⟩:ByteArray)=tx [45] from rfl,Cr (by rw[Bf];exact hlen),Bf,cut_app (Da h1 (.inl (by decide)))]
  have z0:(((i+1:Nat):Int)==0)=false:=by simp;omega
  simp only[dlt hlt,cT,hx,bs,z0,cF,hsp,CL h1,CL h2,Bool.not_true,Bool.or_self,wi (show i+1<4611686018427387904 by omega)]
  rw[AW (by simp;omega),bs,List.take_succ_eq_append_getElem hi,e1]
 ·have:(((AJ g).length+1:Nat):Int)=(((tx []::((AJ g).map etx).map tx).length:Nat):Int):=by simp
  simp only[this,Bb,cF,List.take_length]
 ·dsimp only
  rw[DV hg,bs]
  dsimp only
  rw[Cw hg,bs,BN]
  simp
theorem TextGraph_both {s:ByteArray}(hs:(byt s).length≤1048576):∃r,D.N s=some r∧D.t s=some r∧(r=([],false)∨∃g,r=(g,true)∧GOk g∧byt s=txg g):=by
 obtain⟨r,e,h⟩:=D3 hs
 rcases h with rfl|⟨g,rfl,hg,ht⟩
 ·obtain⟨r',e',h'⟩:=DZ hs
  rcases h' with rfl|⟨g,rfl,hg,ht⟩
  ·exact⟨_,e,e',.inl rfl⟩
  ·rw[←Dm s,ht,DW hg] at e
   cases e
 ·refine⟨_,e,?_,.inr ⟨g,rfl,hg,ht⟩⟩
  rw[←Dm s,ht,CS hg]
end Go.Sx
