/- Parts. -/
import Derived.Test.YtljcmdbpfeffcaaGreatDoorTa4
import Derived.Test.YtljcmdbpfeffcaaGreatDoorProg
import Derived.KernelRfl
set_option linter.unusedVariables false
set_option linter.unusedSimpArgs false
set_option linter.unusedSectionVars false
set_option maxRecDepth 100000
namespace Go.Proofs.YtljcmdbpfeffcaaGreatDoor
open Go Go.Sx
open Go.Proofs.Tryz Go.Proofs.YtljcmdbpfeffcaaGreatDoor.Tryz IntKind
variable {W w : World} {G : GH} {H : List Itm}
abbrev B6 (b:Nat)(p0 p1:Nat):Itm:=ib b 96 [Fw 111 #[(pb p0)],Fw 112 #[(pb p1)],Fv 113,Fv 60,Fv 61]
abbrev BR (b:Nat)(p0 p1:Nat):Itm:=ib b 96 [Fw 111 #[(pb p0)],Fw 112 #[(pb p1)],Fv 113,Fv 61,Fv 65]
theorem Ag96 :Agg prog 96 5:=⟨isAgg96,sizeOf96⟩
theorem Mf74 :KeyE prog 74 Bn:=KeyE.u32 underlying74
theorem CN :SlT prog 140 99 1 8 (.map none):=⟨underlying140,Tryz.t99,by kernel_rfl,by kernel_rfl,by kernel_rfl,by kernel_rfl⟩
theorem Pl94 :Cj prog 94:=isAgg94
theorem Pl91 :Cj prog 91:=isAgg91
theorem Pl99 :Cj prog 99:=isAgg99
theorem Pl98 :Cj prog 98:=isAgg98
theorem Pl92 :Cj prog 92:=isAgg92
theorem Pl93 :Cj prog 93:=isAgg93
theorem Wk.P {x0 x1:Int}(m:Mem W G w (H)){y:Bool}(hd:D.P x0 x1=some y):
  Calls prog 55 #[iv x0,iv x1] w (Res W G H (λ_ Ho v=>Ho=[]∧v=(.bool y))):=by
 refine Au (args:=[iv x0,iv x1]) (N:=18) [.tmp 4] func55 Z Z (lb Z) Z λa f=> ?_
 unfold D.P at hd
 refine Ae (Ac f Z λa f=>AF (Ab f Z λa f=>Ab f Z λa f=>Ai f Z Z b_xor λa f=>Ab f Z λa f=>Ab f Z λa f=>Ai f Z Z b_xor λa f=>l_o f (r_neg (f.e Z)) λa f=>Ai f Z Z Dx λa f=>Ac f Z λa f=>AF (Ab f Z λa f=>Ab f Z λa f=>Ai f Z Z Dx λa f=>Ai f Z Z Cw λa f=>Ac f Z λa f=>Aa (Ar ?_))))
 obtain rfl:=sj hd
 exact⟨[(.bool ((iand .i64 x0 (iand .i64 (ixor .i64 x0 x1) (i64.wrap (0-(ixor .i64 x0 x1))))) !=0))],f.g Z,f.d,_,[],gr,m,Z,Z⟩
theorem Wk.S {v0:Value}{x0:LI}{x1:Int}(m:Mem W G w (H))(h0:R1 G v0 x0){y:Bool}(hd:D.S x0 x1=some y):
  Calls prog 56 #[v0,iv x1] w (Res W G H (λ_ Ho v=>Ho=[]∧v=(.bool y))):=by
 refine Au (args:=[v0,iv x1]) (N:=27) [.tmp 4] func56 Z Z (lb Z) Z λa f=> ?_
 unfold D.S at hd
 refine Ae (Ac f Z λa f=>Aa (Ah (Ae (Ac f Z λa f=>Aa (Bd hd λaa ab hd=> ?_)))))
 refine AL (λa w=>∃q_55':Unit,aa= .inl q_55'∧∃(ac:GH),GLe G ac∧Fr a 27 []∧Mem W ac w (H)) ?_ ?_
 ·refine Al (AM (λad a w=>∃ae:Int,ae=ad∧∃(af:GH),GLe G af∧Fr a 27 [(0,v0),(1,iv x1),(5,iv ae)]∧Mem W af w (H)) ab ⟨_,Z,_,gr,f.k Z,m⟩ ?_)
  clear ab f m
  rintro ad ag ah ai a w ⟨ae,rfl,af,aj,f,m⟩
  refine have h0:=rd1 aj h0;Ah (Ae (Ab f Z λa f=>Ab f Z λa f=>AN underlying35 f Z Z h0 λa f=>Ai f Z Z AP λa f=>Aa ?_))
  rcases Ag ah with⟨ak,ah⟩|⟨ak,ah⟩
  ·refine Am f Z ak (An (Ah (Al (Ae (Ab f Z λa f=>Ab f Z λa f=>l_o f (C6 (f.e Z) ⟨_,underlying3⟩ underlying88) λa f=> ?_)))))
   obtain⟨al,ah⟩:=CL ah
   refine l_o f (Ek (f.e Z) (f.e Z) al) λa f=>Ai f Z Z Dx λa f=>Ai f Z Z Bf λa f=>Ab f Z λa f=>Bd ah λam an ah=> ?_
   refine Bk 8 (λa w=>∃ao,GLe af ao∧Mem W ao w (H)∧Fr a 27 [(0,v0),(1,iv x1),(5,iv ae),(9,(.bool (decide (ae<(x0.length:Int))))),(12,iv x1),(13,iv ae),(14,(.int .u64 (IntKind.u64.wrap ae))),(15,(iv (BZ .i64 x1 (IntKind.u64.wrap ae)))),(16,(iv (iand .i64 (BZ .i64 x1 (IntKind.u64.wrap ae)) 1))),(17,(.bool ((iand .i64 (BZ .i64 x1 (IntKind.u64.wrap ae)) 1)==1))),(18,(.bool ((iand .i64 (BZ .i64 x1 (IntKind.u64.wrap ae)) 1)==1))),(26,(.bool am))]) ?_ ?_
   ·rcases Ag an with⟨ap,an⟩|⟨ap,an⟩
    ·refine Ap f ap (Ab f Z λa f=>Ap f ap (Ab f Z λa f=>Ap f ap (Bd an λaq ar an=>AX T35 f Z Z Z h0 ar λau av a aw ax f=> ?_)))
     subst ax
     refine Ap f ap (Aw m Pl2 f Z Z aw λa f=>Ap f ap (Ab f Z λa f=>Ap f ap (Ai f Z Z Dx λa f=>Ap f ap (Ai f Z Z Cw λa f=>l_o f (AK (f.e Z) ap (f.e Z)) λa f=> ?_))))
     obtain rfl:=sj an
     exact⟨_,gr,m,f.k Z⟩
    ·refine Aq f ap λa f=>Aq f ap λa f=>Aq f ap λa f=>Aq f ap λa f=>Aq f ap λa f=>Aq f ap λa f=>Aq f ap λa f=>l_o f (AI (f.e Z) ap (f.e Z)) λa f=> ?_
     obtain rfl:=sj an
     exact⟨_,gr,m,f.k Z⟩
   ·rintro a w ⟨ao,ay,m,f⟩
    refine Aa ?_
    rcases Ag ah with⟨az,ah⟩|⟨az,ah⟩
    ·refine Am f Z az (Ae (Ac f Z λa f=>Aa (Ar ?_)))
     obtain rfl:=sj ah
     obtain rfl:=ai _ rfl
     obtain rfl:=sj hd
     exact⟨[(.bool false)],f.g Z,f.d,_,[],(gt aj ay),m,Z,Z⟩
    ·refine Ak f Z az (An (Aj (Ab f Z λa f=>Ai f Z Z AB λa f=>Ac f Z λa f=>Aa ?_)))
     obtain rfl:=sj ah
     exact⟨_,Z,_,Z,_,(gt aj ay),f.k Z,m⟩
  ·refine Ak f Z ak (AE Z ?_)
   obtain rfl:=sj ah
   obtain rfl:=ai _ rfl
   exact⟨_,Z,_,aj,f.weak trivial,m⟩
 ·rintro a w ⟨_,rfl,ac,aA,f,m⟩
  refine Ae (Ac f Z λa f=>Aa (Ar ?_))
  obtain rfl:=sj hd
  exact⟨[(.bool true)],f.g Z,f.d,_,[],aA,m,Z,Z⟩
theorem Wk.c0 {x0:Int}(m:Mem W G w (H)){y:(LI)}(hd:D.c0 x0=some y):
  Calls prog 57 #[iv x0] w (Res W G H (λG' Ho v=>∃r0:Value,∃i0:Itm,Ho=[i0]∧r0=v∧Ow R0 2 G' i0 r0 y)):=by
 refine Au (args:=[iv x0]) (N:=24) [.tmp 2] func57 Z Z (lb Z) Z λa f=> ?_
 unfold D.c0 at hd
 refine Ae (Ac f Z λa f=>AF (AO (R:=R0) (xs:=([]:LI)) (RI.one _) m T35 f Z Z Z (by decide) (All2.nil _) λaa ab w a m ac f=>Ac f Z λa f=>Aa (Ah (Ae (Ac f Z λa f=>Aa (Bd hd λad ae hd=> ?_))))))
 refine AL (λa w=>∃af:LI,af=ad∧∃(ag:GH) (ah:Value) (ai:Itm),GLe G ag∧Fr a 24 [(3,ah)]∧Mem W ag w (ai::H)∧Ow R0 2 ag ai ah af) ?_ ?_
 ·refine Al (AM (λaj a w=>∃ak:LI,∃al:Int,(ak,al)=aj∧∃(am:GH) (an:Value) (ao:Itm),GLe G am∧Fr a 24 [(0,iv x0),(3,an),(4,iv al)]∧Mem W am w (ao::H)∧Ow R0 2 am ao an ak) ae ⟨_,_,Z,_,ab,aa,gr,f.k Z,m,ac⟩ ?_)
  clear ae f m
  rintro aj ap aq ar a w ⟨ak,al,rfl,am,an,ao,au,f,m,av⟩
  refine Ah (Ae (Ab f Z λa f=>Ab f Z λa f=>l_o f (C6 (f.e Z) ⟨_,underlying2⟩ underlying88) λa f=> ?_))
  obtain⟨aw,aq⟩:=CL aq
  refine l_o f (Ek (f.e Z) (f.e Z) aw) λa f=>Ai f Z Z CK λa f=>Aa ?_
  rcases Ag aq with⟨ax,aq⟩|⟨ax,aq⟩
  ·refine Am f Z ax (An (Ah (Al (Ae (Ab f Z λa f=>Ab f Z λa f=>l_o f (C6 (f.e Z) ⟨_,underlying2⟩ underlying88) λa f=> ?_)))))
   obtain⟨ay,aq⟩:=CL aq
   refine l_o f (Ek (f.e Z) (f.e Z) ay) λa f=>Ai f Z Z Dx λa f=>Ai f Z Z Bf λa f=>Aa ?_
   rcases Ag aq with⟨az,aq⟩|⟨az,aq⟩
   ·refine Am f Z az (Aj (Ab f Z λa f=>Ab f Z λa f=>AO (R:=R0) (xs:=([al]:LI)) (RI.one _) m T35 f Z Z Z (by decide) (All2.cons Z (All2.nil _)) λaA aB w a m aC f=>Bd aq λaD aE aq=>A6 (RI.one _) 1 m av Z T35 Z (by decide) f Z Z Z (Ow.src (j:=0) aC m Z) aE λaF aG w a m aH f=>Ac f Z λa f=>Aa (Aj (Ab f Z λa f=>Ai f Z Z AB λa f=>Ac f Z λa f=>Aa (have m:=m.fr 1;have m:=m.eraseAt 1;?_)))))
    obtain rfl:=sj aq
    exact⟨_,Z,_,_,Z,_,aG,aF,au,f.k Z,m,aH⟩
   ·refine Ak f Z az (An (Aj (Ab f Z λa f=>Ai f Z Z AB λa f=>Ac f Z λa f=>Aa ?_)))
    obtain rfl:=sj aq
    exact⟨_,Z,_,_,Z,_,an,ao,au,f.k Z,m,av⟩
  ·refine Ak f Z ax (AE Z ?_)
   obtain rfl:=sj aq
   obtain rfl:=ar _ rfl
   exact⟨_,Z,_,an,ao,au,f.k Z,m,av⟩
 ·rintro a w ⟨af,rfl,ag,ah,ai,aI,f,m,aJ⟩
  refine Ae (Ab f Z λa f=>Ac f Z λa f=>Aa (Ar ?_))
  obtain rfl:=sj hd
  exact⟨[ah],f.g Z,f.d,_,[ai],aI,m,_,_,Z,Z,aJ⟩
theorem Wk.W0 {aa v1:Value}{ab:LL}{x1:LI}(m:Mem W G w (H))(ac:R2 G aa ab)(h1:R1 G v1 x1){y:(LI)×Int}(hd:D.W0 ab x1=some y):
  Calls prog 14 #[(.agg #[aa]),v1] w (Res W G H (λG' Ho v=>∃r0:Value,∃i0:Itm,Ho=[i0]∧v= .tuple #[r0,iv y.2]∧Ow R0 2 G' i0 r0 y.1)):=by
 refine Au (args:=[(.agg #[aa]),v1]) (N:=86) [.tmp 4,.tmp 5] func14 Z Z (lb Z) Z λa f=> ?_
 unfold D.W0 at hd
 refine Ae (A3 (cs:=[aa]) m f Z Z Z λad w a m f=>Ac f Z λa f=>Ac f Z λa f=>Aa (Ah (Ae (Ay 0 0 (ds:=[aa]) m Bh f Z Z Z Z Z λa f=>Bd hd λae af hd=>A2 f Z call40 (Wk.r m ac af) λag w ah m a f=>have ac:=rd2 ah ac;have h1:=rd1 ah h1;l_o f (Bj (f.e Z)) λa f=>Ab f Z λa f=>Bd hd λai aj hd=> ?_))))
 refine Bk 5 (λa w=>∃ak,GLe ag ak∧Mem W ak w (ib ad 29 [aa]::H)∧Fr a 86 [(0,(.agg #[aa])),(1,v1),(2,pb ad),(14,(.agg #[aa])),(15,(.bool ae)),(16,(.bool (!ae))),(17,(.bool (!ae))),(22,(.bool ai))]) ?_ ?_
 ·rcases Ag aj with⟨al,aj⟩|⟨al,aj⟩
  ·refine Aq f al λa f=>Aq f al λa f=>Aq f al λa f=>Aq f al λa f=>l_o f (AK (f.e Z) al (f.e Z)) λa f=> ?_
   obtain rfl:=sj aj
   exact⟨_,gr,m,f.k Z⟩
  ·refine Ap f al (Ay 0 0 (ds:=[aa]) m Bh f Z Z Z Z Z λa f=>Ap f al (Ab f Z λa f=>Ap f al (Bd aj λam an aj=>A2 f Z call51 (Wk.q1 m ac h1 an) λao w ap m a f=>Ap f al (l_o f (Bj (f.e Z)) λa f=>l_o f (AI (f.e Z) al (f.e Z)) λa f=> ?_))))
   obtain rfl:=sj aj
   exact⟨_,ap,m,f.k Z⟩
 ·rintro a w ⟨ak,aq,m,f⟩
  refine have ac:=rd2 aq ac;have h1:=rd1 aq h1;Aa ?_
  rcases Ag hd with⟨ar,hd⟩|⟨ar,hd⟩
  ·refine Am f Z ar (Ae (AO (R:=R0) (xs:=([]:LI)) (RI.one _) m T35 f Z Z Z (by decide) (All2.nil _) λau av w a m aw f=>Ac f Z λa f=>Ac f Z λa f=>Aa (Ar (have m:=m.eraseAt 1;?_))))
   obtain rfl:=sj hd
   exact⟨[av,(iv (-1))],⟨f.get _ _ Z,f.get _ _ Z,trivial⟩,f.d,_,[au],(gt ah aq),m,_,_,Z,Z,aw⟩
  ·refine Ak f Z ar (An (Ae (Ay 0 0 (ds:=[aa]) m Bh f Z Z Z Z Z λa f=>Bd hd λax ay hd=>BK f Z call52 (Wk.m m ac ay) λaz aA aB w aC m aD a f=>have ac:=rd2 aC ac;have h1:=rd1 aC h1;Ac f Z λa f=>AF (Ac f Z λa f=>AF (Ac f Z λa f=>Aa (Ah (Ae (Ac f Z λa f=>Aa (Bd hd λaE aF hd=> ?_)))))))))
   refine AL (λa w=>∃aG:Int,∃aH:Int,(aG,aH)=aE∧∃(aI:GH),GLe aB aI∧Fr a 86 [(7,iv aG),(8,iv aH)]∧Mem W aI w (H)) ?_ ?_
   ·refine Al (have m:=m.fr 1;AM (λaJ a w=>∃aK:Int,∃aL:Int,∃aM:Int,(aK,aL,aM)=aJ∧∃(aN:GH),GLe aB aN∧Fr a 86 [(1,v1),(2,pb ad),(6,az),(7,iv aK),(8,iv aL),(9,iv aM)]∧Mem W aN w (ib ad 29 [aa]::aA::H)) aF ⟨_,_,_,Z,_,gr,f.k Z,m⟩ ?_)
    clear aF f m
    rintro aJ aO aP aQ a w ⟨aK,aL,aM,rfl,aN,aR,f,m⟩
    refine have h1:=rd1 aR h1;have ac:=rd2 aR ac;have aD:=od1 aR aD;Ah (Ae (Ab f Z λa f=>Ay 0 0 (ds:=[aa]) m Bh f Z Z Z Z Z λa f=>Bd aP λaS aT aP=>A2 f Z call53 (Wk.F m ac aT) λaU w aV m a f=>have h1:=rd1 aV h1;have aD:=od1 aV aD;Ai f Z Z Fe λa f=>Aa ?_))
    rcases Ag aP with⟨aW,aP⟩|⟨aW,aP⟩
    ·refine Am f Z aW (An (Ah (Al (Ae (Ac f Z λa f=>Aa (Ah (Ae (Ac f Z λa f=>Aa (Bd aP λaX aY aP=> ?_)))))))))
     refine AL (λa w=>∃aZ:Int,aZ=aX∧∃(a0:GH),GLe aU a0∧Fr a 86 [(1,v1),(2,pb ad),(6,az),(7,iv aK),(8,iv aL),(9,iv aM),(10,iv aZ)]∧Mem W a0 w (ib ad 29 [aa]::aA::H)) ?_ ?_
     ·refine Al (AM (λa1 a w=>∃a2:Int,∃a3:Int,(a2,a3)=a1∧∃(a4:GH),GLe aU a4∧Fr a 86 [(1,v1),(2,pb ad),(6,az),(7,iv aK),(8,iv aL),(9,iv aM),(10,iv a2),(11,iv a3)]∧Mem W a4 w (ib ad 29 [aa]::aA::H)) aY ⟨_,_,Z,_,gr,f.k Z,m⟩ ?_)
      clear aY f m
      rintro a1 a5 a6 a7 a w ⟨a2,a3,rfl,a4,a8,f,m⟩
      refine have h1:=rd1 a8 h1;Ah (Ae (Ab f Z λa f=>Ab f Z λa f=>AN underlying35 f Z Z h1 λa f=>Ai f Z Z AP λa f=>Aa ?_))
      rcases Ag a6 with⟨a9,a6⟩|⟨a9,a6⟩
      ·refine Am f Z a9 (An (Ah (Al (Aj (Ab f Z λa f=>Ab f Z λa f=>Ab f Z λa f=>Bd a6 λba bb a6=>AX T35 f Z Z Z h1 bb λbc bd a be bf f=> ?_)))))
       subst bf
       refine Aw m Pl2 f Z Z be λa f=>Ab f Z λa f=>Ab f Z λa f=>l_o f (C6 (f.e Z) ⟨_,underlying3⟩ underlying88) λa f=> ?_
       obtain⟨bg,a6⟩:=CL a6
       refine l_o f (Ek (f.e Z) (f.e Z) bg) λa f=>Ai f Z Z Dx λa f=>Ai f Z Z Ei λa f=>Ai f Z Z AB λa f=>Ac f Z λa f=>Aa (Aj (Ab f Z λa f=>Ai f Z Z AB λa f=>Ac f Z λa f=>Aa ?_))
       obtain rfl:=sj a6
       exact⟨_,Z,_,_,Z,_,a8,f.k Z,m⟩
      ·refine Ak f Z a9 (AE Z ?_)
       obtain rfl:=sj a6
       obtain rfl:=a7 _ rfl
       exact⟨_,Z,_,a8,f.k Z,m⟩
     ·rintro a w ⟨aZ,rfl,a0,bh,f,m⟩
      refine have aD:=od1 bh aD;Ae (Ab f Z λa f=>Bd aP λbi bj aP=>A2 f Z call54 (Wk.z m bj) λbk w bl m a f=>have aD:=od1 bl aD;Ac f Z λa f=>AF (Ab f Z λa f=>Bd aP λbm bn aP=>A2 f Z call54 (Wk.z m bn) λbo w bp m a f=>have aD:=od1 bp aD;Ac f Z λa f=>Aa (Ah (Ae (Ab f Z λa f=>Ab f Z λa f=>Ai f Z Z AP λa f=>Ab f Z λa f=>Bd aP λbq br aP=> ?_)))))
      refine Bk 20 (λa w=>∃bs,GLe bo bs∧Mem W bs w (ib ad 29 [aa]::aA::H)∧Fr a 86 [(1,v1),(2,pb ad),(6,az),(7,iv aK),(8,iv aL),(9,iv aM),(10,iv aZ),(12,iv bi),(13,iv bm),(54,iv aZ),(55,iv aL),(56,(.bool (decide (aZ<aL)))),(57,(.bool (decide (aZ<aL)))),(77,(.bool bq))]) ?_ ?_
      ·rcases Ag br with⟨bt,br⟩|⟨bt,br⟩
       ·refine Aq f bt λa f=>Aq f bt λa f=>Aq f bt λa f=>Aq f bt λa f=>BO f Z Z Z λa f=>BO f Z Z Z λa f=>BO f Z Z Z λa f=>BO f Z Z Z λa f=>BO f Z Z Z λa f=>BO f Z Z Z λa f=>BO f Z Z Z λa f=>BO f Z Z Z λa f=>BO f Z Z Z λa f=>BO f Z Z Z λa f=>BO f Z Z Z λa f=>BO f Z Z Z λa f=>BO f Z Z Z λa f=>BO f Z Z Z λa f=>Aq f bt λa f=>l_o f (AK (f.e Z) bt (f.e Z)) λa f=> ?_
        obtain rfl:=sj br
        exact⟨_,gr,m,f.k Z⟩
       ·refine Ap f bt (Ab f Z λa f=>Ap f bt (Ab f Z λa f=>Ap f bt (Ai f Z Z Bf λa f=>Ap f bt (Ab f Z λa f=>Bd br λbu bv br=> ?_))))
        refine Bk 15 (λa w=>∃bw,GLe bo bw∧Mem W bw w (ib ad 29 [aa]::aA::H)∧Fr a 86 [(1,v1),(2,pb ad),(6,az),(7,iv aK),(8,iv aL),(9,iv aM),(10,iv aZ),(12,iv bi),(13,iv bm),(54,iv aZ),(55,iv aL),(56,(.bool (decide (aZ<aL)))),(57,(.bool (decide (aZ<aL)))),(58,iv aZ),(59,iv aL),(60,(.bool (aZ==aL))),(61,(.bool (aZ==aL))),(76,(.bool bu))]) ?_ ?_
        ·rcases Ag bv with⟨bx,bv⟩|⟨bx,bv⟩
         ·refine Ap f bx (Ab f Z λa f=>Ap f bx (Ab f Z λa f=>Ap f bx (Ai f Z Z CK λa f=>Ap f bx (Ab f Z λa f=>Bd bv λbz bA bv=> ?_))))
          refine Bk 10 (λa w=>∃bB,GLe bo bB∧Mem W bB w (ib ad 29 [aa]::aA::H)∧Fr a 86 [(1,v1),(2,pb ad),(6,az),(7,iv aK),(8,iv aL),(9,iv aM),(10,iv aZ),(12,iv bi),(13,iv bm),(54,iv aZ),(55,iv aL),(56,(.bool (decide (aZ<aL)))),(57,(.bool (decide (aZ<aL)))),(58,iv aZ),(59,iv aL),(60,(.bool (aZ==aL))),(61,(.bool (aZ==aL))),(62,iv bi),(63,iv bm),(64,(.bool (decide (bm<bi)))),(65,(.bool (decide (bm<bi)))),(75,(.bool bz))]) ?_ ?_
          ·rcases Ag bA with⟨bC,bA⟩|⟨bC,bA⟩
           ·refine Aq f bC λa f=>Aq f bC λa f=>Aq f bC λa f=>Aq f bC λa f=>BO f Z Z Z λa f=>BO f Z Z Z λa f=>BO f Z Z Z λa f=>BO f Z Z Z λa f=>Aq f bC λa f=>Ap f bx (l_o f (AK (f.e Z) bC (f.e Z)) λa f=> ?_)
            obtain rfl:=sj bA
            exact⟨_,gr,m,f.k Z⟩
           ·refine Ap f bC (Ab f Z λa f=>Ap f bC (Ab f Z λa f=>Ap f bC (Ai f Z Z Bf λa f=>Ap f bC (Ab f Z λa f=>Bd bA λbD bE bA=> ?_))))
            refine Bk 5 (λa w=>∃bF,GLe bo bF∧Mem W bF w (ib ad 29 [aa]::aA::H)∧Fr a 86 [(1,v1),(2,pb ad),(6,az),(7,iv aK),(8,iv aL),(9,iv aM),(10,iv aZ),(12,iv bi),(13,iv bm),(54,iv aZ),(55,iv aL),(56,(.bool (decide (aZ<aL)))),(57,(.bool (decide (aZ<aL)))),(58,iv aZ),(59,iv aL),(60,(.bool (aZ==aL))),(61,(.bool (aZ==aL))),(62,iv bi),(63,iv bm),(64,(.bool (decide (bm<bi)))),(65,(.bool (decide (bm<bi)))),(66,iv bi),(67,iv bm),(68,(.bool (bi==bm))),(69,(.bool (bi==bm))),(74,(.bool bD))]) ?_ ?_
            ·rcases Ag bE with⟨bG,bE⟩|⟨bG,bE⟩
             ·refine Ap f bG (Ab f Z λa f=>Ap f bG (Ab f Z λa f=>Ap f bG (Bd bE λbH bI bE=>A2 f Z call55 (Wk.P m bI) λbJ w bK m a f=>Ap f bG (l_o f (Bj (f.e Z)) λa f=>Ap f bC (l_o f (AK (f.e Z) bG (f.e Z)) λa f=> ?_)))))
              obtain rfl:=sj bE
              exact⟨_,bK,m,f.k Z⟩
             ·refine Aq f bG λa f=>Aq f bG λa f=>Aq f bG λa f=>Aq f bG λa f=>Ap f bC (l_o f (AI (f.e Z) bG (f.e Z)) λa f=> ?_)
              obtain rfl:=sj bE
              exact⟨_,gr,m,f.k Z⟩
            ·rintro a w ⟨bF,bL,m,f⟩
             refine Ap f bx (l_o f (AI (f.e Z) bC (f.e Z)) λa f=> ?_)
             obtain rfl:=sj bA
             exact⟨_,bL,m,f.k Z⟩
          ·rintro a w ⟨bB,bM,m,f⟩
           refine Ap f bt (l_o f (AK (f.e Z) bx (f.e Z)) λa f=> ?_)
           obtain rfl:=sj bv
           exact⟨_,bM,m,f.k Z⟩
         ·refine Aq f bx λa f=>Aq f bx λa f=>Aq f bx λa f=>Aq f bx λa f=>BO f Z Z Z λa f=>BO f Z Z Z λa f=>BO f Z Z Z λa f=>BO f Z Z Z λa f=>BO f Z Z Z λa f=>BO f Z Z Z λa f=>BO f Z Z Z λa f=>BO f Z Z Z λa f=>BO f Z Z Z λa f=>Aq f bx λa f=>Ap f bt (l_o f (AI (f.e Z) bx (f.e Z)) λa f=> ?_)
          obtain rfl:=sj bv
          exact⟨_,gr,m,f.k Z⟩
        ·rintro a w ⟨bw,bN,m,f⟩
         refine l_o f (AI (f.e Z) bt (f.e Z)) λa f=> ?_
         obtain rfl:=sj br
         exact⟨_,bN,m,f.k Z⟩
      ·rintro a w ⟨bs,bO,m,f⟩
       refine have aD:=od1 bO aD;Aa ?_
       rcases Ag aP with⟨bP,aP⟩|⟨bP,aP⟩
       ·refine Am f Z bP (AE Z (Aj (Ab f Z λa f=>Ai f Z Z AB λa f=>Ac f Z λa f=>Aa ?_)))
        obtain rfl:=sj aP
        exact⟨_,Z,_,_,_,Z,_,(gt aR (gt aV (gt bh (gt bl (gt bp bO))))),f.k Z,m⟩
       ·refine Ak f Z bP (An (Ae (Ab f Z λa f=>Ab f Z λa f=>Bd aP λbQ bR aP=>A9 f Z call56 (Ow.lendCall (RI.mono _) 1 aD m Z (λbS bT m bU=>Wk.S m bU bR) (λ_ _ _ _ h=>h)) λbV bW bX w bY m bZ a f=> ?_)))
        obtain⟨rfl,rfl⟩:=bZ
        refine Aa ?_
        rcases Ag aP with⟨b0,aP⟩|⟨b0,aP⟩
        ·refine Am f Z b0 (Ae (Ab f Z λa f=>Ac f Z λa f=>Aa (Aj (Ab f Z λa f=>Ac f Z λa f=>Aa (Aj (Ab f Z λa f=>Ai f Z Z AB λa f=>Ac f Z λa f=>Aa ?_))))))
         obtain rfl:=sj aP
         exact⟨_,Z,_,_,_,Z,_,(gt aR (gt aV (gt bh (gt bl (gt bp (gt bO bY)))))),f.k Z,m⟩
        ·refine Ak f Z b0 (An (Aj (Ab f Z λa f=>Ai f Z Z AB λa f=>Ac f Z λa f=>Aa ?_)))
         obtain rfl:=sj aP
         exact⟨_,Z,_,_,_,Z,_,(gt aR (gt aV (gt bh (gt bl (gt bp (gt bO bY)))))),f.k Z,m⟩
    ·refine Ak f Z aW (AE Z (have m:=m.dp 2;?_))
     obtain rfl:=sj aP
     obtain rfl:=aQ _ rfl
     exact⟨_,_,Z,_,(gt aR aV),f.k Z,m⟩
   ·rintro a w ⟨aG,aH,rfl,aI,b1,f,m⟩
    refine Ae (Ab f Z λa f=>Bd hd λb2 b3 hd=>BK f Z call57 (Wk.c0 m b3) λb4 b5 b6 w b7 m b8 a f=>Ab f Z λa f=>Ac f Z λa f=>Ac f Z λa f=>Aa (Ar ?_))
    obtain rfl:=sj hd
    exact⟨[b4,iv aH],⟨f.get _ _ Z,f.get _ _ Z,trivial⟩,f.d,_,[b5],(gt ah (gt aq (gt aC (gt b1 b7)))),m,_,_,Z,Z,b8⟩
theorem Wk.n0 {x0 x1:Int}(m:Mem W G w (H)){y:Int×Bool}(hd:D.n0 x0 x1=some y):
  Calls prog 113 #[(.int .u32 x0),(.int .u32 x1)] w (Res W G H (λ_ Ho v=>Ho=[]∧v= .tuple #[(.int .u32 y.1),(.bool y.2)])):=by
 refine Au (args:=[(.int .u32 x0),(.int .u32 x1)]) (N:=10) [.tmp 4,.tmp 5] func113 Z Z (lb Z) Z λa f=> ?_
 unfold D.n0 at hd
 refine Ae (Ac f Z λa f=>Ac f Z λa f=>AF (Ab f Z λa f=>Ab f Z λa f=>Ab f Z λa f=>Ai f Z Z Bf λa f=>Ac f Z λa f=>Ac f Z λa f=>Aa (Ar ?_)))
 obtain rfl:=sj hd
 exact⟨[(.int .u32 x0),(.bool (x0==x1))],⟨f.get _ _ Z,f.get _ _ Z,trivial⟩,f.d,_,[],gr,m,Z,Z⟩
theorem Wk.G1 {x0:Int}(m:Mem W G w (H)){y:Int}(hd:D.G1 x0=some y):
  Calls prog 59 #[iv x0] w (Res W G H (λ_ Ho v=>Ho=[]∧v=(iv y))):=by
 refine Au (args:=[iv x0]) (N:=3) [.tmp 2] func59 Z Z (lb Z) Z λa f=> ?_
 unfold D.G1 at hd
 refine Ae (Ac f Z λa f=>AF (Ac f Z λa f=>Aa (Ar ?_)))
 obtain rfl:=sj hd
 exact⟨[iv 0],f.g Z,f.d,_,[],gr,m,Z,Z⟩
theorem Wk.V {x0 x1:Int}(m:Mem W G w (H)){y:Int}(hd:D.V x0 x1=some y):
  Calls prog 60 #[iv x0,iv x1] w (Res W G H (λ_ Ho v=>Ho=[]∧v=(iv y))):=by
 refine Au (args:=[iv x0,iv x1]) (N:=8) [.tmp 4] func60 Z Z (lb Z) Z λa f=> ?_
 unfold D.V at hd
 refine Ae (Ac f Z λa f=>AF (Ab f Z λa f=>Ab f Z λa f=>Ai f Z Z Ei λa f=>Ac f Z λa f=>Aa (Ar ?_)))
 obtain rfl:=sj hd
 exact⟨[(iv (i64.wrap (x0*x1)))],f.g Z,f.d,_,[],gr,m,Z,Z⟩
theorem Wk.I {x0 x1:Int}(m:Mem W G w (H)){y:Int}(hd:D.I x0 x1=some y):
  Calls prog 61 #[iv x0,iv x1] w (Res W G H (λ_ Ho v=>Ho=[]∧v=(iv y))):=by
 refine Au (args:=[iv x0,iv x1]) (N:=8) [.tmp 4] func61 Z Z (lb Z) Z λa f=> ?_
 unfold D.I at hd
 refine Ae (Ac f Z λa f=>AF (Ab f Z λa f=>Ab f Z λa f=>Ai f Z Z AB λa f=>Ac f Z λa f=>Aa (Ar ?_)))
 obtain rfl:=sj hd
 exact⟨[(iv (i64.wrap (x0+x1)))],f.g Z,f.d,_,[],gr,m,Z,Z⟩
theorem Wk.S1 {v0:Value}{x0:LI}(m:Mem W G w (H))(h0:RSl (RI .u32) G v0 x0){y:Unit}(hd:D.S1 x0=some y):
  Calls prog 58 #[v0,Fv 59] w (Res W G H (λG' Ho v=>∃c0:Nat,∃c1:Nat,Ho=[ib c0 67 [v0],ib c1 98 [Fv 59]]∧v=(.agg #[Fw 111 #[(pb c0)],Fw 112 #[(pb c1)],Fv 113,.nilFunc,.nilFunc]))):=by
 refine Au (args:=[v0,Fv 59]) (N:=8) [.cell 4 96] func58 Z Z (lb Z) Z λa f=> ?_
 unfold D.S1 at hd
 refine Ae (A3 (cs:=[v0]) m f Z Z h0.cells λaa w a m f=>A3 (cs:=[Fv 59]) m f Z Z Z λab w a m f=>Bp (cs:=[.nilFunc,.nilFunc,.nilFunc,.nilFunc,.nilFunc]) zeroValue96 m f Z Z λac w a m f=>AF (Dl f Z Z Z λa f=>Dl f Z Z Z λa f=> ?_))
 have ad:∀w,(Instr.build 96 #[(0,Fw 111 #[(pb aa)]),(1,Fw 112 #[(pb ab)]),(2,Fv 113)]).run prog w= .ok (.agg #[Fw 111 #[(pb aa)],Fw 112 #[(pb ab)],Fv 113,.nilFunc,.nilFunc]) w:=by intro w;simp[Instr.build,Instr.fill,Cb,B5,BI,BQ,BA,B9,B3]
 refine CM f Z Z ad λa f=>Ax 0 0 (ds:=[Fw 111 #[(pb aa)],Fw 112 #[(pb ab)],Fv 113,.nilFunc,.nilFunc]) m sizeOf96 f Z Z Z (Af Z (Af Z (Af Z (Af Z (Af Z AG))))) Z (lb Z) Z λw m=>Aa (Ar (have ae:=Cs (P:=prog) 0 m Ag96 f (s:=4) rfl rfl rfl;have m:=m.fr 1;have m:=m.fr 2;have m:=m.eraseAt 2;?_))
 obtain rfl:=sj hd
 exact⟨[(.agg #[Fw 111 #[(pb aa)],Fw 112 #[(pb ab)],Fv 113,.nilFunc,.nilFunc])],⟨ae,trivial⟩,f.d,_,[ib aa 67 [v0],ib ab 98 [Fv 59]],gr,m,_,_,Z,Z⟩
theorem Wk.h0 {b3:Nat}{aa:Value}{x0 x1 x2:Int}{ab:LI}(m:Mem W G w (ib b3 67 [aa]::H))(ac:RSl (RI .u32) G aa ab){y:(LI)}(hd:D.h0 x0 x1 x2 ab=some y):
  Calls prog 111 #[(.int .u32 x0),iv x1,(.int .u32 x2),pb b3] w (Res W G H (λG' Ho v=>∃r0:Value,∃i0:Itm,Ho=[i0,ib b3 67 [aa]]∧r0=v∧Ow (RI .u32) 74 G' i0 r0 y)):=by
 refine Au (args:=[(.int .u32 x0),iv x1,(.int .u32 x2),pb b3]) (N:=23) [.tmp 7] func111 Z Z (lb Z) Z λa f=> ?_
 unfold D.h0 at hd
 refine Ae (Ac f Z λa f=>Aa (Ah (Ae (Ao 0 0 m Pl67 f Z Z Z Z λa f=>Ab f Z λa f=>Bd hd λad ae hd=>AX T67 f Z Z Z ac ae λaf ag a ah ai f=> ?_))))
 subst ai
 refine Aw m CU f Z Z ah λa f=>Ab f Z λa f=>Ai f Z Z Dx λa f=>Ai f Z Z Cw λa f=>Aa ?_
 rcases Ag hd with⟨aj,hd⟩|⟨aj,hd⟩
 ·refine Am f Z aj (Ae (Ab f Z λa f=>AO (R:=(RI .u32)) (xs:=([x0]:LI)) (RI.one _) m T65 f Z Z Z (by decide) (All2.cons Z (All2.nil _)) λak al w a m am f=>Ac f Z λa f=>Aa (Ar ?_)))
  obtain rfl:=sj hd
  exact⟨[al],f.g Z,f.d,_,[ak,ib b3 67 [aa]],gr,m,_,_,Z,Z,am⟩
 ·refine Ak f Z aj (An (Ae (Ab f Z λa f=>Ab f Z λa f=>Ab f Z λa f=>Bd hd λan ao hd=>A2 f Z call91 (Wk.a m ao) λap w aq m a f=>Ai f Z Z EK λa f=>AO (R:=(RI .u32)) (xs:=([x0,(ior .u32 x0 an)]:LI)) (RI.one _) m T65 f Z Z Z (by decide) (All2.cons Z (All2.cons Z (All2.nil _))) λar au w a m av f=>Ac f Z λa f=>Aa (Ar ?_))))
  obtain rfl:=sj hd
  exact⟨[au],f.g Z,f.d,_,[ar,ib b3 67 [aa]],aq,m,_,_,Z,Z,av⟩
theorem Wk.T {aa:Nat}{ab:Value}{ac:Nat}{v1:Value}{it1:Itm}{ad:LI}{x1:AJ}{x2 x3:Int}(m:Mem W G w (ib aa 67 [ab]::ib ac 98 [Fv 59]::it1::H))(ae:RSl (RI .u32) G ab ad)(o1:OwMf Bn G it1 v1 x1){y:AJ}(hd:D.T ad x1 x2 x3=some y):
  Calls prog 114 #[(.agg #[Fw 111 #[(pb aa)],Fw 112 #[(pb ac)],Fv 113,Fv 60,Fv 61]),v1,(.int .u32 x2),iv x3] w (Res W G H (λG' Ho _=>∃i0:Itm,Ho=[ib aa 67 [ab],ib ac 98 [Fv 59],i0]∧OwMf Bn G' i0 v1 y)):=by
 refine Au (args:=[(.agg #[Fw 111 #[(pb aa)],Fw 112 #[(pb ac)],Fv 113,Fv 60,Fv 61]),v1,(.int .u32 x2),iv x3]) (N:=25) [] func114 Z Z (lb Z) Z λa f=> ?_
 unfold D.T at hd
 refine Ae (A3 (cs:=[Fw 111 #[(pb aa)],Fw 112 #[(pb ac)],Fv 113,Fv 60,Fv 61]) m f Z Z Z λaf w a m f=>Aa (Ah (Ae (Ab f Z λa f=>Ab f Z λa f=>Gy Mf74 (i:=x2) 3 m o1 Z underlying99 zeroValue2 f Z Z Z λa f=>Ab f Z λa f=>l_o f (AD (f.e Z) Z) λa f=>l_o f (AD (f.e Z) Z) λa f=>Ac f Z λa f=>Ac f Z λa f=>AF (Ab f Z λa f=>Aa ?_)))))
 rcases Ag hd with⟨ag,hd⟩|⟨ag,hd⟩
 ·refine Am f Z ag (Aj (AQ underlying96 Z sizeOf94 f Z λa f=>Ao 0 4 m Pl94 f Z Z Z Z λa f=>Ab f Z λa f=>Ab f Z λa f=>Bd hd λah ai hd=>CC f Z Z Z call61 (Wk.I m ai) λaj ak al w am m an a f=> ?_))
  obtain⟨rfl,rfl⟩:=an
  refine have o1:=OwMf.mono mfT am o1;Ac f Z λa f=>Aa (Aj (Ab f Z λa f=>Ab f Z λa f=>Ab f Z λa f=>Fg Mf74 (i:=x2) 3 m o1 Z underlying99 f Z Z Z λao w m ap=>Aa (have m:=m.fr 3;have m:=m.fr 3;have m:=m.fr 3;have m:=m.eraseAt 3;?_)))
  obtain rfl:=sj hd
  exact⟨[],trivial,f.d,_,[ib aa 67 [ab],ib ac 98 [Fv 59],ao],am,m,_,Z,ap⟩
 ·refine Ak f Z ag (An (Aj (Ab f Z λa f=>Ab f Z λa f=>Ab f Z λa f=>Fg Mf74 (i:=x2) 3 m o1 Z underlying99 f Z Z Z λaq w m ar=>Aa (have m:=m.fr 3;have m:=m.fr 3;have m:=m.fr 3;have m:=m.eraseAt 3;?_))))
  obtain rfl:=sj hd
  exact⟨[],trivial,f.d,_,[ib aa 67 [ab],ib ac 98 [Fv 59],aq],gr,m,_,Z,ar⟩
theorem Wk.a1 {b4:Nat}{x0 x1 x2 x3:Int}(m:Mem W G w (ib b4 98 [Fv 59]::H)){y:AJ}(hd:D.a1 x0 x1 x2 x3=some y):
  Calls prog 112 #[(.int .u32 x0),iv x1,(.int .u32 x2),iv x3,pb b4] w (Res W G H (λG' Ho v=>∃r0:Value,∃i0:Itm,Ho=[i0,ib b4 98 [Fv 59]]∧r0=v∧OwMf Bn G' i0 r0 y)):=by
 refine Au (args:=[(.int .u32 x0),iv x1,(.int .u32 x2),iv x3,pb b4]) (N:=25) [.tmp 9] func112 Z Z (lb Z) Z λa f=> ?_
 unfold D.a1 at hd
 refine Ae (Ac f Z λa f=>Aa (Ah (Ae (Ab f Z λa f=>Ab f Z λa f=>Bd hd λaa ab hd=>A2 f Z call90 (Wk.g m ab) λac w ad m a f=>Aa ?_))))
 rcases Ag hd with⟨ae,hd⟩|⟨ae,hd⟩
 ·refine Am f Z ae (Aj (Ab f Z λa f=>Ao 0 0 m Pl98 f Z Z Z Z λa f=>Ab f Z λa f=>Bd hd λaf ag hd=>CC f Z Z Z call59 (Wk.G1 m ag) λah ai aj w ak m al a f=> ?_))
  obtain⟨rfl,rfl⟩:=al
  refine Ai f Z Z AB λa f=>Ac f Z λa f=>AF (Ds Bn m f Z λam an w a m ao f=>Ab f Z λa f=>Ab f Z λa f=>Bd hd λap aq hd=>A2 f Z call91 (Wk.a m aq) λar w au m a f=>have ao:=OwMf.mono mfT au ao;Ai f Z Z Dw λa f=>Ab f Z λa f=>En Mf74 (i:=(iandNot .u32 x0 ap)) 0 m ao Z underlying99 f Z Z Z λav w m aw=>Ab f Z λa f=>Ac f Z λa f=>Aa (Ar ?_))
  obtain rfl:=sj hd
  exact⟨[an],f.g Z,f.d,_,[av,ib b4 98 [Fv 59]],(gt ad (gt ak au)),m,_,_,Z,Z,aw⟩
 ·refine Ak f Z ae (An (Ae (Ds Bn m f Z λax ay w a m az f=>Ab f Z λa f=>Ab f Z λa f=>Bd hd λaA aB hd=>A2 f Z call91 (Wk.a m aB) λaC w aD m a f=>have az:=OwMf.mono mfT aD az;Ai f Z Z Dw λa f=>Ab f Z λa f=>En Mf74 (i:=(iandNot .u32 x0 aA)) 0 m az Z underlying99 f Z Z Z λaE w m aF=>Ab f Z λa f=>Ac f Z λa f=>Aa (Ar ?_))))
  obtain rfl:=sj hd
  exact⟨[ay],f.g Z,f.d,_,[aE,ib b4 98 [Fv 59]],(gt ad aD),m,_,_,Z,Z,aF⟩
theorem Wk.Q1 {aa ab ac ad v1:Value}{ae:Nat}{af:Value}{ag:Nat}{ah ai:LI}{aj ak:LL}{x1:AJ}{al:LI}(m:Mem W G w (ib ae 67 [af]::ib ag 98 [Fv 59]::H))(am:R1 G aa ah)(an:R1 G ab ai)(ao:R2 G ac aj)(ap:R2 G ad ak)(h1:RMf Bn G v1 x1)(aq:RSl (RI .u32) G af al){y:AJ}(hd:D.Q1 ah ai aj ak x1 al=some y):
  Calls prog 62 #[(.agg #[aa,ab,ac,ad]),v1,(.agg #[Fw 111 #[(pb ae)],Fw 112 #[(pb ag)],Fv 113,Fv 60,Fv 61])] w (Res W G H (λG' Ho v=>∃r0:Value,Ho=[ib ae 67 [af],ib ag 98 [Fv 59]]∧r0=v∧RMf Bn G' r0 y)):=by
 refine Au (args:=[(.agg #[aa,ab,ac,ad]),v1,(.agg #[Fw 111 #[(pb ae)],Fw 112 #[(pb ag)],Fv 113,Fv 60,Fv 61])]) (N:=181) [.tmp 6] func62 Z Z (lb Z) Z λa f=> ?_
 unfold D.Q1 at hd
 refine Ae (A3 (cs:=[aa,ab,ac,ad]) m f Z Z Z λar w a m f=>A3 (cs:=[Fw 111 #[(pb ae)],Fw 112 #[(pb ag)],Fv 113,Fv 60,Fv 61]) m f Z Z Z λau w a m f=>Ac f Z λa f=>AF (AO (R:=(RMf Bn)) (xs:=([]:List AJ)) (RMf.one _) m CN f Z Z Z (by decide) (All2.nil _) λav aw w a m ax f=>Ac f Z λa f=>Aa (Ah (Ae (AQ underlying38 Z sizeOf35 f Z λa f=>Ao 2 0 m AY f Z Z Z Z λa f=>AN underlying35 f Z Z am λa f=>Ab f Z λa f=>Aa (Bd hd λay az hd=> ?_))))))
 refine AL (λa w=>∃aA:List AJ,aA=ay∧∃(aB:GH) (aC:Value) (aD:Itm),GLe G aB∧Fr a 181 [(7,aC)]∧Mem W aB w (ib ae 67 [af]::ib ag 98 [Fv 59]::aD::H)∧Ow (RMf Bn) 99 aB aD aC aA) ?_ ?_
 ·refine Al (have m:=m.fr 4;have m:=m.fr 4;have m:=m.fr 3;have m:=m.fr 4;AM (λaE a w=>∃aF:List AJ,∃aG:Int,(aF,aG)=aE∧∃(aH:GH) (aI:Value) (aJ:Itm),GLe G aH∧Fr a 181 [(1,v1),(3,pb ar),(5,pb au),(7,aI),(29,aa),(30,(iv (ah.length:Int))),(31,iv aG)]∧Mem W aH w (ib ar 38 [aa,ab,ac,ad]::B6 au ae ag::ib ae 67 [af]::ib ag 98 [Fv 59]::aJ::H)∧Ow (RMf Bn) 99 aH aJ aI aF) az ⟨_,_,Z,_,aw,av,gr,f.k Z,m,ax⟩ ?_)
  clear az f m
  rintro aE aK aL aM a w ⟨aF,aG,rfl,aH,aI,aJ,aN,f,m,aO⟩
  refine have h1:=RMf.mono mfT _ _ _ _ aN h1;have am:=rd1 aN am;have an:=rd1 aN an;have ao:=rd2 aN ao;have ap:=rd2 aN ap;have aq:=rd1 aN aq;Ae (Ai f Z Z AP λa f=>Aa (Ah ?_))
  rcases Ag aL with⟨aP,aL⟩|⟨aP,aL⟩
  ·refine Am f Z aP (An (Ah (Al (Ae (Ab f Z λa f=>Bd aL λaQ aR aL=>AX T35 f Z Z Z am aR λaS aT a aU aV f=> ?_)))))
   subst aV
   refine Aw m Pl2 f Z Z aU λa f=>Ac f Z λa f=>Ac f Z λa f=>Aa (Ah (Bg 14 AV (by kernel_rfl) m (Br 1 14 underlying38 Z sizeOf35 Z f Z λa f=>Bo 2 14 0 AY Z Z Z f Z λa f=>As 3 14 Z f Z λa f=>Bd aL λaW aX aL=>Bb 4 14 T35 an aX Z f Z Z λaY aZ a a0 a1 f=> ?_)))
   subst a1
   refine Ba 5 14 Pl2 a0 Z f Z λa f=>Br 6 14 underlying38 Z sizeOf27 Z f Z λa f=>Bo 7 14 0 AW Z Z Z f Z λa f=>As 8 14 Z f Z λa f=>Bd aL λa2 a3 aL=>Bb 9 14 T27 ap a3 Z f Z Z λa4 a5 a a6 a7 f=>Ba 10 14 AY a6 Z f Z λa f=>Bw 0 Z λa8 w a9 m ba ba=>have h1:=RMf.mono mfT _ _ _ _ a9 h1;have a7:=rd1 a9 a7;have ao:=rd2 a9 ao;have aq:=rd1 a9 aq;have aO:=Ow.mono (RMf.mono mfT) a9 aO;Ds Bn m f Z λbb bc w a m bd f=>Aa (ba a8 [bb] _ _ gr m (q_p 11 14 Z f (λ_=>Bq (f.e Z)) λa f=>q_p 12 14 Z f (λ_=>Bq (f.e Z)) λa f=>q_p 13 14 Z f (λ_=>Bq (f.e Z)) λa f=>A4 λbe w bf m=>have h1:=RMf.mono mfT _ _ _ _ bf h1;have a7:=rd1 bf a7;have bd:=OwMf.mono mfT bf bd;have ao:=rd2 bf ao;have aq:=rd1 bf aq;have aO:=Ow.mono (RMf.mono mfT) bf aO;Aa (Ah (Ae (Ab f Z λa f=>Aa (Al (Ae (Ai f Z Z Bf λa f=>Ac f Z λa f=>Aa ?_))))))))
   rcases Ag aL with⟨bg,aL⟩|⟨bg,aL⟩
   ·refine Am f Z bg (Aj (Ab f Z λa f=>Ac f Z λa f=>Aa (Aj (Ab f Z λa f=>Ab f Z λa f=>AO (R:=(RMf Bn)) (xs:=([x1]:List AJ)) (RMf.one _) m CN f Z Z Z (by decide) (All2.cons h1 (All2.nil _)) λbh bi w a m bj f=>Bd aL λbk bl aL=>A6 (RMf.one _) 6 m aO Z CN Z (by decide) f Z Z Z (Ow.src (j:=0) bj m Z) bl λbm bn w a m bo f=>Ac f Z λa f=>Aa (Aj (Ai f Z Z AB λa f=>Ab f Z λa f=>Aa (have m:=m.fr 6;have m:=m.fr 6;have m:=m.fr 6;have m:Mem W be w (B6 au ae ag::ib ae 67 [af]::ib ag 98 [Fv 59]::bm::bh::bb::ib ar 38 [aa,ab,ac,ad]::H):=m.fr 6;have m:=m.fr 6;have m:=m.eraseAt 6;have m:=m.eraseAt 5;?_)))))))
    obtain rfl:=sj aL
    exact⟨_,Z,_,_,Z,_,bn,bm,(gt aN (gt a9 bf)),f.k Z,m,bo⟩
   ·refine Ak f Z bg (Ae (Ai f Z Z Bf λa f=>Ac f Z λa f=>Aa ?_))
    rcases Ag aL with⟨bp,aL⟩|⟨bp,aL⟩
    ·refine Am f Z bp (Ae (Ab f Z λa f=>Ab f Z λa f=>Bd aL λbq br aL=>AX T35 f Z Z Z a7 br λbs bt a bu bv f=> ?_))
     subst bv
     refine Aw m Pl2 f Z Z bu λa f=>Bd aL λbw bx aL=>Bm 5 m aO Z CN f Z Z Z bx λbz a bA f=>Bl 5 m aO Z Pl99 f Z Z bA bx λbB a bC f=>CE m bC underlying99 f Z Z λbD bE bF w a m bG bH f=>Aa (Bd aL λbI bJ aL=> ?_)
     refine AL (λa w=>∃bK:AJ,bK=bI∧∃(bL:GH) (bM:Itm),GLe be bL∧Fr a 181 [(1,v1),(3,pb ar),(5,pb au),(7,aI),(10,bc),(11,iv aW),(12,a5),(29,aa),(30,(iv (ah.length:Int))),(31,iv aG)]∧Mem W bL w (ib ar 38 [aa,ab,ac,ad]::B6 au ae ag::ib ae 67 [af]::ib ag 98 [Fv 59]::aJ::bM::H)∧OwMf Bn bL bM bc bK) ?_ ?_
     ·refine Al (have m:=m.fr 6;have m:=m.fr 6;have m:=m.fr 6;have m:Mem W be w (B6 au ae ag::ib ae 67 [af]::ib ag 98 [Fv 59]::aJ::bD::bb::ib ar 38 [aa,ab,ac,ad]::H):=m.fr 6;have m:=m.fr 6;have m:=m.fr 5;C9 (λbN bO a w=>∃bP:AJ,bP=bN∧∃(bQ:GH) (bR:Itm) (bS:Itm),GLe be bQ∧Fr a 181 [(1,v1),(3,pb ar),(5,pb au),(7,aI),(10,bc),(11,iv aW),(12,a5),(29,aa),(30,(iv (ah.length:Int))),(31,iv aG),(59,bE)]∧Mem W bQ w (bR::ib ar 38 [aa,ab,ac,ad]::B6 au ae ag::ib ae 67 [af]::ib ag 98 [Fv 59]::aJ::bS::H)∧RgA Bn bQ bR bE bO∧OwMf Bn bQ bS bc bP) bJ bH ⟨_,Z,_,bD,bb,gr,f.k Z,m,bG,bd⟩ ?_)
      clear bJ f m
      rintro bN bO bT a w ⟨bP,rfl,bQ,bR,bS,bU,f,m,bV,bW⟩
      refine have h1:=RMf.mono mfT _ _ _ _ bU h1;have a7:=rd1 bU a7;have ao:=rd2 bU ao;have aq:=rd1 bU aq;Ae (CP (enc:=Bn) Mf74.inj 0 m bV Z f Z Z (λbX a f=> ?_) λbY bZ b0 w a b1 m b2 f=> ?_)
      ·have b3:=CF bT bX
       subst b3
       exact have m:=m.eraseAt 0;l_o f (AD (f.e Z) Z) λa f=>Aa (Ah (Ak f Z Z (AE Z ⟨_,Z,_,bS,bU,f.k Z,m,bW⟩)))
      ·obtain⟨b4,b5,b6⟩:=Ck bT b1
       refine have b7:=CO b1;l_o f (AD (f.e Z) Z) λa f=>Aa (Ah (Am f Z Z (An (Al (Ae (CD 0 m b2 Z f Z Z λa f=>l_o f (AD (f.e Z) Z) λa f=>l_o f (AD (f.e Z) Z) λa f=>Ac f Z λa f=>Ac f Z λa f=>Aa (Ah (Bg 15 AV (by kernel_rfl) m (Br 0 15 underlying96 Z sizeOf91 Z f Z λa f=>Bo 1 15 2 Pl91 Z Z Z f Z λa f=>As 2 15 Z f Z λa f=>As 3 15 Z f Z λa f=>Br 4 15 underlying38 Z sizeOf27 Z f Z λa f=>Bo 5 15 1 AW Z Z Z f Z λa f=>As 6 15 Z f Z λa f=>Bd b5 λb8 b9 b5=>Bb 7 15 T35 a7 b9 Z f Z Z λca cb a cc cd f=> ?_)))))))))
       subst cd
       refine Ba 8 15 Pl2 cc Z f Z λa f=>Bd b5 λce cf b5=>Bb 9 15 T27 ao cf Z f Z Z λcg ch a ci cj f=>Ba 10 15 AY ci Z f Z λa f=>Bd b5 λck cl b5=>B4 (i:=11) 15 Z (by kernel_rfl) Z f Z Z Z call93 (λ_ _ w cm m=>Wk.h m (rd1 cm cj) cl) λa f=>As 14 15 Z f Z λa f=>Bw 12 Z λcn w co m cp cp=>have h1:=RMf.mono mfT _ _ _ _ co h1;have b2:=RgF.mono co b2;have aq:=rd1 co aq;have bW:=OwMf.mono mfT co bW;have m:=m.fr 3;Bd b5 λcq cr b5=>CC f Z Z Z call111 (Wk.h0 m aq cr) λct cu cv w cw m cx a f=> ?_
       obtain⟨cy,cz,rfl,rfl,cA⟩:=cx
       refine have h1:=RMf.mono mfT _ _ _ _ cw h1;have aq:=rd1 cw aq;have b2:=RgF.mono cw b2;have bW:=OwMf.mono mfT cw bW;Aa (have m:=m.fr 4;have m:=m.fr 4;have m:=m.fr 4;have m:=m.fr 3;cp cu [cz] _ _ cw m (Er (i:=13) 15 0 m cA Z underlying65 Z (by kernel_rfl) Z f Z Z Z λa f=>A4 λcB w cC m=>have h1:=RMf.mono mfT _ _ _ _ cC h1;have cA:=od1 cC cA;have b2:=RgF.mono cC b2;have aq:=rd1 cC aq;have bW:=OwMf.mono mfT cC bW;Aa (Bd b5 λcD cE b5=> ?_)))
       refine AL (λa w=>∃cF:AJ,cF=cD∧∃(cG:GH) (cH:Itm),GLe cB cG∧Fr a 181 [(1,v1),(3,pb ar),(5,pb au),(7,aI),(10,bc),(11,iv aW),(12,a5),(29,aa),(30,(iv (ah.length:Int))),(31,iv aG),(59,bE)]∧Mem W cG w (b0::ib ar 38 [aa,ab,ac,ad]::B6 au ae ag::ib ae 67 [af]::ib ag 98 [Fv 59]::aJ::cH::H)∧OwMf Bn cG cH bc cF) ?_ ?_
       ·refine Al (have m:=m.fr 7;have m:=m.fr 7;have m:=m.fr 7;have m:Mem W cB w (ib ae 67 [af]::ib ag 98 [Fv 59]::aJ::bS::cz::b0::ib ar 38 [aa,ab,ac,ad]::B6 au ae ag::H):=m.fr 7;have m:=m.fr 7;have m:=m.fr 7;have m:=m.fr 7;AM (λcI a w=>∃cJ:AJ,∃cK:Int,(cJ,cK)=cI∧∃(cL:GH) (cM:Itm),GLe cB cL∧Fr a 181 [(1,v1),(3,pb ar),(5,pb au),(7,aI),(10,bc),(11,iv aW),(12,a5),(14,iv bY.2),(29,aa),(30,(iv (ah.length:Int))),(31,iv aG),(59,bE),(77,cy),(78,(iv (cq.length:Int))),(79,iv cK)]∧Mem W cL w (b0::ib ar 38 [aa,ab,ac,ad]::B6 au ae ag::ib ae 67 [af]::ib ag 98 [Fv 59]::aJ::cM::cz::H)∧OwMf Bn cL cM bc cJ) cE ⟨_,_,Z,_,bS,gr,f.k Z,m,bW⟩ ?_)
        clear cE f m
        rintro cI cN cO cP a w ⟨cJ,cK,rfl,cL,cM,cQ,f,m,cR⟩
        refine have h1:=RMf.mono mfT _ _ _ _ cQ h1;have b2:=RgF.mono cQ b2;have aq:=rd1 cQ aq;have cA:=od1 cQ cA;Ae (Ai f Z Z AP λa f=>Aa (Ah ?_))
        rcases Ag cO with⟨cS,cO⟩|⟨cS,cO⟩
        ·refine Am f Z cS (An (Ah (Al (Ae (Bd cO λcT cU cO=>Bm 7 m cA Z T65 f Z Z Z cU λcV a cW f=>Bl 7 m cA Z CU f Z Z cW cU λcX a cY f=> ?_)))))
         subst cY
         refine Ac f Z λa f=>Aa (Aj (Ay 2 0 (ds:=[Fw 111 #[(pb ae)],Fw 112 #[(pb ag)],Fv 113,Fv 60,Fv 61]) m Ag96 f Z Z Z Z Z λa f=>Ab f Z λa f=>Ab f Z λa f=>Ab f Z λa f=>have m:=m.fr 6;have m:=m.fr 5;have m:=m.fr 5;Bd cO λcZ c0 cO=>A9 f Z call114 (Wk.T m aq cR c0) λc1 c2 c3 w c4 m c5 a f=> ?_))
         obtain⟨c6,rfl,c7⟩:=c5
         refine have h1:=RMf.mono mfT _ _ _ _ c4 h1;have b2:=RgF.mono c4 b2;Aa (Aj (Ai f Z Z AB λa f=>Ab f Z λa f=>Aa (have m:=m.fr 6;have m:=m.fr 2;have m:=m.fr 2;have m:Mem W c2 w (B6 au ae ag::ib ae 67 [af]::ib ag 98 [Fv 59]::aJ::c6::b0::ib ar 38 [aa,ab,ac,ad]::cz::H):=m.fr 6;have m:=m.fr 6;have m:=m.fr 6;?_)))
         obtain rfl:=sj cO
         exact⟨_,Z,_,_,Z,_,c6,(gt cQ c4),f.k Z,m,c7⟩
        ·refine Ak f Z cS (AE Z (have m:=m.eraseAt 7;?_))
         obtain rfl:=sj cO
         obtain rfl:=cP _ rfl
         exact⟨_,Z,_,cM,cQ,f.k Z,m,cR⟩
       ·rintro a w ⟨cF,rfl,cG,cH,c8,f,m,c9⟩
        refine have h1:=RMf.mono mfT _ _ _ _ c8 h1;have b2:=RgF.mono c8 b2;?_
        obtain rfl:=sj b5
        exact⟨_,_,b7,b6,_,Z,_,b0,cH,(gt bU (gt co (gt cw (gt cC c8)))),f.k Z,m,b2.any,c9⟩
     ·rintro a w ⟨bK,rfl,bL,bM,da,f,m,db⟩
      refine have h1:=RMf.mono mfT _ _ _ _ da h1;have aO:=Ow.mono (RMf.mono mfT) da aO;Aj (Ab f Z λa f=>Ab f Z λa f=>have m:=m.fr 5;?_)
      obtain⟨dc,dd,m,de⟩:=OwMf.stamp mfT db m
      refine have h1:=RMf.mono mfT _ _ _ _ dd h1;have aO:=Ow.mono (RMf.mono mfT) dd aO;AO (R:=(RMf Bn)) (xs:=([bK]:List AJ)) (RMf.one _) m CN f Z Z Z (by decide) (All2.cons de (All2.nil _)) λdf dg w a m dh f=>Bd aL λdi dj aL=>A6 (RMf.one _) 5 m aO Z CN Z (by decide) f Z Z Z (Ow.src (j:=0) dh m Z) dj λdk dl w a m dm f=>Ac f Z λa f=>Aa (Aj (Ai f Z Z AB λa f=>Ab f Z λa f=>Aa (have m:=m.fr 5;have m:=m.fr 5;have m:=m.fr 5;have m:Mem W dc w (B6 au ae ag::ib ae 67 [af]::ib ag 98 [Fv 59]::dk::df::ib ar 38 [aa,ab,ac,ad]::H):=m.fr 5;have m:=m.fr 5;have m:=m.eraseAt 5;?_)))
      obtain rfl:=sj aL
      exact⟨_,Z,_,_,Z,_,dl,dk,(gt aN (gt a9 (gt bf (gt da dd)))),f.k Z,m,dm⟩
    ·refine Ak f Z bp (Ae (Ai f Z Z Bf λa f=>Ac f Z λa f=>Aa ?_))
     rcases Ag aL with⟨dn,aL⟩|⟨dn,aL⟩
     ·refine Am f Z dn (Ae (Ab f Z λa f=>Ab f Z λa f=>Bd aL λdp dq aL=>AX T35 f Z Z Z a7 dq λdr dt a du dv f=> ?_))
      subst dv
      refine Aw m Pl2 f Z Z du λa f=>Bd aL λdw dx aL=>Bm 5 m aO Z CN f Z Z Z dx λdy a dz f=>Bl 5 m aO Z Pl99 f Z Z dz dx λdA a dB f=>CE m dB underlying99 f Z Z λdC dD dE w a m dF dG f=>Aa (Bd aL λdH dI aL=> ?_)
      refine AL (λa w=>∃dJ:AJ,dJ=dH∧∃(dK:GH) (dL:Itm),GLe be dK∧Fr a 181 [(1,v1),(3,pb ar),(5,pb au),(7,aI),(8,iv aG),(10,bc),(11,iv aW),(29,aa),(30,(iv (ah.length:Int))),(31,iv aG)]∧Mem W dK w (ib ar 38 [aa,ab,ac,ad]::B6 au ae ag::ib ae 67 [af]::ib ag 98 [Fv 59]::aJ::dL::H)∧OwMf Bn dK dL bc dJ) ?_ ?_
      ·refine Al (have m:=m.fr 6;have m:=m.fr 6;have m:=m.fr 6;have m:Mem W be w (B6 au ae ag::ib ae 67 [af]::ib ag 98 [Fv 59]::aJ::dC::bb::ib ar 38 [aa,ab,ac,ad]::H):=m.fr 6;have m:=m.fr 6;have m:=m.fr 5;C9 (λdM dN a w=>∃dO:AJ,dO=dM∧∃(dP:GH) (dQ:Itm) (dR:Itm),GLe be dP∧Fr a 181 [(1,v1),(3,pb ar),(5,pb au),(7,aI),(8,iv aG),(10,bc),(11,iv aW),(29,aa),(30,(iv (ah.length:Int))),(31,iv aG),(97,dD)]∧Mem W dP w (dQ::ib ar 38 [aa,ab,ac,ad]::B6 au ae ag::ib ae 67 [af]::ib ag 98 [Fv 59]::aJ::dR::H)∧RgA Bn dP dQ dD dN∧OwMf Bn dP dR bc dO) dI dG ⟨_,Z,_,dC,bb,gr,f.k Z,m,dF,bd⟩ ?_)
       clear dI f m
       rintro dM dN dS a w ⟨dO,rfl,dP,dQ,dR,dT,f,m,dU,dV⟩
       refine have h1:=RMf.mono mfT _ _ _ _ dT h1;have ao:=rd2 dT ao;have aq:=rd1 dT aq;Ae (CP (enc:=Bn) Mf74.inj 0 m dU Z f Z Z (λdW a f=> ?_) λdX dY dZ w a d0 m d1 f=> ?_)
       ·have d2:=CF dS dW
        subst d2
        exact have m:=m.eraseAt 0;l_o f (AD (f.e Z) Z) λa f=>Aa (Ah (Ak f Z Z (AE Z ⟨_,Z,_,dR,dT,f.k Z,m,dV⟩)))
       ·obtain⟨d3,d4,d5⟩:=Ck dS d0
        refine have d6:=CO d0;l_o f (AD (f.e Z) Z) λa f=>Aa (Ah (Am f Z Z (An (Al (Ae (CD 0 m d1 Z f Z Z λa f=>l_o f (AD (f.e Z) Z) λa f=>l_o f (AD (f.e Z) Z) λa f=>Ac f Z λa f=>Ac f Z λa f=>Aa (Ah (Bg 12 AV (by kernel_rfl) m (Br 0 12 underlying96 Z sizeOf92 Z f Z λa f=>Bo 1 12 2 Pl92 Z Z Z f Z λa f=>As 2 12 Z f Z λa f=>As 3 12 Z f Z λa f=>Br 4 12 underlying38 Z sizeOf27 Z f Z λa f=>Bo 5 12 1 AW Z Z Z f Z λa f=>As 6 12 Z f Z λa f=>Bd d4 λd7 d8 d4=>Bb 7 12 T27 ao d8 Z f Z Z λd9 ea a eb ec f=>Ba 8 12 AY eb Z f Z λa f=>Bd d4 λed ee d4=>B4 (i:=9) 12 Z (by kernel_rfl) Z f Z Z Z call93 (λ_ _ w ef m=>Wk.h m (rd1 ef ec) ee) λa f=>As 10 12 Z f Z λa f=>Bw 11 Z λeg w eh m ei ei=>have h1:=RMf.mono mfT _ _ _ _ eh h1;have d1:=RgF.mono eh d1;have aq:=rd1 eh aq;?_)))))))))
        refine have dV:=OwMf.mono mfT eh dV;have m:=m.fr 4;Bd d4 λej ek d4=>CC f Z Z Z call112 (Wk.a1 m ek) λel em en w eo m ep a f=> ?_
        obtain⟨eq,er,rfl,rfl,es⟩:=ep
        refine have h1:=RMf.mono mfT _ _ _ _ eo h1;have d1:=RgF.mono eo d1;have aq:=rd1 eo aq;have dV:=OwMf.mono mfT eo dV;Aa (have m:=m.fr 5;have m:=m.fr 5;have m:=m.fr 5;have m:Mem W em w (dZ::ib ar 38 [aa,ab,ac,ad]::B6 au ae ag::ib ae 67 [af]::er::ib ag 98 [Fv 59]::aJ::dR::H):=m.fr 5;have m:=m.fr 4;ei em [er] _ _ eo m (A4 λet w eu m=>have h1:=RMf.mono mfT _ _ _ _ eu h1;have es:=OwMf.mono mfT eu es;have d1:=RgF.mono eu d1;have aq:=rd1 eu aq;have dV:=OwMf.mono mfT eu dV;?_))
        obtain⟨ev,ew,m,ex⟩:=OwMf.stamp mfT es m
        refine have h1:=RMf.mono mfT _ _ _ _ ew h1;have d1:=RgF.mono ew d1;have aq:=rd1 ew aq;have dV:=OwMf.mono mfT ew dV;CE m ex underlying99 f Z Z λey ez eA w a m eB eC f=>Aa (Bd d4 λeD eE d4=> ?_)
        refine AL (λa w=>∃eF:AJ,eF=eD∧∃(eG:GH) (eH:Itm),GLe ev eG∧Fr a 181 [(1,v1),(3,pb ar),(5,pb au),(7,aI),(8,iv aG),(10,bc),(11,iv aW),(29,aa),(30,(iv (ah.length:Int))),(31,iv aG),(97,dD)]∧Mem W eG w (dZ::ib ar 38 [aa,ab,ac,ad]::B6 au ae ag::ib ae 67 [af]::ib ag 98 [Fv 59]::aJ::eH::H)∧OwMf Bn eG eH bc eF) ?_ ?_
        ·refine Al (C9 (λeI eJ a w=>∃eK:AJ,eK=eI∧∃(eL:GH) (eM:Itm) (eN:Itm),GLe ev eL∧Fr a 181 [(1,v1),(3,pb ar),(5,pb au),(7,aI),(8,iv aG),(10,bc),(11,iv aW),(29,aa),(30,(iv (ah.length:Int))),(31,iv aG),(97,dD),(115,ez)]∧Mem W eL w (eM::dZ::ib ar 38 [aa,ab,ac,ad]::B6 au ae ag::ib ae 67 [af]::ib ag 98 [Fv 59]::aJ::eN::H)∧RgA Bn eL eM ez eJ∧OwMf Bn eL eN bc eK) eE eC ⟨_,Z,_,ey,dR,gr,f.k Z,m,eB,dV⟩ ?_)
         clear eE f m
         rintro eI eJ eO a w ⟨eK,rfl,eL,eM,eN,eP,f,m,eQ,eR⟩
         refine have h1:=RMf.mono mfT _ _ _ _ eP h1;have d1:=RgF.mono eP d1;have aq:=rd1 eP aq;Ae (CP (enc:=Bn) Mf74.inj 0 m eQ Z f Z Z (λeS a f=> ?_) λeT eU eV w a eW m eX f=> ?_)
         ·have eY:=CF eO eS
          subst eY
          exact have m:=m.eraseAt 0;l_o f (AD (f.e Z) Z) λa f=>Aa (Ah (Ak f Z Z (AE Z ⟨_,Z,_,eN,eP,f.k Z,m,eR⟩)))
         ·obtain⟨eZ,e0,e1⟩:=Ck eO eW
          refine have e2:=CO eW;l_o f (AD (f.e Z) Z) λa f=>Aa (Ah (Am f Z Z (An (Al (Ae (CD 0 m eX Z f Z Z λa f=>l_o f (AD (f.e Z) Z) λa f=>l_o f (AD (f.e Z) Z) λa f=>Ac f Z λa f=>Ac f Z λa f=>Aa (Aj (Ay 3 0 (ds:=[Fw 111 #[(pb ae)],Fw 112 #[(pb ag)],Fv 113,Fv 60,Fv 61]) m Ag96 f Z Z Z Z Z λa f=>Ab f Z λa f=>Ab f Z λa f=>Ab f Z λa f=>have m:=m.fr 7;have m:=m.fr 6;have m:=m.fr 6;Bd e0 λe3 e4 e0=>A9 f Z call114 (Wk.T m aq eR e4) λe5 e6 e7 w e8 m e9 a f=> ?_))))))))
          obtain⟨fa,rfl,fb⟩:=e9
          refine have h1:=RMf.mono mfT _ _ _ _ e8 h1;have eX:=RgF.mono e8 eX;have d1:=RgF.mono e8 d1;Aa (have m:=m.fr 7;have m:=m.fr 2;have m:=m.fr 2;have m:Mem W e6 w (B6 au ae ag::ib ae 67 [af]::ib ag 98 [Fv 59]::aJ::fa::eV::dZ::ib ar 38 [aa,ab,ac,ad]::H):=m.fr 7;have m:=m.fr 7;have m:=m.fr 7;have m:=m.fr 7;?_)
          obtain rfl:=sj e0
          exact⟨_,_,e2,e1,_,Z,_,eV,fa,(gt eP e8),f.k Z,m,eX.any,fb⟩
        ·rintro a w ⟨eF,rfl,eG,eH,fc,f,m,fd⟩
         refine have h1:=RMf.mono mfT _ _ _ _ fc h1;have d1:=RgF.mono fc d1;?_
         obtain rfl:=sj d4
         exact⟨_,_,d6,d5,_,Z,_,dZ,eH,(gt dT (gt eh (gt eo (gt eu (gt ew fc))))),f.k Z,m,d1.any,fd⟩
      ·rintro a w ⟨dJ,rfl,dK,dL,fe,f,m,ff⟩
       refine have h1:=RMf.mono mfT _ _ _ _ fe h1;have aO:=Ow.mono (RMf.mono mfT) fe aO;Aj (Ab f Z λa f=>Ab f Z λa f=>have m:=m.fr 5;?_)
       obtain⟨fg,fh,m,fi⟩:=OwMf.stamp mfT ff m
       refine have h1:=RMf.mono mfT _ _ _ _ fh h1;have aO:=Ow.mono (RMf.mono mfT) fh aO;AO (R:=(RMf Bn)) (xs:=([dJ]:List AJ)) (RMf.one _) m CN f Z Z Z (by decide) (All2.cons fi (All2.nil _)) λfj fk w a m fl f=>Bd aL λfm fo aL=>A6 (RMf.one _) 5 m aO Z CN Z (by decide) f Z Z Z (Ow.src (j:=0) fl m Z) fo λfp fq w a m fs f=>Ac f Z λa f=>Aa (Aj (Ai f Z Z AB λa f=>Ab f Z λa f=>Aa (have m:=m.fr 5;have m:=m.fr 5;have m:=m.fr 5;have m:Mem W fg w (B6 au ae ag::ib ae 67 [af]::ib ag 98 [Fv 59]::fp::fj::ib ar 38 [aa,ab,ac,ad]::H):=m.fr 5;have m:=m.fr 5;have m:=m.eraseAt 5;?_)))
       obtain rfl:=sj aL
       exact⟨_,Z,_,_,Z,_,fq,fp,(gt aN (gt a9 (gt bf (gt fe fh)))),f.k Z,m,fs⟩
     ·refine Ak f Z dn (Ae (Ai f Z Z Bf λa f=>Ac f Z λa f=>Aa ?_))
      rcases Ag aL with⟨ft,aL⟩|⟨ft,aL⟩
      ·refine Am f Z ft (Ae (Ab f Z λa f=>Ab f Z λa f=>Bd aL λfu fv aL=>AX T35 f Z Z Z a7 fv λfw fx a fy fz f=> ?_))
       subst fz
       refine Aw m Pl2 f Z Z fy λa f=>Bd aL λfA fB aL=>Bm 5 m aO Z CN f Z Z Z fB λfC a fD f=>Bl 5 m aO Z Pl99 f Z Z fD fB λfE a fF f=>CE m fF underlying99 f Z Z λfG fH fI w a m fJ fK f=>Aa (Bd aL λfL fM aL=> ?_)
       refine AL (λa w=>∃fN:AJ,fN=fL∧∃(fO:GH) (fP:Itm),GLe be fO∧Fr a 181 [(1,v1),(3,pb ar),(5,pb au),(7,aI),(10,bc),(12,a5),(29,aa),(30,(iv (ah.length:Int))),(31,iv aG)]∧Mem W fO w (ib ar 38 [aa,ab,ac,ad]::B6 au ae ag::ib ae 67 [af]::ib ag 98 [Fv 59]::aJ::fP::H)∧OwMf Bn fO fP bc fN) ?_ ?_
       ·refine Al (have m:=m.fr 6;have m:=m.fr 6;have m:=m.fr 6;have m:Mem W be w (B6 au ae ag::ib ae 67 [af]::ib ag 98 [Fv 59]::aJ::fG::bb::ib ar 38 [aa,ab,ac,ad]::H):=m.fr 6;have m:=m.fr 6;have m:=m.fr 5;C9 (λfQ fR a w=>∃fS:AJ,fS=fQ∧∃(fT:GH) (fU:Itm) (fV:Itm),GLe be fT∧Fr a 181 [(1,v1),(3,pb ar),(5,pb au),(7,aI),(10,bc),(12,a5),(29,aa),(30,(iv (ah.length:Int))),(31,iv aG),(134,fH)]∧Mem W fT w (fU::ib ar 38 [aa,ab,ac,ad]::B6 au ae ag::ib ae 67 [af]::ib ag 98 [Fv 59]::aJ::fV::H)∧RgA Bn fT fU fH fR∧OwMf Bn fT fV bc fS) fM fK ⟨_,Z,_,fG,bb,gr,f.k Z,m,fJ,bd⟩ ?_)
        clear fM f m
        rintro fQ fR fW a w ⟨fS,rfl,fT,fU,fV,fX,f,m,fY,fZ⟩
        refine have h1:=RMf.mono mfT _ _ _ _ fX h1;have a7:=rd1 fX a7;have aq:=rd1 fX aq;have aO:=Ow.mono (RMf.mono mfT) fX aO;Ae (CP (enc:=Bn) Mf74.inj 0 m fY Z f Z Z (λf0 a f=> ?_) λf1 f2 f3 w a f4 m f5 f=> ?_)
        ·have f6:=CF fW f0
         subst f6
         exact have m:=m.eraseAt 0;l_o f (AD (f.e Z) Z) λa f=>Aa (Ah (Ak f Z Z (AE Z ⟨_,Z,_,fV,fX,f.k Z,m,fZ⟩)))
        ·obtain⟨f7,f8,f9⟩:=Ck fW f4
         refine have ga:=CO f4;l_o f (AD (f.e Z) Z) λa f=>Aa (Ah (Am f Z Z (An (Al (Ae (CD 0 m f5 Z f Z Z λa f=>l_o f (AD (f.e Z) Z) λa f=>l_o f (AD (f.e Z) Z) λa f=>Ac f Z λa f=>Ac f Z λa f=>AF (Ab f Z λa f=>Ab f Z λa f=>Bd f8 λgb gc f8=>AX T35 f Z Z Z a7 gc λgd ge a gf gg f=> ?_)))))))
         subst gg
         refine Aw m Pl2 f Z Z gf λa f=>Bd f8 λgh gi f8=>Bm 5 m aO Z CN f Z Z Z gi λgj a gk f=>Bl 5 m aO Z Pl99 f Z Z gk gi λgl a gm f=>CE m gm underlying99 f Z Z λgn go gp w a m gq gs f=>Aa (Bd f8 λgu gv f8=> ?_)
         refine AL (λa w=>∃gw:AJ,gw=gu∧∃(gx:GH) (gy:Itm),GLe fT gx∧Fr a 181 [(1,v1),(3,pb ar),(5,pb au),(7,aI),(10,bc),(12,a5),(21,(.int .u32 f1.1)),(22,iv f1.2),(29,aa),(30,(iv (ah.length:Int))),(31,iv aG),(134,fH)]∧Mem W gx w (f3::ib ar 38 [aa,ab,ac,ad]::B6 au ae ag::ib ae 67 [af]::ib ag 98 [Fv 59]::aJ::gy::H)∧OwMf Bn gx gy bc gw) ?_ ?_
         ·refine Al (C9 (λgz gA a w=>∃gB:AJ,gB=gz∧∃(gC:GH) (gD:Itm) (gE:Itm),GLe fT gC∧Fr a 181 [(1,v1),(3,pb ar),(5,pb au),(7,aI),(10,bc),(12,a5),(21,(.int .u32 f1.1)),(22,iv f1.2),(29,aa),(30,(iv (ah.length:Int))),(31,iv aG),(134,fH),(146,go)]∧Mem W gC w (gD::f3::ib ar 38 [aa,ab,ac,ad]::B6 au ae ag::ib ae 67 [af]::ib ag 98 [Fv 59]::aJ::gE::H)∧RgA Bn gC gD go gA∧OwMf Bn gC gE bc gB) gv gs ⟨_,Z,_,gn,fV,gr,f.k Z,m,gq,fZ⟩ ?_)
          clear gv f m
          rintro gz gA gF a w ⟨gB,rfl,gC,gD,gE,gG,f,m,gH,gI⟩
          refine have h1:=RMf.mono mfT _ _ _ _ gG h1;have f5:=RgF.mono gG f5;have aq:=rd1 gG aq;Ae (CP (enc:=Bn) Mf74.inj 0 m gH Z f Z Z (λgJ a f=> ?_) λgK gL gM w a gN m gO f=> ?_)
          ·have gP:=CF gF gJ
           subst gP
           exact have m:=m.eraseAt 0;l_o f (AD (f.e Z) Z) λa f=>Aa (Ah (Ak f Z Z (AE Z ⟨_,Z,_,gE,gG,f.k Z,m,gI⟩)))
          ·obtain⟨gQ,gR,gS⟩:=Ck gF gN
           refine have gT:=CO gN;l_o f (AD (f.e Z) Z) λa f=>Aa (Ah (Am f Z Z (An (Al (Ae (CD 0 m gO Z f Z Z λa f=>l_o f (AD (f.e Z) Z) λa f=>l_o f (AD (f.e Z) Z) λa f=>Ac f Z λa f=>Ac f Z λa f=>AF (AQ underlying96 Z sizeOf93 f Z λa f=>Ao 3 2 m Pl93 f Z Z Z Z λa f=>Ab f Z λa f=>Ab f Z λa f=>Bd gR λgU gV gR=>CC f Z Z Z call113 (Wk.n0 m gV) λgW gX gY w gZ m g0 a f=> ?_)))))))
           obtain⟨rfl,rfl⟩:=g0
           refine have h1:=RMf.mono mfT _ _ _ _ gZ h1;have gO:=RgF.mono gZ gO;have f5:=RgF.mono gZ f5;have aq:=rd1 gZ aq;have gI:=OwMf.mono mfT gZ gI;Ab f Z λa f=>l_o f (AD (f.e Z) Z) λa f=>l_o f (AD (f.e Z) Z) λa f=>Ac f Z λa f=>Ac f Z λa f=>AF (Ab f Z λa f=>Aa ?_)
           rcases Ag gR with⟨g1,gR⟩|⟨g1,gR⟩
           ·refine Am f Z g1 (have m:=m.fr 7;Fh [gE] (gM::f3::ib ar 38 [aa,ab,ac,ad]::B6 au ae ag::ib ae 67 [af]::ib ag 98 [Fv 59]::aJ::H) 9 AV (by kernel_rfl) m (Bc (i:=0) (ds:=[Fw 111 #[(pb ae)],Fw 112 #[(pb ag)],Fv 113,Fv 60,Fv 61]) 9 3 Ag96 Z Z Z Z (by kernel_rfl) Z f Z Z Z λa f=>As 1 9 Z f Z λa f=>As 2 9 Z f Z λa f=>Br 3 9 underlying96 Z sizeOf94 Z f Z λa f=>Bo 4 9 3 Pl94 Z Z Z f Z λa f=>As 5 9 Z f Z λa f=>As 6 9 Z f Z λa f=>Bd gR λg2 g3 gR=>q_callv (i:=7) 9 Z (by kernel_rfl) Z f Z Z Z Z call60 (λ_ _ w g4 m=>Wk.V m g3) λa f=>Bw 8 Z λg5 w g6 m g7 g7=>have h1:=RMf.mono mfT _ _ _ _ g6 h1;have gI:=OwMf.mono mfT g6 gI;have gO:=RgF.mono g6 gO;have f5:=RgF.mono g6 f5;have aq:=rd1 g6 aq;have m:=m.fr 6;have m:=m.fr 6;Bd gR λg8 g9 gR=> ?_))
            refine A9 f Z call114 (Wk.T m aq gI g9) λha hb hc w he m hf a f=> ?_
            obtain⟨hg,rfl,hh⟩:=hf
            refine have h1:=RMf.mono mfT _ _ _ _ he h1;have gO:=RgF.mono he gO;have f5:=RgF.mono he f5;Aa (have m:=m.fr 6;have m:=m.fr 6;have m:=m.fr 6;have m:Mem W hb w (gM::f3::ib ar 38 [aa,ab,ac,ad]::B6 au ae ag::ib ae 67 [af]::ib ag 98 [Fv 59]::hg::aJ::H):=m.fr 6;have m:=m.fr 6;g7 hb [hg] _ _ he m (A4 λhi w hj m=>have h1:=RMf.mono mfT _ _ _ _ hj h1;have hh:=OwMf.mono mfT hj hh;have gO:=RgF.mono hj gO;have f5:=RgF.mono hj f5;Aa (have m:=m.fr 7;have m:=m.fr 7;have m:=m.fr 7;have m:Mem W hi w (B6 au ae ag::ib ae 67 [af]::ib ag 98 [Fv 59]::aJ::hg::gM::f3::ib ar 38 [aa,ab,ac,ad]::H):=m.fr 7;have m:=m.fr 7;have m:=m.fr 7;have m:=m.fr 7;?_)))
            obtain rfl:=sj gR
            exact⟨_,_,gT,gS,_,Z,_,gM,hg,(gt gG (gt gZ (gt g6 (gt he hj)))),f.k Z,m,gO.any,hh⟩
           ·refine Ak f Z g1 (An ?_)
            obtain rfl:=sj gR
            exact⟨_,_,gT,gS,_,Z,_,gM,gE,(gt gG gZ),f.k Z,m,gO.any,gI⟩
         ·rintro a w ⟨gw,rfl,gx,gy,hk,f,m,hl⟩
          refine have h1:=RMf.mono mfT _ _ _ _ hk h1;have f5:=RgF.mono hk f5;?_
          obtain rfl:=sj f8
          exact⟨_,_,ga,f9,_,Z,_,f3,gy,(gt fX hk),f.k Z,m,f5.any,hl⟩
       ·rintro a w ⟨fN,rfl,fO,fP,hm,f,m,hn⟩
        refine have h1:=RMf.mono mfT _ _ _ _ hm h1;have aO:=Ow.mono (RMf.mono mfT) hm aO;Aj (Ab f Z λa f=>Ab f Z λa f=>have m:=m.fr 5;?_)
        obtain⟨ho,hp,m,hq⟩:=OwMf.stamp mfT hn m
        refine have h1:=RMf.mono mfT _ _ _ _ hp h1;have aO:=Ow.mono (RMf.mono mfT) hp aO;AO (R:=(RMf Bn)) (xs:=([fN]:List AJ)) (RMf.one _) m CN f Z Z Z (by decide) (All2.cons hq (All2.nil _)) λhr hs w a m ht f=>Bd aL λhu hv aL=>A6 (RMf.one _) 5 m aO Z CN Z (by decide) f Z Z Z (Ow.src (j:=0) ht m Z) hv λhw hx w a m hy f=>Ac f Z λa f=>Aa (Aj (Ai f Z Z AB λa f=>Ab f Z λa f=>Aa (have m:=m.fr 5;have m:=m.fr 5;have m:=m.fr 5;have m:Mem W ho w (B6 au ae ag::ib ae 67 [af]::ib ag 98 [Fv 59]::hw::hr::ib ar 38 [aa,ab,ac,ad]::H):=m.fr 5;have m:=m.fr 5;have m:=m.eraseAt 5;?_)))
        obtain rfl:=sj aL
        exact⟨_,Z,_,_,Z,_,hx,hw,(gt aN (gt a9 (gt bf (gt hm hp)))),f.k Z,m,hy⟩
      ·refine Ak f Z ft (An (Aj (Ab f Z λa f=>Ab f Z λa f=> ?_)))
       obtain⟨hz,hA,m,hB⟩:=OwMf.stamp mfT bd m
       refine have h1:=RMf.mono mfT _ _ _ _ hA h1;have aO:=Ow.mono (RMf.mono mfT) hA aO;AO (R:=(RMf Bn)) (xs:=([(mf0:AJ)]:List AJ)) (RMf.one _) m CN f Z Z Z (by decide) (All2.cons hB (All2.nil _)) λhC hD w a m hE f=>Bd aL λhF hG aL=>A6 (RMf.one _) 5 m aO Z CN Z (by decide) f Z Z Z (Ow.src (j:=0) hE m Z) hG λhH hI w a m hJ f=>Ac f Z λa f=>Aa (Aj (Ai f Z Z AB λa f=>Ab f Z λa f=>Aa (have m:=m.fr 5;have m:=m.fr 5;have m:=m.fr 5;have m:Mem W hz w (B6 au ae ag::ib ae 67 [af]::ib ag 98 [Fv 59]::hH::hC::ib ar 38 [aa,ab,ac,ad]::H):=m.fr 5;have m:=m.fr 5;have m:=m.eraseAt 5;?_)))
       obtain rfl:=sj aL
       exact⟨_,Z,_,_,Z,_,hI,hH,(gt aN (gt a9 (gt bf hA))),f.k Z,m,hJ⟩
  ·refine Ak f Z aP (AE Z (have m:=m.fr 4;have m:=m.fr 4;have m:=m.fr 4;have m:Mem W aH w (ib ae 67 [af]::ib ag 98 [Fv 59]::aJ::ib ar 38 [aa,ab,ac,ad]::H):=m.eraseAt 4;have m:=m.eraseAt 3;?_))
   obtain rfl:=sj aL
   obtain rfl:=aM _ rfl
   exact⟨_,Z,_,aI,aJ,aN,f.k Z,m,aO⟩
 ·rintro a w ⟨aA,rfl,aB,aC,aD,hK,f,m,hL⟩
  refine Ae (Ab f Z λa f=>Ab f Z λa f=>BH 2 m hL Z underlying140 f Z Z λa f=>Ai f Z Z CA λa f=>Bd hd λhM hN hd=>Bm 2 m hL Z CN f Z Z Z hN λhO a hP f=>Bl 2 m hL Z Pl99 f Z Z hP hN λhQ a hR f=>Ac f Z λa f=>Aa (Ar (have m:=m.eraseAt 2;?_)))
  obtain rfl:=sj hd
  exact⟨[hQ],f.g Z,f.d,_,[ib ae 67 [af],ib ag 98 [Fv 59]],hK,m,_,Z,Z,hR⟩
theorem Wk.N {aa ab ac ad ae:Value}{af:LL}{ag ah:LI}{ai aj:LL}(m:Mem W G w (H))(ak:R2 G aa af)(al:R1 G ab ag)(am:R1 G ac ah)(an:R2 G ad ai)(ao:R2 G ae aj){y:Int}(hd:D.N af ag ah ai aj=some y):
  Calls prog 15 #[(.agg #[aa]),(.agg #[ab,ac,ad,ae])] w (Res W G H (λ_ Ho v=>Ho=[]∧v=(iv y))):=by
 refine Au (args:=[(.agg #[aa]),(.agg #[ab,ac,ad,ae])]) (N:=21) [.tmp 4] func15 Z Z (lb Z) Z λa f=> ?_
 unfold D.N at hd
 refine Ae (A3 (cs:=[aa]) m f Z Z Z λap w a m f=>A3 (cs:=[ab,ac,ad,ae]) m f Z Z Z λaq w a m f=>Ac f Z λa f=>Aa (Ah (Ae (Ay 1 0 (ds:=[aa]) m Bh f Z Z Z Z Z λa f=>Ay 0 0 (ds:=[ab,ac,ad,ae]) m Cd f Z Z Z Z Z λa f=>Bd hd λar au hd=>A2 f Z call12 (Wk.j m ak al am an ao au) λav w aw m a f=>have ak:=rd2 aw ak;have al:=rd1 aw al;have am:=rd1 aw am;have an:=rd2 aw an;have ao:=rd2 aw ao;l_o f (Bj (f.e Z)) λa f=>Aa ?_))))
 rcases Ag hd with⟨ax,hd⟩|⟨ax,hd⟩
 ·refine Am f Z ax (Ae (Ac f Z λa f=>Aa (Ar (have m:=m.dp 2;?_))))
  obtain rfl:=sj hd
  exact⟨[(iv (-1))],f.g Z,f.d,_,[],aw,m,Z,Z⟩
 ·refine Ak f Z ax (An (Ae (Ay 1 0 (ds:=[aa]) m Bh f Z Z Z Z Z λa f=>Bd hd λay az hd=>BK f Z call50 (Wk.L m ak az) λaA aB aC w aD m aE a f=>have al:=rd1 aD al;have am:=rd1 aD am;have an:=rd2 aD an;have ao:=rd2 aD ao;?_)))
  obtain⟨aF,aG,m,aH⟩:=Ow.stamp (RI.mono _) aE m
  refine have al:=rd1 aG al;have am:=rd1 aG am;have an:=rd2 aG an;have ao:=rd2 aG ao;Bd hd λaI aJ hd=>A9 f Z call58 (Wk.S1 m aH aJ) λaK aL aM w aN m aO a f=> ?_
  obtain⟨aP,aQ,rfl,rfl⟩:=aO
  refine have al:=rd1 aN al;have am:=rd1 aN am;have an:=rd2 aN an;have ao:=rd2 aN ao;have aH:=rd1 aN aH;Bp (cs:=[.nilFunc,.nilFunc,.nilFunc,.nilFunc,.nilFunc]) zeroValue96 m f Z Z λaR w a m f=>Ax 0 0 (ds:=[Fw 111 #[(pb aP)],Fw 112 #[(pb aQ)],Fv 113,.nilFunc,.nilFunc]) m sizeOf96 f Z Z Z (Af Z (Af Z (Af Z (Af Z (Af Z AG))))) Z (lb Z) Z λw m=>AF (AQ underlying96 Z sizeOf94 f Z λa f=>Ax 0 3 (ds:=[Fv 60]) m sizeOf94 f Z Z Z (Af Z AG) Z (lb Z) Z λw m=>AQ underlying96 Z sizeOf94 f Z λa f=>Ax 0 4 (ds:=[Fv 61]) m sizeOf94 f Z Z Z (Af Z AG) Z (lb Z) Z λw m=>AF (Ay 3 0 (ds:=[ab,ac,ad,ae]) m Cd f Z Z Z Z Z λa f=>Ds Bn m f Z λaS aT w a m aU f=>En Mf74 (i:=0) 0 m aU Z underlying99 f Z Z Z λaV w m aW=>Ab f Z λa f=> ?_))
  refine Ay 1 0 (ds:=[Fw 111 #[(pb aP)],Fw 112 #[(pb aQ)],Fv 113,Fv 60,Fv 61]) m Ag96 f Z Z Z Z Z λa f=> ?_
  obtain⟨aX,aY,m,aZ⟩:=OwMf.stamp mfT aW m
  refine have al:=rd1 aY al;have am:=rd1 aY am;have an:=rd2 aY an;have ao:=rd2 aY ao;have aH:=rd1 aY aH;have m:=m.fr 2;have m:=m.fr 2;Bd hd λa0 a1 hd=>A9 f Z call62 (Wk.Q1 m al am an ao aZ aH a1) λa2 a3 a4 w a5 m a6 a f=> ?_
  obtain⟨a7,rfl,rfl,a8⟩:=a6
  refine have aZ:=RMf.mono mfT _ _ _ _ a5 aZ;Gd Mf74 (i:=0) m a8 underlying99 zeroValue2 f Z Z Z λa f=>Ac f Z λa f=>Aa (Ar (have m:=m.dp 5;?_))
  obtain rfl:=sj hd
  exact⟨[(iv ((a0 0).getD 0))],f.g Z,f.d,_,[],(gt aw (gt aD (gt aG (gt aN (gt aY a5))))),m,Z,Z⟩
theorem Wk.d1 {aa:Value}{ab:LL}(m:Mem W G w (H))(ac:R2 G aa ab){y:Int}(hd:D.d1 ab=some y):
  Calls prog 16 #[(.agg #[aa])] w (Res W G H (λ_ Ho v=>Ho=[]∧v=(iv y))):=by
 refine Au (args:=[(.agg #[aa])]) (N:=23) [.tmp 2] func16 Z Z (lb Z) Z λa f=> ?_
 unfold D.d1 at hd
 refine Ae (A3 (cs:=[aa]) m f Z Z Z λad w a m f=>Ac f Z λa f=>Aa (Ah (Ae (Ay 0 0 (ds:=[aa]) m Bh f Z Z Z Z Z λa f=>Bd hd λae af hd=>A2 f Z call40 (Wk.r m ac af) λag w ah m a f=>have ac:=rd2 ah ac;l_o f (Bj (f.e Z)) λa f=>Aa ?_))))
 rcases Ag hd with⟨ai,hd⟩|⟨ai,hd⟩
 ·refine Am f Z ai (Ae (Ac f Z λa f=>Aa (Ar (have m:=m.dp 1;?_))))
  obtain rfl:=sj hd
  exact⟨[(iv (-1))],f.g Z,f.d,_,[],ah,m,Z,Z⟩
 ·refine Ak f Z ai (An (Ae (Ay 0 0 (ds:=[aa]) m Bh f Z Z Z Z Z λa f=>Bd hd λaj ak hd=>BK f Z call52 (Wk.m m ac ak) λal am an w ao m ap a f=>have ac:=rd2 ao ac;Ac f Z λa f=>AF (Ac f Z λa f=>Aa (Ah (Ae (Ac f Z λa f=>Aa (Bd hd λaq ar hd=> ?_))))))))
  refine AL (λa w=>∃au:Int,au=aq∧∃(av:GH),GLe an av∧Fr a 23 [(4,iv au)]∧Mem W av w (H)) ?_ ?_
  ·refine Al (have m:=m.fr 1;AM (λaw a w=>∃ax:Int,∃ay:Int,(ax,ay)=aw∧∃(az:GH),GLe an az∧Fr a 23 [(1,pb ad),(3,al),(4,iv ax),(5,iv ay)]∧Mem W az w (ib ad 29 [aa]::am::H)) ar ⟨_,_,Z,_,gr,f.k Z,m⟩ ?_)
   clear ar f m
   rintro aw aA aB aC a w ⟨ax,ay,rfl,az,aD,f,m⟩
   refine have ac:=rd2 aD ac;have ap:=od1 aD ap;Ah (Ae (Ab f Z λa f=>Ay 0 0 (ds:=[aa]) m Bh f Z Z Z Z Z λa f=>Bd aB λaE aF aB=>A2 f Z call53 (Wk.F m ac aF) λaG w aH m a f=>have ap:=od1 aH ap;Ai f Z Z Fe λa f=>Aa ?_))
   rcases Ag aB with⟨aI,aB⟩|⟨aI,aB⟩
   ·refine Am f Z aI (An (Ah (Al (Ae (Ab f Z λa f=>Ab f Z λa f=>Bd aB λaJ aK aB=>A9 f Z call56 (Ow.lendCall (RI.mono _) 1 ap m Z (λaL aM m aN=>Wk.S m aN aK) (λ_ _ _ _ h=>h)) λaO aP aQ w aR m aS a f=> ?_)))))
    obtain⟨rfl,rfl⟩:=aS
    refine Aa ?_
    rcases Ag aB with⟨aT,aB⟩|⟨aT,aB⟩
    ·refine Am f Z aT (Aj (Ab f Z λa f=>Ai f Z Z AB λa f=>Ac f Z λa f=>Aa (Aj (Ab f Z λa f=>Ai f Z Z AB λa f=>Ac f Z λa f=>Aa ?_))))
     obtain rfl:=sj aB
     exact⟨_,Z,_,_,Z,_,(gt aD (gt aH aR)),f.k Z,m⟩
    ·refine Ak f Z aT (An (Aj (Ab f Z λa f=>Ai f Z Z AB λa f=>Ac f Z λa f=>Aa ?_)))
     obtain rfl:=sj aB
     exact⟨_,Z,_,_,Z,_,(gt aD (gt aH aR)),f.k Z,m⟩
   ·refine Ak f Z aI (AE Z (have m:=m.dp 2;?_))
    obtain rfl:=sj aB
    obtain rfl:=aC _ rfl
    exact⟨_,Z,_,(gt aD aH),f.k Z,m⟩
  ·rintro a w ⟨au,rfl,av,aU,f,m⟩
   refine Ae (Ab f Z λa f=>Ac f Z λa f=>Aa (Ar ?_))
   obtain rfl:=sj hd
   exact⟨[iv au],f.g Z,f.d,_,[],(gt ah (gt ao aU)),m,Z,Z⟩
theorem Wk.Z0 {x0:Int}(m:Mem W G w (H)){y:Bool}(hd:D.Z0 x0=some y):
  Calls prog 115 #[iv x0] w (Res W G H (λ_ Ho v=>Ho=[]∧v=(.bool y))):=by
 refine Au (args:=[iv x0]) (N:=6) [.tmp 2] func115 Z Z (lb Z) Z λa f=> ?_
 unfold D.Z0 at hd
 refine Ae (Ac f Z λa f=>AF (Ab f Z λa f=>Bd hd λaa ab hd=>A2 f Z call67 (Wk.t m ab) λac w ad m a f=>l_o f (Bj (f.e Z)) λa f=>Ac f Z λa f=>Aa (Ar ?_)))
 obtain rfl:=sj hd
 exact⟨[(.bool (!aa))],f.g Z,f.d,_,[],ad,m,Z,Z⟩
theorem Wk.V1 {v0:Value}{x0:LI}(m:Mem W G w (H))(h0:R1 G v0 x0){y:Int}(hd:D.V1 x0=some y):
  Calls prog 133 #[v0,Fv 115] w (Res W G H (λ_ Ho v=>Ho=[]∧v=(iv y))):=by
 refine Au (args:=[v0,Fv 115]) (N:=19) [.tmp 4] func133 Z Z (lb Z) Z λa f=> ?_
 unfold D.V1 at hd
 refine Ae (Ac f Z λa f=>Aa (Ah (Ae (Ab f Z λa f=>AN underlying35 f Z Z h0 λa f=>Ab f Z λa f=>Aa (Bd hd λaa ab hd=> ?_)))))
 refine AL (λa w=>∃q_33':Unit,aa= .inl q_33'∧∃(ac:GH),GLe G ac∧Fr a 19 []∧Mem W ac w (H)) ?_ ?_
 ·refine Al (AM (λad a w=>∃ae:Int,ae=ad∧∃(af:GH),GLe G af∧Fr a 19 [(0,v0),(1,Fv 115),(7,(iv (x0.length:Int))),(8,iv ae)]∧Mem W af w (H)) ab ⟨_,Z,_,gr,f.k Z,m⟩ ?_)
  clear ab f m
  rintro ad ag ah ai a w ⟨ae,rfl,af,aj,f,m⟩
  refine have h0:=rd1 aj h0;Ae (Ai f Z Z AP λa f=>Aa (Ah ?_))
  rcases Ag ah with⟨ak,ah⟩|⟨ak,ah⟩
  ·refine Am f Z ak (An (Ah (Al (Ae (Ab f Z λa f=>Ac f Z λa f=>AF (Ab f Z λa f=>Ab f Z λa f=>Ab f Z λa f=>Bd ah λal am ah=>AX T35 f Z Z Z h0 am λan ao a ap aq f=> ?_))))))
   subst aq
   refine Aw m Pl2 f Z Z ap λa f=>Bd ah λar au ah=>CC f Z Z Z call115 (Wk.Z0 m au) λav aw ax w ay m az a f=> ?_
   obtain⟨rfl,rfl⟩:=az
   refine Aa ?_
   rcases Ag ah with⟨aA,ah⟩|⟨aA,ah⟩
   ·refine Am f Z aA (Ae (Ab f Z λa f=>Ac f Z λa f=>Aa (Ar ?_)))
    obtain rfl:=sj ah
    obtain rfl:=ai _ rfl
    obtain rfl:=sj hd
    exact⟨[iv ae],f.g Z,f.d,_,[],(gt aj ay),m,Z,Z⟩
   ·refine Ak f Z aA (An (Aj (Ai f Z Z AB λa f=>Ab f Z λa f=>Aa ?_)))
    obtain rfl:=sj ah
    exact⟨_,Z,_,Z,_,(gt aj ay),f.k Z,m⟩
  ·refine Ak f Z ak (AE Z ?_)
   obtain rfl:=sj ah
   obtain rfl:=ai _ rfl
   exact⟨_,Z,_,aj,f.weak trivial,m⟩
 ·rintro a w ⟨_,rfl,ac,aB,f,m⟩
  refine Ae (Ac f Z λa f=>Aa (Ar ?_))
  obtain rfl:=sj hd
  exact⟨[(iv (-1))],f.g Z,f.d,_,[],aB,m,Z,Z⟩
theorem Wk.X1 {v0:Value}{x0:LI}(m:Mem W G w (H))(h0:R1 G v0 x0){y:Bool}(hd:D.X1 x0=some y):
  Calls prog 108 #[v0,Fv 115] w (Res W G H (λ_ Ho v=>Ho=[]∧v=(.bool y))):=by
 refine Au (args:=[v0,Fv 115]) (N:=9) [.tmp 4] func108 Z Z (lb Z) Z λa f=> ?_
 unfold D.X1 at hd
 refine Ae (Ac f Z λa f=>AF (Ab f Z λa f=>Ab f Z λa f=>Bd hd λaa ab hd=>A2 f Z call133 (Wk.V1 m h0 ab) λac w ad m a f=>Ai f Z Z EA λa f=>Ac f Z λa f=>Aa (Ar ?_)))
 obtain rfl:=sj hd
 exact⟨[(.bool (decide ((0:Int)≤aa)))],f.g Z,f.d,_,[],ad,m,Z,Z⟩
theorem Wk.E {aa v1:Value}{ab:LL}{x1:LI}(m:Mem W G w (H))(ac:R2 G aa ab)(h1:R1 G v1 x1){y:Bool}(hd:D.E ab x1=some y):
  Calls prog 63 #[(.agg #[aa]),v1] w (Res W G H (λ_ Ho v=>Ho=[]∧v=(.bool y))):=by
 refine Au (args:=[(.agg #[aa]),v1]) (N:=16) [.tmp 4] func63 Z Z (lb Z) Z λa f=> ?_
 unfold D.E at hd
 refine Ae (A3 (cs:=[aa]) m f Z Z Z λad w a m f=>Ac f Z λa f=>AF (Ab f Z λa f=>AN underlying35 f Z Z h1 λa f=>AQ underlying29 Z sizeOf27 f Z λa f=>Ao 0 0 m AW f Z Z Z Z λa f=>AN underlying27 f Z Z ac λa f=>Ai f Z Z Bf λa f=>Ab f Z λa f=>Bd hd λae af hd=> ?_))
 refine Bk 4 (λa w=>∃ag,GLe G ag∧Mem W ag w (ib ad 29 [aa]::H)∧Fr a 16 [(0,(.agg #[aa])),(1,v1),(2,pb ad),(5,v1),(6,(iv (x1.length:Int))),(7,pb ad),(8,aa),(9,(iv (ab.length:Int))),(10,(.bool ((x1.length:Int)==(ab.length:Int)))),(11,(.bool ((x1.length:Int)==(ab.length:Int)))),(15,(.bool ae))]) ?_ ?_
 ·rcases Ag af with⟨ah,af⟩|⟨ah,af⟩
  ·refine Ap f ah (Ab f Z λa f=>Ap f ah (Bd af λai aj af=>A2 f Z call108 (Wk.X1 m h1 aj) λak w al m a f=>Ap f ah (l_o f (Bj (f.e Z)) λa f=>l_o f (AK (f.e Z) ah (f.e Z)) λa f=> ?_)))
   obtain rfl:=sj af
   exact⟨_,al,m,f.k Z⟩
  ·refine Aq f ah λa f=>Aq f ah λa f=>Aq f ah λa f=>l_o f (AI (f.e Z) ah (f.e Z)) λa f=> ?_
   obtain rfl:=sj af
   exact⟨_,gr,m,f.k Z⟩
 ·rintro a w ⟨ag,am,m,f⟩
  refine Ac f Z λa f=>Aa (Ar (have m:=m.dp 1;?_))
  obtain rfl:=sj hd
  exact⟨[(.bool ae)],f.g Z,f.d,_,[],am,m,Z,Z⟩
theorem Wk.a2 {x0 x1:Int}(m:Mem W G w (H)){y:Int}(hd:D.a2 x0 x1=some y):
  Calls prog 65 #[iv x0,iv x1] w (Res W G H (λ_ Ho v=>Ho=[]∧v=(iv y))):=by
 refine Au (args:=[iv x0,iv x1]) (N:=8) [.tmp 4] func65 Z Z (lb Z) Z λa f=> ?_
 unfold D.a2 at hd
 refine Ae (Ac f Z λa f=>AF (Ab f Z λa f=>Ab f Z λa f=>l_o f (r_max2 (f.e Z) (f.e Z)) λa f=>Ac f Z λa f=>Aa (Ar ?_)))
 obtain rfl:=sj hd
 exact⟨[(iv (if x0<x1 then x1 else x0))],f.g Z,f.d,_,[],gr,m,Z,Z⟩
theorem Wk.I1 {v0:Value}{b1c0:Nat}{aa:Value}{x0 ab:LI}(m:Mem W G w (ib b1c0 35 [aa]::H))(h0:RSl (RI .u32) G v0 x0)(ac:R1 G aa ab){y:Unit}(hd:D.I1 x0 ab=some y):
  Calls prog 58 #[v0,Fw 64 #[(pb b1c0)]] w (Res W G H (λG' Ho v=>∃c0:Nat,∃c1:Nat,Ho=[ib c0 67 [v0],ib c1 98 [Fw 64 #[(pb b1c0)]],ib b1c0 35 [aa]]∧v=(.agg #[Fw 111 #[(pb c0)],Fw 112 #[(pb c1)],Fv 113,.nilFunc,.nilFunc]))):=by
 refine Au (args:=[v0,Fw 64 #[(pb b1c0)]]) (N:=8) [.cell 4 96] func58 Z Z (lb Z) Z λa f=> ?_
 unfold D.I1 at hd
 refine Ae (A3 (cs:=[v0]) m f Z Z h0.cells λad w a m f=>A3 (cs:=[Fw 64 #[(pb b1c0)]]) m f Z Z Z λae w a m f=>Bp (cs:=[.nilFunc,.nilFunc,.nilFunc,.nilFunc,.nilFunc]) zeroValue96 m f Z Z λaf w a m f=>AF (Dl f Z Z Z λa f=>Dl f Z Z Z λa f=> ?_))
 have ag:∀w,(Instr.build 96 #[(0,Fw 111 #[(pb ad)]),(1,Fw 112 #[(pb ae)]),(2,Fv 113)]).run prog w= .ok (.agg #[Fw 111 #[(pb ad)],Fw 112 #[(pb ae)],Fv 113,.nilFunc,.nilFunc]) w:=by intro w;simp[Instr.build,Instr.fill,Cb,B5,BI,BQ,BA,B9,B3]
 refine CM f Z Z ag λa f=>Ax 0 0 (ds:=[Fw 111 #[(pb ad)],Fw 112 #[(pb ae)],Fv 113,.nilFunc,.nilFunc]) m sizeOf96 f Z Z Z (Af Z (Af Z (Af Z (Af Z (Af Z AG))))) Z (lb Z) Z λw m=>Aa (Ar (have ah:=Cs (P:=prog) 0 m Ag96 f (s:=4) rfl rfl rfl;have m:=m.fr 3;have m:=m.fr 2;have m:=m.fr 3;have m:=m.eraseAt 3;?_))
 obtain rfl:=sj hd
 exact⟨[(.agg #[Fw 111 #[(pb ad)],Fw 112 #[(pb ae)],Fv 113,.nilFunc,.nilFunc])],⟨ah,trivial⟩,f.d,_,[ib ad 67 [v0],ib ae 98 [Fw 64 #[(pb b1c0)]],ib b1c0 35 [aa]],gr,m,_,_,Z,Z⟩
theorem Wk.O {aa:Nat}{ab:Value}{ac ad:Nat}{ae v1:Value}{it1:Itm}{af ag:LI}{x1:AJ}{x2 x3:Int}(m:Mem W G w (ib aa 67 [ab]::ib ac 98 [Fw 64 #[(pb ad)]]::ib ad 35 [ae]::it1::H))(ah:RSl (RI .u32) G ab af)(ai:R1 G ae ag)(o1:OwMf Bn G it1 v1 x1){y:AJ}(hd:D.O af ag x1 x2 x3=some y):
  Calls prog 114 #[(.agg #[Fw 111 #[(pb aa)],Fw 112 #[(pb ac)],Fv 113,Fv 61,Fv 65]),v1,(.int .u32 x2),iv x3] w (Res W G H (λG' Ho _=>∃i0:Itm,Ho=[ib aa 67 [ab],ib ac 98 [Fw 64 #[(pb ad)]],ib ad 35 [ae],i0]∧OwMf Bn G' i0 v1 y)):=by
 refine Au (args:=[(.agg #[Fw 111 #[(pb aa)],Fw 112 #[(pb ac)],Fv 113,Fv 61,Fv 65]),v1,(.int .u32 x2),iv x3]) (N:=25) [] func114 Z Z (lb Z) Z λa f=> ?_
 unfold D.O at hd
 refine Ae (A3 (cs:=[Fw 111 #[(pb aa)],Fw 112 #[(pb ac)],Fv 113,Fv 61,Fv 65]) m f Z Z Z λaj w a m f=>Aa (Ah (Ae (Ab f Z λa f=>Ab f Z λa f=>Gy Mf74 (i:=x2) 4 m o1 Z underlying99 zeroValue2 f Z Z Z λa f=>Ab f Z λa f=>l_o f (AD (f.e Z) Z) λa f=>l_o f (AD (f.e Z) Z) λa f=>Ac f Z λa f=>Ac f Z λa f=>AF (Ab f Z λa f=>Aa ?_)))))
 rcases Ag hd with⟨ak,hd⟩|⟨ak,hd⟩
 ·refine Am f Z ak (Aj (AQ underlying96 Z sizeOf94 f Z λa f=>Ao 0 4 m Pl94 f Z Z Z Z λa f=>Ab f Z λa f=>Ab f Z λa f=>Bd hd λal am hd=>CC f Z Z Z call65 (Wk.a2 m am) λan ao ap w aq m ar a f=> ?_))
  obtain⟨rfl,rfl⟩:=ar
  refine have o1:=OwMf.mono mfT aq o1;Ac f Z λa f=>Aa (Aj (Ab f Z λa f=>Ab f Z λa f=>Ab f Z λa f=>Fg Mf74 (i:=x2) 4 m o1 Z underlying99 f Z Z Z λau w m av=>Aa (have m:=m.fr 4;have m:=m.fr 4;have m:=m.fr 4;have m:Mem W ao w (ib aa 67 [ab]::ib ac 98 [Fw 64 #[(pb ad)]]::ib ad 35 [ae]::au::BR aj aa ac::H):=m.fr 4;have m:=m.eraseAt 4;?_)))
  obtain rfl:=sj hd
  exact⟨[],trivial,f.d,_,[ib aa 67 [ab],ib ac 98 [Fw 64 #[(pb ad)]],ib ad 35 [ae],au],aq,m,_,Z,av⟩
 ·refine Ak f Z ak (An (Aj (Ab f Z λa f=>Ab f Z λa f=>Ab f Z λa f=>Fg Mf74 (i:=x2) 4 m o1 Z underlying99 f Z Z Z λaw w m ax=>Aa (have m:=m.fr 4;have m:=m.fr 4;have m:=m.fr 4;have m:Mem W G w (ib aa 67 [ab]::ib ac 98 [Fw 64 #[(pb ad)]]::ib ad 35 [ae]::aw::BR aj aa ac::H):=m.fr 4;have m:=m.eraseAt 4;?_))))
  obtain rfl:=sj hd
  exact⟨[],trivial,f.d,_,[ib aa 67 [ab],ib ac 98 [Fw 64 #[(pb ad)]],ib ad 35 [ae],aw],gr,m,_,Z,ax⟩
theorem Wk.A1 {b1:Nat}{aa:Value}{x0:Int}{ab:LI}(m:Mem W G w (ib b1 35 [aa]::H))(ac:R1 G aa ab){y:Int}(hd:D.A1 x0 ab=some y):
  Calls prog 64 #[iv x0,pb b1] w (Res W G H (λ_ Ho v=>Ho=[ib b1 35 [aa]]∧v=(iv y))):=by
 refine Au (args:=[iv x0,pb b1]) (N:=8) [.tmp 3] func64 Z Z (lb Z) Z λa f=> ?_
 unfold D.A1 at hd
 refine Ae (Ac f Z λa f=>AF (Ao 0 0 m AY f Z Z Z Z λa f=>Ab f Z λa f=>Bd hd λad ae hd=>AX T35 f Z Z Z ac ae λaf ag a ah ai f=> ?_))
 subst ai
 refine Aw m Pl2 f Z Z ah λa f=>Ac f Z λa f=>Aa (Ar ?_)
 obtain rfl:=sj hd
 exact⟨[iv ad],f.g Z,f.d,_,[ib b1 35 [aa]],gr,m,Z,Z⟩
theorem Wk.y0 {b4 b4f0:Nat}{v4f0_0:Value}{x0 x1 x2 x3:Int}{x4f0_0:LI}(m:Mem W G w (ib b4 98 [Fw 64 #[(pb b4f0)]]::ib b4f0 35 [v4f0_0]::H))(h4f0_0:R1 G v4f0_0 x4f0_0){y:AJ}(hd:D.y0 x0 x1 x2 x3 x4f0_0=some y):
  Calls prog 112 #[(.int .u32 x0),iv x1,(.int .u32 x2),iv x3,pb b4] w (Res W G H (λG' Ho v=>∃r0:Value,∃i0:Itm,Ho=[i0,ib b4 98 [Fw 64 #[(pb b4f0)]],ib b4f0 35 [v4f0_0]]∧r0=v∧OwMf Bn G' i0 r0 y)):=by
 refine Au (args:=[(.int .u32 x0),iv x1,(.int .u32 x2),iv x3,pb b4]) (N:=25) [.tmp 9] func112 Z Z (lb Z) Z λa f=> ?_
 unfold D.y0 at hd
 refine Ae (Ac f Z λa f=>Aa (Ah (Ae (Ab f Z λa f=>Ab f Z λa f=>Bd hd λaa ab hd=>A2 f Z call90 (Wk.g m ab) λac w ad m a f=>have h4f0_0:=rd1 ad h4f0_0;Aa ?_))))
 rcases Ag hd with⟨ae,hd⟩|⟨ae,hd⟩
 ·refine Am f Z ae (Aj (Ab f Z λa f=>Ao 0 0 m Pl98 f Z Z Z Z λa f=>Ab f Z λa f=>have m:=m.fr 1;Bd hd λaf ag hd=>CC f Z Z Z call64 (Wk.A1 m h4f0_0 ag) λah ai aj w ak m al a f=> ?_))
  obtain⟨rfl,rfl⟩:=al
  refine Ai f Z Z AB λa f=>Ac f Z λa f=>AF (Ds Bn m f Z λam an w a m ao f=>Ab f Z λa f=>Ab f Z λa f=>Bd hd λap aq hd=>A2 f Z call91 (Wk.a m aq) λar w au m a f=>have ao:=OwMf.mono mfT au ao;Ai f Z Z Dw λa f=>Ab f Z λa f=>En Mf74 (i:=(iandNot .u32 x0 ap)) 0 m ao Z underlying99 f Z Z Z λav w m aw=>Ab f Z λa f=>Ac f Z λa f=>Aa (Ar (have m:=m.fr 2;have m:=m.fr 1;?_)))
  obtain rfl:=sj hd
  exact⟨[an],f.g Z,f.d,_,[av,ib b4 98 [Fw 64 #[(pb b4f0)]],ib b4f0 35 [v4f0_0]],(gt ad (gt ak au)),m,_,_,Z,Z,aw⟩
 ·refine Ak f Z ae (An (Ae (Ds Bn m f Z λax ay w a m az f=>Ab f Z λa f=>Ab f Z λa f=>Bd hd λaA aB hd=>A2 f Z call91 (Wk.a m aB) λaC w aD m a f=>have az:=OwMf.mono mfT aD az;Ai f Z Z Dw λa f=>Ab f Z λa f=>En Mf74 (i:=(iandNot .u32 x0 aA)) 0 m az Z underlying99 f Z Z Z λaE w m aF=>Ab f Z λa f=>Ac f Z λa f=>Aa (Ar ?_))))
  obtain rfl:=sj hd
  exact⟨[ay],f.g Z,f.d,_,[aE,ib b4 98 [Fw 64 #[(pb b4f0)]],ib b4f0 35 [v4f0_0]],(gt ad aD),m,_,_,Z,Z,aF⟩
theorem Wk.F1 {aa ab ac ad v1:Value}{ae:Nat}{af:Value}{ag ah:Nat}{ai:Value}{aj ak:LI}{al am:LL}{x1:AJ}{an ao:LI}(m:Mem W G w (ib ae 67 [af]::ib ag 98 [Fw 64 #[(pb ah)]]::ib ah 35 [ai]::H))(ap:R1 G aa aj)(aq:R1 G ab ak)(ar:R2 G ac al)(au:R2 G ad am)(h1:RMf Bn G v1 x1)(av:RSl (RI .u32) G af an)(aw:R1 G ai ao){y:AJ}(hd:D.F1 aj ak al am x1 an ao=some y):
  Calls prog 62 #[(.agg #[aa,ab,ac,ad]),v1,(.agg #[Fw 111 #[(pb ae)],Fw 112 #[(pb ag)],Fv 113,Fv 61,Fv 65])] w (Res W G H (λG' Ho v=>∃r0:Value,Ho=[ib ae 67 [af],ib ag 98 [Fw 64 #[(pb ah)]],ib ah 35 [ai]]∧r0=v∧RMf Bn G' r0 y)):=by
 refine Au (args:=[(.agg #[aa,ab,ac,ad]),v1,(.agg #[Fw 111 #[(pb ae)],Fw 112 #[(pb ag)],Fv 113,Fv 61,Fv 65])]) (N:=181) [.tmp 6] func62 Z Z (lb Z) Z λa f=> ?_
 unfold D.F1 at hd
 refine Ae (A3 (cs:=[aa,ab,ac,ad]) m f Z Z Z λax w a m f=>A3 (cs:=[Fw 111 #[(pb ae)],Fw 112 #[(pb ag)],Fv 113,Fv 61,Fv 65]) m f Z Z Z λay w a m f=>Ac f Z λa f=>AF (AO (R:=(RMf Bn)) (xs:=([]:List AJ)) (RMf.one _) m CN f Z Z Z (by decide) (All2.nil _) λaz aA w a m aB f=>Ac f Z λa f=>Aa (Ah (Ae (AQ underlying38 Z sizeOf35 f Z λa f=>Ao 2 0 m AY f Z Z Z Z λa f=>AN underlying35 f Z Z ap λa f=>Ab f Z λa f=>Aa (Bd hd λaC aD hd=> ?_))))))
 refine AL (λa w=>∃aE:List AJ,aE=aC∧∃(aF:GH) (aG:Value) (aH:Itm),GLe G aF∧Fr a 181 [(7,aG)]∧Mem W aF w (ib ae 67 [af]::ib ag 98 [Fw 64 #[(pb ah)]]::ib ah 35 [ai]::aH::H)∧Ow (RMf Bn) 99 aF aH aG aE) ?_ ?_
 ·refine Al (have m:=m.fr 5;have m:=m.fr 5;have m:=m.fr 5;have m:Mem W G w (BR ay ae ag::ib ae 67 [af]::ib ag 98 [Fw 64 #[(pb ah)]]::ib ah 35 [ai]::az::ib ax 38 [aa,ab,ac,ad]::H):=m.fr 4;have m:=m.fr 5;AM (λaI a w=>∃aJ:List AJ,∃aK:Int,(aJ,aK)=aI∧∃(aL:GH) (aM:Value) (aN:Itm),GLe G aL∧Fr a 181 [(1,v1),(3,pb ax),(5,pb ay),(7,aM),(29,aa),(30,(iv (aj.length:Int))),(31,iv aK)]∧Mem W aL w (ib ax 38 [aa,ab,ac,ad]::BR ay ae ag::ib ae 67 [af]::ib ag 98 [Fw 64 #[(pb ah)]]::ib ah 35 [ai]::aN::H)∧Ow (RMf Bn) 99 aL aN aM aJ) aD ⟨_,_,Z,_,aA,az,gr,f.k Z,m,aB⟩ ?_)
  clear aD f m
  rintro aI aO aP aQ a w ⟨aJ,aK,rfl,aL,aM,aN,aR,f,m,aS⟩
  refine have h1:=RMf.mono mfT _ _ _ _ aR h1;have ap:=rd1 aR ap;have aq:=rd1 aR aq;have ar:=rd2 aR ar;have au:=rd2 aR au;have av:=rd1 aR av;have aw:=rd1 aR aw;Ae (Ai f Z Z AP λa f=>Aa (Ah ?_))
  rcases Ag aP with⟨aT,aP⟩|⟨aT,aP⟩
  ·refine Am f Z aT (An (Ah (Al (Ae (Ab f Z λa f=>Bd aP λaU aV aP=>AX T35 f Z Z Z ap aV λaW aX a aY aZ f=> ?_)))))
   subst aZ
   refine Aw m Pl2 f Z Z aY λa f=>Ac f Z λa f=>Ac f Z λa f=>Aa (Ah (Bg 14 AV (by kernel_rfl) m (Br 1 14 underlying38 Z sizeOf35 Z f Z λa f=>Bo 2 14 0 AY Z Z Z f Z λa f=>As 3 14 Z f Z λa f=>Bd aP λa0 a1 aP=>Bb 4 14 T35 aq a1 Z f Z Z λa2 a3 a a4 a5 f=> ?_)))
   subst a5
   refine Ba 5 14 Pl2 a4 Z f Z λa f=>Br 6 14 underlying38 Z sizeOf27 Z f Z λa f=>Bo 7 14 0 AW Z Z Z f Z λa f=>As 8 14 Z f Z λa f=>Bd aP λa6 a7 aP=>Bb 9 14 T27 au a7 Z f Z Z λa8 a9 a ba bb f=>Ba 10 14 AY ba Z f Z λa f=>Bw 0 Z λbc w bd m be be=>have h1:=RMf.mono mfT _ _ _ _ bd h1;have bb:=rd1 bd bb;have ar:=rd2 bd ar;have av:=rd1 bd av;have aw:=rd1 bd aw;have aS:=Ow.mono (RMf.mono mfT) bd aS;Ds Bn m f Z λbf bg w a m bh f=>Aa (be bc [bf] _ _ gr m (q_p 11 14 Z f (λ_=>Bq (f.e Z)) λa f=>q_p 12 14 Z f (λ_=>Bq (f.e Z)) λa f=>q_p 13 14 Z f (λ_=>Bq (f.e Z)) λa f=>A4 λbi w bj m=>have h1:=RMf.mono mfT _ _ _ _ bj h1;have bb:=rd1 bj bb;have bh:=OwMf.mono mfT bj bh;have ar:=rd2 bj ar;have av:=rd1 bj av;have aw:=rd1 bj aw;have aS:=Ow.mono (RMf.mono mfT) bj aS;Aa (Ah (Ae (Ab f Z λa f=>Aa (Al (Ae ?_)))))))
   refine Ai f Z Z Bf λa f=>Ac f Z λa f=>Aa ?_
   rcases Ag aP with⟨bk,aP⟩|⟨bk,aP⟩
   ·refine Am f Z bk (Aj (Ab f Z λa f=>Ac f Z λa f=>Aa (Aj (Ab f Z λa f=>Ab f Z λa f=>AO (R:=(RMf Bn)) (xs:=([x1]:List AJ)) (RMf.one _) m CN f Z Z Z (by decide) (All2.cons h1 (All2.nil _)) λbl bm w a m bn f=>Bd aP λbo bp aP=>A6 (RMf.one _) 7 m aS Z CN Z (by decide) f Z Z Z (Ow.src (j:=0) bn m Z) bp λbq br w a m bs f=>Ac f Z λa f=>Aa (Aj (Ai f Z Z AB λa f=>Ab f Z λa f=>Aa (have m:=m.fr 7;have m:=m.fr 7;have m:=m.fr 7;have m:Mem W bi w (ib ae 67 [af]::ib ag 98 [Fw 64 #[(pb ah)]]::ib ah 35 [ai]::bq::bl::bf::ib ax 38 [aa,ab,ac,ad]::BR ay ae ag::H):=m.fr 7;have m:=m.fr 7;have m:=m.fr 7;have m:=m.eraseAt 7;have m:=m.eraseAt 6;?_)))))))
    obtain rfl:=sj aP
    exact⟨_,Z,_,_,Z,_,br,bq,(gt aR (gt bd bj)),f.k Z,m,bs⟩
   ·refine Ak f Z bk (Ae (Ai f Z Z Bf λa f=>Ac f Z λa f=>Aa ?_))
    rcases Ag aP with⟨bt,aP⟩|⟨bt,aP⟩
    ·refine Am f Z bt (Ae (Ab f Z λa f=>Ab f Z λa f=>Bd aP λbu bv aP=>AX T35 f Z Z Z bb bv λbw bx a bz bA f=> ?_))
     subst bA
     refine Aw m Pl2 f Z Z bz λa f=>Bd aP λbB bC aP=>Bm 6 m aS Z CN f Z Z Z bC λbD a bE f=>Bl 6 m aS Z Pl99 f Z Z bE bC λbF a bG f=>CE m bG underlying99 f Z Z λbH bI bJ w a m bK bL f=>Aa (Bd aP λbM bN aP=> ?_)
     refine AL (λa w=>∃bO:AJ,bO=bM∧∃(bP:GH) (bQ:Itm),GLe bi bP∧Fr a 181 [(1,v1),(3,pb ax),(5,pb ay),(7,aM),(10,bg),(11,iv a0),(12,a9),(29,aa),(30,(iv (aj.length:Int))),(31,iv aK)]∧Mem W bP w (ib ax 38 [aa,ab,ac,ad]::BR ay ae ag::ib ae 67 [af]::ib ag 98 [Fw 64 #[(pb ah)]]::ib ah 35 [ai]::aN::bQ::H)∧OwMf Bn bP bQ bg bO) ?_ ?_
     ·refine Al (have m:=m.fr 7;have m:=m.fr 7;have m:=m.fr 7;have m:Mem W bi w (ib ae 67 [af]::ib ag 98 [Fw 64 #[(pb ah)]]::ib ah 35 [ai]::aN::bH::bf::ib ax 38 [aa,ab,ac,ad]::BR ay ae ag::H):=m.fr 7;have m:=m.fr 7;have m:=m.fr 7;have m:=m.fr 6;C9 (λbR bS a w=>∃bT:AJ,bT=bR∧∃(bU:GH) (bV:Itm) (bW:Itm),GLe bi bU∧Fr a 181 [(1,v1),(3,pb ax),(5,pb ay),(7,aM),(10,bg),(11,iv a0),(12,a9),(29,aa),(30,(iv (aj.length:Int))),(31,iv aK),(59,bI)]∧Mem W bU w (bV::ib ax 38 [aa,ab,ac,ad]::BR ay ae ag::ib ae 67 [af]::ib ag 98 [Fw 64 #[(pb ah)]]::ib ah 35 [ai]::aN::bW::H)∧RgA Bn bU bV bI bS∧OwMf Bn bU bW bg bT) bN bL ⟨_,Z,_,bH,bf,gr,f.k Z,m,bK,bh⟩ ?_)
      clear bN f m
      rintro bR bS bX a w ⟨bT,rfl,bU,bV,bW,bY,f,m,bZ,b0⟩
      refine have h1:=RMf.mono mfT _ _ _ _ bY h1;have bb:=rd1 bY bb;have ar:=rd2 bY ar;have av:=rd1 bY av;have aw:=rd1 bY aw;Ae (CP (enc:=Bn) Mf74.inj 0 m bZ Z f Z Z (λb1 a f=> ?_) λb2 b3 b4 w a b5 m b6 f=> ?_)
      ·have b7:=CF bX b1
       subst b7
       exact have m:=m.eraseAt 0;l_o f (AD (f.e Z) Z) λa f=>Aa (Ah (Ak f Z Z (AE Z ⟨_,Z,_,bW,bY,f.k Z,m,b0⟩)))
      ·obtain⟨b8,b9,ca⟩:=Ck bX b5
       refine have cb:=CO b5;l_o f (AD (f.e Z) Z) λa f=>Aa (Ah (Am f Z Z (An (Al (Ae (CD 0 m b6 Z f Z Z λa f=>l_o f (AD (f.e Z) Z) λa f=>l_o f (AD (f.e Z) Z) λa f=>Ac f Z λa f=>Ac f Z λa f=>Aa (Ah (Bg 15 AV (by kernel_rfl) m (Br 0 15 underlying96 Z sizeOf91 Z f Z λa f=>Bo 1 15 2 Pl91 Z Z Z f Z λa f=>As 2 15 Z f Z λa f=>As 3 15 Z f Z λa f=>Br 4 15 underlying38 Z sizeOf27 Z f Z λa f=>Bo 5 15 1 AW Z Z Z f Z λa f=>As 6 15 Z f Z λa f=>Bd b9 λcc cd b9=>Bb 7 15 T35 bb cd Z f Z Z λce cf a cg ch f=> ?_)))))))))
       subst ch
       refine Ba 8 15 Pl2 cg Z f Z λa f=>Bd b9 λci cj b9=>Bb 9 15 T27 ar cj Z f Z Z λck cl a cm cn f=>Ba 10 15 AY cm Z f Z λa f=>Bd b9 λco cp b9=>B4 (i:=11) 15 Z (by kernel_rfl) Z f Z Z Z call93 (λ_ _ w cq m=>Wk.h m (rd1 cq cn) cp) λa f=>As 14 15 Z f Z λa f=>Bw 12 Z λcr w ct m cu cu=>have h1:=RMf.mono mfT _ _ _ _ ct h1;have b6:=RgF.mono ct b6;have av:=rd1 ct av;have aw:=rd1 ct aw;have b0:=OwMf.mono mfT ct b0;have m:=m.fr 3;Bd b9 λcv cw b9=>CC f Z Z Z call111 (Wk.h0 m av cw) λcx cy cz w cA m cB a f=> ?_
       obtain⟨cC,cD,rfl,rfl,cE⟩:=cB
       refine have h1:=RMf.mono mfT _ _ _ _ cA h1;have av:=rd1 cA av;have b6:=RgF.mono cA b6;have aw:=rd1 cA aw;have b0:=OwMf.mono mfT cA b0;Aa (have m:=m.fr 4;have m:=m.fr 4;have m:=m.fr 4;have m:=m.fr 3;cu cy [cD] _ _ cA m (Er (i:=13) 15 0 m cE Z underlying65 Z (by kernel_rfl) Z f Z Z Z λa f=>A4 λcF w cG m=>have h1:=RMf.mono mfT _ _ _ _ cG h1;have cE:=od1 cG cE;have b6:=RgF.mono cG b6;have av:=rd1 cG av;have aw:=rd1 cG aw;have b0:=OwMf.mono mfT cG b0;Aa (Bd b9 λcH cI b9=> ?_)))
       refine AL (λa w=>∃cJ:AJ,cJ=cH∧∃(cK:GH) (cL:Itm),GLe cF cK∧Fr a 181 [(1,v1),(3,pb ax),(5,pb ay),(7,aM),(10,bg),(11,iv a0),(12,a9),(29,aa),(30,(iv (aj.length:Int))),(31,iv aK),(59,bI)]∧Mem W cK w (b4::ib ax 38 [aa,ab,ac,ad]::BR ay ae ag::ib ae 67 [af]::ib ag 98 [Fw 64 #[(pb ah)]]::ib ah 35 [ai]::aN::cL::H)∧OwMf Bn cK cL bg cJ) ?_ ?_
       ·refine Al (have m:=m.fr 8;have m:=m.fr 8;have m:=m.fr 8;have m:Mem W cF w (ib ag 98 [Fw 64 #[(pb ah)]]::ib ah 35 [ai]::aN::bW::cD::b4::ib ax 38 [aa,ab,ac,ad]::BR ay ae ag::ib ae 67 [af]::H):=m.fr 8;have m:=m.fr 8;have m:=m.fr 8;have m:=m.fr 8;have m:=m.fr 8;AM (λcM a w=>∃cN:AJ,∃cO:Int,(cN,cO)=cM∧∃(cP:GH) (cQ:Itm),GLe cF cP∧Fr a 181 [(1,v1),(3,pb ax),(5,pb ay),(7,aM),(10,bg),(11,iv a0),(12,a9),(14,iv b2.2),(29,aa),(30,(iv (aj.length:Int))),(31,iv aK),(59,bI),(77,cC),(78,(iv (cv.length:Int))),(79,iv cO)]∧Mem W cP w (b4::ib ax 38 [aa,ab,ac,ad]::BR ay ae ag::ib ae 67 [af]::ib ag 98 [Fw 64 #[(pb ah)]]::ib ah 35 [ai]::aN::cQ::cD::H)∧OwMf Bn cP cQ bg cN) cI ⟨_,_,Z,_,bW,gr,f.k Z,m,b0⟩ ?_)
        clear cI f m
        rintro cM cR cS cT a w ⟨cN,cO,rfl,cP,cQ,cU,f,m,cV⟩
        refine have h1:=RMf.mono mfT _ _ _ _ cU h1;have b6:=RgF.mono cU b6;have av:=rd1 cU av;have aw:=rd1 cU aw;have cE:=od1 cU cE;Ae (Ai f Z Z AP λa f=>Aa (Ah ?_))
        rcases Ag cS with⟨cW,cS⟩|⟨cW,cS⟩
        ·refine Am f Z cW (An (Ah (Al (Ae (Bd cS λcX cY cS=>Bm 8 m cE Z T65 f Z Z Z cY λcZ a c0 f=>Bl 8 m cE Z CU f Z Z c0 cY λc1 a c2 f=> ?_)))))
         subst c2
         refine Ac f Z λa f=>Aa (Aj (Ay 2 0 (ds:=[Fw 111 #[(pb ae)],Fw 112 #[(pb ag)],Fv 113,Fv 61,Fv 65]) m Ag96 f Z Z Z Z Z λa f=>Ab f Z λa f=>Ab f Z λa f=>Ab f Z λa f=>have m:=m.fr 7;have m:=m.fr 6;have m:=m.fr 6;have m:=m.fr 6;Bd cS λc3 c4 cS=>A9 f Z call114 (Wk.O m av aw cV c4) λc5 c6 c7 w c8 m c9 a f=> ?_))
         obtain⟨da,rfl,db⟩:=c9
         refine have h1:=RMf.mono mfT _ _ _ _ c8 h1;have b6:=RgF.mono c8 b6;Aa (Aj (Ai f Z Z AB λa f=>Ab f Z λa f=>Aa (have m:=m.fr 7;have m:=m.fr 3;have m:=m.fr 3;have m:Mem W c6 w (ib ae 67 [af]::ib ag 98 [Fw 64 #[(pb ah)]]::ib ah 35 [ai]::aN::da::b4::ib ax 38 [aa,ab,ac,ad]::BR ay ae ag::cD::H):=m.fr 3;have m:=m.fr 7;have m:=m.fr 7;have m:=m.fr 7;?_)))
         obtain rfl:=sj cS
         exact⟨_,Z,_,_,Z,_,da,(gt cU c8),f.k Z,m,db⟩
        ·refine Ak f Z cW (AE Z (have m:=m.eraseAt 8;?_))
         obtain rfl:=sj cS
         obtain rfl:=cT _ rfl
         exact⟨_,Z,_,cQ,cU,f.k Z,m,cV⟩
       ·rintro a w ⟨cJ,rfl,cK,cL,dc,f,m,dd⟩
        refine have h1:=RMf.mono mfT _ _ _ _ dc h1;have b6:=RgF.mono dc b6;?_
        obtain rfl:=sj b9
        exact⟨_,_,cb,ca,_,Z,_,b4,cL,(gt bY (gt ct (gt cA (gt cG dc)))),f.k Z,m,b6.any,dd⟩
     ·rintro a w ⟨bO,rfl,bP,bQ,de,f,m,df⟩
      refine have h1:=RMf.mono mfT _ _ _ _ de h1;have aS:=Ow.mono (RMf.mono mfT) de aS;Aj (Ab f Z λa f=>Ab f Z λa f=>have m:=m.fr 6;?_)
      obtain⟨dg,dh,m,di⟩:=OwMf.stamp mfT df m
      refine have h1:=RMf.mono mfT _ _ _ _ dh h1;have aS:=Ow.mono (RMf.mono mfT) dh aS;AO (R:=(RMf Bn)) (xs:=([bO]:List AJ)) (RMf.one _) m CN f Z Z Z (by decide) (All2.cons di (All2.nil _)) λdj dk w a m dl f=>Bd aP λdm dn aP=>A6 (RMf.one _) 6 m aS Z CN Z (by decide) f Z Z Z (Ow.src (j:=0) dl m Z) dn λdp dq w a m dr f=>Ac f Z λa f=>Aa (Aj (Ai f Z Z AB λa f=>Ab f Z λa f=>Aa (have m:=m.fr 6;have m:=m.fr 6;have m:=m.fr 6;have m:Mem W dg w (ib ae 67 [af]::ib ag 98 [Fw 64 #[(pb ah)]]::ib ah 35 [ai]::dp::dj::ib ax 38 [aa,ab,ac,ad]::BR ay ae ag::H):=m.fr 6;have m:=m.fr 6;have m:=m.fr 6;have m:=m.eraseAt 6;?_)))
      obtain rfl:=sj aP
      exact⟨_,Z,_,_,Z,_,dq,dp,(gt aR (gt bd (gt bj (gt de dh)))),f.k Z,m,dr⟩
    ·refine Ak f Z bt (Ae (Ai f Z Z Bf λa f=>Ac f Z λa f=>Aa ?_))
     rcases Ag aP with⟨dt,aP⟩|⟨dt,aP⟩
     ·refine Am f Z dt (Ae (Ab f Z λa f=>Ab f Z λa f=>Bd aP λdu dv aP=>AX T35 f Z Z Z bb dv λdw dx a dy dz f=> ?_))
      subst dz
      refine Aw m Pl2 f Z Z dy λa f=>Bd aP λdA dB aP=>Bm 6 m aS Z CN f Z Z Z dB λdC a dD f=>Bl 6 m aS Z Pl99 f Z Z dD dB λdE a dF f=>CE m dF underlying99 f Z Z λdG dH dI w a m dJ dK f=>Aa (Bd aP λdL dM aP=> ?_)
      refine AL (λa w=>∃dN:AJ,dN=dL∧∃(dO:GH) (dP:Itm),GLe bi dO∧Fr a 181 [(1,v1),(3,pb ax),(5,pb ay),(7,aM),(8,iv aK),(10,bg),(11,iv a0),(29,aa),(30,(iv (aj.length:Int))),(31,iv aK)]∧Mem W dO w (ib ax 38 [aa,ab,ac,ad]::BR ay ae ag::ib ae 67 [af]::ib ag 98 [Fw 64 #[(pb ah)]]::ib ah 35 [ai]::aN::dP::H)∧OwMf Bn dO dP bg dN) ?_ ?_
      ·refine Al (have m:=m.fr 7;have m:=m.fr 7;have m:=m.fr 7;have m:Mem W bi w (ib ae 67 [af]::ib ag 98 [Fw 64 #[(pb ah)]]::ib ah 35 [ai]::aN::dG::bf::ib ax 38 [aa,ab,ac,ad]::BR ay ae ag::H):=m.fr 7;have m:=m.fr 7;have m:=m.fr 7;have m:=m.fr 6;C9 (λdQ dR a w=>∃dS:AJ,dS=dQ∧∃(dT:GH) (dU:Itm) (dV:Itm),GLe bi dT∧Fr a 181 [(1,v1),(3,pb ax),(5,pb ay),(7,aM),(8,iv aK),(10,bg),(11,iv a0),(29,aa),(30,(iv (aj.length:Int))),(31,iv aK),(97,dH)]∧Mem W dT w (dU::ib ax 38 [aa,ab,ac,ad]::BR ay ae ag::ib ae 67 [af]::ib ag 98 [Fw 64 #[(pb ah)]]::ib ah 35 [ai]::aN::dV::H)∧RgA Bn dT dU dH dR∧OwMf Bn dT dV bg dS) dM dK ⟨_,Z,_,dG,bf,gr,f.k Z,m,dJ,bh⟩ ?_)
       clear dM f m
       rintro dQ dR dW a w ⟨dS,rfl,dT,dU,dV,dX,f,m,dY,dZ⟩
       refine have h1:=RMf.mono mfT _ _ _ _ dX h1;have ar:=rd2 dX ar;have av:=rd1 dX av;have aw:=rd1 dX aw;Ae (CP (enc:=Bn) Mf74.inj 0 m dY Z f Z Z (λd0 a f=> ?_) λd1 d2 d3 w a d4 m d5 f=> ?_)
       ·have d6:=CF dW d0
        subst d6
        exact have m:=m.eraseAt 0;l_o f (AD (f.e Z) Z) λa f=>Aa (Ah (Ak f Z Z (AE Z ⟨_,Z,_,dV,dX,f.k Z,m,dZ⟩)))
       ·obtain⟨d7,d8,d9⟩:=Ck dW d4
        refine have ea:=CO d4;l_o f (AD (f.e Z) Z) λa f=>Aa (Ah (Am f Z Z (An (Al (Ae (CD 0 m d5 Z f Z Z λa f=>l_o f (AD (f.e Z) Z) λa f=>l_o f (AD (f.e Z) Z) λa f=>Ac f Z λa f=>Ac f Z λa f=>Aa (Ah (Bg 12 AV (by kernel_rfl) m (Br 0 12 underlying96 Z sizeOf92 Z f Z λa f=>Bo 1 12 2 Pl92 Z Z Z f Z λa f=>As 2 12 Z f Z λa f=>As 3 12 Z f Z λa f=>Br 4 12 underlying38 Z sizeOf27 Z f Z λa f=>Bo 5 12 1 AW Z Z Z f Z λa f=>As 6 12 Z f Z λa f=>Bd d8 λeb ec d8=>Bb 7 12 T27 ar ec Z f Z Z λed ee a ef eg f=>Ba 8 12 AY ef Z f Z λa f=>Bd d8 λeh ei d8=>B4 (i:=9) 12 Z (by kernel_rfl) Z f Z Z Z call93 (λ_ _ w ej m=>Wk.h m (rd1 ej eg) ei) λa f=>As 10 12 Z f Z λa f=>Bw 11 Z λek w el m em em=>have h1:=RMf.mono mfT _ _ _ _ el h1;have d5:=RgF.mono el d5;have av:=rd1 el av;have aw:=rd1 el aw;?_)))))))))
        refine have dZ:=OwMf.mono mfT el dZ;have m:=m.fr 5;have m:=m.fr 5;Bd d8 λen eo d8=>CC f Z Z Z call112 (Wk.y0 m aw eo) λep eq er w es m et a f=> ?_
        obtain⟨eu,ev,rfl,rfl,ew⟩:=et
        refine have h1:=RMf.mono mfT _ _ _ _ es h1;have aw:=rd1 es aw;have d5:=RgF.mono es d5;have av:=rd1 es av;have dZ:=OwMf.mono mfT es dZ;Aa (have m:=m.fr 6;have m:=m.fr 6;have m:=m.fr 6;have m:Mem W eq w (d3::ib ax 38 [aa,ab,ac,ad]::BR ay ae ag::ib ae 67 [af]::ev::ib ag 98 [Fw 64 #[(pb ah)]]::ib ah 35 [ai]::aN::dV::H):=m.fr 6;have m:=m.fr 4;em eq [ev] _ _ es m (A4 λex w ey m=>have h1:=RMf.mono mfT _ _ _ _ ey h1;have ew:=OwMf.mono mfT ey ew;have d5:=RgF.mono ey d5;have av:=rd1 ey av;have aw:=rd1 ey aw;have dZ:=OwMf.mono mfT ey dZ;?_))
        obtain⟨ez,eA,m,eB⟩:=OwMf.stamp mfT ew m
        refine have h1:=RMf.mono mfT _ _ _ _ eA h1;have d5:=RgF.mono eA d5;have av:=rd1 eA av;have aw:=rd1 eA aw;have dZ:=OwMf.mono mfT eA dZ;CE m eB underlying99 f Z Z λeC eD eE w a m eF eG f=>Aa (Bd d8 λeH eI d8=> ?_)
        refine AL (λa w=>∃eJ:AJ,eJ=eH∧∃(eK:GH) (eL:Itm),GLe ez eK∧Fr a 181 [(1,v1),(3,pb ax),(5,pb ay),(7,aM),(8,iv aK),(10,bg),(11,iv a0),(29,aa),(30,(iv (aj.length:Int))),(31,iv aK),(97,dH)]∧Mem W eK w (d3::ib ax 38 [aa,ab,ac,ad]::BR ay ae ag::ib ae 67 [af]::ib ag 98 [Fw 64 #[(pb ah)]]::ib ah 35 [ai]::aN::eL::H)∧OwMf Bn eK eL bg eJ) ?_ ?_
        ·refine Al (C9 (λeM eN a w=>∃eO:AJ,eO=eM∧∃(eP:GH) (eQ:Itm) (eR:Itm),GLe ez eP∧Fr a 181 [(1,v1),(3,pb ax),(5,pb ay),(7,aM),(8,iv aK),(10,bg),(11,iv a0),(29,aa),(30,(iv (aj.length:Int))),(31,iv aK),(97,dH),(115,eD)]∧Mem W eP w (eQ::d3::ib ax 38 [aa,ab,ac,ad]::BR ay ae ag::ib ae 67 [af]::ib ag 98 [Fw 64 #[(pb ah)]]::ib ah 35 [ai]::aN::eR::H)∧RgA Bn eP eQ eD eN∧OwMf Bn eP eR bg eO) eI eG ⟨_,Z,_,eC,dV,gr,f.k Z,m,eF,dZ⟩ ?_)
         clear eI f m
         rintro eM eN eS a w ⟨eO,rfl,eP,eQ,eR,eT,f,m,eU,eV⟩
         refine have h1:=RMf.mono mfT _ _ _ _ eT h1;have d5:=RgF.mono eT d5;have av:=rd1 eT av;have aw:=rd1 eT aw;Ae (CP (enc:=Bn) Mf74.inj 0 m eU Z f Z Z (λeW a f=> ?_) λeX eY eZ w a e0 m e1 f=> ?_)
         ·have e2:=CF eS eW
          subst e2
          exact have m:=m.eraseAt 0;l_o f (AD (f.e Z) Z) λa f=>Aa (Ah (Ak f Z Z (AE Z ⟨_,Z,_,eR,eT,f.k Z,m,eV⟩)))
         ·obtain⟨e3,e4,e5⟩:=Ck eS e0
          refine have e6:=CO e0;l_o f (AD (f.e Z) Z) λa f=>Aa (Ah (Am f Z Z (An (Al (Ae (CD 0 m e1 Z f Z Z λa f=>l_o f (AD (f.e Z) Z) λa f=>l_o f (AD (f.e Z) Z) λa f=>Ac f Z λa f=>Ac f Z λa f=>Aa (Aj (Ay 3 0 (ds:=[Fw 111 #[(pb ae)],Fw 112 #[(pb ag)],Fv 113,Fv 61,Fv 65]) m Ag96 f Z Z Z Z Z λa f=>Ab f Z λa f=>Ab f Z λa f=>Ab f Z λa f=>have m:=m.fr 8;have m:=m.fr 7;have m:=m.fr 7;have m:=m.fr 7;Bd e4 λe7 e8 e4=>A9 f Z call114 (Wk.O m av aw eV e8) λe9 fa fb w fc m fd a f=> ?_))))))))
          obtain⟨fe,rfl,ff⟩:=fd
          refine have h1:=RMf.mono mfT _ _ _ _ fc h1;have e1:=RgF.mono fc e1;have d5:=RgF.mono fc d5;Aa (have m:=m.fr 8;have m:=m.fr 3;have m:=m.fr 3;have m:Mem W fa w (ib ae 67 [af]::ib ag 98 [Fw 64 #[(pb ah)]]::ib ah 35 [ai]::aN::fe::eZ::d3::ib ax 38 [aa,ab,ac,ad]::BR ay ae ag::H):=m.fr 3;have m:=m.fr 8;have m:=m.fr 8;have m:=m.fr 8;have m:=m.fr 8;?_)
          obtain rfl:=sj e4
          exact⟨_,_,e6,e5,_,Z,_,eZ,fe,(gt eT fc),f.k Z,m,e1.any,ff⟩
        ·rintro a w ⟨eJ,rfl,eK,eL,fg,f,m,fh⟩
         refine have h1:=RMf.mono mfT _ _ _ _ fg h1;have d5:=RgF.mono fg d5;?_
         obtain rfl:=sj d8
         exact⟨_,_,ea,d9,_,Z,_,d3,eL,(gt dX (gt el (gt es (gt ey (gt eA fg))))),f.k Z,m,d5.any,fh⟩
      ·rintro a w ⟨dN,rfl,dO,dP,fi,f,m,fj⟩
       refine have h1:=RMf.mono mfT _ _ _ _ fi h1;have aS:=Ow.mono (RMf.mono mfT) fi aS;Aj (Ab f Z λa f=>Ab f Z λa f=>have m:=m.fr 6;?_)
       obtain⟨fk,fl,m,fm⟩:=OwMf.stamp mfT fj m
       refine have h1:=RMf.mono mfT _ _ _ _ fl h1;have aS:=Ow.mono (RMf.mono mfT) fl aS;AO (R:=(RMf Bn)) (xs:=([dN]:List AJ)) (RMf.one _) m CN f Z Z Z (by decide) (All2.cons fm (All2.nil _)) λfo fp w a m fq f=>Bd aP λfs ft aP=>A6 (RMf.one _) 6 m aS Z CN Z (by decide) f Z Z Z (Ow.src (j:=0) fq m Z) ft λfu fv w a m fw f=>Ac f Z λa f=>Aa (Aj (Ai f Z Z AB λa f=>Ab f Z λa f=>Aa (have m:=m.fr 6;have m:=m.fr 6;have m:=m.fr 6;have m:Mem W fk w (ib ae 67 [af]::ib ag 98 [Fw 64 #[(pb ah)]]::ib ah 35 [ai]::fu::fo::ib ax 38 [aa,ab,ac,ad]::BR ay ae ag::H):=m.fr 6;have m:=m.fr 6;have m:=m.fr 6;have m:=m.eraseAt 6;?_)))
       obtain rfl:=sj aP
       exact⟨_,Z,_,_,Z,_,fv,fu,(gt aR (gt bd (gt bj (gt fi fl)))),f.k Z,m,fw⟩
     ·refine Ak f Z dt (Ae (Ai f Z Z Bf λa f=>Ac f Z λa f=>Aa ?_))
      rcases Ag aP with⟨fx,aP⟩|⟨fx,aP⟩
      ·refine Am f Z fx (Ae (Ab f Z λa f=>Ab f Z λa f=>Bd aP λfy fz aP=>AX T35 f Z Z Z bb fz λfA fB a fC fD f=> ?_))
       subst fD
       refine Aw m Pl2 f Z Z fC λa f=>Bd aP λfE fF aP=>Bm 6 m aS Z CN f Z Z Z fF λfG a fH f=>Bl 6 m aS Z Pl99 f Z Z fH fF λfI a fJ f=>CE m fJ underlying99 f Z Z λfK fL fM w a m fN fO f=>Aa (Bd aP λfP fQ aP=> ?_)
       refine AL (λa w=>∃fR:AJ,fR=fP∧∃(fS:GH) (fT:Itm),GLe bi fS∧Fr a 181 [(1,v1),(3,pb ax),(5,pb ay),(7,aM),(10,bg),(12,a9),(29,aa),(30,(iv (aj.length:Int))),(31,iv aK)]∧Mem W fS w (ib ax 38 [aa,ab,ac,ad]::BR ay ae ag::ib ae 67 [af]::ib ag 98 [Fw 64 #[(pb ah)]]::ib ah 35 [ai]::aN::fT::H)∧OwMf Bn fS fT bg fR) ?_ ?_
       ·refine Al (have m:=m.fr 7;have m:=m.fr 7;have m:=m.fr 7;have m:Mem W bi w (ib ae 67 [af]::ib ag 98 [Fw 64 #[(pb ah)]]::ib ah 35 [ai]::aN::fK::bf::ib ax 38 [aa,ab,ac,ad]::BR ay ae ag::H):=m.fr 7;have m:=m.fr 7;have m:=m.fr 7;have m:=m.fr 6;C9 (λfU fV a w=>∃fW:AJ,fW=fU∧∃(fX:GH) (fY:Itm) (fZ:Itm),GLe bi fX∧Fr a 181 [(1,v1),(3,pb ax),(5,pb ay),(7,aM),(10,bg),(12,a9),(29,aa),(30,(iv (aj.length:Int))),(31,iv aK),(134,fL)]∧Mem W fX w (fY::ib ax 38 [aa,ab,ac,ad]::BR ay ae ag::ib ae 67 [af]::ib ag 98 [Fw 64 #[(pb ah)]]::ib ah 35 [ai]::aN::fZ::H)∧RgA Bn fX fY fL fV∧OwMf Bn fX fZ bg fW) fQ fO ⟨_,Z,_,fK,bf,gr,f.k Z,m,fN,bh⟩ ?_)
        clear fQ f m
        rintro fU fV f0 a w ⟨fW,rfl,fX,fY,fZ,f1,f,m,f2,f3⟩
        refine have h1:=RMf.mono mfT _ _ _ _ f1 h1;have bb:=rd1 f1 bb;have av:=rd1 f1 av;have aw:=rd1 f1 aw;have aS:=Ow.mono (RMf.mono mfT) f1 aS;Ae (CP (enc:=Bn) Mf74.inj 0 m f2 Z f Z Z (λf4 a f=> ?_) λf5 f6 f7 w a f8 m f9 f=> ?_)
        ·have ga:=CF f0 f4
         subst ga
         exact have m:=m.eraseAt 0;l_o f (AD (f.e Z) Z) λa f=>Aa (Ah (Ak f Z Z (AE Z ⟨_,Z,_,fZ,f1,f.k Z,m,f3⟩)))
        ·obtain⟨gb,gc,gd⟩:=Ck f0 f8
         refine have ge:=CO f8;l_o f (AD (f.e Z) Z) λa f=>Aa (Ah (Am f Z Z (An (Al (Ae (CD 0 m f9 Z f Z Z λa f=>l_o f (AD (f.e Z) Z) λa f=>l_o f (AD (f.e Z) Z) λa f=>Ac f Z λa f=>Ac f Z λa f=>AF (Ab f Z λa f=>Ab f Z λa f=>Bd gc λgf gg gc=>AX T35 f Z Z Z bb gg λgh gi a gj gk f=> ?_)))))))
         subst gk
         refine Aw m Pl2 f Z Z gj λa f=>Bd gc λgl gm gc=>Bm 6 m aS Z CN f Z Z Z gm λgn a go f=>Bl 6 m aS Z Pl99 f Z Z go gm λgp a gq f=>CE m gq underlying99 f Z Z λgs gu gv w a m gw gx f=>Aa (Bd gc λgy gz gc=> ?_)
         refine AL (λa w=>∃gA:AJ,gA=gy∧∃(gB:GH) (gC:Itm),GLe fX gB∧Fr a 181 [(1,v1),(3,pb ax),(5,pb ay),(7,aM),(10,bg),(12,a9),(21,(.int .u32 f5.1)),(22,iv f5.2),(29,aa),(30,(iv (aj.length:Int))),(31,iv aK),(134,fL)]∧Mem W gB w (f7::ib ax 38 [aa,ab,ac,ad]::BR ay ae ag::ib ae 67 [af]::ib ag 98 [Fw 64 #[(pb ah)]]::ib ah 35 [ai]::aN::gC::H)∧OwMf Bn gB gC bg gA) ?_ ?_
         ·refine Al (C9 (λgD gE a w=>∃gF:AJ,gF=gD∧∃(gG:GH) (gH:Itm) (gI:Itm),GLe fX gG∧Fr a 181 [(1,v1),(3,pb ax),(5,pb ay),(7,aM),(10,bg),(12,a9),(21,(.int .u32 f5.1)),(22,iv f5.2),(29,aa),(30,(iv (aj.length:Int))),(31,iv aK),(134,fL),(146,gu)]∧Mem W gG w (gH::f7::ib ax 38 [aa,ab,ac,ad]::BR ay ae ag::ib ae 67 [af]::ib ag 98 [Fw 64 #[(pb ah)]]::ib ah 35 [ai]::aN::gI::H)∧RgA Bn gG gH gu gE∧OwMf Bn gG gI bg gF) gz gx ⟨_,Z,_,gs,fZ,gr,f.k Z,m,gw,f3⟩ ?_)
          clear gz f m
          rintro gD gE gJ a w ⟨gF,rfl,gG,gH,gI,gK,f,m,gL,gM⟩
          refine have h1:=RMf.mono mfT _ _ _ _ gK h1;have f9:=RgF.mono gK f9;have av:=rd1 gK av;have aw:=rd1 gK aw;Ae (CP (enc:=Bn) Mf74.inj 0 m gL Z f Z Z (λgN a f=> ?_) λgO gP gQ w a gR m gS f=> ?_)
          ·have gT:=CF gJ gN
           subst gT
           exact have m:=m.eraseAt 0;l_o f (AD (f.e Z) Z) λa f=>Aa (Ah (Ak f Z Z (AE Z ⟨_,Z,_,gI,gK,f.k Z,m,gM⟩)))
          ·obtain⟨gU,gV,gW⟩:=Ck gJ gR
           refine have gX:=CO gR;l_o f (AD (f.e Z) Z) λa f=>Aa (Ah (Am f Z Z (An (Al (Ae (CD 0 m gS Z f Z Z λa f=>l_o f (AD (f.e Z) Z) λa f=>l_o f (AD (f.e Z) Z) λa f=>Ac f Z λa f=>Ac f Z λa f=>AF (AQ underlying96 Z sizeOf93 f Z λa f=>Ao 3 2 m Pl93 f Z Z Z Z λa f=>Ab f Z λa f=>Ab f Z λa f=>Bd gV λgY gZ gV=>CC f Z Z Z call113 (Wk.n0 m gZ) λg0 g1 g2 w g3 m g4 a f=> ?_)))))))
           obtain⟨rfl,rfl⟩:=g4
           refine have h1:=RMf.mono mfT _ _ _ _ g3 h1;have gS:=RgF.mono g3 gS;have f9:=RgF.mono g3 f9;have av:=rd1 g3 av;have aw:=rd1 g3 aw;have gM:=OwMf.mono mfT g3 gM;Ab f Z λa f=>l_o f (AD (f.e Z) Z) λa f=>l_o f (AD (f.e Z) Z) λa f=>Ac f Z λa f=>Ac f Z λa f=>AF (Ab f Z λa f=>Aa ?_)
           rcases Ag gV with⟨g5,gV⟩|⟨g5,gV⟩
           ·refine Am f Z g5 (have m:=m.fr 8;Fh [gI] (gQ::f7::ib ax 38 [aa,ab,ac,ad]::BR ay ae ag::ib ae 67 [af]::ib ag 98 [Fw 64 #[(pb ah)]]::ib ah 35 [ai]::aN::H) 9 AV (by kernel_rfl) m (Bc (i:=0) (ds:=[Fw 111 #[(pb ae)],Fw 112 #[(pb ag)],Fv 113,Fv 61,Fv 65]) 9 3 Ag96 Z Z Z Z (by kernel_rfl) Z f Z Z Z λa f=>As 1 9 Z f Z λa f=>As 2 9 Z f Z λa f=>Br 3 9 underlying96 Z sizeOf94 Z f Z λa f=>Bo 4 9 3 Pl94 Z Z Z f Z λa f=>As 5 9 Z f Z λa f=>As 6 9 Z f Z λa f=>Bd gV λg6 g7 gV=>q_callv (i:=7) 9 Z (by kernel_rfl) Z f Z Z Z Z call61 (λ_ _ w g8 m=>Wk.I m g7) λa f=>Bw 8 Z λg9 w ha m hb hb=>have h1:=RMf.mono mfT _ _ _ _ ha h1;have gM:=OwMf.mono mfT ha gM;have gS:=RgF.mono ha gS;have f9:=RgF.mono ha f9;have av:=rd1 ha av;have aw:=rd1 ha aw;have m:=m.fr 7;have m:=m.fr 7;have m:=m.fr 7;Bd gV λhc he gV=> ?_))
            refine A9 f Z call114 (Wk.O m av aw gM he) λhf hg hh w hi m hj a f=> ?_
            obtain⟨hk,rfl,hl⟩:=hj
            refine have h1:=RMf.mono mfT _ _ _ _ hi h1;have gS:=RgF.mono hi gS;have f9:=RgF.mono hi f9;Aa (have m:=m.fr 7;have m:=m.fr 7;have m:=m.fr 7;have m:Mem W hg w (gQ::f7::ib ax 38 [aa,ab,ac,ad]::BR ay ae ag::ib ae 67 [af]::ib ag 98 [Fw 64 #[(pb ah)]]::ib ah 35 [ai]::hk::aN::H):=m.fr 7;have m:=m.fr 7;hb hg [hk] _ _ hi m (A4 λhm w hn m=>have h1:=RMf.mono mfT _ _ _ _ hn h1;have hl:=OwMf.mono mfT hn hl;have gS:=RgF.mono hn gS;have f9:=RgF.mono hn f9;Aa (have m:=m.fr 8;have m:=m.fr 8;have m:=m.fr 8;have m:Mem W hm w (ib ae 67 [af]::ib ag 98 [Fw 64 #[(pb ah)]]::ib ah 35 [ai]::aN::hk::gQ::f7::ib ax 38 [aa,ab,ac,ad]::BR ay ae ag::H):=m.fr 8;have m:=m.fr 8;have m:=m.fr 8;have m:=m.fr 8;have m:=m.fr 8;?_)))
            obtain rfl:=sj gV
            exact⟨_,_,gX,gW,_,Z,_,gQ,hk,(gt gK (gt g3 (gt ha (gt hi hn)))),f.k Z,m,gS.any,hl⟩
           ·refine Ak f Z g5 (An ?_)
            obtain rfl:=sj gV
            exact⟨_,_,gX,gW,_,Z,_,gQ,gI,(gt gK g3),f.k Z,m,gS.any,gM⟩
         ·rintro a w ⟨gA,rfl,gB,gC,ho,f,m,hp⟩
          refine have h1:=RMf.mono mfT _ _ _ _ ho h1;have f9:=RgF.mono ho f9;?_
          obtain rfl:=sj gc
          exact⟨_,_,ge,gd,_,Z,_,f7,gC,(gt f1 ho),f.k Z,m,f9.any,hp⟩
       ·rintro a w ⟨fR,rfl,fS,fT,hq,f,m,hr⟩
        refine have h1:=RMf.mono mfT _ _ _ _ hq h1;have aS:=Ow.mono (RMf.mono mfT) hq aS;Aj (Ab f Z λa f=>Ab f Z λa f=>have m:=m.fr 6;?_)
        obtain⟨hs,ht,m,hu⟩:=OwMf.stamp mfT hr m
        refine have h1:=RMf.mono mfT _ _ _ _ ht h1;have aS:=Ow.mono (RMf.mono mfT) ht aS;AO (R:=(RMf Bn)) (xs:=([fR]:List AJ)) (RMf.one _) m CN f Z Z Z (by decide) (All2.cons hu (All2.nil _)) λhv hw w a m hx f=>Bd aP λhy hz aP=>A6 (RMf.one _) 6 m aS Z CN Z (by decide) f Z Z Z (Ow.src (j:=0) hx m Z) hz λhA hB w a m hC f=>Ac f Z λa f=>Aa (Aj (Ai f Z Z AB λa f=>Ab f Z λa f=>Aa (have m:=m.fr 6;have m:=m.fr 6;have m:=m.fr 6;have m:Mem W hs w (ib ae 67 [af]::ib ag 98 [Fw 64 #[(pb ah)]]::ib ah 35 [ai]::hA::hv::ib ax 38 [aa,ab,ac,ad]::BR ay ae ag::H):=m.fr 6;have m:=m.fr 6;have m:=m.fr 6;have m:=m.eraseAt 6;?_)))
        obtain rfl:=sj aP
        exact⟨_,Z,_,_,Z,_,hB,hA,(gt aR (gt bd (gt bj (gt hq ht)))),f.k Z,m,hC⟩
      ·refine Ak f Z fx (An (Aj (Ab f Z λa f=>Ab f Z λa f=> ?_)))
       obtain⟨hD,hE,m,hF⟩:=OwMf.stamp mfT bh m
       refine have h1:=RMf.mono mfT _ _ _ _ hE h1;have aS:=Ow.mono (RMf.mono mfT) hE aS;AO (R:=(RMf Bn)) (xs:=([(mf0:AJ)]:List AJ)) (RMf.one _) m CN f Z Z Z (by decide) (All2.cons hF (All2.nil _)) λhG hH w a m hI f=>Bd aP λhJ hK aP=>A6 (RMf.one _) 6 m aS Z CN Z (by decide) f Z Z Z (Ow.src (j:=0) hI m Z) hK λhL hM w a m hN f=>Ac f Z λa f=>Aa (Aj (Ai f Z Z AB λa f=>Ab f Z λa f=>Aa (have m:=m.fr 6;have m:=m.fr 6;have m:=m.fr 6;have m:Mem W hD w (ib ae 67 [af]::ib ag 98 [Fw 64 #[(pb ah)]]::ib ah 35 [ai]::hL::hG::ib ax 38 [aa,ab,ac,ad]::BR ay ae ag::H):=m.fr 6;have m:=m.fr 6;have m:=m.fr 6;have m:=m.eraseAt 6;?_)))
       obtain rfl:=sj aP
       exact⟨_,Z,_,_,Z,_,hM,hL,(gt aR (gt bd (gt bj hE))),f.k Z,m,hN⟩
  ·refine Ak f Z aT (AE Z (have m:=m.fr 5;have m:=m.fr 5;have m:=m.fr 5;have m:Mem W aL w (ib ae 67 [af]::ib ag 98 [Fw 64 #[(pb ah)]]::ib ah 35 [ai]::aN::ib ax 38 [aa,ab,ac,ad]::BR ay ae ag::H):=m.fr 5;have m:=m.eraseAt 5;have m:=m.eraseAt 4;?_))
   obtain rfl:=sj aP
   obtain rfl:=aQ _ rfl
   exact⟨_,Z,_,aM,aN,aR,f.k Z,m,aS⟩
 ·rintro a w ⟨aE,rfl,aF,aG,aH,hO,f,m,hP⟩
  refine Ae (Ab f Z λa f=>Ab f Z λa f=>BH 3 m hP Z underlying140 f Z Z λa f=>Ai f Z Z CA λa f=>Bd hd λhQ hR hd=>Bm 3 m hP Z CN f Z Z Z hR λhS a hT f=>Bl 3 m hP Z Pl99 f Z Z hT hR λhU a hV f=>Ac f Z λa f=>Aa (Ar (have m:=m.eraseAt 3;?_)))
  obtain rfl:=sj hd
  exact⟨[hU],f.g Z,f.d,_,[ib ae 67 [af],ib ag 98 [Fw 64 #[(pb ah)]],ib ah 35 [ai]],hO,m,_,Z,Z,hV⟩
theorem Wk.y {aa ab ac ad ae v2:Value}{af:LL}{ag ah:LI}{ai aj:LL}{x2:LI}(m:Mem W G w (H))(ak:R2 G aa af)(al:R1 G ab ag)(am:R1 G ac ah)(an:R2 G ad ai)(ao:R2 G ae aj)(h2:R1 G v2 x2){y:Int}(hd:D.y af ag ah ai aj x2=some y):
  Calls prog 17 #[(.agg #[aa]),(.agg #[ab,ac,ad,ae]),v2] w (Res W G H (λ_ Ho v=>Ho=[]∧v=(iv y))):=by
 refine Au (args:=[(.agg #[aa]),(.agg #[ab,ac,ad,ae]),v2]) (N:=30) [.tmp 6] func17 Z Z (lb Z) Z λa f=> ?_
 unfold D.y at hd
 refine Ae (A3 (cs:=[aa]) m f Z Z Z λap w a m f=>A3 (cs:=[ab,ac,ad,ae]) m f Z Z Z λaq w a m f=>A3 (cs:=[v2]) m f Z Z h2.cells λar w a m f=>Ac f Z λa f=>Aa (Ah (Ae (Ay 2 0 (ds:=[aa]) m Bh f Z Z Z Z Z λa f=>Ay 1 0 (ds:=[ab,ac,ad,ae]) m Cd f Z Z Z Z Z λa f=>Bd hd λau av hd=>A2 f Z call12 (Wk.j m ak al am an ao av) λaw w ax m a f=>have ak:=rd2 ax ak;have al:=rd1 ax al;have am:=rd1 ax am;have an:=rd2 ax an;have ao:=rd2 ax ao;have h2:=rd1 ax h2;l_o f (Bj (f.e Z)) λa f=>Ab f Z λa f=>Bd hd λay az hd=> ?_))))
 refine Bk 5 (λa w=>∃aA,GLe aw aA∧Mem W aA w (ib ar 35 [v2]::ib aq 38 [ab,ac,ad,ae]::ib ap 29 [aa]::H)∧Fr a 30 [(0,(.agg #[aa])),(1,(.agg #[ab,ac,ad,ae])),(2,v2),(3,pb ap),(4,pb aq),(5,pb ar),(8,(.agg #[aa])),(9,(.agg #[ab,ac,ad,ae])),(10,(.bool au)),(11,(.bool (!au))),(12,(.bool (!au))),(17,(.bool ay))]) ?_ ?_
 ·rcases Ag az with⟨aB,az⟩|⟨aB,az⟩
  ·refine Aq f aB λa f=>Aq f aB λa f=>Aq f aB λa f=>Aq f aB λa f=>l_o f (AK (f.e Z) aB (f.e Z)) λa f=> ?_
   obtain rfl:=sj az
   exact⟨_,gr,m,f.k Z⟩
  ·refine Ap f aB (Ay 2 0 (ds:=[aa]) m Bh f Z Z Z Z Z λa f=>Ap f aB (Ao 0 0 m AY f Z Z Z Z λa f=>Ap f aB (Bd az λaC aD az=>A2 f Z call63 (Wk.E m ak h2 aD) λaE w aF m a f=>Ap f aB (l_o f (Bj (f.e Z)) λa f=>l_o f (AI (f.e Z) aB (f.e Z)) λa f=> ?_))))
   obtain rfl:=sj az
   exact⟨_,aF,m,f.k Z⟩
 ·rintro a w ⟨aA,aG,m,f⟩
  refine have ak:=rd2 aG ak;have al:=rd1 aG al;have am:=rd1 aG am;have an:=rd2 aG an;have ao:=rd2 aG ao;have h2:=rd1 aG h2;Aa ?_
  rcases Ag hd with⟨aH,hd⟩|⟨aH,hd⟩
  ·refine Am f Z aH (Ae (Ac f Z λa f=>Aa (Ar (have m:=m.dp 3;?_))))
   obtain rfl:=sj hd
   exact⟨[(iv (-1))],f.g Z,f.d,_,[],(gt ax aG),m,Z,Z⟩
  ·refine Ak f Z aH (An (Ae (Ay 2 0 (ds:=[aa]) m Bh f Z Z Z Z Z λa f=>Bd hd λaI aJ hd=>BK f Z call50 (Wk.L m ak aJ) λaK aL aM w aN m aO a f=>have al:=rd1 aN al;have am:=rd1 aN am;have an:=rd2 aN an;have ao:=rd2 aN ao;have h2:=rd1 aN h2;Dl f Z Z Z λa f=> ?_)))
   obtain⟨aP,aQ,m,aR⟩:=Ow.stamp (RI.mono _) aO m
   refine have al:=rd1 aQ al;have am:=rd1 aQ am;have an:=rd2 aQ an;have ao:=rd2 aQ ao;have h2:=rd1 aQ h2;Bd hd λaS aT hd=>A9 f Z call58 (Wk.I1 m aR h2 aT) λaU aV aW w aX m aY a f=> ?_
   obtain⟨aZ,a0,rfl,rfl⟩:=aY
   refine have al:=rd1 aX al;have am:=rd1 aX am;have an:=rd2 aX an;have ao:=rd2 aX ao;have h2:=rd1 aX h2;have aR:=rd1 aX aR;Bp (cs:=[.nilFunc,.nilFunc,.nilFunc,.nilFunc,.nilFunc]) zeroValue96 m f Z Z λa1 w a m f=>Ax 0 0 (ds:=[Fw 111 #[(pb aZ)],Fw 112 #[(pb a0)],Fv 113,.nilFunc,.nilFunc]) m sizeOf96 f Z Z Z (Af Z (Af Z (Af Z (Af Z (Af Z AG))))) Z (lb Z) Z λw m=>AF (AQ underlying96 Z sizeOf94 f Z λa f=>Ax 0 3 (ds:=[Fv 61]) m sizeOf94 f Z Z Z (Af Z AG) Z (lb Z) Z λw m=>AQ underlying96 Z sizeOf94 f Z λa f=>Ax 0 4 (ds:=[Fv 65]) m sizeOf94 f Z Z Z (Af Z AG) Z (lb Z) Z λw m=>AF (Ay 4 0 (ds:=[ab,ac,ad,ae]) m Cd f Z Z Z Z Z λa f=>Ds Bn m f Z λa2 a3 w a m a4 f=>En Mf74 (i:=0) 0 m a4 Z underlying99 f Z Z Z λa5 w m a6=>Ab f Z λa f=> ?_))
   refine Ay 1 0 (ds:=[Fw 111 #[(pb aZ)],Fw 112 #[(pb a0)],Fv 113,Fv 61,Fv 65]) m Ag96 f Z Z Z Z Z λa f=> ?_
   obtain⟨a7,a8,m,a9⟩:=OwMf.stamp mfT a6 m
   refine have al:=rd1 a8 al;have am:=rd1 a8 am;have an:=rd2 a8 an;have ao:=rd2 a8 ao;have h2:=rd1 a8 h2;have aR:=rd1 a8 aR;have m:=m.fr 3;have m:=m.fr 3;have m:=m.fr 3;Bd hd λba bb hd=>A9 f Z call62 (Wk.F1 m al am an ao a9 aR h2 bb) λbc bd be w bf m bg a f=> ?_
   obtain⟨bh,rfl,rfl,bi⟩:=bg
   refine have a9:=RMf.mono mfT _ _ _ _ bf a9;Gd Mf74 (i:=0) m bi underlying99 zeroValue2 f Z Z Z λa f=>Ac f Z λa f=>Aa (Ar (have m:=m.dp 6;?_))
   obtain rfl:=sj hd
   exact⟨[(iv ((ba 0).getD 0))],f.g Z,f.d,_,[],(gt ax (gt aG (gt aN (gt aQ (gt aX (gt a8 bf)))))),m,Z,Z⟩
theorem Wk.z0 {aa ab ac ad ae:Value}{af:LL}{ag ah:LI}{ai aj:LL}(m:Mem W G w (H))(ak:R2 G aa af)(al:R1 G ab ag)(am:R1 G ac ah)(an:R2 G ad ai)(ao:R2 G ae aj){y:Int}(hd:D.z0 af ag ah ai aj=some y):
  Calls prog 18 #[(.agg #[aa]),(.agg #[ab,ac,ad,ae])] w (Res W G H (λ_ Ho v=>Ho=[]∧v=(iv y))):=by
 refine Au (args:=[(.agg #[aa]),(.agg #[ab,ac,ad,ae])]) (N:=21) [.tmp 4] func18 Z Z (lb Z) Z λa f=> ?_
 unfold D.z0 at hd
 refine Ae (A3 (cs:=[aa]) m f Z Z Z λap w a m f=>A3 (cs:=[ab,ac,ad,ae]) m f Z Z Z λaq w a m f=>Ac f Z λa f=>Aa (Ah (Ae (Ay 1 0 (ds:=[aa]) m Bh f Z Z Z Z Z λa f=>Ay 0 0 (ds:=[ab,ac,ad,ae]) m Cd f Z Z Z Z Z λa f=>Bd hd λar au hd=>A2 f Z call12 (Wk.j m ak al am an ao au) λav w aw m a f=>have ak:=rd2 aw ak;have al:=rd1 aw al;have am:=rd1 aw am;have an:=rd2 aw an;have ao:=rd2 aw ao;l_o f (Bj (f.e Z)) λa f=>Aa ?_))))
 rcases Ag hd with⟨ax,hd⟩|⟨ax,hd⟩
 ·refine Am f Z ax (Ae (Ac f Z λa f=>Aa (Ar (have m:=m.dp 2;?_))))
  obtain rfl:=sj hd
  exact⟨[(iv (-1))],f.g Z,f.d,_,[],aw,m,Z,Z⟩
 ·refine Ak f Z ax (An (Ah (Bg 13 AV (by kernel_rfl) m (Br 0 13 underlying29 Z sizeOf27 Z f Z λa f=>Bo 1 13 1 AW Z Z Z f Z λa f=>DR (i:=2) 13 underlying27 ak Z (by kernel_rfl) Z f Z Z Z λa f=>Bc (i:=3) (ds:=[aa]) 13 1 Bh Z Z Z Z (by kernel_rfl) Z f Z Z Z λa f=>Bc (i:=4) (ds:=[ab,ac,ad,ae]) 13 0 Cd Z Z Z Z (by kernel_rfl) Z f Z Z Z λa f=>Br 6 13 underlying29 Z sizeOf27 Z f Z λa f=>Bo 7 13 1 AW Z Z Z f Z λa f=>DR (i:=8) 13 underlying27 ak Z (by kernel_rfl) Z f Z Z Z λa f=>Bw 5 Z λay w az m aA aA=>have ak:=rd2 az ak;have al:=rd1 az al;have am:=rd1 az am;have an:=rd2 az an;have ao:=rd2 az ao;AO (R:=R0) (xs:=([1]:LI)) (RI.one _) m T35 f Z Z Z (by decide) (All2.cons Z (All2.nil _)) λaB aC w a m aD f=>Aa (aA ay [aB] _ _ gr m (Bw 9 Z λaE w aF m aG aG=>have ak:=rd2 aF ak;have al:=rd1 aF al;have am:=rd1 aF am;have an:=rd2 aF an;?_))))))
  refine have ao:=rd2 aF ao;have aD:=od1 aF aD;Bd hd λaH aI hd=>BK f Z call66 (Ow.lendCall (RI.mono _) 0 aD m Z (λaJ aK m aL=>Wk.e1 m aL aI) (λ_ G' _ _ ⟨r0,i0,h1,h2,h3⟩=>⟨r0,i0,h1,h2,Ow.free (RI.free _) G' h3⟩)) λaM aN aO w aP m aQ a f=>have ak:=rd2 aP ak;have al:=rd1 aP al;have am:=rd1 aP am;have an:=rd2 aP an;have ao:=rd2 aP ao;Aa (aG aO [aN,aB] _ _ aP m (Bw 10 Z λaR w aS m aT aT=>have ak:=rd2 aS ak;have al:=rd1 aS al;have am:=rd1 aS am;have an:=rd2 aS an;have ao:=rd2 aS ao;have aQ:=od1 aS aQ;Bd hd λaU aV hd=>A9 f Z call17 (Ow.lendCall (RI.mono _) 0 aQ m Z (λaW aX m aY=>Wk.y m (rd2 aX ak) (rd1 aX al) (rd1 aX am) (rd2 aX an) (rd2 aX ao) aY aV) (λ_ _ _ _ h=>h)) λaZ a0 a1 w a2 m a3 a f=> ?_))
  obtain⟨rfl,rfl⟩:=a3
  refine Aa (aT a0 [aN,aB] _ _ a2 m (q_p 11 13 Z f (λ_=>BB (f.e Z) (f.e Z) CA) λa f=>q_p 12 13 Z f (λ_=>Bq (f.e Z)) λa f=>A4 λa4 w a5 m=>Aa (Ar (have m:=m.dp 4;?_))))
  obtain rfl:=sj hd
  exact⟨[(iv (i64.wrap ((af.length:Int)-aU)))],f.g Z,f.d,_,[],(gt aw (gt az (gt aF (gt aP (gt aS (gt a2 a5)))))),m,Z,Z⟩
theorem Wk.S0 {aa:Value}{ab:LL}(m:Mem W G w (H))(ac:R2 G aa ab){y:(LI)}(hd:D.S0 ab=some y):
  Calls prog 19 #[(.agg #[aa])] w (Res W G H (λG' Ho v=>∃r0:Value,∃i0:Itm,Ho=[i0]∧r0=v∧Ow R0 2 G' i0 r0 y)):=by
 refine Au (args:=[(.agg #[aa])]) (N:=49) [.tmp 2] func19 Z Z (lb Z) Z λa f=> ?_
 unfold D.S0 at hd
 refine Ae (A3 (cs:=[aa]) m f Z Z Z λad w a m f=>Ac f Z λa f=>Aa (Ah (Ae (Ay 0 0 (ds:=[aa]) m Bh f Z Z Z Z Z λa f=>Bd hd λae af hd=>A2 f Z call40 (Wk.r m ac af) λag w ah m a f=>have ac:=rd2 ah ac;l_o f (Bj (f.e Z)) λa f=>Aa ?_))))
 rcases Ag hd with⟨ai,hd⟩|⟨ai,hd⟩
 ·refine Am f Z ai (Ae (AO (R:=R0) (xs:=([]:LI)) (RI.one _) m T35 f Z Z Z (by decide) (All2.nil _) λaj ak w a m al f=>Ac f Z λa f=>Aa (Ar (have m:=m.eraseAt 1;?_))))
  obtain rfl:=sj hd
  exact⟨[ak],f.g Z,f.d,_,[aj],ah,m,_,_,Z,Z,al⟩
 ·refine Ak f Z ai (An (Ae (Ay 0 0 (ds:=[aa]) m Bh f Z Z Z Z Z λa f=>Bd hd λam an hd=>BK f Z call52 (Wk.m m ac an) λao ap aq w ar m au a f=>have ac:=rd2 ar ac;Ac f Z λa f=>AF (Ay 1 0 (ds:=[aa]) m Bh f Z Z Z Z Z λa f=>Bd hd λav aw hd=>A2 f Z call53 (Wk.F m ac aw) λax w ay m a f=>have ac:=rd2 ay ac;have au:=od1 ay au;Ac f Z λa f=>Aa (Ah (Ae (Ac f Z λa f=>Aa (Bd hd λaz aA hd=> ?_))))))))
  refine AL (λa w=>∃aB:Int,aB=az∧∃(aC:GH),GLe ax aC∧Fr a 49 [(4,iv aB)]∧Mem W aC w (H)) ?_ ?_
  ·refine Al (have m:=m.fr 1;AM (λaD a w=>∃aE:Int,∃aF:Int,(aE,aF)=aD∧∃(aG:GH),GLe ax aG∧Fr a 49 [(1,pb ad),(3,ao),(4,iv aE),(5,iv aF)]∧Mem W aG w (ib ad 29 [aa]::ap::H)) aA ⟨_,_,Z,_,gr,f.k Z,m⟩ ?_)
   clear aA f m
   rintro aD aH aI aJ a w ⟨aE,aF,rfl,aG,aK,f,m⟩
   refine have ac:=rd2 aK ac;have au:=od1 aK au;Ah (Ae (Ab f Z λa f=>Ay 0 0 (ds:=[aa]) m Bh f Z Z Z Z Z λa f=>Bd aI λaL aM aI=>A2 f Z call53 (Wk.F m ac aM) λaN w aO m a f=>have ac:=rd2 aO ac;have au:=od1 aO au;Ai f Z Z Fe λa f=>Aa ?_))
   rcases Ag aI with⟨aP,aI⟩|⟨aP,aI⟩
   ·refine Am f Z aP (An (Ah (Al (Ae (Ab f Z λa f=>Bd aI λaQ aR aI=>A2 f Z call54 (Wk.z m aR) λaS w aT m a f=>have ac:=rd2 aT ac;have au:=od1 aT au;Ac f Z λa f=>AF (Ab f Z λa f=>Bd aI λaU aV aI=>A2 f Z call54 (Wk.z m aV) λaW w aX m a f=>have ac:=rd2 aX ac;have au:=od1 aX au;Ac f Z λa f=>Aa (Ah (Ae (Ab f Z λa f=>Ab f Z λa f=>Ai f Z Z CK λa f=>Ab f Z λa f=>Bd aI λaY aZ aI=> ?_)))))))))
    refine Bk 10 (λa w=>∃a0,GLe aW a0∧Mem W a0 w (ib ad 29 [aa]::ap::H)∧Fr a 49 [(1,pb ad),(3,ao),(4,iv aE),(5,iv aF),(6,iv aQ),(7,iv aU),(26,iv aQ),(27,iv aU),(28,(.bool (decide (aU<aQ)))),(29,(.bool (decide (aU<aQ)))),(39,(.bool aY))]) ?_ ?_
    ·rcases Ag aZ with⟨a1,aZ⟩|⟨a1,aZ⟩
     ·refine Aq f a1 λa f=>Aq f a1 λa f=>Aq f a1 λa f=>Aq f a1 λa f=>BO f Z Z Z λa f=>BO f Z Z Z λa f=>BO f Z Z Z λa f=>BO f Z Z Z λa f=>Aq f a1 λa f=>l_o f (AK (f.e Z) a1 (f.e Z)) λa f=> ?_
      obtain rfl:=sj aZ
      exact⟨_,gr,m,f.k Z⟩
     ·refine Ap f a1 (Ab f Z λa f=>Ap f a1 (Ab f Z λa f=>Ap f a1 (Ai f Z Z Bf λa f=>Ap f a1 (Ab f Z λa f=>Bd aZ λa2 a3 aZ=> ?_))))
      refine Bk 5 (λa w=>∃a4,GLe aW a4∧Mem W a4 w (ib ad 29 [aa]::ap::H)∧Fr a 49 [(1,pb ad),(3,ao),(4,iv aE),(5,iv aF),(6,iv aQ),(7,iv aU),(26,iv aQ),(27,iv aU),(28,(.bool (decide (aU<aQ)))),(29,(.bool (decide (aU<aQ)))),(30,iv aQ),(31,iv aU),(32,(.bool (aQ==aU))),(33,(.bool (aQ==aU))),(38,(.bool a2))]) ?_ ?_
      ·rcases Ag a3 with⟨a5,a3⟩|⟨a5,a3⟩
       ·refine Ap f a5 (Ab f Z λa f=>Ap f a5 (Ab f Z λa f=>Ap f a5 (Bd a3 λa6 a7 a3=>A2 f Z call55 (Wk.P m a7) λa8 w a9 m a f=>Ap f a5 (l_o f (Bj (f.e Z)) λa f=>Ap f a1 (l_o f (AK (f.e Z) a5 (f.e Z)) λa f=> ?_)))))
        obtain rfl:=sj a3
        exact⟨_,a9,m,f.k Z⟩
       ·refine Aq f a5 λa f=>Aq f a5 λa f=>Aq f a5 λa f=>Aq f a5 λa f=>Ap f a1 (l_o f (AI (f.e Z) a5 (f.e Z)) λa f=> ?_)
        obtain rfl:=sj a3
        exact⟨_,gr,m,f.k Z⟩
      ·rintro a w ⟨a4,ba,m,f⟩
       refine l_o f (AI (f.e Z) a1 (f.e Z)) λa f=> ?_
       obtain rfl:=sj aZ
       exact⟨_,ba,m,f.k Z⟩
    ·rintro a w ⟨a0,bb,m,f⟩
     refine have ac:=rd2 bb ac;have au:=od1 bb au;Aa ?_
     rcases Ag aI with⟨bc,aI⟩|⟨bc,aI⟩
     ·refine Am f Z bc (AE Z (Aj (Ab f Z λa f=>Ai f Z Z AB λa f=>Ac f Z λa f=>Aa ?_)))
      obtain rfl:=sj aI
      exact⟨_,Z,_,_,Z,_,(gt aK (gt aO (gt aT (gt aX bb)))),f.k Z,m⟩
     ·refine Ak f Z bc (An (Ae (Ab f Z λa f=>Ay 0 0 (ds:=[aa]) m Bh f Z Z Z Z Z λa f=>Bd aI λbd be aI=>A2 f Z call53 (Wk.F m ac be) λbf w bg m a f=>have au:=od1 bg au;Ab f Z λa f=>Ai f Z Z Dw λa f=>Bd aI λbh bi aI=>A9 f Z call56 (Ow.lendCall (RI.mono _) 1 au m Z (λbj bk m bl=>Wk.S m bl bi) (λ_ _ _ _ h=>h)) λbm bn bo w bp m bq a f=> ?_)))
      obtain⟨rfl,rfl⟩:=bq
      refine Aa ?_
      rcases Ag aI with⟨br,aI⟩|⟨br,aI⟩
      ·refine Am f Z br (Aj (Ab f Z λa f=>Ac f Z λa f=>Aa (Aj (Ab f Z λa f=>Ai f Z Z AB λa f=>Ac f Z λa f=>Aa ?_))))
       obtain rfl:=sj aI
       exact⟨_,Z,_,_,Z,_,(gt aK (gt aO (gt aT (gt aX (gt bb (gt bg bp)))))),f.k Z,m⟩
      ·refine Ak f Z br (An (Aj (Ab f Z λa f=>Ai f Z Z AB λa f=>Ac f Z λa f=>Aa ?_)))
       obtain rfl:=sj aI
       exact⟨_,Z,_,_,Z,_,(gt aK (gt aO (gt aT (gt aX (gt bb (gt bg bp)))))),f.k Z,m⟩
   ·refine Ak f Z aP (AE Z (have m:=m.dp 2;?_))
    obtain rfl:=sj aI
    obtain rfl:=aJ _ rfl
    exact⟨_,Z,_,(gt aK aO),f.k Z,m⟩
  ·rintro a w ⟨aB,rfl,aC,bs,f,m⟩
   refine Ae (Ab f Z λa f=>Bd hd λbt bu hd=>BK f Z call57 (Wk.c0 m bu) λbv bw bx w bz m bA a f=>Ac f Z λa f=>Aa (Ar ?_))
   obtain rfl:=sj hd
   exact⟨[bv],f.g Z,f.d,_,[bw],(gt ah (gt ar (gt ay (gt bs bz)))),m,_,_,Z,Z,bA⟩
end Go.Proofs.YtljcmdbpfeffcaaGreatDoor

set_option maxRecDepth 100000
namespace Go.Proofs.YtljcmdbpfeffcaaGreatDoor
open Go Go.Sx
open Go.Proofs.Tryz Go.Proofs.YtljcmdbpfeffcaaGreatDoor.Tryz IntKind
variable {W w : World} {G : GH} {H : List Itm}
abbrev BJ (p0 p1 p2 p3 p4 p5 p6 p7 p8 p9 p10 p11 p12 p13 p14 p15:Int):List Value:=[(.int .i8 p0),(.int .i8 p1),(.int .i8 p2),(.int .i8 p3),(.int .i8 p4),(.int .i8 p5),(.int .i8 p6),(.int .i8 p7),(.int .i8 p8),(.int .i8 p9),(.int .i8 p10),(.int .i8 p11),(.int .i8 p12),(.int .i8 p13),(.int .i8 p14),(.int .i8 p15)]
abbrev DO :List Value:=[(.int .i8 0),(.int .i8 0),(.int .i8 0),(.int .i8 0),(.int .i8 0),(.int .i8 0),(.int .i8 0),(.int .i8 0),(.int .i8 0),(.int .i8 0),(.int .i8 0),(.int .i8 0),(.int .i8 0),(.int .i8 0),(.int .i8 0),(.int .i8 0)]
abbrev Dr (p0 p1 p2 p3 p4 p5 p6 p7 p8 p9 p10 p11 p12 p13 p14 p15:Int):Array Value:= #[(.int .i8 p0),(.int .i8 p1),(.int .i8 p2),(.int .i8 p3),(.int .i8 p4),(.int .i8 p5),(.int .i8 p6),(.int .i8 p7),(.int .i8 p8),(.int .i8 p9),(.int .i8 p10),(.int .i8 p11),(.int .i8 p12),(.int .i8 p13),(.int .i8 p14),(.int .i8 p15)]
abbrev Gl :Array Value:= #[(.int .i8 0),(.int .i8 0),(.int .i8 0),(.int .i8 0),(.int .i8 0),(.int .i8 0),(.int .i8 0),(.int .i8 0),(.int .i8 0),(.int .i8 0),(.int .i8 0),(.int .i8 0),(.int .i8 0),(.int .i8 0),(.int .i8 0),(.int .i8 0)]
abbrev BL (c:C16):List Value:=[(.int .i8 c.c0),(.int .i8 c.c1),(.int .i8 c.c2),(.int .i8 c.c3),(.int .i8 c.c4),(.int .i8 c.c5),(.int .i8 c.c6),(.int .i8 c.c7),(.int .i8 c.c8),(.int .i8 c.c9),(.int .i8 c.c10),(.int .i8 c.c11),(.int .i8 c.c12),(.int .i8 c.c13),(.int .i8 c.c14),(.int .i8 c.c15)]
abbrev EI (b:Nat)(p0 p1 p2 p3 p4 p5 p6 p7 p8 p9 p10 p11 p12 p13 p14 p15:Int):Itm:=ib b 105 [(.int .i8 p0),(.int .i8 p1),(.int .i8 p2),(.int .i8 p3),(.int .i8 p4),(.int .i8 p5),(.int .i8 p6),(.int .i8 p7),(.int .i8 p8),(.int .i8 p9),(.int .i8 p10),(.int .i8 p11),(.int .i8 p12),(.int .i8 p13),(.int .i8 p14),(.int .i8 p15)]
abbrev BM (b:Nat)(p0 p1:Nat):Itm:=ib b 113 [Fw 68 #[(pb p0),(pb p1)],Fv 71,Fv 72,Fv 60,Fv 61]
abbrev Cf (b:Nat)(p0 p1:Int)(p2:Value):Itm:=ib b 52 [p2,iv p0,(.int .u64 p1)]
theorem Mf105 :KeyE prog 105 BF:=KeyE.c16 (ft:=103) ⟨underlying105,underlying103,isAgg103,sizeOf103⟩
theorem Dy :Agg prog 105 16:=⟨isAgg105,sizeOf105⟩
theorem Ar105 :ArT prog 105 103:=⟨underlying105,underlying103,isAgg103,sizeOf103⟩
theorem Eb :SlT prog 145 109 1 8 (.map none):=⟨underlying145,Tryz.t109,by kernel_rfl,by kernel_rfl,by kernel_rfl,by kernel_rfl⟩
theorem FD :Cj prog 103:=isAgg103
theorem T106 :SlT prog 106 105 16 16 (.agg Gl):=⟨underlying106,Tryz.t105,by kernel_rfl,by kernel_rfl,by kernel_rfl,by kernel_rfl⟩
theorem Ag113 :Agg prog 113 5:=⟨isAgg113,sizeOf113⟩
theorem Pl108 :Cj prog 108:=isAgg108
theorem Pl109 :Cj prog 109:=isAgg109
theorem Pl110 :Cj prog 110:=isAgg110
theorem Pl111 :Cj prog 111:=isAgg111
theorem Wk.N0 {aa ab ac ad ae af ag ah ai aj ak al am an ao ap:Int}{x1 x2 x3:Int}(m:Mem W G w (H)){y:Bt}(hd:D.N0 aa ab ac ad ae af ag ah ai aj ak al am an ao ap x1 x2 x3=some y):
  Calls prog 71 #[(.agg (Dr aa ab ac ad ae af ag ah ai aj ak al am an ao ap)),iv x1,(.int .u32 x2),iv x3] w (Res W G H (λG' Ho v=>∃r0:Value,∃i0:Itm,Ho=[i0]∧r0=v∧OwMf BF G' i0 r0 y)):=by
 refine Au (args:=[(.agg (Dr aa ab ac ad ae af ag ah ai aj ak al am an ao ap)),iv x1,(.int .u32 x2),iv x3]) (N:=15) [.tmp 8] func71 Z Z (lb Z) Z λa f=> ?_
 unfold D.N0 at hd
 refine Ae (A3 (cs:=(BJ aa ab ac ad ae af ag ah ai aj ak al am an ao ap)) m f Z Z Z λaq w a m f=>Ac f Z λa f=>AF (Ab f Z λa f=>Bd hd λar au hd=>l_boxElem (cs:=([aa,ab,ac,ad,ae,af,ag,ah,ai,aj,ak,al,am,an,ao,ap]:LI)) underlying105 sizeOf103 Z au f Z Z Z λa f=>Ax 0 (0+Int.toNat x1) (ds:=[(.int .i8 0)]) m sizeOf103 f Z Z Z (Af Z AG) Z (boxLe (k:= .i8) (A:=[]) (B:=[]) (cs:=([aa,ab,ac,ad,ae,af,ag,ah,ai,aj,ak,al,am,an,ao,ap]:LI)) au) (boxUp (k:= .i8) (A:=[]) (B:=[]) (cs:=([aa,ab,ac,ad,ae,af,ag,ah,ai,aj,ak,al,am,an,ao,ap]:LI)) 0 au) λw m=>AF (Ds BF m f Z λav aw w a m ax f=> ?_)))
 refine Ay 1 0 (ds:=[(.int .i8 (upd x1 0 0 aa)),(.int .i8 (upd x1 1 0 ab)),(.int .i8 (upd x1 2 0 ac)),(.int .i8 (upd x1 3 0 ad)),(.int .i8 (upd x1 4 0 ae)),(.int .i8 (upd x1 5 0 af)),(.int .i8 (upd x1 6 0 ag)),(.int .i8 (upd x1 7 0 ah)),(.int .i8 (upd x1 8 0 ai)),(.int .i8 (upd x1 9 0 aj)),(.int .i8 (upd x1 10 0 ak)),(.int .i8 (upd x1 11 0 al)),(.int .i8 (upd x1 12 0 am)),(.int .i8 (upd x1 13 0 an)),(.int .i8 (upd x1 14 0 ao)),(.int .i8 (upd x1 15 0 ap))]) m Dy f Z Z Z Z Z λa f=>Ab f Z λa f=>En Mf105 (i:=(⟨(upd x1 0 0 aa),(upd x1 1 0 ab),(upd x1 2 0 ac),(upd x1 3 0 ad),(upd x1 4 0 ae),(upd x1 5 0 af),(upd x1 6 0 ag),(upd x1 7 0 ah),(upd x1 8 0 ai),(upd x1 9 0 aj),(upd x1 10 0 ak),(upd x1 11 0 al),(upd x1 12 0 am),(upd x1 13 0 an),(upd x1 14 0 ao),(upd x1 15 0 ap)⟩:C16)) 0 m ax Z underlying109 f Z Z Z λay w m az=>Ab f Z λa f=>Ac f Z λa f=>Aa (Ar (have m:=m.eraseAt 1;?_))
 obtain rfl:=sj hd
 exact⟨[aw],f.g Z,f.d,_,[ay],gr,m,_,_,Z,Z,az⟩
theorem Wk.Y0 {aa ab ac ad ae af ag ah ai aj ak al am an ao ap:Int}{aq ar au av aw ax ay az aA aB aC aD aE aF aG aH:Int}(m:Mem W G w (H)){y:Int×Int×Int×Int×Int×Int×Int×Int×Int×Int×Int×Int×Int×Int×Int×Int×Bool}(hd:D.Y0 aa ab ac ad ae af ag ah ai aj ak al am an ao ap aq ar au av aw ax ay az aA aB aC aD aE aF aG aH=some y):
  Calls prog 72 #[(.agg (Dr aa ab ac ad ae af ag ah ai aj ak al am an ao ap)),(.agg (Dr aq ar au av aw ax ay az aA aB aC aD aE aF aG aH))] w (Res W G H (λ_ Ho v=>Ho=[]∧v= .tuple #[(.agg #[(.int .i8 y.1),(.int .i8 y.2.1),(.int .i8 y.2.2.1),(.int .i8 y.2.2.2.1),(.int .i8 y.2.2.2.2.1),(.int .i8 y.2.2.2.2.2.1),(.int .i8 y.2.2.2.2.2.2.1),(.int .i8 y.2.2.2.2.2.2.2.1),(.int .i8 y.2.2.2.2.2.2.2.2.1),(.int .i8 y.2.2.2.2.2.2.2.2.2.1),(.int .i8 y.2.2.2.2.2.2.2.2.2.2.1),(.int .i8 y.2.2.2.2.2.2.2.2.2.2.2.1),(.int .i8 y.2.2.2.2.2.2.2.2.2.2.2.2.1),(.int .i8 y.2.2.2.2.2.2.2.2.2.2.2.2.2.1),(.int .i8 y.2.2.2.2.2.2.2.2.2.2.2.2.2.2.1),(.int .i8 y.2.2.2.2.2.2.2.2.2.2.2.2.2.2.2.1)]),(.bool y.2.2.2.2.2.2.2.2.2.2.2.2.2.2.2.2)])):=by
 refine Au (args:=[(.agg (Dr aa ab ac ad ae af ag ah ai aj ak al am an ao ap)),(.agg (Dr aq ar au av aw ax ay az aA aB aC aD aE aF aG aH))]) (N:=10) [.cell 4 105,.tmp 5] func72 Z Z (lb Z) Z λa f=> ?_
 unfold D.Y0 at hd
 refine Ae (A3 (cs:=(BJ aa ab ac ad ae af ag ah ai aj ak al am an ao ap)) m f Z Z Z λaI w a m f=>A3 (cs:=(BJ aq ar au av aw ax ay az aA aB aC aD aE aF aG aH)) m f Z Z Z λaJ w a m f=>Bp (cs:=DO) zeroValue105 m f Z Z λaK w a m f=>Ac f Z λa f=>Aa (Ah (Fh [ib aK 105 DO] (ib aJ 105 (BJ aq ar au av aw ax ay az aA aB aC aD aE aF aG aH)::ib aI 105 (BJ aa ab ac ad ae af ag ah ai aj ak al am an ao ap)::H) 5 AV (by kernel_rfl) m (Bc (i:=0) (ds:=(BJ aa ab ac ad ae af ag ah ai aj ak al am an ao ap)) 5 1 Dy Z Z Z Z (by kernel_rfl) Z f Z Z Z λa f=>Bc (i:=1) (ds:=(BJ aa ab ac ad ae af ag ah ai aj ak al am an ao ap)) 5 1 Dy Z Z Z Z (by kernel_rfl) Z f Z Z Z λa f=>Bc (i:=2) (ds:=(BJ aq ar au av aw ax ay az aA aB aC aD aE aF aG aH)) 5 0 Dy Z Z Z Z (by kernel_rfl) Z f Z Z Z λa f=> ?_))))
 refine q_p 3 5 Z f (λ_=>r_eq16 Ar105 (a:=(⟨aa,ab,ac,ad,ae,af,ag,ah,ai,aj,ak,al,am,an,ao,ap⟩:C16)) (b:=(⟨aq,ar,au,av,aw,ax,ay,az,aA,aB,aC,aD,aE,aF,aG,aH⟩:C16)) (f.e Z) (f.e Z)) λa f=>Bw 4 Z λaL w aM m aN aN=>Ax 0 0 (ds:=(BJ aa ab ac ad ae af ag ah ai aj ak al am an ao ap)) m sizeOf105 f Z Z Z (Af Z (Af Z (Af Z (Af Z (Af Z (Af Z (Af Z (Af Z (Af Z (Af Z (Af Z (Af Z (Af Z (Af Z (Af Z (Af Z AG)))))))))))))))) Z (lb Z) Z λw m=>Aa (aN aL [ib aK 105 (BJ aa ab ac ad ae af ag ah ai aj ak al am an ao ap)] _ _ gr m (A4 λaO w aP m=>Ac f Z λa f=>Aa (Ar (have aQ:=Cs (P:=prog) 0 m Dy f (s:=4) rfl rfl rfl;have m:=m.dp 3;?_))))
 obtain rfl:=sj hd
 exact⟨[(.agg (Dr aa ab ac ad ae af ag ah ai aj ak al am an ao ap)),(.bool ((⟨aa,ab,ac,ad,ae,af,ag,ah,ai,aj,ak,al,am,an,ao,ap⟩:C16)==(⟨aq,ar,au,av,aw,ax,ay,az,aA,aB,aC,aD,aE,aF,aG,aH⟩:C16)))],⟨aQ,f.get _ _ Z,trivial⟩,f.d,_,[],(gt aM aP),m,Z,Z⟩
theorem Wk.E0 {b1 b2:Nat}{x0 aa ab ac ad ae af ag ah ai aj ak al am an ao:Int}{ap aq:Int}(m:Mem W G w (ib b1 105 (BJ aa ab ac ad ae af ag ah ai aj ak al am an ao ap)::ib b2 103 [(.int .i8 aq)]::H)){y:Bool}(hd:D.E0 x0 aa ab ac ad ae af ag ah ai aj ak al am an ao ap aq=some y):
  Calls prog 70 #[iv x0,pb b1,pb b2] w (Res W G H (λ_ Ho v=>Ho=[ib b1 105 (BJ aa ab ac ad ae af ag ah ai aj ak al am an ao ap),ib b2 103 [(.int .i8 aq)]]∧v=(.bool y))):=by
 refine Au (args:=[iv x0,pb b1,pb b2]) (N:=10) [.tmp 4] func70 Z Z (lb Z) Z λa f=> ?_
 unfold D.E0 at hd
 refine Ae (Ac f Z λa f=>Aa (Ah (Bg 6 AV (by kernel_rfl) m (As 0 6 Z f Z λa f=>Bd hd λar au hd=>q_boxElem (i:=1) (listed':= #[true,true,false,false,false,false]) (cs:=([aa,ab,ac,ad,ae,af,ag,ah,ai,aj,ak,al,am,an,ao,ap]:LI)) 6 underlying105 sizeOf103 Z au Z (by kernel_rfl) Z f Z Z Z Z λa f=>q_boxCell (i:=2) 6 0 FD Z (boxIx (k:= .i8) (A:=[]) (B:=[]) (cs:=([aa,ab,ac,ad,ae,af,ag,ah,ai,aj,ak,al,am,an,ao,ap]:LI)) au) Z (by kernel_rfl) Z f Z Z Z λa f=>Bo 3 6 1 FD Z Z Z f Z λa f=>q_p 4 6 Z f (λ_=>BB (f.e Z) (f.e Z) Bf) λa f=>q_p 5 6 Z f (λ_=>Bq (f.e Z)) λa f=>A4 λav w aw m=>Aa (Ar ?_)))))
 obtain rfl:=sj hd
 exact⟨[(.bool (ar==aq))],f.g Z,f.d,_,[ib b1 105 (BJ aa ab ac ad ae af ag ah ai aj ak al am an ao ap),ib b2 103 [(.int .i8 aq)]],aw,m,Z,Z⟩
theorem Wk.E1 {v0:Value}{b1c0 b1c1:Nat}{x0:LI}{aa ab ac ad ae af ag ah ai aj ak al am an ao ap:Int}{aq:Int}(m:Mem W G w (ib b1c0 105 (BJ aa ab ac ad ae af ag ah ai aj ak al am an ao ap)::ib b1c1 103 [(.int .i8 aq)]::H))(h0:R1 G v0 x0){y:Int}(hd:D.E1 x0 aa ab ac ad ae af ag ah ai aj ak al am an ao ap aq=some y):
  Calls prog 110 #[v0,Fw 70 #[(pb b1c0),(pb b1c1)]] w (Res W G H (λ_ Ho v=>Ho=[ib b1c0 105 (BJ aa ab ac ad ae af ag ah ai aj ak al am an ao ap),ib b1c1 103 [(.int .i8 aq)]]∧v=(iv y))):=by
 refine Au (args:=[v0,Fw 70 #[(pb b1c0),(pb b1c1)]]) (N:=19) [.tmp 4] func110 Z Z (lb Z) Z λa f=> ?_
 unfold D.E1 at hd
 refine Ae (Ac f Z λa f=>Aa (Ah (Ae (Ab f Z λa f=>AN underlying82 f Z Z h0 λa f=>Ab f Z λa f=>Aa (Bd hd λar au hd=> ?_)))))
 refine AL (λa w=>∃q_33':Unit,ar= .inl q_33'∧∃(av:GH),GLe G av∧Fr a 19 []∧Mem W av w (ib b1c0 105 (BJ aa ab ac ad ae af ag ah ai aj ak al am an ao ap)::ib b1c1 103 [(.int .i8 aq)]::H)) ?_ ?_
 ·refine Al (AM (λaw a w=>∃ax:Int,ax=aw∧∃(ay:GH),GLe G ay∧Fr a 19 [(0,v0),(1,Fw 70 #[(pb b1c0),(pb b1c1)]),(7,(iv (x0.length:Int))),(8,iv ax)]∧Mem W ay w (ib b1c0 105 (BJ aa ab ac ad ae af ag ah ai aj ak al am an ao ap)::ib b1c1 103 [(.int .i8 aq)]::H)) au ⟨_,Z,_,gr,f.k Z,m⟩ ?_)
  clear au f m
  rintro aw az aA aB a w ⟨ax,rfl,ay,aC,f,m⟩
  refine have h0:=rd1 aC h0;Ae (Ai f Z Z AP λa f=>Aa (Ah ?_))
  rcases Ag aA with⟨aD,aA⟩|⟨aD,aA⟩
  ·refine Am f Z aD (An (Ah (Al (Ae (Ab f Z λa f=>Ac f Z λa f=>AF (Ab f Z λa f=>Ab f Z λa f=>Ab f Z λa f=>Bd aA λaE aF aA=>AX T82 f Z Z Z h0 aF λaG aH a aI aJ f=> ?_))))))
   subst aJ
   refine Aw m Pl3 f Z Z aI λa f=>Bd aA λaK aL aA=>CC f Z Z Z call70 (Wk.E0 m aL) λaM aN aO w aP m aQ a f=> ?_
   obtain⟨rfl,rfl⟩:=aQ
   refine Aa ?_
   rcases Ag aA with⟨aR,aA⟩|⟨aR,aA⟩
   ·refine Am f Z aR (Ae (Ab f Z λa f=>Ac f Z λa f=>Aa (Ar ?_)))
    obtain rfl:=sj aA
    obtain rfl:=aB _ rfl
    obtain rfl:=sj hd
    exact⟨[iv ax],f.g Z,f.d,_,[ib b1c0 105 (BJ aa ab ac ad ae af ag ah ai aj ak al am an ao ap),ib b1c1 103 [(.int .i8 aq)]],(gt aC aP),m,Z,Z⟩
   ·refine Ak f Z aR (An (Aj (Ai f Z Z AB λa f=>Ab f Z λa f=>Aa ?_)))
    obtain rfl:=sj aA
    exact⟨_,Z,_,Z,_,(gt aC aP),f.k Z,m⟩
  ·refine Ak f Z aD (AE Z ?_)
   obtain rfl:=sj aA
   obtain rfl:=aB _ rfl
   exact⟨_,Z,_,aC,f.weak trivial,m⟩
 ·rintro a w ⟨_,rfl,av,aS,f,m⟩
  refine Ae (Ac f Z λa f=>Aa (Ar ?_))
  obtain rfl:=sj hd
  exact⟨[(iv (-1))],f.g Z,f.d,_,[ib b1c0 105 (BJ aa ab ac ad ae af ag ah ai aj ak al am an ao ap),ib b1c1 103 [(.int .i8 aq)]],aS,m,Z,Z⟩
theorem Wk.t1 {v0:Value}{b1c0 b1c1:Nat}{x0:LI}{aa ab ac ad ae af ag ah ai aj ak al am an ao ap:Int}{aq:Int}(m:Mem W G w (ib b1c0 105 (BJ aa ab ac ad ae af ag ah ai aj ak al am an ao ap)::ib b1c1 103 [(.int .i8 aq)]::H))(h0:R1 G v0 x0){y:Bool}(hd:D.t1 x0 aa ab ac ad ae af ag ah ai aj ak al am an ao ap aq=some y):
  Calls prog 47 #[v0,Fw 70 #[(pb b1c0),(pb b1c1)]] w (Res W G H (λ_ Ho v=>Ho=[ib b1c0 105 (BJ aa ab ac ad ae af ag ah ai aj ak al am an ao ap),ib b1c1 103 [(.int .i8 aq)]]∧v=(.bool y))):=by
 refine Au (args:=[v0,Fw 70 #[(pb b1c0),(pb b1c1)]]) (N:=9) [.tmp 4] func47 Z Z (lb Z) Z λa f=> ?_
 unfold D.t1 at hd
 refine Ae (Ac f Z λa f=>AF (Ab f Z λa f=>Ab f Z λa f=>Bd hd λar au hd=>A9 f Z call110 (Wk.E1 m h0 au) λav aw ax w ay m az a f=> ?_))
 obtain⟨rfl,rfl⟩:=az
 refine Ai f Z Z EA λa f=>Ac f Z λa f=>Aa (Ar ?_)
 obtain rfl:=sj hd
 exact⟨[(.bool (decide ((0:Int)≤ar)))],f.g Z,f.d,_,[ib b1c0 105 (BJ aa ab ac ad ae af ag ah ai aj ak al am an ao ap),ib b1c1 103 [(.int .i8 aq)]],ay,m,Z,Z⟩
theorem Wk.x {b3 b4:Nat}{aa:Value}{ab ac ad ae af ag ah ai aj ak al am an ao ap aq:Int}{x1 x2 ar:Int}{au:LI}(hW:DM W)(m:Mem W G w (ib b3 2 [iv ar]::ib b4 67 [aa]::H))(av:RSl (RI .u32) G aa au){y:((List C16))}(hd:D.x ab ac ad ae af ag ah ai aj ak al am an ao ap aq x1 x2 ar au=some y):
  Calls prog 68 #[(.agg (Dr ab ac ad ae af ag ah ai aj ak al am an ao ap aq)),iv x1,(.int .u32 x2),pb b3,pb b4] w (Res W G H (λG' Ho v=>∃r0:Value,∃i0:Itm,Ho=[i0,ib b3 2 [iv ar],ib b4 67 [aa]]∧r0=v∧OwR R16 105 G' i0 r0 y)):=by
 refine Au (args:=[(.agg (Dr ab ac ad ae af ag ah ai aj ak al am an ao ap aq)),iv x1,(.int .u32 x2),pb b3,pb b4]) (N:=39) [.tmp 8] func68 Z Z (lb Z) Z λa f=> ?_
 unfold D.x at hd
 refine Ae (A3 (cs:=(BJ ab ac ad ae af ag ah ai aj ak al am an ao ap aq)) m f Z Z Z λaw w a m f=>Ac f Z λa f=>AF (l_slitR0 (E:=R16) m T106 f Z λax ay w a m az f=>Ac f Z λa f=>Aa (Ah (Ae (Bp (cs:=[(.int .i8 0)]) zeroValue103 m f Z Z λaA w a m f=>Ax 0 0 (ds:=[(.int .i8 1)]) m sizeOf103 f Z Z Z (Af Z AG) Z (lb Z) Z λw m=>Aa (Bd hd λaB aC hd=> ?_))))))
 refine AL (λa w=>∃aD:List C16,aD=aB∧∃(aE:GH) (aF:Value) (aG:Itm),GLe G aE∧Fr a 39 [(9,aF)]∧Mem W aE w (ib b3 2 [iv ar]::ib b4 67 [aa]::aG::H)∧OwR R16 105 aE aG aF aD) ?_ ?_
 ·refine Al (have m:=m.fr 1;have m:=m.fr 2;have m:=m.fr 4;have m:=m.fr 4;AM (λaH a w=>∃aI:List C16,∃aJ:Int,(aI,aJ)=aH∧∃(aK:GH) (aL:Value) (aM:Itm) (aN:Nat),GLe G aK∧Fr a 39 [(1,iv x1),(2,(.int .u32 x2)),(3,pb b3),(4,pb b4),(5,pb aw),(9,aL),(10,pb aN)]∧Mem W aK w (ib b3 2 [iv ar]::ib b4 67 [aa]::ib aw 105 (BJ ab ac ad ae af ag ah ai aj ak al am an ao ap aq)::aM::ib aN 103 [(.int .i8 aJ)]::H)∧OwR R16 105 aK aM aL aI) aC ⟨_,_,Z,_,ay,ax,aA,gr,f.k Z,m,az⟩ ?_)
  clear aC f m
  rintro aH aO aP aQ a w ⟨aI,aJ,rfl,aK,aL,aM,aN,aR,f,m,aS⟩
  refine have av:=rd1 aR av;Ah (Ae (Ao 4 0 m FD f Z Z Z Z λa f=>l_o f (C6 (f.e Z) ⟨_,underlying103⟩ underlying2) λa f=>Ao 0 0 m Pl2 f Z Z Z Z λa f=>Ai f Z Z Fe λa f=>Aa ?_))
  rcases Ag aP with⟨aT,aP⟩|⟨aT,aP⟩
  ·refine Am f Z aT (An (Ah (Al (Ae (Ao 1 0 m Pl67 f Z Z Z Z λa f=>Ab f Z λa f=>Bd aP λaU aV aP=>AX T67 f Z Z Z av aV λaW aX a aY aZ f=> ?_)))))
   subst aZ
   refine Aw m CU f Z Z aY λa f=>Ab f Z λa f=>Ai f Z Z Dx λa f=>Bd aP λa0 a1 aP=>BK f Z call69 (Wk.o hW m a1) λa2 a3 a4 w a5 m a6 a f=>have aS:=OwR.mono trivial a5 aS;Dl f Z Z Z λa f=> ?_
   obtain⟨a7,a8,m,a9⟩:=Ow.stamp (RI.mono _) a6 m
   refine have aS:=OwR.mono trivial a8 aS;have m:=m.fr 4;have m:=m.fr 3;Bd aP λba bb aP=>A9 f Z call47 (Wk.t1 m a9 bb) λbc bd be w bf m bg a f=> ?_
   obtain⟨rfl,rfl⟩:=bg
   refine have aS:=OwR.mono trivial bf aS;l_o f (Bj (f.e Z)) λa f=>Aa ?_
   rcases Ag aP with⟨bh,aP⟩|⟨bh,aP⟩
   ·refine Am f Z bh (Ae (Ay 0 0 (ds:=(BJ ab ac ad ae af ag ah ai aj ak al am an ao ap aq)) m Dy f Z Z Z Z Z λa f=>Bp (cs:=DO) zeroValue105 m f Z Z λbi w a m f=>Ax 0 0 (ds:=(BJ ab ac ad ae af ag ah ai aj ak al am an ao ap aq)) m sizeOf105 f Z Z Z (Af Z (Af Z (Af Z (Af Z (Af Z (Af Z (Af Z (Af Z (Af Z (Af Z (Af Z (Af Z (Af Z (Af Z (Af Z (Af Z AG)))))))))))))))) Z (lb Z) Z λw m=>AF (Ab f Z λa f=>Ao 2 0 m FD f Z Z Z Z λa f=>Bd aP λbj bk aP=>l_boxElem (cs:=([ab,ac,ad,ae,af,ag,ah,ai,aj,ak,al,am,an,ao,ap,aq]:LI)) underlying105 sizeOf103 Z bk f Z Z Z λa f=> ?_)))
    refine Ax 0 (0+Int.toNat x1) (ds:=[(.int .i8 aJ)]) m sizeOf103 f Z Z Z (Af Z AG) Z (boxLe (k:= .i8) (A:=[]) (B:=[]) (cs:=([ab,ac,ad,ae,af,ag,ah,ai,aj,ak,al,am,an,ao,ap,aq]:LI)) bk) (boxUp (k:= .i8) (A:=[]) (B:=[]) (cs:=([ab,ac,ad,ae,af,ag,ah,ai,aj,ak,al,am,an,ao,ap,aq]:LI)) aJ bk) λw m=>Aa (Aj (Ab f Z λa f=>Ay 0 0 (ds:=[(.int .i8 (upd x1 0 aJ ab)),(.int .i8 (upd x1 1 aJ ac)),(.int .i8 (upd x1 2 aJ ad)),(.int .i8 (upd x1 3 aJ ae)),(.int .i8 (upd x1 4 aJ af)),(.int .i8 (upd x1 5 aJ ag)),(.int .i8 (upd x1 6 aJ ah)),(.int .i8 (upd x1 7 aJ ai)),(.int .i8 (upd x1 8 aJ aj)),(.int .i8 (upd x1 9 aJ ak)),(.int .i8 (upd x1 10 aJ al)),(.int .i8 (upd x1 11 aJ am)),(.int .i8 (upd x1 12 aJ an)),(.int .i8 (upd x1 13 aJ ao)),(.int .i8 (upd x1 14 aJ ap)),(.int .i8 (upd x1 15 aJ aq))]) m Dy f Z Z Z Z Z λa f=> ?_))
    refine l_slitR (E:=R16) (y:=(⟨(upd x1 0 aJ ab),(upd x1 1 aJ ac),(upd x1 2 aJ ad),(upd x1 3 aJ ae),(upd x1 4 aJ af),(upd x1 5 aJ ag),(upd x1 6 aJ ah),(upd x1 7 aJ ai),(upd x1 8 aJ aj),(upd x1 9 aJ ak),(upd x1 10 aJ al),(upd x1 11 aJ am),(upd x1 12 aJ an),(upd x1 13 aJ ao),(upd x1 14 aJ ap),(upd x1 15 aJ aq)⟩:C16)) (cs:=[(.int .i8 (upd x1 0 aJ ab)),(.int .i8 (upd x1 1 aJ ac)),(.int .i8 (upd x1 2 aJ ad)),(.int .i8 (upd x1 3 aJ ae)),(.int .i8 (upd x1 4 aJ af)),(.int .i8 (upd x1 5 aJ ag)),(.int .i8 (upd x1 6 aJ ah)),(.int .i8 (upd x1 7 aJ ai)),(.int .i8 (upd x1 8 aJ aj)),(.int .i8 (upd x1 9 aJ ak)),(.int .i8 (upd x1 10 aJ al)),(.int .i8 (upd x1 11 aJ am)),(.int .i8 (upd x1 12 aJ an)),(.int .i8 (upd x1 13 aJ ao)),(.int .i8 (upd x1 14 aJ ap)),(.int .i8 (upd x1 15 aJ aq))]) m T106 f Z Z Z (lb Z) λbl bm w a m bn f=>Bd aP λbo bp aP=>l_appendR (E:=R16) (z:= .agg Gl) 6 0 m aS Z bn Z (by simp) T106 Z (by decide) f Z Z Z bp λbq br w a m bs f=> ?_
    refine Ac f Z λa f=>Aa (Ah (Ae (Ao 3 0 m FD f Z Z Z Z λa f=>Aa (Aj (Bp (cs:=[(.int .i8 0)]) zeroValue103 m f Z Z λbt w a m f=>Ax 0 0 (ds:=[(.int .i8 aJ)]) m sizeOf103 f Z Z Z (Af Z AG) Z (lb Z) Z λw m=>Aa (Aj (Ao 0 0 m FD f Z Z Z Z λa f=>Ai f Z Z AB λa f=>Ax 0 0 (ds:=[(.int .i8 (IntKind.i8.wrap (aJ+1)))]) m sizeOf103 f Z Z Z (Af Z AG) Z (lb Z) Z λw m=>Aa (have m:=m.fr 7;have m:=m.fr 4;have m:=m.fr 7;?_))))))))
    refine have m:Mem W bd w (ib b3 2 [iv ar]::ib b4 67 [aa]::ib aw 105 (BJ ab ac ad ae af ag ah ai aj ak al am an ao ap aq)::bq::ib bt 103 [(.int .i8 (IntKind.i8.wrap (aJ+1)))]::bl::EI bi (upd x1 0 aJ ab) (upd x1 1 aJ ac) (upd x1 2 aJ ad) (upd x1 3 aJ ae) (upd x1 4 aJ af) (upd x1 5 aJ ag) (upd x1 6 aJ ah) (upd x1 7 aJ ai) (upd x1 8 aJ aj) (upd x1 9 aJ ak) (upd x1 10 aJ al) (upd x1 11 aJ am) (upd x1 12 aJ an) (upd x1 13 aJ ao) (upd x1 14 aJ ap) (upd x1 15 aJ aq)::ib aN 103 [(.int .i8 aJ)]::H):=m.fr 7;have m:=m.eraseAt 7;have m:=m.eraseAt 6;have m:=m.eraseAt 5;?_
    obtain rfl:=sj aP
    exact⟨_,Z,_,_,Z,_,br,bq,bt,(gt aR (gt a5 (gt a8 bf))),f.k Z,m,bs⟩
   ·refine Ak f Z bh (An (Ah (Ae (Ao 1 0 m FD f Z Z Z Z λa f=>Aa (Aj (Bp (cs:=[(.int .i8 0)]) zeroValue103 m f Z Z λbu w a m f=>Ax 0 0 (ds:=[(.int .i8 aJ)]) m sizeOf103 f Z Z Z (Af Z AG) Z (lb Z) Z λw m=>Aa (Aj (Ao 0 0 m FD f Z Z Z Z λa f=>Ai f Z Z AB λa f=>Ax 0 0 (ds:=[(.int .i8 (IntKind.i8.wrap (aJ+1)))]) m sizeOf103 f Z Z Z (Af Z AG) Z (lb Z) Z λw m=>Aa (have m:=m.fr 5;have m:=m.fr 2;have m:=m.fr 5;have m:Mem W bd w (ib b3 2 [iv ar]::ib b4 67 [aa]::ib aw 105 (BJ ab ac ad ae af ag ah ai aj ak al am an ao ap aq)::aM::ib bu 103 [(.int .i8 (IntKind.i8.wrap (aJ+1)))]::ib aN 103 [(.int .i8 aJ)]::H):=m.fr 5;have m:=m.eraseAt 5;?_)))))))))
    obtain rfl:=sj aP
    exact⟨_,Z,_,_,Z,_,aL,aM,bu,(gt aR (gt a5 (gt a8 bf))),f.k Z,m,aS⟩
  ·refine Ak f Z aT (AE Z (have m:=m.fr 3;have m:=m.fr 2;have m:=m.fr 2;have m:Mem W aK w (ib b3 2 [iv ar]::ib b4 67 [aa]::aM::ib aw 105 (BJ ab ac ad ae af ag ah ai aj ak al am an ao ap aq)::H):=m.eraseAt 4;have m:=m.eraseAt 3;?_))
   obtain rfl:=sj aP
   obtain rfl:=aQ _ rfl
   exact⟨_,Z,_,aL,aM,aR,f.k Z,m,aS⟩
 ·rintro a w ⟨aD,rfl,aE,aF,aG,bv,f,m,bw⟩
  refine Ae (Ab f Z λa f=>Ac f Z λa f=>Aa (Ar (have m:=m.fr 2;?_)))
  obtain rfl:=sj hd
  exact⟨[aF],f.g Z,f.d,_,[aG,ib b3 2 [iv ar],ib b4 67 [aa]],bv,m,_,_,Z,Z,bw⟩
theorem Wk.d0 {aa ab:Nat}{ac v1:Value}{it1:Itm}{ad:Int}{ae:LI}{x1:Bt}{af ag ah ai aj ak al am an ao ap aq ar au av aw:Int}{x3:Int}(m:Mem W G w (ib aa 2 [iv ad]::ib ab 67 [ac]::it1::H))(ax:RSl (RI .u32) G ac ae)(o1:OwMf BF G it1 v1 x1){y:Bt}(hd:D.d0 ad ae x1 af ag ah ai aj ak al am an ao ap aq ar au av aw x3=some y):
  Calls prog 118 #[(.agg #[Fw 68 #[(pb aa),(pb ab)],Fv 71,Fv 72,Fv 60,Fv 61]),v1,(.agg (Dr af ag ah ai aj ak al am an ao ap aq ar au av aw)),iv x3] w (Res W G H (λG' Ho _=>∃i0:Itm,Ho=[ib aa 2 [iv ad],ib ab 67 [ac],i0]∧OwMf BF G' i0 v1 y)):=by
 refine Au (args:=[(.agg #[Fw 68 #[(pb aa),(pb ab)],Fv 71,Fv 72,Fv 60,Fv 61]),v1,(.agg (Dr af ag ah ai aj ak al am an ao ap aq ar au av aw)),iv x3]) (N:=25) [] func118 Z Z (lb Z) Z λa f=> ?_
 unfold D.d0 at hd
 refine Ae (A3 (cs:=[Fw 68 #[(pb aa),(pb ab)],Fv 71,Fv 72,Fv 60,Fv 61]) m f Z Z Z λay w a m f=>A3 (cs:=(BJ af ag ah ai aj ak al am an ao ap aq ar au av aw)) m f Z Z Z λaz w a m f=>Aa (Ah (Ae (Ab f Z λa f=>Ay 0 0 (ds:=(BJ af ag ah ai aj ak al am an ao ap aq ar au av aw)) m Dy f Z Z Z Z Z λa f=>Gy Mf105 (i:=(⟨af,ag,ah,ai,aj,ak,al,am,an,ao,ap,aq,ar,au,av,aw⟩:C16)) 4 m o1 Z underlying109 zeroValue2 f Z Z Z λa f=>Ab f Z λa f=>l_o f (AD (f.e Z) Z) λa f=>l_o f (AD (f.e Z) Z) λa f=>Ac f Z λa f=>Ac f Z λa f=>AF (Ab f Z λa f=>Aa ?_)))))
 rcases Ag hd with⟨aA,hd⟩|⟨aA,hd⟩
 ·refine Am f Z aA (Aj (AQ underlying113 Z sizeOf94 f Z λa f=>Ao 1 4 m Pl94 f Z Z Z Z λa f=>Ab f Z λa f=>Ab f Z λa f=>Bd hd λaB aC hd=>CC f Z Z Z call61 (Wk.I m aC) λaD aE aF w aG m aH a f=> ?_))
  obtain⟨rfl,rfl⟩:=aH
  refine have o1:=OwMf.mono mfT aG o1;Ac f Z λa f=>Aa (Aj (Ab f Z λa f=>Ay 0 0 (ds:=(BJ af ag ah ai aj ak al am an ao ap aq ar au av aw)) m Dy f Z Z Z Z Z λa f=>Ab f Z λa f=>Fg Mf105 (i:=(⟨af,ag,ah,ai,aj,ak,al,am,an,ao,ap,aq,ar,au,av,aw⟩:C16)) 4 m o1 Z underlying109 f Z Z Z λaI w m aJ=>Aa (have m:=m.fr 4;have m:=m.fr 4;have m:=m.fr 4;have m:Mem W aE w (ib aa 2 [iv ad]::ib ab 67 [ac]::aI::ib az 105 (BJ af ag ah ai aj ak al am an ao ap aq ar au av aw)::H):=m.eraseAt 4;have m:=m.eraseAt 3;?_)))
  obtain rfl:=sj hd
  exact⟨[],trivial,f.d,_,[ib aa 2 [iv ad],ib ab 67 [ac],aI],aG,m,_,Z,aJ⟩
 ·refine Ak f Z aA (An (Aj (Ab f Z λa f=>Ay 0 0 (ds:=(BJ af ag ah ai aj ak al am an ao ap aq ar au av aw)) m Dy f Z Z Z Z Z λa f=>Ab f Z λa f=>Fg Mf105 (i:=(⟨af,ag,ah,ai,aj,ak,al,am,an,ao,ap,aq,ar,au,av,aw⟩:C16)) 4 m o1 Z underlying109 f Z Z Z λaK w m aL=>Aa (have m:=m.fr 4;have m:=m.fr 4;have m:=m.fr 4;have m:Mem W G w (ib aa 2 [iv ad]::ib ab 67 [ac]::aK::ib az 105 (BJ af ag ah ai aj ak al am an ao ap aq ar au av aw)::H):=m.eraseAt 4;have m:=m.eraseAt 3;?_))))
  obtain rfl:=sj hd
  exact⟨[],trivial,f.d,_,[ib aa 2 [iv ad],ib ab 67 [ac],aK],gr,m,_,Z,aL⟩
theorem Wk.O1 {aa ab ac ad v1:Value}{ae af:Nat}{ag:Value}{ah ai:LI}{aj ak:LL}{x1:Bt}{al:Int}{am:LI}(hW:DM W)(m:Mem W G w (ib ae 2 [iv al]::ib af 67 [ag]::H))(an:R1 G aa ah)(ao:R1 G ab ai)(ap:R2 G ac aj)(aq:R2 G ad ak)(h1:RMf BF G v1 x1)(ar:RSl (RI .u32) G ag am){y:Bt}(hd:D.O1 ah ai aj ak x1 al am=some y):
  Calls prog 73 #[(.agg #[aa,ab,ac,ad]),v1,(.agg #[Fw 68 #[(pb ae),(pb af)],Fv 71,Fv 72,Fv 60,Fv 61])] w (Res W G H (λG' Ho v=>∃r0:Value,Ho=[ib ae 2 [iv al],ib af 67 [ag]]∧r0=v∧RMf BF G' r0 y)):=by
 refine Au (args:=[(.agg #[aa,ab,ac,ad]),v1,(.agg #[Fw 68 #[(pb ae),(pb af)],Fv 71,Fv 72,Fv 60,Fv 61])]) (N:=181) [.tmp 6] func73 Z Z (lb Z) Z λa f=> ?_
 unfold D.O1 at hd
 refine Ae (A3 (cs:=[aa,ab,ac,ad]) m f Z Z Z λau w a m f=>A3 (cs:=[Fw 68 #[(pb ae),(pb af)],Fv 71,Fv 72,Fv 60,Fv 61]) m f Z Z Z λav w a m f=>Ac f Z λa f=>AF (AO (R:=(RMf BF)) (xs:=([]:List Bt)) (RMf.one _) m Eb f Z Z Z (by decide) (All2.nil _) λaw ax w a m ay f=>Ac f Z λa f=>Aa (Ah (Ae (AQ underlying38 Z sizeOf35 f Z λa f=>Ao 2 0 m AY f Z Z Z Z λa f=>AN underlying35 f Z Z an λa f=>Ab f Z λa f=>Aa (Bd hd λaz aA hd=> ?_))))))
 refine AL (λa w=>∃aB:List Bt,aB=az∧∃(aC:GH) (aD:Value) (aE:Itm),GLe G aC∧Fr a 181 [(7,aD)]∧Mem W aC w (ib ae 2 [iv al]::ib af 67 [ag]::aE::H)∧Ow (RMf BF) 109 aC aE aD aB) ?_ ?_
 ·refine Al (have m:=m.fr 4;have m:=m.fr 4;have m:=m.fr 3;have m:=m.fr 4;AM (λaF a w=>∃aG:List Bt,∃aH:Int,(aG,aH)=aF∧∃(aI:GH) (aJ:Value) (aK:Itm),GLe G aI∧Fr a 181 [(1,v1),(3,pb au),(5,pb av),(7,aJ),(29,aa),(30,(iv (ah.length:Int))),(31,iv aH)]∧Mem W aI w (ib au 38 [aa,ab,ac,ad]::BM av ae af::ib ae 2 [iv al]::ib af 67 [ag]::aK::H)∧Ow (RMf BF) 109 aI aK aJ aG) aA ⟨_,_,Z,_,ax,aw,gr,f.k Z,m,ay⟩ ?_)
  clear aA f m
  rintro aF aL aM aN a w ⟨aG,aH,rfl,aI,aJ,aK,aO,f,m,aP⟩
  refine have h1:=RMf.mono mfT _ _ _ _ aO h1;have an:=rd1 aO an;have ao:=rd1 aO ao;have ap:=rd2 aO ap;have aq:=rd2 aO aq;have ar:=rd1 aO ar;Ae (Ai f Z Z AP λa f=>Aa (Ah ?_))
  rcases Ag aM with⟨aQ,aM⟩|⟨aQ,aM⟩
  ·refine Am f Z aQ (An (Ah (Al (Ae (Ab f Z λa f=>Bd aM λaR aS aM=>AX T35 f Z Z Z an aS λaT aU a aV aW f=> ?_)))))
   subst aW
   refine Aw m Pl2 f Z Z aV λa f=>Ac f Z λa f=>Ac f Z λa f=>Aa (Ah (Bg 14 AV (by kernel_rfl) m (Br 1 14 underlying38 Z sizeOf35 Z f Z λa f=>Bo 2 14 0 AY Z Z Z f Z λa f=>As 3 14 Z f Z λa f=>Bd aM λaX aY aM=>Bb 4 14 T35 ao aY Z f Z Z λaZ a0 a a1 a2 f=> ?_)))
   subst a2
   refine Ba 5 14 Pl2 a1 Z f Z λa f=>Br 6 14 underlying38 Z sizeOf27 Z f Z λa f=>Bo 7 14 0 AW Z Z Z f Z λa f=>As 8 14 Z f Z λa f=>Bd aM λa3 a4 aM=>Bb 9 14 T27 aq a4 Z f Z Z λa5 a6 a a7 a8 f=>Ba 10 14 AY a7 Z f Z λa f=>Bw 0 Z λa9 w ba m bb bb=>have h1:=RMf.mono mfT _ _ _ _ ba h1;have a8:=rd1 ba a8;have ap:=rd2 ba ap;have ar:=rd1 ba ar;have aP:=Ow.mono (RMf.mono mfT) ba aP;Ds BF m f Z λbc bd w a m be f=>Aa (bb a9 [bc] _ _ gr m (q_p 11 14 Z f (λ_=>Bq (f.e Z)) λa f=>q_p 12 14 Z f (λ_=>Bq (f.e Z)) λa f=>q_p 13 14 Z f (λ_=>Bq (f.e Z)) λa f=>A4 λbf w bg m=>have h1:=RMf.mono mfT _ _ _ _ bg h1;have a8:=rd1 bg a8;have be:=OwMf.mono mfT bg be;have ap:=rd2 bg ap;have ar:=rd1 bg ar;have aP:=Ow.mono (RMf.mono mfT) bg aP;Aa (Ah (Ae (Ab f Z λa f=>Aa (Al (Ae (Ai f Z Z Bf λa f=>Ac f Z λa f=>Aa ?_))))))))
   rcases Ag aM with⟨bh,aM⟩|⟨bh,aM⟩
   ·refine Am f Z bh (Aj (Ab f Z λa f=>Ac f Z λa f=>Aa (Aj (Ab f Z λa f=>Ab f Z λa f=>AO (R:=(RMf BF)) (xs:=([x1]:List Bt)) (RMf.one _) m Eb f Z Z Z (by decide) (All2.cons h1 (All2.nil _)) λbi bj w a m bk f=>Bd aM λbl bm aM=>A6 (RMf.one _) 6 m aP Z Eb Z (by decide) f Z Z Z (Ow.src (j:=0) bk m Z) bm λbn bo w a m bp f=>Ac f Z λa f=>Aa (Aj (Ai f Z Z AB λa f=>Ab f Z λa f=>Aa (have m:=m.fr 6;have m:=m.fr 6;have m:=m.fr 6;have m:Mem W bf w (BM av ae af::ib ae 2 [iv al]::ib af 67 [ag]::bn::bi::bc::ib au 38 [aa,ab,ac,ad]::H):=m.fr 6;have m:=m.fr 6;have m:=m.eraseAt 6;have m:=m.eraseAt 5;?_)))))))
    obtain rfl:=sj aM
    exact⟨_,Z,_,_,Z,_,bo,bn,(gt aO (gt ba bg)),f.k Z,m,bp⟩
   ·refine Ak f Z bh (Ae (Ai f Z Z Bf λa f=>Ac f Z λa f=>Aa ?_))
    rcases Ag aM with⟨bq,aM⟩|⟨bq,aM⟩
    ·refine Am f Z bq (Ae (Ab f Z λa f=>Ab f Z λa f=>Bd aM λbr bs aM=>AX T35 f Z Z Z a8 bs λbt bu a bv bw f=> ?_))
     subst bw
     refine Aw m Pl2 f Z Z bv λa f=>Bd aM λbx bz aM=>Bm 5 m aP Z Eb f Z Z Z bz λbA a bB f=>Bl 5 m aP Z Pl109 f Z Z bB bz λbC a bD f=>CE m bD underlying109 f Z Z λbE bF bG w a m bH bI f=>Aa (Bd aM λbJ bK aM=> ?_)
     refine AL (λa w=>∃bL:Bt,bL=bJ∧∃(bM:GH) (bN:Itm),GLe bf bM∧Fr a 181 [(1,v1),(3,pb au),(5,pb av),(7,aJ),(10,bd),(11,iv aX),(12,a6),(29,aa),(30,(iv (ah.length:Int))),(31,iv aH)]∧Mem W bM w (ib au 38 [aa,ab,ac,ad]::BM av ae af::ib ae 2 [iv al]::ib af 67 [ag]::aK::bN::H)∧OwMf BF bM bN bd bL) ?_ ?_
     ·refine Al (have m:=m.fr 6;have m:=m.fr 6;have m:=m.fr 6;have m:Mem W bf w (BM av ae af::ib ae 2 [iv al]::ib af 67 [ag]::aK::bE::bc::ib au 38 [aa,ab,ac,ad]::H):=m.fr 6;have m:=m.fr 6;have m:=m.fr 5;C9 (λbO bP a w=>∃bQ:Bt,bQ=bO∧∃(bR:GH) (bS:Itm) (bT:Itm),GLe bf bR∧Fr a 181 [(1,v1),(3,pb au),(5,pb av),(7,aJ),(10,bd),(11,iv aX),(12,a6),(29,aa),(30,(iv (ah.length:Int))),(31,iv aH),(59,bF)]∧Mem W bR w (bS::ib au 38 [aa,ab,ac,ad]::BM av ae af::ib ae 2 [iv al]::ib af 67 [ag]::aK::bT::H)∧RgA BF bR bS bF bP∧OwMf BF bR bT bd bQ) bK bI ⟨_,Z,_,bE,bc,gr,f.k Z,m,bH,be⟩ ?_)
      clear bK f m
      rintro bO bP bU a w ⟨bQ,rfl,bR,bS,bT,bV,f,m,bW,bX⟩
      refine have h1:=RMf.mono mfT _ _ _ _ bV h1;have a8:=rd1 bV a8;have ap:=rd2 bV ap;have ar:=rd1 bV ar;Ae (CP (enc:=BF) Mf105.inj 0 m bW Z f Z Z (λbY a f=> ?_) λbZ b0 b1 w a b2 m b3 f=> ?_)
      ·have b4:=CF bU bY
       subst b4
       exact have m:=m.eraseAt 0;l_o f (AD (f.e Z) Z) λa f=>Aa (Ah (Ak f Z Z (AE Z ⟨_,Z,_,bT,bV,f.k Z,m,bX⟩)))
      ·obtain⟨b5,b6,b7⟩:=Ck bU b2
       refine have b8:=CO b2;l_o f (AD (f.e Z) Z) λa f=>Aa (Ah (Am f Z Z (An (Al (Ae (CD 0 m b3 Z f Z Z λa f=>l_o f (AD (f.e Z) Z) λa f=>l_o f (AD (f.e Z) Z) λa f=>Bp (cs:=DO) zeroValue105 m f Z Z λb9 w a m f=>Ax 0 0 (ds:=(BL bZ.1)) m sizeOf105 f Z Z Z (Af Z (Af Z (Af Z (Af Z (Af Z (Af Z (Af Z (Af Z (Af Z (Af Z (Af Z (Af Z (Af Z (Af Z (Af Z (Af Z AG)))))))))))))))) Z (lb Z) Z λw m=>Ac f Z λa f=>Aa (Ah (Bg 15 AV (by kernel_rfl) m (Br 0 15 underlying113 Z sizeOf108 Z f Z λa f=>Bo 1 15 3 Pl108 Z Z Z f Z λa f=>Bc (i:=2) (ds:=(BL bZ.1)) 15 0 Dy Z Z Z Z (by kernel_rfl) Z f Z Z Z λa f=>As 3 15 Z f Z λa f=>Br 4 15 underlying38 Z sizeOf27 Z f Z λa f=>Bo 5 15 2 AW Z Z Z f Z λa f=> ?_)))))))))
       refine As 6 15 Z f Z λa f=>Bd b6 λca cb b6=>Bb 7 15 T35 a8 cb Z f Z Z λcc cd a ce cf f=> ?_
       subst cf
       refine Ba 8 15 Pl2 ce Z f Z λa f=>Bd b6 λcg ch b6=>Bb 9 15 T27 ap ch Z f Z Z λci cj a ck cl f=>Ba 10 15 AY ck Z f Z λa f=>Bd b6 λcm cn b6=>B4 (i:=11) 15 Z (by kernel_rfl) Z f Z Z Z call93 (λ_ _ w co m=>Wk.h m (rd1 co cl) cn) λa f=>As 14 15 Z f Z λa f=>Bw 12 Z λcp w cq m cr cr=>have h1:=RMf.mono mfT _ _ _ _ cq h1;have b3:=RgF.mono cq b3;have ar:=rd1 cq ar;have bX:=OwMf.mono mfT cq bX;have m:=m.fr 5;have m:=m.fr 5;Bd b6 λct cu b6=>CC f Z Z Z call68 (Wk.x hW m ar cu) λcv cw cx w cy m cz a f=> ?_
       obtain⟨cA,cB,rfl,rfl,cC⟩:=cz
       refine have h1:=RMf.mono mfT _ _ _ _ cy h1;have ar:=rd1 cy ar;have b3:=RgF.mono cy b3;have bX:=OwMf.mono mfT cy bX;Aa (have m:=m.fr 6;have m:=m.fr 6;have m:=m.fr 6;have m:Mem W cw w (ib b9 105 (BL bZ.1)::b1::ib au 38 [aa,ab,ac,ad]::BM av ae af::cB::ib ae 2 [iv al]::ib af 67 [ag]::aK::bT::H):=m.fr 6;have m:=m.fr 4;cr cw [cB] _ _ cy m (q_ownR_len (i:=13) (listed':= #[true,true,true,true,true,true,true,true,true,true,true,true,true,true,true]) 15 0 m cC Z underlying106 Z (by kernel_rfl) Z f Z Z Z λa f=>A4 λcD w cE m=>have h1:=RMf.mono mfT _ _ _ _ cE h1;have cC:=OwR.mono trivial cE cC;have b3:=RgF.mono cE b3;have ar:=rd1 cE ar;have bX:=OwMf.mono mfT cE bX;Aa ?_))
       obtain⟨cF,cG,m,cH⟩:=OwR.stamp trivial cC m
       refine have h1:=RMf.mono mfT _ _ _ _ cG h1;have b3:=RgF.mono cG b3;have ar:=rd1 cG ar;have bX:=OwMf.mono mfT cG bX;Bd b6 λcI cJ b6=> ?_
       refine AL (λa w=>∃cK:Bt,cK=cI∧∃(cL:GH) (cM:Itm),GLe cF cL∧Fr a 181 [(1,v1),(3,pb au),(5,pb av),(7,aJ),(10,bd),(11,iv aX),(12,a6),(29,aa),(30,(iv (ah.length:Int))),(31,iv aH),(59,bF)]∧Mem W cL w (b1::ib au 38 [aa,ab,ac,ad]::BM av ae af::ib ae 2 [iv al]::ib af 67 [ag]::aK::cM::H)∧OwMf BF cL cM bd cK) ?_ ?_
       ·refine Al (have m:=m.fr 7;have m:=m.fr 7;have m:=m.fr 7;have m:Mem W cF w (ib ae 2 [iv al]::ib af 67 [ag]::aK::bT::ib b9 105 (BL bZ.1)::b1::ib au 38 [aa,ab,ac,ad]::BM av ae af::H):=m.fr 7;have m:=m.fr 7;have m:=m.fr 7;have m:=m.fr 7;have m:=m.eraseAt 7;AM (λcN a w=>∃cO:Bt,∃cP:List C16,∃cQ:Int,(cO,cP,cQ)=cN∧∃(cR:GH) (cS:Itm) (cT:Value),GLe cF cR∧Fr a 181 [(1,v1),(3,pb au),(5,pb av),(7,aJ),(10,bd),(11,iv aX),(12,a6),(14,iv bZ.2),(29,aa),(30,(iv (ah.length:Int))),(31,iv aH),(59,bF),(77,cT),(78,(iv (ct.length:Int))),(79,iv cQ)]∧Mem W cR w (b1::ib au 38 [aa,ab,ac,ad]::BM av ae af::ib ae 2 [iv al]::ib af 67 [ag]::aK::cS::H)∧OwMf BF cR cS bd cO∧RSr R16 cR cT cP) cJ ⟨_,_,_,Z,_,bT,cA,gr,f.k Z,m,bX,cH⟩ ?_)
        clear cJ f m
        rintro cN cU cV cW a w ⟨cO,cP,cQ,rfl,cR,cS,cT,cX,f,m,cY,cZ⟩
        refine have h1:=RMf.mono mfT _ _ _ _ cX h1;have b3:=RgF.mono cX b3;have ar:=rd1 cX ar;Ae (Ai f Z Z AP λa f=>Aa (Ah ?_))
        rcases Ag cV with⟨da,cV⟩|⟨da,cV⟩
        ·refine Am f Z da (An (Ah (Al (Ae (Bd cV λdb dc cV=>l_atR (E:=R16) T106 f Z Z Z cZ dc λdd a de f=>l_loadR (E:=R16) (BL db) m Dy f Z Z de Z λa f=>Bp (cs:=DO) zeroValue105 m f Z Z λdf w a m f=>Ax 0 0 (ds:=(BL db)) m sizeOf105 f Z Z Z (Af Z (Af Z (Af Z (Af Z (Af Z (Af Z (Af Z (Af Z (Af Z (Af Z (Af Z (Af Z (Af Z (Af Z (Af Z (Af Z AG)))))))))))))))) Z (lb Z) Z λw m=>Aa (Aj (Ay 3 0 (ds:=[Fw 68 #[(pb ae),(pb af)],Fv 71,Fv 72,Fv 60,Fv 61]) m Ag113 f Z Z Z Z Z λa f=>Ab f Z λa f=>Ay 0 0 (ds:=(BL db)) m Dy f Z Z Z Z Z λa f=>Ab f Z λa f=>have m:=m.fr 7;have m:=m.fr 6;have m:=m.fr 6;Bd cV λdg dh cV=> ?_)))))))
         refine A9 f Z call118 (Wk.d0 m ar cY dh) λdi dj dk w dl m dm a f=> ?_
         obtain⟨dn,rfl,dp⟩:=dm
         refine have h1:=RMf.mono mfT _ _ _ _ dl h1;have cZ:=RSr.mono trivial _ _ _ _ dl cZ;have b3:=RgF.mono dl b3;Aa (Aj (Ai f Z Z AB λa f=>Ab f Z λa f=>Aa (have m:=m.fr 7;have m:=m.fr 2;have m:=m.fr 2;have m:Mem W dj w (BM av ae af::ib ae 2 [iv al]::ib af 67 [ag]::aK::dn::ib df 105 (BL db)::b1::ib au 38 [aa,ab,ac,ad]::H):=m.fr 7;have m:=m.fr 7;have m:=m.fr 7;have m:=m.eraseAt 7;?_)))
         obtain rfl:=sj cV
         exact⟨_,Z,_,_,_,Z,_,dn,cT,(gt cX dl),f.k Z,m,dp,cZ⟩
        ·refine Ak f Z da (AE Z ?_)
         obtain rfl:=sj cV
         obtain rfl:=cW _ rfl
         exact⟨_,Z,_,cS,cX,f.k Z,m,cY⟩
       ·rintro a w ⟨cK,rfl,cL,cM,dq,f,m,dr⟩
        refine have h1:=RMf.mono mfT _ _ _ _ dq h1;have b3:=RgF.mono dq b3;?_
        obtain rfl:=sj b6
        exact⟨_,_,b8,b7,_,Z,_,b1,cM,(gt bV (gt cq (gt cy (gt cE (gt cG dq))))),f.k Z,m,b3.any,dr⟩
     ·rintro a w ⟨bL,rfl,bM,bN,dt,f,m,du⟩
      refine have h1:=RMf.mono mfT _ _ _ _ dt h1;have aP:=Ow.mono (RMf.mono mfT) dt aP;Aj (Ab f Z λa f=>Ab f Z λa f=>have m:=m.fr 5;?_)
      obtain⟨dv,dw,m,dx⟩:=OwMf.stamp mfT du m
      refine have h1:=RMf.mono mfT _ _ _ _ dw h1;have aP:=Ow.mono (RMf.mono mfT) dw aP;AO (R:=(RMf BF)) (xs:=([bL]:List Bt)) (RMf.one _) m Eb f Z Z Z (by decide) (All2.cons dx (All2.nil _)) λdy dz w a m dA f=>Bd aM λdB dC aM=>A6 (RMf.one _) 5 m aP Z Eb Z (by decide) f Z Z Z (Ow.src (j:=0) dA m Z) dC λdD dE w a m dF f=>Ac f Z λa f=>Aa (Aj (Ai f Z Z AB λa f=>Ab f Z λa f=>Aa (have m:=m.fr 5;have m:=m.fr 5;have m:=m.fr 5;have m:Mem W dv w (BM av ae af::ib ae 2 [iv al]::ib af 67 [ag]::dD::dy::ib au 38 [aa,ab,ac,ad]::H):=m.fr 5;have m:=m.fr 5;have m:=m.eraseAt 5;?_)))
      obtain rfl:=sj aM
      exact⟨_,Z,_,_,Z,_,dE,dD,(gt aO (gt ba (gt bg (gt dt dw)))),f.k Z,m,dF⟩
    ·refine Ak f Z bq (Ae (Ai f Z Z Bf λa f=>Ac f Z λa f=>Aa ?_))
     rcases Ag aM with⟨dG,aM⟩|⟨dG,aM⟩
     ·refine Am f Z dG (Ae (Ab f Z λa f=>Ab f Z λa f=>Bd aM λdH dI aM=>AX T35 f Z Z Z a8 dI λdJ dK a dL dM f=> ?_))
      subst dM
      refine Aw m Pl2 f Z Z dL λa f=>Bd aM λdN dO aM=>Bm 5 m aP Z Eb f Z Z Z dO λdP a dQ f=>Bl 5 m aP Z Pl109 f Z Z dQ dO λdR a dS f=>CE m dS underlying109 f Z Z λdT dU dV w a m dW dX f=>Aa (Bd aM λdY dZ aM=> ?_)
      refine AL (λa w=>∃d0:Bt,d0=dY∧∃(d1:GH) (d2:Itm),GLe bf d1∧Fr a 181 [(1,v1),(3,pb au),(5,pb av),(7,aJ),(8,iv aH),(10,bd),(11,iv aX),(29,aa),(30,(iv (ah.length:Int))),(31,iv aH)]∧Mem W d1 w (ib au 38 [aa,ab,ac,ad]::BM av ae af::ib ae 2 [iv al]::ib af 67 [ag]::aK::d2::H)∧OwMf BF d1 d2 bd d0) ?_ ?_
      ·refine Al (have m:=m.fr 6;have m:=m.fr 6;have m:=m.fr 6;have m:Mem W bf w (BM av ae af::ib ae 2 [iv al]::ib af 67 [ag]::aK::dT::bc::ib au 38 [aa,ab,ac,ad]::H):=m.fr 6;have m:=m.fr 6;have m:=m.fr 5;C9 (λd3 d4 a w=>∃d5:Bt,d5=d3∧∃(d6:GH) (d7:Itm) (d8:Itm),GLe bf d6∧Fr a 181 [(1,v1),(3,pb au),(5,pb av),(7,aJ),(8,iv aH),(10,bd),(11,iv aX),(29,aa),(30,(iv (ah.length:Int))),(31,iv aH),(97,dU)]∧Mem W d6 w (d7::ib au 38 [aa,ab,ac,ad]::BM av ae af::ib ae 2 [iv al]::ib af 67 [ag]::aK::d8::H)∧RgA BF d6 d7 dU d4∧OwMf BF d6 d8 bd d5) dZ dX ⟨_,Z,_,dT,bc,gr,f.k Z,m,dW,be⟩ ?_)
       clear dZ f m
       rintro d3 d4 d9 a w ⟨d5,rfl,d6,d7,d8,ea,f,m,eb,ec⟩
       refine have h1:=RMf.mono mfT _ _ _ _ ea h1;have ap:=rd2 ea ap;have ar:=rd1 ea ar;Ae (CP (enc:=BF) Mf105.inj 0 m eb Z f Z Z (λed a f=> ?_) λee ef eg w a eh m ei f=> ?_)
       ·have ej:=CF d9 ed
        subst ej
        exact have m:=m.eraseAt 0;l_o f (AD (f.e Z) Z) λa f=>Aa (Ah (Ak f Z Z (AE Z ⟨_,Z,_,d8,ea,f.k Z,m,ec⟩)))
       ·obtain⟨ek,el,em⟩:=Ck d9 eh
        refine have en:=CO eh;l_o f (AD (f.e Z) Z) λa f=>Aa (Ah (Am f Z Z (An (Al (Ae (CD 0 m ei Z f Z Z λa f=>l_o f (AD (f.e Z) Z) λa f=>l_o f (AD (f.e Z) Z) λa f=>Bp (cs:=DO) zeroValue105 m f Z Z λeo w a m f=>Ax 0 0 (ds:=(BL ee.1)) m sizeOf105 f Z Z Z (Af Z (Af Z (Af Z (Af Z (Af Z (Af Z (Af Z (Af Z (Af Z (Af Z (Af Z (Af Z (Af Z (Af Z (Af Z (Af Z AG)))))))))))))))) Z (lb Z) Z λw m=>Ac f Z λa f=>Aa (Ah (Bg 12 AV (by kernel_rfl) m (Br 0 12 underlying113 Z sizeOf110 Z f Z λa f=>Bo 1 12 3 Pl110 Z Z Z f Z λa f=>Bc (i:=2) (ds:=(BL ee.1)) 12 0 Dy Z Z Z Z (by kernel_rfl) Z f Z Z Z λa f=>As 3 12 Z f Z λa f=>Br 4 12 underlying38 Z sizeOf27 Z f Z λa f=>Bo 5 12 2 AW Z Z Z f Z λa f=> ?_)))))))))
        refine As 6 12 Z f Z λa f=>Bd el λep eq el=>Bb 7 12 T27 ap eq Z f Z Z λer es a et eu f=>Ba 8 12 AY et Z f Z λa f=>Bd el λev ew el=>B4 (i:=9) 12 Z (by kernel_rfl) Z f Z Z Z call93 (λ_ _ w ex m=>Wk.h m (rd1 ex eu) ew) λa f=>As 10 12 Z f Z λa f=>Bw 11 Z λey w ez m eA eA=>have h1:=RMf.mono mfT _ _ _ _ ez h1;have ei:=RgF.mono ez ei;have ar:=rd1 ez ar;have ec:=OwMf.mono mfT ez ec;Bd el λeB eC el=>CC f Z Z Z call71 (Wk.N0 m eC) λeD eE eF w eG m eH a f=> ?_
        obtain⟨eI,eJ,rfl,rfl,eK⟩:=eH
        refine have h1:=RMf.mono mfT _ _ _ _ eG h1;have ei:=RgF.mono eG ei;have ar:=rd1 eG ar;have ec:=OwMf.mono mfT eG ec;Aa (eA eE [eJ] _ _ eG m (A4 λeL w eM m=>have h1:=RMf.mono mfT _ _ _ _ eM h1;have eK:=OwMf.mono mfT eM eK;have ei:=RgF.mono eM ei;have ar:=rd1 eM ar;have ec:=OwMf.mono mfT eM ec;?_))
        obtain⟨eN,eO,m,eP⟩:=OwMf.stamp mfT eK m
        refine have h1:=RMf.mono mfT _ _ _ _ eO h1;have ei:=RgF.mono eO ei;have ar:=rd1 eO ar;have ec:=OwMf.mono mfT eO ec;CE m eP underlying109 f Z Z λeQ eR eS w a m eT eU f=>Aa (Bd el λeV eW el=> ?_)
        refine AL (λa w=>∃eX:Bt,eX=eV∧∃(eY:GH) (eZ:Itm),GLe eN eY∧Fr a 181 [(1,v1),(3,pb au),(5,pb av),(7,aJ),(8,iv aH),(10,bd),(11,iv aX),(29,aa),(30,(iv (ah.length:Int))),(31,iv aH),(97,dU)]∧Mem W eY w (eg::ib au 38 [aa,ab,ac,ad]::BM av ae af::ib ae 2 [iv al]::ib af 67 [ag]::aK::eZ::H)∧OwMf BF eY eZ bd eX) ?_ ?_
        ·refine Al (have m:=m.fr 8;have m:=m.fr 8;have m:=m.fr 8;have m:Mem W eN w (ib ae 2 [iv al]::ib af 67 [ag]::aK::d8::eQ::ib eo 105 (BL ee.1)::eg::ib au 38 [aa,ab,ac,ad]::BM av ae af::H):=m.fr 8;have m:=m.fr 8;have m:=m.fr 8;have m:=m.fr 8;have m:Mem W eN w (eQ::eg::ib au 38 [aa,ab,ac,ad]::BM av ae af::ib ae 2 [iv al]::ib af 67 [ag]::aK::d8::ib eo 105 (BL ee.1)::H):=m.fr 7;have m:=m.eraseAt 8;C9 (λe0 e1 a w=>∃e2:Bt,e2=e0∧∃(e3:GH) (e4:Itm) (e5:Itm),GLe eN e3∧Fr a 181 [(1,v1),(3,pb au),(5,pb av),(7,aJ),(8,iv aH),(10,bd),(11,iv aX),(29,aa),(30,(iv (ah.length:Int))),(31,iv aH),(97,dU),(115,eR)]∧Mem W e3 w (e4::eg::ib au 38 [aa,ab,ac,ad]::BM av ae af::ib ae 2 [iv al]::ib af 67 [ag]::aK::e5::H)∧RgA BF e3 e4 eR e1∧OwMf BF e3 e5 bd e2) eW eU ⟨_,Z,_,eQ,d8,gr,f.k Z,m,eT,ec⟩ ?_)
         clear eW f m
         rintro e0 e1 e6 a w ⟨e2,rfl,e3,e4,e5,e7,f,m,e8,e9⟩
         refine have h1:=RMf.mono mfT _ _ _ _ e7 h1;have ei:=RgF.mono e7 ei;have ar:=rd1 e7 ar;Ae (CP (enc:=BF) Mf105.inj 0 m e8 Z f Z Z (λfa a f=> ?_) λfb fc fd w a fe m ff f=> ?_)
         ·have fg:=CF e6 fa
          subst fg
          exact have m:=m.eraseAt 0;l_o f (AD (f.e Z) Z) λa f=>Aa (Ah (Ak f Z Z (AE Z ⟨_,Z,_,e5,e7,f.k Z,m,e9⟩)))
         ·obtain⟨fh,fi,fj⟩:=Ck e6 fe
          refine have fk:=CO fe;l_o f (AD (f.e Z) Z) λa f=>Aa (Ah (Am f Z Z (An (Al (Ae (CD 0 m ff Z f Z Z λa f=>l_o f (AD (f.e Z) Z) λa f=>l_o f (AD (f.e Z) Z) λa f=>Bp (cs:=DO) zeroValue105 m f Z Z λfl w a m f=>Ax 0 0 (ds:=(BL fb.1)) m sizeOf105 f Z Z Z (Af Z (Af Z (Af Z (Af Z (Af Z (Af Z (Af Z (Af Z (Af Z (Af Z (Af Z (Af Z (Af Z (Af Z (Af Z (Af Z AG)))))))))))))))) Z (lb Z) Z λw m=>Ac f Z λa f=>Aa (Aj (Ay 4 0 (ds:=[Fw 68 #[(pb ae),(pb af)],Fv 71,Fv 72,Fv 60,Fv 61]) m Ag113 f Z Z Z Z Z λa f=>Ab f Z λa f=>Ay 0 0 (ds:=(BL fb.1)) m Dy f Z Z Z Z Z λa f=>Ab f Z λa f=>have m:=m.fr 8;have m:=m.fr 7;have m:=m.fr 7;Bd fi λfm fo fi=> ?_))))))))
          refine A9 f Z call118 (Wk.d0 m ar e9 fo) λfp fq fs w ft m fu a f=> ?_
          obtain⟨fv,rfl,fw⟩:=fu
          refine have h1:=RMf.mono mfT _ _ _ _ ft h1;have ff:=RgF.mono ft ff;have ei:=RgF.mono ft ei;Aa (have m:=m.fr 8;have m:=m.fr 2;have m:=m.fr 2;have m:Mem W fq w (BM av ae af::ib ae 2 [iv al]::ib af 67 [ag]::aK::fv::ib fl 105 (BL fb.1)::fd::eg::ib au 38 [aa,ab,ac,ad]::H):=m.fr 8;have m:=m.fr 8;have m:=m.fr 8;have m:=m.fr 8;have m:=m.eraseAt 8;?_)
          obtain rfl:=sj fi
          exact⟨_,_,fk,fj,_,Z,_,fd,fv,(gt e7 ft),f.k Z,m,ff.any,fw⟩
        ·rintro a w ⟨eX,rfl,eY,eZ,fx,f,m,fy⟩
         refine have h1:=RMf.mono mfT _ _ _ _ fx h1;have ei:=RgF.mono fx ei;?_
         obtain rfl:=sj el
         exact⟨_,_,en,em,_,Z,_,eg,eZ,(gt ea (gt ez (gt eG (gt eM (gt eO fx))))),f.k Z,m,ei.any,fy⟩
      ·rintro a w ⟨d0,rfl,d1,d2,fz,f,m,fA⟩
       refine have h1:=RMf.mono mfT _ _ _ _ fz h1;have aP:=Ow.mono (RMf.mono mfT) fz aP;Aj (Ab f Z λa f=>Ab f Z λa f=>have m:=m.fr 5;?_)
       obtain⟨fB,fC,m,fD⟩:=OwMf.stamp mfT fA m
       refine have h1:=RMf.mono mfT _ _ _ _ fC h1;have aP:=Ow.mono (RMf.mono mfT) fC aP;AO (R:=(RMf BF)) (xs:=([d0]:List Bt)) (RMf.one _) m Eb f Z Z Z (by decide) (All2.cons fD (All2.nil _)) λfE fF w a m fG f=>Bd aM λfH fI aM=>A6 (RMf.one _) 5 m aP Z Eb Z (by decide) f Z Z Z (Ow.src (j:=0) fG m Z) fI λfJ fK w a m fL f=>Ac f Z λa f=>Aa (Aj (Ai f Z Z AB λa f=>Ab f Z λa f=>Aa (have m:=m.fr 5;have m:=m.fr 5;have m:=m.fr 5;have m:Mem W fB w (BM av ae af::ib ae 2 [iv al]::ib af 67 [ag]::fJ::fE::ib au 38 [aa,ab,ac,ad]::H):=m.fr 5;have m:=m.fr 5;have m:=m.eraseAt 5;?_)))
       obtain rfl:=sj aM
       exact⟨_,Z,_,_,Z,_,fK,fJ,(gt aO (gt ba (gt bg (gt fz fC)))),f.k Z,m,fL⟩
     ·refine Ak f Z dG (Ae (Ai f Z Z Bf λa f=>Ac f Z λa f=>Aa ?_))
      rcases Ag aM with⟨fM,aM⟩|⟨fM,aM⟩
      ·refine Am f Z fM (Ae (Ab f Z λa f=>Ab f Z λa f=>Bd aM λfN fO aM=>AX T35 f Z Z Z a8 fO λfP fQ a fR fS f=> ?_))
       subst fS
       refine Aw m Pl2 f Z Z fR λa f=>Bd aM λfT fU aM=>Bm 5 m aP Z Eb f Z Z Z fU λfV a fW f=>Bl 5 m aP Z Pl109 f Z Z fW fU λfX a fY f=>CE m fY underlying109 f Z Z λfZ f0 f1 w a m f2 f3 f=>Aa (Bd aM λf4 f5 aM=> ?_)
       refine AL (λa w=>∃f6:Bt,f6=f4∧∃(f7:GH) (f8:Itm),GLe bf f7∧Fr a 181 [(1,v1),(3,pb au),(5,pb av),(7,aJ),(10,bd),(12,a6),(29,aa),(30,(iv (ah.length:Int))),(31,iv aH)]∧Mem W f7 w (ib au 38 [aa,ab,ac,ad]::BM av ae af::ib ae 2 [iv al]::ib af 67 [ag]::aK::f8::H)∧OwMf BF f7 f8 bd f6) ?_ ?_
       ·refine Al (have m:=m.fr 6;have m:=m.fr 6;have m:=m.fr 6;have m:Mem W bf w (BM av ae af::ib ae 2 [iv al]::ib af 67 [ag]::aK::fZ::bc::ib au 38 [aa,ab,ac,ad]::H):=m.fr 6;have m:=m.fr 6;have m:=m.fr 5;C9 (λf9 ga a w=>∃gb:Bt,gb=f9∧∃(gc:GH) (gd:Itm) (ge:Itm),GLe bf gc∧Fr a 181 [(1,v1),(3,pb au),(5,pb av),(7,aJ),(10,bd),(12,a6),(29,aa),(30,(iv (ah.length:Int))),(31,iv aH),(134,f0)]∧Mem W gc w (gd::ib au 38 [aa,ab,ac,ad]::BM av ae af::ib ae 2 [iv al]::ib af 67 [ag]::aK::ge::H)∧RgA BF gc gd f0 ga∧OwMf BF gc ge bd gb) f5 f3 ⟨_,Z,_,fZ,bc,gr,f.k Z,m,f2,be⟩ ?_)
        clear f5 f m
        rintro f9 ga gf a w ⟨gb,rfl,gc,gd,ge,gg,f,m,gh,gi⟩
        refine have h1:=RMf.mono mfT _ _ _ _ gg h1;have a8:=rd1 gg a8;have ar:=rd1 gg ar;have aP:=Ow.mono (RMf.mono mfT) gg aP;Ae (CP (enc:=BF) Mf105.inj 0 m gh Z f Z Z (λgj a f=> ?_) λgk gl gm w a gn m go f=> ?_)
        ·have gp:=CF gf gj
         subst gp
         exact have m:=m.eraseAt 0;l_o f (AD (f.e Z) Z) λa f=>Aa (Ah (Ak f Z Z (AE Z ⟨_,Z,_,ge,gg,f.k Z,m,gi⟩)))
        ·obtain⟨gq,gs,gu⟩:=Ck gf gn
         refine have gv:=CO gn;l_o f (AD (f.e Z) Z) λa f=>Aa (Ah (Am f Z Z (An (Al (Ae (CD 0 m go Z f Z Z λa f=>l_o f (AD (f.e Z) Z) λa f=>l_o f (AD (f.e Z) Z) λa f=>Bp (cs:=DO) zeroValue105 m f Z Z λgw w a m f=>Ax 0 0 (ds:=(BL gk.1)) m sizeOf105 f Z Z Z (Af Z (Af Z (Af Z (Af Z (Af Z (Af Z (Af Z (Af Z (Af Z (Af Z (Af Z (Af Z (Af Z (Af Z (Af Z (Af Z AG)))))))))))))))) Z (lb Z) Z λw m=>Ac f Z λa f=>AF (Ab f Z λa f=>Ab f Z λa f=>Bd gs λgx gy gs=>AX T35 f Z Z Z a8 gy λgz gA a gB gC f=> ?_)))))))
         subst gC
         refine Aw m Pl2 f Z Z gB λa f=>Bd gs λgD gE gs=>Bm 6 m aP Z Eb f Z Z Z gE λgF a gG f=>Bl 6 m aP Z Pl109 f Z Z gG gE λgH a gI f=>CE m gI underlying109 f Z Z λgJ gK gL w a m gM gN f=>Aa (Bd gs λgO gP gs=> ?_)
         refine AL (λa w=>∃gQ:Bt,gQ=gO∧∃(gR:GH) (gS:Itm),GLe gc gR∧Fr a 181 [(1,v1),(3,pb au),(5,pb av),(7,aJ),(10,bd),(12,a6),(21,pb gw),(22,iv gk.2),(29,aa),(30,(iv (ah.length:Int))),(31,iv aH),(134,f0)]∧Mem W gR w (gm::ib au 38 [aa,ab,ac,ad]::BM av ae af::ib gw 105 (BL gk.1)::ib ae 2 [iv al]::ib af 67 [ag]::aK::gS::H)∧OwMf BF gR gS bd gQ) ?_ ?_
         ·refine Al (have m:=m.fr 4;have m:=m.fr 4;have m:=m.fr 4;have m:=m.fr 3;C9 (λgT gU a w=>∃gV:Bt,gV=gT∧∃(gW:GH) (gX:Itm) (gY:Itm),GLe gc gW∧Fr a 181 [(1,v1),(3,pb au),(5,pb av),(7,aJ),(10,bd),(12,a6),(21,pb gw),(22,iv gk.2),(29,aa),(30,(iv (ah.length:Int))),(31,iv aH),(134,f0),(146,gK)]∧Mem W gW w (gX::gm::ib au 38 [aa,ab,ac,ad]::BM av ae af::ib gw 105 (BL gk.1)::ib ae 2 [iv al]::ib af 67 [ag]::aK::gY::H)∧RgA BF gW gX gK gU∧OwMf BF gW gY bd gV) gP gN ⟨_,Z,_,gJ,ge,gr,f.k Z,m,gM,gi⟩ ?_)
          clear gP f m
          rintro gT gU gZ a w ⟨gV,rfl,gW,gX,gY,g0,f,m,g1,g2⟩
          refine have h1:=RMf.mono mfT _ _ _ _ g0 h1;have go:=RgF.mono g0 go;have ar:=rd1 g0 ar;Ae (CP (enc:=BF) Mf105.inj 0 m g1 Z f Z Z (λg3 a f=> ?_) λg4 g5 g6 w a g7 m g8 f=> ?_)
          ·have g9:=CF gZ g3
           subst g9
           exact have m:=m.eraseAt 0;l_o f (AD (f.e Z) Z) λa f=>Aa (Ah (Ak f Z Z (AE Z ⟨_,Z,_,gY,g0,f.k Z,m,g2⟩)))
          ·obtain⟨ha,hb,hc⟩:=Ck gZ g7
           refine have he:=CO g7;l_o f (AD (f.e Z) Z) λa f=>Aa (Ah (Am f Z Z (An (Al (Ae (CD 0 m g8 Z f Z Z λa f=>l_o f (AD (f.e Z) Z) λa f=>l_o f (AD (f.e Z) Z) λa f=>Bp (cs:=DO) zeroValue105 m f Z Z λhf w a m f=>Ax 0 0 (ds:=(BL g4.1)) m sizeOf105 f Z Z Z (Af Z (Af Z (Af Z (Af Z (Af Z (Af Z (Af Z (Af Z (Af Z (Af Z (Af Z (Af Z (Af Z (Af Z (Af Z (Af Z AG)))))))))))))))) Z (lb Z) Z λw m=>Ac f Z λa f=>AF (AQ underlying113 Z sizeOf111 f Z λa f=>Ao 4 2 m Pl111 f Z Z Z Z λa f=>Ay 5 0 (ds:=(BL gk.1)) m Dy f Z Z Z Z Z λa f=>Ay 0 0 (ds:=(BL g4.1)) m Dy f Z Z Z Z Z λa f=>Bd hb λhg hh hb=>CC f Z Z Z call72 (Wk.Y0 m hh) λhi hj hk w hl m hm a f=> ?_)))))))
           obtain⟨rfl,rfl⟩:=hm
           refine have h1:=RMf.mono mfT _ _ _ _ hl h1;have g8:=RgF.mono hl g8;have go:=RgF.mono hl go;have ar:=rd1 hl ar;have g2:=OwMf.mono mfT hl g2;Ab f Z λa f=>l_o f (AD (f.e Z) Z) λa f=>l_o f (AD (f.e Z) Z) λa f=>Bp (cs:=DO) zeroValue105 m f Z Z λhn w a m f=> ?_
           refine Ax 0 0 (ds:=[(.int .i8 hg.1),(.int .i8 hg.2.1),(.int .i8 hg.2.2.1),(.int .i8 hg.2.2.2.1),(.int .i8 hg.2.2.2.2.1),(.int .i8 hg.2.2.2.2.2.1),(.int .i8 hg.2.2.2.2.2.2.1),(.int .i8 hg.2.2.2.2.2.2.2.1),(.int .i8 hg.2.2.2.2.2.2.2.2.1),(.int .i8 hg.2.2.2.2.2.2.2.2.2.1),(.int .i8 hg.2.2.2.2.2.2.2.2.2.2.1),(.int .i8 hg.2.2.2.2.2.2.2.2.2.2.2.1),(.int .i8 hg.2.2.2.2.2.2.2.2.2.2.2.2.1),(.int .i8 hg.2.2.2.2.2.2.2.2.2.2.2.2.2.1),(.int .i8 hg.2.2.2.2.2.2.2.2.2.2.2.2.2.2.1),(.int .i8 hg.2.2.2.2.2.2.2.2.2.2.2.2.2.2.2.1)]) m sizeOf105 f Z Z Z (Af Z (Af Z (Af Z (Af Z (Af Z (Af Z (Af Z (Af Z (Af Z (Af Z (Af Z (Af Z (Af Z (Af Z (Af Z (Af Z AG)))))))))))))))) Z (lb Z) Z λw m=>Ac f Z λa f=>AF (Ab f Z λa f=>Aa ?_)
           rcases Ag hb with⟨ho,hb⟩|⟨ho,hb⟩
           ·refine Am f Z ho (have m:=m.fr 10;Fh [gY] (EI hn hg.1 hg.2.1 hg.2.2.1 hg.2.2.2.1 hg.2.2.2.2.1 hg.2.2.2.2.2.1 hg.2.2.2.2.2.2.1 hg.2.2.2.2.2.2.2.1 hg.2.2.2.2.2.2.2.2.1 hg.2.2.2.2.2.2.2.2.2.1 hg.2.2.2.2.2.2.2.2.2.2.1 hg.2.2.2.2.2.2.2.2.2.2.2.1 hg.2.2.2.2.2.2.2.2.2.2.2.2.1 hg.2.2.2.2.2.2.2.2.2.2.2.2.2.1 hg.2.2.2.2.2.2.2.2.2.2.2.2.2.2.1 hg.2.2.2.2.2.2.2.2.2.2.2.2.2.2.2.1::ib hf 105 (BL g4.1)::g6::gm::ib au 38 [aa,ab,ac,ad]::BM av ae af::ib gw 105 (BL gk.1)::ib ae 2 [iv al]::ib af 67 [ag]::aK::H) 9 AV (by kernel_rfl) m (Bc (i:=0) (ds:=[Fw 68 #[(pb ae),(pb af)],Fv 71,Fv 72,Fv 60,Fv 61]) 9 5 Ag113 Z Z Z Z (by kernel_rfl) Z f Z Z Z λa f=>As 1 9 Z f Z λa f=> ?_))
            refine Bc (i:=2) (ds:=[(.int .i8 hg.1),(.int .i8 hg.2.1),(.int .i8 hg.2.2.1),(.int .i8 hg.2.2.2.1),(.int .i8 hg.2.2.2.2.1),(.int .i8 hg.2.2.2.2.2.1),(.int .i8 hg.2.2.2.2.2.2.1),(.int .i8 hg.2.2.2.2.2.2.2.1),(.int .i8 hg.2.2.2.2.2.2.2.2.1),(.int .i8 hg.2.2.2.2.2.2.2.2.2.1),(.int .i8 hg.2.2.2.2.2.2.2.2.2.2.1),(.int .i8 hg.2.2.2.2.2.2.2.2.2.2.2.1),(.int .i8 hg.2.2.2.2.2.2.2.2.2.2.2.2.1),(.int .i8 hg.2.2.2.2.2.2.2.2.2.2.2.2.2.1),(.int .i8 hg.2.2.2.2.2.2.2.2.2.2.2.2.2.2.1),(.int .i8 hg.2.2.2.2.2.2.2.2.2.2.2.2.2.2.2.1)]) 9 0 Dy Z Z Z Z (by kernel_rfl) Z f Z Z Z λa f=>Br 3 9 underlying113 Z sizeOf94 Z f Z λa f=>Bo 4 9 5 Pl94 Z Z Z f Z λa f=>As 5 9 Z f Z λa f=>As 6 9 Z f Z λa f=>Bd hb λhp hq hb=>q_callv (i:=7) 9 Z (by kernel_rfl) Z f Z Z Z Z call60 (λ_ _ w hr m=>Wk.V m hq) λa f=>Bw 8 Z λhs w ht m hu hu=>have h1:=RMf.mono mfT _ _ _ _ ht h1;have g2:=OwMf.mono mfT ht g2;have g8:=RgF.mono ht g8;?_
            refine have go:=RgF.mono ht go;have ar:=rd1 ht ar;have m:=m.fr 9;have m:=m.fr 9;Bd hb λhv hw hb=>A9 f Z call118 (Wk.d0 m ar g2 hw) λhx hy hz w hA m hB a f=> ?_
            obtain⟨hC,rfl,hD⟩:=hB
            refine have h1:=RMf.mono mfT _ _ _ _ hA h1;have g8:=RgF.mono hA g8;have go:=RgF.mono hA go;Aa (have m:=m.fr 9;have m:=m.fr 9;have m:=m.fr 9;have m:Mem W hy w (gm::ib au 38 [aa,ab,ac,ad]::BM av ae af::ib gw 105 (BL gk.1)::ib ae 2 [iv al]::ib af 67 [ag]::hC::EI hn hg.1 hg.2.1 hg.2.2.1 hg.2.2.2.1 hg.2.2.2.2.1 hg.2.2.2.2.2.1 hg.2.2.2.2.2.2.1 hg.2.2.2.2.2.2.2.1 hg.2.2.2.2.2.2.2.2.1 hg.2.2.2.2.2.2.2.2.2.1 hg.2.2.2.2.2.2.2.2.2.2.1 hg.2.2.2.2.2.2.2.2.2.2.2.1 hg.2.2.2.2.2.2.2.2.2.2.2.2.1 hg.2.2.2.2.2.2.2.2.2.2.2.2.2.1 hg.2.2.2.2.2.2.2.2.2.2.2.2.2.2.1 hg.2.2.2.2.2.2.2.2.2.2.2.2.2.2.2.1::ib hf 105 (BL g4.1)::g6::aK::H):=m.fr 9;have m:=m.fr 9;have m:=m.fr 9;have m:=m.fr 9;have m:=m.fr 9;hu hy [hC] _ _ hA m (A4 λhE w hF m=>have h1:=RMf.mono mfT _ _ _ _ hF h1;have hD:=OwMf.mono mfT hF hD;have g8:=RgF.mono hF g8;have go:=RgF.mono hF go;Aa (have m:=m.fr 10;have m:=m.fr 10;have m:=m.fr 10;?_)))
            refine have m:Mem W hE w (ib gw 105 (BL gk.1)::ib ae 2 [iv al]::ib af 67 [ag]::aK::hC::EI hn hg.1 hg.2.1 hg.2.2.1 hg.2.2.2.1 hg.2.2.2.2.1 hg.2.2.2.2.2.1 hg.2.2.2.2.2.2.1 hg.2.2.2.2.2.2.2.1 hg.2.2.2.2.2.2.2.2.1 hg.2.2.2.2.2.2.2.2.2.1 hg.2.2.2.2.2.2.2.2.2.2.1 hg.2.2.2.2.2.2.2.2.2.2.2.1 hg.2.2.2.2.2.2.2.2.2.2.2.2.1 hg.2.2.2.2.2.2.2.2.2.2.2.2.2.1 hg.2.2.2.2.2.2.2.2.2.2.2.2.2.2.1 hg.2.2.2.2.2.2.2.2.2.2.2.2.2.2.2.1::ib hf 105 (BL g4.1)::g6::gm::ib au 38 [aa,ab,ac,ad]::BM av ae af::H):=m.fr 10;have m:=m.fr 10;have m:=m.fr 10;have m:=m.fr 10;?_
            refine have m:Mem W hE w (g6::gm::ib au 38 [aa,ab,ac,ad]::BM av ae af::ib gw 105 (BL gk.1)::ib ae 2 [iv al]::ib af 67 [ag]::aK::hC::EI hn hg.1 hg.2.1 hg.2.2.1 hg.2.2.2.1 hg.2.2.2.2.1 hg.2.2.2.2.2.1 hg.2.2.2.2.2.2.1 hg.2.2.2.2.2.2.2.1 hg.2.2.2.2.2.2.2.2.1 hg.2.2.2.2.2.2.2.2.2.1 hg.2.2.2.2.2.2.2.2.2.2.1 hg.2.2.2.2.2.2.2.2.2.2.2.1 hg.2.2.2.2.2.2.2.2.2.2.2.2.1 hg.2.2.2.2.2.2.2.2.2.2.2.2.2.1 hg.2.2.2.2.2.2.2.2.2.2.2.2.2.2.1 hg.2.2.2.2.2.2.2.2.2.2.2.2.2.2.2.1::ib hf 105 (BL g4.1)::H):=m.fr 10;have m:=m.eraseAt 10;have m:=m.eraseAt 9;?_
            obtain rfl:=sj hb
            exact⟨_,_,he,hc,_,Z,_,g6,hC,(gt g0 (gt hl (gt ht (gt hA hF)))),f.k Z,m,g8.any,hD⟩
           ·refine Ak f Z ho (An (have m:=m.fr 10;have m:=m.fr 10;have m:=m.fr 10;have m:Mem W hj w (ib ae 2 [iv al]::ib af 67 [ag]::aK::gY::EI hn hg.1 hg.2.1 hg.2.2.1 hg.2.2.2.1 hg.2.2.2.2.1 hg.2.2.2.2.2.1 hg.2.2.2.2.2.2.1 hg.2.2.2.2.2.2.2.1 hg.2.2.2.2.2.2.2.2.1 hg.2.2.2.2.2.2.2.2.2.1 hg.2.2.2.2.2.2.2.2.2.2.1 hg.2.2.2.2.2.2.2.2.2.2.2.1 hg.2.2.2.2.2.2.2.2.2.2.2.2.1 hg.2.2.2.2.2.2.2.2.2.2.2.2.2.1 hg.2.2.2.2.2.2.2.2.2.2.2.2.2.2.1 hg.2.2.2.2.2.2.2.2.2.2.2.2.2.2.2.1::ib hf 105 (BL g4.1)::g6::gm::ib au 38 [aa,ab,ac,ad]::BM av ae af::ib gw 105 (BL gk.1)::H):=m.fr 10;have m:=m.fr 10;have m:=m.fr 10;have m:=m.fr 10;?_))
            refine have m:Mem W hj w (gm::ib au 38 [aa,ab,ac,ad]::BM av ae af::ib gw 105 (BL gk.1)::ib ae 2 [iv al]::ib af 67 [ag]::aK::gY::EI hn hg.1 hg.2.1 hg.2.2.1 hg.2.2.2.1 hg.2.2.2.2.1 hg.2.2.2.2.2.1 hg.2.2.2.2.2.2.1 hg.2.2.2.2.2.2.2.1 hg.2.2.2.2.2.2.2.2.1 hg.2.2.2.2.2.2.2.2.2.1 hg.2.2.2.2.2.2.2.2.2.2.1 hg.2.2.2.2.2.2.2.2.2.2.2.1 hg.2.2.2.2.2.2.2.2.2.2.2.2.1 hg.2.2.2.2.2.2.2.2.2.2.2.2.2.1 hg.2.2.2.2.2.2.2.2.2.2.2.2.2.2.1 hg.2.2.2.2.2.2.2.2.2.2.2.2.2.2.2.1::ib hf 105 (BL g4.1)::g6::H):=m.fr 10;have m:=m.fr 10;have m:=m.eraseAt 10;have m:=m.eraseAt 9;?_
            obtain rfl:=sj hb
            exact⟨_,_,he,hc,_,Z,_,g6,gY,(gt g0 hl),f.k Z,m,g8.any,g2⟩
         ·rintro a w ⟨gQ,rfl,gR,gS,hG,f,m,hH⟩
          refine have h1:=RMf.mono mfT _ _ _ _ hG h1;have go:=RgF.mono hG go;have m:=m.fr 7;have m:=m.fr 7;have m:=m.fr 7;have m:Mem W gR w (ib ae 2 [iv al]::ib af 67 [ag]::aK::gS::gm::ib au 38 [aa,ab,ac,ad]::BM av ae af::ib gw 105 (BL gk.1)::H):=m.fr 7;have m:=m.fr 6;have m:=m.fr 6;have m:=m.fr 6;have m:=m.eraseAt 7;?_
          obtain rfl:=sj gs
          exact⟨_,_,gv,gu,_,Z,_,gm,gS,(gt gg hG),f.k Z,m,go.any,hH⟩
       ·rintro a w ⟨f6,rfl,f7,f8,hI,f,m,hJ⟩
        refine have h1:=RMf.mono mfT _ _ _ _ hI h1;have aP:=Ow.mono (RMf.mono mfT) hI aP;Aj (Ab f Z λa f=>Ab f Z λa f=>have m:=m.fr 5;?_)
        obtain⟨hK,hL,m,hM⟩:=OwMf.stamp mfT hJ m
        refine have h1:=RMf.mono mfT _ _ _ _ hL h1;have aP:=Ow.mono (RMf.mono mfT) hL aP;AO (R:=(RMf BF)) (xs:=([f6]:List Bt)) (RMf.one _) m Eb f Z Z Z (by decide) (All2.cons hM (All2.nil _)) λhN hO w a m hP f=>Bd aM λhQ hR aM=>A6 (RMf.one _) 5 m aP Z Eb Z (by decide) f Z Z Z (Ow.src (j:=0) hP m Z) hR λhS hT w a m hU f=>Ac f Z λa f=>Aa (Aj (Ai f Z Z AB λa f=>Ab f Z λa f=>Aa (have m:=m.fr 5;have m:=m.fr 5;have m:=m.fr 5;have m:Mem W hK w (BM av ae af::ib ae 2 [iv al]::ib af 67 [ag]::hS::hN::ib au 38 [aa,ab,ac,ad]::H):=m.fr 5;have m:=m.fr 5;have m:=m.eraseAt 5;?_)))
        obtain rfl:=sj aM
        exact⟨_,Z,_,_,Z,_,hT,hS,(gt aO (gt ba (gt bg (gt hI hL)))),f.k Z,m,hU⟩
      ·refine Ak f Z fM (An (Aj (Ab f Z λa f=>Ab f Z λa f=> ?_)))
       obtain⟨hV,hX,m,hY⟩:=OwMf.stamp mfT be m
       refine have h1:=RMf.mono mfT _ _ _ _ hX h1;have aP:=Ow.mono (RMf.mono mfT) hX aP;AO (R:=(RMf BF)) (xs:=([(mf0:Bt)]:List Bt)) (RMf.one _) m Eb f Z Z Z (by decide) (All2.cons hY (All2.nil _)) λhZ h0 w a m h2 f=>Bd aM λh3 h4 aM=>A6 (RMf.one _) 5 m aP Z Eb Z (by decide) f Z Z Z (Ow.src (j:=0) h2 m Z) h4 λh5 h6 w a m h7 f=>Ac f Z λa f=>Aa (Aj (Ai f Z Z AB λa f=>Ab f Z λa f=>Aa (have m:=m.fr 5;have m:=m.fr 5;have m:=m.fr 5;have m:Mem W hV w (BM av ae af::ib ae 2 [iv al]::ib af 67 [ag]::h5::hZ::ib au 38 [aa,ab,ac,ad]::H):=m.fr 5;have m:=m.fr 5;have m:=m.eraseAt 5;?_)))
       obtain rfl:=sj aM
       exact⟨_,Z,_,_,Z,_,h6,h5,(gt aO (gt ba (gt bg hX))),f.k Z,m,h7⟩
  ·refine Ak f Z aQ (AE Z (have m:=m.fr 4;have m:=m.fr 4;have m:=m.fr 4;have m:Mem W aI w (ib ae 2 [iv al]::ib af 67 [ag]::aK::ib au 38 [aa,ab,ac,ad]::H):=m.eraseAt 4;have m:=m.eraseAt 3;?_))
   obtain rfl:=sj aM
   obtain rfl:=aN _ rfl
   exact⟨_,Z,_,aJ,aK,aO,f.k Z,m,aP⟩
 ·rintro a w ⟨aB,rfl,aC,aD,aE,h8,f,m,h9⟩
  refine Ae (Ab f Z λa f=>Ab f Z λa f=>BH 2 m h9 Z underlying145 f Z Z λa f=>Ai f Z Z CA λa f=>Bd hd λia ic hd=>Bm 2 m h9 Z Eb f Z Z Z ic λid a ie f=>Bl 2 m h9 Z Pl109 f Z Z ie ic λig a ih f=>Ac f Z λa f=>Aa (Ar (have m:=m.eraseAt 2;?_)))
  obtain rfl:=sj hd
  exact⟨[ig],f.g Z,f.d,_,[ib ae 2 [iv al],ib af 67 [ag]],h8,m,_,Z,Z,ih⟩
theorem Wk.c {aa ab ac ad ae:Value}{af:LL}{ag ah:LI}{ai aj:LL}{x2:Int}(hW:DM W)(m:Mem W G w (H))(ak:R2 G aa af)(al:R1 G ab ag)(am:R1 G ac ah)(an:R2 G ad ai)(ao:R2 G ae aj){y:Int}(hd:D.c af ag ah ai aj x2=some y):
  Calls prog 20 #[(.agg #[aa]),(.agg #[ab,ac,ad,ae]),iv x2] w (Res W G H (λ_ Ho v=>Ho=[]∧v=(iv y))):=by
 refine Au (args:=[(.agg #[aa]),(.agg #[ab,ac,ad,ae]),iv x2]) (N:=30) [.tmp 6] func20 Z Z (lb Z) Z λa f=> ?_
 unfold D.c at hd
 refine Ae (A3 (cs:=[aa]) m f Z Z Z λap w a m f=>A3 (cs:=[ab,ac,ad,ae]) m f Z Z Z λaq w a m f=>A3 (cs:=[iv x2]) m f Z Z Z λar w a m f=>Ac f Z λa f=>Aa (Ah (Ae (Ay 2 0 (ds:=[aa]) m Bh f Z Z Z Z Z λa f=>Ay 1 0 (ds:=[ab,ac,ad,ae]) m Cd f Z Z Z Z Z λa f=>Bd hd λau av hd=>A2 f Z call12 (Wk.j m ak al am an ao av) λaw w ax m a f=>have ak:=rd2 ax ak;have al:=rd1 ax al;have am:=rd1 ax am;have an:=rd2 ax an;have ao:=rd2 ax ao;l_o f (Bj (f.e Z)) λa f=>Ab f Z λa f=>Bd hd λay az hd=> ?_))))
 refine Bk 4 (λa w=>∃aA,GLe aw aA∧Mem W aA w (ib ar 2 [iv x2]::ib aq 38 [ab,ac,ad,ae]::ib ap 29 [aa]::H)∧Fr a 30 [(0,(.agg #[aa])),(1,(.agg #[ab,ac,ad,ae])),(2,iv x2),(3,pb ap),(4,pb aq),(5,pb ar),(9,(.agg #[aa])),(10,(.agg #[ab,ac,ad,ae])),(11,(.bool au)),(12,(.bool (!au))),(13,(.bool (!au))),(17,(.bool ay))]) ?_ ?_
 ·rcases Ag az with⟨aB,az⟩|⟨aB,az⟩
  ·refine Aq f aB λa f=>Aq f aB λa f=>Aq f aB λa f=>l_o f (AK (f.e Z) aB (f.e Z)) λa f=> ?_
   obtain rfl:=sj az
   exact⟨_,gr,m,f.k Z⟩
  ·refine Ap f aB (Ao 0 0 m Pl2 f Z Z Z Z λa f=>Ap f aB (Bd az λaC aD az=>A2 f Z call67 (Wk.t m aD) λaE w aF m a f=>Ap f aB (l_o f (Bj (f.e Z)) λa f=>l_o f (AI (f.e Z) aB (f.e Z)) λa f=> ?_)))
   obtain rfl:=sj az
   exact⟨_,aF,m,f.k Z⟩
 ·rintro a w ⟨aA,aG,m,f⟩
  refine have ak:=rd2 aG ak;have al:=rd1 aG al;have am:=rd1 aG am;have an:=rd2 aG an;have ao:=rd2 aG ao;Aa ?_
  rcases Ag hd with⟨aH,hd⟩|⟨aH,hd⟩
  ·refine Am f Z aH (Ae (Ac f Z λa f=>Aa (Ar (have m:=m.dp 3;?_))))
   obtain rfl:=sj hd
   exact⟨[(iv (-1))],f.g Z,f.d,_,[],(gt ax aG),m,Z,Z⟩
  ·refine Ak f Z aH (An (Ae (Ay 2 0 (ds:=[aa]) m Bh f Z Z Z Z Z λa f=>Bd hd λaI aJ hd=>BK f Z call50 (Wk.L m ak aJ) λaK aL aM w aN m aO a f=>have al:=rd1 aN al;have am:=rd1 aN am;have an:=rd2 aN an;have ao:=rd2 aN ao;Bp (cs:=[sn]) zeroValue67 m f Z Z λaP w a m f=>Ax 0 0 (ds:=[aK]) m sizeOf67 f Z Z (Ow.cells 1 m aO Z) (Af (Ow.one1 1 m aO Z) AG) Z (lb Z) Z λw m=>AF (Dl f Z Z Z λa f=> ?_))))
   have aQ:∀w,(Instr.build 113 #[(0,Fw 68 #[(pb ar),(pb aP)]),(1,Fv 71),(2,Fv 72),(3,Fv 60),(4,Fv 61)]).run prog w= .ok (.agg #[Fw 68 #[(pb ar),(pb aP)],Fv 71,Fv 72,Fv 60,Fv 61]) w:=by intro w;simp[Instr.build,Instr.fill,Cb,B5,BI,BQ,BA,B9,B3]
   refine CM f Z Z aQ λa f=>Bp (cs:=[.nilFunc,.nilFunc,.nilFunc,.nilFunc,.nilFunc]) zeroValue113 m f Z Z λaR w a m f=>Ax 0 0 (ds:=[Fw 68 #[(pb ar),(pb aP)],Fv 71,Fv 72,Fv 60,Fv 61]) m sizeOf113 f Z Z Z (Af Z (Af Z (Af Z (Af Z (Af Z AG))))) Z (lb Z) Z λw m=>Aa (Ah (have m:=m.fr 2;?_))
   obtain⟨aS,aT,m,aU⟩:=Ow.stamp (RI.mono _) aO m
   refine have al:=rd1 aT al;have am:=rd1 aT am;have an:=rd2 aT an;have ao:=rd2 aT ao;Bg 8 AV (by kernel_rfl) m (Bc (i:=0) (ds:=[ab,ac,ad,ae]) 8 3 Cd Z Z Z Z (by kernel_rfl) Z f Z Z Z λa f=> ?_)
   have aV:∀w,(Instr.build 105 #[]).run prog w= .ok (.agg Gl) w:=by intro w;simp[Instr.build,Instr.fill,Cb,B5,BI,BQ,BA,B9,B3]
   refine q_p 2 8 Z f (λ_=>r_buildF f Z aV) λa f=>Bc (i:=5) (ds:=[Fw 68 #[(pb ar),(pb aP)],Fv 71,Fv 72,Fv 60,Fv 61]) 8 0 Ag113 Z Z Z Z (by kernel_rfl) Z f Z Z Z λa f=> ?_
   have aW:∀w,(Instr.build 105 #[]).run prog w= .ok (.agg Gl) w:=by intro w;simp[Instr.build,Instr.fill,Cb,B5,BI,BQ,BA,B9,B3]
   refine q_p 7 8 Z f (λ_=>r_buildF f Z aW) λa f=>Bw 1 Z λaX w aY m aZ aZ=>have al:=rd1 aY al;have am:=rd1 aY am;have an:=rd2 aY an;have ao:=rd2 aY ao;have aU:=rd1 aY aU;Ds BF m f Z λa0 a1 w a m a2 f=>Aa (aZ aX [a0] _ _ gr m (Bw 3 Z λa3 w a4 m a5 a5=>have al:=rd1 a4 al;have am:=rd1 a4 am;have an:=rd2 a4 an;have ao:=rd2 a4 ao;have a2:=OwMf.mono mfT a4 a2;have aU:=rd1 a4 aU;En Mf105 (i:=(⟨0,0,0,0,0,0,0,0,0,0,0,0,0,0,0,0⟩:C16)) 0 m a2 Z underlying109 f Z Z Z λa6 w m a7=>Aa (a5 a3 [a6] _ _ gr m (As 4 8 Z f Z λa f=>Bw 6 Z λa8 w a9 m ba ba=>have al:=rd1 a9 al;have am:=rd1 a9 am;have an:=rd2 a9 an;have ao:=rd2 a9 ao;have a7:=OwMf.mono mfT a9 a7;have aU:=rd1 a9 aU;?_))))
   obtain⟨bb,bc,m,bd⟩:=OwMf.stamp mfT a7 m
   refine have al:=rd1 bc al;have am:=rd1 bc am;have an:=rd2 bc an;have ao:=rd2 bc ao;have aU:=rd1 bc aU;have m:=m.fr 1;have m:=m.fr 2;Bd hd λbe bf hd=>A9 f Z call73 (Wk.O1 hW m al am an ao bd aU bf) λbg bh bi w bj m bk a f=> ?_
   obtain⟨bl,rfl,rfl,bm⟩:=bk
   refine have bd:=RMf.mono mfT _ _ _ _ bj bd;Aa (have m:=m.fr 1;have m:=m.fr 2;ba bh [] _ _ (gt bc bj) m (A4 λbn w bo m=>have bd:=RMf.mono mfT _ _ _ _ bo bd;have bm:=RMf.mono mfT _ _ _ _ bo bm;Gd Mf105 (i:=(⟨0,0,0,0,0,0,0,0,0,0,0,0,0,0,0,0⟩:C16)) m bm underlying109 zeroValue2 f Z Z Z λa f=>Ac f Z λa f=>Aa (Ar (have m:=m.dp 5;?_))))
   obtain rfl:=sj hd
   exact⟨[(iv ((be (⟨0,0,0,0,0,0,0,0,0,0,0,0,0,0,0,0⟩:C16)).getD 0))],f.g Z,f.d,_,[],(gt ax (gt aG (gt aN (gt aT (gt aY (gt a4 (gt a9 (gt bc (gt bj bo))))))))),m,Z,Z⟩
theorem Wk.t0 {aa:Value}{ab:LL}(m:Mem W G w (H))(ac:R2 G aa ab){y:Bool}(hd:D.t0 ab=some y):
  Calls prog 74 #[(.agg #[aa])] w (Res W G H (λ_ Ho v=>Ho=[]∧v=(.bool y))):=by
 refine Au (args:=[(.agg #[aa])]) (N:=11) [.tmp 2] func74 Z Z (lb Z) Z λa f=> ?_
 unfold D.t0 at hd
 refine Ae (A3 (cs:=[aa]) m f Z Z Z λad w a m f=>Ac f Z λa f=>AF (Ay 0 0 (ds:=[aa]) m Bh f Z Z Z Z Z λa f=>Bd hd λae af hd=>A2 f Z call40 (Wk.r m ac af) λag w ah m a f=>have ac:=rd2 ah ac;Ab f Z λa f=> ?_))
 refine Bk 5 (λa w=>∃ai,GLe ag ai∧Mem W ai w (ib ad 29 [aa]::H)∧Fr a 11 [(0,(.agg #[aa])),(1,pb ad),(3,(.agg #[aa])),(4,(.bool ae)),(5,(.bool ae)),(10,(.bool (ae&&(decide ((ab.length:Int)≤8)))))]) ?_ ?_
 ·rcases Bool.eq_false_or_eq_true ae with aj|aj
  ·exact Ap f aj (AQ underlying29 Z sizeOf27 f Z λa f=>Ap f aj (Ao 0 0 m AW f Z Z Z Z λa f=>Ap f aj (AN underlying27 f Z Z ac λa f=>Ap f aj (Ai f Z Z Fe λa f=>l_o f (AK (f.e Z) aj (f.e Z)) λa f=>⟨_,gr,m,f.weak ⟨Z,Z,Z,Z,Z,by rw[aj];rfl,trivial⟩⟩))))
  ·exact Aq f aj λa f=>Aq f aj λa f=>Aq f aj λa f=>Aq f aj λa f=>l_o f (AI (f.e Z) aj (f.e Z)) λa f=>⟨_,gr,m,f.weak ⟨Z,Z,Z,Z,Z,by rw[aj];rfl,trivial⟩⟩
 ·rintro a w ⟨ai,ak,m,f⟩
  refine Ac f Z λa f=>Aa (Ar (have m:=m.dp 1;?_))
  obtain rfl:=sj hd
  exact⟨[(.bool (ae&&(decide ((ab.length:Int)≤8))))],f.g Z,f.d,_,[],(gt ah ak),m,Z,Z⟩
theorem Wk.X {W:World}(n:Nat):∀{w:World} {G:GH} {H:List Itm} {v0 v2 v3:Value} {it3:Itm} {x0:LI} {x1:Int} {x2 x3:LI} (m:Mem W G w (it3::H)) (h0:R1 G v0 x0) (h2:R1 G v2 x2) (o3:Ow R0 2 G it3 v3 x3) {y:(LI)} (hd:D.X n x0 x1 x2 x3=some y),
  Calls prog 119 #[v0,iv x1,v2,v3] w (Res W G H (λG' Ho v=>∃r0:Value,∃i0:Itm,Ho=[i0]∧r0=v∧Ow R0 2 G' i0 r0 y)):=by
 induction n with
 |zero=>intros;rename_i hd;simp[D.X] at hd
 |succ fuel ih=>
  intro w G H v0 v2 v3 it3 x0 x1 x2 x3 m h0 h2 o3 y hd
  refine Au (args:=[v0,iv x1,v2,v3]) (N:=70) [.tmp 8] func119 Z Z (lb Z) Z λa f=> ?_
  unfold D.X at hd
  refine Ae (Ac f Z λa f=>Aa (Ah (Ae (Ab f Z λa f=>Ab f Z λa f=>AN underlying35 f Z Z h0 λa f=>Ai f Z Z Bf λa f=>Aa ?_))))
  rcases Ag hd with⟨aa,hd⟩|⟨aa,hd⟩
  ·refine Am f Z aa (Ae (Ab f Z λa f=>Ab f Z λa f=>AN underlying35 f Z Z h2 λa f=>Bd hd λab ac hd=>Bm 0 m o3 Z T35 f Z Z Z ac λad a ae f=>Bl 0 m o3 Z Pl2 f Z Z ae ac λaf a ag f=> ?_))
   subst ag
   refine Ai f Z Z AB λa f=>Bd hd λah ai hd=>Bm 0 m o3 Z T35 f Z Z Z ai λaj a ak f=>Ci 0 m o3 Z sizeOf2 f Z Z ak ai Z Z Z λal w m am=>AF (Ab f Z λa f=>Ac f Z λa f=>Aa (Ar ?_))
   obtain rfl:=sj hd
   exact⟨[v3],f.g Z,f.d,_,[al],gr,m,_,_,Z,Z,am⟩
  ·refine Ak f Z aa (An (Ah (Ae (Ac f Z λa f=>Aa (Bd hd λan ao hd=> ?_)))))
   refine AL (λa w=>∃ap:LI,ap=an∧∃(aq:GH) (ar:Value) (au:Itm),GLe G aq∧Fr a 70 [(0,v0),(1,iv x1),(2,v2),(3,ar)]∧Mem W aq w (au::H)∧Ow R0 2 aq au ar ap) ?_ ?_
   ·refine Al (AM (λav a w=>∃aw:LI,∃ax:Int,(aw,ax)=av∧∃(ay:GH) (az:Value) (aA:Itm),GLe G ay∧Fr a 70 [(0,v0),(1,iv x1),(2,v2),(3,az),(9,iv ax)]∧Mem W ay w (aA::H)∧Ow R0 2 ay aA az aw) ao ⟨_,_,Z,_,v3,it3,gr,f.k Z,m,o3⟩ ?_)
    clear ao f m
    rintro av aB aC aD a w ⟨aw,ax,rfl,ay,az,aA,aE,f,m,aF⟩
    refine have h0:=rd1 aE h0;have h2:=rd1 aE h2;Ah (Ae (Ab f Z λa f=>Ab f Z λa f=>AN underlying35 f Z Z h2 λa f=>Ai f Z Z AP λa f=>Aa ?_))
    rcases Ag aC with⟨aG,aC⟩|⟨aG,aC⟩
    ·refine Am f Z aG (An (Ah (Al (Ah (Bg 10 AV (by kernel_rfl) m (As 0 10 Z f Z λa f=>As 1 10 Z f Z λa f=>Bd aC λaH aI aC=>Bb 2 10 T35 h2 aI Z f Z Z λaJ aK a aL aM f=> ?_))))))
     subst aM
     refine Ba 3 10 Pl2 aL Z f Z λa f=>As 4 10 Z f Z λa f=>As 5 10 Z f Z λa f=>Bd aC λaN aO aC=>Bb 6 10 T35 h0 aO Z f Z Z λaP aQ a aR aS f=> ?_
     subst aS
     refine Ba 7 10 Pl2 aR Z f Z λa f=>q_p 8 10 Z f (λ_=>BB (f.e Z) (f.e Z) Dx) λa f=>q_p 9 10 Z f (λ_=>BB (f.e Z) (f.e Z) Bf) λa f=>A4 λaT w aU m=>have h0:=rd1 aU h0;have h2:=rd1 aU h2;have aF:=od1 aU aF;Aa ?_
     rcases Ag aC with⟨aV,aC⟩|⟨aV,aC⟩
     ·refine Am f Z aV (Ae (Ab f Z λa f=>Bd aC λaW aX aC=>BK f Z call26 (Wk.e m h2 aX) λaY aZ a0 w a1 m a2 a f=>have h0:=rd1 a1 h0;have aF:=od1 a1 aF;Ac f Z λa f=>AF (Ab f Z λa f=>Ab f Z λa f=>Ab f Z λa f=>Ab f Z λa f=>Bd aC λa3 a4 aC=>Bm 0 m a2 Z T35 f Z Z Z a4 λa5 a a6 f=>Bl 0 m a2 Z Pl2 f Z Z a6 a4 λa7 a a8 f=> ?_)))
      subst a8
      refine Ab f Z λa f=>l_o f (C6 (f.e Z) ⟨_,underlying3⟩ underlying88) λa f=> ?_
      obtain⟨a9,aC⟩:=CL aC
      refine l_o f (r_shl (f.e Z) (f.e Z) a9) λa f=>Ai f Z Z EK λa f=>Bd aC λba bb aC=>Bm 0 m a2 Z T35 f Z Z Z bb λbc a bd f=>Ci 0 m a2 Z sizeOf2 f Z Z bd bb Z Z Z λbe w m bf=>Aa (Aj (Ab f Z λa f=>Ab f Z λa f=>Ai f Z Z AB λa f=>Ab f Z λa f=>Ab f Z λa f=> ?_))
      obtain⟨bg,bh,m,bi⟩:=Ow.stamp (RI.mono _) bf m
      refine have h0:=rd1 bh h0;have aF:=od1 bh aF;Bd aC λbj bk aC=>A9 f Z call119 (ih m h0 bi aF bk) λbl bm bn w bo m bp a f=> ?_
      obtain⟨bq,br,rfl,rfl,bs⟩:=bp
      refine Ac f Z λa f=>Aa (Aj (Ab f Z λa f=>Ai f Z Z AB λa f=>Ac f Z λa f=>Aa ?_))
      obtain rfl:=sj aC
      exact⟨_,Z,_,_,Z,_,bq,br,(gt aE (gt aU (gt a1 (gt bh bo)))),f.k Z,m,bs⟩
     ·refine Ak f Z aV (An (Aj (Ab f Z λa f=>Ai f Z Z AB λa f=>Ac f Z λa f=>Aa ?_)))
      obtain rfl:=sj aC
      exact⟨_,Z,_,_,Z,_,az,aA,(gt aE aU),f.k Z,m,aF⟩
    ·refine Ak f Z aG (AE Z ?_)
     obtain rfl:=sj aC
     obtain rfl:=aD _ rfl
     exact⟨_,Z,_,az,aA,aE,f.k Z,m,aF⟩
   ·rintro a w ⟨ap,rfl,aq,ar,au,bt,f,m,bu⟩
    refine have h0:=rd1 bt h0;have h2:=rd1 bt h2;Ae (Ab f Z λa f=>Ab f Z λa f=>Ai f Z Z AB λa f=>Ab f Z λa f=>Bd hd λbv bw hd=>BK f Z call26 (Wk.e m h2 bw) λbx bz bA w bB m bC a f=>have h0:=rd1 bB h0;have bu:=od1 bB bu;Ab f Z λa f=>l_o f (C6 (f.e Z) ⟨_,underlying3⟩ underlying88) λa f=> ?_)
    obtain⟨bD,hd⟩:=CL hd
    refine l_o f (r_shl (f.e Z) (f.e Z) bD) λa f=>AO (R:=R0) (xs:=([(ishl .i64 1 (IntKind.u64.wrap x1))]:LI)) (RI.one _) m T35 f Z Z Z (by decide) (All2.cons Z (All2.nil _)) λbE bF w a m bG f=>Bd hd λbH bI hd=>A6 (RI.one _) 1 m bC Z T35 Z (by decide) f Z Z Z (Ow.src (j:=0) bG m Z) bI λbJ bK w a m bL f=>Ab f Z λa f=>have m:=m.fr 1;?_
    obtain⟨bM,bN,m,bO⟩:=Ow.stamp (RI.mono _) bL m
    refine have h0:=rd1 bN h0;have bu:=od1 bN bu;have m:=m.fr 1;Bd hd λbP bQ hd=>A9 f Z call119 (ih m h0 bO bu bQ) λbR bS bT w bU m bV a f=> ?_
    obtain⟨bW,bX,rfl,rfl,bY⟩:=bV
    refine Ac f Z λa f=>Aa (Ar (have m:=m.eraseAt 1;?_))
    obtain rfl:=sj hd
    exact⟨[bW],f.g Z,f.d,_,[bX],(gt bt (gt bB (gt bN bU))),m,_,_,Z,Z,bY⟩
theorem Wk.k {v0 v2 v3:Value}{it3:Itm}{x0:LI}{x1:Int}{x2 x3:LI}(m:Mem W G w (it3::H))(h0:R1 G v0 x0)(h2:R1 G v2 x2)(o3:Ow R0 2 G it3 v3 x3){y:(LI)}(hd:D.k x0 x1 x2 x3=some y):
  Calls prog 119 #[v0,iv x1,v2,v3] w (Res W G H (λG' Ho v=>∃r0:Value,∃i0:Itm,Ho=[i0]∧r0=v∧Ow R0 2 G' i0 r0 y)):=by
 exact Wk.X Bx m h0 h2 o3 hd
theorem Wk.m1 {aa:Value}{ab:LL}(m:Mem W G w (H))(ac:R2 G aa ab){y:(LI)}(hd:D.m1 ab=some y):
  Calls prog 76 #[(.agg #[aa])] w (Res W G H (λG' Ho v=>∃r0:Value,∃i0:Itm,Ho=[i0]∧r0=v∧Ow R0 2 G' i0 r0 y)):=by
 refine Au (args:=[(.agg #[aa])]) (N:=16) [.tmp 2] func76 Z Z (lb Z) Z λa f=> ?_
 unfold D.m1 at hd
 refine Ae (A3 (cs:=[aa]) m f Z Z Z λad w a m f=>Ac f Z λa f=>Aa (Ah (Ae (Ay 0 0 (ds:=[aa]) m Bh f Z Z Z Z Z λa f=>Bd hd λae af hd=>A2 f Z call74 (Wk.t0 m ac af) λag w ah m a f=>have ac:=rd2 ah ac;l_o f (Bj (f.e Z)) λa f=>Aa ?_))))
 rcases Ag hd with⟨ai,hd⟩|⟨ai,hd⟩
 ·refine Am f Z ai (Ae (AO (R:=R0) (xs:=([]:LI)) (RI.one _) m T35 f Z Z Z (by decide) (All2.nil _) λaj ak w a m al f=>Ac f Z λa f=>Aa (Ar (have m:=m.eraseAt 1;?_))))
  obtain rfl:=sj hd
  exact⟨[ak],f.g Z,f.d,_,[aj],ah,m,_,_,Z,Z,al⟩
 ·refine Ak f Z ai (An (Ah (Bd hd λam an hd=> ?_)))
  refine AL (λa w=>∃ao:LI,ao=am∧∃(ap:GH) (aq:Value) (ar:Itm),GLe ag ap∧Fr a 16 [(2,aq)]∧Mem W ap w (ar::H)∧Ow R0 2 ap ar aq ao) ?_ ?_
  ·refine Bg 8 AV (by kernel_rfl) m (Bc (i:=0) (ds:=[aa]) 8 0 Bh Z Z Z Z (by kernel_rfl) Z f Z Z Z λa f=>Br 3 8 underlying29 Z sizeOf27 Z f Z λa f=>Bo 4 8 0 AW Z Z Z f Z λa f=>DR (i:=5) 8 underlying27 ac Z (by kernel_rfl) Z f Z Z Z λa f=>q_p 6 8 Z f (λ_=>BB (f.e Z) (f.e Z) AB) λa f=>q_three (i:=1) (j:=2) (k:=7) (l1:= #[true,true,false,true,true,true,true,false,false,false]) (l2:= #[true,false,true,true,true,true,true,false,false,false]) (l3:= #[true,false,false,true,true,true,true,true,false,false]) Z Z Z (by kernel_rfl) Z Z Z ?_ ?_ ?_)
   ·intro au w av m aw aw
    refine have ac:=rd2 av ac;Bd an λax ay an=>BK f Z call52 (Wk.m m ac ay) λaz aA aB w aC m aD a f=>Aa (aw aB [aA] _ _ aC m (Ev (i:=2) (j:=7) (l1:= #[true,true,true,true,true,true,true,false,false,false]) (l2:= #[true,true,false,true,true,true,true,true,false,false]) Z Z (by kernel_rfl) Z Z ?_ ?_))
    ·intro aE w aF m aG aG
     refine have aD:=od1 aF aD;AO (R:=R0) (xs:=([]:LI)) (RI.one _) m T35 f Z Z Z (by decide) (All2.nil _) λaH aI w a m aJ f=>Aa (aG aE [aH,aA] _ _ gr m (Bw 7 Z λaK w aL m aM aM=>have aJ:=od1 aL aJ;have aD:=od1 aL aD;Bd an λaN aO an=>Cy (R:=R0) m T35 Z (by decide) Z f Z Z Z aO λaP aQ w a m aR f=>Aa (aM aK [aP,aH,aA] _ _ gr m (A4 λaS w aT m=>have aR:=od1 aT aR;have aJ:=od1 aT aJ;have aD:=od1 aT aD;have m:=m.fr 2;?_))))
     obtain⟨aU,aV,m,aW⟩:=Ow.stamp (RI.mono _) aD m
     refine have aR:=od1 aV aR;have aJ:=od1 aV aJ;have m:=m.fr 1;?_
     obtain⟨aX,aY,m,aZ⟩:=Ow.stamp (RI.mono _) aJ m
     refine have aW:=rd1 aY aW;have aR:=od1 aY aR;Bd an λa0 a1 an=>BK f Z call119 (Wk.k m aW aZ aR a1) λa2 a3 a4 w a5 m a6 a f=>Ac f Z λa f=>Aa (have m:=m.eraseAt 1;?_)
     obtain rfl:=sj an
     exact⟨_,Z,_,a2,a3,(gt av (gt aC (gt aF (gt aL (gt aT (gt aV (gt aY a5))))))),f.k Z,m,a6⟩
    ·intro aK w aL m aM aM
     refine Bd an λaN aO an=>Bd an λa0 a1 an=>have aD:=od1 aL aD;Cy (R:=R0) m T35 Z (by decide) Z f Z Z Z aO λaP aQ w a m aR f=>Aa (aM aK [aP,aA] _ _ gr m (Bw 2 Z λaE w aF m aG aG=>have aR:=od1 aF aR;have aD:=od1 aF aD;AO (R:=R0) (xs:=([]:LI)) (RI.one _) m T35 f Z Z Z (by decide) (All2.nil _) λaH aI w a m aJ f=>Aa (aG aE [aH,aP,aA] _ _ gr m (A4 λaS w aT m=>have aJ:=od1 aT aJ;have aR:=od1 aT aR;have aD:=od1 aT aD;have m:=m.fr 2;?_))))
     obtain⟨aU,aV,m,aW⟩:=Ow.stamp (RI.mono _) aD m
     refine have aJ:=od1 aV aJ;have aR:=od1 aV aR;?_
     obtain⟨aX,aY,m,aZ⟩:=Ow.stamp (RI.mono _) aJ m
     refine have aW:=rd1 aY aW;have aR:=od1 aY aR;BK f Z call119 (Wk.k m aW aZ aR a1) λa2 a3 a4 w a5 m a6 a f=>Ac f Z λa f=>Aa (have m:=m.eraseAt 1;?_)
     obtain rfl:=sj an
     exact⟨_,Z,_,a2,a3,(gt av (gt aC (gt aL (gt aF (gt aT (gt aV (gt aY a5))))))),f.k Z,m,a6⟩
   ·intro aE w aF m aG aG
    refine Bd an λax ay an=>Bd an λaN aO an=>Bd an λa0 a1 an=>have ac:=rd2 aF ac;AO (R:=R0) (xs:=([]:LI)) (RI.one _) m T35 f Z Z Z (by decide) (All2.nil _) λaH aI w a m aJ f=>Aa (aG aE [aH] _ _ gr m (Ev (i:=1) (j:=7) (l1:= #[true,true,true,true,true,true,true,false,false,false]) (l2:= #[true,false,true,true,true,true,true,true,false,false]) Z Z (by kernel_rfl) Z Z ?_ ?_))
    ·intro au w av m aw aw
     refine have ac:=rd2 av ac;have aJ:=od1 av aJ;BK f Z call52 (Wk.m m ac ay) λaz aA aB w aC m aD a f=>have aJ:=od1 aC aJ;Aa (aw aB [aA,aH] _ _ aC m (Bw 7 Z λaK w aL m aM aM=>have aD:=od1 aL aD;have aJ:=od1 aL aJ;Cy (R:=R0) m T35 Z (by decide) Z f Z Z Z aO λaP aQ w a m aR f=>Aa (aM aK [aP,aA,aH] _ _ gr m (A4 λaS w aT m=>have aR:=od1 aT aR;have aD:=od1 aT aD;have aJ:=od1 aT aJ;have m:=m.fr 1;?_))))
     obtain⟨aU,aV,m,aW⟩:=Ow.stamp (RI.mono _) aD m
     refine have aR:=od1 aV aR;have aJ:=od1 aV aJ;have m:=m.fr 1;?_
     obtain⟨aX,aY,m,aZ⟩:=Ow.stamp (RI.mono _) aJ m
     refine have aW:=rd1 aY aW;have aR:=od1 aY aR;BK f Z call119 (Wk.k m aW aZ aR a1) λa2 a3 a4 w a5 m a6 a f=>Ac f Z λa f=>Aa (have m:=m.eraseAt 1;?_)
     obtain rfl:=sj an
     exact⟨_,Z,_,a2,a3,(gt aF (gt av (gt aC (gt aL (gt aT (gt aV (gt aY a5))))))),f.k Z,m,a6⟩
    ·intro aK w aL m aM aM
     refine have ac:=rd2 aL ac;have aJ:=od1 aL aJ;Cy (R:=R0) m T35 Z (by decide) Z f Z Z Z aO λaP aQ w a m aR f=>Aa (aM aK [aP,aH] _ _ gr m (Bw 1 Z λau w av m aw aw=>have ac:=rd2 av ac;have aR:=od1 av aR;have aJ:=od1 av aJ;BK f Z call52 (Wk.m m ac ay) λaz aA aB w aC m aD a f=>have aR:=od1 aC aR;have aJ:=od1 aC aJ;Aa (aw aB [aA,aP,aH] _ _ aC m (A4 λaS w aT m=>have aD:=od1 aT aD;have aR:=od1 aT aR;have aJ:=od1 aT aJ;?_))))
     obtain⟨aU,aV,m,aW⟩:=Ow.stamp (RI.mono _) aD m
     refine have aR:=od1 aV aR;have aJ:=od1 aV aJ;have m:=m.fr 1;?_
     obtain⟨aX,aY,m,aZ⟩:=Ow.stamp (RI.mono _) aJ m
     refine have aW:=rd1 aY aW;have aR:=od1 aY aR;BK f Z call119 (Wk.k m aW aZ aR a1) λa2 a3 a4 w a5 m a6 a f=>Ac f Z λa f=>Aa (have m:=m.eraseAt 1;?_)
     obtain rfl:=sj an
     exact⟨_,Z,_,a2,a3,(gt aF (gt aL (gt av (gt aC (gt aT (gt aV (gt aY a5))))))),f.k Z,m,a6⟩
   ·intro aK w aL m aM aM
    refine Bd an λax ay an=>Bd an λaN aO an=>Bd an λa0 a1 an=>have ac:=rd2 aL ac;Cy (R:=R0) m T35 Z (by decide) Z f Z Z Z aO λaP aQ w a m aR f=>Aa (aM aK [aP] _ _ gr m (Ev (i:=1) (j:=2) (l1:= #[true,true,false,true,true,true,true,true,false,false]) (l2:= #[true,false,true,true,true,true,true,true,false,false]) Z Z (by kernel_rfl) Z Z ?_ ?_))
    ·intro au w av m aw aw
     refine have ac:=rd2 av ac;have aR:=od1 av aR;BK f Z call52 (Wk.m m ac ay) λaz aA aB w aC m aD a f=>have aR:=od1 aC aR;Aa (aw aB [aA,aP] _ _ aC m (Bw 2 Z λaE w aF m aG aG=>have aD:=od1 aF aD;have aR:=od1 aF aR;AO (R:=R0) (xs:=([]:LI)) (RI.one _) m T35 f Z Z Z (by decide) (All2.nil _) λaH aI w a m aJ f=>Aa (aG aE [aH,aA,aP] _ _ gr m (A4 λaS w aT m=>have aJ:=od1 aT aJ;have aD:=od1 aT aD;have aR:=od1 aT aR;have m:=m.fr 1;?_))))
     obtain⟨aU,aV,m,aW⟩:=Ow.stamp (RI.mono _) aD m
     refine have aJ:=od1 aV aJ;have aR:=od1 aV aR;?_
     obtain⟨aX,aY,m,aZ⟩:=Ow.stamp (RI.mono _) aJ m
     refine have aW:=rd1 aY aW;have aR:=od1 aY aR;BK f Z call119 (Wk.k m aW aZ aR a1) λa2 a3 a4 w a5 m a6 a f=>Ac f Z λa f=>Aa (have m:=m.eraseAt 1;?_)
     obtain rfl:=sj an
     exact⟨_,Z,_,a2,a3,(gt aL (gt av (gt aC (gt aF (gt aT (gt aV (gt aY a5))))))),f.k Z,m,a6⟩
    ·intro aE w aF m aG aG
     refine have ac:=rd2 aF ac;have aR:=od1 aF aR;AO (R:=R0) (xs:=([]:LI)) (RI.one _) m T35 f Z Z Z (by decide) (All2.nil _) λaH aI w a m aJ f=>Aa (aG aE [aH,aP] _ _ gr m (Bw 1 Z λau w av m aw aw=>have ac:=rd2 av ac;have aJ:=od1 av aJ;have aR:=od1 av aR;BK f Z call52 (Wk.m m ac ay) λaz aA aB w aC m aD a f=>have aJ:=od1 aC aJ;have aR:=od1 aC aR;Aa (aw aB [aA,aH,aP] _ _ aC m (A4 λaS w aT m=>have aD:=od1 aT aD;have aJ:=od1 aT aJ;have aR:=od1 aT aR;?_))))
     obtain⟨aU,aV,m,aW⟩:=Ow.stamp (RI.mono _) aD m
     refine have aJ:=od1 aV aJ;have aR:=od1 aV aR;?_
     obtain⟨aX,aY,m,aZ⟩:=Ow.stamp (RI.mono _) aJ m
     refine have aW:=rd1 aY aW;have aR:=od1 aY aR;BK f Z call119 (Wk.k m aW aZ aR a1) λa2 a3 a4 w a5 m a6 a f=>Ac f Z λa f=>Aa (have m:=m.eraseAt 1;?_)
     obtain rfl:=sj an
     exact⟨_,Z,_,a2,a3,(gt aL (gt aF (gt av (gt aC (gt aT (gt aV (gt aY a5))))))),f.k Z,m,a6⟩
  ·rintro a w ⟨ao,rfl,ap,aq,ar,a7,f,m,a8⟩
   refine Ar ?_
   obtain rfl:=sj hd
   exact⟨[aq],f.g Z,f.d,_,[ar],(gt ah a7),m,_,_,Z,Z,a8⟩
theorem Wk.O0 {aa:Value}{ab:LL}{x1:Int}(m:Mem W G w (H))(ac:R2 G aa ab){y:Int}(hd:D.O0 ab x1=some y):
  Calls prog 21 #[(.agg #[aa]),iv x1] w (Res W G H (λ_ Ho v=>Ho=[]∧v=(iv y))):=by
 refine Au (args:=[(.agg #[aa]),iv x1]) (N:=45) [.tmp 4] func21 Z Z (lb Z) Z λa f=> ?_
 unfold D.O0 at hd
 refine Ae (A3 (cs:=[aa]) m f Z Z Z λad w a m f=>Ac f Z λa f=>Aa (Ah (Ae (Ay 0 0 (ds:=[aa]) m Bh f Z Z Z Z Z λa f=>Bd hd λae af hd=>A2 f Z call74 (Wk.t0 m ac af) λag w ah m a f=>have ac:=rd2 ah ac;l_o f (Bj (f.e Z)) λa f=>Ab f Z λa f=>Bd hd λai aj hd=> ?_))))
 refine Bk 4 (λa w=>∃ak,GLe ag ak∧Mem W ak w (ib ad 29 [aa]::H)∧Fr a 45 [(0,(.agg #[aa])),(1,iv x1),(2,pb ad),(10,(.agg #[aa])),(11,(.bool ae)),(12,(.bool (!ae))),(13,(.bool (!ae))),(17,(.bool ai))]) ?_ ?_
 ·rcases Ag aj with⟨al,aj⟩|⟨al,aj⟩
  ·refine Aq f al λa f=>Aq f al λa f=>Aq f al λa f=>l_o f (AK (f.e Z) al (f.e Z)) λa f=> ?_
   obtain rfl:=sj aj
   exact⟨_,gr,m,f.k Z⟩
  ·refine Ap f al (Ab f Z λa f=>Ap f al (Bd aj λam an aj=>A2 f Z call75 (Wk.b m an) λao w ap m a f=>Ap f al (l_o f (Bj (f.e Z)) λa f=>l_o f (AI (f.e Z) al (f.e Z)) λa f=> ?_)))
   obtain rfl:=sj aj
   exact⟨_,ap,m,f.k Z⟩
 ·rintro a w ⟨ak,aq,m,f⟩
  refine have ac:=rd2 aq ac;Aa ?_
  rcases Ag hd with⟨ar,hd⟩|⟨ar,hd⟩
  ·refine Am f Z ar (Ae (Ac f Z λa f=>Aa (Ar (have m:=m.dp 1;?_))))
   obtain rfl:=sj hd
   exact⟨[(iv (-1))],f.g Z,f.d,_,[],(gt ah aq),m,Z,Z⟩
  ·refine Ak f Z ar (An (Ae (Ay 0 0 (ds:=[aa]) m Bh f Z Z Z Z Z λa f=>Bd hd λau av hd=>BK f Z call76 (Wk.m1 m ac av) λaw ax ay w az m aA a f=>Ac f Z λa f=>AF (Ac f Z λa f=>Aa (Ah (Ae (Ac f Z λa f=>Aa (Bd hd λaB aC hd=> ?_))))))))
   refine AL (λa w=>∃aD:Int,aD=aB∧∃(aE:GH),GLe ay aE∧Fr a 45 [(6,iv aD)]∧Mem W aE w (H)) ?_ ?_
   ·refine Al (have m:=m.eraseAt 1;AM (λaF a w=>∃aG:Int,∃aH:Int,(aG,aH)=aF∧∃(aI:GH),GLe ay aI∧Fr a 45 [(1,iv x1),(5,aw),(6,iv aG),(7,iv aH)]∧Mem W aI w (ax::H)) aC ⟨_,_,Z,_,gr,f.k Z,m⟩ ?_)
    clear aC f m
    rintro aF aJ aK aL a w ⟨aG,aH,rfl,aI,aM,f,m⟩
    refine have aA:=od1 aM aA;Ah (Ae (Ab f Z λa f=>Ab f Z λa f=>BH 0 m aA Z underlying35 f Z Z λa f=>Ai f Z Z AP λa f=>Aa ?_))
    rcases Ag aK with⟨aN,aK⟩|⟨aN,aK⟩
    ·refine Am f Z aN (An (Ah (Al (Ae (Ab f Z λa f=>Ab f Z λa f=>Bd aK λaO aP aK=>Bm 0 m aA Z T35 f Z Z Z aP λaQ a aR f=>Bl 0 m aA Z Pl2 f Z Z aR aP λaS a aT f=> ?_)))))
     subst aT
     refine Ac f Z λa f=>Aa (Ah (Ae (Ac f Z λa f=>Aa (Bd aK λaU aV aK=> ?_))))
     refine AL (λa w=>∃aW:Int,aW=aU∧∃(aX:GH),GLe aI aX∧Fr a 45 [(1,iv x1),(5,aw),(6,iv aG),(7,iv aH),(8,iv aW)]∧Mem W aX w (ax::H)) ?_ ?_
     ·refine Al (AM (λaY a w=>∃aZ:Int,∃a0:Int,(aZ,a0)=aY∧∃(a1:GH),GLe aI a1∧Fr a 45 [(1,iv x1),(5,aw),(6,iv aG),(7,iv aH),(8,iv aZ),(9,iv a0)]∧Mem W a1 w (ax::H)) aV ⟨_,_,Z,_,gr,f.k Z,m⟩ ?_)
      clear aV f m
      rintro aY a2 a3 a4 a w ⟨aZ,a0,rfl,a1,a5,f,m⟩
      refine Ah (Ae (Ab f Z λa f=>Ab f Z λa f=>Ai f Z Z AP λa f=>Aa ?_))
      rcases Ag a3 with⟨a6,a3⟩|⟨a6,a3⟩
      ·refine Am f Z a6 (An (Ah (Al (Aj (Ab f Z λa f=>Ab f Z λa f=>Ab f Z λa f=>Ai f Z Z CA λa f=>Bd a3 λa7 a8 a3=>A2 f Z call77 (Wk.M m a8) λa9 w ba m a f=>Ai f Z Z Ei λa f=>Ac f Z λa f=>Aa (Aj (Ab f Z λa f=>Ai f Z Z AB λa f=>Ac f Z λa f=>Aa ?_)))))))
       obtain rfl:=sj a3
       exact⟨_,Z,_,_,Z,_,(gt a5 ba),f.k Z,m⟩
      ·refine Ak f Z a6 (AE Z ?_)
       obtain rfl:=sj a3
       obtain rfl:=a4 _ rfl
       exact⟨_,Z,_,a5,f.k Z,m⟩
     ·rintro a w ⟨aW,rfl,aX,bb,f,m⟩
      refine Aj (Ab f Z λa f=>Ab f Z λa f=>Ai f Z Z AB λa f=>Ac f Z λa f=>Aa (Aj (Ab f Z λa f=>Ai f Z Z AB λa f=>Ac f Z λa f=>Aa ?_)))
      obtain rfl:=sj aK
      exact⟨_,Z,_,_,Z,_,(gt aM bb),f.k Z,m⟩
    ·refine Ak f Z aN (AE Z (have m:=m.dp 1;?_))
     obtain rfl:=sj aK
     obtain rfl:=aL _ rfl
     exact⟨_,Z,_,aM,f.k Z,m⟩
   ·rintro a w ⟨aD,rfl,aE,bc,f,m⟩
    refine Ae (Ab f Z λa f=>Ac f Z λa f=>Aa (Ar ?_))
    obtain rfl:=sj hd
    exact⟨[iv aD],f.g Z,f.d,_,[],(gt ah (gt aq (gt az bc))),m,Z,Z⟩
set_option maxHeartbeats 1000000 in
theorem Wk.U1 {v0:Value}{x0:LI}(hW:DM W)(m:Mem W G w (H))(h0:RSl (RI .u8) G v0 x0){y:Bool}(hd:D.U1 x0=some y):
  Calls prog 3 #[v0] w (Res W G H (λ_ Ho v=>Ho=[]∧v=(.bool y))):=by
 refine Au (args:=[v0]) (N:=120) [.tmp 2] func3 Z Z (lb Z) Z λa f=> ?_
 unfold D.U1 at hd
 refine Ae (Ac f Z λa f=>Aa (Ah (Ae (Ab f Z λa f=>Bd hd λaa ab hd=>A2 f Z call4 (Wk.N1 m h0 ab) λac w ad m a f=>have h0:=rd1 ad h0;Aa ?_))))
 rcases Ag hd with⟨ae,hd⟩|⟨ae,hd⟩
 ·refine Am f Z ae (Ae (Ac f Z λa f=>Aa (Ar ?_)))
  obtain rfl:=sj hd
  exact⟨[(.bool true)],f.g Z,f.d,_,[],ad,m,Z,Z⟩
 ·refine Ak f Z ae (An (Ae (Ab f Z λa f=>Bd hd λaf ag hd=>A9 f Z call5 (Wk.p1 m h0 ag) λah ai aj w ak m al a f=> ?_)))
  obtain⟨am,an,rfl,rfl,ao⟩:=al
  refine Ac f Z λa f=>AF (Ab f Z λa f=>Bd hd λap aq hd=>A9 f Z call6 (Wk.I0 m ao aq) λar au av w aw m ax a f=> ?_)
  obtain⟨ay,az,aA,rfl,rfl,aB,aC⟩:=ax
  refine Bp (cs:=[sn]) zeroValue29 m f Z Z λaD w a m f=>Ax 0 0 (ds:=[ay]) m sizeOf29 f Z Z Z (Af (Ow.one1 1 m aB Z) AG) Z (lb Z) Z λw m=>Aa (Ah (Bd hd λaE aF hd=> ?_))
  refine AL (λa w=>∃aG:LL,∃aH:LL,∃aI:LI,∃aJ:Int,∃aK:Int,∃aL:LL,(aG,aH,aI,aJ,aK,aL)=aE∧∃(aM:GH) (aN:Nat) (aO:Value) (aP:Itm) (aQ:Value) (aR:Itm) (aS:Value) (aT:Value),GLe au aM∧Fr a 120 [(3,pb an),(4,pb aD),(5,pb aN)]∧Mem W aM w (Cf an aJ aK aS::ib aD 29 [aT]::ib aN 32 [aO,aQ]::aP::aR::H)∧Ow R1 35 aM aP aO aG∧Ow R1 35 aM aR aQ aH∧RSl (RI .u8) aM aS aI∧R2 aM aT aL) ?_ ?_
  ·have m:=m.fr 1
   obtain⟨aU,aV,m,aW⟩:=Ow.stamp (RSl.mono (RI.mono _)) aB m
   refine have aC:=rd1 aV aC;have m:=m.fr 1;Fh [Cf an ap.2.2.1 ap.2.2.2 aA] (ib aD 29 [ay]::H) 10 AV (by kernel_rfl) m (Bc (i:=0) (ds:=[ay]) 10 0 Bh Z Z Z Z (by kernel_rfl) Z f Z Z Z λa f=>As 1 10 Z f Z λa f=>Bc (i:=2) (ds:=[ay]) 10 0 Bh Z Z Z Z (by kernel_rfl) Z f Z Z Z λa f=>Ev (i:=3) (j:=8) (l1:= #[true,true,true,true,false,false,false,false,false,false,false]) (l2:= #[true,true,true,false,false,false,false,false,true,false,false]) Z Z (by kernel_rfl) Z Z ?_ ?_)
   ·intro aX w aY m aZ aZ
    refine have aW:=rd2 aY aW;have aC:=rd1 aY aC;Bd aF λa2 a3 aF=>A9 f Z call8 (Wk.D0 m aC aW a3) λa4 a5 a6 w a7 m a8 a f=> ?_
    obtain⟨a9,ba,bb,rfl,rfl,bc,bd⟩:=a8
    refine have aW:=rd2 a7 aW;Aa (aZ a5 [ba,Cf an a2.2.2.1 a2.2.2.2 bb] _ _ a7 m (Ev (i:=4) (j:=8) (l1:= #[true,true,true,true,true,false,false,false,false,false,false]) (l2:= #[true,true,true,true,false,false,false,false,true,false,false]) Z Z (by kernel_rfl) Z Z ?_ ?_))
    ·intro be w bf m bg bg
     refine have aW:=rd2 bf aW;have bc:=od1 bf bc;have bd:=rd1 bf bd;?_
     obtain⟨bh,bi,m,bj⟩:=Ow.stamp (RI.mono _) bc m
     refine have aW:=rd2 bi aW;have bd:=rd1 bi bd;Bd aF λbk bl aF=>A9 f Z call7 (Wk.s0 m aW bj bl) λbm bn bo w bp m bq a f=> ?_
     obtain⟨br,bs,bt,bu,rfl,rfl,bv,bw⟩:=bq
     refine have aW:=rd2 bp aW;have bd:=rd1 bp bd;Aa (bg bn [bs,bu,Cf an a2.2.2.1 a2.2.2.2 bb] _ _ (gt bi bp) m (As 5 10 Z f Z λa f=>q_p 6 10 Z f (λ_=>AD (f.e Z) Z) λa f=>q_p 7 10 Z f (λ_=>AD (f.e Z) Z) λa f=>Bw 8 Z λbx w bz m bA bA=>have aW:=rd2 bz aW;have bv:=od3 bz bv;have bw:=od3 bz bw;have bd:=rd1 bz bd;Bp (cs:=[sn,sn]) zeroValue32 m f Z Z λbB w a m f=>Aa (bA bx [ib bB 32 [sn,sn],bs,bu,Cf an a2.2.2.1 a2.2.2.2 bb] _ _ gr m (Bw 9 Z λbC w bD m bE bE=>have aW:=rd2 bD aW;have bv:=od3 bD bv;have bw:=od3 bD bw;have bd:=rd1 bD bd;Ax 0 0 (ds:=[br,bt]) m sizeOf32 f Z Z Z (Af (Ow.one1 1 m bv Z) (Af (Ow.one1 2 m bw Z) AG)) Z (lb Z) Z λw m=>Aa (bE bC [ib bB 32 [br,bt],bs,bu,Cf an a2.2.2.1 a2.2.2.2 bb] _ _ gr m (A4 λbF w bG m=>have aW:=rd2 bG aW;have bv:=od3 bG bv;have bw:=od3 bG bw;have bd:=rd1 bG bd;?_))))))
     refine Ac f Z λa f=>Aa (have m:=m.fr 4;have m:=m.fr 4;?_)
     obtain rfl:=sj aF
     exact⟨_,_,_,_,_,_,Z,_,bB,br,bs,bt,bu,bb,ay,(gt aV (gt aY (gt a7 (gt bf (gt bi (gt bp (gt bz (gt bD bG)))))))),f.k Z,m,bv,bw,bd,aW⟩
    ·intro bx w bz m bA bA
     refine Bd aF λbk bl aF=>have aW:=rd2 bz aW;have bc:=od1 bz bc;have bd:=rd1 bz bd;Bp (cs:=[sn,sn]) zeroValue32 m f Z Z λbB w a m f=>Aa (bA bx [ib bB 32 [sn,sn],ba,Cf an a2.2.2.1 a2.2.2.2 bb] _ _ gr m (Bw 4 Z λbe w bf m bg bg=>have aW:=rd2 bf aW;have bc:=od1 bf bc;have bd:=rd1 bf bd;have m:=m.fr 1;?_))
     obtain⟨bh,bi,m,bj⟩:=Ow.stamp (RI.mono _) bc m
     refine have aW:=rd2 bi aW;have bd:=rd1 bi bd;A9 f Z call7 (Wk.s0 m aW bj bl) λbm bn bo w bp m bq a f=> ?_
     obtain⟨br,bs,bt,bu,rfl,rfl,bv,bw⟩:=bq
     refine have aW:=rd2 bp aW;have bd:=rd1 bp bd;Aa (bg bn [bs,bu,ib bB 32 [sn,sn],Cf an a2.2.2.1 a2.2.2.2 bb] _ _ (gt bi bp) m (As 5 10 Z f Z λa f=>q_p 6 10 Z f (λ_=>AD (f.e Z) Z) λa f=>q_p 7 10 Z f (λ_=>AD (f.e Z) Z) λa f=>Bw 9 Z λbC w bD m bE bE=>have aW:=rd2 bD aW;have bv:=od3 bD bv;have bw:=od3 bD bw;have bd:=rd1 bD bd;Ax 2 0 (ds:=[br,bt]) m sizeOf32 f Z Z Z (Af (Ow.one1 0 m bv Z) (Af (Ow.one1 1 m bw Z) AG)) Z (lb Z) Z λw m=>Aa (bE bC [bs,bu,ib bB 32 [br,bt],Cf an a2.2.2.1 a2.2.2.2 bb] _ _ gr m (A4 λbF w bG m=>have aW:=rd2 bG aW;have bv:=od3 bG bv;have bw:=od3 bG bw;have bd:=rd1 bG bd;Ac f Z λa f=>Aa (have m:=m.fr 2;have m:=m.fr 4;have m:=m.fr 4;?_)))))
     obtain rfl:=sj aF
     exact⟨_,_,_,_,_,_,Z,_,bB,br,bs,bt,bu,bb,ay,(gt aV (gt aY (gt a7 (gt bz (gt bf (gt bi (gt bp (gt bD bG)))))))),f.k Z,m,bv,bw,bd,aW⟩
   ·intro bx w bz m bA bA
    refine Bd aF λa2 a3 aF=>Bd aF λbk bl aF=>have aW:=rd2 bz aW;have aC:=rd1 bz aC;Bp (cs:=[sn,sn]) zeroValue32 m f Z Z λbB w a m f=>Aa (bA bx [ib bB 32 [sn,sn],Cf an ap.2.2.1 ap.2.2.2 aA] _ _ gr m (Bw 3 Z λaX w aY m aZ aZ=>have aW:=rd2 aY aW;have aC:=rd1 aY aC;have m:=m.fr 1;A9 f Z call8 (Wk.D0 m aC aW a3) λa4 a5 a6 w a7 m a8 a f=> ?_))
    obtain⟨a9,ba,bb,rfl,rfl,bc,bd⟩:=a8
    refine have aW:=rd2 a7 aW;Aa (aZ a5 [ba,Cf an a2.2.2.1 a2.2.2.2 bb,ib bB 32 [sn,sn]] _ _ a7 m (Bw 4 Z λbe w bf m bg bg=>have aW:=rd2 bf aW;have bc:=od1 bf bc;have bd:=rd1 bf bd;?_))
    obtain⟨bh,bi,m,bj⟩:=Ow.stamp (RI.mono _) bc m
    refine have aW:=rd2 bi aW;have bd:=rd1 bi bd;A9 f Z call7 (Wk.s0 m aW bj bl) λbm bn bo w bp m bq a f=> ?_
    obtain⟨br,bs,bt,bu,rfl,rfl,bv,bw⟩:=bq
    refine have aW:=rd2 bp aW;have bd:=rd1 bp bd;Aa (bg bn [bs,bu,Cf an a2.2.2.1 a2.2.2.2 bb,ib bB 32 [sn,sn]] _ _ (gt bi bp) m (As 5 10 Z f Z λa f=>q_p 6 10 Z f (λ_=>AD (f.e Z) Z) λa f=>q_p 7 10 Z f (λ_=>AD (f.e Z) Z) λa f=>Bw 9 Z λbC w bD m bE bE=>have aW:=rd2 bD aW;have bv:=od3 bD bv;have bw:=od3 bD bw;have bd:=rd1 bD bd;Ax 3 0 (ds:=[br,bt]) m sizeOf32 f Z Z Z (Af (Ow.one1 0 m bv Z) (Af (Ow.one1 1 m bw Z) AG)) Z (lb Z) Z λw m=>Aa (bE bC [bs,bu,Cf an a2.2.2.1 a2.2.2.2 bb,ib bB 32 [br,bt]] _ _ gr m (A4 λbF w bG m=>have aW:=rd2 bG aW;have bv:=od3 bG bv;have bw:=od3 bG bw;have bd:=rd1 bG bd;Ac f Z λa f=>Aa (have m:=m.fr 3;have m:=m.fr 4;have m:=m.fr 4;?_)))))
    obtain rfl:=sj aF
    exact⟨_,_,_,_,_,_,Z,_,bB,br,bs,bt,bu,bb,ay,(gt aV (gt bz (gt aY (gt a7 (gt bf (gt bi (gt bp (gt bD bG)))))))),f.k Z,m,bv,bw,bd,aW⟩
  ·rintro a w ⟨aG,aH,aI,aJ,aK,aL,rfl,aM,aN,aO,aP,aQ,aR,aS,aT,bH,f,m,bI,bJ,bK,bL⟩
   refine Ae (Ay 1 0 (ds:=[aT]) m Bh f Z Z Z Z Z λa f=>Ay 2 0 (ds:=[aO,aQ]) m DH f Z Z Z Z Z λa f=>have m:=m.fr 3;?_)
   obtain⟨bM,bN,m,bO⟩:=Ow.stamp (RSl.mono (RI.mono _)) bI m
   refine have bL:=rd2 bN bL;have bK:=rd1 bN bK;have bJ:=od3 bN bJ;have m:=m.fr 3;?_
   obtain⟨bP,bQ,m,bR⟩:=Ow.stamp (RSl.mono (RI.mono _)) bJ m
   refine have bL:=rd2 bQ bL;have bO:=rd2 bQ bO;have bK:=rd1 bQ bK;Bd hd λbS bT hd=>A9 f Z call9 (Wk.K hW m bL bO bR bT) λbU bV bW w bX m bY a f=> ?_
   obtain⟨bZ,b0,b1,b2,b3,b4,b5,b6,rfl,rfl,b7,b8,b9,ca⟩:=bY
   refine have bL:=rd2 bX bL;have bO:=rd2 bX bO;have bR:=rd2 bX bR;have bK:=rd1 bX bK;Ab f Z λa f=>l_o f (AD (f.e Z) Z) λa f=>l_o f (AD (f.e Z) Z) λa f=>Bp (cs:=[sn,sn,sn,sn]) zeroValue38 m f Z Z λcb w a m f=>Ax 0 0 (ds:=[bZ,b1,b3,b5]) m sizeOf38 f Z Z Z (Af (Ow.one1 1 m b7 Z) (Af (Ow.one1 2 m b8 Z) (Af (Ow.one1 3 m b9 Z) (Af (Ow.one1 4 m ca Z) AG)))) Z (lb Z) Z λw m=>Ac f Z λa f=>AF (Ay 6 0 (ds:=[aT]) m Bh f Z Z Z Z Z λa f=>Ay 7 0 (ds:=[aO,aQ]) m DH f Z Z Z Z Z λa f=>Bd hd λcc cd hd=>A9 f Z call10 (Wk.U0 m bL bO bR cd) λce cf cg w ch m ci a f=> ?_)
   obtain⟨cj,ck,cl,cm,cn,co,cp,cq,rfl,rfl,cr,ct,cu,cv⟩:=ci
   refine have bL:=rd2 ch bL;have b7:=od1 ch b7;have b8:=od1 ch b8;have b9:=od3 ch b9;have ca:=od3 ch ca;have bK:=rd1 ch bK;Ab f Z λa f=>l_o f (AD (f.e Z) Z) λa f=>l_o f (AD (f.e Z) Z) λa f=>Bp (cs:=[sn,sn,sn,sn]) zeroValue38 m f Z Z λcw w a m f=>Ax 0 0 (ds:=[cj,cl,cn,cp]) m sizeOf38 f Z Z Z (Af (Ow.one1 1 m cr Z) (Af (Ow.one1 2 m ct Z) (Af (Ow.one1 3 m cu Z) (Af (Ow.one1 4 m cv Z) AG)))) Z (lb Z) Z λw m=>Ac f Z λa f=>Aa (Ah (Ae (Ab f Z λa f=>Ab f Z λa f=>l_o f (r_bool_neq (f.e Z) (f.e Z) underlying4) λa f=>Ab f Z λa f=> ?_)))
   refine Bk 8 (λa w=>∃cx,GLe cf cx∧Mem W cx w (ib cw 38 [cj,cl,cn,cp]::ck::cm::co::cq::ib cb 38 [bZ,b1,b3,b5]::b0::b2::b4::b6::Cf an aJ aK aS::ib aD 29 [aT]::ib aN 32 [aO,aQ]::H)∧Fr a 120 [(3,pb an),(4,pb aD),(5,pb aN),(7,pb cb),(8,(.bool bS.2.2.2.2)),(9,pb cw),(10,(.bool cc.2.2.2.2)),(42,(.bool bS.2.2.2.2)),(43,(.bool cc.2.2.2.2)),(44,(.bool (bS.2.2.2.2 !=cc.2.2.2.2))),(45,(.bool (bS.2.2.2.2 !=cc.2.2.2.2))),(53,(.bool ((bS.2.2.2.2 !=cc.2.2.2.2)||((bS.1.length:Int) !=(cc.1.length:Int)))))]) ?_ ?_
   ·rcases Bool.eq_false_or_eq_true (bS.2.2.2.2 !=cc.2.2.2.2) with cy|cy
    ·exact Aq f cy λa f=>Aq f cy λa f=>Aq f cy λa f=>Aq f cy λa f=>Aq f cy λa f=>Aq f cy λa f=>Aq f cy λa f=>l_o f (AK (f.e Z) cy (f.e Z)) λa f=>⟨_,gr,m,f.weak ⟨Z,Z,Z,Z,Z,Z,Z,Z,Z,Z,Z,by rw[cy];rfl,trivial⟩⟩
    ·exact Ap f cy (AQ underlying38 Z sizeOf35 f Z λa f=>Ap f cy (Ao 5 0 m AY f Z Z Z Z λa f=>Ap f cy (BH 6 m b7 Z underlying35 f Z Z λa f=>Ap f cy (AQ underlying38 Z sizeOf35 f Z λa f=>Ap f cy (Ao 0 0 m AY f Z Z Z Z λa f=>Ap f cy (BH 1 m cr Z underlying35 f Z Z λa f=>Ap f cy (Ai f Z Z Cw λa f=>l_o f (AI (f.e Z) cy (f.e Z)) λa f=>⟨_,gr,m,f.weak ⟨Z,Z,Z,Z,Z,Z,Z,Z,Z,Z,Z,by rw[cy];rfl,trivial⟩⟩)))))))
   ·rintro a w ⟨cx,cz,m,f⟩
    refine have cr:=od1 cz cr;have ct:=od1 cz ct;have cu:=od3 cz cu;have cv:=od3 cz cv;have b7:=od1 cz b7;have b8:=od1 cz b8;have b9:=od3 cz b9;have ca:=od3 cz ca;have bK:=rd1 cz bK;have bL:=rd2 cz bL;Aa ?_
    rcases Ag hd with⟨cA,hd⟩|⟨cA,hd⟩
    ·refine Am f Z cA (Ae (Ac f Z λa f=>Aa (Ar (have m:=m.dp 13;?_))))
     obtain rfl:=sj hd
     exact⟨[(.bool false)],f.g Z,f.d,_,[],(gt ad (gt ak (gt aw (gt bH (gt bN (gt bQ (gt bX (gt ch cz)))))))),m,Z,Z⟩
    ·refine Ak f Z cA (An (Ah (Ae (Ab f Z λa f=>l_o f (Bj (f.e Z)) λa f=>Aa ?_))))
     rcases Ag hd with⟨cB,hd⟩|⟨cB,hd⟩
     ·refine Am f Z cB (Ae (Ac f Z λa f=>Aa (Ar (have m:=m.dp 13;?_))))
      obtain rfl:=sj hd
      exact⟨[(.bool true)],f.g Z,f.d,_,[],(gt ad (gt ak (gt aw (gt bH (gt bN (gt bQ (gt bX (gt ch cz)))))))),m,Z,Z⟩
     ·refine Ak f Z cB (An (Ah (Ae (Ay 11 0 (ds:=[aT]) m Bh f Z Z Z Z Z λa f=>Ay 5 0 (ds:=[bZ,b1,b3,b5]) m Cd f Z Z Z Z Z λa f=>Bd hd λcC cD hd=>A9 f Z call11 (Ow.lendCall (RI.mono _) 6 b7 m Z (λcE cF m cG=>(Ow.lendCall (RI.mono _) 6 (od1 cF b8) m Z (λcH cI m cJ=>(Ow.lendCall (RSl.mono (RI.mono _)) 6 (od3 cI (od3 cF b9)) m Z (λcK cL m cM=>(Ow.lendCall (RSl.mono (RI.mono _)) 6 (od3 cL (od3 cI (od3 cF ca))) m Z (λcN cO m cP=>Wk.H0 m (rd2 cO (rd2 cL (rd2 cI (rd2 cF bL)))) (rd1 cO (rd1 cL (rd1 cI cG))) (rd1 cO (rd1 cL cJ)) (rd2 cO cM) cP cD) (λ_ _ _ _ h=>h))) (λ_ _ _ _ h=>h))) (λ_ _ _ _ h=>h))) (λ_ _ _ _ h=>h)) λcQ cR cS w cT m cU a f=> ?_))))
      obtain⟨rfl,rfl⟩:=cU
      refine have bL:=rd2 cT bL;have cr:=od1 cT cr;have ct:=od1 cT ct;have cu:=od3 cT cu;have cv:=od3 cT cv;have bK:=rd1 cT bK;l_o f (Bj (f.e Z)) λa f=>Ab f Z λa f=>Bd hd λcV cW hd=> ?_
      refine Bk 5 (λa w=>∃cX,GLe cR cX∧Mem W cX w (ib cw 38 [cj,cl,cn,cp]::ck::cm::co::cq::ib cb 38 [bZ,b1,b3,b5]::b0::b2::b4::b6::Cf an aJ aK aS::ib aD 29 [aT]::ib aN 32 [aO,aQ]::H)∧Fr a 120 [(3,pb an),(4,pb aD),(5,pb aN),(7,pb cb),(8,(.bool bS.2.2.2.2)),(9,pb cw),(10,(.bool cc.2.2.2.2)),(55,(.bool (!cc.2.2.2.2))),(56,(.agg #[aT])),(57,(.agg #[bZ,b1,b3,b5])),(58,(.bool cC)),(59,(.bool (!cC))),(60,(.bool (!cC))),(65,(.bool cV))]) ?_ ?_
      ·rcases Ag cW with⟨cY,cW⟩|⟨cY,cW⟩
       ·refine Aq f cY λa f=>Aq f cY λa f=>Aq f cY λa f=>Aq f cY λa f=>l_o f (AK (f.e Z) cY (f.e Z)) λa f=> ?_
        obtain rfl:=sj cW
        exact⟨_,gr,m,f.k Z⟩
       ·refine Ap f cY (Ay 11 0 (ds:=[aT]) m Bh f Z Z Z Z Z λa f=>Ap f cY (Ay 0 0 (ds:=[cj,cl,cn,cp]) m Cd f Z Z Z Z Z λa f=>Ap f cY (Bd cW λcZ c0 cW=>A9 f Z call12 (Ow.lendCall (RI.mono _) 1 cr m Z (λc1 c2 m c3=>(Ow.lendCall (RI.mono _) 1 (od1 c2 ct) m Z (λc4 c5 m c6=>(Ow.lendCall (RSl.mono (RI.mono _)) 1 (od3 c5 (od3 c2 cu)) m Z (λc7 c8 m c9=>(Ow.lendCall (RSl.mono (RI.mono _)) 1 (od3 c8 (od3 c5 (od3 c2 cv))) m Z (λda db m dc=>Wk.j m (rd2 db (rd2 c8 (rd2 c5 (rd2 c2 bL)))) (rd1 db (rd1 c8 (rd1 c5 c3))) (rd1 db (rd1 c8 c6)) (rd2 db c9) dc c0) (λ_ _ _ _ h=>h))) (λ_ _ _ _ h=>h))) (λ_ _ _ _ h=>h))) (λ_ _ _ _ h=>h)) λdd de df w dg m dh a f=> ?_)))
        obtain⟨rfl,rfl⟩:=dh
        refine Ap f cY (l_o f (Bj (f.e Z)) λa f=>l_o f (AI (f.e Z) cY (f.e Z)) λa f=> ?_)
        obtain rfl:=sj cW
        exact⟨_,dg,m,f.k Z⟩
      ·rintro a w ⟨cX,di,m,f⟩
       refine have bL:=rd2 di bL;have cr:=od1 di cr;have ct:=od1 di ct;have cu:=od3 di cu;have cv:=od3 di cv;have bK:=rd1 di bK;Aa ?_
       rcases Ag hd with⟨dj,hd⟩|⟨dj,hd⟩
       ·refine Am f Z dj (Ae (Ac f Z λa f=>Aa (Ar (have m:=m.dp 13;?_))))
        obtain rfl:=sj hd
        exact⟨[(.bool false)],f.g Z,f.d,_,[],(gt ad (gt ak (gt aw (gt bH (gt bN (gt bQ (gt bX (gt ch (gt cz (gt cT di)))))))))),m,Z,Z⟩
       ·refine Ak f Z dj (An (Ae (AO (R:=R0) (xs:=([]:LI)) (RI.one _) m T35 f Z Z Z (by decide) (All2.nil _) λdk dl w a m dm f=>Ac f Z λa f=>Aa (Ah (Ae (Ac f Z λa f=>Aa (Bd hd λdn dq hd=> ?_)))))))
        refine AL (λa w=>∃dr:LI,∃dt:LI,∃du:Int,∃dv:Int,(dr,dt,du,dv)=dn∧∃(dw:GH) (dx:Value) (dy:Itm) (dz:Value),GLe cX dw∧Fr a 120 [(3,pb an),(4,pb aD),(9,pb cw),(11,dx)]∧Mem W dw w (Cf an du dv dz::ib aD 29 [aT]::ib cw 38 [cj,cl,cn,cp]::dy::ck::cm::co::cq::H)∧Ow R0 2 dw dy dx dr∧RSl (RI .u8) dw dz dt) ?_ ?_
        ·refine Al (have m:=m.fr 1;have m:=m.fr 12;have m:=m.fr 12;have m:Mem W cX w (b6::Cf an aJ aK aS::ib aD 29 [aT]::ib cw 38 [cj,cl,cn,cp]::dk::ck::cm::co::cq::ib cb 38 [bZ,b1,b3,b5]::b0::b2::b4::ib aN 32 [aO,aQ]::H):=m.fr 12;have m:=m.fr 12;have m:=m.fr 12;have m:=m.fr 12;have m:Mem W cX w (cq::b0::b2::b4::b6::Cf an aJ aK aS::ib aD 29 [aT]::ib cw 38 [cj,cl,cn,cp]::dk::ck::cm::co::ib cb 38 [bZ,b1,b3,b5]::ib aN 32 [aO,aQ]::H):=m.fr 11;have m:=m.fr 11;have m:=m.fr 11;have m:=m.fr 11;have m:Mem W cX w (dk::ck::cm::co::cq::b0::b2::b4::b6::Cf an aJ aK aS::ib aD 29 [aT]::ib cw 38 [cj,cl,cn,cp]::ib cb 38 [bZ,b1,b3,b5]::ib aN 32 [aO,aQ]::H):=m.fr 11;have m:=m.fr 11;have m:=m.fr 11;have m:=m.fr 11;?_)
         refine have m:Mem W cX w (Cf an aJ aK aS::ib aD 29 [aT]::ib cw 38 [cj,cl,cn,cp]::dk::ck::cm::co::cq::b0::b2::b4::b6::ib cb 38 [bZ,b1,b3,b5]::H):=m.eraseAt 13;have m:=m.eraseAt 12;have m:=m.eraseAt 11;have m:=m.eraseAt 10;have m:Mem W cX w (Cf an aJ aK aS::ib aD 29 [aT]::ib cw 38 [cj,cl,cn,cp]::dk::ck::cm::co::cq::b0::H):=m.eraseAt 9;have m:=m.eraseAt 8;AM (λdA a w=>∃dB:LI,∃dC:Int,∃dD:LI,∃dE:Int,∃dF:Int,(dB,dC,dD,dE,dF)=dA∧∃(dG:GH) (dH:Value) (dI:Itm) (dJ:Value),GLe cX dG∧Fr a 120 [(3,pb an),(4,pb aD),(9,pb cw),(11,dH),(12,iv dC)]∧Mem W dG w (Cf an dE dF dJ::ib aD 29 [aT]::ib cw 38 [cj,cl,cn,cp]::dI::ck::cm::co::cq::H)∧Ow R0 2 dG dI dH dB∧RSl (RI .u8) dG dJ dD) dq ⟨_,_,_,_,_,Z,_,dl,dk,aS,gr,f.k Z,m,dm,bK⟩ ?_
         clear dq f m
         rintro dA dK dL dM a w ⟨dB,dC,dD,dE,dF,rfl,dG,dH,dI,dJ,dN,f,m,dO,dP⟩
         refine have bL:=rd2 dN bL;Ah (Ae (Ab f Z λa f=>AQ underlying29 Z sizeOf27 f Z λa f=>Ao 1 0 m AW f Z Z Z Z λa f=>AN underlying27 f Z Z bL λa f=>Ai f Z Z AP λa f=>Aa ?_))
         rcases Ag dL with⟨dQ,dL⟩|⟨dQ,dL⟩
         ·refine Am f Z dQ (An (Ah (Al (Aj (Ab f Z λa f=>Ab f Z λa f=>Bd dL λdR dS dL=>A9 f Z call13 (Wk.l m dP dS) λdT dU dV w dW m dX a f=> ?_)))))
          obtain⟨dY,rfl,rfl,dZ⟩:=dX
          refine have dO:=od1 dW dO;AO (R:=R0) (xs:=([dR.1]:LI)) (RI.one _) m T35 f Z Z Z (by decide) (All2.cons Z (All2.nil _)) λd0 d1 w a m d2 f=>Bd dL λd3 d4 dL=>A6 (RI.one _) 4 m dO Z T35 Z (by decide) f Z Z Z (Ow.src (j:=0) d2 m Z) d4 λd5 d6 w a m d7 f=>Ac f Z λa f=>Aa (Aj (Ab f Z λa f=>Ai f Z Z AB λa f=>Ac f Z λa f=>Aa (have m:=m.fr 8;have m:=m.fr 8;have m:=m.fr 8;have m:Mem W dU w (ck::cm::co::cq::d0::Cf an dR.2.2.1 dR.2.2.2 dY::ib aD 29 [aT]::ib cw 38 [cj,cl,cn,cp]::d5::H):=m.fr 8;have m:=m.fr 8;have m:=m.fr 8;have m:=m.fr 8;have m:Mem W dU w (Cf an dR.2.2.1 dR.2.2.2 dY::ib aD 29 [aT]::ib cw 38 [cj,cl,cn,cp]::d5::ck::cm::co::cq::d0::H):=m.fr 8;have m:=m.eraseAt 8;?_)))
          obtain rfl:=sj dL
          exact⟨_,Z,_,_,_,_,_,Z,_,d6,d5,dY,(gt dN dW),f.k Z,m,d7,dZ⟩
         ·refine Ak f Z dQ (AE Z ?_)
          obtain rfl:=sj dL
          obtain rfl:=dM _ rfl
          exact⟨_,_,_,_,Z,_,dH,dI,dJ,dN,f.k Z,m,dO,dP⟩
        ·rintro a w ⟨dr,dt,du,dv,rfl,dw,dx,dy,dz,d8,f,m,d9,ea⟩
         refine have bL:=rd2 d8 bL;have cr:=od1 d8 cr;have ct:=od1 d8 ct;have cu:=od3 d8 cu;have cv:=od3 d8 cv;Ae (Ab f Z λa f=>Bd hd λeb ec hd=>A9 f Z call13 (Wk.l m ea ec) λed ee ef w eg m eh a f=> ?_)
         obtain⟨ei,rfl,rfl,ej⟩:=eh
         refine have bL:=rd2 eg bL;have d9:=od1 eg d9;have cr:=od1 eg cr;have ct:=od1 eg ct;have cu:=od3 eg cu;have cv:=od3 eg cv;Ac f Z λa f=>AF (Ay 1 0 (ds:=[aT]) m Bh f Z Z Z Z Z λa f=>Ab f Z λa f=>Bd hd λek el hd=>A9 f Z call14 (Ow.lendCall (RI.mono _) 3 d9 m Z (λem en m eo=>Wk.W0 m (rd2 en bL) eo el) (λ_ G' _ _ ⟨a0,a1,e1,e2,o0⟩=>⟨a0,a1,e1,e2,Ow.free (RI.free _) G' o0⟩)) λep eq er w es m et a f=> ?_)
         obtain⟨eu,ev,rfl,rfl,ew⟩:=et
         refine have bL:=rd2 es bL;have d9:=od1 es d9;have cr:=od1 es cr;have ct:=od1 es ct;have cu:=od3 es cu;have cv:=od3 es cv;Ab f Z λa f=>l_o f (AD (f.e Z) Z) λa f=>l_o f (AD (f.e Z) Z) λa f=>Ac f Z λa f=>Ac f Z λa f=>Aa (Ah (Bg 34 AV (by kernel_rfl) m (Bc (i:=0) (ds:=[aT]) 34 2 Bh Z Z Z Z (by kernel_rfl) Z f Z Z Z λa f=>Bc (i:=1) (ds:=[cj,cl,cn,cp]) 34 3 Cd Z Z Z Z (by kernel_rfl) Z f Z Z Z λa f=>Bd hd λex ey hd=> ?_)))
         refine B4 (i:=2) 34 Z (by kernel_rfl) Z f Z Z Z call15 (λ_ _ w ez m=>(Ow.lendCallR (RI.mono _) 5 (od1 ez cr) m Z (λeA eB m eC=>(Ow.lendCallR (RI.mono _) 5 (od1 eB (od1 ez ct)) m Z (λeD eE m eF=>(Ow.lendCallR (RSl.mono (RI.mono _)) 5 (od3 eE (od3 eB (od3 ez cu))) m Z (λeG eH m eI=>(Ow.lendCallR (RSl.mono (RI.mono _)) 5 (od3 eH (od3 eE (od3 eB (od3 ez cv)))) m Z (λeJ eK m eL=>Wk.N m (rd2 eK (rd2 eH (rd2 eE (rd2 eB (rd2 ez bL))))) (rd1 eK (rd1 eH (rd1 eE eC))) (rd1 eK (rd1 eH eF)) (rd2 eK eI) eL ey) (λ_ _ _ _ h=>h))) (λ_ _ _ _ h=>h))) (λ_ _ _ _ h=>h))) (λ_ _ _ _ h=>h))) λa f=>Bc (i:=3) (ds:=[aT]) 34 2 Bh Z Z Z Z (by kernel_rfl) Z f Z Z Z λa f=>Bd hd λeM eN hd=>B4 (i:=4) 34 Z (by kernel_rfl) Z f Z Z Z call16 (λ_ _ w eO m=>Wk.d1 m (rd2 eO bL) eN) λa f=>q_p 5 34 Z f (λ_=>BB (f.e Z) (f.e Z) Bf) λa f=>As 6 34 Z f Z λa f=>Bd hd λeP eQ hd=> ?_
         refine CW (fuel':=20) (listed':= #[true,true,true,true,true,true,true,true,true,true,true,true,true,true,false,false,false,false,false,false,false,false,false,false,false,false,false,false,false,false,false,false,false,false]) (λa=>Fr a 120 [(3,pb an),(4,pb aD),(9,pb cw),(11,dx),(13,iv eb.1),(14,eu),(15,iv ek.2),(87,(.agg #[aT])),(88,(.agg #[cj,cl,cn,cp])),(89,iv ex),(90,(.agg #[aT])),(91,iv eM),(92,(.bool (ex==eM))),(93,(.bool (ex==eM))),(100,(.bool eP))]) ?_ ?_
         ·intro a f
          refine As 14 34 Z f Z λa f=> ?_
          rcases Ag hd with⟨eR,hd⟩|⟨eR,hd⟩
          ·refine Bc (i:=15) (ds:=[aT]) 34 2 Bh Z Z Z Z (by kernel_rfl) Z f (Bs f Z Z Z eR) Z Z λa f=>Bc (i:=16) (ds:=[cj,cl,cn,cp]) 34 3 Cd Z Z Z Z (by kernel_rfl) Z f (Bs f Z Z Z eR) Z Z λa f=>Bd hd λeS eT hd=>B4 (i:=17) 34 Z (by kernel_rfl) Z f (Bs f Z Z Z eR) Z Z call18 (λ_ _ w eU m=>(Ow.lendCallR (RI.mono _) 5 (od1 eU cr) m Z (λeV eW m eX=>(Ow.lendCallR (RI.mono _) 5 (od1 eW (od1 eU ct)) m Z (λeY eZ m e0=>(Ow.lendCallR (RSl.mono (RI.mono _)) 5 (od3 eZ (od3 eW (od3 eU cu))) m Z (λe3 e4 m e5=>(Ow.lendCallR (RSl.mono (RI.mono _)) 5 (od3 e4 (od3 eZ (od3 eW (od3 eU cv)))) m Z (λe6 e7 m e8=>Wk.z0 m (rd2 e7 (rd2 e4 (rd2 eZ (rd2 eW (rd2 eU bL))))) (rd1 e7 (rd1 e4 (rd1 eZ eX))) (rd1 e7 (rd1 e4 e0)) (rd2 e7 e5) e8 eT) (λ_ _ _ _ h=>h))) (λ_ _ _ _ h=>h))) (λ_ _ _ _ h=>h))) (λ_ _ _ _ h=>h))) λa f=> ?_
           refine Bc (i:=18) (ds:=[aT]) 34 2 Bh Z Z Z Z (by kernel_rfl) Z f (Bs f Z Z Z eR) Z Z λa f=>Bw 19 Z λe9 w fa m fb fb=>have bL:=rd2 fa bL;have cr:=od1 fa cr;have ct:=od1 fa ct;have cu:=od3 fa cu;have cv:=od3 fa cv;Ap f eR (Bd hd λfc fd hd=>BK f Z call19 (Wk.S0 m bL fd) λfe ff fg w fh m fi a f=>have bL:=rd2 fh bL;have cr:=od1 fh cr;have ct:=od1 fh ct;have cu:=od3 fh cu;have cv:=od3 fh cv;Aa (fb fg [ff] _ _ fh m (Er (i:=20) 34 0 m fi Z underlying35 Z (by kernel_rfl) Z f (Bs f Z Z Z eR) Z Z λa f=>q_p (hw:=wo f eR) 21 34 Z f (λ_=>BB (f.e Z) (f.e Z) Bf) λa f=>q_p 22 34 Z f (λ_=>AK (f.e Z) eR (f.e Z)) λa f=>As 23 34 Z f Z λa f=>Bd hd λfj fk hd=> ?_)))
           refine CW (fuel':=1) (listed':= #[true,true,true,true,true,true,true,true,true,true,true,true,true,true,true,true,true,true,true,true,true,true,true,true,true,true,true,true,true,true,true,true,true,false]) (λa=>Fr a 120 [(3,pb an),(4,pb aD),(9,pb cw),(11,dx),(13,iv eb.1),(14,eu),(15,iv ek.2),(87,(.agg #[aT])),(88,(.agg #[cj,cl,cn,cp])),(89,iv ex),(90,(.agg #[aT])),(91,iv eM),(92,(.bool (ex==eM))),(93,(.bool (ex==eM))),(100,(.bool eP)),(101,(.bool eP)),(102,(.agg #[aT])),(103,(.agg #[cj,cl,cn,cp])),(104,iv eS),(105,(.agg #[aT])),(106,fe),(107,(iv (fc.length:Int))),(108,(.bool (eS==(fc.length:Int)))),(109,(.bool (eS==(fc.length:Int)))),(110,(.bool (eS==(fc.length:Int)))),(119,(.bool fj))]) ?_ ?_
           ·intro a f
            refine q_p 33 34 Z f (λ_=>Bq (f.e Z)) λa f=>A4 λfl w fm m=>Aa (Ar (have m:=m.dp 10;?_))
            obtain rfl:=sj hd
            exact⟨[(.bool fj)],f.g Z,f.d,_,[],(gt ad (gt ak (gt aw (gt bH (gt bN (gt bQ (gt bX (gt ch (gt cz (gt cT (gt di (gt d8 (gt eg (gt es (gt fa (gt fh fm)))))))))))))))),m,Z,Z⟩
           ·intro fo
            rcases Ag fk with⟨fp,fk⟩|⟨fp,fk⟩
            ·refine Bc (i:=24) (ds:=[aT]) 34 2 Bh Z Z Z Z (by kernel_rfl) Z f (Bs f Z Z Z fp) Z Z λa f=>Bc (i:=25) (ds:=[cj,cl,cn,cp]) 34 3 Cd Z Z Z Z (by kernel_rfl) Z f (Bs f Z Z Z fp) Z Z λa f=>As (hw:=wo f fp) 26 34 Z f Z λa f=>Bd fk λfq fs fk=>B4 (i:=27) 34 Z (by kernel_rfl) Z f (Bs f Z Z Z fp) Z Z call20 (λ_ _ w ft m=>(Ow.lendCallR (RI.mono _) 5 (od1 ft cr) m Z (λfu fv m fw=>(Ow.lendCallR (RI.mono _) 5 (od1 fv (od1 ft ct)) m Z (λfx fy m fz=>(Ow.lendCallR (RSl.mono (RI.mono _)) 5 (od3 fy (od3 fv (od3 ft cu))) m Z (λfA fB m fC=>(Ow.lendCallR (RSl.mono (RI.mono _)) 5 (od3 fB (od3 fy (od3 fv (od3 ft cv)))) m Z (λfD fE m fF=>Wk.c hW m (rd2 fE (rd2 fB (rd2 fy (rd2 fv (rd2 ft bL))))) (rd1 fE (rd1 fB (rd1 fy fw))) (rd1 fE (rd1 fB fz)) (rd2 fE fC) fF fs) (λ_ _ _ _ h=>h))) (λ_ _ _ _ h=>h))) (λ_ _ _ _ h=>h))) (λ_ _ _ _ h=>h))) λa f=> ?_
             refine Bc (i:=28) (ds:=[aT]) 34 2 Bh Z Z Z Z (by kernel_rfl) Z f (Bs f Z Z Z fp) Z Z λa f=>As (hw:=wo f fp) 29 34 Z f Z λa f=>Bd fk λfG fH fk=>B4 (i:=30) 34 Z (by kernel_rfl) Z f (Bs f Z Z Z fp) Z Z call21 (λ_ _ w fI m=>Wk.O0 m (rd2 fI bL) fH) λa f=>q_p (hw:=wo f fp) 31 34 Z f (λ_=>BB (f.e Z) (f.e Z) Bf) λa f=>q_p 32 34 Z f (λ_=>AK (f.e Z) fp (f.e Z)) λa f=> ?_
             obtain rfl:=sj fk
             exact fo _ (f.k Z)
            ·refine AA 24 34 Z f fp λa f=>AA 25 34 Z f fp λa f=>AA 26 34 Z f fp λa f=>AA 27 34 Z f fp λa f=>AA 28 34 Z f fp λa f=>AA 29 34 Z f fp λa f=>AA 30 34 Z f fp λa f=>AA 31 34 Z f fp λa f=>q_p 32 34 Z f (λ_=>AI (f.e Z) fp (f.e Z)) λa f=> ?_
             obtain rfl:=sj fk
             exact fo _ (f.k Z)
          ·refine AA 15 34 Z f eR λa f=>AA 16 34 Z f eR λa f=>AA 17 34 Z f eR λa f=>AA 18 34 Z f eR λa f=>AA 19 34 Z f eR λa f=>AA 20 34 Z f eR λa f=>AA 21 34 Z f eR λa f=>q_p 22 34 Z f (λ_=>AI (f.e Z) eR (f.e Z)) λa f=>As 23 34 Z f Z λa f=>AA 24 34 Z f Z λa f=>AA 25 34 Z f Z λa f=>AA 26 34 Z f Z λa f=>AA 27 34 Z f Z λa f=>AA 28 34 Z f Z λa f=>AA 29 34 Z f Z λa f=>AA 30 34 Z f Z λa f=>AA 31 34 Z f Z λa f=>q_p 32 34 Z f (λ_=>AI (f.e Z) Z (f.e Z)) λa f=>q_p 33 34 Z f (λ_=>Bq (f.e Z)) λa f=>A4 λfJ w fK m=>Aa (Ar (have m:=m.dp 9;?_))
           obtain rfl:=sj hd
           exact⟨[(.bool false)],f.g Z,f.d,_,[],(gt ad (gt ak (gt aw (gt bH (gt bN (gt bQ (gt bX (gt ch (gt cz (gt cT (gt di (gt d8 (gt eg (gt es fK)))))))))))))),m,Z,Z⟩
         ·intro fL
          rcases Ag eQ with⟨fM,eQ⟩|⟨fM,eQ⟩
          ·refine Bc (i:=7) (ds:=[aT]) 34 2 Bh Z Z Z Z (by kernel_rfl) Z f (Bs f Z Z Z fM) Z Z λa f=>Bc (i:=8) (ds:=[cj,cl,cn,cp]) 34 3 Cd Z Z Z Z (by kernel_rfl) Z f (Bs f Z Z Z fM) Z Z λa f=>As (hw:=wo f fM) 9 34 Z f Z λa f=>Bd eQ λfN fO eQ=> ?_
           refine B4 (i:=10) 34 Z (by kernel_rfl) Z f (Bs f Z Z Z fM) Z Z call17 (λ_ _ w fP m=>(Ow.lendCallR (RI.mono _) 5 (od1 fP cr) m Z (λfQ fR m fS=>(Ow.lendCallR (RI.mono _) 5 (od1 fR (od1 fP ct)) m Z (λfT fU m fV=>(Ow.lendCallR (RSl.mono (RI.mono _)) 5 (od3 fU (od3 fR (od3 fP cu))) m Z (λfW fX m fY=>(Ow.lendCallR (RSl.mono (RI.mono _)) 5 (od3 fX (od3 fU (od3 fR (od3 fP cv)))) m Z (λfZ f0 m f1=>(Ow.lendCallR (RI.mono _) 4 (od1 f0 (od1 fX (od1 fU (od1 fR (od1 fP d9))))) m Z (λf2 f3 m f4=>Wk.y m (rd2 f3 (rd2 f0 (rd2 fX (rd2 fU (rd2 fR (rd2 fP bL)))))) (rd1 f3 (rd1 f0 (rd1 fX (rd1 fU fS)))) (rd1 f3 (rd1 f0 (rd1 fX fV))) (rd2 f3 (rd2 f0 fY)) (rd2 f3 f1) f4 fO) (λ_ _ _ _ h=>h))) (λ_ _ _ _ h=>h))) (λ_ _ _ _ h=>h))) (λ_ _ _ _ h=>h))) (λ_ _ _ _ h=>h))) λa f=>As (hw:=wo f fM) 11 34 Z f Z λa f=>q_p (hw:=wo f fM) 12 34 Z f (λ_=>BB (f.e Z) (f.e Z) Bf) λa f=> ?_
           refine q_p 13 34 Z f (λ_=>AK (f.e Z) fM (f.e Z)) λa f=> ?_
           obtain rfl:=sj eQ
           exact fL _ (f.k Z)
          ·refine AA 7 34 Z f fM λa f=>AA 8 34 Z f fM λa f=>AA 9 34 Z f fM λa f=>AA 10 34 Z f fM λa f=>AA 11 34 Z f fM λa f=>AA 12 34 Z f fM λa f=>q_p 13 34 Z f (λ_=>AI (f.e Z) fM (f.e Z)) λa f=> ?_
           obtain rfl:=sj eQ
           exact fL _ (f.k Z)
end Go.Proofs.YtljcmdbpfeffcaaGreatDoor

namespace Go.Sx
def opO (op:Int→Int→Int):Option Int→Option Int→Option Int
 |none,b=>b
 |a,none=>a
 |some a,some b=>some (op a b)
structure OpC (op:Int→Int→Int):Prop where
 comm:∀a b,op a b=op b a
 assoc:∀a b c,op (op a b) c=op a (op b c)
section
variable {op : Int → Int → Int} (ho : OpC op)
theorem DS (a:Option Int):opO op a none=a:=by cases a<;>rfl
include ho in
theorem opO_comm (a b:Option Int):opO op a b=opO op b a:=by
 cases a<;>cases b<;>simp[opO,ho.comm]
include ho in
theorem ES (a b c:Option Int):opO op (opO op a b) c=opO op a (opO op b c):=by
 cases a<;>cases b<;>cases c<;>simp[opO,ho.assoc]
def BV {α:Type}(op:Int→Int→Int)(f:α→Option Int):List α→Option Int
 |[]=>none
 |a::l=>opO op (f a) (BV op f l)
theorem ET {α:Type}:∀l:List α,BV op (λ_=>none) l=none
 |[]=>rfl
 |_::l=>by rw[BV,ET l];rfl
theorem Dz {α:Type}{f g:α→Option Int}:∀{l:List α},(∀a∈l,f a=g a)→BV op f l=BV op g l
 |[],_=>rfl
 |a::l,h=>by rw[BV,BV,h a (List.mem_cons_self ..),Dz (l:=l) λb hb=>h b (List.mem_cons_of_mem _ hb)]
include ho in
theorem FR {α:Type}(f:α→Option Int):∀l m:List α,BV op f (l++m)=opO op (BV op f l) (BV op f m)
 |[],m=>by simp[BV,opO]
 |a::l,m=>by rw[List.cons_append,BV,BV,FR f l m,ES ho]
include ho in
theorem GO {α:Type}(f g:α→Option Int):∀l:List α,BV op (λa=>opO op (f a) (g a)) l=opO op (BV op f l) (BV op g l)
 |[]=>rfl
 |a::l=>by
  simp only[BV]
  rw[GO f g l,ES ho,ES ho]
  congr 1
  rw[←ES ho,←ES ho,opO_comm ho (g a)]
include ho in
theorem sumO_swap {α β:Type}(f:α→β→Option Int)(m:List β):∀l:List α,BV op (λa=>BV op (f a) m) l=BV op (λb=>BV op (λa=>f a b) l) m
 |[]=>by simp only[BV];rw[ET]
 |a::l=>by
  simp only[BV]
  rw[sumO_swap f m l,GO ho]
theorem sumO_map {α β:Type}(f:β→Option Int)(g:α→β):∀l:List α,BV op f (l.map g)=BV op (λa=>f (g a)) l
 |[]=>rfl
 |a::l=>by rw[List.map_cons,BV,BV,sumO_map f g l]
include ho in
theorem DX {α β:Type}(f:β→Option Int)(g:α→List β):∀l:List α,BV op f (l.flatMap g)=BV op (λa=>BV op f (g a)) l
 |[]=>rfl
 |a::l=>by rw[List.flatMap_cons,FR ho,BV,DX f g l]
section
variable {K : Type} [DecidableEq K]
def atK (k:K)(p:K×Int):Option Int:=if p.1=k then some p.2 else none
def AS (op:Int→Int→Int)(P:List (K×Int)):K→Option Int:=λk=>BV op (atK k) P
theorem tabF_nil :AS op ([]:List (K×Int))=mf0:=rfl
include ho in
theorem FN (P Q:List (K×Int))(k:K):AS op (P++Q) k=opO op (AS op P k) (AS op Q k):=FR ho _ _ _
include ho in
theorem EZ (P:List (K×Int))(k:K)(x:Int):AS op (P++[(k,x)])=BN (AS op P) k ((opO op (AS op P k) (some x)).getD 0):=by
 funext j
 rw[FN ho]
 unfold BN
 have:AS op [(k,x)] j=if k=j then some x else none:=by
  show opO op (atK j (k,x)) none=_
  rw[DS];rfl
 rw[this]
 by_cases e:j=k
 ·subst e
  rw[if_pos rfl,if_pos rfl]
  cases AS op P j<;>rfl
 ·rw[if_neg (λh=>e h.symm),if_neg e,DS]
theorem Enum.put {F:K→Option Int}{l:List (K×Int)}(h:Enum F l)(k:K)(y:Int):Enum (BN F k y) ((k,y)::l.filter λp=>decide (p.1≠k)):=by
 refine⟨?_,λj z=> ?_⟩
 ·rw[List.map_cons,List.nodup_cons]
  refine⟨λhm=> ?_,h.1.sublist (List.filter_sublist.map _)⟩
  obtain⟨p,hp,e⟩:=List.mem_map.1 hm
  have:=(List.mem_filter.1 hp).2
  rw[decide_eq_true_eq] at this
  exact this e
 ·unfold BN
  rw[List.mem_cons,List.mem_filter,decide_eq_true_eq]
  by_cases e:j=k
  ·subst e
   rw[if_pos rfl]
   constructor
   ·intro h;cases h;exact .inl rfl
   ·rintro(h|⟨_,h⟩)
    ·rw[(Prod.mk.inj h).2]
    ·exact absurd rfl h
  ·rw[if_neg e,h.2]
   constructor
   ·exact λh=> .inr ⟨h,e⟩
   ·rintro(h|⟨h,_⟩)
    ·exact absurd (Prod.mk.inj h).1 e
    ·exact h
include ho in
theorem tabF_enum (P : List (K × Int)) : ∃ l, Enum (AS op P) l := by
  have key : ∀ (P Q : List (K × Int)) (l : List (K × Int)), Enum (AS op Q) l → ∃ l, Enum (AS op (Q ++ P)) l := by
    intro P
    induction P with
    | nil => intro Q l h; exact ⟨l, by rw [List.append_nil]; exact h⟩
    | cons p P ih =>
      intro Q l h
      have := h.put p.1 ((opO op (AS op Q p.1) (some p.2)).getD 0)
      rw [← EZ ho] at this
      obtain ⟨l', h'⟩ := ih (Q ++ [p]) _ this
      exact ⟨l', by rw [List.append_assoc] at h'; exact h'⟩
  exact key P [] [] ⟨by simp, fun k y => by rw [tabF_nil]; simp [mf0]⟩
include ho in
theorem group_sum {P l:List (K×Int)}(hE:Enum (AS op P) l)(Φ:K→Int→Option Int)(hh:∀k a b,Φ k (op a b)=opO op (Φ k a) (Φ k b)):
  BV op (λe=>Φ e.1 e.2) l=BV op (λp=>Φ p.1 p.2) P:=by
 have hg:∀(k:K) (P:List (K×Int)),(AS op P k=none→BV op (λp:K×Int=>if p.1=k then Φ p.1 p.2 else none) P=none)∧∀z,AS op P k=some z→BV op (λp:K×Int=>if p.1=k then Φ p.1 p.2 else none) P=Φ k z:=by
  intro k P
  induction P with
  |nil=>exact⟨λ_=>rfl,λz h=>by cases h⟩
  |cons p P ih=>
   have e1:AS op (p::P) k=opO op (atK k p) (AS op P k):=rfl
   rw[e1,BV]
   by_cases e:p.1=k
   ·rw[if_pos e]
    have e2:atK k p=some p.2:=if_pos e
    rw[e2]
    cases h:AS op P k with
    |none=>
     rw[ih.1 h,DS]
     exact⟨λh=>(by cases h),λz h=>by cases h;rw[DS,e]⟩
    |some y=>
     rw[ih.2 y h]
     exact⟨λh=>(by cases h),λz h=>by cases h;rw[hh,e]⟩
   ·rw[if_neg e]
    have e2:atK k p=none:=if_neg e
    rw[e2]
    exact ih
 have h1:BV op (λe=>Φ e.1 e.2) l=BV op (λe:K×Int=>BV op (λp:K×Int=>if p.1=e.1 then Φ p.1 p.2 else none) P) l:=by
  refine Dz λe he=> ?_
  rw[(hg e.1 P).2 e.2 ((hE.2 e.1 e.2).2 he)]
 rw[h1,sumO_swap ho]
 refine Dz λp hp=> ?_
 have hex:∃y,(p.1,y)∈l:=by
  cases h:AS op P p.1 with
  |some y=>exact⟨y,(hE.2 _ _).1 h⟩
  |none=>
   exfalso
   have:∀(P:List (K×Int)),p∈P→AS op P p.1≠none:=by
    intro P
    induction P with
    |nil=>intro h;cases h
    |cons q P ih=>
     intro hm
     have e1:AS op (q::P) p.1=opO op (atK p.1 q) (AS op P p.1):=rfl
     rw[e1]
     rcases List.mem_cons.1 hm with rfl|hm
     ·rw[show atK p.1 p=some p.2 from if_pos rfl]
      cases AS op P p.1<;>simp[opO]
     ·have:=ih hm
      cases h2:AS op P p.1 with
      |none=>exact absurd h2 this
      |some z=>cases atK p.1 q<;>simp[opO]
   exact this P hp h
 obtain⟨y,hy⟩:=hex
 have hone:∀l:List (K×Int),(l.map (·.1)).Nodup→(p.1,y)∈l→BV op (λa:K×Int=>if p.1=a.1 then Φ p.1 p.2 else none) l=Φ p.1 p.2:=by
  intro l
  induction l with
  |nil=>intro _ h;cases h
  |cons q l ih=>
   intro hn hm
   rw[List.map_cons,List.nodup_cons] at hn
   rw[BV]
   by_cases e:p.1=q.1
   ·rw[if_pos e]
    have:BV op (λa:K×Int=>if p.1=a.1 then Φ p.1 p.2 else none) l=BV op (λ_=>none) l:=Dz λa ha=>by
     rw[if_neg]
     intro h
     exact hn.1 (List.mem_map.2 ⟨a,ha,by rw[←e,h]⟩)
    rw[this,ET,DS]
   ·rw[if_neg e]
    rcases List.mem_cons.1 hm with h|h
    ·exact absurd (by rw[←h]) e
    ·exact ih hn.2 h
 exact hone l hE.1 hy
end
def BS {K K':Type}(em:K→List (K'×(Int→Int)))(e:K×Int):List (K'×Int):=(em e.1).map λc=>(c.1,c.2 e.2)
section
variable {K K' : Type} [DecidableEq K] [DecidableEq K']
include ho in
theorem emit_tab {em:K→List (K'×(Int→Int))}(hom:∀k,∀c∈em k,∀a b,c.2 (op a b)=op (c.2 a) (c.2 b)){P l:List (K×Int)}(hE:Enum (AS op P) l):AS op (l.flatMap (BS em))=AS op (P.flatMap (BS em)):=by
 funext k'
 unfold AS
 rw[DX ho,DX ho]
 have e:∀p:K×Int,BV op (atK k') (BS em p)=BV op (λc:K'×(Int→Int)=>if c.1=k' then some (c.2 p.2) else none) (em p.1):=λp=>sumO_map _ _ _
 simp only[e]
 refine group_sum ho hE (λk x=>BV op (λc:K'×(Int→Int)=>if c.1=k' then some (c.2 x) else none) (em k)) λk a b=> ?_
 rw[←GO ho]
 refine Dz λc hc=> ?_
 by_cases e:c.1=k'
 ·rw[if_pos e,if_pos e,if_pos e,hom k c hc];rfl
 ·rw[if_neg e,if_neg e,if_neg e];rfl
omit [DecidableEq K] in
theorem runs_tab {em:K→List (K'×(Int→Int))}{Q:List (K'×Int)}{body:K×Int→(K'→Option Int)→Option (K'→Option Int)}{l:List (K×Int)}
  (hbody:∀l1 e l2,l=l1++e::l2→body e (AS op (Q++l1.flatMap (BS em)))=some (AS op (Q++(l1.flatMap (BS em)++BS em e)))):
  Ex body l (AS op Q)=some (AS op (Q++l.flatMap (BS em))):=by
 have key:∀l2 l1,l=l1++l2→Ex body l2 (AS op (Q++l1.flatMap (BS em)))=some (AS op (Q++l.flatMap (BS em))):=by
  intro l2
  induction l2 with
  |nil=>intro l1 h;rw[List.append_nil] at h;rw[h];rfl
  |cons e l2 ih=>
   intro l1 h
   rw[Ex,hbody l1 e l2 h,bs]
   have:=ih (l1++[e]) (by rw[h];simp)
   rw[List.flatMap_append,List.flatMap_cons,List.flatMap_nil,List.append_nil] at this
   exact this
 have:=key l [] rfl
 rw[List.flatMap_nil,List.append_nil] at this
 exact this
include ho in
theorem rangeF_tab {em:K→List (K'×(Int→Int))}(hom:∀k,∀c∈em k,∀a b,c.2 (op a b)=op (c.2 a) (c.2 b)){P:List (K×Int)}{Q:List (K'×Int)}{body:K×Int→(K'→Option Int)→Option (K'→Option Int)}
  (hbody:∀l,Enum (AS op P) l→∀l1 e l2,l=l1++e::l2→body e (AS op (Q++l1.flatMap (BS em)))=some (AS op (Q++(l1.flatMap (BS em)++BS em e)))):
  BU (AS op P) body (AS op Q)=some (AS op (Q++P.flatMap (BS em))):=by
 obtain⟨l0,h0⟩:=tabF_enum ho P
 refine rangeF_eq h0 λl hl=> ?_
 rw[runs_tab (hbody l hl)]
 congr 1
 funext k
 rw[FN ho,FN ho,emit_tab ho hom hl]
end
end
end Go.Sx

namespace Go.Sx
end Go.Sx



namespace Go.Sx
def Sh {α:Type}(xs:List α):Prop:=xs.length≤4294967296
theorem Eo (a b c:Int):D.b a b c=some (decide (b≤a)&&decide (a≤c)):=rfl
theorem E7 (a b c:Int):D.t a b c=some (decide (b≤a)&&decide (a≤c)):=rfl
theorem any_beq (xs:LI)(n:Int):xs.any (λx=>x==n)=decide (n∈xs):=by
 rw[Bool.eq_iff_iff,List.any_eq_true];simp
theorem Df (xs:LI)(n:Int)(h:Sh xs):D.f xs n=some (decide (n∈xs)):=by
 unfold Sh at h
 unfold D.f
 refine(GJ xs.length (λi=>xs.getD i 0==n) true (λi hi=> ?_) ?_ rfl rfl).trans ?_
 ·simp only[dlt hi,cT,AC hi,bs,wi' hi (by omega),AH hi]
  cases xs[i]==n<;>rfl
 ·simp only[Be,cF]
 ·rw[EO xs (λx=>x==n) _ (λi hi=>by rw[AH hi]),any_beq]
theorem Hb (xs:LI)(n:Int)(h:Sh xs):D.q0 xs n=some (decide (n∈xs)):=by
 unfold Sh at h
 unfold D.q0 D.J1
 have e:Az (σ:=Int) (ρ:=(Unit) ⊕ (Int)) (fun(x_26:Int)=>cond (decide (x_26<(xs.length:Int))) ((idx xs x_26).bind λe_39=>cond (n==e_39) (some (.inr (.inr x_26))) (some (.inl (IntKind.i64.wrap (x_26+1))))) (some (.inr (.inl ())))) 0=
   some (((List.range xs.length).findSome? (λi=>if xs.getD i 0==n then some (Sum.inr (i:Int)) else none)).getD (.inl ())):=by
  refine Db xs.length _ _ (λi hi=> ?_) ?_
  ·simp only[dlt hi,cT,AC hi,bs,wi' hi (by omega),AH hi]
   rw[show (n==xs[i])=(xs[i]==n) from Bool.beq_comm ..]
   cases xs[i]==n<;>rfl
  ·simp only[Be,cF]
 rw[e,bs]
 cases hf:(List.range xs.length).findSome? (λi=>if xs.getD i 0==n then some (Sum.inr (i:Int):Unit ⊕ Int) else none) with
 |none=>
  have:n∉xs:=λhm=>by
   obtain⟨i,hi,e⟩:=List.getElem_of_mem hm
   have:=(List.findSome?_eq_none_iff.1 hf) i (List.mem_range.2 hi)
   rw[AH hi,e] at this
   simp at this
  simp[this]
 |some r=>
  obtain⟨i,hi,hr⟩:=List.exists_of_findSome?_eq_some hf
  have hi':=List.mem_range.1 hi
  rw[AH hi'] at hr
  split at hr
  ·rename_i hc
   cases hr
   have:n∈xs:=by rw[←(beq_iff_eq.1 hc)];exact List.getElem_mem _
   simp[this]
  ·cases hr
def SetOf (xs:LI)(n:Int):Prop:=Inc xs∧∀x∈xs,0≤x∧x<n
theorem SetOf.len :∀{xs:LI} {n a:Int},Inc xs→(∀x∈xs,a≤x∧x<n)→xs=[]∨(xs.length:Int)≤n-a
 |[],_,_,_,_=> .inl rfl
 |x::xs,n,a,h,hr=>by
  right
  have h':=List.pairwise_cons.1 h
  have hx:=hr x (by simp)
  rcases SetOf.len (a:=x+1) (n:=n) h'.2 (λy hy=>⟨by have:=h'.1 y hy;omega,(hr y (by simp[hy])).2⟩) with e|e
  ·subst e;simp;omega
  ·simp;omega
theorem SetOf.length_le {xs:LI}{n:Int}(h:SetOf xs n)(hn:0≤n):(xs.length:Int)≤n:=by
 rcases SetOf.len h.1 h.2 with e|e
 ·subst e;simpa using hn
 ·omega
theorem inc_iff (xs:LI):Inc xs↔∀i (hi:i+1<xs.length),xs[i]<xs[i+1]:=by
 unfold Inc
 constructor
 ·intro h i hi
  exact List.pairwise_iff_getElem.1 h i (i+1) (by omega) hi (by omega)
 ·intro h
  rw[List.pairwise_iff_getElem]
  intro i j hi hj hij
  have key:∀k,∀hk:i+k+1<xs.length,xs[i]<xs[i+k+1]:=by
   intro k
   induction k with
   |zero=>intro hk;exact h i hk
   |succ k ih=>intro hk;have:=ih (by omega);have:=h (i+k+1) hk;exact Int.lt_trans (ih (by omega)) this
  obtain⟨k,rfl⟩:∃k,j=i+k+1:=⟨j-i-1,by omega⟩
  exact key k hj
def Da (xs:LI)(n:Int):Bool:=(List.range xs.length).all λi=>(decide (0≤xs.getD i 0)&&decide (xs.getD i 0≤n-1))&& !(decide (0<i)&&decide (xs.getD i 0≤xs.getD (i-1) 0))
theorem Dh (xs:LI)(n:Int):Da xs n=true↔SetOf xs n:=by
 unfold Da SetOf
 rw[Cg,inc_iff]
 constructor
 ·intro h
  refine⟨λi hi=> ?_,λx hx=> ?_⟩
  ·have:=h (i+1) hi
   simp[hi,show i<xs.length by omega] at this
   omega
  ·obtain⟨i,hi,rfl⟩:=List.getElem_of_mem hx
   have:=h i hi
   simp[hi] at this
   omega
 ·rintro⟨h1,h2⟩ i hi
  have h3:=h2 _ (List.getElem_mem hi)
  simp[hi]
  refine⟨by omega,?_⟩
  rcases Nat.eq_zero_or_pos i with h0|h0
  ·exact .inl h0
  ·right
   have:=h1 (i-1) (by omega)
   have e:i-1+1=i:=by omega
   simp only[e] at this
   have e2:xs[i-1]?.getD 0=xs[i-1]:=by rw[List.getElem?_eq_getElem (by omega)];rfl
   rw[e2];exact this
theorem Ef (xs:LI)(n:Int)(h:Sh xs)(h0:0≤n)(hn:n≤4294967296):D.R xs n=some (Da xs n):=by
 unfold Sh at h
 unfold D.R
 refine Do xs.length _ false (λi hi=> ?_) ?_ rfl rfl
 ·simp only[dlt hi,cT,AC hi,bs,wi' hi (by omega),AH hi,E7]
  rw[w64 (x:=n-1) (by omega) (by omega)]
  cases (decide (0≤xs[i])&&decide (xs[i]≤n-1))
  ·simp
  ·by_cases h0:0<i
   ·have e1:IntKind.i64.wrap ((i:Int)-1)=((i-1:Nat):Int):=by rw[w64 (by omega) (by omega)];omega
    have hd:decide ((0:Int)<(i:Int))=true:=by simp;omega
    simp only[Bool.not_true,cF,hd,cT,e1,AC (show i-1<xs.length by omega),bs,AH (show i-1<xs.length by omega),h0,decide_true,Bool.true_and]
    cases decide (xs[i]≤xs[i-1])<;>rfl
   ·have hd:decide ((0:Int)<(i:Int))=false:=by simp;omega
    simp only[Bool.not_true,cF,hd,bs,h0,decide_false,Bool.false_and,Bool.not_false,Bool.and_true,if_true]
 ·simp only[Be,cF]
theorem Fy (xs:LI)(n:Int)(h:Sh xs)(h0:0≤n)(hn:n≤4294967296):D.A xs n=some (Da xs n):=by
 have hh:=h
 unfold Sh at h
 unfold D.A
 by_cases hl:n<xs.length
 ·have:Da xs n=false:=by
   cases hb:Da xs n
   ·rfl
   ·have:=((Dh xs n).1 hb).length_le h0;omega
  simp[hl,this]
 ·simp only[hl,decide_false,cF]
  refine Do xs.length _ false (λi hi=> ?_) ?_ rfl rfl
  ·simp only[dlt hi,cT,AC hi,bs,wi' hi (by omega),AH hi,Eo]
   rw[w64 (x:=n-1) (by omega) (by omega)]
   cases (decide (0≤xs[i])&&decide (xs[i]≤n-1))
   ·simp
   ·by_cases h0:0<i
    ·have e1:IntKind.i64.wrap ((i:Int)-1)=((i-1:Nat):Int):=by rw[w64 (by omega) (by omega)];omega
     have hd:decide ((0:Int)<(i:Int))=true:=by simp;omega
     simp only[Bool.not_true,cF,hd,cT,e1,AC (show i-1<xs.length by omega),bs,AH (show i-1<xs.length by omega),h0,decide_true,Bool.true_and]
     cases decide (xs[i]≤xs[i-1])<;>rfl
    ·have hd:decide ((0:Int)<(i:Int))=false:=by simp;omega
     simp only[Bool.not_true,cF,hd,bs,h0,decide_false,Bool.false_and,Bool.not_false,Bool.and_true,if_true]
  ·simp only[Be,cF]
def row (g:LL)(v:Nat):LI:=g.getD v []
theorem DN {g:LL}{v:Nat}(h:v<g.length):row g v=g[v]:=AH h _
def adj (g:LL)(u v:Nat):Prop:=(v:Int)∈row g u
structure GOk (g:LL):Prop where
 n1:1≤g.length
 n16:g.length≤16
 rows:∀v,v<g.length→SetOf (row g v) g.length
 irr:∀v,v<g.length→¬adj g v v
 sym:∀u v,u<g.length→adj g u v→adj g v u
theorem GOk.mem {g:LL}(h:GOk g){u:Nat}(hu:u<g.length){x:Int}(hx:x∈row g u):∃v:Nat,x=v∧v<g.length∧adj g u v:=by
 have:=(h.rows u hu).2 x hx
 refine⟨x.toNat,by omega,by omega,?_⟩
 unfold adj
 rw[show ((x.toNat:Nat):Int)=x by omega];exact hx
theorem GOk.row_len {g:LL}(h:GOk g){u:Nat}(hu:u<g.length):(row g u).length≤16:=by
 have:=(h.rows u hu).length_le (by omega)
 have:=h.n16
 omega
theorem GOk.lt {g:LL}(h:GOk g){u v:Nat}(hu:u<g.length)(ha:adj g u v):v<g.length:=by
 obtain⟨w,h1,h2,_⟩:=h.mem hu ha
 omega
def Sh2 (g:LL):Prop:=Sh g∧∀r∈g,Sh r
theorem Sh2.row {g:LL}(h:Sh2 g){v:Nat}(hv:v<g.length):Sh (row g v):=by
 rw[DN hv];exact h.2 _ (List.getElem_mem hv)
theorem CZ {g:LL}{v:Nat}(h:v<g.length):idx g (v:Int)=some (row g v):=by rw[DN h,AC h]
def gB1 (g:LL):Bool:=(List.range g.length).all λv=>Da (row g v) g.length&& !decide ((v:Int)∈row g v)
def gB2 (g:LL):Bool:=(List.range g.length).all λv=>(row g v).all λx=>decide ((v:Int)∈row g x.toNat)
def gB (g:LL):Bool:=decide (1≤g.length)&&decide (g.length≤16)&&gB1 g&&gB2 g
theorem FY (g:LL):gB g=true↔GOk g:=by
 unfold gB gB1 gB2
 simp only[Bool.and_eq_true,decide_eq_true_eq,Dh,Bool.not_eq_true',decide_eq_false_iff_not,List.all_eq_true,List.mem_range]
 constructor
 ·rintro⟨⟨⟨h1,h2⟩,h3⟩,h4⟩
  refine⟨h1,h2,λv hv=>(h3 v hv).1,λv hv=>(h3 v hv).2,λu v hu ha=> ?_⟩
  have:=h4 u hu v ha
  unfold adj
  simpa using this
 ·intro h
  refine⟨⟨⟨h.n1,h.n16⟩,λv hv=>⟨h.rows v hv,h.irr v hv⟩⟩,λv hv x hx=> ?_⟩
  obtain⟨u,rfl,hu,ha⟩:=h.mem hv hx
  have:=h.sym v u hv ha
  simpa [adj] using this
theorem CY (g:LL)(h:Sh2 g):D.r g=some (gB g):=by
 have hl:g.length≤4294967296:=h.1
 unfold D.r D.d
 simp only[bs,Eo]
 by_cases hn:1≤g.length∧g.length≤16
 ·have e:(decide ((1:Int)≤(g.length:Int))&&decide ((g.length:Int)≤16))=true:=by simp;omega
  simp only[e,Bool.not_true,cF]
  refine(C7 g.length (λv=>Da (row g v) g.length&& !decide ((v:Int)∈row g v)) (.inl ()) (.inr false) (λv hv=> ?_) ?_).trans ?_
  rotate_left
  ·simp only[Be,cF]
  ·show cond (gB1 g) _ _=_
   have e4:gB g=(gB1 g&&gB2 g):=by unfold gB;simp[hn.1,hn.2]
   rw[e4]
   cases hc:gB1 g with
   |false=>rfl
   |true=>
    rw[cT,Bool.true_and]
    refine Do g.length _ false (λv hv=> ?_) ?_ rfl rfl
    ·have hset:SetOf (row g v) g.length:=by
      have:=(Cg _ _).1 hc v hv
      simp only[Bool.and_eq_true] at this
      exact(Dh _ _).1 this.1
     simp only[dlt hv,cT]
     refine(C7 (row g v).length (λi=>decide ((v:Int)∈row g ((row g v).getD i 0).toNat)) (.inl ()) (.inr false) (λi hi=> ?_) ?_).trans ?_
     ·have hx:=hset.2 _ (List.getElem_mem hi)
      have e5:idx g (row g v)[i]=some (row g ((row g v)[i]).toNat):=by
       have:=CZ (g:=g) (v:=((row g v)[i]).toNat) (by omega)
       rwa [show ((((row g v)[i]).toNat:Nat):Int)=(row g v)[i] by omega] at this
      have hs:=h.row (v:=((row g v)[i]).toNat) (by omega)
      simp only[CZ hv,bs,dlt hi,cT,AC hi,e5,Df _ _ hs,wi (show i<4611686018427387904 by have:=h.row hv;unfold Sh at this;omega),AH hi]
      cases decide ((v:Int)∈row g ((row g v)[i]).toNat)<;>rfl
     ·simp only[CZ hv,bs,Be,cF]
     ·rw[Dq (row g v) (λx=>decide ((v:Int)∈row g x.toNat)) _ (λi hi=>by rw[AH hi]),wi' hv (by omega)]
      cases (row g v).all λx=>decide ((v:Int)∈row g x.toNat)<;>rfl
    ·simp only[Be,cF]
  ·simp only[dlt hv,cT,CZ hv,bs,Fy _ _ (h.row hv) (show (0:Int)≤(g.length:Int) by omega) (by omega),Df _ _ (h.row hv),wi' hv (by omega)]
   cases Da (row g v) g.length
   ·rfl
   ·cases decide ((v:Int)∈row g v)<;>rfl
 ·have e:(decide ((1:Int)≤(g.length:Int))&&decide ((g.length:Int)≤16))=false:=by
   rw[Bool.eq_false_iff];simp;omega
  simp only[e,Bool.not_false,cT]
  unfold gB
  congr 1
  symm
  rw[Bool.eq_false_iff]
  simp
  omega
theorem FK (g:LL)(h:Sh2 g):D.w0 g=some (gB g):=by
 have hl:g.length≤4294967296:=h.1
 unfold D.w0
 by_cases hn:1≤g.length∧g.length≤16
 ·have e:(decide ((g.length:Int)<(1:Int))||decide ((16:Int)<(g.length:Int)))=false:=by simp;omega
  simp only[e,cF]
  refine(C7 g.length (λv=>Da (row g v) g.length&& !decide ((v:Int)∈row g v)) (.inl ()) (.inr false) (λv hv=> ?_) ?_).trans ?_
  rotate_left
  ·simp only[Be,cF]
  ·show cond (gB1 g) _ _=_
   have e4:gB g=(gB1 g&&gB2 g):=by unfold gB;simp[hn.1,hn.2]
   rw[e4]
   cases hc:gB1 g with
   |false=>rfl
   |true=>
    rw[cT,Bool.true_and]
    refine Do g.length _ false (λv hv=> ?_) ?_ rfl rfl
    ·have hset:SetOf (row g v) g.length:=by
      have:=(Cg _ _).1 hc v hv
      simp only[Bool.and_eq_true] at this
      exact(Dh _ _).1 this.1
     simp only[dlt hv,cT,CZ hv,bs]
     refine(C7 (row g v).length (λi=>decide ((v:Int)∈row g ((row g v).getD i 0).toNat)) (.inl ()) (.inr false) (λi hi=> ?_) ?_).trans ?_
     ·have hx:=hset.2 _ (List.getElem_mem hi)
      have e5:idx g (row g v)[i]=some (row g ((row g v)[i]).toNat):=by
       have:=CZ (g:=g) (v:=((row g v)[i]).toNat) (by omega)
       rwa [show ((((row g v)[i]).toNat:Nat):Int)=(row g v)[i] by omega] at this
      have hs:=h.row (v:=((row g v)[i]).toNat) (by omega)
      simp only[bs,dlt hi,cT,AC hi,e5,Hb _ _ hs,wi (show i<4611686018427387904 by have:=h.row hv;unfold Sh at this;omega),AH hi]
      cases decide ((v:Int)∈row g ((row g v)[i]).toNat)<;>rfl
     ·simp only[Be,cF]
     ·rw[Dq (row g v) (λx=>decide ((v:Int)∈row g x.toNat)) _ (λi hi=>by rw[AH hi]),wi' hv (by omega)]
      cases (row g v).all λx=>decide ((v:Int)∈row g x.toNat)<;>rfl
    ·simp only[Be,cF]
  ·simp only[dlt hv,cT,CZ hv,bs,Ef _ _ (h.row hv) (show (0:Int)≤(g.length:Int) by omega) (by omega),Hb _ _ (h.row hv),wi' hv (by omega)]
   cases Da (row g v) g.length
   ·rfl
   ·cases decide ((v:Int)∈row g v)<;>rfl
 ·have e:(decide ((g.length:Int)<(1:Int))||decide ((16:Int)<(g.length:Int)))=true:=by
   simp;omega
  simp only[e,cT]
  unfold gB
  congr 1
  symm
  rw[Bool.eq_false_iff]
  simp
  omega
end Go.Sx
