/- Parts of the proof: WAW, WBW, WCW, SxMp, QHandW, QHandT, QHandO. -/
import Derived.Test.YtkffjeaefgfnnaaGreatDoorWi2
import Derived.Test.YtkffjeaefgfnnaaGreatDoorProg
import Derived.KernelRfl
set_option linter.unusedVariables false
set_option linter.unusedSimpArgs false
set_option linter.unusedSectionVars false
set_option maxRecDepth 100000
namespace Go.Proofs.YtkffjeaefgfnnaaGreatDoor
open Go Go.Sx
theorem AJ :Tryz.prog.follows .mixedOrders=true:=by kernel_rfl
theorem Pl2 :BV Tryz.prog 2:=Tryz.isAgg2
theorem T31 :SlT Tryz.prog 31 2 1 8 (.int .i64 0):=⟨Tryz.underlying31,Tryz.t2,by kernel_rfl,by kernel_rfl,by kernel_rfl,by kernel_rfl⟩
theorem Pl5 :BV Tryz.prog 5:=Tryz.isAgg5
theorem Pl148 :BV Tryz.prog 148:=Tryz.isAgg148
theorem T27 :SlT Tryz.prog 27 31 1 24 (.slice none 0 0):=⟨Tryz.underlying27,Tryz.t31,by kernel_rfl,by kernel_rfl,by kernel_rfl,by kernel_rfl⟩
theorem T60 :SlT Tryz.prog 60 65 1 4 (.int .u32 0):=⟨Tryz.underlying60,Tryz.t65,by kernel_rfl,by kernel_rfl,by kernel_rfl,by kernel_rfl⟩
theorem Wk.h1 {W w:World}{G:GH}{H:List Itm}{v0:Value}{x0:(List Int)}{x1:Int}(m:Mem W G w (H))(h0:RSl (RI .i64) G v0 x0){y:Int}(hd:D.h1 x0 x1=some y):
  Calls Tryz.prog 124 #[v0,(.int .i64 x1)] w (Res W G H (fun _ Ho v=>Ho=[]∧v=(.int .i64 y))):=by
 refine Ar (args:=[v0,(.int .i64 x1)]) (N:=19) [.tmp 4] Tryz.func124 Z Z (Nat.le_of_ble_eq_true Z) Z fun a f=> ?_
 unfold D.h1 at hd
 refine Ac ?_
 refine Ad f Z fun a f=>Aa (Af (Ac ?_))
 refine Ab f Z fun a f=>AX Tryz.underlying31 f Z Z h0 fun a f=>Ab f Z fun a f=>Aa ?_
 obtain⟨aa,ab,hd⟩:=bind_some hd
 refine AE (fun a w=>∃q_19':Unit,aa= .inl q_19'∧∃(ac:GH),GLe G ac∧Fr a 19 []∧Mem W ac w (H)) ?_ ?_
 ·refine Ai ?_
  refine AB (fun ad a w=>∃ae:Int,ae=ad∧∃(af:GH),GLe G af∧Fr a 19 [(0,v0),(1,(.int .i64 x1)),(7,(.int .i64 (x0.length:Int))),(8,(.int .i64 ae))]∧Mem W af w (H)) ab ⟨_,Z,_,gr,f.k Z,m⟩ ?_
  clear ab f m
  rintro ad ag ah ai a w ⟨ae,rfl,af,aj,f,m⟩
  have h0:=rd1 aj h0
  refine Ac ?_
  refine Ag f Z Z AD fun a f=>Aa (Af ?_)
  rcases Ae ah with⟨ak,ah⟩|⟨ak,ah⟩
  ·refine Am f Z ak ?_
   refine An ?_
   refine Af (Ai (Ac ?_))
   refine Ab f Z fun a f=>Ad f Z fun a f=>Aa (Ac ?_)
   refine Ab f Z fun a f=>Ab f Z fun a f=>Ab f Z fun a f=> ?_
   obtain⟨al,am,ah⟩:=bind_some ah
   refine Bb T31 f Z Z Z h0 am fun an ao a ap aq f=> ?_
   subst aq
   refine Az m Pl2 f Z Z ap fun a f=>Ag f Z Z BG fun a f=>Aa ?_
   rcases Ae ah with⟨ar,ah⟩|⟨ar,ah⟩
   ·refine Am f Z ar ?_
    refine Ac ?_
    refine Ab f Z fun a f=>Ad f Z fun a f=>Aa ?_
    refine Ap ?_
    obtain rfl:=sj ah
    obtain rfl:=ai _ rfl
    obtain rfl:=sj hd
    exact⟨[(.int .i64 ae)],⟨f.get _ _ Z,trivial⟩,f.defers,_,[],aj,m,Z,Z⟩
   ·refine Ah f Z ar ?_
    refine An ?_
    refine Aj ?_
    refine Ag f Z Z As fun a f=>Ab f Z fun a f=>Aa ?_
    obtain rfl:=sj ah
    exact⟨_,Z,_,Z,_,aj,f.k Z,m⟩
  ·refine Ah f Z ak ?_
   refine Ax Z ?_
   obtain rfl:=sj ah
   obtain rfl:=ai _ rfl
   exact⟨_,Z,_,aj,f.weak trivial,m⟩
 ·rintro a w ⟨_,rfl,ac,au,f,m⟩
  refine Ac ?_
  refine Ad f Z fun a f=>Aa ?_
  refine Ap ?_
  obtain rfl:=sj hd
  exact⟨[(.int .i64 (-1))],⟨f.get _ _ Z,trivial⟩,f.defers,_,[],au,m,Z,Z⟩
theorem Wk.O {W w:World}{G:GH}{H:List Itm}{v0:Value}{x0:(List Int)}{x1:Int}(m:Mem W G w (H))(h0:RSl (RI .i64) G v0 x0){y:Bool}(hd:D.O x0 x1=some y):
  Calls Tryz.prog 105 #[v0,(.int .i64 x1)] w (Res W G H (fun _ Ho v=>Ho=[]∧v=(.bool y))):=by
 refine Ar (args:=[v0,(.int .i64 x1)]) (N:=9) [.tmp 4] Tryz.func105 Z Z (Nat.le_of_ble_eq_true Z) Z fun a f=> ?_
 unfold D.O at hd
 refine Ac ?_
 refine Ad f Z fun a f=>Aa (Ac ?_)
 refine Ab f Z fun a f=>Ab f Z fun a f=> ?_
 obtain⟨aa,ab,hd⟩:=bind_some hd
 refine AY f Z Tryz.call124 (Wk.h1 m h0 ab) fun ac w ad m a f=> ?_
 have h0:=rd1 ad h0
 refine Ag f Z Z Ck fun a f=>Ad f Z fun a f=>Aa ?_
 refine Ap ?_
 obtain rfl:=sj hd
 exact⟨[(.bool (decide ((0:Int)≤aa)))],⟨f.get _ _ Z,trivial⟩,f.defers,_,[],ad,m,Z,Z⟩
theorem Wk.k1 {W w:World}{G:GH}{H:List Itm}{x0:Int}(hW:Cs W)(m:Mem W G w (H)){y:Int}(hd:D.k1 x0=some y):
  Calls Tryz.prog 125 #[(.int .u32 x0)] w (Res W G H (fun _ Ho v=>Ho=[]∧v=(.int .i64 y))):=by
 refine Ar (args:=[(.int .u32 x0)]) (N:=14) [.tmp 2] Tryz.func125 Z Z (Nat.le_of_ble_eq_true Z) Z fun a f=> ?_
 unfold D.k1 at hd
 refine Ac ?_
 refine Ad f Z fun a f=>Aa (Af (Ac ?_))
 refine Ab f Z fun a f=>Ag f Z Z BG fun a f=>Aa ?_
 rcases Ae hd with⟨aa,hd⟩|⟨aa,hd⟩
 ·refine Am f Z aa ?_
  refine Ac ?_
  refine Ad f Z fun a f=>Aa ?_
  refine Ap ?_
  obtain rfl:=sj hd
  exact⟨[(.int .i64 32)],⟨f.get _ _ Z,trivial⟩,f.defers,_,[],gr,m,Z,Z⟩
 ·refine Ah f Z aa ?_
  refine An ?_
  refine Ac ?_
  refine Ab f Z fun a f=>Ab f Z fun a f=>l_o f (r_neg (f.eval Z)) fun a f=>Ag f Z Z D8 fun a f=>Ag f Z Z Dj fun a f=>l_o f (r_shr (f.eval Z) (f.eval Z) (by decide)) fun a f=> ?_
  obtain⟨ab,ac,hd⟩:=bind_some hd
  refine l_tab hW m Tryz.underlying147 Tryz.sizeOf5 f Z Z ac fun ad a ae f=>Az m Pl5 f Z Z ae fun a f=>l_o f (Di (f.eval Z) ⟨_,Tryz.underlying5⟩ Tryz.underlying3) fun a f=>Ad f Z fun a f=>Aa ?_
  refine Ap ?_
  obtain rfl:=sj hd
  exact⟨[(.int .i64 (IntKind.i64.wrap ab))],⟨f.get _ _ Z,trivial⟩,f.defers,_,[],gr,m,Z,Z⟩
theorem Wk.I0 {W w:World}{G:GH}{H:List Itm}{x0:Int}(m:Mem W G w (H)){y:Int}(hd:D.I0 x0=some y):
  Calls Tryz.prog 120 #[(.int .u32 x0)] w (Res W G H (fun _ Ho v=>Ho=[]∧v=(.int .i64 y))):=by
 refine Ar (args:=[(.int .u32 x0)]) (N:=21) [.tmp 2] Tryz.func120 Z Z (Nat.le_of_ble_eq_true Z) Z fun a f=> ?_
 unfold D.I0 at hd
 refine Ac ?_
 refine Ad f Z fun a f=>Aa (Af ?_)
 refine A7 19 AJ (by kernel_rfl) m ?_
 refine Ak 0 19 Z f Z fun a f=>q_p 1 19 Z f (fun _=>r_shr (f.eval Z) (f.eval Z) (by decide)) fun a f=> ?_
 obtain⟨aa,ab,hd⟩:=bind_some hd
 refine q_p 2 19 Z f (fun _=>FJ (f.eval Z) (f.eval Z) Tryz.underlying9 ab) fun a f=>Ak 3 19 Z f Z fun a f=>q_p 4 19 Z f (fun _=>r_shr (f.eval Z) (f.eval Z) (by decide)) fun a f=>q_p 5 19 Z f (fun _=>AL (f.eval Z) (f.eval Z) D8) fun a f=> ?_
 obtain⟨ac,ad,hd⟩:=bind_some hd
 refine q_p 6 19 Z f (fun _=>FJ (f.eval Z) (f.eval Z) Tryz.underlying9 ad) fun a f=>q_p 7 19 Z f (fun _=>AL (f.eval Z) (f.eval Z) As) fun a f=>Ak 8 19 Z f Z fun a f=>q_p 9 19 Z f (fun _=>r_shr (f.eval Z) (f.eval Z) (by decide)) fun a f=>q_p 10 19 Z f (fun _=>AL (f.eval Z) (f.eval Z) D8) fun a f=> ?_
 obtain⟨ae,af,hd⟩:=bind_some hd
 refine q_p 11 19 Z f (fun _=>FJ (f.eval Z) (f.eval Z) Tryz.underlying9 af) fun a f=>q_p 12 19 Z f (fun _=>AL (f.eval Z) (f.eval Z) As) fun a f=>Ak 13 19 Z f Z fun a f=>q_p 14 19 Z f (fun _=>AL (f.eval Z) (f.eval Z) D8) fun a f=> ?_
 obtain⟨ag,ah,hd⟩:=bind_some hd
 refine q_p 15 19 Z f (fun _=>FJ (f.eval Z) (f.eval Z) Tryz.underlying9 ah) fun a f=>q_p 16 19 Z f (fun _=>AL (f.eval Z) (f.eval Z) As) fun a f=>q_p 17 19 Z f (fun _=>Di (f.eval Z) ⟨_,Tryz.underlying5⟩ Tryz.underlying3) fun a f=>q_p 18 19 Z f (fun _=>BD (f.eval Z)) fun a f=>AV fun ai w aj m=>Aa ?_
 refine Ap ?_
 obtain rfl:=sj hd
 exact⟨[(.int .i64 (IntKind.i64.wrap (IntKind.u8.wrap ((IntKind.u8.wrap ((IntKind.u8.wrap (aa+ac))+ae))+ag))))],⟨f.get _ _ Z,trivial⟩,f.defers,_,[],aj,m,Z,Z⟩
theorem Wk.C {W w:World}{G:GH}{H:List Itm}{x0:Int}(m:Mem W G w (H)){y:Int}(hd:D.C x0=some y):
  Calls Tryz.prog 138 #[(.int .i64 x0)] w (Res W G H (fun _ Ho v=>Ho=[]∧v=(.int .u64 y))):=by
 refine Ar (args:=[(.int .i64 x0)]) (N:=7) [.tmp 2] Tryz.func138 Z Z (Nat.le_of_ble_eq_true Z) Z fun a f=> ?_
 unfold D.C at hd
 refine Ac ?_
 refine Ad f Z fun a f=>Aa (Ac ?_)
 refine Ab f Z fun a f=>l_o f (Di (f.eval Z) ⟨_,Tryz.underlying3⟩ Tryz.underlying95) fun a f=> ?_
 obtain⟨aa,ab,hd⟩:=bind_some hd
 refine AF f Z Tryz.call109 (Wk.v m ab) fun ac ad ae w af m ag a f=> ?_
 obtain⟨rfl,rfl⟩:=ag
 obtain⟨ah,hd⟩:=DS hd
 refine l_o f (r_shl (f.eval Z) (f.eval Z) ah) fun a f=>Ad f Z fun a f=>Aa ?_
 refine Ap ?_
 obtain rfl:=sj hd
 exact⟨[(.int .u64 (ishl .u64 1 aa))],⟨f.get _ _ Z,trivial⟩,f.defers,_,[],af,m,Z,Z⟩
theorem Wk.N {W w:World}{G:GH}{H:List Itm}{b0:Nat}{x0_0:Int}(m:Mem W G w (Itm.box b0 148 [(.int .u64 x0_0)]::H)){y:Int×Int}(hd:D.N x0_0=some y):
  Calls Tryz.prog 139 #[(.pointer (some ⟨b0,0,none⟩))] w (Res W G H (fun _ Ho v=>Ho=[Itm.box b0 148 [(.int .u64 y.2)]]∧v=(.int .u64 y.1))):=by
 refine Ar (args:=[(.pointer (some ⟨b0,0,none⟩))]) (N:=33) [.tmp 2] Tryz.func139 Z Z (Nat.le_of_ble_eq_true Z) Z fun a f=> ?_
 unfold D.N at hd
 refine Ac ?_
 refine Ad f Z fun a f=>Aa (Af ?_)
 refine A7 9 AJ (by kernel_rfl) m ?_
 refine Ak 0 9 Z f Z fun a f=>q_p 1 9 Z f (fun _=>A9 (f.eval Z)) fun a f=>BS 2 9 0 Pl148 Z Z Z f Z fun a f=>Ak 3 9 Z f Z fun a f=>q_p 4 9 Z f (fun _=>A9 (f.eval Z)) fun a f=>BS 5 9 0 Pl148 Z Z Z f Z fun a f=>q_p 6 9 Z f (fun _=>r_shl (f.eval Z) (f.eval Z) (by decide)) fun a f=>q_p 7 9 Z f (fun _=>AL (f.eval Z) (f.eval Z) b_xor) fun a f=>q_p 8 9 Z f (fun _=>A9 (f.eval Z)) fun a f=>AV fun aa w ab m=>AR 0 0 (ds:=[(.int .u64 (A2 .u64 x0_0 (ishl .u64 x0_0 13)))]) m Tryz.sizeOf148 f Z Z Z (AM Z A6) Z (Nat.le_of_ble_eq_true Z) Z fun w m=>Aa (Af ?_)
 refine A7 9 AJ (by kernel_rfl) m ?_
 refine Ak 0 9 Z f Z fun a f=>q_p 1 9 Z f (fun _=>A9 (f.eval Z)) fun a f=>BS 2 9 0 Pl148 Z Z Z f Z fun a f=>Ak 3 9 Z f Z fun a f=>q_p 4 9 Z f (fun _=>A9 (f.eval Z)) fun a f=>BS 5 9 0 Pl148 Z Z Z f Z fun a f=>q_p 6 9 Z f (fun _=>r_shr (f.eval Z) (f.eval Z) (by decide)) fun a f=>q_p 7 9 Z f (fun _=>AL (f.eval Z) (f.eval Z) b_xor) fun a f=>q_p 8 9 Z f (fun _=>A9 (f.eval Z)) fun a f=>AV fun ac w ad m=>AR 0 0 (ds:=[(.int .u64 (A2 .u64 (A2 .u64 x0_0 (ishl .u64 x0_0 13)) (Bz .u64 (A2 .u64 x0_0 (ishl .u64 x0_0 13)) 7)))]) m Tryz.sizeOf148 f Z Z Z (AM Z A6) Z (Nat.le_of_ble_eq_true Z) Z fun w m=>Aa (Af ?_)
 refine A7 9 AJ (by kernel_rfl) m ?_
 refine Ak 0 9 Z f Z fun a f=>q_p 1 9 Z f (fun _=>A9 (f.eval Z)) fun a f=>BS 2 9 0 Pl148 Z Z Z f Z fun a f=>Ak 3 9 Z f Z fun a f=>q_p 4 9 Z f (fun _=>A9 (f.eval Z)) fun a f=>BS 5 9 0 Pl148 Z Z Z f Z fun a f=>q_p 6 9 Z f (fun _=>r_shl (f.eval Z) (f.eval Z) (by decide)) fun a f=>q_p 7 9 Z f (fun _=>AL (f.eval Z) (f.eval Z) b_xor) fun a f=>q_p 8 9 Z f (fun _=>A9 (f.eval Z)) fun a f=>AV fun ae w af m=>AR 0 0 (ds:=[(.int .u64 (A2 .u64 (A2 .u64 (A2 .u64 x0_0 (ishl .u64 x0_0 13)) (Bz .u64 (A2 .u64 x0_0 (ishl .u64 x0_0 13)) 7)) (ishl .u64 (A2 .u64 (A2 .u64 x0_0 (ishl .u64 x0_0 13)) (Bz .u64 (A2 .u64 x0_0 (ishl .u64 x0_0 13)) 7)) 17)))]) m Tryz.sizeOf148 f Z Z Z (AM Z A6) Z (Nat.le_of_ble_eq_true Z) Z fun w m=>Aa (Ac ?_)
 refine Ab f Z fun a f=>l_o f (A9 (f.eval Z)) fun a f=>AG 0 0 m Pl148 f Z Z Z Z fun a f=>Ad f Z fun a f=>Aa ?_
 refine Ap ?_
 obtain rfl:=sj hd
 exact⟨[(.int .u64 (A2 .u64 (A2 .u64 (A2 .u64 x0_0 (ishl .u64 x0_0 13)) (Bz .u64 (A2 .u64 x0_0 (ishl .u64 x0_0 13)) 7)) (ishl .u64 (A2 .u64 (A2 .u64 x0_0 (ishl .u64 x0_0 13)) (Bz .u64 (A2 .u64 x0_0 (ishl .u64 x0_0 13)) 7)) 17)))],⟨f.get _ _ Z,trivial⟩,f.defers,_,[Itm.box b0 148 [(.int .u64 (A2 .u64 (A2 .u64 (A2 .u64 x0_0 (ishl .u64 x0_0 13)) (Bz .u64 (A2 .u64 x0_0 (ishl .u64 x0_0 13)) 7)) (ishl .u64 (A2 .u64 (A2 .u64 x0_0 (ishl .u64 x0_0 13)) (Bz .u64 (A2 .u64 x0_0 (ishl .u64 x0_0 13)) 7)) 17)))]],(gt ab (gt ad af)),m,Z,Z⟩
theorem Wk.w {W w:World}{G:GH}{H:List Itm}{x0:Int}(m:Mem W G w (H)){y:Bool}(hd:D.w x0=some y):
  Calls Tryz.prog 136 #[(.int .i64 x0)] w (Res W G H (fun _ Ho v=>Ho=[]∧v=(.bool y))):=by
 refine Ar (args:=[(.int .i64 x0)]) (N:=6) [.tmp 2] Tryz.func136 Z Z (Nat.le_of_ble_eq_true Z) Z fun a f=> ?_
 unfold D.w at hd
 refine Ac ?_
 refine Ad f Z fun a f=>Aa (Ac ?_)
 refine Ab f Z fun a f=>Ab f Z fun a f=>Ag f Z Z CS fun a f=>Ad f Z fun a f=>Aa ?_
 refine Ap ?_
 obtain rfl:=sj hd
 exact⟨[(.bool (x0 !=x0))],⟨f.get _ _ Z,trivial⟩,f.defers,_,[],gr,m,Z,Z⟩
theorem Wk.r0 {W w:World}{G:GH}{H:List Itm}{x0:Int}{x1:Int}(m:Mem W G w (H)){y:Int}(hd:D.r0 x0 x1=some y):
  Calls Tryz.prog 110 #[(.int .i64 x0),(.int .i64 x1)] w (Res W G H (fun _ Ho v=>Ho=[]∧v=(.int .i64 y))):=by
 refine Ar (args:=[(.int .i64 x0),(.int .i64 x1)]) (N:=20) [.tmp 4] Tryz.func110 Z Z (Nat.le_of_ble_eq_true Z) Z fun a f=> ?_
 unfold D.r0 at hd
 refine Ac ?_
 refine Ad f Z fun a f=>Aa (Ac ?_)
 refine Ab f Z fun a f=> ?_
 obtain⟨aa,ab,hd⟩:=bind_some hd
 refine AY f Z Tryz.call136 (Wk.w m ab) fun ac w ad m a f=>Ad f Z fun a f=>Aa (Ac ?_)
 refine Ab f Z fun a f=> ?_
 obtain⟨ae,af,hd⟩:=bind_some hd
 refine AY f Z Tryz.call136 (Wk.w m af) fun ag w ah m a f=>Ad f Z fun a f=>Aa (Af (Ac ?_))
 refine Ab f Z fun a f=>Aa ?_
 rcases Ae hd with⟨ai,hd⟩|⟨ai,hd⟩
 ·refine Am f Z ai ?_
  refine Af (Ac ?_)
  refine Ab f Z fun a f=>Aa ?_
  rcases Ae hd with⟨aj,hd⟩|⟨aj,hd⟩
  ·refine Am f Z aj ?_
   refine Ac ?_
   refine Ad f Z fun a f=>Aa ?_
   refine Ap ?_
   obtain rfl:=sj hd
   exact⟨[(.int .i64 0)],⟨f.get _ _ Z,trivial⟩,f.defers,_,[],(gt ad ah),m,Z,Z⟩
  ·refine Ah f Z aj ?_
   refine An ?_
   refine Ac ?_
   refine Ad f Z fun a f=>Aa ?_
   refine Ap ?_
   obtain rfl:=sj hd
   exact⟨[(.int .i64 (-1))],⟨f.get _ _ Z,trivial⟩,f.defers,_,[],(gt ad ah),m,Z,Z⟩
 ·refine Ah f Z ai ?_
  refine An ?_
  refine Af (Ac ?_)
  refine Ab f Z fun a f=>Aa ?_
  rcases Ae hd with⟨ak,hd⟩|⟨ak,hd⟩
  ·refine Am f Z ak ?_
   refine Ac ?_
   refine Ad f Z fun a f=>Aa ?_
   refine Ap ?_
   obtain rfl:=sj hd
   exact⟨[(.int .i64 1)],⟨f.get _ _ Z,trivial⟩,f.defers,_,[],(gt ad ah),m,Z,Z⟩
  ·refine Ah f Z ak ?_
   refine An ?_
   refine Af (Ac ?_)
   refine Ab f Z fun a f=>Ab f Z fun a f=>Ag f Z Z AD fun a f=>Aa ?_
   rcases Ae hd with⟨al,hd⟩|⟨al,hd⟩
   ·refine Am f Z al ?_
    refine Ac ?_
    refine Ad f Z fun a f=>Aa ?_
    refine Ap ?_
    obtain rfl:=sj hd
    exact⟨[(.int .i64 (-1))],⟨f.get _ _ Z,trivial⟩,f.defers,_,[],(gt ad ah),m,Z,Z⟩
   ·refine Ah f Z al ?_
    refine An ?_
    refine Af (Ac ?_)
    refine Ab f Z fun a f=>Ab f Z fun a f=>Ag f Z Z Cc fun a f=>Aa ?_
    rcases Ae hd with⟨am,hd⟩|⟨am,hd⟩
    ·refine Am f Z am ?_
     refine Ac ?_
     refine Ad f Z fun a f=>Aa ?_
     refine Ap ?_
     obtain rfl:=sj hd
     exact⟨[(.int .i64 1)],⟨f.get _ _ Z,trivial⟩,f.defers,_,[],(gt ad ah),m,Z,Z⟩
    ·refine Ah f Z am ?_
     refine An ?_
     refine Ac ?_
     refine Ad f Z fun a f=>Aa ?_
     refine Ap ?_
     obtain rfl:=sj hd
     exact⟨[(.int .i64 0)],⟨f.get _ _ Z,trivial⟩,f.defers,_,[],(gt ad ah),m,Z,Z⟩
theorem Wk.b {W w:World}{G:GH}{H:List Itm}{v0:Value}{v1:Value}{x0:(List Int)}{x1:(List Int)}(m:Mem W G w (H))(h0:RSl (RI .i64) G v0 x0)(h1:RSl (RI .i64) G v1 x1){y:Int}(hd:D.b x0 x1=some y):
  Calls Tryz.prog 76 #[v0,v1] w (Res W G H (fun _ Ho v=>Ho=[]∧v=(.int .i64 y))):=by
 refine Ar (args:=[v0,v1]) (N:=36) [.tmp 4] Tryz.func76 Z Z (Nat.le_of_ble_eq_true Z) Z fun a f=> ?_
 unfold D.b at hd
 refine Ac ?_
 refine Ad f Z fun a f=>Aa (Af (Ac ?_))
 refine Ab f Z fun a f=>AX Tryz.underlying31 f Z Z h0 fun a f=>Ab f Z fun a f=>Aa ?_
 obtain⟨aa,ab,hd⟩:=bind_some hd
 refine AE (fun a w=>∃q_47':Unit,aa= .inl q_47'∧∃(ac:GH),GLe G ac∧Fr a 36 [(0,v0),(1,v1)]∧Mem W ac w (H)) ?_ ?_
 ·refine Ai ?_
  refine AB (fun ad a w=>∃ae:Int,ae=ad∧∃(af:GH),GLe G af∧Fr a 36 [(0,v0),(1,v1),(9,v0),(10,(.int .i64 (x0.length:Int))),(11,(.int .i64 ae))]∧Mem W af w (H)) ab ⟨_,Z,_,gr,f.k Z,m⟩ ?_
  clear ab f m
  rintro ad ag ah ai a w ⟨ae,rfl,af,aj,f,m⟩
  have h0:=rd1 aj h0
  have h1:=rd1 aj h1
  refine Ac ?_
  refine Ag f Z Z AD fun a f=>Aa (Af ?_)
  rcases Ae ah with⟨ak,ah⟩|⟨ak,ah⟩
  ·refine Am f Z ak ?_
   refine An ?_
   refine Af (Ai (Ac ?_))
   refine Ab f Z fun a f=> ?_
   obtain⟨al,am,ah⟩:=bind_some ah
   refine Bb T31 f Z Z Z h0 am fun an ao a ap aq f=> ?_
   subst aq
   refine Az m Pl2 f Z Z ap fun a f=>Ad f Z fun a f=>Ad f Z fun a f=>Aa (Af (Ac ?_))
   refine Ab f Z fun a f=>Ab f Z fun a f=>AX Tryz.underlying31 f Z Z h1 fun a f=>Ag f Z Z Ck fun a f=>Aa ?_
   rcases Ae ah with⟨ar,ah⟩|⟨ar,ah⟩
   ·refine Am f Z ar ?_
    refine Ac ?_
    refine Ad f Z fun a f=>Aa ?_
    refine Ap ?_
    obtain rfl:=sj ah
    obtain rfl:=ai _ rfl
    obtain rfl:=sj hd
    exact⟨[(.int .i64 1)],⟨f.get _ _ Z,trivial⟩,f.defers,_,[],aj,m,Z,Z⟩
   ·refine Ah f Z ar ?_
    refine An ?_
    refine Ac ?_
    refine Ab f Z fun a f=>Ab f Z fun a f=> ?_
    obtain⟨au,av,ah⟩:=bind_some ah
    refine Bb T31 f Z Z Z h1 av fun aw ax a ay az f=> ?_
    subst az
    refine Az m Pl2 f Z Z ay fun a f=>Ad f Z fun a f=>Aa (Ac ?_)
    refine Ab f Z fun a f=>Ab f Z fun a f=> ?_
    obtain⟨aA,aB,ah⟩:=bind_some ah
    refine AY f Z Tryz.call110 (Wk.r0 m aB) fun aC w aD m a f=> ?_
    have h0:=rd1 aD h0
    have h1:=rd1 aD h1
    refine Ad f Z fun a f=>Aa (Ac ?_)
    refine Ab f Z fun a f=>Ag f Z Z CS fun a f=>Aa ?_
    rcases Ae ah with⟨aE,ah⟩|⟨aE,ah⟩
    ·refine Am f Z aE ?_
     refine Ac ?_
     refine Ab f Z fun a f=>Ad f Z fun a f=>Aa ?_
     refine Ap ?_
     obtain rfl:=sj ah
     obtain rfl:=ai _ rfl
     obtain rfl:=sj hd
     exact⟨[(.int .i64 aA)],⟨f.get _ _ Z,trivial⟩,f.defers,_,[],(gt aj aD),m,Z,Z⟩
    ·refine Ah f Z aE ?_
     refine An ?_
     refine Aj ?_
     refine Ag f Z Z As fun a f=>Ab f Z fun a f=>Aa ?_
     obtain rfl:=sj ah
     exact⟨_,Z,_,Z,_,(gt aj aD),f.k Z,m⟩
  ·refine Ah f Z ak ?_
   refine Ax Z ?_
   obtain rfl:=sj ah
   obtain rfl:=ai _ rfl
   exact⟨_,Z,_,aj,f.k Z,m⟩
 ·rintro a w ⟨_,rfl,ac,aF,f,m⟩
  have h0:=rd1 aF h0
  have h1:=rd1 aF h1
  refine Af (Ac ?_)
  refine Ab f Z fun a f=>AX Tryz.underlying31 f Z Z h0 fun a f=>Ab f Z fun a f=>AX Tryz.underlying31 f Z Z h1 fun a f=>Ag f Z Z AD fun a f=>Aa ?_
  rcases Ae hd with⟨aG,hd⟩|⟨aG,hd⟩
  ·refine Am f Z aG ?_
   refine Ac ?_
   refine Ad f Z fun a f=>Aa ?_
   refine Ap ?_
   obtain rfl:=sj hd
   exact⟨[(.int .i64 (-1))],⟨f.get _ _ Z,trivial⟩,f.defers,_,[],aF,m,Z,Z⟩
  ·refine Ah f Z aG ?_
   refine An ?_
   refine Ac ?_
   refine Ad f Z fun a f=>Aa ?_
   refine Ap ?_
   obtain rfl:=sj hd
   exact⟨[(.int .i64 0)],⟨f.get _ _ Z,trivial⟩,f.defers,_,[],aF,m,Z,Z⟩
theorem Wk.Y0 {W w:World}{G:GH}{H:List Itm}{v0:Value}{x0:(List (List Int))}(m:Mem W G w (H))(h0:RSl (RSl (RI .i64)) G v0 x0){y:((List (List Int)))}(hd:D.Y0 x0=some y):
  Calls Tryz.prog 74 #[v0] w (Res W G H (fun G' Ho v=>∃r0:Value,∃i0:Itm,Ho=[i0]∧r0=v∧Ow (RSl (RI .i64)) 31 G' i0 r0 y)):=by
 refine Ar (args:=[v0]) (N:=8) [.tmp 2] Tryz.func74 Z Z (Nat.le_of_ble_eq_true Z) Z fun a f=> ?_
 unfold D.Y0 at hd
 refine Ac ?_
 refine Ad f Z fun a f=>Aa (Af (Ac ?_))
 refine Ab f Z fun a f=>l_o f (FF (f.eval Z) (f.eval Z) h0.hdr Tryz.underlying27 Z) fun a f=>Aa ?_
 rcases Bool.eq_false_or_eq_true (Ea v0) with aa|aa
 ·have hz:=h0.nil_inv aa
  subst hz
  replace hd:some ([]:List (List Int))=some _:=hd
  refine Am f Z aa ?_
  refine Ac ?_
  refine Ad f Z fun a f=>Aa ?_
  refine Ap ?_
  obtain⟨ab,m,ac⟩:=Ow.nil (RSl (RI .i64)) 31 m
  obtain rfl:=sj hd
  exact⟨[(.slice none 0 0)],⟨f.get _ _ Z,trivial⟩,f.defers,_,[ab],gr,m,_,_,Z,Z,ac⟩
 ·refine Ah f Z aa ?_
  refine An ?_
  refine Ac ?_
  refine A5 (R:=(RSl (RI .i64))) (xs:=([]:List (List Int))) (RSl.one _) m T27 f Z Z Z (by decide) (All2.nil _) fun ad ae w a m af f=>Ab f Z fun a f=> ?_
  obtain⟨ag,ah,hd⟩:=bind_some hd
  refine Bj (RSl.one _) 0 m af Z T27 Z (by decide) f Z Z Z (h0.src m) ah fun ai aj w a m ak f=>Ad f Z fun a f=>Aa ?_
  refine Ap ?_
  obtain rfl:=sj hd
  exact⟨[aj],⟨f.get _ _ Z,trivial⟩,f.defers,_,[ai],gr,m,_,_,Z,Z,ak⟩
theorem Wk.d1 {W w:World}{G:GH}{H:List Itm}{v0:Value}{x0:(List Int)}(m:Mem W G w (H))(h0:RSl (RI .u32) G v0 x0){y:((List Int))}(hd:D.d1 x0=some y):
  Calls Tryz.prog 113 #[v0] w (Res W G H (fun G' Ho v=>∃r0:Value,∃i0:Itm,Ho=[i0]∧r0=v∧Ow (RI .u32) 65 G' i0 r0 y)):=by
 refine Ar (args:=[v0]) (N:=8) [.tmp 2] Tryz.func113 Z Z (Nat.le_of_ble_eq_true Z) Z fun a f=> ?_
 unfold D.d1 at hd
 refine Ac ?_
 refine Ad f Z fun a f=>Aa (Af (Ac ?_))
 refine Ab f Z fun a f=>l_o f (FF (f.eval Z) (f.eval Z) h0.hdr Tryz.underlying60 Z) fun a f=>Aa ?_
 rcases Bool.eq_false_or_eq_true (Ea v0) with aa|aa
 ·have hz:=h0.nil_inv aa
  subst hz
  replace hd:some ([]:List Int)=some _:=hd
  refine Am f Z aa ?_
  refine Ac ?_
  refine Ad f Z fun a f=>Aa ?_
  refine Ap ?_
  obtain⟨ab,m,ac⟩:=Ow.nil (RI .u32) 65 m
  obtain rfl:=sj hd
  exact⟨[(.slice none 0 0)],⟨f.get _ _ Z,trivial⟩,f.defers,_,[ab],gr,m,_,_,Z,Z,ac⟩
 ·refine Ah f Z aa ?_
  refine An ?_
  refine Ac ?_
  refine A5 (R:=(RI .u32)) (xs:=([]:List Int)) (RI.one _) m T60 f Z Z Z (by decide) (All2.nil _) fun ad ae w a m af f=>Ab f Z fun a f=> ?_
  obtain⟨ag,ah,hd⟩:=bind_some hd
  refine Bj (RI.one _) 0 m af Z T60 Z (by decide) f Z Z Z (h0.src m) ah fun ai aj w a m ak f=>Ad f Z fun a f=>Aa ?_
  refine Ap ?_
  obtain rfl:=sj hd
  exact⟨[aj],⟨f.get _ _ Z,trivial⟩,f.defers,_,[ai],gr,m,_,_,Z,Z,ak⟩
theorem Wk.T0 {W w:World}{G:GH}{H:List Itm}{v0:Value}{it0:Itm}{x0:(List Int)}{x1:Int}{x2:Int}(m:Mem W G w (it0::H))(o0:Ow (RI .u32) 65 G it0 v0 x0){y:(List Int)}(hd:D.T0 x0 x1 x2=some y):
  Calls Tryz.prog 112 #[v0,(.int .i64 x1),(.int .i64 x2)] w (Res W G H (fun G' Ho v=>∃r0:Value,∃i0:Itm,Ho=[i0]∧r0=v∧Ow (RI .u32) 65 G' i0 r0 y)):=by
 unfold D.T0 delD at hd
 split at hd
 next hg=>
  obtain⟨g0,g1,g2⟩:=hg
  obtain rfl:=sj hd
  obtain⟨b,c,rfl,gc⟩:=o0.block m (by omega)
  refine Ar (args:=[(.slice (some ⟨b,0,none⟩) x0.length c),(.int .i64 x1),(.int .i64 x2)]) (N:=33) [.tmp 6] Tryz.func112 Z Z (Nat.le_of_ble_eq_true Z) Z fun a f=>Ac ?_
  refine Ad f Z fun a f=>Aa (Ac ?_)
  refine Ab f Z fun a f=>Ab f Z fun a f=>Ab f Z fun a f=>Ab f Z fun a f=>l_o f (r_len (f.eval Z) Tryz.underlying60) fun a f=>l_slice3 T60 f Z Z Z Z Z g0 (Int.le_of_lt g1) g2 (Int.ofNat_le.2 gc) fun v3 a f=>Aa (Af (Ac ?_))
  refine Ab f Z fun a f=>Ab f Z fun a f=>Ag f Z Z BG fun a f=>Aa ?_
  refine Ah f Z (beq_eq_false_iff_ne.2 (by omega)) ?_
  refine An ?_
  refine Ac ?_
  refine Ab f Z fun a f=>l_o f (r_len (f.eval Z) Tryz.underlying60) fun a f=>Ad f Z fun a f=>Aa (Af ?_)
  refine A7 6 AJ (by kernel_rfl) m ?_
  refine Ak 0 6 Z f Z fun a f=>Ak 1 6 Z f Z fun a f=>q_p 2 6 Z f (fun _=>r_slice_lo T60 (f.eval Z) (f.eval Z) g0 (by omega)) fun a f=>Ak 3 6 Z f Z fun a f=>Ak 4 6 Z f Z fun a f=>q_p 5 6 Z f (fun _=>r_slice_hi T60 (f.eval Z) (f.eval Z) (by omega) g2 gc) fun a f=>AV fun G1 w hl m=> ?_
  have o0:=od1 hl o0
  refine l_del (RI.one _) m o0 T60 f Z g0 g1 g2 Z Z Z (fun hp=>if_neg (by omega)) fun it1 w a m o1 f=>Ad f Z fun a f=>Aa (Ac ?_)
  refine Ab f Z fun a f=>Ab f Z fun a f=>l_o f (r_len (f.eval Z) Tryz.underlying60) fun a f=>Ab f Z fun a f=>l_o f (r_slice_mid T60 (f.eval Z) (f.eval Z) (f.eval Z) (by rw[List.length_append,List.length_take,List.length_drop];omega) gc) fun a f=>l_wipe m o1 T60 Z Z f Z (Nat.le_refl _) (by rw[List.length_append,List.length_take,List.length_drop];omega) fun w m=>Aa (Ac ?_)
  refine Ab f Z fun a f=>Ad f Z fun a f=>Aa ?_
  refine Ap ?_
  exact⟨[_],⟨f.get _ _ Z,trivial⟩,f.defers,_,[it1],hl,m,_,_,Z,Z,o1⟩
 next=>cases hd
theorem Wk.x0 {W w:World}{G:GH}{H:List Itm}{v0:Value}{x0:(List Int)}(m:Mem W G w (H))(h0:RSl (RI .i64) G v0 x0){y:((List Int))}(hd:D.x0 x0=some y):
  Calls Tryz.prog 79 #[v0] w (Res W G H (fun G' Ho v=>∃r0:Value,∃i0:Itm,Ho=[i0]∧r0=v∧Ow (RI .i64) 2 G' i0 r0 y)):=by
 refine Ar (args:=[v0]) (N:=8) [.tmp 2] Tryz.func79 Z Z (Nat.le_of_ble_eq_true Z) Z fun a f=> ?_
 unfold D.x0 at hd
 refine Ac ?_
 refine Ad f Z fun a f=>Aa (Af (Ac ?_))
 refine Ab f Z fun a f=>l_o f (FF (f.eval Z) (f.eval Z) h0.hdr Tryz.underlying31 Z) fun a f=>Aa ?_
 rcases Bool.eq_false_or_eq_true (Ea v0) with aa|aa
 ·have hz:=h0.nil_inv aa
  subst hz
  replace hd:some ([]:List Int)=some _:=hd
  refine Am f Z aa ?_
  refine Ac ?_
  refine Ad f Z fun a f=>Aa ?_
  refine Ap ?_
  obtain⟨ab,m,ac⟩:=Ow.nil (RI .i64) 2 m
  obtain rfl:=sj hd
  exact⟨[(.slice none 0 0)],⟨f.get _ _ Z,trivial⟩,f.defers,_,[ab],gr,m,_,_,Z,Z,ac⟩
 ·refine Ah f Z aa ?_
  refine An ?_
  refine Ac ?_
  refine A5 (R:=(RI .i64)) (xs:=([]:List Int)) (RI.one _) m T31 f Z Z Z (by decide) (All2.nil _) fun ad ae w a m af f=>Ab f Z fun a f=> ?_
  obtain⟨ag,ah,hd⟩:=bind_some hd
  refine Bj (RI.one _) 0 m af Z T31 Z (by decide) f Z Z Z (h0.src m) ah fun ai aj w a m ak f=>Ad f Z fun a f=>Aa ?_
  refine Ap ?_
  obtain rfl:=sj hd
  exact⟨[aj],⟨f.get _ _ Z,trivial⟩,f.defers,_,[ai],gr,m,_,_,Z,Z,ak⟩
end Go.Proofs.YtkffjeaefgfnnaaGreatDoor

set_option maxRecDepth 100000
namespace Go.Proofs.YtkffjeaefgfnnaaGreatDoor
open Go Go.Sx
theorem T22 :SlT Tryz.prog 22 5 1 1 (.int .u8 0):=⟨Tryz.underlying22,Tryz.t5,by kernel_rfl,by kernel_rfl,by kernel_rfl,by kernel_rfl⟩
theorem Pl26 :BV Tryz.prog 26:=Tryz.isAgg26
theorem Pl3 :BV Tryz.prog 3:=Tryz.isAgg3
theorem Pl22 :BV Tryz.prog 22:=Tryz.isAgg22
theorem Bk :BV Tryz.prog 27:=Tryz.isAgg27
theorem AW :Agg Tryz.prog 29 1:=⟨Tryz.isAgg29,Tryz.sizeOf29⟩
theorem AS :BV Tryz.prog 31:=Tryz.isAgg31
theorem T61 :SlT Tryz.prog 61 65 1 4 (.int .u32 0):=⟨Tryz.underlying61,Tryz.t65,by kernel_rfl,by kernel_rfl,by kernel_rfl,by kernel_rfl⟩
theorem Wk.U0 {W w:World}{G:GH}{H:List Itm}{v0:Value}{x0:(List Int)}(m:Mem W G w (H))(h0:RSl (RI .u8) G v0 x0){y:Bool}(hd:D.U0 x0=some y):
  Calls Tryz.prog 5 #[v0] w (Res W G H (fun _ Ho v=>Ho=[]∧v=(.bool y))):=by
 refine Ar (args:=[v0]) (N:=6) [.tmp 2] Tryz.func5 Z Z (Nat.le_of_ble_eq_true Z) Z fun a f=> ?_
 unfold D.U0 at hd
 refine Ac ?_
 refine Ad f Z fun a f=>Aa (Ac ?_)
 refine Ab f Z fun a f=>AX Tryz.underlying22 f Z Z h0 fun a f=>Ag f Z Z Cc fun a f=>Ad f Z fun a f=>Aa ?_
 refine Ap ?_
 obtain rfl:=sj hd
 exact⟨[(.bool (decide ((4096:Int)<(x0.length:Int))))],⟨f.get _ _ Z,trivial⟩,f.defers,_,[],gr,m,Z,Z⟩
theorem Wk.E0 {W w:World}{G:GH}{H:List Itm}{v0:Value}{x0:(List Int)}{x1:Int}(m:Mem W G w (H))(h0:RSl (RI .u8) G v0 x0){y:((List Int))×Int×Int}(hd:D.E0 x0 x1=some y):
  Calls Tryz.prog 6 #[v0,(.int .u64 x1)] w (Res W G H (fun G' Ho v=>∃r0:Value,∃c1:Nat,Ho=[Itm.box c1 53 [r0,(.int .i64 y.2.1),(.int .u64 y.2.2)]]∧v=(.pointer (some ⟨c1,0,none⟩))∧RSl (RI .u8) G' r0 y.1)):=by
 refine Ar (args:=[v0,(.int .u64 x1)]) (N:=38) [.tmp 4] Tryz.func6 Z Z (Nat.le_of_ble_eq_true Z) Z fun a f=> ?_
 unfold D.E0 at hd
 refine Ac ?_
 refine Ad f Z fun a f=>Aa (Ac ?_)
 refine Ab f Z fun a f=>Ab f Z fun a f=>Ag f Z Z Dj fun a f=>Ab f Z fun a f=>AX Tryz.underlying22 f Z Z h0 fun a f=>l_o f (Di (f.eval Z) ⟨_,Tryz.underlying3⟩ Tryz.underlying26) fun a f=>Ag f Z Z As fun a f=> ?_
 have aa:∀w,(Instr.build 53 #[(0,v0),(2,(.int .u64 (IntKind.u64.wrap ((IntKind.u64.wrap (x1*7919))+(IntKind.u64.wrap (x0.length:Int))))))]).run Tryz.prog w= .ok (.agg #[v0,(.int .i64 0),(.int .u64 (IntKind.u64.wrap ((IntKind.u64.wrap (x1*7919))+(IntKind.u64.wrap (x0.length:Int)))))]) w:=by intro w;simp[Instr.build,Instr.fill,h0.cells,CM,Cx,B9,Cn,BY,Cu]
 refine Dc f Z Z aa fun a f=>Bn (cs:=[v0,(.int .i64 0),(.int .u64 (IntKind.u64.wrap ((IntKind.u64.wrap (x1*7919))+(IntKind.u64.wrap (x0.length:Int)))))]) m f Z Z Z fun ab w a m f=>Ad f Z fun a f=>Aa (Af (Ac ?_))
 refine Ad f Z fun a f=>Aa ?_
 obtain⟨ac,ad,hd⟩:=bind_some hd
 refine AE (fun a w=>∃ae:Int,ae=ac∧∃(af:GH),GLe G af∧Fr a 38 [(5,(.pointer (some ⟨ab,0,none⟩)))]∧Mem W af w (Itm.box ab 53 [v0,(.int .i64 0),(.int .u64 ae)]::H)) ?_ ?_
 ·refine Ai ?_
  refine AB (fun ag a w=>∃ah:Int,∃ai:Int,(ah,ai)=ag∧∃(aj:GH),GLe G aj∧Fr a 38 [(0,v0),(5,(.pointer (some ⟨ab,0,none⟩))),(6,(.int .i64 ah))]∧Mem W aj w (Itm.box ab 53 [v0,(.int .i64 0),(.int .u64 ai)]::H)) ad ⟨_,_,Z,_,gr,f.k Z,m⟩ ?_
  clear ad f m
  rintro ag ak al am a w ⟨ah,ai,rfl,aj,an,f,m⟩
  have h0:=rd1 an h0
  refine Af (Ac ?_)
  refine Ab f Z fun a f=>Ab f Z fun a f=>AX Tryz.underlying22 f Z Z h0 fun a f=>Ag f Z Z AD fun a f=>Aa ?_
  rcases Ae al with⟨ao,al⟩|⟨ao,al⟩
  ·refine Am f Z ao ?_
   refine An ?_
   refine Af (Ai ?_)
   refine A7 15 AJ (by kernel_rfl) m ?_
   refine Ak 0 15 Z f Z fun a f=>Ak 1 15 Z f Z fun a f=>q_p 2 15 Z f (fun _=>A9 (f.eval Z)) fun a f=>Cg 3 15 Tryz.underlying53 Z Tryz.sizeOf26 Z f Z fun a f=>BS 4 15 0 Pl26 Z Z Z f Z fun a f=>q_p 5 15 Z f (fun _=>AL (f.eval Z) (f.eval Z) Dj) fun a f=>Ak 6 15 Z f Z fun a f=>Ak 7 15 Z f Z fun a f=> ?_
   obtain⟨ap,aq,al⟩:=bind_some al
   refine BZ 8 15 T22 h0 aq Z f Z Z fun ar au a av aw f=> ?_
   subst aw
   refine B2 9 15 Pl5 av Z f Z fun a f=>q_p 10 15 Z f (fun _=>Di (f.eval Z) ⟨_,Tryz.underlying5⟩ Tryz.underlying26) fun a f=>q_p 11 15 Z f (fun _=>AL (f.eval Z) (f.eval Z) As) fun a f=>q_p 12 15 Z f (fun _=>AL (f.eval Z) (f.eval Z) As) fun a f=>q_p 13 15 Z f (fun _=>A9 (f.eval Z)) fun a f=>Cg 14 15 Tryz.underlying53 Z Tryz.sizeOf26 Z f Z fun a f=>AV fun ax w ay m=> ?_
   have h0:=rd1 ay h0
   have av:=At.mono ay av
   refine AR 0 2 (ds:=[(.int .u64 (IntKind.u64.wrap ((IntKind.u64.wrap ((IntKind.u64.wrap (ai*1099511628211))+(IntKind.u64.wrap ap)))+3)))]) m Tryz.sizeOf26 f Z Z Z (AM Z A6) Z (Nat.le_of_ble_eq_true Z) Z fun w m=>Aa (Aj ?_)
   refine Ab f Z fun a f=>Ag f Z Z As fun a f=>Ad f Z fun a f=>Aa ?_
   obtain rfl:=sj al
   exact⟨_,Z,_,_,Z,_,(gt an ay),f.k Z,m⟩
  ·refine Ah f Z ao ?_
   refine Ax Z ?_
   obtain rfl:=sj al
   obtain rfl:=am _ rfl
   exact⟨_,Z,_,an,f.k Z,m⟩
 ·rintro a w ⟨ae,rfl,af,az,f,m⟩
  have h0:=rd1 az h0
  refine Ac ?_
  refine Ab f Z fun a f=>Ad f Z fun a f=>Aa ?_
  refine Ap ?_
  obtain rfl:=sj hd
  exact⟨[(.pointer (some ⟨ab,0,none⟩))],⟨f.get _ _ Z,trivial⟩,f.defers,_,[Itm.box ab 53 [v0,(.int .i64 0),(.int .u64 ae)]],az,m,_,_,Z,Z,h0⟩
theorem Wk.o {W w:World}{G:GH}{H:List Itm}{v0_0:Value}{b0:Nat}{x0_0:(List Int)}{x0_1:Int}{x0_2:Int}{x1:Int}(m:Mem W G w (Itm.box b0 53 [v0_0,(.int .i64 x0_1),(.int .u64 x0_2)]::H))(h0_0:RSl (RI .u8) G v0_0 x0_0){y:Int×((List Int))×Int×Int}(hd:D.o x0_0 x0_1 x0_2 x1=some y):
  Calls Tryz.prog 29 #[(.pointer (some ⟨b0,0,none⟩)),(.int .i64 x1)] w (Res W G H (fun G' Ho v=>∃r0:Value,Ho=[Itm.box b0 53 [r0,(.int .i64 y.2.2.1),(.int .u64 y.2.2.2)]]∧v=(.int .i64 y.1)∧RSl (RI .u8) G' r0 y.2.1)):=by
 refine Ar (args:=[(.pointer (some ⟨b0,0,none⟩)),(.int .i64 x1)]) (N:=56) [.tmp 4] Tryz.func29 Z Z (Nat.le_of_ble_eq_true Z) Z fun a f=> ?_
 unfold D.o at hd
 refine Ac ?_
 refine Ad f Z fun a f=>Aa (Ac ?_)
 refine Ab f Z fun a f=>Ab f Z fun a f=>l_o f (A9 (f.eval Z)) fun a f=>Bo Tryz.underlying53 Z Tryz.sizeOf26 f Z fun a f=>AG 0 2 m Pl26 f Z Z Z Z fun a f=>Ag f Z Z Dj fun a f=>Ag f Z Z As fun a f=>l_o f (A9 (f.eval Z)) fun a f=>Bo Tryz.underlying53 Z Tryz.sizeOf26 f Z fun a f=>AR 0 2 (ds:=[(.int .u64 (IntKind.u64.wrap ((IntKind.u64.wrap (x0_2*6364136223846793005))+1442695040888963407)))]) m Tryz.sizeOf26 f Z Z Z (AM Z A6) Z (Nat.le_of_ble_eq_true Z) Z fun w m=>Aa (Ac ?_)
 refine Ab f Z fun a f=>l_o f (A9 (f.eval Z)) fun a f=>Bo Tryz.underlying53 Z Tryz.sizeOf26 f Z fun a f=>AG 0 2 m Pl26 f Z Z Z Z fun a f=>l_o f (r_shr (f.eval Z) (f.eval Z) (by decide)) fun a f=>Ag f Z Z D8 fun a f=>l_o f (Di (f.eval Z) ⟨_,Tryz.underlying26⟩ Tryz.underlying2) fun a f=>Ad f Z fun a f=>Aa (Af (Af ?_))
 refine A7 10 AJ (by kernel_rfl) m ?_
 refine Ak 0 10 Z f Z fun a f=>q_p 1 10 Z f (fun _=>A9 (f.eval Z)) fun a f=>Cg 2 10 Tryz.underlying53 Z Tryz.sizeOf3 Z f Z fun a f=>BS 3 10 0 Pl3 Z Z Z f Z fun a f=>Ak 4 10 Z f Z fun a f=>q_p 5 10 Z f (fun _=>A9 (f.eval Z)) fun a f=>Cg 6 10 Tryz.underlying53 Z Tryz.sizeOf22 Z f Z fun a f=>BS 7 10 0 Pl22 Z Z Z f Z fun a f=>q_len (i:=8) 10 Tryz.underlying22 h0_0 Z (by kernel_rfl) Z f Z Z Z fun a f=>q_p 9 10 Z f (fun _=>AL (f.eval Z) (f.eval Z) AD) fun a f=>AV fun aa w ab m=> ?_
 have h0_0:=rd1 ab h0_0
 refine Aa ?_
 rcases Ae hd with⟨ac,hd⟩|⟨ac,hd⟩
 ·refine Am f Z ac ?_
  refine Af ?_
  refine A7 14 AJ (by kernel_rfl) m ?_
  refine Ak 0 14 Z f Z fun a f=>Ak 1 14 Z f Z fun a f=>q_p 2 14 Z f (fun _=>A9 (f.eval Z)) fun a f=>Cg 3 14 Tryz.underlying53 Z Tryz.sizeOf22 Z f Z fun a f=>BS 4 14 0 Pl22 Z Z Z f Z fun a f=>Ak 5 14 Z f Z fun a f=>q_p 6 14 Z f (fun _=>A9 (f.eval Z)) fun a f=>Cg 7 14 Tryz.underlying53 Z Tryz.sizeOf3 Z f Z fun a f=>BS 8 14 0 Pl3 Z Z Z f Z fun a f=> ?_
  obtain⟨ad,ae,hd⟩:=bind_some hd
  refine BZ 9 14 T22 h0_0 ae Z f Z Z fun af ag a ah ai f=> ?_
  subst ai
  refine B2 10 14 Pl5 ah Z f Z fun a f=>q_p 11 14 Z f (fun _=>Di (f.eval Z) ⟨_,Tryz.underlying5⟩ Tryz.underlying2) fun a f=>q_p 12 14 Z f (fun _=>AL (f.eval Z) (f.eval Z) As) fun a f=>q_p 13 14 Z f (fun _=>BD (f.eval Z)) fun a f=>AV fun aj w ak m=> ?_
  have h0_0:=rd1 ak h0_0
  have ah:=At.mono ak ah
  refine Aa (Aj ?_)
  refine Ab f Z fun a f=>Ab f Z fun a f=>l_o f (A9 (f.eval Z)) fun a f=>Bo Tryz.underlying53 Z Tryz.sizeOf3 f Z fun a f=>AG 0 1 m Pl3 f Z Z Z Z fun a f=>Ag f Z Z As fun a f=>l_o f (A9 (f.eval Z)) fun a f=>Bo Tryz.underlying53 Z Tryz.sizeOf3 f Z fun a f=>AR 0 1 (ds:=[(.int .i64 (IntKind.i64.wrap (x0_1+1)))]) m Tryz.sizeOf3 f Z Z Z (AM Z A6) Z (Nat.le_of_ble_eq_true Z) Z fun w m=>Aa (Ac ?_)
  refine Ab f Z fun a f=>Ab f Z fun a f=> ?_
  obtain⟨al,hd⟩:=DS hd
  refine Ag f Z Z (b_rem al) fun a f=>Ad f Z fun a f=>Aa ?_
  refine Ap ?_
  obtain rfl:=sj hd
  exact⟨[(.int .i64 (Int.tmod (IntKind.i64.wrap ((IntKind.i64.wrap (iand .u64 (Bz .u64 (IntKind.u64.wrap ((IntKind.u64.wrap (x0_2*6364136223846793005))+1442695040888963407)) 33) 16777215))+(IntKind.i64.wrap ad))) x1))],⟨f.get _ _ Z,trivial⟩,f.defers,_,[Itm.box b0 53 [v0_0,(.int .i64 (IntKind.i64.wrap (x0_1+1))),(.int .u64 (IntKind.u64.wrap ((IntKind.u64.wrap (x0_2*6364136223846793005))+1442695040888963407)))]],(gt ab ak),m,_,Z,Z,h0_0⟩
 ·refine Ah f Z ac ?_
  refine An ?_
  refine Ac ?_
  refine Ab f Z fun a f=>Ab f Z fun a f=> ?_
  obtain⟨am,hd⟩:=DS hd
  refine Ag f Z Z (b_rem am) fun a f=>Ad f Z fun a f=>Aa ?_
  refine Ap ?_
  obtain rfl:=sj hd
  exact⟨[(.int .i64 (Int.tmod (IntKind.i64.wrap (iand .u64 (Bz .u64 (IntKind.u64.wrap ((IntKind.u64.wrap (x0_2*6364136223846793005))+1442695040888963407)) 33) 16777215)) x1))],⟨f.get _ _ Z,trivial⟩,f.defers,_,[Itm.box b0 53 [v0_0,(.int .i64 x0_1),(.int .u64 (IntKind.u64.wrap ((IntKind.u64.wrap (x0_2*6364136223846793005))+1442695040888963407)))]],ab,m,_,Z,Z,h0_0⟩
theorem Wk.c {W w:World}{G:GH}{H:List Itm}{x0:Int}{x1:Int}{x2:Int}(m:Mem W G w (H)){y:Bool}(hd:D.c x0 x1 x2=some y):
  Calls Tryz.prog 66 #[(.int .i64 x0),(.int .i64 x1),(.int .i64 x2)] w (Res W G H (fun _ Ho v=>Ho=[]∧v=(.bool y))):=by
 refine Ar (args:=[(.int .i64 x0),(.int .i64 x1),(.int .i64 x2)]) (N:=15) [.tmp 6] Tryz.func66 Z Z (Nat.le_of_ble_eq_true Z) Z fun a f=> ?_
 unfold D.c at hd
 refine Ac ?_
 refine Ad f Z fun a f=>Aa (Ac ?_)
 refine Ab f Z fun a f=>Ab f Z fun a f=>Ag f Z Z Ck fun a f=>Ab f Z fun a f=> ?_
 refine Bw 4 (fun a w=>∃aa,GLe G aa∧Mem W aa w (H)∧Fr a 15 [(0,(.int .i64 x0)),(1,(.int .i64 x1)),(2,(.int .i64 x2)),(7,(.int .i64 x0)),(8,(.int .i64 x1)),(9,(.bool (decide (x1≤x0)))),(10,(.bool (decide (x1≤x0)))),(14,(.bool ((decide (x1≤x0))&&(decide (x0≤x2)))))]) ?_ ?_
 ·rcases Bool.eq_false_or_eq_true (decide (x1≤x0)) with ab|ab
  ·refine Av f ab ?_
   refine Ab f Z fun a f=>Av f ab ?_
   refine Ab f Z fun a f=>Av f ab ?_
   refine Ag f Z Z Cm fun a f=>l_o f (AN (f.eval Z) ab (f.eval Z)) fun a f=> ?_
   exact⟨_,gr,m,f.weak ⟨Z,Z,Z,Z,Z,Z,Z,by rw[ab];rfl,trivial⟩⟩
  ·refine Aw f ab fun a f=> ?_
   refine Aw f ab fun a f=>Aw f ab fun a f=>l_o f (AO (f.eval Z) ab (f.eval Z)) fun a f=> ?_
   exact⟨_,gr,m,f.weak ⟨Z,Z,Z,Z,Z,Z,Z,by rw[ab];rfl,trivial⟩⟩
 ·rintro a w ⟨aa,ac,m,f⟩
  refine Ad f Z fun a f=>Aa ?_
  refine Ap ?_
  obtain rfl:=sj hd
  exact⟨[(.bool ((decide (x1≤x0))&&(decide (x0≤x2))))],⟨f.get _ _ Z,trivial⟩,f.defers,_,[],ac,m,Z,Z⟩
theorem Wk.K0 {W w:World}{G:GH}{H:List Itm}{x0:Int}(m:Mem W G w (H)){y:((List (List Int)))}(hd:D.K0 x0=some y):
  Calls Tryz.prog 67 #[(.int .i64 x0)] w (Res W G H (fun G' Ho v=>∃r0:Value,∃i0:Itm,Ho=[i0]∧v=(.agg #[r0])∧Ow (RSl (RI .i64)) 31 G' i0 r0 y)):=by
 refine Ar (args:=[(.int .i64 x0)]) (N:=18) [.cell 2 29] Tryz.func67 Z Z (Nat.le_of_ble_eq_true Z) Z fun a f=> ?_
 unfold D.K0 at hd
 refine Ac ?_
 refine BF (cs:=[(.slice none 0 0)]) Tryz.zeroValue29 m f Z Z fun aa w a m f=>Aa (Ac ?_)
 have ab:∀w,(Instr.build 29 #[]).run Tryz.prog w= .ok (.agg #[(.slice none 0 0)]) w:=by intro w;simp[Instr.build,Instr.fill,CM,Cx,B9,Cn,BY,Cu]
 refine Dc f Z Z ab fun a f=>BF (cs:=[(.slice none 0 0)]) Tryz.zeroValue29 m f Z Z fun ac w a m f=>AR 0 0 (ds:=[(.slice none 0 0)]) m Tryz.sizeOf29 f Z Z Z (AM Z A6) Z (Nat.le_of_ble_eq_true Z) Z fun w m=>Aa (Af (Ac ?_))
 refine Ad f Z fun a f=>Aa ?_
 obtain⟨ad,m,ae⟩:=Ow.nil (RSl (RI .i64)) 31 m
 obtain⟨af,ag,hd⟩:=bind_some hd
 refine AE (fun a w=>∃ah:List (List Int),ah=af∧∃(ai:GH) (aj:Value) (ak:Itm),GLe G ai∧Fr a 18 [(2,(.pointer (some ⟨aa,0,none⟩))),(3,(.pointer (some ⟨ac,0,none⟩)))]∧Mem W ai w (Itm.box aa 29 [(.slice none 0 0)]::Itm.box ac 29 [aj]::ak::H)∧Ow (RSl (RI .i64)) 31 ai ak aj ah) ?_ ?_
 ·refine Ai ?_
  have m:=m.front 1 rfl
  have m:=m.front 2 rfl
  refine AB (fun al a w=>∃am:Int,∃an:List (List Int),(am,an)=al∧∃(ao:GH) (ap:Value) (aq:Itm),GLe G ao∧Fr a 18 [(0,(.int .i64 x0)),(2,(.pointer (some ⟨aa,0,none⟩))),(3,(.pointer (some ⟨ac,0,none⟩))),(4,(.int .i64 am))]∧Mem W ao w (Itm.box aa 29 [(.slice none 0 0)]::Itm.box ac 29 [ap]::aq::H)∧Ow (RSl (RI .i64)) 31 ao aq ap an) ag ⟨_,_,Z,_,(.slice none 0 0),ad,gr,f.k Z,m,ae⟩ ?_
  clear ag f m
  rintro al ar au av a w ⟨am,an,rfl,ao,ap,aq,aw,f,m,ax⟩
  refine Af (Ac ?_)
  refine Ab f Z fun a f=>Ab f Z fun a f=>Ag f Z Z AD fun a f=>Aa ?_
  rcases Ae au with⟨ay,au⟩|⟨ay,au⟩
  ·refine Am f Z ay ?_
   refine An ?_
   refine Af (Ai (Aj ?_))
   refine Bo Tryz.underlying29 Z Tryz.sizeOf27 f Z fun a f=>AG 1 0 m Bk f Z Z Z Z fun a f=>A5 (R:=(RI .i64)) (xs:=([]:List Int)) (RI.one _) m T31 f Z Z Z (by decide) (All2.nil _) fun az aA w a m aB f=> ?_
   obtain⟨aC,aD,m,aE⟩:=Ow.stamp (RI.mono _) aB m
   have ax:=Ow.mono (RSl.mono (RI.mono _)) aD ax
   refine A5 (R:=(RSl (RI .i64))) (xs:=([([]:List Int)]:List (List Int))) (RSl.one _) m T27 f Z Z Z (by decide) (All2.cons aE (All2.nil _)) fun aF aG w a m aH f=> ?_
   obtain⟨aI,aJ,au⟩:=bind_some au
   refine Bj (RSl.one _) 3 m ax Z T27 Z (by decide) f Z Z Z (Ow.src (j:=0) aH m Z) aJ fun aK aL w a m aM f=>Bo Tryz.underlying29 Z Tryz.sizeOf27 f Z fun a f=>AR 2 0 (ds:=[aL]) m Tryz.sizeOf27 f Z Z (Ow.cells 3 m aM Z) (AM (Ow.one1 3 m aM Z) A6) Z (Nat.le_of_ble_eq_true Z) Z fun w m=>Aa (Aj ?_)
   refine Ab f Z fun a f=>Ag f Z Z As fun a f=>Ad f Z fun a f=>Aa ?_
   have m:=m.front 3 rfl
   have m:=m.front 3 rfl
   have m:Mem W aC w (Itm.box aa 29 [(.slice none 0 0)]::Itm.box ac 29 [aL]::aK::aF::H):=m.front 3 rfl
   have m:=m.eraseAt 3
   obtain rfl:=sj au
   exact⟨_,Z,_,_,Z,_,aL,aK,(gt aw aD),f.k Z,m,aM⟩
  ·refine Ah f Z ay ?_
   refine Ax Z ?_
   obtain rfl:=sj au
   obtain rfl:=av _ rfl
   exact⟨_,Z,_,ap,aq,aw,f.k Z,m,ax⟩
 ·rintro a w ⟨ah,rfl,ai,aj,ak,aN,f,m,aO⟩
  refine Ac ?_
  refine AA 1 0 (ds:=[aj]) m AW f Z Z Z Z Z fun a f=>AR 0 0 (ds:=[aj]) m Tryz.sizeOf29 f Z Z Z (AM (Ow.one1 2 m aO Z) A6) Z (Nat.le_of_ble_eq_true Z) Z fun w m=>Aa ?_
  refine Ap ?_
  have aP:=CL (P:=Tryz.prog) 0 m AW f (s:=2) rfl rfl rfl
  have m:=m.front 2 rfl
  have m:=m.eraseAt 2
  have m:=m.eraseAt 1
  obtain rfl:=sj hd
  exact⟨[(.agg #[aj])],⟨aP,trivial⟩,f.defers,_,[ak],aN,m,_,_,Z,Z,aO⟩
theorem Wk.q {W w:World}{G:GH}{H:List Itm}{v0:Value}{x0:(List Int)}{x1:Int}(m:Mem W G w (H))(h0:RSl (RI .i64) G v0 x0){y:Bool}(hd:D.q x0 x1=some y):
  Calls Tryz.prog 50 #[v0,(.int .i64 x1)] w (Res W G H (fun _ Ho v=>Ho=[]∧v=(.bool y))):=by
 refine Ar (args:=[v0,(.int .i64 x1)]) (N:=40) [.tmp 4] Tryz.func50 Z Z (Nat.le_of_ble_eq_true Z) Z fun a f=> ?_
 unfold D.q at hd
 refine Ac ?_
 refine Ad f Z fun a f=>Aa (Af (Ac ?_))
 refine Ab f Z fun a f=>AX Tryz.underlying31 f Z Z h0 fun a f=>Ab f Z fun a f=>Ag f Z Z Cc fun a f=>Aa ?_
 rcases Ae hd with⟨aa,hd⟩|⟨aa,hd⟩
 ·refine Am f Z aa ?_
  refine Ac ?_
  refine Ad f Z fun a f=>Aa ?_
  refine Ap ?_
  obtain rfl:=sj hd
  exact⟨[(.bool false)],⟨f.get _ _ Z,trivial⟩,f.defers,_,[],gr,m,Z,Z⟩
 ·refine Ah f Z aa ?_
  refine An ?_
  refine Af (Ac ?_)
  refine Ad f Z fun a f=>Aa ?_
  obtain⟨ab,ac,hd⟩:=bind_some hd
  refine AE (fun a w=>∃q_150':Unit,ab= .inl q_150'∧∃(ad:GH),GLe G ad∧Fr a 40 []∧Mem W ad w (H)) ?_ ?_
  ·refine Ai ?_
   refine AB (fun ae a w=>∃af:Int,af=ae∧∃(ag:GH),GLe G ag∧Fr a 40 [(0,v0),(1,(.int .i64 x1)),(5,(.int .i64 af))]∧Mem W ag w (H)) ac ⟨_,Z,_,gr,f.k Z,m⟩ ?_
   clear ac f m
   rintro ae ah ai aj a w ⟨af,rfl,ag,ak,f,m⟩
   have h0:=rd1 ak h0
   refine Af (Ac ?_)
   refine Ab f Z fun a f=>Ab f Z fun a f=>AX Tryz.underlying31 f Z Z h0 fun a f=>Ag f Z Z AD fun a f=>Aa ?_
   rcases Ae ai with⟨al,ai⟩|⟨al,ai⟩
   ·refine Am f Z al ?_
    refine An ?_
    refine Af (Ai (Af ?_))
    refine A7 24 AJ (by kernel_rfl) m ?_
    refine Ak 0 24 Z f Z fun a f=>Ak 1 24 Z f Z fun a f=> ?_
    obtain⟨am,an,ai⟩:=bind_some ai
    refine BZ 2 24 T31 h0 an Z f Z Z fun ao ap a aq ar f=> ?_
    subst ar
    refine B2 3 24 Pl2 aq Z f Z fun a f=>Ak 4 24 Z f Z fun a f=>q_p 5 24 Z f (fun _=>AL (f.eval Z) (f.eval Z) A3) fun a f=> ?_
    obtain⟨au,av,ai⟩:=bind_some ai
    refine Ca (i:=6) 24 Z (by kernel_rfl) Z f Z Z Z Tryz.call66 (fun _ _ w aw m=>Wk.c m av) fun a f=>q_p 7 24 Z f (fun _=>Bp (f.eval Z)) fun a f=>Ak 8 24 Z f Z fun a f=> ?_
    obtain⟨ax,ay,ai⟩:=bind_some ai
    refine Ci (fuel':=0) (listed':= #[true,true,true,true,true,true,true,true,true,true,true,true,true,true,true,true,true,true,true,true,true,true,true,true]) (fun a=>Fr a 40 [(0,v0),(1,(.int .i64 x1)),(5,(.int .i64 af)),(13,(.bool (decide (af<(x0.length:Int))))),(16,v0),(17,(.int .i64 af)),(18,ao),(19,(.int .i64 am)),(20,(.int .i64 x1)),(21,(.int .i64 (IntKind.i64.wrap (x1-1)))),(22,(.bool au)),(23,(.bool (!au))),(24,(.bool (!au))),(39,(.bool ax))]) ?_ ?_
    ·intro a f
     refine AV fun az w aA m=> ?_
     have h0:=rd1 aA h0
     have aq:=At.mono aA aq
     refine Aa ?_
     rcases Ae ai with⟨aB,ai⟩|⟨aB,ai⟩
     ·refine Am f Z aB ?_
      refine Ac ?_
      refine Ad f Z fun a f=>Aa ?_
      refine Ap ?_
      obtain rfl:=sj ai
      obtain rfl:=aj _ rfl
      obtain rfl:=sj hd
      exact⟨[(.bool false)],⟨f.get _ _ Z,trivial⟩,f.defers,_,[],(gt ak aA),m,Z,Z⟩
     ·refine Ah f Z aB ?_
      refine An ?_
      refine Aj ?_
      refine Ab f Z fun a f=>Ag f Z Z As fun a f=>Ad f Z fun a f=>Aa ?_
      obtain rfl:=sj ai
      exact⟨_,Z,_,Z,_,(gt ak aA),f.k Z,m⟩
    ·intro aC
     rcases Ae ay with⟨aD,ay⟩|⟨aD,ay⟩
     ·refine Aq 9 24 Z f aD fun a f=> ?_
      refine Aq 10 24 Z f aD fun a f=>Aq 11 24 Z f aD fun a f=>Cz 12 24 Z f fun a f=>Cz 13 24 Z f fun a f=>Cz 14 24 Z f fun a f=>Cz 15 24 Z f fun a f=>Cz 16 24 Z f fun a f=>Cz 17 24 Z f fun a f=>Cz 18 24 Z f fun a f=>Cz 19 24 Z f fun a f=>Cz 20 24 Z f fun a f=>Cz 21 24 Z f fun a f=>Aq 22 24 Z f aD fun a f=>q_p 23 24 Z f (fun _=>AN (f.eval Z) aD (f.eval Z)) fun a f=> ?_
      obtain rfl:=sj ay
      exact aC _ (f.k Z)
     ·refine Ak (hw:=wo f aD) 9 24 Z f Z fun a f=> ?_
      refine q_p (hw:=wo f aD) 10 24 Z f (fun _=>AL (f.eval Z) (f.eval Z) Cc) fun a f=>Ak (hw:=wo f aD) 11 24 Z f Z fun a f=> ?_
      obtain⟨aE,aF,ay⟩:=bind_some ay
      refine Ci (fuel':=1) (listed':= #[true,true,true,true,true,true,true,true,true,true,true,true,true,true,true,true,true,true,true,true,true,true,true,false]) (fun a=>Fr a 40 [(0,v0),(1,(.int .i64 x1)),(5,(.int .i64 af)),(13,(.bool (decide (af<(x0.length:Int))))),(16,v0),(17,(.int .i64 af)),(18,ao),(19,(.int .i64 am)),(20,(.int .i64 x1)),(21,(.int .i64 (IntKind.i64.wrap (x1-1)))),(22,(.bool au)),(23,(.bool (!au))),(24,(.bool (!au))),(25,(.int .i64 af)),(26,(.bool (decide ((0:Int)<af)))),(27,(.bool (decide ((0:Int)<af)))),(38,(.bool aE))]) ?_ ?_
      ·intro a f
       refine q_p 23 24 Z f (fun _=>AO (f.eval Z) aD (f.eval Z)) fun a f=> ?_
       obtain rfl:=sj ay
       exact aC _ (f.k Z)
      ·intro aG
       rcases Ae aF with⟨aH,aF⟩|⟨aH,aF⟩
       ·refine Ak (hw:=wo f aH) 12 24 Z f Z fun a f=> ?_
        refine Ak (hw:=wo f aH) 13 24 Z f Z fun a f=> ?_
        obtain⟨aI,aJ,aF⟩:=bind_some aF
        refine BZ (hw:=wo f aH) 14 24 T31 h0 aJ Z f Z Z fun aK aL a aM aN f=> ?_
        subst aN
        refine B2 (hw:=wo f aH) 15 24 Pl2 aM Z f Z fun a f=>Ak (hw:=wo f aH) 16 24 Z f Z fun a f=>Ak (hw:=wo f aH) 17 24 Z f Z fun a f=>q_p (hw:=wo f aH) 18 24 Z f (fun _=>AL (f.eval Z) (f.eval Z) A3) fun a f=> ?_
        obtain⟨aO,aP,aF⟩:=bind_some aF
        refine BZ (hw:=wo f aH) 19 24 T31 h0 aP Z f Z Z fun aQ aR a aS aT f=> ?_
        subst aT
        refine B2 (hw:=wo f aH) 20 24 Pl2 aS Z f Z fun a f=>q_p (hw:=wo f aH) 21 24 Z f (fun _=>AL (f.eval Z) (f.eval Z) Cm) fun a f=>q_p (hw:=wo f aD) 22 24 Z f (fun _=>AN (f.eval Z) aH (f.eval Z)) fun a f=> ?_
        obtain rfl:=sj aF
        exact aG _ (f.k Z)
       ·refine Aq 12 24 Z f aH fun a f=> ?_
        refine Aq 13 24 Z f aH fun a f=>Aq 14 24 Z f aH fun a f=>Aq 15 24 Z f aH fun a f=>Aq 16 24 Z f aH fun a f=>Aq 17 24 Z f aH fun a f=>Aq 18 24 Z f aH fun a f=>Aq 19 24 Z f aH fun a f=>Aq 20 24 Z f aH fun a f=>Aq 21 24 Z f aH fun a f=>q_p (hw:=wo f aD) 22 24 Z f (fun _=>AO (f.eval Z) aH (f.eval Z)) fun a f=> ?_
        obtain rfl:=sj aF
        exact aG _ (f.k Z)
   ·refine Ah f Z al ?_
    refine Ax Z ?_
    obtain rfl:=sj ai
    obtain rfl:=aj _ rfl
    exact⟨_,Z,_,ak,f.weak trivial,m⟩
  ·rintro a w ⟨_,rfl,ad,aU,f,m⟩
   refine Ac ?_
   refine Ad f Z fun a f=>Aa ?_
   refine Ap ?_
   obtain rfl:=sj hd
   exact⟨[(.bool true)],⟨f.get _ _ Z,trivial⟩,f.defers,_,[],aU,m,Z,Z⟩
theorem Wk.g {W w:World}{G:GH}{H:List Itm}{v0:Value}{x0:(List Int)}(m:Mem W G w (H))(h0:RSl (RI .i64) G v0 x0){y:((List Int))}(hd:D.g x0=some y):
  Calls Tryz.prog 95 #[v0] w (Res W G H (fun G' Ho v=>∃r0:Value,∃i0:Itm,Ho=[i0]∧r0=v∧Ow (RI .i64) 2 G' i0 r0 y)):=by
 refine Ar (args:=[v0]) (N:=6) [.tmp 2] Tryz.func95 Z Z (Nat.le_of_ble_eq_true Z) Z fun a f=> ?_
 unfold D.g at hd
 refine Ac ?_
 refine Ad f Z fun a f=>Aa (Ac ?_)
 refine A5 (R:=(RI .i64)) (xs:=([]:List Int)) (RI.one _) m T31 f Z Z Z (by decide) (All2.nil _) fun aa ab w a m ac f=>Ab f Z fun a f=> ?_
 obtain⟨ad,ae,hd⟩:=bind_some hd
 refine Bj (RI.one _) 0 m ac Z T31 Z (by decide) f Z Z Z (h0.src m) ae fun af ag w a m ah f=>Ad f Z fun a f=>Aa ?_
 refine Ap ?_
 obtain rfl:=sj hd
 exact⟨[ag],⟨f.get _ _ Z,trivial⟩,f.defers,_,[af],gr,m,_,_,Z,Z,ah⟩
theorem Wk.i {W w:World}{G:GH}{H:List Itm}{v0:Value}{x0:(List Int)}{x1:Int}(m:Mem W G w (H))(h0:RSl (RI .i64) G v0 x0){y:((List Int))}(hd:D.i x0 x1=some y):
  Calls Tryz.prog 85 #[v0,(.int .i64 x1)] w (Res W G H (fun G' Ho v=>∃r0:Value,Ho=[]∧r0=v∧RSl (RI .i64) G' r0 y)):=by
 refine Ar (args:=[v0,(.int .i64 x1)]) (N:=46) [.tmp 4] Tryz.func85 Z Z (Nat.le_of_ble_eq_true Z) Z fun a f=> ?_
 unfold D.i at hd
 refine Ac ?_
 refine Ad f Z fun a f=>Aa (Ac ?_)
 refine Ad f Z fun a f=>Aa (Af ?_)
 obtain⟨aa,ab,hd⟩:=bind_some hd
 refine AE (fun a w=>∃ac:Int,ac=aa∧∃(ad:GH),GLe G ad∧Fr a 46 [(0,v0),(1,(.int .i64 x1)),(5,(.int .i64 ac))]∧Mem W ad w (H)) ?_ ?_
 ·refine Ai ?_
  refine AB (fun ae a w=>∃af:Int,af=ae∧∃(ag:GH),GLe G ag∧Fr a 46 [(0,v0),(1,(.int .i64 x1)),(5,(.int .i64 af))]∧Mem W ag w (H)) ab ⟨_,Z,_,gr,f.k Z,m⟩ ?_
  clear ab f m
  rintro ae ah ai aj a w ⟨af,rfl,ag,ak,f,m⟩
  have h0:=rd1 ak h0
  refine Af (Ac ?_)
  refine Ab f Z fun a f=>Ab f Z fun a f=>AX Tryz.underlying31 f Z Z h0 fun a f=>Ag f Z Z AD fun a f=>Ab f Z fun a f=> ?_
  obtain⟨al,am,ai⟩:=bind_some ai
  refine Bw 7 (fun a w=>∃an,GLe ag an∧Mem W an w (H)∧Fr a 46 [(0,v0),(1,(.int .i64 x1)),(5,(.int .i64 af)),(7,(.int .i64 af)),(8,v0),(9,(.int .i64 (x0.length:Int))),(10,(.bool (decide (af<(x0.length:Int))))),(11,(.bool (decide (af<(x0.length:Int))))),(18,(.bool al))]) ?_ ?_
  ·rcases Ae am with⟨ao,am⟩|⟨ao,am⟩
   ·refine Av f ao ?_
    refine Ab f Z fun a f=>Av f ao ?_
    refine Ab f Z fun a f=>Av f ao ?_
    obtain⟨ap,aq,am⟩:=bind_some am
    refine Bb T31 f Z Z Z h0 aq fun ar au a av aw f=> ?_
    subst aw
    refine Av f ao ?_
    refine Az m Pl2 f Z Z av fun a f=>Av f ao ?_
    refine Ab f Z fun a f=>Av f ao ?_
    refine Ag f Z Z AD fun a f=>l_o f (AN (f.eval Z) ao (f.eval Z)) fun a f=> ?_
    obtain rfl:=sj am
    exact⟨_,gr,m,f.k Z⟩
   ·refine Aw f ao fun a f=> ?_
    refine Aw f ao fun a f=>Aw f ao fun a f=>Aw f ao fun a f=>Aw f ao fun a f=>Aw f ao fun a f=>l_o f (AO (f.eval Z) ao (f.eval Z)) fun a f=> ?_
    obtain rfl:=sj am
    exact⟨_,gr,m,f.k Z⟩
  ·rintro a w ⟨an,ax,m,f⟩
   have h0:=rd1 ax h0
   refine Aa ?_
   rcases Ae ai with⟨ay,ai⟩|⟨ay,ai⟩
   ·refine Am f Z ay ?_
    refine An ?_
    refine Ai (Aj ?_)
    refine Ab f Z fun a f=>Ag f Z Z As fun a f=>Ad f Z fun a f=>Aa ?_
    obtain rfl:=sj ai
    exact⟨_,Z,_,Z,_,(gt ak ax),f.k Z,m⟩
   ·refine Ah f Z ay ?_
    refine Ax Z ?_
    obtain rfl:=sj ai
    obtain rfl:=aj _ rfl
    exact⟨_,Z,_,(gt ak ax),f.k Z,m⟩
 ·rintro a w ⟨ac,rfl,ad,az,f,m⟩
  have h0:=rd1 az h0
  refine Af (Ac ?_)
  refine Ab f Z fun a f=>Ab f Z fun a f=>AX Tryz.underlying31 f Z Z h0 fun a f=>Ag f Z Z AD fun a f=>Ab f Z fun a f=> ?_
  obtain⟨aA,aB,hd⟩:=bind_some hd
  refine Bw 7 (fun a w=>∃aC,GLe ad aC∧Mem W aC w (H)∧Fr a 46 [(0,v0),(1,(.int .i64 x1)),(5,(.int .i64 ac)),(21,(.int .i64 ac)),(22,v0),(23,(.int .i64 (x0.length:Int))),(24,(.bool (decide (ac<(x0.length:Int))))),(25,(.bool (decide (ac<(x0.length:Int))))),(32,(.bool aA))]) ?_ ?_
  ·rcases Ae aB with⟨aD,aB⟩|⟨aD,aB⟩
   ·refine Av f aD ?_
    refine Ab f Z fun a f=>Av f aD ?_
    refine Ab f Z fun a f=>Av f aD ?_
    obtain⟨aE,aF,aB⟩:=bind_some aB
    refine Bb T31 f Z Z Z h0 aF fun aG aH a aI aJ f=> ?_
    subst aJ
    refine Av f aD ?_
    refine Az m Pl2 f Z Z aI fun a f=>Av f aD ?_
    refine Ab f Z fun a f=>Av f aD ?_
    refine Ag f Z Z BG fun a f=>l_o f (AN (f.eval Z) aD (f.eval Z)) fun a f=> ?_
    obtain rfl:=sj aB
    exact⟨_,gr,m,f.k Z⟩
   ·refine Aw f aD fun a f=> ?_
    refine Aw f aD fun a f=>Aw f aD fun a f=>Aw f aD fun a f=>Aw f aD fun a f=>Aw f aD fun a f=>l_o f (AO (f.eval Z) aD (f.eval Z)) fun a f=> ?_
    obtain rfl:=sj aB
    exact⟨_,gr,m,f.k Z⟩
  ·rintro a w ⟨aC,aK,m,f⟩
   have h0:=rd1 aK h0
   refine Aa ?_
   rcases Ae hd with⟨aL,hd⟩|⟨aL,hd⟩
   ·refine Am f Z aL ?_
    refine Ac ?_
    refine Ab f Z fun a f=>Ad f Z fun a f=>Aa ?_
    refine Ap ?_
    obtain rfl:=sj hd
    exact⟨[v0],⟨f.get _ _ Z,trivial⟩,f.defers,_,[],(gt az aK),m,_,Z,Z,h0⟩
   ·refine Ah f Z aL ?_
    refine An ?_
    refine Ac ?_
    refine Ab f Z fun a f=>Ab f Z fun a f=> ?_
    obtain⟨aM,aN,hd⟩:=bind_some hd
    refine FI T31 f Z Z h0 (.inl ⟨Z,Z⟩) (.inr ⟨_,_,Z,Z⟩) aN fun aO a aP f=> ?_
    obtain⟨aQ,aR,hd⟩:=bind_some hd
    refine AF f Z Tryz.call95 (Wk.g m aP aR) fun aS aT aU w aV m aW a f=> ?_
    obtain⟨aX,aY,rfl,rfl,aZ⟩:=aW
    have h0:=rd1 aV h0
    have aP:=rd1 aV aP
    refine Ab f Z fun a f=>A5 (R:=(RI .i64)) (xs:=([x1]:List Int)) (RI.one _) m T31 f Z Z Z (by decide) (All2.cons Z (All2.nil _)) fun a0 a1 w a m a2 f=> ?_
    obtain⟨a3,a4,hd⟩:=bind_some hd
    refine Bj (RI.one _) 1 m aZ Z T31 Z (by decide) f Z Z Z (Ow.src (j:=0) a2 m Z) a4 fun a5 a6 w a m a7 f=>Ad f Z fun a f=>Aa (Ac ?_)
    refine Ab f Z fun a f=>Ab f Z fun a f=>Ab f Z fun a f=> ?_
    obtain⟨a8,a9,hd⟩:=bind_some hd
    refine FI T31 f Z Z h0 (.inr ⟨_,_,Z,Z⟩) (.inl ⟨Z,Z⟩) a9 fun ba a bb f=> ?_
    obtain⟨bc,bd,hd⟩:=bind_some hd
    refine Bj (RI.one _) 1 m a7 Z T31 Z (by decide) f Z Z Z (bb.src m) bd fun be bf w a m bg f=>Ad f Z fun a f=>Aa ?_
    refine Ap ?_
    have m:=m.front 1 rfl
    obtain⟨bh,bi,m,bj⟩:=Ow.stamp (RI.mono _) bg m
    have h0:=rd1 bi h0
    have a2:=od1 bi a2
    have m:Mem W bh w H:=Mem.drop (H':=[a0]) m
    obtain rfl:=sj hd
    exact⟨[bf],⟨f.get _ _ Z,trivial⟩,f.defers,_,[],(gt az (gt aK (gt aV bi))),m,_,Z,Z,bj⟩
theorem Wk.G {W w:World}{G:GH}{H:List Itm}{v0_0:Value}{it0_0:Itm}{x0_0:(List (List Int))}{x1:Int}{x2:Int}(m:Mem W G w (it0_0::H))(o0_0:Ow (RSl (RI .i64)) 31 G it0_0 v0_0 x0_0){y:((List (List Int)))}(hd:D.G x0_0 x1 x2=some y):
  Calls Tryz.prog 68 #[(.agg #[v0_0]),(.int .i64 x1),(.int .i64 x2)] w (Res W G H (fun G' Ho v=>∃i0:Itm,Ho=[i0]∧v=(.agg #[v0_0])∧Ow (RSl (RI .i64)) 31 G' i0 v0_0 y)):=by
 refine Ar (args:=[(.agg #[v0_0]),(.int .i64 x1),(.int .i64 x2)]) (N:=30) [.cell 6 29] Tryz.func68 Z Z (Nat.le_of_ble_eq_true Z) Z fun a f=> ?_
 unfold D.G at hd
 refine Ac ?_
 refine Bn (cs:=[v0_0]) m f Z Z Z fun aa w a m f=>BF (cs:=[(.slice none 0 0)]) Tryz.zeroValue29 m f Z Z fun ab w a m f=>Aa (Af ?_)
 refine A7 11 AJ (by kernel_rfl) m ?_
 refine Cg 0 11 Tryz.underlying29 Z Tryz.sizeOf27 Z f Z fun a f=>BS 1 11 1 Bk Z Z Z f Z fun a f=>Ak 2 11 Z f Z fun a f=>Cg 3 11 Tryz.underlying29 Z Tryz.sizeOf27 Z f Z fun a f=>BS 4 11 1 Bk Z Z Z f Z fun a f=>Ak 5 11 Z f Z fun a f=> ?_
 obtain⟨ac,ad,hd⟩:=bind_some hd
 refine AT 6 11 2 m o0_0 T27 ad Z f Z Z fun ae a af f=>Ba 7 11 2 o0_0 AS af ad Z f Z fun ag a ah f=>Ak 8 11 Z f Z fun a f=>BJ (i:=9) Z (by kernel_rfl) Z fun ai w aj m ak ak=> ?_
 have ah:=rd1 aj ah
 have o0_0:=Ow.mono (RSl.mono (RI.mono _)) aj o0_0
 obtain⟨al,am,hd⟩:=bind_some hd
 refine AF f Z Tryz.call85 (Wk.i m ah am) fun an ao ap w aq m ar a f=> ?_
 obtain⟨au,rfl,rfl,av⟩:=ar
 have ah:=rd1 aq ah
 have o0_0:=Ow.mono (RSl.mono (RI.mono _)) aq o0_0
 refine Aa ?_
 refine ak ao [] _ _ aq m ?_
 obtain⟨aw,ax,hd⟩:=bind_some hd
 refine AT 10 11 2 m o0_0 T27 ax Z f Z Z fun ay a az f=>AV fun aA w aB m=> ?_
 have ah:=rd1 aB ah
 have av:=rd1 aB av
 have o0_0:=Ow.mono (RSl.mono (RI.mono _)) aB o0_0
 refine AC 2 m o0_0 Z Tryz.sizeOf31 f Z Z az ax av.cells av.one1 av fun aC w m aD=>Aa (Af ?_)
 refine A7 11 AJ (by kernel_rfl) m ?_
 refine Cg 0 11 Tryz.underlying29 Z Tryz.sizeOf27 Z f Z fun a f=>BS 1 11 1 Bk Z Z Z f Z fun a f=>Ak 2 11 Z f Z fun a f=>Cg 3 11 Tryz.underlying29 Z Tryz.sizeOf27 Z f Z fun a f=>BS 4 11 1 Bk Z Z Z f Z fun a f=>Ak 5 11 Z f Z fun a f=> ?_
 obtain⟨aE,aF,hd⟩:=bind_some hd
 refine AT 6 11 2 m aD T27 aF Z f Z Z fun aG a aH f=>Ba 7 11 2 aD AS aH aF Z f Z fun aI a aJ f=>Ak 8 11 Z f Z fun a f=>BJ (i:=9) Z (by kernel_rfl) Z fun aK w aL m aM aM=> ?_
 have aJ:=rd1 aL aJ
 have aD:=Ow.mono (RSl.mono (RI.mono _)) aL aD
 obtain⟨aN,aO,hd⟩:=bind_some hd
 refine AF f Z Tryz.call85 (Wk.i m aJ aO) fun aP aQ aR w aS m aT a f=> ?_
 obtain⟨aU,rfl,rfl,aV⟩:=aT
 have aJ:=rd1 aS aJ
 have aD:=Ow.mono (RSl.mono (RI.mono _)) aS aD
 refine Aa ?_
 refine aM aQ [] _ _ aS m ?_
 obtain⟨aW,aX,hd⟩:=bind_some hd
 refine AT 10 11 2 m aD T27 aX Z f Z Z fun aY a aZ f=>AV fun a0 w a1 m=> ?_
 have aJ:=rd1 a1 aJ
 have aV:=rd1 a1 aV
 have aD:=Ow.mono (RSl.mono (RI.mono _)) a1 aD
 refine AC 2 m aD Z Tryz.sizeOf31 f Z Z aZ aX aV.cells aV.one1 aV fun a2 w m a3=>Aa (Ac ?_)
 refine AA 1 0 (ds:=[v0_0]) m AW f Z Z Z Z Z fun a f=>AR 0 0 (ds:=[v0_0]) m Tryz.sizeOf29 f Z Z Z (AM (Ow.one1 2 m a3 Z) A6) Z (Nat.le_of_ble_eq_true Z) Z fun w m=>Aa ?_
 refine Ap ?_
 have a4:=CL (P:=Tryz.prog) 0 m AW f (s:=6) rfl rfl rfl
 have m:=m.front 2 rfl
 have m:=m.eraseAt 2
 have m:=m.eraseAt 1
 obtain rfl:=sj hd
 exact⟨[(.agg #[v0_0])],⟨a4,trivial⟩,f.defers,_,[a2],(gt aj (gt aq (gt aB (gt aL (gt aS a1))))),m,_,Z,Z,a3⟩
theorem Wk.h0 {W w:World}{G:GH}{H:List Itm}{v1:Value}{x0:Int}{x1:(List (List Int))}(m:Mem W G w (H))(h1:RSl (RSl (RI .i64)) G v1 x1){y:((List (List Int)))×Bool}(hd:D.h0 x0 x1=some y):
  Calls Tryz.prog 30 #[(.int .i64 x0),v1] w (Res W G H (fun G' Ho v=>∃r0:Value,∃i0:Itm,Ho=[i0]∧v= .tuple #[(.agg #[r0]),(.bool y.2)]∧Ow (RSl (RI .i64)) 31 G' i0 r0 y.1)):=by
 refine Ar (args:=[(.int .i64 x0),v1]) (N:=56) [.cell 4 29,.tmp 5] Tryz.func30 Z Z (Nat.le_of_ble_eq_true Z) Z fun a f=> ?_
 unfold D.h0 at hd
 refine Ac ?_
 refine BF (cs:=[(.slice none 0 0)]) Tryz.zeroValue29 m f Z Z fun aa w a m f=>Ad f Z fun a f=>Aa (Af (Ac ?_))
 refine Ab f Z fun a f=> ?_
 obtain⟨ab,ac,hd⟩:=bind_some hd
 refine AY f Z Tryz.call66 (Wk.c m ac) fun ad w ae m a f=> ?_
 have h1:=rd2 ae h1
 refine l_o f (Bp (f.eval Z)) fun a f=>Ab f Z fun a f=> ?_
 refine Bw 4 (fun a w=>∃af,GLe ad af∧Mem W af w (Itm.box aa 29 [(.slice none 0 0)]::H)∧Fr a 56 [(0,(.int .i64 x0)),(1,v1),(4,(.pointer (some ⟨aa,0,none⟩))),(8,(.int .i64 x0)),(9,(.bool ab)),(10,(.bool (!ab))),(11,(.bool (!ab))),(15,(.bool ((!ab)||(decide ((120:Int)<(x1.length:Int))))))]) ?_ ?_
 ·rcases Bool.eq_false_or_eq_true (!ab) with ag|ag
  ·refine Aw f ag fun a f=> ?_
   refine Aw f ag fun a f=>Aw f ag fun a f=>l_o f (AN (f.eval Z) ag (f.eval Z)) fun a f=> ?_
   exact⟨_,gr,m,f.weak ⟨Z,Z,Z,Z,Z,Z,Z,by rw[ag];rfl,trivial⟩⟩
  ·refine Av f ag ?_
   refine Ab f Z fun a f=>Av f ag ?_
   refine AX Tryz.underlying27 f Z Z h1 fun a f=>Av f ag ?_
   refine Ag f Z Z Cc fun a f=>l_o f (AO (f.eval Z) ag (f.eval Z)) fun a f=> ?_
   exact⟨_,gr,m,f.weak ⟨Z,Z,Z,Z,Z,Z,Z,by rw[ag];rfl,trivial⟩⟩
 ·rintro a w ⟨af,ah,m,f⟩
  have h1:=rd2 ah h1
  refine Aa ?_
  rcases Ae hd with⟨ai,hd⟩|⟨ai,hd⟩
  ·refine Am f Z ai ?_
   refine Ac ?_
   have aj:∀w,(Instr.build 29 #[]).run Tryz.prog w= .ok (.agg #[(.slice none 0 0)]) w:=by intro w;simp[Instr.build,Instr.fill,CM,Cx,B9,Cn,BY,Cu]
   refine Dc f Z Z aj fun a f=>AR 0 0 (ds:=[(.slice none 0 0)]) m Tryz.sizeOf29 f Z Z Z (AM Z A6) Z (Nat.le_of_ble_eq_true Z) Z fun w m=>Ad f Z fun a f=>Aa ?_
   refine Ap ?_
   obtain⟨ak,m,al⟩:=Ow.nil (RSl (RI .i64)) 31 m
   have am:=CL (P:=Tryz.prog) 1 m AW f (s:=4) rfl rfl rfl
   have m:=m.eraseAt 1
   obtain rfl:=sj hd
   exact⟨[(.agg #[(.slice none 0 0)]),(.bool false)],⟨am,f.get _ _ Z,trivial⟩,f.defers,_,[ak],(gt ae ah),m,_,_,Z,Z,al⟩
  ·refine Ah f Z ai ?_
   refine An ?_
   refine Ac ?_
   refine Ab f Z fun a f=> ?_
   obtain⟨an,ao,hd⟩:=bind_some hd
   refine AF f Z Tryz.call67 (Wk.K0 m ao) fun ap aq ar w au m av a f=> ?_
   obtain⟨aw,ax,rfl,rfl,ay⟩:=av
   have h1:=rd2 au h1
   refine BF (cs:=[(.slice none 0 0)]) Tryz.zeroValue29 m f Z Z fun az w a m f=>AR 0 0 (ds:=[aw]) m Tryz.sizeOf29 f Z Z Z (AM (Ow.one1 1 m ay Z) A6) Z (Nat.le_of_ble_eq_true Z) Z fun w m=>Aa (Af (Ac ?_))
   refine Ad f Z fun a f=>Aa ?_
   obtain⟨aA,aB,hd⟩:=bind_some hd
   refine AE (fun a w=>∃q_213':(List (List Int)),aA= .inl q_213'∧∃aC:List (List Int),aC=q_213'∧∃(aD:GH) (aE:Itm),GLe aq aD∧Fr a 56 [(4,(.pointer (some ⟨aa,0,none⟩))),(6,(.pointer (some ⟨az,0,none⟩)))]∧Mem W aD w (Itm.box aa 29 [(.slice none 0 0)]::Itm.box az 29 [aw]::aE::H)∧Ow (RSl (RI .i64)) 31 aD aE aw aC) ?_ ?_
   ·refine Ai ?_
    have m:=m.front 2 rfl
    refine AB (fun aF a w=>∃aG:Int,∃aH:List (List Int),(aG,aH)=aF∧∃(aI:GH) (aJ:Itm),GLe aq aI∧Fr a 56 [(0,(.int .i64 x0)),(1,v1),(4,(.pointer (some ⟨aa,0,none⟩))),(6,(.pointer (some ⟨az,0,none⟩))),(7,(.int .i64 aG))]∧Mem W aI w (Itm.box aa 29 [(.slice none 0 0)]::Itm.box az 29 [aw]::aJ::H)∧Ow (RSl (RI .i64)) 31 aI aJ aw aH) aB ⟨_,_,Z,_,ax,gr,f.k Z,m,ay⟩ ?_
    clear aB f m
    rintro aF aK aL aM a w ⟨aG,aH,rfl,aI,aJ,aN,f,m,aO⟩
    have h1:=rd2 aN h1
    refine Af (Ac ?_)
    refine Ab f Z fun a f=>Ab f Z fun a f=>AX Tryz.underlying27 f Z Z h1 fun a f=>Ag f Z Z AD fun a f=>Aa ?_
    rcases Ae aL with⟨aP,aL⟩|⟨aP,aL⟩
    ·refine Am f Z aP ?_
     refine An ?_
     refine Af (Ai (Af (Ac ?_)))
     refine Ab f Z fun a f=>Ab f Z fun a f=> ?_
     obtain⟨aQ,aR,aL⟩:=bind_some aL
     refine Bb T27 f Z Z Z h1 aR fun aS aT a aU aV f=>Az m AS f Z Z aU fun a f=>AX Tryz.underlying31 f Z Z aV fun a f=>Ag f Z Z CS fun a f=>Ab f Z fun a f=> ?_
     obtain⟨aW,aX,aL⟩:=bind_some aL
     refine Bw 8 (fun a w=>∃aY,GLe aI aY∧Mem W aY w (Itm.box aa 29 [(.slice none 0 0)]::Itm.box az 29 [aw]::aJ::H)∧Fr a 56 [(0,(.int .i64 x0)),(1,v1),(4,(.pointer (some ⟨aa,0,none⟩))),(6,(.pointer (some ⟨az,0,none⟩))),(7,(.int .i64 aG)),(22,(.bool (decide (aG<(x1.length:Int))))),(25,v1),(26,(.int .i64 aG)),(27,aS),(28,aT),(29,(.int .i64 (aQ.length:Int))),(30,(.bool ((aQ.length:Int) !=2))),(31,(.bool ((aQ.length:Int) !=2))),(39,(.bool aW))]) ?_ ?_
     ·rcases Ae aX with⟨aZ,aX⟩|⟨aZ,aX⟩
      ·refine Aw f aZ fun a f=> ?_
       refine Aw f aZ fun a f=>Aw f aZ fun a f=>Aw f aZ fun a f=>Aw f aZ fun a f=>Aw f aZ fun a f=>Aw f aZ fun a f=>l_o f (AN (f.eval Z) aZ (f.eval Z)) fun a f=> ?_
       obtain rfl:=sj aX
       exact⟨_,gr,m,f.k Z⟩
      ·refine Av f aZ ?_
       refine Ab f Z fun a f=>Av f aZ ?_
       refine Ab f Z fun a f=>Av f aZ ?_
       obtain⟨a0,a1,aX⟩:=bind_some aX
       refine Bb T27 f Z Z Z h1 a1 fun a2 a3 a a4 a5 f=>Av f aZ ?_
       refine Az m AS f Z Z a4 fun a f=>Av f aZ ?_
       refine Ab f Z fun a f=>Av f aZ ?_
       obtain⟨a6,a7,aX⟩:=bind_some aX
       refine AY f Z Tryz.call50 (Wk.q m a5 a7) fun a8 w a9 m a f=> ?_
       have h1:=rd2 a9 h1
       have aU:=At.mono a9 aU
       have aV:=rd1 a9 aV
       have a4:=At.mono a9 a4
       have a5:=rd1 a9 a5
       have aO:=Ow.mono (RSl.mono (RI.mono _)) a9 aO
       refine Av f aZ ?_
       refine l_o f (Bp (f.eval Z)) fun a f=>l_o f (AO (f.eval Z) aZ (f.eval Z)) fun a f=> ?_
       obtain rfl:=sj aX
       exact⟨_,a9,m,f.k Z⟩
     ·rintro a w ⟨aY,ba,m,f⟩
      have h1:=rd2 ba h1
      have aU:=At.mono ba aU
      have aV:=rd1 ba aV
      have aO:=Ow.mono (RSl.mono (RI.mono _)) ba aO
      refine Aa ?_
      rcases Ae aL with⟨bb,aL⟩|⟨bb,aL⟩
      ·refine Am f Z bb ?_
       refine Ac ?_
       have bc:∀w,(Instr.build 29 #[]).run Tryz.prog w= .ok (.agg #[(.slice none 0 0)]) w:=by intro w;simp[Instr.build,Instr.fill,CM,Cx,B9,Cn,BY,Cu]
       refine Dc f Z Z bc fun a f=>AR 0 0 (ds:=[(.slice none 0 0)]) m Tryz.sizeOf29 f Z Z Z (AM Z A6) Z (Nat.le_of_ble_eq_true Z) Z fun w m=>Ad f Z fun a f=>Aa ?_
       refine Ap ?_
       obtain⟨bd,m,be⟩:=Ow.nil (RSl (RI .i64)) 31 m
       have bf:=CL (P:=Tryz.prog) 1 m AW f (s:=4) rfl rfl rfl
       have m:=m.front 3 rfl
       have m:=m.front 1 rfl
       have m:Mem W aY w (bd::aJ::Itm.box aa 29 [(.slice none 0 0)]::H):=m.eraseAt 3
       have m:=m.eraseAt 2
       have m:=m.eraseAt 1
       obtain rfl:=sj aL
       obtain rfl:=aM _ rfl
       obtain rfl:=sj hd
       exact⟨[(.agg #[(.slice none 0 0)]),(.bool false)],⟨bf,f.get _ _ Z,trivial⟩,f.defers,_,[bd],(gt ae (gt ah (gt au (gt aN ba)))),m,_,_,Z,Z,be⟩
      ·refine Ah f Z bb ?_
       refine An ?_
       refine A7 13 AJ (by kernel_rfl) m ?_
       refine BC (i:=0) (ds:=[aw]) 13 1 AW Z Z Z Z (by kernel_rfl) Z f Z Z Z fun a f=>Ak 1 13 Z f Z fun a f=>Ak 2 13 Z f Z fun a f=> ?_
       obtain⟨bg,bh,aL⟩:=bind_some aL
       refine BZ 3 13 T27 h1 bh Z f Z Z fun bi bj a bk bl f=>B2 4 13 AS bk Z f Z fun a f=> ?_
       obtain⟨bm,bn,aL⟩:=bind_some aL
       refine BZ 5 13 T31 bl bn Z f Z Z fun bo bp a bq br f=> ?_
       subst br
       refine B2 6 13 Pl2 bq Z f Z fun a f=>Ak 7 13 Z f Z fun a f=>Ak 8 13 Z f Z fun a f=> ?_
       obtain⟨bs,bt,aL⟩:=bind_some aL
       refine BZ 9 13 T27 h1 bt Z f Z Z fun bu bv a bw bx f=>B2 10 13 AS bw Z f Z fun a f=> ?_
       obtain⟨bz,bA,aL⟩:=bind_some aL
       refine BZ 11 13 T31 bx bA Z f Z Z fun bB bC a bD bE f=> ?_
       subst bE
       refine B2 12 13 Pl2 bD Z f Z fun a f=>AV fun bF w bG m=> ?_
       have h1:=rd2 bG h1
       have bk:=At.mono bG bk
       have bl:=rd1 bG bl
       have bq:=At.mono bG bq
       have bw:=At.mono bG bw
       have bx:=rd1 bG bx
       have bD:=At.mono bG bD
       have aO:=Ow.mono (RSl.mono (RI.mono _)) bG aO
       have m:Mem W bF w (aJ::Itm.box aa 29 [(.slice none 0 0)]::Itm.box az 29 [aw]::H):=m.front 2 rfl
       obtain⟨bH,bI,aL⟩:=bind_some aL
       refine AF f Z Tryz.call68 (Wk.G m aO bI) fun bJ bK bL w bM m bN a f=> ?_
       obtain⟨bO,rfl,rfl,bP⟩:=bN
       have h1:=rd2 bM h1
       have bk:=At.mono bM bk
       have bl:=rd1 bM bl
       have bq:=At.mono bM bq
       have bw:=At.mono bM bw
       have bx:=rd1 bM bx
       have bD:=At.mono bM bD
       refine AR 2 0 (ds:=[aw]) m Tryz.sizeOf29 f Z Z Z (AM (Ow.one1 0 m bP Z) A6) Z (Nat.le_of_ble_eq_true Z) Z fun w m=>Aa (Aj ?_)
       refine Ab f Z fun a f=>Ag f Z Z As fun a f=>Ad f Z fun a f=>Aa ?_
       have m:=m.front 2 rfl
       have m:Mem W bK w (Itm.box aa 29 [(.slice none 0 0)]::Itm.box az 29 [aw]::bO::H):=m.front 2 rfl
       obtain rfl:=sj aL
       exact⟨_,Z,_,_,Z,_,bO,(gt aN (gt ba (gt bG bM))),f.k Z,m,bP⟩
    ·refine Ah f Z aP ?_
     refine Ax Z ?_
     obtain rfl:=sj aL
     obtain rfl:=aM _ rfl
     exact⟨_,Z,_,Z,_,aJ,aN,f.k Z,m,aO⟩
   ·rintro a w ⟨_,rfl,aC,rfl,aD,aE,bQ,f,m,bR⟩
    refine Ac ?_
    refine AA 1 0 (ds:=[aw]) m AW f Z Z Z Z Z fun a f=>AR 0 0 (ds:=[aw]) m Tryz.sizeOf29 f Z Z Z (AM (Ow.one1 2 m bR Z) A6) Z (Nat.le_of_ble_eq_true Z) Z fun w m=>Ad f Z fun a f=>Aa ?_
    refine Ap ?_
    have bS:=CL (P:=Tryz.prog) 0 m AW f (s:=4) rfl rfl rfl
    have m:=m.front 2 rfl
    have m:=m.eraseAt 2
    have m:=m.eraseAt 1
    obtain rfl:=sj hd
    exact⟨[(.agg #[aw]),(.bool true)],⟨bS,f.get _ _ Z,trivial⟩,f.defers,_,[aE],(gt ae (gt ah (gt au bQ))),m,_,_,Z,Z,bR⟩
theorem Wk.P0 {W w:World}{G:GH}{H:List Itm}{v0_0:Value}{b0:Nat}{x0_0:(List Int)}{x0_1:Int}{x0_2:Int}{x1:Int}(m:Mem W G w (Itm.box b0 53 [v0_0,(.int .i64 x0_1),(.int .u64 x0_2)]::H))(h0_0:RSl (RI .u8) G v0_0 x0_0){y:((List (List Int)))×((List Int))×Int×Int}(hd:D.P0 x0_0 x0_1 x0_2 x1=some y):
  Calls Tryz.prog 7 #[(.pointer (some ⟨b0,0,none⟩)),(.int .i64 x1)] w (Res W G H (fun G' Ho v=>∃r0:Value,∃i0:Itm,∃r2:Value,Ho=[i0,Itm.box b0 53 [r2,(.int .i64 y.2.2.1),(.int .u64 y.2.2.2)]]∧v=(.agg #[r0])∧Ow (RSl (RI .i64)) 31 G' i0 r0 y.1∧RSl (RI .u8) G' r2 y.2.1)):=by
 refine Ar (args:=[(.pointer (some ⟨b0,0,none⟩)),(.int .i64 x1)]) (N:=47) [.cell 4 29] Tryz.func7 Z Z (Nat.le_of_ble_eq_true Z) Z fun a f=> ?_
 unfold D.P0 at hd
 refine Ac ?_
 refine BF (cs:=[(.slice none 0 0)]) Tryz.zeroValue29 m f Z Z fun aa w a m f=>Aa (Ac ?_)
 refine Ab f Z fun a f=>Ab f Z fun a f=> ?_
 have m:Mem W G w (Itm.box b0 53 [v0_0,(.int .i64 x0_1),(.int .u64 x0_2)]::Itm.box aa 29 [(.slice none 0 0)]::H):=m.front 1 rfl
 obtain⟨ab,ac,hd⟩:=bind_some hd
 refine AF f Z Tryz.call29 (Wk.o m h0_0 ac) fun ad ae af w ag m ah a f=> ?_
 obtain⟨ai,rfl,rfl,aj⟩:=ah
 refine Ag f Z Z As fun a f=>Ad f Z fun a f=>Aa (Ac ?_)
 refine Ab f Z fun a f=> ?_
 obtain⟨ak,al,hd⟩:=bind_some hd
 refine AF f Z Tryz.call29 (Wk.o m aj al) fun am an ao w ap m aq a f=> ?_
 obtain⟨ar,rfl,rfl,au⟩:=aq
 refine Ag f Z Z As fun a f=>Ad f Z fun a f=>Aa (Ac ?_)
 refine A5 (R:=(RSl (RI .i64))) (xs:=([]:List (List Int))) (RSl.one _) m T27 f Z Z Z (by decide) (All2.nil _) fun av aw w a m ax f=>Ad f Z fun a f=>Aa (Af (Ac ?_))
 refine Ad f Z fun a f=>Aa ?_
 obtain⟨ay,az,hd⟩:=bind_some hd
 refine AE (fun a w=>∃aA:List (List Int),∃aB:List Int,∃aC:Int,∃aD:Int,(aA,aB,aC,aD)=ay∧∃(aE:GH) (aF:Value) (aG:Itm) (aH:Value),GLe an aE∧Fr a 47 [(4,(.pointer (some ⟨aa,0,none⟩))),(5,(.int .i64 (IntKind.i64.wrap (1+ab.1)))),(7,aF)]∧Mem W aE w (Itm.box aa 29 [(.slice none 0 0)]::Itm.box b0 53 [aH,(.int .i64 aC),(.int .u64 aD)]::aG::H)∧Ow (RSl (RI .i64)) 31 aE aG aF aA∧RSl (RI .u8) aE aH aB) ?_ ?_
 ·refine Ai ?_
  have m:=m.front 2 rfl
  have m:Mem W an w (Itm.box b0 53 [ar,(.int .i64 ak.2.2.1),(.int .u64 ak.2.2.2)]::Itm.box aa 29 [(.slice none 0 0)]::av::H):=m.front 2 rfl
  refine AB (fun aI a w=>∃aJ:List (List Int),∃aK:Int,∃aL:List Int,∃aM:Int,∃aN:Int,(aJ,aK,aL,aM,aN)=aI∧∃(aO:GH) (aP:Value) (aQ:Itm) (aR:Value),GLe an aO∧Fr a 47 [(0,(.pointer (some ⟨b0,0,none⟩))),(4,(.pointer (some ⟨aa,0,none⟩))),(5,(.int .i64 (IntKind.i64.wrap (1+ab.1)))),(6,(.int .i64 (IntKind.i64.wrap (1+ak.1)))),(7,aP),(8,(.int .i64 aK))]∧Mem W aO w (Itm.box b0 53 [aR,(.int .i64 aM),(.int .u64 aN)]::Itm.box aa 29 [(.slice none 0 0)]::aQ::H)∧Ow (RSl (RI .i64)) 31 aO aQ aP aJ∧RSl (RI .u8) aO aR aL) az ⟨_,_,_,_,_,Z,_,aw,av,ar,gr,f.k Z,m,ax,au⟩ ?_
  clear az f m
  rintro aI aS aT aU a w ⟨aJ,aK,aL,aM,aN,rfl,aO,aP,aQ,aR,aV,f,m,aW,aX⟩
  refine Af (Ac ?_)
  refine Ab f Z fun a f=>Ab f Z fun a f=>Ag f Z Z AD fun a f=>Aa ?_
  rcases Ae aT with⟨aY,aT⟩|⟨aY,aT⟩
  ·refine Am f Z aY ?_
   refine An ?_
   refine Af (Ai (Ac ?_))
   refine Ad f Z fun a f=>Aa ?_
   obtain⟨aZ,a0,aT⟩:=bind_some aT
   refine AE (fun a w=>∃a1:List (List Int),∃a2:List Int,∃a3:Int,∃a4:Int,(a1,a2,a3,a4)=aZ∧∃(a5:GH) (a6:Value) (a7:Itm) (a8:Value),GLe aO a5∧Fr a 47 [(0,(.pointer (some ⟨b0,0,none⟩))),(4,(.pointer (some ⟨aa,0,none⟩))),(5,(.int .i64 (IntKind.i64.wrap (1+ab.1)))),(6,(.int .i64 (IntKind.i64.wrap (1+ak.1)))),(7,a6),(8,(.int .i64 aK))]∧Mem W a5 w (Itm.box b0 53 [a8,(.int .i64 a3),(.int .u64 a4)]::Itm.box aa 29 [(.slice none 0 0)]::a7::H)∧Ow (RSl (RI .i64)) 31 a5 a7 a6 a1∧RSl (RI .u8) a5 a8 a2) ?_ ?_
   ·refine Ai ?_
    refine AB (fun a9 a w=>∃ba:List (List Int),∃bb:Int,∃bc:List Int,∃bd:Int,∃be:Int,(ba,bb,bc,bd,be)=a9∧∃(bf:GH) (bg:Value) (bh:Itm) (bi:Value),GLe aO bf∧Fr a 47 [(0,(.pointer (some ⟨b0,0,none⟩))),(4,(.pointer (some ⟨aa,0,none⟩))),(5,(.int .i64 (IntKind.i64.wrap (1+ab.1)))),(6,(.int .i64 (IntKind.i64.wrap (1+ak.1)))),(7,bg),(8,(.int .i64 aK)),(9,(.int .i64 bb))]∧Mem W bf w (Itm.box b0 53 [bi,(.int .i64 bd),(.int .u64 be)]::Itm.box aa 29 [(.slice none 0 0)]::bh::H)∧Ow (RSl (RI .i64)) 31 bf bh bg ba∧RSl (RI .u8) bf bi bc) a0 ⟨_,_,_,_,_,Z,_,aP,aQ,aR,gr,f.k Z,m,aW,aX⟩ ?_
    clear a0 f m
    rintro a9 bj bk bl a w ⟨ba,bb,bc,bd,be,rfl,bf,bg,bh,bi,bm,f,m,bn,bo⟩
    refine Af (Ac ?_)
    refine Ab f Z fun a f=>Ab f Z fun a f=>Ag f Z Z AD fun a f=>Aa ?_
    rcases Ae bk with⟨bp,bk⟩|⟨bp,bk⟩
    ·refine Am f Z bp ?_
     refine An ?_
     refine Af (Ai (Ac ?_))
     refine Ab f Z fun a f=> ?_
     obtain⟨bq,br,bk⟩:=bind_some bk
     refine AF f Z Tryz.call29 (Wk.o m bo br) fun bs bt bu w bv m bw a f=> ?_
     obtain⟨bx,rfl,rfl,bz⟩:=bw
     have bn:=Ow.mono (RSl.mono (RI.mono _)) bv bn
     refine Ab f Z fun a f=>Ag f Z Z AD fun a f=>Aa ?_
     rcases Ae bk with⟨bA,bk⟩|⟨bA,bk⟩
     ·refine Am f Z bA ?_
      refine Aj ?_
      refine Ab f Z fun a f=>Ab f Z fun a f=>Ab f Z fun a f=>A5 (R:=(RI .i64)) (xs:=([bb,aK]:List Int)) (RI.one _) m T31 f Z Z Z (by decide) (All2.cons Z (All2.cons Z (All2.nil _))) fun bB bC w a m bD f=> ?_
      obtain⟨bE,bF,m,bG⟩:=Ow.stamp (RI.mono _) bD m
      have bz:=rd1 bF bz
      have bn:=Ow.mono (RSl.mono (RI.mono _)) bF bn
      refine A5 (R:=(RSl (RI .i64))) (xs:=([([bb,aK]:List Int)]:List (List Int))) (RSl.one _) m T27 f Z Z Z (by decide) (All2.cons bG (All2.nil _)) fun bH bI w a m bJ f=> ?_
      obtain⟨bK,bL,bk⟩:=bind_some bk
      refine Bj (RSl.one _) 3 m bn Z T27 Z (by decide) f Z Z Z (Ow.src (j:=0) bJ m Z) bL fun bM bN w a m bO f=>Ad f Z fun a f=>Aa (Aj ?_)
      refine Ab f Z fun a f=>Ag f Z Z As fun a f=>Ad f Z fun a f=>Aa ?_
      have m:=m.front 3 rfl
      have m:=m.front 3 rfl
      have m:Mem W bE w (Itm.box b0 53 [bx,(.int .i64 bq.2.2.1),(.int .u64 bq.2.2.2)]::Itm.box aa 29 [(.slice none 0 0)]::bM::bH::H):=m.front 3 rfl
      have m:Mem W bE w (Itm.box b0 53 [bx,(.int .i64 bq.2.2.1),(.int .u64 bq.2.2.2)]::Itm.box aa 29 [(.slice none 0 0)]::bM::H):=m.eraseAt 3
      obtain rfl:=sj bk
      exact⟨_,Z,_,_,_,_,_,Z,_,bN,bM,bx,(gt bm (gt bv bF)),f.k Z,m,bO,bz⟩
     ·refine Ah f Z bA ?_
      refine An ?_
      refine Aj ?_
      refine Ab f Z fun a f=>Ag f Z Z As fun a f=>Ad f Z fun a f=>Aa ?_
      obtain rfl:=sj bk
      exact⟨_,Z,_,_,_,_,_,Z,_,bg,bh,bx,(gt bm bv),f.k Z,m,bn,bz⟩
    ·refine Ah f Z bp ?_
     refine Ax Z ?_
     obtain rfl:=sj bk
     obtain rfl:=bl _ rfl
     exact⟨_,_,_,_,Z,_,bg,bh,bi,bm,f.k Z,m,bn,bo⟩
   ·rintro a w ⟨a1,a2,a3,a4,rfl,a5,a6,a7,a8,bP,f,m,bQ,bR⟩
    refine Aj ?_
    refine Ab f Z fun a f=>Ag f Z Z As fun a f=>Ad f Z fun a f=>Aa ?_
    obtain rfl:=sj aT
    exact⟨_,Z,_,_,_,_,_,Z,_,a6,a7,a8,(gt aV bP),f.k Z,m,bQ,bR⟩
  ·refine Ah f Z aY ?_
   refine Ax Z ?_
   have m:Mem W aO w (Itm.box aa 29 [(.slice none 0 0)]::Itm.box b0 53 [aR,(.int .i64 aM),(.int .u64 aN)]::aQ::H):=m.front 1 rfl
   obtain rfl:=sj aT
   obtain rfl:=aU _ rfl
   exact⟨_,_,_,_,Z,_,aP,aQ,aR,aV,f.k Z,m,aW,aX⟩
 ·rintro a w ⟨aA,aB,aC,aD,rfl,aE,aF,aG,aH,bS,f,m,bT,bU⟩
  refine Ac ?_
  refine Ab f Z fun a f=>Ab f Z fun a f=> ?_
  have m:Mem W aE w (aG::Itm.box aa 29 [(.slice none 0 0)]::Itm.box b0 53 [aH,(.int .i64 aC),(.int .u64 aD)]::H):=m.front 2 rfl
  obtain⟨bV,bW,m,bX⟩:=Ow.stamp (RSl.mono (RI.mono _)) bT m
  have bU:=rd1 bW bU
  obtain⟨bY,bZ,hd⟩:=bind_some hd
  refine AF f Z Tryz.call30 (Wk.h0 m bX bZ) fun b1 b2 b3 w b4 m b5 a f=> ?_
  obtain⟨b6,b7,rfl,rfl,b8⟩:=b5
  have bX:=rd2 b4 bX
  have bU:=rd1 b4 bU
  refine Ab f Z fun a f=>l_o f (Bt (f.eval Z) Z) fun a f=>l_o f (Bt (f.eval Z) Z) fun a f=>BF (cs:=[(.slice none 0 0)]) Tryz.zeroValue29 m f Z Z fun b9 w a m f=>AR 0 0 (ds:=[b6]) m Tryz.sizeOf29 f Z Z Z (AM (Ow.one1 1 m b8 Z) A6) Z (Nat.le_of_ble_eq_true Z) Z fun w m=>Ad f Z fun a f=>Aa (Ac ?_)
  refine AA 0 0 (ds:=[b6]) m AW f Z Z Z Z Z fun a f=>AR 2 0 (ds:=[b6]) m Tryz.sizeOf29 f Z Z Z (AM (Ow.one1 1 m b8 Z) A6) Z (Nat.le_of_ble_eq_true Z) Z fun w m=>Aa ?_
  refine Ap ?_
  have ca:=CL (P:=Tryz.prog) 2 m AW f (s:=4) rfl rfl rfl
  have m:=m.front 3 rfl
  have m:=m.front 2 rfl
  have m:Mem W b2 w (b7::Itm.box b0 53 [aH,(.int .i64 aC),(.int .u64 aD)]::Itm.box b9 29 [b6]::H):=m.eraseAt 3
  have m:=m.eraseAt 2
  obtain rfl:=sj hd
  exact⟨[(.agg #[b6])],⟨ca,trivial⟩,f.defers,_,[b7,Itm.box b0 53 [aH,(.int .i64 aC),(.int .u64 aD)]],(gt ag (gt ap (gt bS (gt bW b4)))),m,_,_,_,Z,Z,b8,bU⟩
theorem Wk.C0 {W w:World}{G:GH}{H:List Itm}{v0_0:Value}{b0:Nat}{x0_0:(List Int)}{x0_1:Int}{x0_2:Int}{x1:Int}(m:Mem W G w (Itm.box b0 53 [v0_0,(.int .i64 x0_1),(.int .u64 x0_2)]::H))(h0_0:RSl (RI .u8) G v0_0 x0_0){y:((List Int))×((List Int))×Int×Int}(hd:D.C0 x0_0 x0_1 x0_2 x1=some y):
  Calls Tryz.prog 8 #[(.pointer (some ⟨b0,0,none⟩)),(.int .i64 x1)] w (Res W G H (fun G' Ho v=>∃r0:Value,∃i0:Itm,∃r2:Value,Ho=[i0,Itm.box b0 53 [r2,(.int .i64 y.2.2.1),(.int .u64 y.2.2.2)]]∧r0=v∧Ow (RI .i64) 2 G' i0 r0 y.1∧RSl (RI .u8) G' r2 y.2.1)):=by
 refine Ar (args:=[(.pointer (some ⟨b0,0,none⟩)),(.int .i64 x1)]) (N:=44) [.tmp 4] Tryz.func8 Z Z (Nat.le_of_ble_eq_true Z) Z fun a f=> ?_
 unfold D.C0 at hd
 refine Ac ?_
 refine Ad f Z fun a f=>Aa (Ac ?_)
 refine A5 (R:=(RI .i64)) (xs:=([]:List Int)) (RI.one _) m T31 f Z Z Z (by decide) (All2.nil _) fun aa ab w a m ac f=>Ad f Z fun a f=>Aa (Af (Ac ?_))
 refine Ad f Z fun a f=>Aa ?_
 obtain⟨ad,ae,hd⟩:=bind_some hd
 refine AE (fun a w=>∃af:List Int,∃ag:List Int,∃ah:Int,∃ai:Int,(af,ag,ah,ai)=ad∧∃(aj:GH) (ak:Value) (al:Itm) (am:Value),GLe G aj∧Fr a 44 [(5,ak)]∧Mem W aj w (Itm.box b0 53 [am,(.int .i64 ah),(.int .u64 ai)]::al::H)∧Ow (RI .i64) 2 aj al ak af∧RSl (RI .u8) aj am ag) ?_ ?_
 ·refine Ai ?_
  have m:=m.front 1 rfl
  refine AB (fun an a w=>∃ao:List Int,∃ap:Int,∃aq:List Int,∃ar:Int,∃au:Int,(ao,ap,aq,ar,au)=an∧∃(av:GH) (aw:Value) (ax:Itm) (ay:Value),GLe G av∧Fr a 44 [(0,(.pointer (some ⟨b0,0,none⟩))),(1,(.int .i64 x1)),(5,aw),(6,(.int .i64 ap))]∧Mem W av w (Itm.box b0 53 [ay,(.int .i64 ar),(.int .u64 au)]::ax::H)∧Ow (RI .i64) 2 av ax aw ao∧RSl (RI .u8) av ay aq) ae ⟨_,_,_,_,_,Z,_,ab,aa,v0_0,gr,f.k Z,m,ac,h0_0⟩ ?_
  clear ae f m
  rintro an az aA aB a w ⟨ao,ap,aq,ar,au,rfl,av,aw,ax,ay,aC,f,m,aD,aE⟩
  refine Af (Ac ?_)
  refine Ab f Z fun a f=>Ab f Z fun a f=>Ag f Z Z AD fun a f=>Aa ?_
  rcases Ae aA with⟨aF,aA⟩|⟨aF,aA⟩
  ·refine Am f Z aF ?_
   refine An ?_
   refine Af (Ai (Ac ?_))
   refine Ab f Z fun a f=>Ab f Z fun a f=>Bl 1 m aD Z Tryz.underlying31 f Z Z fun a f=>Ag f Z Z As fun a f=> ?_
   obtain⟨aG,aH,aA⟩:=bind_some aA
   refine AF f Z Tryz.call29 (Wk.o m aE aH) fun aI aJ aK w aL m aM a f=> ?_
   obtain⟨aN,rfl,rfl,aO⟩:=aM
   have aD:=od1 aL aD
   refine Ad f Z fun a f=>Aa (Ac ?_)
   refine Ab f Z fun a f=>A5 (R:=(RI .i64)) (xs:=([0]:List Int)) (RI.one _) m T31 f Z Z Z (by decide) (All2.cons Z (All2.nil _)) fun aP aQ w a m aR f=> ?_
   obtain⟨aS,aT,aA⟩:=bind_some aA
   refine Bj (RI.one _) 2 m aD Z T31 Z (by decide) f Z Z Z (Ow.src (j:=0) aR m Z) aT fun aU aV w a m aW f=>Ad f Z fun a f=>Aa (Af (Ac ?_))
   refine Ab f Z fun a f=>Bl 2 m aW Z Tryz.underlying31 f Z Z fun a f=>Ag f Z Z A3 fun a f=>Ad f Z fun a f=>Aa ?_
   obtain⟨aX,aY,aA⟩:=bind_some aA
   refine AE (fun a w=>∃aZ:List Int,aZ=aX∧∃(a0:GH) (a1:Itm),GLe aJ a0∧Fr a 44 [(0,(.pointer (some ⟨b0,0,none⟩))),(1,(.int .i64 x1)),(5,aV),(6,(.int .i64 ap)),(7,(.int .i64 aG.1))]∧Mem W a0 w (Itm.box b0 53 [aN,(.int .i64 aG.2.2.1),(.int .u64 aG.2.2.2)]::a1::H)∧Ow (RI .i64) 2 a0 a1 aV aZ) ?_ ?_
   ·refine Ai ?_
    have m:=m.front 2 rfl
    have m:=m.front 2 rfl
    have m:Mem W aJ w (Itm.box b0 53 [aN,(.int .i64 aG.2.2.1),(.int .u64 aG.2.2.2)]::aU::H):=m.eraseAt 2
    refine AB (fun a2 a w=>∃a3:List Int,∃a4:Int,(a3,a4)=a2∧∃(a5:GH) (a6:Itm),GLe aJ a5∧Fr a 44 [(0,(.pointer (some ⟨b0,0,none⟩))),(1,(.int .i64 x1)),(5,aV),(6,(.int .i64 ap)),(7,(.int .i64 aG.1)),(8,(.int .i64 a4))]∧Mem W a5 w (Itm.box b0 53 [aN,(.int .i64 aG.2.2.1),(.int .u64 aG.2.2.2)]::a6::H)∧Ow (RI .i64) 2 a5 a6 aV a3) aY ⟨_,_,Z,_,aU,gr,f.k Z,m,aW⟩ ?_
    clear aY f m
    rintro a2 a7 a8 a9 a w ⟨a3,a4,rfl,a5,a6,ba,f,m,bb⟩
    have aO:=rd1 ba aO
    refine Af (Ac ?_)
    refine Ab f Z fun a f=>Ab f Z fun a f=>Ag f Z Z Cc fun a f=>Aa ?_
    rcases Ae a8 with⟨bc,a8⟩|⟨bc,a8⟩
    ·refine Am f Z bc ?_
     refine An ?_
     refine Af (Ai (Aj ?_))
     refine Ab f Z fun a f=>Ab f Z fun a f=>Ab f Z fun a f=>Ab f Z fun a f=>Ag f Z Z A3 fun a f=> ?_
     obtain⟨bd,be,a8⟩:=bind_some a8
     refine AQ 1 m bb Z T31 f Z Z Z be fun bf a bg f=>Br 1 m bb Z Pl2 f Z Z bg be fun bh a bi f=> ?_
     subst bi
     obtain⟨bj,bk,a8⟩:=bind_some a8
     refine AQ 1 m bb Z T31 f Z Z Z bk fun bl a bm f=>AC 1 m bb Z Tryz.sizeOf2 f Z Z bm bk Z Z Z fun bn w m bo=>Aa (Aj ?_)
     refine Ab f Z fun a f=>Ag f Z Z A3 fun a f=>Ad f Z fun a f=>Aa ?_
     obtain rfl:=sj a8
     exact⟨_,Z,_,_,Z,_,bn,ba,f.k Z,m,bo⟩
    ·refine Ah f Z bc ?_
     refine Ax Z ?_
     obtain rfl:=sj a8
     obtain rfl:=a9 _ rfl
     exact⟨_,Z,_,a6,ba,f.k Z,m,bb⟩
   ·rintro a w ⟨aZ,rfl,a0,a1,bp,f,m,bq⟩
    have aO:=rd1 bp aO
    refine Aj ?_
    refine Ab f Z fun a f=>Ab f Z fun a f=>Ab f Z fun a f=> ?_
    obtain⟨br,bs,aA⟩:=bind_some aA
    refine AQ 1 m bq Z T31 f Z Z Z bs fun bt a bu f=>AC 1 m bq Z Tryz.sizeOf2 f Z Z bu bs Z Z Z fun bv w m bw=>Aa (Aj ?_)
    refine Ab f Z fun a f=>Ag f Z Z As fun a f=>Ad f Z fun a f=>Aa ?_
    obtain rfl:=sj aA
    exact⟨_,Z,_,_,_,_,_,Z,_,aV,bv,aN,(gt aC (gt aL bp)),f.k Z,m,bw,aO⟩
  ·refine Ah f Z aF ?_
   refine Ax Z ?_
   obtain rfl:=sj aA
   obtain rfl:=aB _ rfl
   exact⟨_,_,_,_,Z,_,aw,ax,ay,aC,f.k Z,m,aD,aE⟩
 ·rintro a w ⟨af,ag,ah,ai,rfl,aj,ak,al,am,bx,f,m,bz,bA⟩
  refine Ac ?_
  refine Ab f Z fun a f=>Ad f Z fun a f=>Aa ?_
  refine Ap ?_
  have m:=m.front 1 rfl
  obtain rfl:=sj hd
  exact⟨[ak],⟨f.get _ _ Z,trivial⟩,f.defers,_,[al,Itm.box b0 53 [am,(.int .i64 ah),(.int .u64 ai)]],bx,m,_,_,_,Z,Z,bz,bA⟩
theorem Wk.c1 {W w:World}{G:GH}{H:List Itm}{x0:Int}{x1:Int}{x2:Int}(m:Mem W G w (H)){y:Bool}(hd:D.c1 x0 x1 x2=some y):
  Calls Tryz.prog 123 #[(.int .i64 x0),(.int .i64 x1),(.int .i64 x2)] w (Res W G H (fun _ Ho v=>Ho=[]∧v=(.bool y))):=by
 refine Ar (args:=[(.int .i64 x0),(.int .i64 x1),(.int .i64 x2)]) (N:=15) [.tmp 6] Tryz.func123 Z Z (Nat.le_of_ble_eq_true Z) Z fun a f=> ?_
 unfold D.c1 at hd
 refine Ac ?_
 refine Ad f Z fun a f=>Aa (Ac ?_)
 refine Ab f Z fun a f=>Ab f Z fun a f=>Ag f Z Z Cm fun a f=>Ab f Z fun a f=> ?_
 refine Bw 4 (fun a w=>∃aa,GLe G aa∧Mem W aa w (H)∧Fr a 15 [(0,(.int .i64 x0)),(1,(.int .i64 x1)),(2,(.int .i64 x2)),(7,(.int .i64 x1)),(8,(.int .i64 x0)),(9,(.bool (decide (x1≤x0)))),(10,(.bool (decide (x1≤x0)))),(14,(.bool ((decide (x1≤x0))&&(decide (x0≤x2)))))]) ?_ ?_
 ·rcases Bool.eq_false_or_eq_true (decide (x1≤x0)) with ab|ab
  ·refine Av f ab ?_
   refine Ab f Z fun a f=>Av f ab ?_
   refine Ab f Z fun a f=>Av f ab ?_
   refine Ag f Z Z Cm fun a f=>l_o f (AN (f.eval Z) ab (f.eval Z)) fun a f=> ?_
   exact⟨_,gr,m,f.weak ⟨Z,Z,Z,Z,Z,Z,Z,by rw[ab];rfl,trivial⟩⟩
  ·refine Aw f ab fun a f=> ?_
   refine Aw f ab fun a f=>Aw f ab fun a f=>l_o f (AO (f.eval Z) ab (f.eval Z)) fun a f=> ?_
   exact⟨_,gr,m,f.weak ⟨Z,Z,Z,Z,Z,Z,Z,by rw[ab];rfl,trivial⟩⟩
 ·rintro a w ⟨aa,ac,m,f⟩
  refine Ad f Z fun a f=>Aa ?_
  refine Ap ?_
  obtain rfl:=sj hd
  exact⟨[(.bool ((decide (x1≤x0))&&(decide (x0≤x2))))],⟨f.get _ _ Z,trivial⟩,f.defers,_,[],ac,m,Z,Z⟩
theorem Wk.g0 {W w:World}{G:GH}{H:List Itm}{v0:Value}{x0:(List Int)}{x1:Int}(m:Mem W G w (H))(h0:RSl (RI .i64) G v0 x0){y:Bool}(hd:D.g0 x0 x1=some y):
  Calls Tryz.prog 104 #[v0,(.int .i64 x1)] w (Res W G H (fun _ Ho v=>Ho=[]∧v=(.bool y))):=by
 refine Ar (args:=[v0,(.int .i64 x1)]) (N:=33) [.tmp 4] Tryz.func104 Z Z (Nat.le_of_ble_eq_true Z) Z fun a f=> ?_
 unfold D.g0 at hd
 refine Ac ?_
 refine Ad f Z fun a f=>Aa (Af (Ac ?_))
 refine Ab f Z fun a f=>AX Tryz.underlying31 f Z Z h0 fun a f=>Ab f Z fun a f=>Aa ?_
 obtain⟨aa,ab,hd⟩:=bind_some hd
 refine AE (fun a w=>∃q_181':Unit,aa= .inl q_181'∧∃(ac:GH),GLe G ac∧Fr a 33 []∧Mem W ac w (H)) ?_ ?_
 ·refine Ai ?_
  refine AB (fun ad a w=>∃ae:Int,ae=ad∧∃(af:GH),GLe G af∧Fr a 33 [(0,v0),(1,(.int .i64 x1)),(7,v0),(8,(.int .i64 (x0.length:Int))),(9,(.int .i64 ae))]∧Mem W af w (H)) ab ⟨_,Z,_,gr,f.k Z,m⟩ ?_
  clear ab f m
  rintro ad ag ah ai a w ⟨ae,rfl,af,aj,f,m⟩
  have h0:=rd1 aj h0
  refine Ac ?_
  refine Ag f Z Z AD fun a f=>Aa (Af ?_)
  rcases Ae ah with⟨ak,ah⟩|⟨ak,ah⟩
  ·refine Am f Z ak ?_
   refine An ?_
   refine Af (Ai (Ac ?_))
   refine Ab f Z fun a f=> ?_
   obtain⟨al,am,ah⟩:=bind_some ah
   refine Bb T31 f Z Z Z h0 am fun an ao a ap aq f=> ?_
   subst aq
   refine Az m Pl2 f Z Z ap fun a f=>Ad f Z fun a f=>Ad f Z fun a f=>Aa (Ac ?_)
   refine Ab f Z fun a f=>Ab f Z fun a f=>Ag f Z Z A3 fun a f=> ?_
   obtain⟨ar,au,ah⟩:=bind_some ah
   refine AY f Z Tryz.call123 (Wk.c1 m au) fun av w aw m a f=> ?_
   have h0:=rd1 aw h0
   refine l_o f (Bp (f.eval Z)) fun a f=>Ab f Z fun a f=> ?_
   obtain⟨ax,ay,ah⟩:=bind_some ah
   refine Bw 12 (fun a w=>∃az,GLe av az∧Mem W az w (H)∧Fr a 33 [(0,v0),(1,(.int .i64 x1)),(5,(.int .i64 ae)),(6,(.int .i64 al)),(7,v0),(8,(.int .i64 (x0.length:Int))),(9,(.int .i64 ae)),(14,(.int .i64 al)),(15,(.int .i64 x1)),(16,(.int .i64 (IntKind.i64.wrap (x1-1)))),(17,(.bool ar)),(18,(.bool (!ar))),(19,(.bool (!ar))),(31,(.bool ax))]) ?_ ?_
   ·rcases Ae ay with⟨aA,ay⟩|⟨aA,ay⟩
    ·refine Aw f aA fun a f=> ?_
     refine Aw f aA fun a f=>Aw f aA fun a f=>Eo f Z Z Z fun a f=>Eo f Z Z Z fun a f=>Eo f Z Z Z fun a f=>Eo f Z Z Z fun a f=>Eo f Z Z Z fun a f=>Eo f Z Z Z fun a f=>Eo f Z Z Z fun a f=>Aw f aA fun a f=>l_o f (AN (f.eval Z) aA (f.eval Z)) fun a f=> ?_
     obtain rfl:=sj ay
     exact⟨_,gr,m,f.k Z⟩
    ·refine Av f aA ?_
     refine Ab f Z fun a f=>Av f aA ?_
     refine Ag f Z Z Cc fun a f=>Av f aA ?_
     refine Ab f Z fun a f=> ?_
     obtain⟨aB,aC,ay⟩:=bind_some ay
     refine Bw 8 (fun a w=>∃aD,GLe av aD∧Mem W aD w (H)∧Fr a 33 [(0,v0),(1,(.int .i64 x1)),(5,(.int .i64 ae)),(6,(.int .i64 al)),(7,v0),(8,(.int .i64 (x0.length:Int))),(9,(.int .i64 ae)),(14,(.int .i64 al)),(15,(.int .i64 x1)),(16,(.int .i64 (IntKind.i64.wrap (x1-1)))),(17,(.bool ar)),(18,(.bool (!ar))),(19,(.bool (!ar))),(20,(.int .i64 ae)),(21,(.bool (decide ((0:Int)<ae)))),(22,(.bool (decide ((0:Int)<ae)))),(30,(.bool aB))]) ?_ ?_
     ·rcases Ae aC with⟨aE,aC⟩|⟨aE,aC⟩
      ·refine Av f aE ?_
       refine Ab f Z fun a f=>Av f aE ?_
       refine Ab f Z fun a f=>Av f aE ?_
       refine Ag f Z Z A3 fun a f=>Av f aE ?_
       obtain⟨aF,aG,aC⟩:=bind_some aC
       refine Bb T31 f Z Z Z h0 aG fun aH aI a aJ aK f=> ?_
       subst aK
       refine Av f aE ?_
       refine Az m Pl2 f Z Z aJ fun a f=>Av f aE ?_
       refine Ab f Z fun a f=>Av f aE ?_
       refine Ag f Z Z Ck fun a f=>Av f aA ?_
       refine l_o f (AN (f.eval Z) aE (f.eval Z)) fun a f=> ?_
       obtain rfl:=sj aC
       exact⟨_,gr,m,f.k Z⟩
      ·refine Aw f aE fun a f=> ?_
       refine Aw f aE fun a f=>Aw f aE fun a f=>Aw f aE fun a f=>Aw f aE fun a f=>Aw f aE fun a f=>Aw f aE fun a f=>Av f aA ?_
       refine l_o f (AO (f.eval Z) aE (f.eval Z)) fun a f=> ?_
       obtain rfl:=sj aC
       exact⟨_,gr,m,f.k Z⟩
     ·rintro a w ⟨aD,aL,m,f⟩
      have h0:=rd1 aL h0
      refine l_o f (AO (f.eval Z) aA (f.eval Z)) fun a f=> ?_
      obtain rfl:=sj ay
      exact⟨_,aL,m,f.k Z⟩
   ·rintro a w ⟨az,aM,m,f⟩
    have h0:=rd1 aM h0
    refine Aa ?_
    rcases Ae ah with⟨aN,ah⟩|⟨aN,ah⟩
    ·refine Am f Z aN ?_
     refine Ac ?_
     refine Ad f Z fun a f=>Aa ?_
     refine Ap ?_
     obtain rfl:=sj ah
     obtain rfl:=ai _ rfl
     obtain rfl:=sj hd
     exact⟨[(.bool false)],⟨f.get _ _ Z,trivial⟩,f.defers,_,[],(gt aj (gt aw aM)),m,Z,Z⟩
    ·refine Ah f Z aN ?_
     refine An ?_
     refine Aj ?_
     refine Ag f Z Z As fun a f=>Ab f Z fun a f=>Aa ?_
     obtain rfl:=sj ah
     exact⟨_,Z,_,Z,_,(gt aj (gt aw aM)),f.k Z,m⟩
  ·refine Ah f Z ak ?_
   refine Ax Z ?_
   obtain rfl:=sj ah
   obtain rfl:=ai _ rfl
   exact⟨_,Z,_,aj,f.weak trivial,m⟩
 ·rintro a w ⟨_,rfl,ac,aO,f,m⟩
  refine Ac ?_
  refine Ad f Z fun a f=>Aa ?_
  refine Ap ?_
  obtain rfl:=sj hd
  exact⟨[(.bool true)],⟨f.get _ _ Z,trivial⟩,f.defers,_,[],aO,m,Z,Z⟩
theorem Wk.U {W w:World}{G:GH}{H:List Itm}{v0_0:Value}{x0_0:(List (List Int))}(m:Mem W G w (H))(h0_0:RSl (RSl (RI .i64)) G v0_0 x0_0){y:Bool}(hd:D.U x0_0=some y):
  Calls Tryz.prog 69 #[(.agg #[v0_0])] w (Res W G H (fun _ Ho v=>Ho=[]∧v=(.bool y))):=by
 refine Ar (args:=[(.agg #[v0_0])]) (N:=61) [.tmp 2] Tryz.func69 Z Z (Nat.le_of_ble_eq_true Z) Z fun a f=> ?_
 unfold D.U at hd
 refine Ac ?_
 refine Bn (cs:=[v0_0]) m f Z Z Z fun aa w a m f=>Ad f Z fun a f=>Aa (Ac ?_)
 refine Bo Tryz.underlying29 Z Tryz.sizeOf27 f Z fun a f=>AG 0 0 m Bk f Z Z Z Z fun a f=>AX Tryz.underlying27 f Z Z h0_0 fun a f=>Ad f Z fun a f=>Aa (Af (Ac ?_))
 refine Ab f Z fun a f=>Ag f Z Z AD fun a f=>Ab f Z fun a f=> ?_
 refine Bw 3 (fun a w=>∃ab,GLe G ab∧Mem W ab w (Itm.box aa 29 [v0_0]::H)∧Fr a 61 [(0,(.agg #[v0_0])),(1,(.pointer (some ⟨aa,0,none⟩))),(3,(.int .i64 (x0_0.length:Int))),(13,(.int .i64 (x0_0.length:Int))),(14,(.bool (decide ((x0_0.length:Int)<1)))),(15,(.bool (decide ((x0_0.length:Int)<1)))),(18,(.bool ((decide ((x0_0.length:Int)<1))||(decide ((16:Int)<(x0_0.length:Int))))))]) ?_ ?_
 ·rcases Bool.eq_false_or_eq_true (decide ((x0_0.length:Int)<1)) with ac|ac
  ·refine Aw f ac fun a f=> ?_
   refine Aw f ac fun a f=>l_o f (AN (f.eval Z) ac (f.eval Z)) fun a f=> ?_
   exact⟨_,gr,m,f.weak ⟨Z,Z,Z,Z,Z,Z,by rw[ac];rfl,trivial⟩⟩
  ·refine Av f ac ?_
   refine Ab f Z fun a f=>Av f ac ?_
   refine Ag f Z Z Cc fun a f=>l_o f (AO (f.eval Z) ac (f.eval Z)) fun a f=> ?_
   exact⟨_,gr,m,f.weak ⟨Z,Z,Z,Z,Z,Z,by rw[ac];rfl,trivial⟩⟩
 ·rintro a w ⟨ab,ad,m,f⟩
  have h0_0:=rd2 ad h0_0
  refine Aa ?_
  rcases Ae hd with⟨ae,hd⟩|⟨ae,hd⟩
  ·refine Am f Z ae ?_
   refine Ac ?_
   refine Ad f Z fun a f=>Aa ?_
   refine Ap ?_
   have m:Mem W ab w H:=Mem.drop (H':=[Itm.box aa 29 [v0_0]]) m
   obtain rfl:=sj hd
   exact⟨[(.bool false)],⟨f.get _ _ Z,trivial⟩,f.defers,_,[],ad,m,Z,Z⟩
  ·refine Ah f Z ae ?_
   refine An ?_
   refine Af (Ac ?_)
   refine Bo Tryz.underlying29 Z Tryz.sizeOf27 f Z fun a f=>AG 0 0 m Bk f Z Z Z Z fun a f=>AX Tryz.underlying27 f Z Z h0_0 fun a f=>Ab f Z fun a f=>Aa ?_
   obtain⟨af,ag,hd⟩:=bind_some hd
   refine AE (fun a w=>∃q_91':Unit,af= .inl q_91'∧∃(ah:GH),GLe ab ah∧Fr a 61 [(1,(.pointer (some ⟨aa,0,none⟩)))]∧Mem W ah w (Itm.box aa 29 [v0_0]::H)) ?_ ?_
   ·refine Ai ?_
    refine AB (fun ai a w=>∃aj:Int,aj=ai∧∃(ak:GH),GLe ab ak∧Fr a 61 [(1,(.pointer (some ⟨aa,0,none⟩))),(3,(.int .i64 (x0_0.length:Int))),(20,v0_0),(21,(.int .i64 (x0_0.length:Int))),(22,(.int .i64 aj))]∧Mem W ak w (Itm.box aa 29 [v0_0]::H)) ag ⟨_,Z,_,gr,f.k Z,m⟩ ?_
    clear ag f m
    rintro ai al am an a w ⟨aj,rfl,ak,ao,f,m⟩
    have h0_0:=rd2 ao h0_0
    refine Ac ?_
    refine Ag f Z Z AD fun a f=>Aa (Af ?_)
    rcases Ae am with⟨ap,am⟩|⟨ap,am⟩
    ·refine Am f Z ap ?_
     refine An ?_
     refine Af (Ai (Ac ?_))
     refine Ab f Z fun a f=> ?_
     obtain⟨aq,ar,am⟩:=bind_some am
     refine Bb T27 f Z Z Z h0_0 ar fun au av a aw ax f=>Az m AS f Z Z aw fun a f=>Ad f Z fun a f=>Ad f Z fun a f=>Aa (Ac ?_)
     refine Ab f Z fun a f=>Ab f Z fun a f=> ?_
     obtain⟨ay,az,am⟩:=bind_some am
     refine AY f Z Tryz.call104 (Wk.g0 m ax az) fun aA w aB m a f=> ?_
     have ax:=rd1 aB ax
     have h0_0:=rd2 aB h0_0
     refine l_o f (Bp (f.eval Z)) fun a f=>Ab f Z fun a f=> ?_
     obtain⟨aC,aD,am⟩:=bind_some am
     refine Bw 4 (fun a w=>∃aE,GLe aA aE∧Mem W aE w (Itm.box aa 29 [v0_0]::H)∧Fr a 61 [(1,(.pointer (some ⟨aa,0,none⟩))),(3,(.int .i64 (x0_0.length:Int))),(4,(.int .i64 aj)),(5,av),(20,v0_0),(21,(.int .i64 (x0_0.length:Int))),(22,(.int .i64 aj)),(27,av),(28,(.int .i64 (x0_0.length:Int))),(29,(.bool ay)),(30,(.bool (!ay))),(31,(.bool (!ay))),(35,(.bool aC))]) ?_ ?_
     ·rcases Ae aD with⟨aF,aD⟩|⟨aF,aD⟩
      ·refine Aw f aF fun a f=> ?_
       refine Aw f aF fun a f=>Aw f aF fun a f=>l_o f (AN (f.eval Z) aF (f.eval Z)) fun a f=> ?_
       obtain rfl:=sj aD
       exact⟨_,gr,m,f.k Z⟩
      ·refine Av f aF ?_
       refine Ab f Z fun a f=>Av f aF ?_
       refine Ab f Z fun a f=>Av f aF ?_
       obtain⟨aG,aH,aD⟩:=bind_some aD
       refine AY f Z Tryz.call105 (Wk.O m ax aH) fun aI w aJ m a f=> ?_
       have ax:=rd1 aJ ax
       have h0_0:=rd2 aJ h0_0
       refine l_o f (AO (f.eval Z) aF (f.eval Z)) fun a f=> ?_
       obtain rfl:=sj aD
       exact⟨_,aJ,m,f.k Z⟩
     ·rintro a w ⟨aE,aK,m,f⟩
      have ax:=rd1 aK ax
      have h0_0:=rd2 aK h0_0
      refine Aa ?_
      rcases Ae am with⟨aL,am⟩|⟨aL,am⟩
      ·refine Am f Z aL ?_
       refine Ac ?_
       refine Ad f Z fun a f=>Aa ?_
       refine Ap ?_
       have m:Mem W aE w H:=Mem.drop (H':=[Itm.box aa 29 [v0_0]]) m
       obtain rfl:=sj am
       obtain rfl:=an _ rfl
       obtain rfl:=sj hd
       exact⟨[(.bool false)],⟨f.get _ _ Z,trivial⟩,f.defers,_,[],(gt ad (gt ao (gt aB aK))),m,Z,Z⟩
      ·refine Ah f Z aL ?_
       refine An ?_
       refine Aj ?_
       refine Ag f Z Z As fun a f=>Ab f Z fun a f=>Aa ?_
       obtain rfl:=sj am
       exact⟨_,Z,_,Z,_,(gt ao (gt aB aK)),f.k Z,m⟩
    ·refine Ah f Z ap ?_
     refine Ax Z ?_
     obtain rfl:=sj am
     obtain rfl:=an _ rfl
     exact⟨_,Z,_,ao,f.k Z,m⟩
   ·rintro a w ⟨_,rfl,ah,aM,f,m⟩
    have h0_0:=rd2 aM h0_0
    refine Af (Ac ?_)
    refine Bo Tryz.underlying29 Z Tryz.sizeOf27 f Z fun a f=>AG 0 0 m Bk f Z Z Z Z fun a f=>AX Tryz.underlying27 f Z Z h0_0 fun a f=>Ab f Z fun a f=>Aa ?_
    obtain⟨aN,aO,hd⟩:=bind_some hd
    refine AE (fun a w=>∃q_394':Unit,aN= .inl q_394'∧∃(aP:GH),GLe ah aP∧Fr a 61 []∧Mem W aP w (H)) ?_ ?_
    ·refine Ai ?_
     refine AB (fun aQ a w=>∃aR:Int,aR=aQ∧∃(aS:GH),GLe ah aS∧Fr a 61 [(1,(.pointer (some ⟨aa,0,none⟩))),(38,v0_0),(39,(.int .i64 (x0_0.length:Int))),(40,(.int .i64 aR))]∧Mem W aS w (Itm.box aa 29 [v0_0]::H)) aO ⟨_,Z,_,gr,f.k Z,m⟩ ?_
     clear aO f m
     rintro aQ aT aU aV a w ⟨aR,rfl,aS,aW,f,m⟩
     have h0_0:=rd2 aW h0_0
     refine Ac ?_
     refine Ag f Z Z AD fun a f=>Aa (Af ?_)
     rcases Ae aU with⟨aX,aU⟩|⟨aX,aU⟩
     ·refine Am f Z aX ?_
      refine An ?_
      refine Af (Ai (Ac ?_))
      refine Ab f Z fun a f=> ?_
      obtain⟨aY,aZ,aU⟩:=bind_some aU
      refine Bb T27 f Z Z Z h0_0 aZ fun a0 a1 a a2 a3 f=>Az m AS f Z Z a2 fun a f=>Ad f Z fun a f=>Ad f Z fun a f=>Aa (Ac ?_)
      refine Ab f Z fun a f=>AX Tryz.underlying31 f Z Z a3 fun a f=>Ab f Z fun a f=>Aa ?_
      obtain⟨a4,a5,aU⟩:=bind_some aU
      refine AE (fun a w=>∃q_560':Unit,a4= .inl q_560'∧∃(a6:GH),GLe aS a6∧Fr a 61 [(1,(.pointer (some ⟨aa,0,none⟩))),(38,v0_0),(39,(.int .i64 (x0_0.length:Int))),(40,(.int .i64 aR))]∧Mem W a6 w (Itm.box aa 29 [v0_0]::H)) ?_ ?_
      ·refine Ai ?_
       refine AB (fun a7 a w=>∃a8:Int,a8=a7∧∃(a9:GH),GLe aS a9∧Fr a 61 [(1,(.pointer (some ⟨aa,0,none⟩))),(6,(.int .i64 aR)),(38,v0_0),(39,(.int .i64 (x0_0.length:Int))),(40,(.int .i64 aR)),(45,a1),(46,(.int .i64 (aY.length:Int))),(47,(.int .i64 a8))]∧Mem W a9 w (Itm.box aa 29 [v0_0]::H)) a5 ⟨_,Z,_,gr,f.k Z,m⟩ ?_
       clear a5 f m
       rintro a7 ba bb bc a w ⟨a8,rfl,a9,bd,f,m⟩
       have h0_0:=rd2 bd h0_0
       have a3:=rd1 bd a3
       refine Ac ?_
       refine Ag f Z Z AD fun a f=>Aa (Af ?_)
       rcases Ae bb with⟨be,bb⟩|⟨be,bb⟩
       ·refine Am f Z be ?_
        refine An ?_
        refine Af (Ai (Ac ?_))
        obtain⟨bf,bg,bb⟩:=bind_some bb
        refine Bb T31 f Z Z Z a3 bg fun bh bi a bj bk f=> ?_
        subst bk
        refine Az m Pl2 f Z Z bj fun a f=>Ad f Z fun a f=>Aa (Ac ?_)
        refine Bo Tryz.underlying29 Z Tryz.sizeOf27 f Z fun a f=>AG 0 0 m Bk f Z Z Z Z fun a f=>Ab f Z fun a f=> ?_
        obtain⟨bl,bm,bb⟩:=bind_some bb
        refine Bb T27 f Z Z Z h0_0 bm fun bn bo a bp bq f=>Az m AS f Z Z bp fun a f=>Ab f Z fun a f=> ?_
        obtain⟨br,bs,bb⟩:=bind_some bb
        refine AY f Z Tryz.call105 (Wk.O m bq bs) fun bt w bu m a f=> ?_
        have h0_0:=rd2 bu h0_0
        have a3:=rd1 bu a3
        have bp:=At.mono bu bp
        have bq:=rd1 bu bq
        refine l_o f (Bp (f.eval Z)) fun a f=>Aa ?_
        rcases Ae bb with⟨bv,bb⟩|⟨bv,bb⟩
        ·refine Am f Z bv ?_
         refine Ac ?_
         refine Ad f Z fun a f=>Aa ?_
         refine Ap ?_
         have m:Mem W bt w H:=Mem.drop (H':=[Itm.box aa 29 [v0_0]]) m
         obtain rfl:=sj bb
         obtain rfl:=bc _ rfl
         obtain rfl:=sj aU
         obtain rfl:=aV _ rfl
         obtain rfl:=sj hd
         exact⟨[(.bool false)],⟨f.get _ _ Z,trivial⟩,f.defers,_,[],(gt ad (gt aM (gt aW (gt bd bu)))),m,Z,Z⟩
        ·refine Ah f Z bv ?_
         refine An ?_
         refine Aj ?_
         refine Ag f Z Z As fun a f=>Ab f Z fun a f=>Aa ?_
         obtain rfl:=sj bb
         exact⟨_,Z,_,Z,_,(gt bd bu),f.k Z,m⟩
       ·refine Ah f Z be ?_
        refine Ax Z ?_
        obtain rfl:=sj bb
        obtain rfl:=bc _ rfl
        exact⟨_,Z,_,bd,f.k Z,m⟩
      ·rintro a w ⟨_,rfl,a6,bw,f,m⟩
       have h0_0:=rd2 bw h0_0
       refine Aj ?_
       refine Ag f Z Z As fun a f=>Ab f Z fun a f=>Aa ?_
       obtain rfl:=sj aU
       exact⟨_,Z,_,Z,_,(gt aW bw),f.k Z,m⟩
     ·refine Ah f Z aX ?_
      refine Ax Z ?_
      have m:Mem W aS w H:=Mem.drop (H':=[Itm.box aa 29 [v0_0]]) m
      obtain rfl:=sj aU
      obtain rfl:=aV _ rfl
      exact⟨_,Z,_,aW,f.weak trivial,m⟩
    ·rintro a w ⟨_,rfl,aP,bx,f,m⟩
     refine Ac ?_
     refine Ad f Z fun a f=>Aa ?_
     refine Ap ?_
     obtain rfl:=sj hd
     exact⟨[(.bool true)],⟨f.get _ _ Z,trivial⟩,f.defers,_,[],(gt ad (gt aM bx)),m,Z,Z⟩
theorem Wk.t {W w:World}{G:GH}{H:List Itm}{v0_0:Value}{x0_0:(List (List Int))}(m:Mem W G w (H))(h0_0:RSl (RSl (RI .i64)) G v0_0 x0_0){y:Bool}(hd:D.t x0_0=some y):
  Calls Tryz.prog 31 #[(.agg #[v0_0])] w (Res W G H (fun _ Ho v=>Ho=[]∧v=(.bool y))):=by
 refine Ar (args:=[(.agg #[v0_0])]) (N:=11) [.tmp 2] Tryz.func31 Z Z (Nat.le_of_ble_eq_true Z) Z fun a f=> ?_
 unfold D.t at hd
 refine Ac ?_
 refine Bn (cs:=[v0_0]) m f Z Z Z fun aa w a m f=>Ad f Z fun a f=>Aa (Ac ?_)
 refine AA 0 0 (ds:=[v0_0]) m AW f Z Z Z Z Z fun a f=> ?_
 obtain⟨ab,ac,hd⟩:=bind_some hd
 refine AY f Z Tryz.call69 (Wk.U m h0_0 ac) fun ad w ae m a f=> ?_
 have h0_0:=rd2 ae h0_0
 refine Ab f Z fun a f=> ?_
 refine Bw 5 (fun a w=>∃af,GLe ad af∧Mem W af w (Itm.box aa 29 [v0_0]::H)∧Fr a 11 [(0,(.agg #[v0_0])),(1,(.pointer (some ⟨aa,0,none⟩))),(3,(.agg #[v0_0])),(4,(.bool ab)),(5,(.bool ab)),(10,(.bool (ab&&(decide ((x0_0.length:Int)≤10)))))]) ?_ ?_
 ·rcases Bool.eq_false_or_eq_true ab with ag|ag
  ·refine Av f ag ?_
   refine Bo Tryz.underlying29 Z Tryz.sizeOf27 f Z fun a f=>Av f ag ?_
   refine AG 0 0 m Bk f Z Z Z Z fun a f=>Av f ag ?_
   refine AX Tryz.underlying27 f Z Z h0_0 fun a f=>Av f ag ?_
   refine Ag f Z Z Cm fun a f=>l_o f (AN (f.eval Z) ag (f.eval Z)) fun a f=> ?_
   exact⟨_,gr,m,f.weak ⟨Z,Z,Z,Z,Z,by rw[ag];rfl,trivial⟩⟩
  ·refine Aw f ag fun a f=> ?_
   refine Aw f ag fun a f=>Aw f ag fun a f=>Aw f ag fun a f=>l_o f (AO (f.eval Z) ag (f.eval Z)) fun a f=> ?_
   exact⟨_,gr,m,f.weak ⟨Z,Z,Z,Z,Z,by rw[ag];rfl,trivial⟩⟩
 ·rintro a w ⟨af,ah,m,f⟩
  have h0_0:=rd2 ah h0_0
  refine Ad f Z fun a f=>Aa ?_
  refine Ap ?_
  have m:Mem W af w H:=Mem.drop (H':=[Itm.box aa 29 [v0_0]]) m
  obtain rfl:=sj hd
  exact⟨[(.bool (ab&&(decide ((x0_0.length:Int)≤10))))],⟨f.get _ _ Z,trivial⟩,f.defers,_,[],(gt ae ah),m,Z,Z⟩
theorem Wk.d {W w:World}{G:GH}{H:List Itm}{x0:Int}(m:Mem W G w (H)){y:Int}(hd:D.d x0=some y):
  Calls Tryz.prog 56 #[(.int .i64 x0)] w (Res W G H (fun _ Ho v=>Ho=[]∧v=(.int .u32 y))):=by
 refine Ar (args:=[(.int .i64 x0)]) (N:=5) [.tmp 2] Tryz.func56 Z Z (Nat.le_of_ble_eq_true Z) Z fun a f=> ?_
 unfold D.d at hd
 refine Ac ?_
 refine Ad f Z fun a f=>Aa (Ac ?_)
 refine Ab f Z fun a f=> ?_
 obtain⟨aa,hd⟩:=DS hd
 refine l_o f (r_shl (f.eval Z) (f.eval Z) aa) fun a f=>Ad f Z fun a f=>Aa ?_
 refine Ap ?_
 obtain rfl:=sj hd
 exact⟨[(.int .u32 (ishl .u32 1 x0))],⟨f.get _ _ Z,trivial⟩,f.defers,_,[],gr,m,Z,Z⟩
theorem Wk.V {W w:World}{G:GH}{H:List Itm}{v0:Value}{x0:(List Int)}(m:Mem W G w (H))(h0:RSl (RI .i64) G v0 x0){y:Int}(hd:D.V x0=some y):
  Calls Tryz.prog 70 #[v0] w (Res W G H (fun _ Ho v=>Ho=[]∧v=(.int .u32 y))):=by
 refine Ar (args:=[v0]) (N:=18) [.tmp 2] Tryz.func70 Z Z (Nat.le_of_ble_eq_true Z) Z fun a f=> ?_
 unfold D.V at hd
 refine Ac ?_
 refine Ad f Z fun a f=>Aa (Ac ?_)
 refine Ad f Z fun a f=>Aa (Af (Ac ?_))
 refine Ab f Z fun a f=>AX Tryz.underlying31 f Z Z h0 fun a f=>Ab f Z fun a f=>Aa ?_
 obtain⟨aa,ab,hd⟩:=bind_some hd
 refine AE (fun a w=>∃ac:Int,ac=aa∧∃(ad:GH),GLe G ad∧Fr a 18 [(3,(.int .u32 ac))]∧Mem W ad w (H)) ?_ ?_
 ·refine Ai ?_
  refine AB (fun ae a w=>∃af:Int,∃ag:Int,(af,ag)=ae∧∃(ah:GH),GLe G ah∧Fr a 18 [(3,(.int .u32 af)),(6,v0),(7,(.int .i64 (x0.length:Int))),(8,(.int .i64 ag))]∧Mem W ah w (H)) ab ⟨_,_,Z,_,gr,f.k Z,m⟩ ?_
  clear ab f m
  rintro ae ai aj ak a w ⟨af,ag,rfl,ah,al,f,m⟩
  have h0:=rd1 al h0
  refine Ac ?_
  refine Ag f Z Z AD fun a f=>Aa (Af ?_)
  rcases Ae aj with⟨am,aj⟩|⟨am,aj⟩
  ·refine Am f Z am ?_
   refine An ?_
   refine Af (Ai (Ac ?_))
   obtain⟨an,ao,aj⟩:=bind_some aj
   refine Bb T31 f Z Z Z h0 ao fun ap aq a ar au f=> ?_
   subst au
   refine Az m Pl2 f Z Z ar fun a f=>Ad f Z fun a f=>Aa (Aj ?_)
   refine Ab f Z fun a f=>Ab f Z fun a f=> ?_
   obtain⟨av,aw,aj⟩:=bind_some aj
   refine AY f Z Tryz.call56 (Wk.d m aw) fun ax w ay m a f=> ?_
   have h0:=rd1 ay h0
   refine Ag f Z Z b_or fun a f=>Ad f Z fun a f=>Aa (Aj ?_)
   refine Ag f Z Z As fun a f=>Ab f Z fun a f=>Aa ?_
   obtain rfl:=sj aj
   exact⟨_,Z,_,_,Z,_,(gt al ay),f.k Z,m⟩
  ·refine Ah f Z am ?_
   refine Ax Z ?_
   obtain rfl:=sj aj
   obtain rfl:=ak _ rfl
   exact⟨_,Z,_,al,f.k Z,m⟩
 ·rintro a w ⟨ac,rfl,ad,az,f,m⟩
  refine Ac ?_
  refine Ab f Z fun a f=>Ad f Z fun a f=>Aa ?_
  refine Ap ?_
  obtain rfl:=sj hd
  exact⟨[(.int .u32 ac)],⟨f.get _ _ Z,trivial⟩,f.defers,_,[],az,m,Z,Z⟩
theorem Wk.r {W w:World}{G:GH}{H:List Itm}{v0_0:Value}{x0_0:(List (List Int))}(m:Mem W G w (H))(h0_0:RSl (RSl (RI .i64)) G v0_0 x0_0){y:((List Int))}(hd:D.r x0_0=some y):
  Calls Tryz.prog 33 #[(.agg #[v0_0])] w (Res W G H (fun G' Ho v=>∃r0:Value,∃i0:Itm,Ho=[i0]∧r0=v∧Ow (RI .u32) 65 G' i0 r0 y)):=by
 refine Ar (args:=[(.agg #[v0_0])]) (N:=21) [.tmp 2] Tryz.func33 Z Z (Nat.le_of_ble_eq_true Z) Z fun a f=> ?_
 unfold D.r at hd
 refine Ac ?_
 refine Bn (cs:=[v0_0]) m f Z Z Z fun aa w a m f=>Ad f Z fun a f=>Aa (Ac ?_)
 refine A5 (R:=(RI .u32)) (xs:=([]:List Int)) (RI.one _) m T61 f Z Z Z (by decide) (All2.nil _) fun ab ac w a m ad f=>Ad f Z fun a f=>Aa (Af (Ac ?_))
 refine Bo Tryz.underlying29 Z Tryz.sizeOf27 f Z fun a f=>AG 1 0 m Bk f Z Z Z Z fun a f=>AX Tryz.underlying27 f Z Z h0_0 fun a f=>Ab f Z fun a f=>Aa ?_
 obtain⟨ae,af,hd⟩:=bind_some hd
 refine AE (fun a w=>∃ag:List Int,ag=ae∧∃(ah:GH) (ai:Value) (aj:Itm),GLe G ah∧Fr a 21 [(3,ai)]∧Mem W ah w (aj::H)∧Ow (RI .u32) 65 ah aj ai ag) ?_ ?_
 ·refine Ai ?_
  have m:=m.eraseAt 1
  refine AB (fun ak a w=>∃al:List Int,∃am:Int,(al,am)=ak∧∃(an:GH) (ao:Value) (ap:Itm),GLe G an∧Fr a 21 [(3,ao),(8,v0_0),(9,(.int .i64 (x0_0.length:Int))),(10,(.int .i64 am))]∧Mem W an w (ap::H)∧Ow (RI .u32) 65 an ap ao al) af ⟨_,_,Z,_,ac,ab,gr,f.k Z,m,ad⟩ ?_
  clear af f m
  rintro ak aq ar au a w ⟨al,am,rfl,an,ao,ap,av,f,m,aw⟩
  have h0_0:=rd2 av h0_0
  refine Ac ?_
  refine Ag f Z Z AD fun a f=>Aa (Af ?_)
  rcases Ae ar with⟨ax,ar⟩|⟨ax,ar⟩
  ·refine Am f Z ax ?_
   refine An ?_
   refine Af (Ai (Ac ?_))
   obtain⟨ay,az,ar⟩:=bind_some ar
   refine Bb T27 f Z Z Z h0_0 az fun aA aB a aC aD f=>Az m AS f Z Z aC fun a f=>Ad f Z fun a f=>Aa (Aj ?_)
   refine Ab f Z fun a f=>Ab f Z fun a f=> ?_
   obtain⟨aE,aF,ar⟩:=bind_some ar
   refine AY f Z Tryz.call70 (Wk.V m aD aF) fun aG w aH m a f=> ?_
   have aD:=rd1 aH aD
   have h0_0:=rd2 aH h0_0
   have aw:=od1 aH aw
   refine A5 (R:=(RI .u32)) (xs:=([aE]:List Int)) (RI.one _) m T61 f Z Z Z (by decide) (All2.cons Z (All2.nil _)) fun aI aJ w a m aK f=> ?_
   obtain⟨aL,aM,ar⟩:=bind_some ar
   refine Bj (RI.one _) 1 m aw Z T61 Z (by decide) f Z Z Z (Ow.src (j:=0) aK m Z) aM fun aN aO w a m aP f=>Ad f Z fun a f=>Aa (Aj ?_)
   refine Ag f Z Z As fun a f=>Ab f Z fun a f=>Aa ?_
   have m:=m.front 1 rfl
   have m:=m.eraseAt 1
   obtain rfl:=sj ar
   exact⟨_,Z,_,_,Z,_,aO,aN,(gt av aH),f.k Z,m,aP⟩
  ·refine Ah f Z ax ?_
   refine Ax Z ?_
   obtain rfl:=sj ar
   obtain rfl:=au _ rfl
   exact⟨_,Z,_,ao,ap,av,f.k Z,m,aw⟩
 ·rintro a w ⟨ag,rfl,ah,ai,aj,aQ,f,m,aR⟩
  refine Ac ?_
  refine Ab f Z fun a f=>Ad f Z fun a f=>Aa ?_
  refine Ap ?_
  obtain rfl:=sj hd
  exact⟨[ai],⟨f.get _ _ Z,trivial⟩,f.defers,_,[aj],aQ,m,_,_,Z,Z,aR⟩
theorem Wk.p0 {W w:World}{G:GH}{H:List Itm}{x0:Int}(m:Mem W G w (H)){y:Int}(hd:D.p0 x0=some y):
  Calls Tryz.prog 106 #[(.int .i64 x0)] w (Res W G H (fun _ Ho v=>Ho=[]∧v=(.int .u32 y))):=by
 refine Ar (args:=[(.int .i64 x0)]) (N:=6) [.tmp 2] Tryz.func106 Z Z (Nat.le_of_ble_eq_true Z) Z fun a f=> ?_
 unfold D.p0 at hd
 refine Ac ?_
 refine Ad f Z fun a f=>Aa (Ac ?_)
 refine Ab f Z fun a f=> ?_
 obtain⟨aa,hd⟩:=DS hd
 refine l_o f (r_shl (f.eval Z) (f.eval Z) aa) fun a f=>Ag f Z Z A3 fun a f=>Ad f Z fun a f=>Aa ?_
 refine Ap ?_
 obtain rfl:=sj hd
 exact⟨[(.int .u32 (IntKind.u32.wrap ((ishl .u32 1 x0)-1)))],⟨f.get _ _ Z,trivial⟩,f.defers,_,[],gr,m,Z,Z⟩
theorem Wk.n {W w:World}{G:GH}{H:List Itm}{v0:Value}{x0:(List Int)}(m:Mem W G w (H))(h0:RSl (RI .u32) G v0 x0){y:Int}(hd:D.n x0=some y):
  Calls Tryz.prog 71 #[v0] w (Res W G H (fun _ Ho v=>Ho=[]∧v=(.int .u32 y))):=by
 refine Ar (args:=[v0]) (N:=6) [.tmp 2] Tryz.func71 Z Z (Nat.le_of_ble_eq_true Z) Z fun a f=> ?_
 unfold D.n at hd
 refine Ac ?_
 refine Ad f Z fun a f=>Aa (Ac ?_)
 refine Ab f Z fun a f=>AX Tryz.underlying61 f Z Z h0 fun a f=> ?_
 obtain⟨aa,ab,hd⟩:=bind_some hd
 refine AY f Z Tryz.call106 (Wk.p0 m ab) fun ac w ad m a f=> ?_
 have h0:=rd1 ad h0
 refine Ad f Z fun a f=>Aa ?_
 refine Ap ?_
 obtain rfl:=sj hd
 exact⟨[(.int .u32 aa)],⟨f.get _ _ Z,trivial⟩,f.defers,_,[],ad,m,Z,Z⟩
theorem Wk.l0 {W w:World}{G:GH}{H:List Itm}{x0:Int}(hW:Cs W)(m:Mem W G w (H)){y:Int}(hd:D.l0 x0=some y):
  Calls Tryz.prog 107 #[(.int .u32 x0)] w (Res W G H (fun _ Ho v=>Ho=[]∧v=(.int .i64 y))):=by
 refine Ar (args:=[(.int .u32 x0)]) (N:=5) [.tmp 2] Tryz.func107 Z Z (Nat.le_of_ble_eq_true Z) Z fun a f=> ?_
 unfold D.l0 at hd
 refine Ac ?_
 refine Ad f Z fun a f=>Aa (Ac ?_)
 refine Ab f Z fun a f=> ?_
 obtain⟨aa,ab,hd⟩:=bind_some hd
 refine AY f Z Tryz.call125 (Wk.k1 hW m ab) fun ac w ad m a f=>Ad f Z fun a f=>Aa ?_
 refine Ap ?_
 obtain rfl:=sj hd
 exact⟨[(.int .i64 aa)],⟨f.get _ _ Z,trivial⟩,f.defers,_,[],ad,m,Z,Z⟩
end Go.Proofs.YtkffjeaefgfnnaaGreatDoor

set_option maxRecDepth 100000
namespace Go.Proofs.YtkffjeaefgfnnaaGreatDoor
open Go Go.Sx
theorem T67 :SlT Tryz.prog 67 3 1 8 (.int .i64 0):=⟨Tryz.underlying67,Tryz.t3,by kernel_rfl,by kernel_rfl,by kernel_rfl,by kernel_rfl⟩
theorem DN :BV Tryz.prog 65:=Tryz.isAgg65
theorem Wk.k {W w:World}{G:GH}{H:List Itm}{x0:Int}(hW:Cs W)(m:Mem W G w (H)){y:((List Int))}(hd:D.k x0=some y):
  Calls Tryz.prog 72 #[(.int .u32 x0)] w (Res W G H (fun G' Ho v=>∃r0:Value,∃i0:Itm,Ho=[i0]∧r0=v∧Ow (RI .i64) 3 G' i0 r0 y)):=by
 refine Ar (args:=[(.int .u32 x0)]) (N:=17) [.tmp 2] Tryz.func72 Z Z (Nat.le_of_ble_eq_true Z) Z fun a f=> ?_
 unfold D.k at hd
 refine Ac ?_
 refine Ad f Z fun a f=>Aa (Ac ?_)
 refine A5 (R:=(RI .i64)) (xs:=([]:List Int)) (RI.one _) m T67 f Z Z Z (by decide) (All2.nil _) fun aa ab w a m ac f=>Ad f Z fun a f=>Aa (Af ?_)
 obtain⟨ad,ae,hd⟩:=bind_some hd
 refine AE (fun a w=>∃af:List Int,af=ad∧∃(ag:GH) (ah:Value) (ai:Itm),GLe G ag∧Fr a 17 [(3,ah)]∧Mem W ag w (ai::H)∧Ow (RI .i64) 3 ag ai ah af) ?_ ?_
 ·refine Ai ?_
  refine AB (fun aj a w=>∃ak:Int,∃al:List Int,(ak,al)=aj∧∃(am:GH) (an:Value) (ao:Itm),GLe G am∧Fr a 17 [(0,(.int .u32 ak)),(3,an)]∧Mem W am w (ao::H)∧Ow (RI .i64) 3 am ao an al) ae ⟨_,_,Z,_,ab,aa,gr,f.k Z,m,ac⟩ ?_
  clear ae f m
  rintro aj ap aq ar a w ⟨ak,al,rfl,am,an,ao,au,f,m,av⟩
  refine Af (Ac ?_)
  refine Ab f Z fun a f=>Ag f Z Z CS fun a f=>Aa ?_
  rcases Ae aq with⟨aw,aq⟩|⟨aw,aq⟩
  ·refine Am f Z aw ?_
   refine An ?_
   refine Af (Ai (Aj ?_))
   refine Ab f Z fun a f=>Ab f Z fun a f=> ?_
   obtain⟨ax,ay,aq⟩:=bind_some aq
   refine AY f Z Tryz.call107 (Wk.l0 hW m ay) fun az w aA m a f=> ?_
   have av:=od1 aA av
   refine A5 (R:=(RI .i64)) (xs:=([ax]:List Int)) (RI.one _) m T67 f Z Z Z (by decide) (All2.cons Z (All2.nil _)) fun aB aC w a m aD f=> ?_
   obtain⟨aE,aF,aq⟩:=bind_some aq
   refine Bj (RI.one _) 1 m av Z T67 Z (by decide) f Z Z Z (Ow.src (j:=0) aD m Z) aF fun aG aH w a m aI f=>Ad f Z fun a f=>Aa (Aj ?_)
   refine Ab f Z fun a f=>Ab f Z fun a f=>Ag f Z Z A3 fun a f=>Ag f Z Z D8 fun a f=>Ad f Z fun a f=>Aa ?_
   have m:=m.front 1 rfl
   have m:=m.eraseAt 1
   obtain rfl:=sj aq
   exact⟨_,Z,_,_,Z,_,aH,aG,(gt au aA),f.k Z,m,aI⟩
  ·refine Ah f Z aw ?_
   refine Ax Z ?_
   obtain rfl:=sj aq
   obtain rfl:=ar _ rfl
   exact⟨_,Z,_,an,ao,au,f.k Z,m,av⟩
 ·rintro a w ⟨af,rfl,ag,ah,ai,aJ,f,m,aK⟩
  refine Ac ?_
  refine Ab f Z fun a f=>Ad f Z fun a f=>Aa ?_
  refine Ap ?_
  obtain rfl:=sj hd
  exact⟨[ah],⟨f.get _ _ Z,trivial⟩,f.defers,_,[ai],aJ,m,_,_,Z,Z,aK⟩
theorem Wk.q0 {W w:World}{G:GH}{H:List Itm}{v0:Value}{x0:(List Int)}{x1:Int}{x2:Int}(hW:Cs W)(m:Mem W G w (H))(h0:RSl (RI .u32) G v0 x0){y:Int}(hd:D.q0 x0 x1 x2=some y):
  Calls Tryz.prog 119 #[v0,(.int .i64 x1),(.int .u32 x2)] w (Res W G H (fun _ Ho v=>Ho=[]∧v=(.int .u32 y))):=by
 refine Ar (args:=[v0,(.int .i64 x1),(.int .u32 x2)]) (N:=35) [.tmp 6] Tryz.func119 Z Z (Nat.le_of_ble_eq_true Z) Z fun a f=> ?_
 unfold D.q0 at hd
 refine Ac ?_
 refine Ad f Z fun a f=>Aa (Ac ?_)
 refine Ab f Z fun a f=> ?_
 obtain⟨aa,ab,hd⟩:=bind_some hd
 refine AY f Z Tryz.call56 (Wk.d m ab) fun ac w ad m a f=> ?_
 have h0:=rd1 ad h0
 refine Ad f Z fun a f=>Aa ?_
 obtain⟨ae,af,hd⟩:=bind_some hd
 refine Ai ?_
 refine AB (fun ag a w=>∃ah:Int,ah=ag∧∃(ai:GH),GLe ac ai∧Fr a 35 [(0,v0),(2,(.int .u32 x2)),(7,(.int .u32 ah))]∧Mem W ai w (H)) af ⟨_,Z,_,gr,f.k Z,m⟩ ?_
 clear af f m
 rintro ag aj ak al a w ⟨ah,rfl,ai,am,f,m⟩
 have h0:=rd1 am h0
 refine Ai (Ac ?_)
 refine Ab f Z fun a f=>Ad f Z fun a f=>Aa (Af (Ac ?_))
 refine Ab f Z fun a f=> ?_
 obtain⟨an,ao,ak⟩:=bind_some ak
 refine AF f Z Tryz.call72 (Wk.k hW m ao) fun ap aq ar w au m av a f=> ?_
 obtain⟨aw,ax,rfl,rfl,ay⟩:=av
 have h0:=rd1 au h0
 refine Bl 0 m ay Z Tryz.underlying67 f Z Z fun a f=>Ab f Z fun a f=>Aa ?_
 obtain⟨az,aA,ak⟩:=bind_some ak
 refine AE (fun a w=>∃aB:Int,aB=az∧∃(aC:GH),GLe aq aC∧Fr a 35 [(0,v0),(2,(.int .u32 x2)),(7,(.int .u32 ah)),(8,(.int .u32 aB))]∧Mem W aC w (H)) ?_ ?_
 ·refine Ai ?_
  refine AB (fun aD a w=>∃aE:Int,∃aF:Int,(aE,aF)=aD∧∃(aG:GH),GLe aq aG∧Fr a 35 [(0,v0),(2,(.int .u32 x2)),(7,(.int .u32 ah)),(8,(.int .u32 aE)),(15,aw),(16,(.int .i64 (an.length:Int))),(17,(.int .i64 aF))]∧Mem W aG w (ax::H)) aA ⟨_,_,Z,_,gr,f.k Z,m⟩ ?_
  clear aA f m
  rintro aD aH aI aJ a w ⟨aE,aF,rfl,aG,aK,f,m⟩
  have h0:=rd1 aK h0
  have ay:=od1 aK ay
  refine Ac ?_
  refine Ag f Z Z AD fun a f=>Aa (Af ?_)
  rcases Ae aI with⟨aL,aI⟩|⟨aL,aI⟩
  ·refine Am f Z aL ?_
   refine An ?_
   refine Af (Ai (Ac ?_))
   obtain⟨aM,aN,aI⟩:=bind_some aI
   refine AQ 0 m ay Z T67 f Z Z Z aN fun aO a aP f=>Br 0 m ay Z Pl3 f Z Z aP aN fun aQ a aR f=> ?_
   subst aR
   refine Ad f Z fun a f=>Aa (Aj ?_)
   refine Ab f Z fun a f=>Ab f Z fun a f=>Ab f Z fun a f=> ?_
   obtain⟨aS,aT,aI⟩:=bind_some aI
   refine Bb T61 f Z Z Z h0 aT fun aU aV a aW aX f=> ?_
   subst aX
   refine Az m DN f Z Z aW fun a f=>Ab f Z fun a f=>Ag f Z Z D8 fun a f=>Ag f Z Z b_or fun a f=>Ad f Z fun a f=>Aa (Aj ?_)
   refine Ag f Z Z As fun a f=>Ab f Z fun a f=>Aa ?_
   obtain rfl:=sj aI
   exact⟨_,Z,_,_,Z,_,aK,f.k Z,m⟩
  ·refine Ah f Z aL ?_
   refine Ax Z ?_
   have m:Mem W aG w H:=Mem.drop (H':=[ax]) m
   obtain rfl:=sj aI
   obtain rfl:=aJ _ rfl
   exact⟨_,Z,_,aK,f.k Z,m⟩
 ·rintro a w ⟨aB,rfl,aC,aY,f,m⟩
  have h0:=rd1 aY h0
  refine Af (Ac ?_)
  refine Ab f Z fun a f=>Ab f Z fun a f=>Ag f Z Z BG fun a f=>Aa ?_
  rcases Ae ak with⟨aZ,ak⟩|⟨aZ,ak⟩
  ·refine Am f Z aZ ?_
   refine Ac ?_
   refine Ab f Z fun a f=>Ad f Z fun a f=>Aa ?_
   refine Ap ?_
   obtain rfl:=sj ak
   obtain rfl:=al _ rfl
   obtain rfl:=sj hd
   exact⟨[(.int .u32 ah)],⟨f.get _ _ Z,trivial⟩,f.defers,_,[],(gt ad (gt am (gt au aY))),m,Z,Z⟩
  ·refine Ah f Z aZ ?_
   refine An ?_
   refine Aj ?_
   refine Ab f Z fun a f=>Ad f Z fun a f=>Aa ?_
   obtain rfl:=sj ak
   exact⟨_,Z,_,Z,_,(gt am (gt au aY)),f.k Z,m⟩
theorem Wk.R {W w:World}{G:GH}{H:List Itm}{v0:Value}{x0:(List Int)}{x1:Int}{x2:Int}(hW:Cs W)(m:Mem W G w (H))(h0:RSl (RI .u32) G v0 x0){y:Int}(hd:D.R x0 x1 x2=some y):
  Calls Tryz.prog 92 #[v0,(.int .u32 x1),(.int .i64 x2)] w (Res W G H (fun _ Ho v=>Ho=[]∧v=(.int .u32 y))):=by
 refine Ar (args:=[v0,(.int .u32 x1),(.int .i64 x2)]) (N:=38) [.tmp 6] Tryz.func92 Z Z (Nat.le_of_ble_eq_true Z) Z fun a f=> ?_
 unfold D.R at hd
 refine Ac ?_
 refine Ad f Z fun a f=>Aa (Ac ?_)
 refine Ab f Z fun a f=>Ab f Z fun a f=>Ab f Z fun a f=>Ab f Z fun a f=> ?_
 obtain⟨aa,ab,hd⟩:=bind_some hd
 refine AY f Z Tryz.call56 (Wk.d m ab) fun ac w ad m a f=> ?_
 have h0:=rd1 ad h0
 refine Ag f Z Z b_or fun a f=> ?_
 obtain⟨ae,af,hd⟩:=bind_some hd
 refine AY f Z Tryz.call119 (Wk.q0 hW m h0 af) fun ag w ah m a f=> ?_
 have h0:=rd1 ah h0
 refine Ad f Z fun a f=>Aa (Ac ?_)
 refine Ad f Z fun a f=>Aa (Af (Ac ?_))
 refine Ab f Z fun a f=> ?_
 obtain⟨ai,aj,hd⟩:=bind_some hd
 refine AF f Z Tryz.call72 (Wk.k hW m aj) fun ak al am w an m ao a f=> ?_
 obtain⟨ap,aq,rfl,rfl,ar⟩:=ao
 have h0:=rd1 an h0
 refine Bl 0 m ar Z Tryz.underlying67 f Z Z fun a f=>Ab f Z fun a f=>Aa ?_
 obtain⟨au,av,hd⟩:=bind_some hd
 refine AE (fun a w=>∃aw:Int,aw=au∧∃(ax:GH),GLe al ax∧Fr a 38 [(1,(.int .u32 x1)),(2,(.int .i64 x2)),(8,(.int .u32 aw))]∧Mem W ax w (H)) ?_ ?_
 ·refine Ai ?_
  refine AB (fun ay a w=>∃az:Int,∃aA:Int,(az,aA)=ay∧∃(aB:GH),GLe al aB∧Fr a 38 [(0,v0),(1,(.int .u32 x1)),(2,(.int .i64 x2)),(8,(.int .u32 az)),(19,ap),(20,(.int .i64 (ai.length:Int))),(21,(.int .i64 aA))]∧Mem W aB w (aq::H)) av ⟨_,_,Z,_,gr,f.k Z,m⟩ ?_
  clear av f m
  rintro ay aC aD aE a w ⟨az,aA,rfl,aB,aF,f,m⟩
  have h0:=rd1 aF h0
  have ar:=od1 aF ar
  refine Ac ?_
  refine Ag f Z Z AD fun a f=>Aa (Af ?_)
  rcases Ae aD with⟨aG,aD⟩|⟨aG,aD⟩
  ·refine Am f Z aG ?_
   refine An ?_
   refine Af (Ai (Ac ?_))
   obtain⟨aH,aI,aD⟩:=bind_some aD
   refine AQ 0 m ar Z T67 f Z Z Z aI fun aJ a aK f=>Br 0 m ar Z Pl3 f Z Z aK aI fun aL a aM f=> ?_
   subst aM
   refine Ad f Z fun a f=>Aa (Aj ?_)
   refine Ab f Z fun a f=>Ab f Z fun a f=>Ab f Z fun a f=> ?_
   obtain⟨aN,aO,aD⟩:=bind_some aD
   refine Bb T61 f Z Z Z h0 aO fun aP aQ a aR aS f=> ?_
   subst aS
   refine Az m DN f Z Z aR fun a f=>Ag f Z Z b_or fun a f=>Ad f Z fun a f=>Aa (Aj ?_)
   refine Ag f Z Z As fun a f=>Ab f Z fun a f=>Aa ?_
   obtain rfl:=sj aD
   exact⟨_,Z,_,_,Z,_,aF,f.k Z,m⟩
  ·refine Ah f Z aG ?_
   refine Ax Z ?_
   have m:Mem W aB w H:=Mem.drop (H':=[aq]) m
   obtain rfl:=sj aD
   obtain rfl:=aE _ rfl
   exact⟨_,Z,_,aF,f.k Z,m⟩
 ·rintro a w ⟨aw,rfl,ax,aT,f,m⟩
  refine Ac ?_
  refine Ab f Z fun a f=>Ab f Z fun a f=>Ag f Z Z CZ fun a f=>Ab f Z fun a f=> ?_
  obtain⟨aU,aV,hd⟩:=bind_some hd
  refine AY f Z Tryz.call56 (Wk.d m aV) fun aW w aX m a f=>Ag f Z Z CZ fun a f=>Ad f Z fun a f=>Aa ?_
  refine Ap ?_
  obtain rfl:=sj hd
  exact⟨[(.int .u32 (iandNot .u32 (iandNot .u32 aw x1) aU))],⟨f.get _ _ Z,trivial⟩,f.defers,_,[],(gt ad (gt ah (gt an (gt aT aX)))),m,Z,Z⟩
theorem Wk.u0 {W w:World}{G:GH}{H:List Itm}{x0:Int}(m:Mem W G w (H)){y:Int}(hd:D.u0 x0=some y):
  Calls Tryz.prog 93 #[(.int .u32 x0)] w (Res W G H (fun _ Ho v=>Ho=[]∧v=(.int .i64 y))):=by
 refine Ar (args:=[(.int .u32 x0)]) (N:=5) [.tmp 2] Tryz.func93 Z Z (Nat.le_of_ble_eq_true Z) Z fun a f=> ?_
 unfold D.u0 at hd
 refine Ac ?_
 refine Ad f Z fun a f=>Aa (Ac ?_)
 refine Ab f Z fun a f=> ?_
 obtain⟨aa,ab,hd⟩:=bind_some hd
 refine AY f Z Tryz.call120 (Wk.I0 m ab) fun ac w ad m a f=>Ad f Z fun a f=>Aa ?_
 refine Ap ?_
 obtain rfl:=sj hd
 exact⟨[(.int .i64 aa)],⟨f.get _ _ Z,trivial⟩,f.defers,_,[],ad,m,Z,Z⟩
end Go.Proofs.YtkffjeaefgfnnaaGreatDoor

namespace Go.Sx
def OwMp {β:Type}(q:IntKind)(enc:β→Value)(it:Itm)(v:Value)(M:List (Int×β)):Prop:=
 ∃(b:Nat) (es:Array MapEntry) (clock:Nat),it= .obj b (.map es clock)∧v= .map (some b)∧es.toList.map (fun e=>(e.key,e.val))=M.map (fun kv=>(Value.int q kv.1,enc kv.2))
theorem find_now {β:Type}{q:IntKind}{enc:β→Value}(x:Int):∀(es:List MapEntry) (M:List (Int×β)) (i:Nat),es.map (fun e=>(e.key,e.val))=M.map (fun kv=>(Value.int q kv.1,enc kv.2))→
  (Instr.findNow (.int q) (.int q x) es i=some none∧∀kv∈M,kv.1≠x)∨∃j kv,Instr.findNow (.int q) (.int q x) es i=some (some (i+j,enc kv.2))∧M[j]? =some kv∧kv.1=x
 |[],M,i,h=>by
  have:M=[]:=by simpa using h.symm
  subst this
  exact .inl ⟨rfl,by simp⟩
 |e::es,[],i,h=>by simp at h
 |e::es,kv::M,i,h=>by
  simp only[List.map_cons,List.cons.injEq,Prod.mk.injEq] at h
  obtain⟨⟨h1,h2⟩,h3⟩:=h
  unfold Instr.findNow
  rw[h1]
  simp only[Instr.sameNow,if_true]
  by_cases hx:x=kv.1
  ·rw[show (x==kv.1)=true by simp[hx]]
   exact .inr ⟨0,kv,by simp[h2],rfl,hx.symm⟩
  ·rw[show (x==kv.1)=false by simp[hx]]
   rcases find_now x es M (i+1) h3 with⟨h4,h5⟩|⟨j,kv',h4,h5,h6⟩
   ·refine .inl ⟨h4,fun z hz=> ?_⟩
    rcases List.mem_cons.1 hz with rfl|hz
    ·exact fun e=>hx e.symm
    ·exact h5 z hz
   ·exact .inr ⟨j+1,kv',by simp only[h4];congr 3;omega,by simpa using h5,h6⟩
section
variable {P : Program} {ρ : Operand → Value} {w : World} {d : Option Tmp} {t : TypeId} {pos : String} {af : Array Edge} {gd : Option (Nat × Bool)}
theorem E2 {q:IntKind}{kt:TypeId}(hk:P.underlying kt=some (.int q)){k:Value}{es:List MapEntry}{o:Option (Nat×Value)}(h:Instr.findNow (.int q) k es 0=some o):(Instr.findKey kt k es).run P w= .ok o w:=by
 simp[Instr.findKey,run_underlying hk,h]
theorem EF {q:IntKind}{kt:TypeId}(hk:P.underlying kt=some (.int q))(e:Bool)(x:Int):(Instr.checkKey e 10000 kt (.int q x)).run P w= .ok () w:=by
 unfold Instr.checkKey
 simp[run_underlying hk]
theorem run_map {b:Nat}{es:Array MapEntry}{clock:Nat}(h:w.heap[b]? =some (.map es clock)):(getObj b).run P w= .ok (.map es clock) w:=by
 simp[getObj,Sem.run,h]
theorem run_setMap {b:Nat}{es:Array MapEntry}{clock:Nat}{o':Obj}(h:w.heap[b]? =some (.map es clock)):(setObj b o').run P w= .ok () {w with heap:=w.heap.setIfInBounds b o'}:=by
 simp[setObj,Sem.run,h]
theorem run_stays (q:IntKind)(x:Int):(Instr.keyThatStays (.int q x) (.int q x)).run P w= .ok (.int q x) w:=by
 have e:Instr.sameBits 10000 (.int q x) (.int q x)=true:=by simp[Instr.sameBits]
 unfold Instr.keyThatStays
 rw[e];rfl
theorem r_lookup {xo ko:Operand}{mt kt et:TypeId}{q:IntKind}{b:Nat}{es:Array MapEntry}{clock:Nat}{x:Int}{z:Value}{o:Option (Nat×Value)}{ok:Bool}(hx:ρ xo= .map (some b))(hk:ρ ko= .int q x)
  (ht:P.underlying mt=some (.map kt et)) (hq:P.underlying kt=some (.int q)) (hz:∀w,(zeroValue et).run P w= .ok z w) (hg:w.heap[b]? =some (.map es clock)) (ho:Instr.findNow (.int q) (.int q x) es.toList 0=some o):
  (execOp ρ ⟨d,.lookup mt xo ko ok,t,pos,af,gd⟩).run P w= .ok (.value (if ok then .tuple #[(o.map (·.2)).getD z,.bool o.isSome] else(o.map (·.2)).getD z)) w:=by
 cases o with
 |none=>simp[execOp,hx,hk,Instr.lookup,run_underlying ht,run_map hg,EF hq,E2 hq ho,hz w]
 |some p=>obtain⟨i,v⟩:=p;simp[execOp,hx,hk,Instr.lookup,run_underlying ht,run_map hg,EF hq,E2 hq ho]
theorem r_makeMap {mt:TypeId}:(execOp ρ ⟨d,.makeMap mt none,t,pos,af,gd⟩).run P w= .ok (.value (.map (some w.heap.size))) (w.alloc (.map #[] 0)):=by
 simp[execOp,Instr.makeMap]
theorem FR {mo ko vo:Operand}{mt kt et:TypeId}{q:IntKind}{b:Nat}{es:Array MapEntry}{clock:Nat}{x:Int}{y:Value}{o:Option (Nat×Value)}(hm:ρ mo= .map (some b))(hk:ρ ko= .int q x)(hv:ρ vo=y)
  (ht:P.underlying mt=some (.map kt et)) (hq:P.underlying kt=some (.int q)) (hg:w.heap[b]? =some (.map es clock)) (ho:Instr.findNow (.int q) (.int q x) es.toList 0=some o) (hkey:∀j v,o=some (j,v)→(es[j]?).map (·.key)=some (.int q x)):
  (execOp ρ ⟨d,.mapUpdate mt mo ko vo,t,pos,af,gd⟩).run P w= .ok .skip {w with heap:=w.heap.setIfInBounds b (match o with|some (j,_)=> .map (es.modify j fun e=>{e with key:= .int q x,val:=y}) clock|none=> .map (es.push {key:= .int q x,val:=y,born:=clock}) (clock+1))}:=by
 cases o with
 |none=>simp[execOp,hm,hk,hv,Instr.mapUpdate,run_underlying ht,run_map hg,EF hq,E2 hq ho,run_setMap hg]
 |some p=>
  obtain⟨j,v⟩:=p
  have h1:=hkey j v rfl
  have h2:((es[j]?).map (·.key)).getD (.int q x)= .int q x:=by rw[h1];rfl
  simp only[execOp,hm,hk,hv,Instr.mapUpdate]
  simp[run_underlying ht,run_map hg,EF hq,E2 hq ho,h2,run_stays,run_setMap hg]
end
section
variable {P : Program} {ops : Array Oper} {rest : List Oper} {n r : Bh} {x : List (Nat × Bh)} {a : Act} {w : World} {N : Nat} {L : Bm}
variable {W : World} {G : GH} {H : List Itm}
variable {d : Nat} {t : TypeId} {pos : String} {af : Array Edge}
theorem l_makeMap {β:Type}(q:IntKind)(enc:β→Value){mt:TypeId}(m:Mem W G w H)(f:Fr a N L)(hN:Nat.blt d N=true)
  (k:∀it v w' a',Mem W G w' (it::H)→OwMp q enc it v []→Fr a' N ((d,v)::L)→wpList P ops (Qk n x r) rest a' w'):
  wpList P ops (Qk n x r) (⟨some d,.makeMap mt none,t,pos,af,none⟩::rest) a w:=
 B5 f rfl rfl hN r_makeMap (fun a' f'=>k (.obj w.heap.size (.map #[] 0)) _ _ a' (m.add rfl rfl rfl (fun y hy=>by first|exact heap_alloc_old w _ y hy|exact heap_alloc_old w _ hy) (heap_alloc_new w _) (fun y hy=>by simp[Itm.foot] at hy;omega)) ⟨_,_,_,rfl,rfl,rfl⟩ f')
theorem l_lookup2 {β:Type}{q:IntKind}{enc:β→Value}{it:Itm}{v z:Value}{M:List (Int×β)}{mt kt et:TypeId}{xo ko:Operand}{i:Int}(j:Nat)(m:Mem W G w H)(h:OwMp q enc it v M)(hj:H[j]? =some it)
  (ht:P.underlying mt=some (.map kt et)) (hq:P.underlying kt=some (.int q)) (hz:∀w,(zeroValue et).run P w= .ok z w) (f:Fr a N L) (hN:Nat.blt d N=true) (hx:AP L xo=some v) (hk:AP L ko=some (.int q i))
  (k:∀(o:Option β),(∀y,o=some y→(i,y)∈M)→∀a',Fr a' N ((d,.tuple #[(o.map enc).getD z,.bool o.isSome])::L)→wpList P ops (Qk n x r) rest a' w):
  wpList P ops (Qk n x r) (⟨some d,.lookup mt xo ko true,t,pos,af,none⟩::rest) a w:=by
 obtain⟨b,es,clock,rfl,rfl,he⟩:=h
 have hg:w.heap[b]? =some (.map es clock):=m.items j _ hj
 rcases find_now i es.toList M 0 he with⟨h1,_⟩|⟨j',kv,h1,h2,h3⟩
 ·exact B5 f rfl rfl hN (r_lookup (f.eval hx) (f.eval hk) ht hq hz hg h1) (fun a' f'=>k none (fun y hy=>by cases hy) a' f')
 ·exact B5 f rfl rfl hN (r_lookup (f.eval hx) (f.eval hk) ht hq hz hg h1) (fun a' f'=>k (some kv.2) (fun y hy=>by
   simp only[Option.some.injEq] at hy
   subst hy;rw[←h3];exact List.mem_of_getElem? h2) a' f')
theorem l_mapUpdate {β:Type}{q:IntKind}{enc:β→Value}{it:Itm}{v:Value}{M:List (Int×β)}{mt kt et:TypeId}{xo ko vo:Operand}{i:Int}{y:β}(j:Nat)(m:Mem W G w H)(h:OwMp q enc it v M)(hj:H[j]? =some it)
  (ht:P.underlying mt=some (.map kt et)) (hq:P.underlying kt=some (.int q)) (f:Fr a N L) (hx:AP L xo=some v) (hk:AP L ko=some (.int q i)) (hv:AP L vo=some (enc y))
  (k:∀it' M' w',(∀kv∈M',kv=(i,y)∨kv∈M)→Mem W G w' (H.set j it')→OwMp q enc it' v M'→wpList P ops (Qk n x r) rest a w'):
  wpList P ops (Qk n x r) (⟨none,.mapUpdate mt xo ko vo,t,pos,af,none⟩::rest) a w:=by
 obtain⟨b,es,clock,rfl,rfl,he⟩:=h
 have hg:w.heap[b]? =some (.map es clock):=m.items j _ hj
 have hb:b<w.heap.size:=(Array.getElem?_eq_some_iff.1 hg).1
 have hlen:es.toList.length=M.length:=by have:=congrArg List.length he;simpa using this
 have hmem:∀(o:Obj),Mem W G {w with heap:=w.heap.setIfInBounds b o} (H.set j (.obj b o)):=fun o=>
  m.changeAt j hj rfl rfl rfl (fun y _ hy=>by
   have:y≠b:=fun e=>hy (by rw[e];simp[Itm.foot])
   simp[Ne.symm this]) (by simp[Itm.ok,hb]) (fun y hy=> .inl hy)
 rcases find_now i es.toList M 0 he with⟨h1,_⟩|⟨j',kv,h1,h2,h3⟩
 ·refine l_void rfl rfl (FR (f.eval hx) (f.eval hk) (f.eval hv) ht hq hg h1 (fun j v hc=>by cases hc)) ?_
  refine k _ (M++[(i,y)]) _ (fun kv hkv=> ?_) (hmem _) ⟨b,_,_,rfl,rfl,?_⟩
  ·rcases List.mem_append.1 hkv with h|h
   ·exact .inr h
   ·exact .inl (by simpa using h)
  ·simp[he]
 ·have hjl:j'<es.toList.length:=by rw[hlen];exact(List.getElem?_eq_some_iff.1 h2).1
  have hkey:(es[j']?).map (·.key)=some (.int q i):=by
   have hA:=congrArg (fun l=>l[j']?) he
   simp only[List.getElem?_map,h2,Option.map_some,Array.getElem?_toList] at hA
   cases hE:es[j']? with
   |none=>rw[hE] at hA;simp at hA
   |some e=>
    rw[hE] at hA
    simp only[Option.map_some,Option.some.injEq,Prod.mk.injEq] at hA
    rw[Option.map_some,hA.1,h3]
  refine l_void rfl rfl (FR (f.eval hx) (f.eval hk) (f.eval hv) ht hq hg h1 (fun j v hc=>by
   simp only[Option.some.injEq,Prod.mk.injEq,Nat.zero_add] at hc
   rw[←hc.1];exact hkey)) ?_
  refine k _ (M.set j' (i,y)) _ (fun kv' hkv=> ?_) (hmem _) ⟨b,_,_,rfl,rfl,?_⟩
  ·rcases List.mem_or_eq_of_mem_set hkv with h|h
   ·exact .inr h
   ·exact .inl h
  ·refine List.ext_getElem? fun p=> ?_
   have hA:=congrArg (fun l=>l[p]?) he
   simp only[List.getElem?_map,Array.getElem?_toList] at hA
   simp only[List.getElem?_map,Array.getElem?_toList,Array.getElem?_modify,List.getElem?_set,Nat.zero_add]
   by_cases hp:j'=p
   ·subst hp
    rw[if_pos rfl,if_pos rfl,if_pos (by rw[←hlen];exact hjl)]
    have:j'<es.size:=by simpa using hjl
    simp[this]
   ·rw[if_neg hp,if_neg hp]
    exact hA
end
end Go.Sx

set_option maxRecDepth 100000
namespace Go.Proofs.YtkffjeaefgfnnaaGreatDoor
open Go Go.Sx
theorem hT67 :SlT Tryz.prog 67 3 1 8 (.int .i64 0):=⟨Tryz.underlying67,Tryz.t3,by kernel_rfl,by kernel_rfl,by kernel_rfl,by kernel_rfl⟩
theorem hP3 :BV Tryz.prog 3:=Tryz.isAgg3
theorem hP61 :BV Tryz.prog 61:=Tryz.isAgg61
theorem hP83 :BV Tryz.prog 83:=Tryz.isAgg83
abbrev D2 (b:Nat):Value:= .pointer (some ⟨b,0,none⟩)
abbrev CB (b:Nat)(va vm:Value):Itm:=Itm.box b 85 [va,vm]
theorem OwMp.cells {β:Type}{q:IntKind}{enc:β→Value}{it:Itm}{v:Value}{M:List (Int×β)}(h:OwMp q enc it v M):v.cells= #[v]:=by
 obtain⟨b,es,clock,rfl,rfl,_⟩:=h;rfl
theorem Wk.T1 {W w:World}{G:GH}{H:List Itm}{v0:Value}{x0:List Int}(m:Mem W G w H)(h0:RSl (RI .u32) G v0 x0):
  Calls Tryz.prog 32 #[v0] w (Res W G H (fun G' Ho v=>∃(bx:Nat) (vm:Value) (itM:Itm),Ho=[CB bx v0 vm,itM]∧v=D2 bx∧OwMp .u32 (Value.int .i64) itM vm [])):=by
 refine Ar (args:=[v0]) (N:=7) [.tmp 2] Tryz.func32 Z Z (Nat.le_of_ble_eq_true Z) Z fun a f=>Ac ?_
 refine Ad f Z fun a f=>Aa (Ac ?_)
 refine Ab f Z fun a f=>l_makeMap .u32 (Value.int .i64) m f Z fun itM vm w a m oM f=> ?_
 have hb:∀w,(Instr.build 85 #[(0,v0),(1,vm)]).run Tryz.prog w= .ok (.agg #[v0,vm]) w:=by intro w;simp[Instr.build,Instr.fill,h0.cells,OwMp.cells oM,Cu]
 refine Dc f Z Z hb fun a f=>Bn (cs:=[v0,vm]) m f Z Z Z fun bx w a m f=>Ad f Z fun a f=>Aa ?_
 refine Ap ?_
 exact⟨[D2 bx],⟨f.get _ _ Z,trivial⟩,f.defers,G,[CB bx v0 vm,itM],gr,m,_,_,_,Z,Z,oM⟩
def AfterOk (W:World)(F:List Int)(n:Nat):Prop:=∀(w:World) (G:GH) (H:List Itm) (bx:Nat) (va vm:Value) (itM:Itm) (M:List (Int×Int)) (k y:Int) (m:Mem W G w (CB bx va vm::itM::H)) (h0:RSl (RI .u32) G va F) (oM:OwMp .u32 (Value.int .i64) itM vm M) (hc:DB F M) (hd:D.h n F k=some y),
 Calls Tryz.prog 34 #[D2 bx,(.int .u32 k)] w (Res W G H (fun G' Ho v=>∃(it':Itm) (M':List (Int×Int)),Ho=[CB bx va vm,it']∧v= .int .i64 y∧OwMp .u32 (Value.int .i64) it' vm M'∧DB F M'))
theorem AfterOk.go {W:World}{F:List Int}{n:Nat}(h:AfterOk W F n){w:World}{G:GH}{H:List Itm}{bx:Nat}{va vm:Value}{itM:Itm}{M:List (Int×Int)}{k y:Int}(m:Mem W G w (CB bx va vm::itM::H))(h0:RSl (RI .u32) G va F)(oM:OwMp .u32 (Value.int .i64) itM vm M)(hc:DB F M)(hd:D.h n F k=some y):
 Calls Tryz.prog 34 #[D2 bx,(.int .u32 k)] w (Res W G H (fun G' Ho v=>∃(it':Itm) (M':List (Int×Int)),Ho=[CB bx va vm,it']∧v= .int .i64 y∧OwMp .u32 (Value.int .i64) it' vm M'∧DB F M')):=h _ _ _ _ _ _ _ _ _ _ m h0 oM hc hd
set_option maxHeartbeats 1000000 in
theorem Wk.I1 {W:World}(hW:Cs W){F:List Int}{n:Nat}(ih:AfterOk W F n){w:World}{G:GH}{H:List Itm}{bx:Nat}{va vm:Value}{itM:Itm}{M:List (Int×Int)}{k v y:Int}(m:Mem W G w (CB bx va vm::itM::H))(h0:RSl (RI .u32) G va F)(oM:OwMp .u32 (Value.int .i64) itM vm M)(hc:DB F M)(hd:D.A (D.h n F) F k v=some y):
  Calls Tryz.prog 55 #[D2 bx,(.int .u32 k),(.int .i64 v)] w (Res W G H (fun G' Ho r=>∃(it':Itm) (M':List (Int×Int)),Ho=[CB bx va vm,it']∧r= .int .i64 y∧OwMp .u32 (Value.int .i64) it' vm M'∧DB F M')):=by
 refine Ar (args:=[D2 bx,(.int .u32 k),(.int .i64 v)]) (N:=22) [.tmp 6] Tryz.func55 Z Z (Nat.le_of_ble_eq_true Z) Z fun a f=> ?_
 unfold D.A at hd
 obtain⟨b,hb,hd⟩:=bind_some hd
 obtain⟨s,hs,hd⟩:=bind_some hd
 obtain⟨o,ho,hd⟩:=bind_some hd
 obtain⟨t,ht,hd⟩:=bind_some hd
 obtain rfl:=sj hd
 refine Ac ?_
 refine Ad f Z fun a f=>Aa (Ac ?_)
 refine Ab f Z fun a f=>l_o f (A9 (f.eval Z)) fun a f=>Bo Tryz.underlying85 Z Tryz.sizeOf61 f Z fun a f=>AG 0 0 m hP61 f Z Z Z Z fun a f=>Ab f Z fun a f=>Ab f Z fun a f=>AY f Z Tryz.call92 (Wk.R hW m h0 hb) fun G1 w hl1 m a f=> ?_
 have h0:=rd1 hl1 h0
 refine AY f Z Tryz.call93 (Wk.u0 m hs) fun G2 w hl2 m a f=> ?_
 have h0:=rd1 hl2 h0
 refine Ab f Z fun a f=>Ab f Z fun a f=>Ab f Z fun a f=>AY f Z Tryz.call56 (Wk.d m ho) fun G3 w hl3 m a f=> ?_
 have h0:=rd1 hl3 h0
 refine Ag f Z Z b_or fun a f=>AF f Z Tryz.call34 (ih.go m h0 oM hc ht) fun v4 G4 Ho4 w hl4 m hQ4 a f=> ?_
 obtain⟨it',M',rfl,rfl,oM',hc'⟩:=hQ4
 refine l_o f (r_max2 (f.eval Z) (f.eval Z)) fun a f=>Ad f Z fun a f=>Aa ?_
 refine Ap ?_
 exact⟨[.int .i64 (if s<t then t else s)],⟨f.get _ _ Z,trivial⟩,f.defers,G4,[CB bx va vm,it'],gt hl1 (gt hl2 (gt hl3 hl4)),m,_,_,Z,Z,oM',hc'⟩
set_option maxHeartbeats 2000000 in
theorem Wk.f1 {W:World}(hW:Cs W){F:List Int}:∀n:Nat,AfterOk W F n
 |0=>by intro w G H bx va vm itM M k y m h0 oM hc hd;simp[D.h] at hd
 |n+1=>by
  have ih:=Wk.f1 hW (F:=F) n
  intro w G H bx va vm itM M k y m h0 oM hc hd
  have hd0:=hd
  refine Ar (args:=[D2 bx,(.int .u32 k)]) (N:=55) [.tmp 4] Tryz.func34 Z Z (Nat.le_of_ble_eq_true Z) Z fun a f=> ?_
  unfold D.h at hd
  obtain⟨all,ha,hd⟩:=bind_some hd
  refine Ac ?_
  refine Ad f Z fun a f=>Aa (Af (Ac ?_))
  refine Ab f Z fun a f=>Ab f Z fun a f=>l_o f (A9 (f.eval Z)) fun a f=>Bo Tryz.underlying85 Z Tryz.sizeOf61 f Z fun a f=>AG 0 0 m hP61 f Z Z Z Z fun a f=>AY f Z Tryz.call71 (Wk.n m h0 ha) fun G1 w hl1 m a f=> ?_
  have h0:=rd1 hl1 h0
  refine Ag f Z Z BG fun a f=>Aa ?_
  rcases Ae hd with⟨hc1,hd⟩|⟨hc1,hd⟩
  ·obtain rfl:=sj hd
   refine Am f Z hc1 ?_
   refine Ac ?_
   refine Ad f Z fun a f=>Aa ?_
   refine Ap ?_
   exact⟨[.int .i64 0],⟨f.get _ _ Z,trivial⟩,f.defers,G1,[CB bx va vm,itM],hl1,m,_,_,Z,Z,oM,hc⟩
  ·refine Ah f Z hc1 ?_
   refine An ?_
   obtain⟨us,hus,hd⟩:=bind_some hd
   refine Af (Ac ?_)
   refine Ab f Z fun a f=>l_o f (A9 (f.eval Z)) fun a f=>Bo Tryz.underlying85 Z Tryz.sizeOf83 f Z fun a f=>AG 0 1 m hP83 f Z Z Z Z fun a f=>Ab f Z fun a f=>l_lookup2 1 m oM Z Tryz.underlying83 Tryz.underlying65 Tryz.zeroValue3 f Z Z Z fun o ho a f=>Ab f Z fun a f=>l_o f (Bt (f.eval Z) Z) fun a f=>l_o f (Bt (f.eval Z) Z) fun a f=>Ad f Z fun a f=>Ad f Z fun a f=>Aa (Ac ?_)
   refine Ab f Z fun a f=>Aa ?_
   cases o with
   |some z=>
    obtain⟨n',hn'⟩:=hc _ (ho z rfl)
    have hzy:z=y:=wAfterR_det hn' hd0
    subst hzy
    refine Am f Z Z ?_
    refine Ac ?_
    refine Ab f Z fun a f=>Ad f Z fun a f=>Aa ?_
    refine Ap ?_
    exact⟨[.int .i64 z],⟨f.get _ _ Z,trivial⟩,f.defers,G1,[CB bx va vm,itM],hl1,m,_,_,Z,Z,oM,hc⟩
   |none=>
    refine Ah f Z Z ?_
    refine An ?_
    refine Ac ?_
    refine Ad f Z fun a f=>Aa (Af (Ac ?_))
    refine Ab f Z fun a f=>l_o f (A9 (f.eval Z)) fun a f=>Bo Tryz.underlying85 Z Tryz.sizeOf61 f Z fun a f=>AG 0 0 m hP61 f Z Z Z Z fun a f=>AY f Z Tryz.call71 (Wk.n m h0 ha) fun G2 w hl2 m a f=> ?_
    have h0:=rd1 hl2 h0
    refine Ab f Z fun a f=>Ag f Z Z CZ fun a f=>AF f Z Tryz.call72 (Wk.k hW m hus) fun v3 G3 Ho3 w hl3 m hQ3 a f=> ?_
    obtain⟨vu,itu,rfl,rfl,ou⟩:=hQ3
    have h0:=rd1 hl3 h0
    obtain⟨G4,hl4,m,hu⟩:=ou.stamp (RI.mono _) m
    have h0:=rd1 hl4 h0
    refine AX Tryz.underlying67 f Z Z hu fun a f=>Ab f Z fun a f=>Aa ?_
    have hle4:GLe G G4:=gt hl1 (gt hl2 (gt hl3 hl4))
    refine AE (fun a w=>∃(G':GH) (it':Itm) (M':List (Int×Int)),GLe G4 G'∧Fr a 55 [(0,D2 bx),(1,(.int .u32 k)),(7,(.int .i64 y))]∧Mem W G' w (CB bx va vm::it'::H)∧OwMp .u32 (Value.int .i64) it' vm M'∧DB F M') ?_ ?_
    ·refine Ai ?_
     refine AB (fun(s:Int×Int) a w=>∃(G':GH) (it':Itm) (M':List (Int×Int)),GLe G4 G'∧Fr a 55 [(0,D2 bx),(1,(.int .u32 k)),(7,(.int .i64 s.1)),(35,vu),(36,(.int .i64 (us.length:Int))),(37,(.int .i64 s.2))]∧Mem W G' w (CB bx va vm::it'::H)∧OwMp .u32 (Value.int .i64) it' vm M'∧DB F M') hd ⟨_,_,_,gr,f.k Z,m,oM,hc⟩ ?_
     clear hd f m oM hc ho
     rintro⟨best,i⟩ o hs hqq a w ⟨G5,itM,M,hl5,f,m,oM,hc⟩
     dsimp only at f
     have h0:=rd1 hl5 h0
     have hu:=rd1 hl5 hu
     unfold D.J0 at hs
     dsimp only at hs
     refine Ac ?_
     refine Ag f Z Z AD fun a f=>Aa (Af ?_)
     rcases Ae hs with⟨hc2,hs⟩|⟨hc2,hs⟩
     ·refine Am f Z hc2 ?_
      refine An ?_
      obtain⟨v,hv,hs⟩:=bind_some hs
      obtain⟨z,hz,hs⟩:=bind_some hs
      obtain rfl:=sj hs
      refine Af (Ai (Ac ?_))
      refine Bb hT67 f Z Z Z hu hv fun p6 c6 a g6 h6 f=> ?_
      subst h6
      refine Az m hP3 f Z Z g6 fun a f=>Ad f Z fun a f=>Aa (Aj ?_)
      refine Ab f Z fun a f=>Ab f Z fun a f=>Ab f Z fun a f=>Ab f Z fun a f=>AF f Z Tryz.call55 (Wk.I1 hW ih m h0 oM hc hz) fun v7 G7 Ho7 w hl7 m hQ7 a f=> ?_
      obtain⟨itM,M,rfl,rfl,oM,hc⟩:=hQ7
      refine l_o f (r_min2 (f.eval Z) (f.eval Z)) fun a f=>Ad f Z fun a f=>Aa (Aj ?_)
      refine Ag f Z Z As fun a f=>Ab f Z fun a f=>Aa ?_
      exact⟨_,Z,G7,_,_,gt hl5 hl7,f.k Z,m,oM,hc⟩
     ·refine Ah f Z hc2 ?_
      refine Ax Z ?_
      obtain rfl:=sj hs
      obtain rfl:=hqq _ rfl
      exact⟨G5,_,_,hl5,f.k Z,m,oM,hc⟩
    ·clear hd f m oM hc ho
     rintro a w ⟨G5,itM,M,hl5,f,m,oM,hc⟩
     refine Ac ?_
     refine Ab f Z fun a f=>l_o f (A9 (f.eval Z)) fun a f=>Bo Tryz.underlying85 Z Tryz.sizeOf83 f Z fun a f=>AG 0 1 m hP83 f Z Z Z Z fun a f=>Ab f Z fun a f=>Ab f Z fun a f=>l_mapUpdate 1 m oM Z Tryz.underlying83 Tryz.underlying65 f Z Z Z fun it' M' w hM' m oM=>Aa (Ac ?_)
     refine Ab f Z fun a f=>Ad f Z fun a f=>Aa ?_
     refine Ap ?_
     exact⟨[.int .i64 y],⟨f.get _ _ Z,trivial⟩,f.defers,G5,[CB bx va vm,it'],gt hle4 hl5,m,_,_,Z,Z,oM,fun kv hkv=>by
      rcases hM' kv hkv with rfl|h
      ·exact⟨n+1,hd0⟩
      ·exact hc kv h⟩
end Go.Proofs.YtkffjeaefgfnnaaGreatDoor

set_option maxRecDepth 100000
namespace Go.Proofs.YtkffjeaefgfnnaaGreatDoor
open Go Go.Sx
set_option maxHeartbeats 2000000 in
theorem Wk.S {W w:World}{G:GH}{H:List Itm}{v0_0:Value}{x0_0:List (List Int)}(hW:Cs W)(m:Mem W G w H)(h0_0:RSl (RSl (RI .i64)) G v0_0 x0_0){y:Int}(hd:D.S x0_0=some y):
  Calls Tryz.prog 9 #[(.agg #[v0_0])] w (Res W G H (fun G' Ho v=>Ho=[]∧v= .int .i64 y)):=by
 refine Ar (args:=[(.agg #[v0_0])]) (N:=10) [.tmp 2] Tryz.func9 Z Z (Nat.le_of_ble_eq_true Z) Z fun a f=> ?_
 unfold D.S at hd
 obtain⟨b,hb,hd⟩:=bind_some hd
 refine Ac ?_
 refine Bn (cs:=[v0_0]) m f Z Z Z fun aa w a m f=>Ad f Z fun a f=>Aa (Af (Ac ?_))
 refine AA 0 0 (ds:=[v0_0]) m AW f Z Z Z Z Z fun a f=>AY f Z Tryz.call31 (Wk.t m h0_0 hb) fun G1 w hl1 m a f=> ?_
 have h0_0:=rd2 hl1 h0_0
 refine l_o f (Bp (f.eval Z)) fun a f=>Aa ?_
 rcases Ae hd with⟨hc1,hd⟩|⟨hc1,hd⟩
 ·refine Am f Z hc1 ?_
  refine Ac ?_
  refine Ad f Z fun a f=>Aa ?_
  refine Ap ?_
  have m:Mem W G1 w H:=m.eraseAt 0
  obtain rfl:=sj hd
  exact⟨[.int .i64 (-1)],⟨f.get _ _ Z,trivial⟩,f.defers,G1,[],hl1,m,Z,Z⟩
 ·refine Ah f Z hc1 ?_
  refine An ?_
  obtain⟨F,hF,hd⟩:=bind_some hd
  obtain⟨t,ht,hd⟩:=bind_some hd
  obtain rfl:=sj hd
  refine Ac ?_
  refine AA 0 0 (ds:=[v0_0]) m AW f Z Z Z Z Z fun a f=>AF f Z Tryz.call33 (Wk.r m h0_0 hF) fun v2 G2 Ho2 w hl2 m hQ2 a f=> ?_
  obtain⟨vn,itn,rfl,rfl,on⟩:=hQ2
  obtain⟨G3,hl3,m,hn⟩:=on.stamp (RI.mono _) m
  refine AF f Z Tryz.call32 (Wk.T1 m hn) fun v4 G4 Ho4 w hl4 m hQ4 a f=> ?_
  obtain⟨bx,vm,itM,rfl,rfl,oM⟩:=hQ4
  have hn:=rd1 hl4 hn
  refine AF f Z Tryz.call34 ((Wk.f1 hW Bs).go m hn oM (fun kv h=>by simp at h) ht) fun v5 G5 Ho5 w hl5 m hQ5 a f=> ?_
  obtain⟨itM,M,rfl,rfl,oM,hc⟩:=hQ5
  refine Ad f Z fun a f=>Aa ?_
  refine Ap ?_
  exact⟨[.int .i64 t],⟨f.get _ _ Z,trivial⟩,f.defers,G5,[],gt hl1 (gt hl2 (gt hl3 (gt hl4 hl5))),m.tail.tail.tail,Z,Z⟩
end Go.Proofs.YtkffjeaefgfnnaaGreatDoor

set_option maxRecDepth 100000
namespace Go.Proofs.YtkffjeaefgfnnaaGreatDoor
open Go Go.Sx
theorem Mem.third {W:World}{G:GH}{w:World}{a b c:Itm}{H:List Itm}(m:Mem W G w (a::b::c::H)):Mem W G w (b::c::a::H):=
 Mem.flip (A:=[b]) m.swap
set_option maxHeartbeats 2000000 in
theorem Wk.T {W w:World}{G:GH}{H:List Itm}{v0:Value}{x0:List Int}(hW:Cs W)(m:Mem W G w H)(h0:RSl (RI .u32) G v0 x0){y:List Int}(hd:D.T x0=some y):
  Calls Tryz.prog 36 #[v0] w (Res W G H (fun G' Ho v=>∃r0:Value,∃i0:Itm,Ho=[i0]∧r0=v∧Ow (RI .i64) 3 G' i0 r0 y)):=by
 refine Ar (args:=[v0]) (N:=44) [.tmp 2] Tryz.func36 Z Z (Nat.le_of_ble_eq_true Z) Z fun a f=> ?_
 unfold D.T at hd
 obtain⟨most,hmost,hd⟩:=bind_some hd
 refine Ac ?_
 refine Ad f Z fun a f=>Aa (Ac ?_)
 refine Ab f Z fun a f=>AF f Z Tryz.call32 (Wk.T1 m h0) fun v1 G1 Ho1 w hl1 m hQ1 a f=> ?_
 obtain⟨bx,vm,itM,rfl,rfl,oM⟩:=hQ1
 have h0:=rd1 hl1 h0
 refine A5 (R:=(RI .i64)) (xs:=([]:List Int)) (RI.one _) m hT67 f Z Z Z (by decide) (All2.nil _) fun io vo w a m oo f=>Ad f Z fun a f=>Ad f Z fun a f=>Ad f Z fun a f=>Aa ?_
 have m:Mem W G1 w (CB bx v0 vm::itM::io::H):=Mem.third m
 refine Ac ?_
 refine Ab f Z fun a f=>AF f Z Tryz.call34 ((Wk.f1 hW Bs).go m h0 oM (fun kv h=>by simp at h) hmost) fun v2 G2 Ho2 w hl2 m hQ2 a f=> ?_
 obtain⟨itM,M,rfl,rfl,oM,hc⟩:=hQ2
 have h0:=rd1 hl2 h0
 have oo:=od1 hl2 oo
 refine Ad f Z fun a f=>Aa ?_
 have hle2:GLe G G2:=gt hl1 hl2
 refine Af ?_
 refine AE (fun a w=>∃(G':GH) (vo:Value) (io it':Itm),GLe G2 G'∧Fr a 44 [(4,vo)]∧Mem W G' w (CB bx v0 vm::it'::io::H)∧Ow (RI .i64) 3 G' io vo y) ?_ ?_
 ·refine Ai ?_
  refine AB (fun(s:List Int×Int) a w=>∃(G':GH) (vo:Value) (io it':Itm) (M':List (Int×Int)),GLe G2 G'∧Fr a 44 [(0,v0),(3,D2 bx),(4,vo),(5,(.int .u32 s.2)),(6,(.int .i64 most))]∧Mem W G' w (CB bx v0 vm::it'::io::H)∧Ow (RI .i64) 3 G' io vo s.1∧OwMp .u32 (Value.int .i64) it' vm M'∧DB x0 M') hd ⟨_,_,_,_,_,gr,f.k Z,m,oo,oM,hc⟩ ?_
  clear hd f m oo oM hc
  rintro⟨out,gone⟩ o hs hqq a w ⟨G3,vo,io,itM,M,hl3,f,m,oo,oM,hc⟩
  dsimp only at f oo
  have h0:=rd1 hl3 h0
  unfold D.q1 at hs
  dsimp only at hs
  obtain⟨all,ha,hs⟩:=bind_some hs
  refine Af (Ac ?_)
  refine Ab f Z fun a f=>Ab f Z fun a f=>AY f Z Tryz.call71 (Wk.n m h0 ha) fun G4 w hl4 m a f=> ?_
  have h0:=rd1 hl4 h0
  have oo:=od1 hl4 oo
  refine Ag f Z Z CS fun a f=>Aa ?_
  rcases Ae hs with⟨hc1,hs⟩|⟨hc1,hs⟩
  ·refine Am f Z hc1 ?_
   refine An ?_
   obtain⟨us,hus,hs⟩:=bind_some hs
   obtain⟨q,hq,hs⟩:=bind_some hs
   obtain rfl:=sj hs
   refine Ai (Ac ?_)
   refine Ab f Z fun a f=>AY f Z Tryz.call71 (Wk.n m h0 ha) fun G5 w hl5 m a f=> ?_
   have h0:=rd1 hl5 h0
   have oo:=od1 hl5 oo
   refine Ab f Z fun a f=>Ag f Z Z CZ fun a f=>AF f Z Tryz.call72 (Wk.k hW m hus) fun v6 G6 Ho6 w hl6 m hQ6 a f=> ?_
   obtain⟨vu,itu,rfl,rfl,ou⟩:=hQ6
   have h0:=rd1 hl6 h0
   have oo:=od1 hl6 oo
   obtain⟨G7,hl7,m,hu⟩:=ou.stamp (RI.mono _) m
   have h0:=rd1 hl7 h0
   have oo:=od1 hl7 oo
   refine AX Tryz.underlying67 f Z Z hu fun a f=>Ab f Z fun a f=>Aa ?_
   have hle7:GLe G2 G7:=gt hl3 (gt hl4 (gt hl5 (gt hl6 hl7)))
   refine Ai ?_
   refine AB (fun(i:Int) a w=>∃(G':GH) (vo:Value) (io it':Itm) (M':List (Int×Int)),GLe G7 G'∧Fr a 44 [(0,v0),(3,D2 bx),(4,vo),(5,(.int .u32 gone)),(6,(.int .i64 most)),(22,vu),(23,(.int .i64 (us.length:Int))),(24,(.int .i64 i))]∧Mem W G' w (CB bx v0 vm::it'::io::H)∧Ow (RI .i64) 3 G' io vo out∧OwMp .u32 (Value.int .i64) it' vm M'∧DB x0 M') hq ⟨_,_,_,_,_,gr,f.k Z,m,oo,oM,hc⟩ ?_
   clear hq f m oo oM hc
   rintro i o' hs' hqq' a w ⟨G8,vo,io,itM,M,hl8,f,m,oo,oM,hc⟩
   have h0:=rd1 hl8 h0
   have hu:=rd1 hl8 hu
   unfold D.x1 at hs'
   refine Ac ?_
   refine Ag f Z Z AD fun a f=>Aa (Af ?_)
   rcases Ae hs' with⟨hc2,hs'⟩|⟨hc2,hs'⟩
   ·refine Am f Z hc2 ?_
    refine An ?_
    obtain⟨v,hv,hs'⟩:=bind_some hs'
    obtain⟨z,hz,hs'⟩:=bind_some hs'
    refine Af (Ai (Ac ?_))
    refine Bb hT67 f Z Z Z hu hv fun p9 c9 a g9 h9 f=> ?_
    subst h9
    refine Az m hP3 f Z Z g9 fun a f=>Ad f Z fun a f=>Aa (Ac ?_)
    refine Ab f Z fun a f=>Ab f Z fun a f=>Ab f Z fun a f=>AF f Z Tryz.call55 (Wk.I1 hW (Wk.f1 hW Bs) m h0 oM hc hz) fun v10 G10 Ho10 w hl10 m hQ10 a f=> ?_
    obtain⟨itM,M,rfl,rfl,oM,hc⟩:=hQ10
    have h0:=rd1 hl10 h0
    have hu:=rd1 hl10 hu
    have oo:=od1 hl10 oo
    refine Ab f Z fun a f=>Ag f Z Z Cm fun a f=>Aa ?_
    rcases Ae hs' with⟨hc3,hs'⟩|⟨hc3,hs'⟩
    ·obtain⟨o2,ho2,hs'⟩:=bind_some hs'
     obtain⟨b,hb,hs'⟩:=bind_some hs'
     obtain rfl:=sj hs'
     obtain rfl:=hqq' _ rfl
     refine Am f Z hc3 ?_
     refine Ac ?_
     refine Ab f Z fun a f=>Ab f Z fun a f=>A5 (R:=(RI .i64)) (xs:=([v]:List Int)) (RI.one _) m hT67 f Z Z Z (by decide) (All2.cons Z (All2.nil _)) fun is vs w a m os f=>Bj (RI.one _) 3 m oo Z hT67 Z (by decide) f Z Z Z (os.src (j:=0) m Z) ho2 fun io vo w a m oo f=> ?_
     have m:Mem W G10 w (CB bx v0 vm::itM::io::H):=Mem.tail m
     refine Ad f Z fun a f=>Aa (Ac ?_)
     refine Ab f Z fun a f=>Ab f Z fun a f=>AY f Z Tryz.call56 (Wk.d m hb) fun G11 w hl11 m a f=> ?_
     have oo:=od1 hl11 oo
     refine Ag f Z Z b_or fun a f=>Ad f Z fun a f=>Aa ?_
     refine Ax Z ?_
     exact⟨_,Z,G11,_,_,_,_,gt hle7 (gt hl8 (gt hl10 hl11)),f.k Z,m,oo,oM,hc⟩
    ·obtain rfl:=sj hs'
     refine Ah f Z hc3 ?_
     refine An ?_
     refine Aj ?_
     refine Ag f Z Z As fun a f=>Ab f Z fun a f=>Aa ?_
     exact⟨_,Z,G10,_,_,_,_,gt hl8 hl10,f.k Z,m,oo,oM,hc⟩
   ·refine Ah f Z hc2 ?_
    refine Ax Z ?_
    obtain rfl:=sj hs'
    obtain rfl:=hqq' _ rfl
    exact⟨_,Z,G8,_,_,_,_,gt hle7 hl8,f.k Z,m,oo,oM,hc⟩
  ·refine Ah f Z hc1 ?_
   refine Ax Z ?_
   obtain rfl:=sj hs
   obtain rfl:=hqq _ rfl
   exact⟨G4,_,_,_,gt hl3 hl4,f.k Z,m,oo⟩
 ·clear hd f m oo oM hc
  rintro a w ⟨G3,vo,io,itM,hl3,f,m,oo⟩
  refine Ac ?_
  refine Ab f Z fun a f=>Ad f Z fun a f=>Aa ?_
  refine Ap ?_
  exact⟨[vo],⟨f.get _ _ Z,trivial⟩,f.defers,G3,[io],gt hle2 hl3,m.tail.tail,_,_,Z,Z,oo⟩
end Go.Proofs.YtkffjeaefgfnnaaGreatDoor
