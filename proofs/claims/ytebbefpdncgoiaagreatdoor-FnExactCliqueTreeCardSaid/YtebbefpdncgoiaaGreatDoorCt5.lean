/- Parts of the proof: MFW. -/
import Derived.Test.YtebbefpdncgoiaaGreatDoorCt4
import Derived.Test.YtebbefpdncgoiaaGreatDoorProg
import Derived.KernelRfl
set_option linter.unusedVariables false
set_option linter.unusedSimpArgs false
set_option linter.unusedSectionVars false
set_option maxRecDepth 100000
namespace Go.Proofs.YtebbefpdncgoiaaGreatDoor
open Go Go.Sx
theorem Pl4 : Plain Tryz.prog 4 := Tryz.isAgg4
theorem T142 : SlT Tryz.prog 142 4 1 1 (.bool false) := ⟨Tryz.underlying142, Tryz.t4, by kernel_rfl, by kernel_rfl, by kernel_rfl, by kernel_rfl⟩

theorem Wk.Y {W : World} (n : Nat) : ∀ {w : World} {G : GH} {H : List Itm} {v0_0 : Value} {v1 : Value} {v2 : Value} {v3 : Value} {x0_0 : (List (List Int))} {x1 : (List Int)} {x2 : (List Int)} {x3 : (List Int)} (m : Mem W G w (H)) (h0_0 : RSl (RSl (RI .i64)) G v0_0 x0_0) (h1 : RSl (RI .i64) G v1 x1) (h2 : RSl (RI .i64) G v2 x2) (h3 : RSl (RI .i64) G v3 x3) {y : ((List (List Int)))} (hd : D.Y n x0_0 x1 x2 x3 = some y),
  Calls Tryz.prog 86 #[(.agg #[v0_0]), v1, v2, v3] w (Res W G H (fun G' Ho v => ∃ r0 : Value, ∃ i0 : Itm, Ho = [i0] ∧ r0 = v ∧ Ow (RSl (RI .i64)) 42 G' i0 r0 y)) := by
 induction n with
 | zero => intros; rename_i hd; simp [D.Y] at hd
 | succ fuel ih =>
  intro w G H v0_0 v1 v2 v3 x0_0 x1 x2 x3 m h0_0 h1 h2 h3 y hd
  refine calls_b (args := [(.agg #[v0_0]), v1, v2, v3]) (N := 67) [.tmp 8] Tryz.func86 rfl rfl (Nat.le_of_ble_eq_true rfl) rfl fun a f => ?_
  unfold D.Y at hd
  refine k_seq (k_region ?_)
  refine l_box (cs := [v0_0]) m f rfl rfl rfl fun aa w a m f => l_as f rfl rfl fun a f => l_nil (k_seq (k_seq (k_region ?_)))
  refine l_mv f rfl rfl fun a f => l_len Tryz.underlying42 f rfl rfl h2 fun a f => l_in f rfl rfl rfl b_eql fun a f => l_mv f rfl rfl fun a f => ?_
  refine l_cut 4 (fun a w => ∃ ab, GLe G ab ∧ Mem W ab w (Itm.box aa 30 [v0_0] :: H) ∧ Fr a 67 [(0, (.agg #[v0_0])), (1, v1), (2, v2), (3, v3), (4, (.pointer (some ⟨aa, 0, none⟩))), (13, v2), (14, (.int .i64 (x2.length : Int))), (15, (.bool ((x2.length : Int) == 0))), (16, (.bool ((x2.length : Int) == 0))), (20, (.bool (((x2.length : Int) == 0) && ((x3.length : Int) == 0))))]) ?_ ?_
  ·rcases Bool.eq_false_or_eq_true ((x2.length : Int) == 0) with ac | ac
   ·refine l_run f rfl rfl ac ?_
    refine l_mv f rfl rfl fun a f => l_run f rfl rfl ac ?_
    refine l_len Tryz.underlying42 f rfl rfl h3 fun a f => l_run f rfl rfl ac ?_
    refine l_in f rfl rfl rfl b_eql fun a f => l_op f rfl rfl rfl (r_pickT (f.eval rfl) ac (f.eval rfl)) fun a f => ?_
    exact ⟨_, (GLe.refl _), m, f.weak ⟨rfl, rfl, rfl, rfl, rfl, rfl, rfl, rfl, rfl, by rw [ac]; rfl, trivial⟩⟩
   ·refine l_not' f rfl rfl rfl ac fun a f => ?_
    refine l_not' f rfl rfl rfl ac fun a f => l_not' f rfl rfl rfl ac fun a f => l_op f rfl rfl rfl (r_pickF (f.eval rfl) ac (f.eval rfl)) fun a f => ?_
    exact ⟨_, (GLe.refl _), m, f.weak ⟨rfl, rfl, rfl, rfl, rfl, rfl, rfl, rfl, rfl, by rw [ac]; rfl, trivial⟩⟩
  ·rintro a w ⟨ab, ad, m, f⟩
   have h0_0 := rd2 ad h0_0
   have h1 := rd1 ad h1
   have h2 := rd1 ad h2
   have h3 := rd1 ad h3
   refine l_nil ?_
   rcases cond_some hd with ⟨ae, hd⟩ | ⟨ae, hd⟩
   ·refine k_true f rfl ae ?_
    refine k_seq (k_region ?_)
    refine l_mv f rfl rfl fun a f => l_slit (R := (RSl (RI .i64))) (xs := ([x1] : List (List Int))) (RSl.one _) m T22 f rfl rfl rfl (by decide) (All2.cons h1 (All2.nil _)) fun af ag w a m ah f => l_as f rfl rfl fun a f => l_nil ?_
    refine k_ret ?_
    have m := m.eraseAt 1
    obtain rfl := sj hd
    exact ⟨[ag], ⟨f.get _ _ rfl, trivial⟩, f.defers, _, [af], ad, m, _, _, rfl, rfl, ah⟩
   ·refine k_false f rfl ae ?_
    refine k_skip ?_
    refine k_seq (k_region ?_)
    refine l_slit (R := (RSl (RI .i64))) (xs := ([] : List (List Int))) (RSl.one _) m T22 f rfl rfl rfl (by decide) (All2.nil _) fun ai aj w a m ak f => l_as f rfl rfl fun a f => l_nil (k_seq (k_seq (k_region ?_)))
    refine l_as f rfl rfl fun a f => l_nil ?_
    obtain ⟨al, am, hd⟩ := bind_some hd
    refine k_cut (fun a w => ∃ an : List (List Int), an = al ∧ ∃ (ao : GH) (ap : Value) (aq : Itm), GLe ab ao ∧ Fr a 67 [(9, ap)] ∧ Mem W ao w (aq :: H) ∧ Ow (RSl (RI .i64)) 42 ao aq ap an) ?_ ?_
    ·refine k_block ?_
     have m := m.front 1 rfl
     refine k_loop (fun ar a w => ∃ au : List (List Int), ∃ av : Int, (au, av) = ar ∧ ∃ (aw : GH) (ax : Value) (ay : Itm), GLe ab aw ∧ Fr a 67 [(1, v1), (2, v2), (3, v3), (4, (.pointer (some ⟨aa, 0, none⟩))), (9, ax), (10, (.int .i64 av))] ∧ Mem W aw w (Itm.box aa 30 [v0_0] :: ay :: H) ∧ Ow (RSl (RI .i64)) 42 aw ay ax au) am ⟨_, _, rfl, _, aj, ai, (GLe.refl _), f.weak ⟨rfl, rfl, rfl, rfl, rfl, rfl, trivial⟩, m, ak⟩ ?_
     clear am f m
     rintro ar az aA aB a w ⟨au, av, rfl, aw, ax, ay, aC, f, m, aD⟩
     have h1 := rd1 aC h1
     have h2 := rd1 aC h2
     have h3 := rd1 aC h3
     have h0_0 := rd2 aC h0_0
     refine k_seq (k_seq (k_region ?_))
     refine l_mv f rfl rfl fun a f => l_mv f rfl rfl fun a f => l_len Tryz.underlying42 f rfl rfl h2 fun a f => l_in f rfl rfl rfl b_lss fun a f => l_nil ?_
     rcases cond_some aA with ⟨aE, aA⟩ | ⟨aE, aA⟩
     ·refine k_true f rfl aE ?_
      refine k_skip ?_
      refine k_seq (k_block (k_seq (k_region ?_)))
      refine l_mv f rfl rfl fun a f => l_mv f rfl rfl fun a f => ?_
      obtain ⟨aF, aG, aA⟩ := bind_some aA
      refine l_at T42 f rfl rfl rfl h2 aG fun aH aI a aJ aK f => ?_
      subst aK
      refine l_loadAt m Pl2 f rfl rfl aJ fun a f => l_as f rfl rfl fun a f => l_nil (k_seq ?_)
      obtain ⟨aL, aM, aA⟩ := bind_some aA
      refine k_cut (fun a w => ∃ aN : List (List Int), aN = aL ∧ ∃ (aO : GH) (aP : Value) (aQ : Itm), GLe aw aO ∧ Fr a 67 [(1, v1), (2, v2), (3, v3), (4, (.pointer (some ⟨aa, 0, none⟩))), (9, ax), (10, (.int .i64 av)), (12, aP)] ∧ Mem W aO w (Itm.box aa 30 [v0_0] :: ay :: aQ :: H) ∧ Ow (RSl (RI .i64)) 42 aO aQ aP aN) ?_ ?_
      ·refine k_draw 28 Follows (by kernel_rfl) m ?_
       refine q_boxAgg (i := 0) (ds := [v0_0]) 28 0 Ag30 rfl rfl rfl rfl (by kernel_rfl) rfl f rfl rfl rfl fun a f => q_mv 1 28 rfl (by kernel_rfl) f rfl rfl rfl fun a f => q_mv 3 28 rfl (by kernel_rfl) f rfl rfl rfl fun a f => q_mv 6 28 rfl (by kernel_rfl) f rfl rfl rfl fun a f => q_mv 7 28 rfl (by kernel_rfl) f rfl rfl rfl fun a f => q_p 8 28 rfl (by kernel_rfl) f rfl rfl rfl (fun _ => r_int (f.eval rfl) (f.eval rfl) b_add) fun a f => ?_
       obtain ⟨aR, aS, aM⟩ := bind_some aM
       refine q_slice (i := 9) 28 T42 h2 aS rfl (by kernel_rfl) rfl f rfl rfl rfl (.inr ⟨_, _, rfl, rfl⟩) (.inl ⟨rfl, rfl⟩) fun aT a aU f => q_fieldAddr (i := 10) 28 Tryz.underlying30 rfl Tryz.sizeOf22 (by decide) rfl (by kernel_rfl) rfl f rfl rfl rfl fun a f => q_boxCell (i := 11) 28 0 Pl22 rfl rfl rfl (by kernel_rfl) rfl f rfl rfl rfl fun a f => q_mv 12 28 rfl (by kernel_rfl) f rfl rfl rfl fun a f => ?_
       obtain ⟨aV, aW, aM⟩ := bind_some aM
       refine q_at (i := 13) 28 T22 h0_0 aW rfl (by kernel_rfl) rfl f rfl rfl rfl rfl fun aX aY a aZ a2 f => q_loadAt (i := 14) 28 Pl42 aZ rfl (by kernel_rfl) rfl f rfl rfl rfl fun a f => q_mv 16 28 rfl (by kernel_rfl) f rfl rfl rfl fun a f => q_mv 18 28 rfl (by kernel_rfl) f rfl rfl rfl fun a f => q_mv 19 28 rfl (by kernel_rfl) f rfl rfl rfl fun a f => ?_
       obtain ⟨a3, a4, aM⟩ := bind_some aM
       refine q_slice (i := 20) 28 T42 h2 a4 rfl (by kernel_rfl) rfl f rfl rfl rfl (.inl ⟨rfl, rfl⟩) (.inr ⟨_, _, rfl, rfl⟩) fun a5 a a6 f => q_fieldAddr (i := 22) 28 Tryz.underlying30 rfl Tryz.sizeOf22 (by decide) rfl (by kernel_rfl) rfl f rfl rfl rfl fun a f => q_boxCell (i := 23) 28 0 Pl22 rfl rfl rfl (by kernel_rfl) rfl f rfl rfl rfl fun a f => q_mv 24 28 rfl (by kernel_rfl) f rfl rfl rfl fun a f => ?_
       obtain ⟨a7, a8, aM⟩ := bind_some aM
       refine q_at (i := 25) 28 T22 h0_0 a8 rfl (by kernel_rfl) rfl f rfl rfl rfl rfl fun a9 ba a bb bc f => q_loadAt (i := 26) 28 Pl42 bb rfl (by kernel_rfl) rfl f rfl rfl rfl fun a f => q_two (i := 2) (j := 4) (l1 := #[true, true, true, true, false, false, true, true, true, true, true, true, true, true, true, false, true, false, true, true, true, false, true, true, true, true, true, false, false, false]) (l2 := #[true, true, false, true, true, false, true, true, true, true, true, true, true, true, true, false, true, false, true, true, true, false, true, true, true, true, true, false, false, false]) rfl rfl (by kernel_rfl) rfl rfl ?_ ?_
       ·intro bd w be m bf bf
        have h1 := rd1 be h1
        have h2 := rd1 be h2
        have h3 := rd1 be h3
        have h0_0 := rd2 be h0_0
        have aU := rd1 be aU
        have aZ := At.mono be aZ
        have a2 := rd1 be a2
        have a6 := rd1 be a6
        have bb := At.mono be bb
        have bc := rd1 be bc
        have aD := Ow.mono (RSl.mono (RI.mono _)) be aD
        obtain ⟨bg, bh, aM⟩ := bind_some aM
        refine l_res f rfl rfl Tryz.call69 (Wk.p m h1 bh) fun bi bj bk w bl m bm a f => ?_
        obtain ⟨bn, bo, rfl, rfl, bp⟩ := bm
        have h1 := rd1 bl h1
        have h2 := rd1 bl h2
        have h3 := rd1 bl h3
        have h0_0 := rd2 bl h0_0
        have aU := rd1 bl aU
        have aZ := At.mono bl aZ
        have a2 := rd1 bl a2
        have a6 := rd1 bl a6
        have bb := At.mono bl bb
        have bc := rd1 bl bc
        have aD := Ow.mono (RSl.mono (RI.mono _)) bl aD
        refine l_nil ?_
        refine bf bj [bo] _ _ bl m ?_
        refine q_one (i := 4) rfl (by kernel_rfl) rfl fun bq w br m bs bs => ?_
        have h1 := rd1 br h1
        have h2 := rd1 br h2
        have h3 := rd1 br h3
        have h0_0 := rd2 br h0_0
        have aU := rd1 br aU
        have aZ := At.mono br aZ
        have a2 := rd1 br a2
        have a6 := rd1 br a6
        have bb := At.mono br bb
        have bc := rd1 br bc
        have bp := od1 br bp
        have aD := Ow.mono (RSl.mono (RI.mono _)) br aD
        refine l_slit (R := (RI .i64)) (xs := ([aF] : List Int)) (RI.one _) m T42 f rfl rfl rfl (by decide) (All2.cons rfl (All2.nil _)) fun bt bu w a m bv f => l_nil ?_
        refine bs bq [bt, bo] _ _ (GLe.refl _) m ?_
        refine q_one (i := 5) rfl (by kernel_rfl) rfl fun bw w bx m bz bz => ?_
        have h1 := rd1 bx h1
        have h2 := rd1 bx h2
        have h3 := rd1 bx h3
        have h0_0 := rd2 bx h0_0
        have aU := rd1 bx aU
        have aZ := At.mono bx aZ
        have a2 := rd1 bx a2
        have a6 := rd1 bx a6
        have bb := At.mono bx bb
        have bc := rd1 bx bc
        have bv := od1 bx bv
        have bp := od1 bx bp
        have aD := Ow.mono (RSl.mono (RI.mono _)) bx aD
        obtain ⟨bA, bB, aM⟩ := bind_some aM
        refine l_append (RI.one _) 1 m bp rfl T42 rfl (by decide) f rfl rfl rfl (Ow.src (j := 0) bv m rfl) bB fun bC bD w a m bE f => l_nil ?_
        refine bz bw [bt, bC] _ _ (GLe.refl _) m ?_
        refine q_one (i := 15) rfl (by kernel_rfl) rfl fun bF w bG m bH bH => ?_
        have h1 := rd1 bG h1
        have h2 := rd1 bG h2
        have h3 := rd1 bG h3
        have h0_0 := rd2 bG h0_0
        have aU := rd1 bG aU
        have aZ := At.mono bG aZ
        have a2 := rd1 bG a2
        have a6 := rd1 bG a6
        have bb := At.mono bG bb
        have bc := rd1 bG bc
        have bv := od1 bG bv
        have bE := od1 bG bE
        have aD := Ow.mono (RSl.mono (RI.mono _)) bG aD
        obtain ⟨bI, bJ, aM⟩ := bind_some aM
        refine l_res f rfl rfl Tryz.call44 (Wk.s m aU a2 bJ) fun bK bL bM w bN m bO a f => ?_
        obtain ⟨bP, bQ, rfl, rfl, bR⟩ := bO
        have h1 := rd1 bN h1
        have h2 := rd1 bN h2
        have h3 := rd1 bN h3
        have h0_0 := rd2 bN h0_0
        have aU := rd1 bN aU
        have aZ := At.mono bN aZ
        have a2 := rd1 bN a2
        have a6 := rd1 bN a6
        have bb := At.mono bN bb
        have bc := rd1 bN bc
        have bv := od1 bN bv
        have bE := od1 bN bE
        have aD := Ow.mono (RSl.mono (RI.mono _)) bN aD
        refine l_nil ?_
        refine bH bL [bQ, bt, bC] _ _ bN m ?_
        refine q_one (i := 17) rfl (by kernel_rfl) rfl fun bS w bT m bU bU => ?_
        have h1 := rd1 bT h1
        have h2 := rd1 bT h2
        have h3 := rd1 bT h3
        have h0_0 := rd2 bT h0_0
        have aU := rd1 bT aU
        have aZ := At.mono bT aZ
        have a2 := rd1 bT a2
        have a6 := rd1 bT a6
        have bb := At.mono bT bb
        have bc := rd1 bT bc
        have bR := od1 bT bR
        have bv := od1 bT bv
        have bE := od1 bT bE
        have aD := Ow.mono (RSl.mono (RI.mono _)) bT aD
        obtain ⟨bV, bW, aM⟩ := bind_some aM
        refine l_res f rfl rfl Tryz.call69 (Wk.p m h3 bW) fun bX bY bZ w b0 m b1 a f => ?_
        obtain ⟨b2, b3, rfl, rfl, b4⟩ := b1
        have h1 := rd1 b0 h1
        have h2 := rd1 b0 h2
        have h3 := rd1 b0 h3
        have h0_0 := rd2 b0 h0_0
        have aU := rd1 b0 aU
        have aZ := At.mono b0 aZ
        have a2 := rd1 b0 a2
        have a6 := rd1 b0 a6
        have bb := At.mono b0 bb
        have bc := rd1 b0 bc
        have bR := od1 b0 bR
        have bv := od1 b0 bv
        have bE := od1 b0 bE
        have aD := Ow.mono (RSl.mono (RI.mono _)) b0 aD
        refine l_nil ?_
        refine bU bY [b3, bQ, bt, bC] _ _ b0 m ?_
        refine q_one (i := 21) rfl (by kernel_rfl) rfl fun b5 w b6 m b7 b7 => ?_
        have h1 := rd1 b6 h1
        have h2 := rd1 b6 h2
        have h3 := rd1 b6 h3
        have h0_0 := rd2 b6 h0_0
        have aU := rd1 b6 aU
        have aZ := At.mono b6 aZ
        have a2 := rd1 b6 a2
        have a6 := rd1 b6 a6
        have bb := At.mono b6 bb
        have bc := rd1 b6 bc
        have b4 := od1 b6 b4
        have bR := od1 b6 bR
        have bv := od1 b6 bv
        have bE := od1 b6 bE
        have aD := Ow.mono (RSl.mono (RI.mono _)) b6 aD
        obtain ⟨b8, b9, aM⟩ := bind_some aM
        refine l_append (RI.one _) 0 m b4 rfl T42 rfl (by decide) f rfl rfl rfl (a6.src m) b9 fun ca cb w a m cc f => l_nil ?_
        refine b7 b5 [ca, bQ, bt, bC] _ _ (GLe.refl _) m ?_
        refine q_one (i := 27) rfl (by kernel_rfl) rfl fun cd w ce m cf cf => ?_
        have h1 := rd1 ce h1
        have h2 := rd1 ce h2
        have h3 := rd1 ce h3
        have h0_0 := rd2 ce h0_0
        have aU := rd1 ce aU
        have aZ := At.mono ce aZ
        have a2 := rd1 ce a2
        have a6 := rd1 ce a6
        have bb := At.mono ce bb
        have bc := rd1 ce bc
        have cc := od1 ce cc
        have bR := od1 ce bR
        have bv := od1 ce bv
        have bE := od1 ce bE
        have aD := Ow.mono (RSl.mono (RI.mono _)) ce aD
        obtain ⟨cg, ch, aM⟩ := bind_some aM
        refine l_res f rfl rfl Tryz.call44 (Ow.lendCall (RI.mono _) 0 cc m rfl (fun ci cj m ck => Wk.s m ck (rd1 cj bc) ch) (fun _ G' _ _ ⟨a0, a1, e1, e2, o0⟩ => ⟨a0, a1, e1, e2, Ow.free (RI.free _) G' o0⟩)) fun cl cm cn w co m cp a f => ?_
        obtain ⟨cq, cr, rfl, rfl, ct⟩ := cp
        have h1 := rd1 co h1
        have h2 := rd1 co h2
        have h3 := rd1 co h3
        have h0_0 := rd2 co h0_0
        have aU := rd1 co aU
        have aZ := At.mono co aZ
        have a2 := rd1 co a2
        have a6 := rd1 co a6
        have bb := At.mono co bb
        have bc := rd1 co bc
        have cc := od1 co cc
        have bR := od1 co bR
        have bv := od1 co bv
        have bE := od1 co bE
        have aD := Ow.mono (RSl.mono (RI.mono _)) co aD
        refine l_nil ?_
        refine cf cm [cr, ca, bQ, bt, bC] _ _ co m ?_
        refine q_end fun cu w cv m => ?_
        have h1 := rd1 cv h1
        have h2 := rd1 cv h2
        have h3 := rd1 cv h3
        have h0_0 := rd2 cv h0_0
        have aU := rd1 cv aU
        have aZ := At.mono cv aZ
        have a2 := rd1 cv a2
        have a6 := rd1 cv a6
        have bb := At.mono cv bb
        have bc := rd1 cv bc
        have ct := od1 cv ct
        have cc := od1 cv cc
        have bR := od1 cv bR
        have bv := od1 cv bv
        have bE := od1 cv bE
        have aD := Ow.mono (RSl.mono (RI.mono _)) cv aD
        have m : Mem W cu w (bC :: cr :: ca :: bQ :: bt :: Itm.box aa 30 [v0_0] :: ay :: H) := m.front 4 rfl
        obtain ⟨cw, cx, m, cy⟩ := Ow.stamp (RI.mono _) bE m
        have h1 := rd1 cx h1
        have h2 := rd1 cx h2
        have h3 := rd1 cx h3
        have h0_0 := rd2 cx h0_0
        have aU := rd1 cx aU
        have aZ := At.mono cx aZ
        have a2 := rd1 cx a2
        have a6 := rd1 cx a6
        have bb := At.mono cx bb
        have bc := rd1 cx bc
        have ct := od1 cx ct
        have cc := od1 cx cc
        have bR := od1 cx bR
        have bv := od1 cx bv
        have aD := Ow.mono (RSl.mono (RI.mono _)) cx aD
        have m : Mem W cw w (bQ :: cr :: ca :: bt :: Itm.box aa 30 [v0_0] :: ay :: H) := m.front 2 rfl
        obtain ⟨cz, cA, m, cB⟩ := Ow.stamp (RI.mono _) bR m
        have h1 := rd1 cA h1
        have h2 := rd1 cA h2
        have h3 := rd1 cA h3
        have h0_0 := rd2 cA h0_0
        have cy := rd1 cA cy
        have aU := rd1 cA aU
        have aZ := At.mono cA aZ
        have a2 := rd1 cA a2
        have a6 := rd1 cA a6
        have bb := At.mono cA bb
        have bc := rd1 cA bc
        have ct := od1 cA ct
        have cc := od1 cA cc
        have bv := od1 cA bv
        have aD := Ow.mono (RSl.mono (RI.mono _)) cA aD
        obtain ⟨cC, cD, m, cE⟩ := Ow.stamp (RI.mono _) ct m
        have h1 := rd1 cD h1
        have h2 := rd1 cD h2
        have h3 := rd1 cD h3
        have h0_0 := rd2 cD h0_0
        have cy := rd1 cD cy
        have aU := rd1 cD aU
        have aZ := At.mono cD aZ
        have a2 := rd1 cD a2
        have cB := rd1 cD cB
        have a6 := rd1 cD a6
        have bb := At.mono cD bb
        have bc := rd1 cD bc
        have cc := od1 cD cc
        have bv := od1 cD bv
        have aD := Ow.mono (RSl.mono (RI.mono _)) cD aD
        obtain ⟨cF, cG, aM⟩ := bind_some aM
        refine l_res f rfl rfl Tryz.call86 (ih m h0_0 cy cB cE cG) fun cH cI cJ w cK m cL a f => ?_
        obtain ⟨cM, cN, rfl, rfl, cO⟩ := cL
        have h1 := rd1 cK h1
        have h2 := rd1 cK h2
        have h3 := rd1 cK h3
        have h0_0 := rd2 cK h0_0
        have cy := rd1 cK cy
        have aU := rd1 cK aU
        have aZ := At.mono cK aZ
        have a2 := rd1 cK a2
        have cB := rd1 cK cB
        have a6 := rd1 cK a6
        have bb := At.mono cK bb
        have bc := rd1 cK bc
        have cE := rd1 cK cE
        have cc := od1 cK cc
        have bv := od1 cK bv
        have aD := Ow.mono (RSl.mono (RI.mono _)) cK aD
        refine l_as f rfl rfl fun a f => l_nil ?_
        have m := m.front 4 rfl
        have m := m.front 4 rfl
        have m : Mem W cI w (Itm.box aa 30 [v0_0] :: ay :: cN :: ca :: H) := m.eraseAt 4
        have m := m.eraseAt 3
        obtain rfl := sj aM
        exact ⟨_, rfl, _, cM, cN, (GLe.trans be (GLe.trans bl (GLe.trans br (GLe.trans bx (GLe.trans bG (GLe.trans bN (GLe.trans bT (GLe.trans b0 (GLe.trans b6 (GLe.trans ce (GLe.trans co (GLe.trans cv (GLe.trans cx (GLe.trans cA (GLe.trans cD cK))))))))))))))), f.weak ⟨rfl, rfl, rfl, rfl, rfl, rfl, rfl, trivial⟩, m, cO⟩
       ·intro bq w br m bs bs
        obtain ⟨bg, bh, aM⟩ := bind_some aM
        obtain ⟨bA, bB, aM⟩ := bind_some aM
        obtain ⟨bI, bJ, aM⟩ := bind_some aM
        obtain ⟨bV, bW, aM⟩ := bind_some aM
        obtain ⟨b8, b9, aM⟩ := bind_some aM
        obtain ⟨cg, ch, aM⟩ := bind_some aM
        obtain ⟨cF, cG, aM⟩ := bind_some aM
        have h1 := rd1 br h1
        have h2 := rd1 br h2
        have h3 := rd1 br h3
        have h0_0 := rd2 br h0_0
        have aU := rd1 br aU
        have aZ := At.mono br aZ
        have a2 := rd1 br a2
        have a6 := rd1 br a6
        have bb := At.mono br bb
        have bc := rd1 br bc
        have aD := Ow.mono (RSl.mono (RI.mono _)) br aD
        refine l_slit (R := (RI .i64)) (xs := ([aF] : List Int)) (RI.one _) m T42 f rfl rfl rfl (by decide) (All2.cons rfl (All2.nil _)) fun bt bu w a m bv f => l_nil ?_
        refine bs bq [bt] _ _ (GLe.refl _) m ?_
        refine q_one (i := 2) rfl (by kernel_rfl) rfl fun bd w be m bf bf => ?_
        have h1 := rd1 be h1
        have h2 := rd1 be h2
        have h3 := rd1 be h3
        have h0_0 := rd2 be h0_0
        have aU := rd1 be aU
        have aZ := At.mono be aZ
        have a2 := rd1 be a2
        have a6 := rd1 be a6
        have bb := At.mono be bb
        have bc := rd1 be bc
        have bv := od1 be bv
        have aD := Ow.mono (RSl.mono (RI.mono _)) be aD
        refine l_res f rfl rfl Tryz.call69 (Wk.p m h1 bh) fun bi bj bk w bl m bm a f => ?_
        obtain ⟨bn, bo, rfl, rfl, bp⟩ := bm
        have h1 := rd1 bl h1
        have h2 := rd1 bl h2
        have h3 := rd1 bl h3
        have h0_0 := rd2 bl h0_0
        have aU := rd1 bl aU
        have aZ := At.mono bl aZ
        have a2 := rd1 bl a2
        have a6 := rd1 bl a6
        have bb := At.mono bl bb
        have bc := rd1 bl bc
        have bv := od1 bl bv
        have aD := Ow.mono (RSl.mono (RI.mono _)) bl aD
        refine l_nil ?_
        refine bf bj [bo, bt] _ _ bl m ?_
        refine q_one (i := 5) rfl (by kernel_rfl) rfl fun bw w bx m bz bz => ?_
        have h1 := rd1 bx h1
        have h2 := rd1 bx h2
        have h3 := rd1 bx h3
        have h0_0 := rd2 bx h0_0
        have aU := rd1 bx aU
        have aZ := At.mono bx aZ
        have a2 := rd1 bx a2
        have a6 := rd1 bx a6
        have bb := At.mono bx bb
        have bc := rd1 bx bc
        have bp := od1 bx bp
        have bv := od1 bx bv
        have aD := Ow.mono (RSl.mono (RI.mono _)) bx aD
        refine l_append (RI.one _) 0 m bp rfl T42 rfl (by decide) f rfl rfl rfl (Ow.src (j := 1) bv m rfl) bB fun bC bD w a m bE f => l_nil ?_
        refine bz bw [bC, bt] _ _ (GLe.refl _) m ?_
        refine q_one (i := 15) rfl (by kernel_rfl) rfl fun bF w bG m bH bH => ?_
        have h1 := rd1 bG h1
        have h2 := rd1 bG h2
        have h3 := rd1 bG h3
        have h0_0 := rd2 bG h0_0
        have aU := rd1 bG aU
        have aZ := At.mono bG aZ
        have a2 := rd1 bG a2
        have a6 := rd1 bG a6
        have bb := At.mono bG bb
        have bc := rd1 bG bc
        have bE := od1 bG bE
        have bv := od1 bG bv
        have aD := Ow.mono (RSl.mono (RI.mono _)) bG aD
        refine l_res f rfl rfl Tryz.call44 (Wk.s m aU a2 bJ) fun bK bL bM w bN m bO a f => ?_
        obtain ⟨bP, bQ, rfl, rfl, bR⟩ := bO
        have h1 := rd1 bN h1
        have h2 := rd1 bN h2
        have h3 := rd1 bN h3
        have h0_0 := rd2 bN h0_0
        have aU := rd1 bN aU
        have aZ := At.mono bN aZ
        have a2 := rd1 bN a2
        have a6 := rd1 bN a6
        have bb := At.mono bN bb
        have bc := rd1 bN bc
        have bE := od1 bN bE
        have bv := od1 bN bv
        have aD := Ow.mono (RSl.mono (RI.mono _)) bN aD
        refine l_nil ?_
        refine bH bL [bQ, bC, bt] _ _ bN m ?_
        refine q_one (i := 17) rfl (by kernel_rfl) rfl fun bS w bT m bU bU => ?_
        have h1 := rd1 bT h1
        have h2 := rd1 bT h2
        have h3 := rd1 bT h3
        have h0_0 := rd2 bT h0_0
        have aU := rd1 bT aU
        have aZ := At.mono bT aZ
        have a2 := rd1 bT a2
        have a6 := rd1 bT a6
        have bb := At.mono bT bb
        have bc := rd1 bT bc
        have bR := od1 bT bR
        have bE := od1 bT bE
        have bv := od1 bT bv
        have aD := Ow.mono (RSl.mono (RI.mono _)) bT aD
        refine l_res f rfl rfl Tryz.call69 (Wk.p m h3 bW) fun bX bY bZ w b0 m b1 a f => ?_
        obtain ⟨b2, b3, rfl, rfl, b4⟩ := b1
        have h1 := rd1 b0 h1
        have h2 := rd1 b0 h2
        have h3 := rd1 b0 h3
        have h0_0 := rd2 b0 h0_0
        have aU := rd1 b0 aU
        have aZ := At.mono b0 aZ
        have a2 := rd1 b0 a2
        have a6 := rd1 b0 a6
        have bb := At.mono b0 bb
        have bc := rd1 b0 bc
        have bR := od1 b0 bR
        have bE := od1 b0 bE
        have bv := od1 b0 bv
        have aD := Ow.mono (RSl.mono (RI.mono _)) b0 aD
        refine l_nil ?_
        refine bU bY [b3, bQ, bC, bt] _ _ b0 m ?_
        refine q_one (i := 21) rfl (by kernel_rfl) rfl fun b5 w b6 m b7 b7 => ?_
        have h1 := rd1 b6 h1
        have h2 := rd1 b6 h2
        have h3 := rd1 b6 h3
        have h0_0 := rd2 b6 h0_0
        have aU := rd1 b6 aU
        have aZ := At.mono b6 aZ
        have a2 := rd1 b6 a2
        have a6 := rd1 b6 a6
        have bb := At.mono b6 bb
        have bc := rd1 b6 bc
        have b4 := od1 b6 b4
        have bR := od1 b6 bR
        have bE := od1 b6 bE
        have bv := od1 b6 bv
        have aD := Ow.mono (RSl.mono (RI.mono _)) b6 aD
        refine l_append (RI.one _) 0 m b4 rfl T42 rfl (by decide) f rfl rfl rfl (a6.src m) b9 fun ca cb w a m cc f => l_nil ?_
        refine b7 b5 [ca, bQ, bC, bt] _ _ (GLe.refl _) m ?_
        refine q_one (i := 27) rfl (by kernel_rfl) rfl fun cd w ce m cf cf => ?_
        have h1 := rd1 ce h1
        have h2 := rd1 ce h2
        have h3 := rd1 ce h3
        have h0_0 := rd2 ce h0_0
        have aU := rd1 ce aU
        have aZ := At.mono ce aZ
        have a2 := rd1 ce a2
        have a6 := rd1 ce a6
        have bb := At.mono ce bb
        have bc := rd1 ce bc
        have cc := od1 ce cc
        have bR := od1 ce bR
        have bE := od1 ce bE
        have bv := od1 ce bv
        have aD := Ow.mono (RSl.mono (RI.mono _)) ce aD
        refine l_res f rfl rfl Tryz.call44 (Ow.lendCall (RI.mono _) 0 cc m rfl (fun ci cj m ck => Wk.s m ck (rd1 cj bc) ch) (fun _ G' _ _ ⟨a0, a1, e1, e2, o0⟩ => ⟨a0, a1, e1, e2, Ow.free (RI.free _) G' o0⟩)) fun cl cm cn w co m cp a f => ?_
        obtain ⟨cq, cr, rfl, rfl, ct⟩ := cp
        have h1 := rd1 co h1
        have h2 := rd1 co h2
        have h3 := rd1 co h3
        have h0_0 := rd2 co h0_0
        have aU := rd1 co aU
        have aZ := At.mono co aZ
        have a2 := rd1 co a2
        have a6 := rd1 co a6
        have bb := At.mono co bb
        have bc := rd1 co bc
        have cc := od1 co cc
        have bR := od1 co bR
        have bE := od1 co bE
        have bv := od1 co bv
        have aD := Ow.mono (RSl.mono (RI.mono _)) co aD
        refine l_nil ?_
        refine cf cm [cr, ca, bQ, bC, bt] _ _ co m ?_
        refine q_end fun cu w cv m => ?_
        have h1 := rd1 cv h1
        have h2 := rd1 cv h2
        have h3 := rd1 cv h3
        have h0_0 := rd2 cv h0_0
        have aU := rd1 cv aU
        have aZ := At.mono cv aZ
        have a2 := rd1 cv a2
        have a6 := rd1 cv a6
        have bb := At.mono cv bb
        have bc := rd1 cv bc
        have ct := od1 cv ct
        have cc := od1 cv cc
        have bR := od1 cv bR
        have bE := od1 cv bE
        have bv := od1 cv bv
        have aD := Ow.mono (RSl.mono (RI.mono _)) cv aD
        have m : Mem W cu w (bC :: cr :: ca :: bQ :: bt :: Itm.box aa 30 [v0_0] :: ay :: H) := m.front 3 rfl
        obtain ⟨cw, cx, m, cy⟩ := Ow.stamp (RI.mono _) bE m
        have h1 := rd1 cx h1
        have h2 := rd1 cx h2
        have h3 := rd1 cx h3
        have h0_0 := rd2 cx h0_0
        have aU := rd1 cx aU
        have aZ := At.mono cx aZ
        have a2 := rd1 cx a2
        have a6 := rd1 cx a6
        have bb := At.mono cx bb
        have bc := rd1 cx bc
        have ct := od1 cx ct
        have cc := od1 cx cc
        have bR := od1 cx bR
        have bv := od1 cx bv
        have aD := Ow.mono (RSl.mono (RI.mono _)) cx aD
        have m : Mem W cw w (bQ :: cr :: ca :: bt :: Itm.box aa 30 [v0_0] :: ay :: H) := m.front 2 rfl
        obtain ⟨cz, cA, m, cB⟩ := Ow.stamp (RI.mono _) bR m
        have h1 := rd1 cA h1
        have h2 := rd1 cA h2
        have h3 := rd1 cA h3
        have h0_0 := rd2 cA h0_0
        have cy := rd1 cA cy
        have aU := rd1 cA aU
        have aZ := At.mono cA aZ
        have a2 := rd1 cA a2
        have a6 := rd1 cA a6
        have bb := At.mono cA bb
        have bc := rd1 cA bc
        have ct := od1 cA ct
        have cc := od1 cA cc
        have bv := od1 cA bv
        have aD := Ow.mono (RSl.mono (RI.mono _)) cA aD
        obtain ⟨cC, cD, m, cE⟩ := Ow.stamp (RI.mono _) ct m
        have h1 := rd1 cD h1
        have h2 := rd1 cD h2
        have h3 := rd1 cD h3
        have h0_0 := rd2 cD h0_0
        have cy := rd1 cD cy
        have aU := rd1 cD aU
        have aZ := At.mono cD aZ
        have a2 := rd1 cD a2
        have cB := rd1 cD cB
        have a6 := rd1 cD a6
        have bb := At.mono cD bb
        have bc := rd1 cD bc
        have cc := od1 cD cc
        have bv := od1 cD bv
        have aD := Ow.mono (RSl.mono (RI.mono _)) cD aD
        refine l_res f rfl rfl Tryz.call86 (ih m h0_0 cy cB cE cG) fun cH cI cJ w cK m cL a f => ?_
        obtain ⟨cM, cN, rfl, rfl, cO⟩ := cL
        have h1 := rd1 cK h1
        have h2 := rd1 cK h2
        have h3 := rd1 cK h3
        have h0_0 := rd2 cK h0_0
        have cy := rd1 cK cy
        have aU := rd1 cK aU
        have aZ := At.mono cK aZ
        have a2 := rd1 cK a2
        have cB := rd1 cK cB
        have a6 := rd1 cK a6
        have bb := At.mono cK bb
        have bc := rd1 cK bc
        have cE := rd1 cK cE
        have cc := od1 cK cc
        have bv := od1 cK bv
        have aD := Ow.mono (RSl.mono (RI.mono _)) cK aD
        refine l_as f rfl rfl fun a f => l_nil ?_
        have m := m.front 4 rfl
        have m := m.front 4 rfl
        have m : Mem W cI w (Itm.box aa 30 [v0_0] :: ay :: cN :: ca :: H) := m.eraseAt 4
        have m := m.eraseAt 3
        obtain rfl := sj aM
        exact ⟨_, rfl, _, cM, cN, (GLe.trans br (GLe.trans be (GLe.trans bl (GLe.trans bx (GLe.trans bG (GLe.trans bN (GLe.trans bT (GLe.trans b0 (GLe.trans b6 (GLe.trans ce (GLe.trans co (GLe.trans cv (GLe.trans cx (GLe.trans cA (GLe.trans cD cK))))))))))))))), f.weak ⟨rfl, rfl, rfl, rfl, rfl, rfl, rfl, trivial⟩, m, cO⟩
      ·rintro a w ⟨aN, rfl, aO, aP, aQ, cP, f, m, cQ⟩
       have h1 := rd1 cP h1
       have h2 := rd1 cP h2
       have h3 := rd1 cP h3
       have h0_0 := rd2 cP h0_0
       have aD := Ow.mono (RSl.mono (RI.mono _)) cP aD
       refine k_region ?_
       refine l_mv f rfl rfl fun a f => l_mv f rfl rfl fun a f => ?_
       obtain ⟨cR, cS, aA⟩ := bind_some aA
       refine l_append (RSl.one _) 1 m aD rfl T22 rfl (by decide) f rfl rfl rfl (Ow.src (j := 2) cQ m rfl) cS fun cT cU w a m cV f => l_as f rfl rfl fun a f => l_nil (k_region ?_)
       refine l_mv f rfl rfl fun a f => l_in f rfl rfl rfl b_add fun a f => l_as f rfl rfl fun a f => l_nil ?_
       have m := m.eraseAt 2
       obtain rfl := sj aA
       exact ⟨_, rfl, _, _, rfl, _, cU, cT, (GLe.trans aC cP), f.weak ⟨rfl, rfl, rfl, rfl, rfl, rfl, trivial⟩, m, cV⟩
     ·refine k_false f rfl aE ?_
      refine k_exit rfl ?_
      have m := m.front 1 rfl
      have m := m.eraseAt 1
      obtain rfl := sj aA
      obtain rfl := aB _ rfl
      exact ⟨_, rfl, _, ax, ay, aC, f.weak ⟨rfl, trivial⟩, m, aD⟩
    ·rintro a w ⟨an, rfl, ao, ap, aq, cW, f, m, cX⟩
     refine k_seq (k_region ?_)
     refine l_mv f rfl rfl fun a f => l_as f rfl rfl fun a f => l_nil ?_
     refine k_ret ?_
     obtain rfl := sj hd
     exact ⟨[ap], ⟨f.get _ _ rfl, trivial⟩, f.defers, _, [aq], (GLe.trans ad cW), m, _, _, rfl, rfl, cX⟩

theorem Wk.g {W w : World} {G : GH} {H : List Itm} {v0_0 : Value} {v1 : Value} {v2 : Value} {v3 : Value} {x0_0 : (List (List Int))} {x1 : (List Int)} {x2 : (List Int)} {x3 : (List Int)} (m : Mem W G w (H)) (h0_0 : RSl (RSl (RI .i64)) G v0_0 x0_0) (h1 : RSl (RI .i64) G v1 x1) (h2 : RSl (RI .i64) G v2 x2) (h3 : RSl (RI .i64) G v3 x3) {y : ((List (List Int)))} (hd : D.g x0_0 x1 x2 x3 = some y) :
  Calls Tryz.prog 86 #[(.agg #[v0_0]), v1, v2, v3] w (Res W G H (fun G' Ho v => ∃ r0 : Value, ∃ i0 : Itm, Ho = [i0] ∧ r0 = v ∧ Ow (RSl (RI .i64)) 42 G' i0 r0 y)) := by
 exact Wk.Y recFuel m h0_0 h1 h2 h3 hd

theorem Wk.j0 {W w : World} {G : GH} {H : List Itm} {v0_0 : Value} {x0_0 : (List (List Int))} (m : Mem W G w (H)) (h0_0 : RSl (RSl (RI .i64)) G v0_0 x0_0) {y : ((List (List Int)))} (hd : D.j0 x0_0 = some y) :
  Calls Tryz.prog 31 #[(.agg #[v0_0])] w (Res W G H (fun G' Ho v => ∃ r0 : Value, ∃ i0 : Itm, Ho = [i0] ∧ r0 = v ∧ Ow (RSl (RI .i64)) 42 G' i0 r0 y)) := by
 refine calls_b (args := [(.agg #[v0_0])]) (N := 14) [.tmp 2] Tryz.func31 rfl rfl (Nat.le_of_ble_eq_true rfl) rfl fun a f => ?_
 unfold D.j0 at hd
 refine k_seq (k_region ?_)
 refine l_box (cs := [v0_0]) m f rfl rfl rfl fun aa w a m f => l_as f rfl rfl fun a f => l_nil (k_seq (k_seq (k_region ?_)))
 refine l_boxAgg 0 0 (ds := [v0_0]) m Ag30 f rfl rfl rfl rfl rfl fun a f => ?_
 obtain ⟨ab, ac, hd⟩ := bind_some hd
 refine l_res f rfl rfl Tryz.call77 (Wk.Z m h0_0 ac) fun ad ae af w ag m ah a f => ?_
 obtain ⟨rfl, rfl⟩ := ah
 have h0_0 := rd2 ag h0_0
 refine l_op f rfl rfl rfl (r_not (f.eval rfl)) fun a f => l_nil ?_
 rcases cond_some hd with ⟨ai, hd⟩ | ⟨ai, hd⟩
 ·refine k_true f rfl ai ?_
  refine k_seq (k_region ?_)
  refine l_slit (R := (RSl (RI .i64))) (xs := ([] : List (List Int))) (RSl.one _) m T22 f rfl rfl rfl (by decide) (All2.nil _) fun aj ak w a m al f => l_as f rfl rfl fun a f => l_nil ?_
  refine k_ret ?_
  have m := m.eraseAt 1
  obtain rfl := sj hd
  exact ⟨[ak], ⟨f.get _ _ rfl, trivial⟩, f.defers, _, [aj], ag, m, _, _, rfl, rfl, al⟩
 ·refine k_false f rfl ai ?_
  refine k_skip ?_
  refine k_seq ?_
  obtain ⟨am, an, hd⟩ := bind_some hd
  refine k_cut (fun a w => ∃ ao : List (List Int), ao = am ∧ ∃ (ap : GH) (aq : Value) (ar : Itm), GLe ae ap ∧ Fr a 14 [(2, aq)] ∧ Mem W ap w (ar :: H) ∧ Ow (RSl (RI .i64)) 42 ap ar aq ao) ?_ ?_
  ·refine k_draw 8 Follows (by kernel_rfl) m ?_
   refine q_boxAgg (i := 0) (ds := [v0_0]) 8 0 Ag30 rfl rfl rfl rfl (by kernel_rfl) rfl f rfl rfl rfl fun a f => q_boxAgg (i := 2) (ds := [v0_0]) 8 0 Ag30 rfl rfl rfl rfl (by kernel_rfl) rfl f rfl rfl rfl fun a f => ?_
   obtain ⟨au, av, an⟩ := bind_some an
   refine q_call (i := 3) 8 rfl (by kernel_rfl) rfl f rfl rfl rfl Tryz.call80 (fun _ _ w aw m => Wk.e m (rd2 aw h0_0) av) fun a f => q_three (i := 1) (j := 4) (k := 5) (l1 := #[true, true, true, true, false, false, false, false]) (l2 := #[true, false, true, true, true, false, false, false]) (l3 := #[true, false, true, true, false, true, false, false]) rfl rfl rfl (by kernel_rfl) rfl rfl rfl ?_ ?_ ?_
   ·intro ax w ay m az az
    have h0_0 := rd2 ay h0_0
    refine l_slit (R := (RI .i64)) (xs := ([] : List Int)) (RI.one _) m T42 f rfl rfl rfl (by decide) (All2.nil _) fun aA aB w a m aC f => l_nil ?_
    refine az ax [aA] _ _ (GLe.refl _) m ?_
    refine q_two (i := 4) (j := 5) (l1 := #[true, true, true, true, true, false, false, false]) (l2 := #[true, true, true, true, false, true, false, false]) rfl rfl (by kernel_rfl) rfl rfl ?_ ?_
    ·intro aD w aE m aF aF
     have h0_0 := rd2 aE h0_0
     have aC := od1 aE aC
     obtain ⟨aG, aH, an⟩ := bind_some an
     refine l_res f rfl rfl Tryz.call87 (Wk.B m  aH) fun aI aJ aK w aL m aM a f => ?_
     obtain ⟨aN, aO, rfl, rfl, aP⟩ := aM
     have h0_0 := rd2 aL h0_0
     have aC := od1 aL aC
     refine l_nil ?_
     refine aF aJ [aO, aA] _ _ aL m ?_
     refine q_one (i := 5) rfl (by kernel_rfl) rfl fun aQ w aR m aS aS => ?_
     have h0_0 := rd2 aR h0_0
     have aP := od1 aR aP
     have aC := od1 aR aC
     refine l_slit (R := (RI .i64)) (xs := ([] : List Int)) (RI.one _) m T42 f rfl rfl rfl (by decide) (All2.nil _) fun aT aU w a m aV f => l_nil ?_
     refine aS aQ [aT, aO, aA] _ _ (GLe.refl _) m ?_
     refine q_one (i := 6) rfl (by kernel_rfl) rfl fun aW w aX m aY aY => ?_
     have h0_0 := rd2 aX h0_0
     have aV := od1 aX aV
     have aP := od1 aX aP
     have aC := od1 aX aC
     have m := m.front 2 rfl
     obtain ⟨aZ, a0, m, a1⟩ := Ow.stamp (RI.mono _) aC m
     have h0_0 := rd2 a0 h0_0
     have aV := od1 a0 aV
     have aP := od1 a0 aP
     have m := m.front 1 rfl
     obtain ⟨a2, a3, m, a4⟩ := Ow.stamp (RI.mono _) aP m
     have h0_0 := rd2 a3 h0_0
     have a1 := rd1 a3 a1
     have aV := od1 a3 aV
     obtain ⟨a5, a6, m, a7⟩ := Ow.stamp (RI.mono _) aV m
     have h0_0 := rd2 a6 h0_0
     have a1 := rd1 a6 a1
     have a4 := rd1 a6 a4
     obtain ⟨a8, a9, an⟩ := bind_some an
     refine l_res f rfl rfl Tryz.call86 (Wk.g m h0_0 a1 a4 a7 a9) fun ba bb bc w bd m be a f => ?_
     obtain ⟨bf, bg, rfl, rfl, bh⟩ := be
     have h0_0 := rd2 bd h0_0
     have a1 := rd1 bd a1
     have a4 := rd1 bd a4
     have a7 := rd1 bd a7
     refine l_nil ?_
     refine aY bb [bg] _ _ (GLe.trans a0 (GLe.trans a3 (GLe.trans a6 bd))) m ?_
     refine q_p 7 8 rfl (by kernel_rfl) f rfl rfl rfl (fun _ => r_assign (f.eval rfl)) fun a f => q_end fun bi w bj m => ?_
     have h0_0 := rd2 bj h0_0
     have a1 := rd1 bj a1
     have a4 := rd1 bj a4
     have a7 := rd1 bj a7
     have bh := Ow.mono (RSl.mono (RI.mono _)) bj bh
     refine l_nil ?_
     have m := m.eraseAt 1
     obtain rfl := sj an
     exact ⟨_, rfl, _, bf, bg, (GLe.trans ay (GLe.trans aE (GLe.trans aL (GLe.trans aR (GLe.trans aX (GLe.trans a0 (GLe.trans a3 (GLe.trans a6 (GLe.trans bd bj))))))))), f.weak ⟨rfl, trivial⟩, m, bh⟩
    ·intro aQ w aR m aS aS
     obtain ⟨aG, aH, an⟩ := bind_some an
     obtain ⟨a8, a9, an⟩ := bind_some an
     have h0_0 := rd2 aR h0_0
     have aC := od1 aR aC
     refine l_slit (R := (RI .i64)) (xs := ([] : List Int)) (RI.one _) m T42 f rfl rfl rfl (by decide) (All2.nil _) fun aT aU w a m aV f => l_nil ?_
     refine aS aQ [aT, aA] _ _ (GLe.refl _) m ?_
     refine q_one (i := 4) rfl (by kernel_rfl) rfl fun aD w aE m aF aF => ?_
     have h0_0 := rd2 aE h0_0
     have aV := od1 aE aV
     have aC := od1 aE aC
     refine l_res f rfl rfl Tryz.call87 (Wk.B m  aH) fun aI aJ aK w aL m aM a f => ?_
     obtain ⟨aN, aO, rfl, rfl, aP⟩ := aM
     have h0_0 := rd2 aL h0_0
     have aV := od1 aL aV
     have aC := od1 aL aC
     refine l_nil ?_
     refine aF aJ [aO, aT, aA] _ _ aL m ?_
     refine q_one (i := 6) rfl (by kernel_rfl) rfl fun aW w aX m aY aY => ?_
     have h0_0 := rd2 aX h0_0
     have aP := od1 aX aP
     have aV := od1 aX aV
     have aC := od1 aX aC
     have m := m.front 2 rfl
     obtain ⟨aZ, a0, m, a1⟩ := Ow.stamp (RI.mono _) aC m
     have h0_0 := rd2 a0 h0_0
     have aP := od1 a0 aP
     have aV := od1 a0 aV
     obtain ⟨a2, a3, m, a4⟩ := Ow.stamp (RI.mono _) aP m
     have h0_0 := rd2 a3 h0_0
     have a1 := rd1 a3 a1
     have aV := od1 a3 aV
     obtain ⟨a5, a6, m, a7⟩ := Ow.stamp (RI.mono _) aV m
     have h0_0 := rd2 a6 h0_0
     have a1 := rd1 a6 a1
     have a4 := rd1 a6 a4
     refine l_res f rfl rfl Tryz.call86 (Wk.g m h0_0 a1 a4 a7 a9) fun ba bb bc w bd m be a f => ?_
     obtain ⟨bf, bg, rfl, rfl, bh⟩ := be
     have h0_0 := rd2 bd h0_0
     have a1 := rd1 bd a1
     have a4 := rd1 bd a4
     have a7 := rd1 bd a7
     refine l_nil ?_
     refine aY bb [bg] _ _ (GLe.trans a0 (GLe.trans a3 (GLe.trans a6 bd))) m ?_
     refine q_p 7 8 rfl (by kernel_rfl) f rfl rfl rfl (fun _ => r_assign (f.eval rfl)) fun a f => q_end fun bi w bj m => ?_
     have h0_0 := rd2 bj h0_0
     have a1 := rd1 bj a1
     have a4 := rd1 bj a4
     have a7 := rd1 bj a7
     have bh := Ow.mono (RSl.mono (RI.mono _)) bj bh
     refine l_nil ?_
     have m := m.eraseAt 1
     obtain rfl := sj an
     exact ⟨_, rfl, _, bf, bg, (GLe.trans ay (GLe.trans aR (GLe.trans aE (GLe.trans aL (GLe.trans aX (GLe.trans a0 (GLe.trans a3 (GLe.trans a6 (GLe.trans bd bj))))))))), f.weak ⟨rfl, trivial⟩, m, bh⟩
   ·intro aD w aE m aF aF
    obtain ⟨aG, aH, an⟩ := bind_some an
    obtain ⟨a8, a9, an⟩ := bind_some an
    have h0_0 := rd2 aE h0_0
    refine l_res f rfl rfl Tryz.call87 (Wk.B m  aH) fun aI aJ aK w aL m aM a f => ?_
    obtain ⟨aN, aO, rfl, rfl, aP⟩ := aM
    have h0_0 := rd2 aL h0_0
    refine l_nil ?_
    refine aF aJ [aO] _ _ aL m ?_
    refine q_two (i := 1) (j := 5) (l1 := #[true, true, true, true, true, false, false, false]) (l2 := #[true, false, true, true, true, true, false, false]) rfl rfl (by kernel_rfl) rfl rfl ?_ ?_
    ·intro ax w ay m az az
     have h0_0 := rd2 ay h0_0
     have aP := od1 ay aP
     refine l_slit (R := (RI .i64)) (xs := ([] : List Int)) (RI.one _) m T42 f rfl rfl rfl (by decide) (All2.nil _) fun aA aB w a m aC f => l_nil ?_
     refine az ax [aA, aO] _ _ (GLe.refl _) m ?_
     refine q_one (i := 5) rfl (by kernel_rfl) rfl fun aQ w aR m aS aS => ?_
     have h0_0 := rd2 aR h0_0
     have aC := od1 aR aC
     have aP := od1 aR aP
     refine l_slit (R := (RI .i64)) (xs := ([] : List Int)) (RI.one _) m T42 f rfl rfl rfl (by decide) (All2.nil _) fun aT aU w a m aV f => l_nil ?_
     refine aS aQ [aT, aA, aO] _ _ (GLe.refl _) m ?_
     refine q_one (i := 6) rfl (by kernel_rfl) rfl fun aW w aX m aY aY => ?_
     have h0_0 := rd2 aX h0_0
     have aV := od1 aX aV
     have aC := od1 aX aC
     have aP := od1 aX aP
     have m := m.front 1 rfl
     obtain ⟨aZ, a0, m, a1⟩ := Ow.stamp (RI.mono _) aC m
     have h0_0 := rd2 a0 h0_0
     have aV := od1 a0 aV
     have aP := od1 a0 aP
     have m := m.front 1 rfl
     obtain ⟨a2, a3, m, a4⟩ := Ow.stamp (RI.mono _) aP m
     have h0_0 := rd2 a3 h0_0
     have a1 := rd1 a3 a1
     have aV := od1 a3 aV
     obtain ⟨a5, a6, m, a7⟩ := Ow.stamp (RI.mono _) aV m
     have h0_0 := rd2 a6 h0_0
     have a1 := rd1 a6 a1
     have a4 := rd1 a6 a4
     refine l_res f rfl rfl Tryz.call86 (Wk.g m h0_0 a1 a4 a7 a9) fun ba bb bc w bd m be a f => ?_
     obtain ⟨bf, bg, rfl, rfl, bh⟩ := be
     have h0_0 := rd2 bd h0_0
     have a1 := rd1 bd a1
     have a4 := rd1 bd a4
     have a7 := rd1 bd a7
     refine l_nil ?_
     refine aY bb [bg] _ _ (GLe.trans a0 (GLe.trans a3 (GLe.trans a6 bd))) m ?_
     refine q_p 7 8 rfl (by kernel_rfl) f rfl rfl rfl (fun _ => r_assign (f.eval rfl)) fun a f => q_end fun bi w bj m => ?_
     have h0_0 := rd2 bj h0_0
     have a1 := rd1 bj a1
     have a4 := rd1 bj a4
     have a7 := rd1 bj a7
     have bh := Ow.mono (RSl.mono (RI.mono _)) bj bh
     refine l_nil ?_
     have m := m.eraseAt 1
     obtain rfl := sj an
     exact ⟨_, rfl, _, bf, bg, (GLe.trans aE (GLe.trans aL (GLe.trans ay (GLe.trans aR (GLe.trans aX (GLe.trans a0 (GLe.trans a3 (GLe.trans a6 (GLe.trans bd bj))))))))), f.weak ⟨rfl, trivial⟩, m, bh⟩
    ·intro aQ w aR m aS aS
     have h0_0 := rd2 aR h0_0
     have aP := od1 aR aP
     refine l_slit (R := (RI .i64)) (xs := ([] : List Int)) (RI.one _) m T42 f rfl rfl rfl (by decide) (All2.nil _) fun aT aU w a m aV f => l_nil ?_
     refine aS aQ [aT, aO] _ _ (GLe.refl _) m ?_
     refine q_one (i := 1) rfl (by kernel_rfl) rfl fun ax w ay m az az => ?_
     have h0_0 := rd2 ay h0_0
     have aV := od1 ay aV
     have aP := od1 ay aP
     refine l_slit (R := (RI .i64)) (xs := ([] : List Int)) (RI.one _) m T42 f rfl rfl rfl (by decide) (All2.nil _) fun aA aB w a m aC f => l_nil ?_
     refine az ax [aA, aT, aO] _ _ (GLe.refl _) m ?_
     refine q_one (i := 6) rfl (by kernel_rfl) rfl fun aW w aX m aY aY => ?_
     have h0_0 := rd2 aX h0_0
     have aC := od1 aX aC
     have aV := od1 aX aV
     have aP := od1 aX aP
     obtain ⟨aZ, a0, m, a1⟩ := Ow.stamp (RI.mono _) aC m
     have h0_0 := rd2 a0 h0_0
     have aV := od1 a0 aV
     have aP := od1 a0 aP
     have m := m.front 1 rfl
     obtain ⟨a2, a3, m, a4⟩ := Ow.stamp (RI.mono _) aP m
     have h0_0 := rd2 a3 h0_0
     have a1 := rd1 a3 a1
     have aV := od1 a3 aV
     obtain ⟨a5, a6, m, a7⟩ := Ow.stamp (RI.mono _) aV m
     have h0_0 := rd2 a6 h0_0
     have a1 := rd1 a6 a1
     have a4 := rd1 a6 a4
     refine l_res f rfl rfl Tryz.call86 (Wk.g m h0_0 a1 a4 a7 a9) fun ba bb bc w bd m be a f => ?_
     obtain ⟨bf, bg, rfl, rfl, bh⟩ := be
     have h0_0 := rd2 bd h0_0
     have a1 := rd1 bd a1
     have a4 := rd1 bd a4
     have a7 := rd1 bd a7
     refine l_nil ?_
     refine aY bb [bg] _ _ (GLe.trans a0 (GLe.trans a3 (GLe.trans a6 bd))) m ?_
     refine q_p 7 8 rfl (by kernel_rfl) f rfl rfl rfl (fun _ => r_assign (f.eval rfl)) fun a f => q_end fun bi w bj m => ?_
     have h0_0 := rd2 bj h0_0
     have a1 := rd1 bj a1
     have a4 := rd1 bj a4
     have a7 := rd1 bj a7
     have bh := Ow.mono (RSl.mono (RI.mono _)) bj bh
     refine l_nil ?_
     have m := m.eraseAt 1
     obtain rfl := sj an
     exact ⟨_, rfl, _, bf, bg, (GLe.trans aE (GLe.trans aL (GLe.trans aR (GLe.trans ay (GLe.trans aX (GLe.trans a0 (GLe.trans a3 (GLe.trans a6 (GLe.trans bd bj))))))))), f.weak ⟨rfl, trivial⟩, m, bh⟩
   ·intro aQ w aR m aS aS
    obtain ⟨aG, aH, an⟩ := bind_some an
    obtain ⟨a8, a9, an⟩ := bind_some an
    have h0_0 := rd2 aR h0_0
    refine l_slit (R := (RI .i64)) (xs := ([] : List Int)) (RI.one _) m T42 f rfl rfl rfl (by decide) (All2.nil _) fun aT aU w a m aV f => l_nil ?_
    refine aS aQ [aT] _ _ (GLe.refl _) m ?_
    refine q_two (i := 1) (j := 4) (l1 := #[true, true, true, true, false, true, false, false]) (l2 := #[true, false, true, true, true, true, false, false]) rfl rfl (by kernel_rfl) rfl rfl ?_ ?_
    ·intro ax w ay m az az
     have h0_0 := rd2 ay h0_0
     have aV := od1 ay aV
     refine l_slit (R := (RI .i64)) (xs := ([] : List Int)) (RI.one _) m T42 f rfl rfl rfl (by decide) (All2.nil _) fun aA aB w a m aC f => l_nil ?_
     refine az ax [aA, aT] _ _ (GLe.refl _) m ?_
     refine q_one (i := 4) rfl (by kernel_rfl) rfl fun aD w aE m aF aF => ?_
     have h0_0 := rd2 aE h0_0
     have aC := od1 aE aC
     have aV := od1 aE aV
     refine l_res f rfl rfl Tryz.call87 (Wk.B m  aH) fun aI aJ aK w aL m aM a f => ?_
     obtain ⟨aN, aO, rfl, rfl, aP⟩ := aM
     have h0_0 := rd2 aL h0_0
     have aC := od1 aL aC
     have aV := od1 aL aV
     refine l_nil ?_
     refine aF aJ [aO, aA, aT] _ _ aL m ?_
     refine q_one (i := 6) rfl (by kernel_rfl) rfl fun aW w aX m aY aY => ?_
     have h0_0 := rd2 aX h0_0
     have aP := od1 aX aP
     have aC := od1 aX aC
     have aV := od1 aX aV
     have m := m.front 1 rfl
     obtain ⟨aZ, a0, m, a1⟩ := Ow.stamp (RI.mono _) aC m
     have h0_0 := rd2 a0 h0_0
     have aP := od1 a0 aP
     have aV := od1 a0 aV
     obtain ⟨a2, a3, m, a4⟩ := Ow.stamp (RI.mono _) aP m
     have h0_0 := rd2 a3 h0_0
     have a1 := rd1 a3 a1
     have aV := od1 a3 aV
     obtain ⟨a5, a6, m, a7⟩ := Ow.stamp (RI.mono _) aV m
     have h0_0 := rd2 a6 h0_0
     have a1 := rd1 a6 a1
     have a4 := rd1 a6 a4
     refine l_res f rfl rfl Tryz.call86 (Wk.g m h0_0 a1 a4 a7 a9) fun ba bb bc w bd m be a f => ?_
     obtain ⟨bf, bg, rfl, rfl, bh⟩ := be
     have h0_0 := rd2 bd h0_0
     have a1 := rd1 bd a1
     have a4 := rd1 bd a4
     have a7 := rd1 bd a7
     refine l_nil ?_
     refine aY bb [bg] _ _ (GLe.trans a0 (GLe.trans a3 (GLe.trans a6 bd))) m ?_
     refine q_p 7 8 rfl (by kernel_rfl) f rfl rfl rfl (fun _ => r_assign (f.eval rfl)) fun a f => q_end fun bi w bj m => ?_
     have h0_0 := rd2 bj h0_0
     have a1 := rd1 bj a1
     have a4 := rd1 bj a4
     have a7 := rd1 bj a7
     have bh := Ow.mono (RSl.mono (RI.mono _)) bj bh
     refine l_nil ?_
     have m := m.eraseAt 1
     obtain rfl := sj an
     exact ⟨_, rfl, _, bf, bg, (GLe.trans aR (GLe.trans ay (GLe.trans aE (GLe.trans aL (GLe.trans aX (GLe.trans a0 (GLe.trans a3 (GLe.trans a6 (GLe.trans bd bj))))))))), f.weak ⟨rfl, trivial⟩, m, bh⟩
    ·intro aD w aE m aF aF
     have h0_0 := rd2 aE h0_0
     have aV := od1 aE aV
     refine l_res f rfl rfl Tryz.call87 (Wk.B m  aH) fun aI aJ aK w aL m aM a f => ?_
     obtain ⟨aN, aO, rfl, rfl, aP⟩ := aM
     have h0_0 := rd2 aL h0_0
     have aV := od1 aL aV
     refine l_nil ?_
     refine aF aJ [aO, aT] _ _ aL m ?_
     refine q_one (i := 1) rfl (by kernel_rfl) rfl fun ax w ay m az az => ?_
     have h0_0 := rd2 ay h0_0
     have aP := od1 ay aP
     have aV := od1 ay aV
     refine l_slit (R := (RI .i64)) (xs := ([] : List Int)) (RI.one _) m T42 f rfl rfl rfl (by decide) (All2.nil _) fun aA aB w a m aC f => l_nil ?_
     refine az ax [aA, aO, aT] _ _ (GLe.refl _) m ?_
     refine q_one (i := 6) rfl (by kernel_rfl) rfl fun aW w aX m aY aY => ?_
     have h0_0 := rd2 aX h0_0
     have aC := od1 aX aC
     have aP := od1 aX aP
     have aV := od1 aX aV
     obtain ⟨aZ, a0, m, a1⟩ := Ow.stamp (RI.mono _) aC m
     have h0_0 := rd2 a0 h0_0
     have aP := od1 a0 aP
     have aV := od1 a0 aV
     obtain ⟨a2, a3, m, a4⟩ := Ow.stamp (RI.mono _) aP m
     have h0_0 := rd2 a3 h0_0
     have a1 := rd1 a3 a1
     have aV := od1 a3 aV
     obtain ⟨a5, a6, m, a7⟩ := Ow.stamp (RI.mono _) aV m
     have h0_0 := rd2 a6 h0_0
     have a1 := rd1 a6 a1
     have a4 := rd1 a6 a4
     refine l_res f rfl rfl Tryz.call86 (Wk.g m h0_0 a1 a4 a7 a9) fun ba bb bc w bd m be a f => ?_
     obtain ⟨bf, bg, rfl, rfl, bh⟩ := be
     have h0_0 := rd2 bd h0_0
     have a1 := rd1 bd a1
     have a4 := rd1 bd a4
     have a7 := rd1 bd a7
     refine l_nil ?_
     refine aY bb [bg] _ _ (GLe.trans a0 (GLe.trans a3 (GLe.trans a6 bd))) m ?_
     refine q_p 7 8 rfl (by kernel_rfl) f rfl rfl rfl (fun _ => r_assign (f.eval rfl)) fun a f => q_end fun bi w bj m => ?_
     have h0_0 := rd2 bj h0_0
     have a1 := rd1 bj a1
     have a4 := rd1 bj a4
     have a7 := rd1 bj a7
     have bh := Ow.mono (RSl.mono (RI.mono _)) bj bh
     refine l_nil ?_
     have m := m.eraseAt 1
     obtain rfl := sj an
     exact ⟨_, rfl, _, bf, bg, (GLe.trans aR (GLe.trans aE (GLe.trans aL (GLe.trans ay (GLe.trans aX (GLe.trans a0 (GLe.trans a3 (GLe.trans a6 (GLe.trans bd bj))))))))), f.weak ⟨rfl, trivial⟩, m, bh⟩
  ·rintro a w ⟨ao, rfl, ap, aq, ar, bk, f, m, bl⟩
   refine k_ret ?_
   obtain rfl := sj hd
   exact ⟨[aq], ⟨f.get _ _ rfl, trivial⟩, f.defers, _, [ar], (GLe.trans ag bk), m, _, _, rfl, rfl, bl⟩

theorem Wk.b0 {W w : World} {G : GH} {H : List Itm} {v0_0 : Value} {v2 : Value} {x0_0 : (List (List Int))} {x1 : Int} {x2 : (List Bool)} (m : Mem W G w (H)) (h0_0 : RSl (RSl (RI .i64)) G v0_0 x0_0) (h2 : RSl RB G v2 x2) {y : ((List Int))} (hd : D.b0 x0_0 x1 x2 = some y) :
  Calls Tryz.prog 132 #[(.agg #[v0_0]), (.int .i64 x1), v2] w (Res W G H (fun G' Ho v => ∃ r0 : Value, ∃ i0 : Itm, Ho = [i0] ∧ r0 = v ∧ Ow (RI .i64) 2 G' i0 r0 y)) := by
 refine calls_b (args := [(.agg #[v0_0]), (.int .i64 x1), v2]) (N := 44) [.tmp 6] Tryz.func132 rfl rfl (Nat.le_of_ble_eq_true rfl) rfl fun a f => ?_
 unfold D.b0 at hd
 refine k_seq (k_region ?_)
 refine l_box (cs := [v0_0]) m f rfl rfl rfl fun aa w a m f => l_as f rfl rfl fun a f => l_nil (k_seq (k_region ?_))
 refine l_slit (R := (RI .i64)) (xs := ([] : List Int)) (RI.one _) m T42 f rfl rfl rfl (by decide) (All2.nil _) fun ab ac w a m ad f => l_as f rfl rfl fun a f => l_nil (k_seq (k_seq (k_region ?_)))
 refine l_as f rfl rfl fun a f => l_nil ?_
 obtain ⟨ae, af, hd⟩ := bind_some hd
 refine k_cut (fun a w => ∃ ag : List Int, ag = ae ∧ ∃ (ah : GH) (ai : Value) (aj : Itm), GLe G ah ∧ Fr a 44 [(7, ai)] ∧ Mem W ah w (aj :: H) ∧ Ow (RI .i64) 2 ah aj ai ag) ?_ ?_
 ·refine k_block ?_
  have m := m.front 1 rfl
  refine k_loop (fun ak a w => ∃ al : List Int, ∃ am : Int, (al, am) = ak ∧ ∃ (an : GH) (ao : Value) (ap : Itm), GLe G an ∧ Fr a 44 [(1, (.int .i64 x1)), (2, v2), (3, (.pointer (some ⟨aa, 0, none⟩))), (7, ao), (8, (.int .i64 am))] ∧ Mem W an w (Itm.box aa 30 [v0_0] :: ap :: H) ∧ Ow (RI .i64) 2 an ap ao al) af ⟨_, _, rfl, _, ac, ab, (GLe.refl _), f.weak ⟨rfl, rfl, rfl, rfl, rfl, trivial⟩, m, ad⟩ ?_
  clear af f m
  rintro ak aq ar au a w ⟨al, am, rfl, an, ao, ap, av, f, m, aw⟩
  have h2 := RSl.mono RB.mono _ _ _ _ av h2
  have h0_0 := rd2 av h0_0
  refine k_seq (k_seq (k_region ?_))
  refine l_mv f rfl rfl fun a f => l_fieldAddr Tryz.underlying30 rfl Tryz.sizeOf22 (by decide) f rfl rfl fun a f => l_boxCell 0 0 m Pl22 f rfl rfl rfl rfl fun a f => l_mv f rfl rfl fun a f => ?_
  obtain ⟨ax, ay, ar⟩ := bind_some ar
  refine l_at T22 f rfl rfl rfl h0_0 ay fun az aA a aB aC f => l_loadAt m Pl42 f rfl rfl aB fun a f => l_len Tryz.underlying42 f rfl rfl aC fun a f => l_in f rfl rfl rfl b_lss fun a f => l_nil ?_
  rcases cond_some ar with ⟨aD, ar⟩ | ⟨aD, ar⟩
  ·refine k_true f rfl aD ?_
   refine k_skip ?_
   refine k_seq (k_block (k_seq (k_region ?_)))
   refine l_mv f rfl rfl fun a f => l_fieldAddr Tryz.underlying30 rfl Tryz.sizeOf22 (by decide) f rfl rfl fun a f => l_boxCell 0 0 m Pl22 f rfl rfl rfl rfl fun a f => l_mv f rfl rfl fun a f => ?_
   obtain ⟨aE, aF, ar⟩ := bind_some ar
   refine l_at T22 f rfl rfl rfl h0_0 aF fun aG aH a aI aJ f => l_loadAt m Pl42 f rfl rfl aI fun a f => l_mv f rfl rfl fun a f => ?_
   obtain ⟨aK, aL, ar⟩ := bind_some ar
   refine l_at T42 f rfl rfl rfl aJ aL fun aM aN a aO aP f => ?_
   subst aP
   refine l_loadAt m Pl2 f rfl rfl aO fun a f => ?_
   obtain ⟨aQ, aR, ar⟩ := bind_some ar
   refine l_at T142 f rfl rfl rfl h2 aR fun aS aT a aU aV f => ?_
   subst aV
   refine l_loadAt m Pl4 f rfl rfl aU fun a f => l_op f rfl rfl rfl (r_not (f.eval rfl)) fun a f => l_nil ?_
   rcases cond_some ar with ⟨aW, ar⟩ | ⟨aW, ar⟩
   ·refine k_true f rfl aW ?_
    refine k_region ?_
    refine l_mv f rfl rfl fun a f => l_fieldAddr Tryz.underlying30 rfl Tryz.sizeOf22 (by decide) f rfl rfl fun a f => l_boxCell 0 0 m Pl22 f rfl rfl rfl rfl fun a f => l_mv f rfl rfl fun a f => ?_
    obtain ⟨aX, aY, ar⟩ := bind_some ar
    refine l_at T22 f rfl rfl rfl h0_0 aY fun aZ a0 a a1 a2 f => l_loadAt m Pl42 f rfl rfl a1 fun a f => l_mv f rfl rfl fun a f => ?_
    obtain ⟨a3, a4, ar⟩ := bind_some ar
    refine l_at T42 f rfl rfl rfl a2 a4 fun a5 a6 a a7 a8 f => ?_
    subst a8
    refine l_loadAt m Pl2 f rfl rfl a7 fun a f => l_slit (R := (RI .i64)) (xs := ([a3] : List Int)) (RI.one _) m T42 f rfl rfl rfl (by decide) (All2.cons rfl (All2.nil _)) fun a9 ba w a m bb f => ?_
    obtain ⟨bc, bd, ar⟩ := bind_some ar
    refine l_append (RI.one _) 2 m aw rfl T42 rfl (by decide) f rfl rfl rfl (Ow.src (j := 0) bb m rfl) bd fun be bf w a m bg f => l_as f rfl rfl fun a f => l_nil (k_region ?_)
    refine l_mv f rfl rfl fun a f => l_in f rfl rfl rfl b_add fun a f => l_as f rfl rfl fun a f => l_nil ?_
    have m := m.front 2 rfl
    have m := m.front 2 rfl
    have m := m.eraseAt 2
    obtain rfl := sj ar
    exact ⟨_, rfl, _, _, rfl, _, bf, be, av, f.weak ⟨rfl, rfl, rfl, rfl, rfl, trivial⟩, m, bg⟩
   ·refine k_false f rfl aW ?_
    refine k_skip ?_
    refine k_region ?_
    refine l_mv f rfl rfl fun a f => l_in f rfl rfl rfl b_add fun a f => l_as f rfl rfl fun a f => l_nil ?_
    obtain rfl := sj ar
    exact ⟨_, rfl, _, _, rfl, _, ao, ap, av, f.weak ⟨rfl, rfl, rfl, rfl, rfl, trivial⟩, m, aw⟩
  ·refine k_false f rfl aD ?_
   refine k_exit rfl ?_
   have m := m.front 1 rfl
   have m := m.eraseAt 1
   obtain rfl := sj ar
   obtain rfl := au _ rfl
   exact ⟨_, rfl, _, ao, ap, av, f.weak ⟨rfl, trivial⟩, m, aw⟩
 ·rintro a w ⟨ag, rfl, ah, ai, aj, bh, f, m, bi⟩
  refine k_seq (k_region ?_)
  refine l_mv f rfl rfl fun a f => l_as f rfl rfl fun a f => l_nil ?_
  refine k_ret ?_
  obtain rfl := sj hd
  exact ⟨[ai], ⟨f.get _ _ rfl, trivial⟩, f.defers, _, [aj], bh, m, _, _, rfl, rfl, bi⟩

theorem Wk.p0 {W w : World} {G : GH} {H : List Itm} {v0_0 : Value} {x0_0 : (List (List Int))} {x1 : Int} {x2 : Int} (m : Mem W G w (H)) (h0_0 : RSl (RSl (RI .i64)) G v0_0 x0_0) {y : Bool} (hd : D.p0 x0_0 x1 x2 = some y) :
  Calls Tryz.prog 201 #[(.agg #[v0_0]), (.int .i64 x1), (.int .i64 x2)] w (Res W G H (fun _ Ho v => Ho = [] ∧ v = (.bool y))) := by
 refine calls_b (args := [(.agg #[v0_0]), (.int .i64 x1), (.int .i64 x2)]) (N := 14) [.tmp 6] Tryz.func201 rfl rfl (Nat.le_of_ble_eq_true rfl) rfl fun a f => ?_
 unfold D.p0 at hd
 refine k_seq (k_region ?_)
 refine l_box (cs := [v0_0]) m f rfl rfl rfl fun aa w a m f => l_as f rfl rfl fun a f => l_nil (k_seq (k_region ?_))
 refine l_fieldAddr Tryz.underlying30 rfl Tryz.sizeOf22 (by decide) f rfl rfl fun a f => l_boxCell 0 0 m Pl22 f rfl rfl rfl rfl fun a f => l_mv f rfl rfl fun a f => ?_
 obtain ⟨ab, ac, hd⟩ := bind_some hd
 refine l_at T22 f rfl rfl rfl h0_0 ac fun ad ae a af ag f => l_loadAt m Pl42 f rfl rfl af fun a f => l_mv f rfl rfl fun a f => ?_
 obtain ⟨ah, ai, hd⟩ := bind_some hd
 refine l_res f rfl rfl Tryz.call70 (Wk.h m ag ai) fun aj ak al w am m an a f => ?_
 obtain ⟨rfl, rfl⟩ := an
 have h0_0 := rd2 am h0_0
 have af := At.mono am af
 have ag := rd1 am ag
 refine l_as f rfl rfl fun a f => l_nil ?_
 refine k_ret ?_
 have m : Mem W ak w H := Mem.drop (H' := [Itm.box aa 30 [v0_0]]) m
 obtain rfl := sj hd
 exact ⟨[(.bool ah)], ⟨f.get _ _ rfl, trivial⟩, f.defers, _, [], am, m, rfl, rfl⟩

theorem Wk.A0 {W w : World} {G : GH} {H : List Itm} {v0_0 : Value} {v1 : Value} {x0_0 : (List (List Int))} {x1 : (List Int)} (m : Mem W G w (H)) (h0_0 : RSl (RSl (RI .i64)) G v0_0 x0_0) (h1 : RSl (RI .i64) G v1 x1) {y : Int} (hd : D.A0 x0_0 x1 = some y) :
  Calls Tryz.prog 177 #[(.agg #[v0_0]), v1] w (Res W G H (fun _ Ho v => Ho = [] ∧ v = (.int .i64 y))) := by
 refine calls_b (args := [(.agg #[v0_0]), v1]) (N := 33) [.tmp 4] Tryz.func177 rfl rfl (Nat.le_of_ble_eq_true rfl) rfl fun a f => ?_
 unfold D.A0 at hd
 refine k_seq (k_region ?_)
 refine l_box (cs := [v0_0]) m f rfl rfl rfl fun aa w a m f => l_as f rfl rfl fun a f => l_nil (k_seq (k_region ?_))
 refine l_as f rfl rfl fun a f => l_nil (k_seq (k_seq (k_region ?_)))
 refine l_as f rfl rfl fun a f => l_nil ?_
 obtain ⟨ab, ac, hd⟩ := bind_some hd
 refine k_cut (fun a w => ∃ ad : Int, ad = ab ∧ ∃ (ae : GH), GLe G ae ∧ Fr a 33 [(5, (.int .i64 ad))] ∧ Mem W ae w (H)) ?_ ?_
 ·refine k_block ?_
  refine k_loop (fun af a w => ∃ ag : Int, ∃ ah : Int, (ag, ah) = af ∧ ∃ (ai : GH), GLe G ai ∧ Fr a 33 [(1, v1), (2, (.pointer (some ⟨aa, 0, none⟩))), (5, (.int .i64 ag)), (6, (.int .i64 ah))] ∧ Mem W ai w (Itm.box aa 30 [v0_0] :: H)) ac ⟨_, _, rfl, _, (GLe.refl _), f.weak ⟨rfl, rfl, rfl, rfl, trivial⟩, m⟩ ?_
  clear ac f m
  rintro af aj ak al a w ⟨ag, ah, rfl, ai, am, f, m⟩
  have h1 := rd1 am h1
  have h0_0 := rd2 am h0_0
  refine k_seq (k_seq (k_region ?_))
  refine l_mv f rfl rfl fun a f => l_mv f rfl rfl fun a f => l_len Tryz.underlying42 f rfl rfl h1 fun a f => l_in f rfl rfl rfl b_lss fun a f => l_nil ?_
  rcases cond_some ak with ⟨an, ak⟩ | ⟨an, ak⟩
  ·refine k_true f rfl an ?_
   refine k_skip ?_
   refine k_seq (k_block (k_seq (k_region ?_)))
   refine l_as f rfl rfl fun a f => l_nil ?_
   obtain ⟨ao, ap, ak⟩ := bind_some ak
   refine k_cut (fun a w => ∃ aq : Int, aq = ao ∧ ∃ (ar : GH), GLe ai ar ∧ Fr a 33 [(1, v1), (2, (.pointer (some ⟨aa, 0, none⟩))), (5, (.int .i64 aq)), (6, (.int .i64 ah))] ∧ Mem W ar w (Itm.box aa 30 [v0_0] :: H)) ?_ ?_
   ·refine k_block ?_
    refine k_loop (fun au a w => ∃ av : Int, ∃ aw : Int, (av, aw) = au ∧ ∃ (ax : GH), GLe ai ax ∧ Fr a 33 [(1, v1), (2, (.pointer (some ⟨aa, 0, none⟩))), (5, (.int .i64 av)), (6, (.int .i64 ah)), (7, (.int .i64 aw))] ∧ Mem W ax w (Itm.box aa 30 [v0_0] :: H)) ap ⟨_, _, rfl, _, (GLe.refl _), f.weak ⟨rfl, rfl, rfl, rfl, rfl, trivial⟩, m⟩ ?_
    clear ap f m
    rintro au ay az aA a w ⟨av, aw, rfl, ax, aB, f, m⟩
    have h1 := rd1 aB h1
    have h0_0 := rd2 aB h0_0
    refine k_seq (k_seq (k_region ?_))
    refine l_mv f rfl rfl fun a f => l_mv f rfl rfl fun a f => l_in f rfl rfl rfl b_lss fun a f => l_nil ?_
    rcases cond_some az with ⟨aC, az⟩ | ⟨aC, az⟩
    ·refine k_true f rfl aC ?_
     refine k_skip ?_
     refine k_seq (k_block (k_seq ?_))
     refine k_draw 11 Follows (by kernel_rfl) m ?_
     refine q_boxAgg (i := 0) (ds := [v0_0]) 11 0 Ag30 rfl rfl rfl rfl (by kernel_rfl) rfl f rfl rfl rfl fun a f => q_mv 1 11 rfl (by kernel_rfl) f rfl rfl rfl fun a f => q_mv 2 11 rfl (by kernel_rfl) f rfl rfl rfl fun a f => ?_
     obtain ⟨aD, aE, az⟩ := bind_some az
     refine q_at (i := 3) 11 T42 h1 aE rfl (by kernel_rfl) rfl f rfl rfl rfl rfl fun aF aG a aH aI f => ?_
     subst aI
     refine q_loadAt (i := 4) 11 Pl2 aH rfl (by kernel_rfl) rfl f rfl rfl rfl fun a f => q_mv 5 11 rfl (by kernel_rfl) f rfl rfl rfl fun a f => q_mv 6 11 rfl (by kernel_rfl) f rfl rfl rfl fun a f => ?_
     obtain ⟨aJ, aK, az⟩ := bind_some az
     refine q_at (i := 7) 11 T42 h1 aK rfl (by kernel_rfl) rfl f rfl rfl rfl rfl fun aL aM a aN aO f => ?_
     subst aO
     refine q_loadAt (i := 8) 11 Pl2 aN rfl (by kernel_rfl) rfl f rfl rfl rfl fun a f => ?_
     obtain ⟨aP, aQ, az⟩ := bind_some az
     refine q_call (i := 9) 11 rfl (by kernel_rfl) rfl f rfl rfl rfl Tryz.call201 (fun _ _ w aR m => Wk.p0 m (rd2 aR h0_0) aQ) fun a f => q_p 10 11 rfl (by kernel_rfl) f rfl rfl rfl (fun _ => r_not (f.eval rfl)) fun a f => q_end fun aS w aT m => ?_
     have h1 := rd1 aT h1
     have h0_0 := rd2 aT h0_0
     have aH := At.mono aT aH
     have aN := At.mono aT aN
     refine l_nil ?_
     rcases cond_some az with ⟨aU, az⟩ | ⟨aU, az⟩
     ·refine k_true f rfl aU ?_
      refine k_region ?_
      refine l_mv f rfl rfl fun a f => l_in f rfl rfl rfl b_add fun a f => l_as f rfl rfl fun a f => l_nil (k_region ?_)
      refine l_mv f rfl rfl fun a f => l_in f rfl rfl rfl b_add fun a f => l_as f rfl rfl fun a f => l_nil ?_
      obtain rfl := sj az
      exact ⟨_, rfl, _, _, rfl, _, (GLe.trans aB aT), f.weak ⟨rfl, rfl, rfl, rfl, rfl, trivial⟩, m⟩
     ·refine k_false f rfl aU ?_
      refine k_skip ?_
      refine k_region ?_
      refine l_mv f rfl rfl fun a f => l_in f rfl rfl rfl b_add fun a f => l_as f rfl rfl fun a f => l_nil ?_
      obtain rfl := sj az
      exact ⟨_, rfl, _, _, rfl, _, (GLe.trans aB aT), f.weak ⟨rfl, rfl, rfl, rfl, rfl, trivial⟩, m⟩
    ·refine k_false f rfl aC ?_
     refine k_exit rfl ?_
     obtain rfl := sj az
     obtain rfl := aA _ rfl
     exact ⟨_, rfl, _, aB, f.weak ⟨rfl, rfl, rfl, rfl, trivial⟩, m⟩
   ·rintro a w ⟨aq, rfl, ar, aV, f, m⟩
    have h1 := rd1 aV h1
    have h0_0 := rd2 aV h0_0
    refine k_region ?_
    refine l_mv f rfl rfl fun a f => l_in f rfl rfl rfl b_add fun a f => l_as f rfl rfl fun a f => l_nil ?_
    obtain rfl := sj ak
    exact ⟨_, rfl, _, _, rfl, _, (GLe.trans am aV), f.weak ⟨rfl, rfl, rfl, rfl, trivial⟩, m⟩
  ·refine k_false f rfl an ?_
   refine k_exit rfl ?_
   have m : Mem W ai w H := Mem.drop (H' := [Itm.box aa 30 [v0_0]]) m
   obtain rfl := sj ak
   obtain rfl := al _ rfl
   exact ⟨_, rfl, _, am, f.weak ⟨rfl, trivial⟩, m⟩
 ·rintro a w ⟨ad, rfl, ae, aW, f, m⟩
  refine k_seq (k_region ?_)
  refine l_mv f rfl rfl fun a f => l_as f rfl rfl fun a f => l_nil ?_
  refine k_ret ?_
  obtain rfl := sj hd
  exact ⟨[(.int .i64 ad)], ⟨f.get _ _ rfl, trivial⟩, f.defers, _, [], aW, m, rfl, rfl⟩

theorem Wk.d {W w : World} {G : GH} {H : List Itm} {v0_0 : Value} {v1 : Value} {x0_0 : (List (List Int))} {x1 : (List Int)} (m : Mem W G w (H)) (h0_0 : RSl (RSl (RI .i64)) G v0_0 x0_0) (h1 : RSl (RI .i64) G v1 x1) {y : Bool} (hd : D.d x0_0 x1 = some y) :
  Calls Tryz.prog 140 #[(.agg #[v0_0]), v1] w (Res W G H (fun _ Ho v => Ho = [] ∧ v = (.bool y))) := by
 refine calls_b (args := [(.agg #[v0_0]), v1]) (N := 9) [.tmp 4] Tryz.func140 rfl rfl (Nat.le_of_ble_eq_true rfl) rfl fun a f => ?_
 unfold D.d at hd
 refine k_seq (k_region ?_)
 refine l_box (cs := [v0_0]) m f rfl rfl rfl fun aa w a m f => l_as f rfl rfl fun a f => l_nil (k_seq (k_region ?_))
 refine l_boxAgg 0 0 (ds := [v0_0]) m Ag30 f rfl rfl rfl rfl rfl fun a f => l_mv f rfl rfl fun a f => ?_
 obtain ⟨ab, ac, hd⟩ := bind_some hd
 refine l_res f rfl rfl Tryz.call177 (Wk.A0 m h0_0 h1 ac) fun ad ae af w ag m ah a f => ?_
 obtain ⟨rfl, rfl⟩ := ah
 have h0_0 := rd2 ag h0_0
 have h1 := rd1 ag h1
 refine l_in f rfl rfl rfl b_eql fun a f => l_as f rfl rfl fun a f => l_nil ?_
 refine k_ret ?_
 have m : Mem W ae w H := Mem.drop (H' := [Itm.box aa 30 [v0_0]]) m
 obtain rfl := sj hd
 exact ⟨[(.bool (ab == 0))], ⟨f.get _ _ rfl, trivial⟩, f.defers, _, [], ag, m, rfl, rfl⟩

theorem Wk.G0 {W w : World} {G : GH} {H : List Itm} {v0_0 : Value} {x0_0 : (List (List Int))} (m : Mem W G w (H)) (h0_0 : RSl (RSl (RI .i64)) G v0_0 x0_0) {y : ((List Int)) × Bool} (hd : D.G0 x0_0 = some y) :
  Calls Tryz.prog 76 #[(.agg #[v0_0])] w (Res W G H (fun G' Ho v => ∃ r0 : Value, ∃ i0 : Itm, Ho = [i0] ∧ v = .tuple #[r0, (.bool y.2)] ∧ Ow (RI .i64) 2 G' i0 r0 y.1)) := by
 refine calls_b (args := [(.agg #[v0_0])]) (N := 54) [.tmp 2, .tmp 3] Tryz.func76 rfl rfl (Nat.le_of_ble_eq_true rfl) rfl fun a f => ?_
 unfold D.G0 at hd
 refine k_seq (k_region ?_)
 refine l_box (cs := [v0_0]) m f rfl rfl rfl fun aa w a m f => l_as f rfl rfl fun a f => l_as f rfl rfl fun a f => l_nil (k_seq (k_seq (k_region ?_)))
 refine l_boxAgg 0 0 (ds := [v0_0]) m Ag30 f rfl rfl rfl rfl rfl fun a f => ?_
 obtain ⟨ab, ac, hd⟩ := bind_some hd
 refine l_res f rfl rfl Tryz.call77 (Wk.Z m h0_0 ac) fun ad ae af w ag m ah a f => ?_
 obtain ⟨rfl, rfl⟩ := ah
 have h0_0 := rd2 ag h0_0
 refine l_op f rfl rfl rfl (r_not (f.eval rfl)) fun a f => l_nil ?_
 rcases cond_some hd with ⟨ai, hd⟩ | ⟨ai, hd⟩
 ·refine k_true f rfl ai ?_
  refine k_seq (k_region ?_)
  refine l_slit (R := (RI .i64)) (xs := ([] : List Int)) (RI.one _) m T42 f rfl rfl rfl (by decide) (All2.nil _) fun aj ak w a m al f => l_as f rfl rfl fun a f => l_as f rfl rfl fun a f => l_nil ?_
  refine k_ret ?_
  have m := m.eraseAt 1
  obtain rfl := sj hd
  exact ⟨[ak, (.bool false)], ⟨f.get _ _ rfl, f.get _ _ rfl, trivial⟩, f.defers, _, [aj], ag, m, _, _, rfl, rfl, al⟩
 ·refine k_false f rfl ai ?_
  refine k_skip ?_
  refine k_seq (k_region ?_)
  refine l_boxAgg 0 0 (ds := [v0_0]) m Ag30 f rfl rfl rfl rfl rfl fun a f => ?_
  obtain ⟨am, an, hd⟩ := bind_some hd
  refine l_res f rfl rfl Tryz.call80 (Wk.e m h0_0 an) fun ao ap aq w ar m au a f => ?_
  obtain ⟨rfl, rfl⟩ := au
  have h0_0 := rd2 ar h0_0
  obtain ⟨av, aw, hd⟩ := bind_some hd
  refine l_make (R := RB) m T142 rfl (by decide) rfl f rfl rfl rfl aw fun ax ay w a m az f => l_as f rfl rfl fun a f => l_nil (k_seq (k_region ?_))
  refine l_slit (R := (RI .i64)) (xs := ([] : List Int)) (RI.one _) m T42 f rfl rfl rfl (by decide) (All2.nil _) fun aA aB w a m aC f => l_as f rfl rfl fun a f => l_nil (k_seq ?_)
  obtain ⟨aD, aE, hd⟩ := bind_some hd
  refine k_cut (fun a w => ∃ q_525' : (List Int), aD = .inl q_525' ∧ ∃ aF : List Int, aF = q_525' ∧ ∃ (aG : GH) (aH : Value) (aI : Itm), GLe ap aG ∧ Fr a 54 [(5, aH)] ∧ Mem W aG w (aI :: H) ∧ Ow (RI .i64) 2 aG aI aH aF) ?_ ?_
  ·refine k_block ?_
   have m := m.front 1 rfl
   have m := m.front 2 rfl
   refine k_loop (fun aJ a w => ∃ aK : List Bool, ∃ aL : List Int, (aK, aL) = aJ ∧ ∃ (aM : GH) (aN : Itm) (aO : Value) (aP : Itm), GLe ap aM ∧ Fr a 54 [(1, (.pointer (some ⟨aa, 0, none⟩))), (4, ay), (5, aO)] ∧ Mem W aM w (Itm.box aa 30 [v0_0] :: aN :: aP :: H) ∧ Ow RB 4 aM aN ay aK ∧ Ow (RI .i64) 2 aM aP aO aL) aE ⟨_, _, rfl, _, ax, aB, aA, (GLe.refl _), f.weak ⟨rfl, rfl, rfl, trivial⟩, m, az, aC⟩ ?_
   clear aE f m
   rintro aJ aQ aR aS a w ⟨aK, aL, rfl, aM, aN, aO, aP, aT, f, m, aU, aV⟩
   have h0_0 := rd2 aT h0_0
   refine k_seq (k_seq (k_region ?_))
   refine l_mv f rfl rfl fun a f => l_own_len 2 m aV rfl Tryz.underlying42 f rfl rfl fun a f => l_boxAgg 0 0 (ds := [v0_0]) m Ag30 f rfl rfl rfl rfl rfl fun a f => ?_
   obtain ⟨aW, aX, aR⟩ := bind_some aR
   refine l_res f rfl rfl Tryz.call80 (Wk.e m h0_0 aX) fun aY aZ a2 w a3 m a4 a f => ?_
   obtain ⟨rfl, rfl⟩ := a4
   have h0_0 := rd2 a3 h0_0
   have aU := Ow.mono RB.mono a3 aU
   have aV := od1 a3 aV
   refine l_in f rfl rfl rfl b_lss fun a f => l_nil ?_
   rcases cond_some aR with ⟨a5, aR⟩ | ⟨a5, aR⟩
   ·refine k_true f rfl a5 ?_
    refine k_skip ?_
    refine k_block (k_seq (k_region ?_))
    refine l_as f rfl rfl fun a f => l_nil (k_seq ?_)
    obtain ⟨a6, a7, aR⟩ := bind_some aR
    refine k_cut (fun a w => ∃ a8 : Int, a8 = a6 ∧ ∃ (a9 : GH), GLe aZ a9 ∧ Fr a 54 [(1, (.pointer (some ⟨aa, 0, none⟩))), (4, ay), (5, aO), (6, (.int .i64 a8))] ∧ Mem W a9 w (Itm.box aa 30 [v0_0] :: aN :: aP :: H)) ?_ ?_
    ·refine k_block ?_
     refine k_loop (fun ba a w => ∃ bb : Int, bb = ba ∧ ∃ (bc : GH), GLe aZ bc ∧ Fr a 54 [(1, (.pointer (some ⟨aa, 0, none⟩))), (4, ay), (5, aO), (6, (.int .i64 bb))] ∧ Mem W bc w (Itm.box aa 30 [v0_0] :: aN :: aP :: H)) a7 ⟨_, rfl, _, (GLe.refl _), f.weak ⟨rfl, rfl, rfl, rfl, trivial⟩, m⟩ ?_
     clear a7 f m
     rintro ba bd be bf a w ⟨bb, rfl, bc, bg, f, m⟩
     have h0_0 := rd2 bg h0_0
     have aU := Ow.mono RB.mono bg aU
     have aV := od1 bg aV
     refine k_seq (k_seq ?_)
     refine k_draw 19 Follows (by kernel_rfl) m ?_
     refine q_mv 0 19 rfl (by kernel_rfl) f rfl rfl rfl fun a f => q_boxAgg (i := 1) (ds := [v0_0]) 19 0 Ag30 rfl rfl rfl rfl (by kernel_rfl) rfl f rfl rfl rfl fun a f => ?_
     obtain ⟨bh, bi, be⟩ := bind_some be
     refine q_call (i := 2) 19 rfl (by kernel_rfl) rfl f rfl rfl rfl Tryz.call80 (fun _ _ w bj m => Wk.e m (rd2 bj h0_0) bi) fun a f => q_p 3 19 rfl (by kernel_rfl) f rfl rfl rfl (fun _ => r_int (f.eval rfl) (f.eval rfl) b_lss) fun a f => q_mv 4 19 rfl (by kernel_rfl) f rfl rfl rfl fun a f => ?_
     rcases cond_some be with ⟨bk, be⟩ | ⟨bk, be⟩
     ·refine q_mv 5 19 rfl (by kernel_rfl) f (wanted_of f rfl rfl rfl bk) rfl rfl fun a f => ?_
      refine q_mv 6 19 rfl (by kernel_rfl) f (wanted_of f rfl rfl rfl bk) rfl rfl fun a f => ?_
      obtain ⟨bl, bm, be⟩ := bind_some be
      refine q_own_at (i := 7) 19 1 m aU rfl T142 bm rfl (by kernel_rfl) rfl f (wanted_of f rfl rfl rfl bk) rfl rfl rfl fun bn a bo f => q_own_load (i := 8) 19 1 aU rfl Pl4 bo bm rfl (by kernel_rfl) rfl f (wanted_of f rfl rfl rfl bk) rfl rfl fun bp a bq f => ?_
      subst bq
      refine q_mv 9 19 rfl (by kernel_rfl) f (wanted_of f rfl rfl rfl bk) rfl rfl fun a f => ?_
      rcases cond_some be with ⟨br, be⟩ | ⟨br, be⟩
      ·refine q_ng 10 19 rfl (by kernel_rfl) f rfl rfl br rfl fun a f => ?_
       refine q_ng 11 19 rfl (by kernel_rfl) f rfl rfl br rfl fun a f => q_ng 12 19 rfl (by kernel_rfl) f rfl rfl br rfl fun a f => q_ng 13 19 rfl (by kernel_rfl) f rfl rfl br rfl fun a f => q_ng 14 19 rfl (by kernel_rfl) f rfl rfl br rfl fun a f => q_ng 15 19 rfl (by kernel_rfl) f rfl rfl br rfl fun a f => q_ng 16 19 rfl (by kernel_rfl) f rfl rfl br rfl fun a f => q_p 17 19 rfl (by kernel_rfl) f (wanted_of f rfl rfl rfl bk) rfl rfl (fun _ => r_pickT (f.eval rfl) br (f.eval rfl)) fun a f => q_p 18 19 rfl (by kernel_rfl) f rfl rfl rfl (fun _ => r_pickT (f.eval rfl) bk (f.eval rfl)) fun a f => q_end fun bs w bt m => ?_
       have h0_0 := rd2 bt h0_0
       have aU := Ow.mono RB.mono bt aU
       have aV := od1 bt aV
       refine l_nil ?_
       refine k_true f rfl rfl ?_
       refine k_skip ?_
       refine k_block (k_region ?_)
       refine l_mv f rfl rfl fun a f => l_in f rfl rfl rfl b_add fun a f => l_as f rfl rfl fun a f => l_nil ?_
       obtain rfl := sj be
       exact ⟨_, rfl, _, rfl, _, (GLe.trans bg bt), f.weak ⟨rfl, rfl, rfl, rfl, trivial⟩, m⟩
      ·refine q_boxAgg (i := 10) (ds := [v0_0]) 19 0 Ag30 rfl rfl rfl rfl (by kernel_rfl) rfl f (wanted_of f rfl rfl rfl br) rfl rfl fun a f => ?_
       refine q_boxAgg (i := 11) (ds := [v0_0]) 19 0 Ag30 rfl rfl rfl rfl (by kernel_rfl) rfl f (wanted_of f rfl rfl rfl br) rfl rfl fun a f => q_mv 12 19 rfl (by kernel_rfl) f (wanted_of f rfl rfl rfl br) rfl rfl fun a f => q_mv 13 19 rfl (by kernel_rfl) f (wanted_of f rfl rfl rfl br) rfl rfl fun a f => q_one (i := 14) rfl (by kernel_rfl) rfl fun bu w bv m bw bw => ?_
       have h0_0 := rd2 bv h0_0
       have aU := Ow.mono RB.mono bv aU
       have aV := od1 bv aV
       refine l_run f rfl rfl br ?_
       obtain ⟨bx, bz, be⟩ := bind_some be
       refine l_res f rfl rfl Tryz.call132 (Ow.lendCall RB.mono 1 aU m rfl (fun bA bB m bC => Wk.b0 m (rd2 bB h0_0) bC bz) (fun _ G' _ _ ⟨a0, a1, e1, e2, o0⟩ => ⟨a0, a1, e1, e2, Ow.free (RI.free _) G' o0⟩)) fun bD bE bF w bG m bH a f => ?_
       obtain ⟨bI, bJ, rfl, rfl, bK⟩ := bH
       have h0_0 := rd2 bG h0_0
       have aU := Ow.mono RB.mono bG aU
       have aV := od1 bG aV
       refine l_nil ?_
       refine bw bE [bJ] _ _ bG m ?_
       refine q_one (i := 15) rfl (by kernel_rfl) rfl fun bL w bM m bN bN => ?_
       have h0_0 := rd2 bM h0_0
       have bK := od1 bM bK
       have aU := Ow.mono RB.mono bM aU
       have aV := od1 bM aV
       refine l_run f rfl rfl br ?_
       obtain ⟨bO, bP, be⟩ := bind_some be
       refine l_res f rfl rfl Tryz.call140 (Ow.lendCall (RI.mono _) 0 bK m rfl (fun bQ bR m bS => Wk.d m (rd2 bR h0_0) bS bP) (fun _ _ _ _ h => h)) fun bT bU bV w bW m bX a f => ?_
       obtain ⟨rfl, rfl⟩ := bX
       have h0_0 := rd2 bW h0_0
       have bK := od1 bW bK
       have aU := Ow.mono RB.mono bW aU
       have aV := od1 bW aV
       refine l_nil ?_
       refine bN bU [bJ] _ _ bW m ?_
       refine q_p 16 19 rfl (by kernel_rfl) f (wanted_of f rfl rfl rfl br) rfl rfl (fun _ => r_not (f.eval rfl)) fun a f => q_p 17 19 rfl (by kernel_rfl) f (wanted_of f rfl rfl rfl bk) rfl rfl (fun _ => r_pickF (f.eval rfl) br (f.eval rfl)) fun a f => q_p 18 19 rfl (by kernel_rfl) f rfl rfl rfl (fun _ => r_pickT (f.eval rfl) bk (f.eval rfl)) fun a f => q_end fun bY w bZ m => ?_
       have h0_0 := rd2 bZ h0_0
       have bK := od1 bZ bK
       have aU := Ow.mono RB.mono bZ aU
       have aV := od1 bZ aV
       refine l_nil ?_
       rcases cond_some be with ⟨b0, be⟩ | ⟨b0, be⟩
       ·refine k_true f rfl b0 ?_
        refine k_skip ?_
        refine k_block (k_region ?_)
        refine l_mv f rfl rfl fun a f => l_in f rfl rfl rfl b_add fun a f => l_as f rfl rfl fun a f => l_nil ?_
        have m := m.front 3 rfl
        have m := m.front 3 rfl
        have m : Mem W bY w (Itm.box aa 30 [v0_0] :: aN :: aP :: bJ :: H) := m.front 3 rfl
        have m := m.eraseAt 3
        obtain rfl := sj be
        exact ⟨_, rfl, _, rfl, _, (GLe.trans bg (GLe.trans bv (GLe.trans bG (GLe.trans bM (GLe.trans bW bZ))))), f.weak ⟨rfl, rfl, rfl, rfl, trivial⟩, m⟩
       ·refine k_false f rfl b0 ?_
        refine k_exit rfl ?_
        have m := m.front 3 rfl
        have m := m.front 3 rfl
        have m : Mem W bY w (Itm.box aa 30 [v0_0] :: aN :: aP :: bJ :: H) := m.front 3 rfl
        have m := m.eraseAt 3
        obtain rfl := sj be
        obtain rfl := bf _ rfl
        exact ⟨_, rfl, _, (GLe.trans bg (GLe.trans bv (GLe.trans bG (GLe.trans bM (GLe.trans bW bZ))))), f.weak ⟨rfl, rfl, rfl, rfl, trivial⟩, m⟩
     ·refine q_ng 5 19 rfl (by kernel_rfl) f rfl rfl bk rfl fun a f => ?_
      refine q_ng 6 19 rfl (by kernel_rfl) f rfl rfl bk rfl fun a f => q_ng 7 19 rfl (by kernel_rfl) f rfl rfl bk rfl fun a f => q_ng 8 19 rfl (by kernel_rfl) f rfl rfl bk rfl fun a f => q_ng 9 19 rfl (by kernel_rfl) f rfl rfl bk rfl fun a f => q_nu 10 19 rfl (by kernel_rfl) f rfl rfl rfl fun a f => q_nu 11 19 rfl (by kernel_rfl) f rfl rfl rfl fun a f => q_nu 12 19 rfl (by kernel_rfl) f rfl rfl rfl fun a f => q_nu 13 19 rfl (by kernel_rfl) f rfl rfl rfl fun a f => q_nu 14 19 rfl (by kernel_rfl) f rfl rfl rfl fun a f => q_nu 15 19 rfl (by kernel_rfl) f rfl rfl rfl fun a f => q_nu 16 19 rfl (by kernel_rfl) f rfl rfl rfl fun a f => q_ng 17 19 rfl (by kernel_rfl) f rfl rfl bk rfl fun a f => q_p 18 19 rfl (by kernel_rfl) f rfl rfl rfl (fun _ => r_pickF (f.eval rfl) bk (f.eval rfl)) fun a f => q_end fun b1 w b2 m => ?_
      have h0_0 := rd2 b2 h0_0
      have aU := Ow.mono RB.mono b2 aU
      have aV := od1 b2 aV
      refine l_nil ?_
      refine k_false f rfl rfl ?_
      refine k_exit rfl ?_
      obtain rfl := sj be
      obtain rfl := bf _ rfl
      exact ⟨_, rfl, _, (GLe.trans bg b2), f.weak ⟨rfl, rfl, rfl, rfl, trivial⟩, m⟩
    ·rintro a w ⟨a8, rfl, a9, b3, f, m⟩
     have h0_0 := rd2 b3 h0_0
     have aU := Ow.mono RB.mono b3 aU
     have aV := od1 b3 aV
     refine k_seq (k_seq (k_region ?_))
     refine l_mv f rfl rfl fun a f => l_boxAgg 0 0 (ds := [v0_0]) m Ag30 f rfl rfl rfl rfl rfl fun a f => ?_
     obtain ⟨b4, b5, aR⟩ := bind_some aR
     refine l_res f rfl rfl Tryz.call80 (Wk.e m h0_0 b5) fun b6 b7 b8 w b9 m ca a f => ?_
     obtain ⟨rfl, rfl⟩ := ca
     have h0_0 := rd2 b9 h0_0
     have aU := Ow.mono RB.mono b9 aU
     have aV := od1 b9 aV
     refine l_in f rfl rfl rfl b_eql fun a f => l_nil ?_
     rcases cond_some aR with ⟨cb, aR⟩ | ⟨cb, aR⟩
     ·refine k_true f rfl cb ?_
      refine k_seq (k_region ?_)
      refine l_slit (R := (RI .i64)) (xs := ([] : List Int)) (RI.one _) m T42 f rfl rfl rfl (by decide) (All2.nil _) fun cc cd w a m ce f => l_as f rfl rfl fun a f => l_as f rfl rfl fun a f => l_nil ?_
      refine k_ret ?_
      have m := m.eraseAt 3
      have m := m.eraseAt 2
      have m := m.eraseAt 1
      obtain rfl := sj aR
      obtain rfl := aS _ rfl
      obtain rfl := sj hd
      exact ⟨[cd, (.bool false)], ⟨f.get _ _ rfl, f.get _ _ rfl, trivial⟩, f.defers, _, [cc], (GLe.trans ag (GLe.trans ar (GLe.trans aT (GLe.trans a3 (GLe.trans b3 b9))))), m, _, _, rfl, rfl, ce⟩
     ·refine k_false f rfl cb ?_
      refine k_skip ?_
      refine k_seq (k_region ?_)
      refine l_mv f rfl rfl fun a f => l_mv f rfl rfl fun a f => ?_
      obtain ⟨cf, cg, aR⟩ := bind_some aR
      refine l_own_at 1 m aU rfl T142 f rfl rfl rfl cg fun ch a ci f => l_own_store 1 m aU rfl Tryz.sizeOf4 f rfl rfl ci cg rfl rfl rfl fun cj w m ck => l_nil (k_region ?_)
      refine l_mv f rfl rfl fun a f => l_mv f rfl rfl fun a f => l_slit (R := (RI .i64)) (xs := ([a8] : List Int)) (RI.one _) m T42 f rfl rfl rfl (by decide) (All2.cons rfl (All2.nil _)) fun cl cm w a m cn f => ?_
      obtain ⟨co, cp, aR⟩ := bind_some aR
      refine l_append (RI.one _) 3 m aV rfl T42 rfl (by decide) f rfl rfl rfl (Ow.src (j := 0) cn m rfl) cp fun cq cr w a m ct f => l_as f rfl rfl fun a f => l_nil ?_
      have m := m.front 3 rfl
      have m := m.front 3 rfl
      have m : Mem W b7 w (Itm.box aa 30 [v0_0] :: cj :: cq :: cl :: H) := m.front 3 rfl
      have m := m.eraseAt 3
      obtain rfl := sj aR
      exact ⟨_, rfl, _, _, rfl, _, cj, cr, cq, (GLe.trans aT (GLe.trans a3 (GLe.trans b3 b9))), f.weak ⟨rfl, rfl, rfl, trivial⟩, m, ck, ct⟩
   ·refine k_false f rfl a5 ?_
    refine k_exit rfl ?_
    have m := m.front 2 rfl
    have m := m.eraseAt 2
    have m := m.eraseAt 1
    obtain rfl := sj aR
    obtain rfl := aS _ rfl
    exact ⟨_, rfl, _, rfl, _, aO, aP, (GLe.trans aT a3), f.weak ⟨rfl, trivial⟩, m, aV⟩
  ·rintro a w ⟨_, rfl, aF, rfl, aG, aH, aI, cu, f, m, cv⟩
   refine k_seq (k_region ?_)
   refine l_mv f rfl rfl fun a f => l_as f rfl rfl fun a f => l_as f rfl rfl fun a f => l_nil ?_
   refine k_ret ?_
   obtain rfl := sj hd
   exact ⟨[aH, (.bool true)], ⟨f.get _ _ rfl, f.get _ _ rfl, trivial⟩, f.defers, _, [aI], (GLe.trans ag (GLe.trans ar cu)), m, _, _, rfl, rfl, cv⟩

theorem Wk.k0 {W w : World} {G : GH} {H : List Itm} {v0_0 : Value} {x0_0 : (List (List Int))} (m : Mem W G w (H)) (h0_0 : RSl (RSl (RI .i64)) G v0_0 x0_0) {y : Bool} (hd : D.k0 x0_0 = some y) :
  Calls Tryz.prog 28 #[(.agg #[v0_0])] w (Res W G H (fun _ Ho v => Ho = [] ∧ v = (.bool y))) := by
 refine calls_b (args := [(.agg #[v0_0])]) (N := 11) [.tmp 2] Tryz.func28 rfl rfl (Nat.le_of_ble_eq_true rfl) rfl fun a f => ?_
 unfold D.k0 at hd
 refine k_seq (k_region ?_)
 refine l_box (cs := [v0_0]) m f rfl rfl rfl fun aa w a m f => l_as f rfl rfl fun a f => l_nil (k_seq (k_region ?_))
 refine l_boxAgg 0 0 (ds := [v0_0]) m Ag30 f rfl rfl rfl rfl rfl fun a f => ?_
 obtain ⟨ab, ac, hd⟩ := bind_some hd
 refine l_res f rfl rfl Tryz.call76 (Wk.G0 m h0_0 ac) fun ad ae af w ag m ah a f => ?_
 obtain ⟨ai, aj, rfl, rfl, ak⟩ := ah
 have h0_0 := rd2 ag h0_0
 refine l_mv f rfl rfl fun a f => l_op f rfl rfl rfl (r_extract (f.eval rfl) rfl) fun a f => l_op f rfl rfl rfl (r_extract (f.eval rfl) rfl) fun a f => l_as f rfl rfl fun a f => l_as f rfl rfl fun a f => l_nil (k_seq (k_region ?_))
 refine l_mv f rfl rfl fun a f => l_as f rfl rfl fun a f => l_nil ?_
 refine k_ret ?_
 have m : Mem W ae w H := Mem.drop (H' := [aj, Itm.box aa 30 [v0_0]]) m
 obtain rfl := sj hd
 exact ⟨[(.bool ab.2)], ⟨f.get _ _ rfl, trivial⟩, f.defers, _, [], ag, m, rfl, rfl⟩

theorem Wk.K {W w : World} {G : GH} {H : List Itm} {v0_0 : Value} {v0_1 : Value} {x0_0 : (List (List Int))} {x0_1 : (List (List Int))} {x1 : Int} {x2 : Int} (m : Mem W G w (H)) (h0_0 : RSl (RSl (RI .i64)) G v0_0 x0_0) (h0_1 : RSl (RSl (RI .i64)) G v0_1 x0_1) {y : Bool} (hd : D.K x0_0 x0_1 x1 x2 = some y) :
  Calls Tryz.prog 45 #[(.agg #[v0_0, v0_1]), (.int .i64 x1), (.int .i64 x2)] w (Res W G H (fun _ Ho v => Ho = [] ∧ v = (.bool y))) := by
 refine calls_b (args := [(.agg #[v0_0, v0_1]), (.int .i64 x1), (.int .i64 x2)]) (N := 48) [.tmp 6] Tryz.func45 rfl rfl (Nat.le_of_ble_eq_true rfl) rfl fun a f => ?_
 unfold D.K at hd
 refine k_seq (k_region ?_)
 refine l_box (cs := [v0_0, v0_1]) m f rfl rfl rfl fun aa w a m f => l_as f rfl rfl fun a f => l_nil (k_seq (k_region ?_))
 refine l_mv f rfl rfl fun a f => l_slit (R := (RI .i64)) (xs := ([x1] : List Int)) (RI.one _) m T42 f rfl rfl rfl (by decide) (All2.cons rfl (All2.nil _)) fun ab ac w a m ad f => l_as f rfl rfl fun a f => l_nil (k_seq (k_seq (k_region ?_)))
 refine l_as f rfl rfl fun a f => l_nil ?_
 obtain ⟨ae, af, hd⟩ := bind_some hd
 refine k_cut (fun a w => ∃ ag : List Int, ag = ae ∧ ∃ (ah : GH) (ai : Value) (aj : Itm), GLe G ah ∧ Fr a 48 [(2, (.int .i64 x2)), (7, ai)] ∧ Mem W ah w (aj :: H) ∧ Ow (RI .i64) 2 ah aj ai ag) ?_ ?_
 ·refine k_block ?_
  have m := m.front 1 rfl
  refine k_loop (fun ak a w => ∃ al : List Int, ∃ am : Int, (al, am) = ak ∧ ∃ (an : GH) (ao : Value) (ap : Itm), GLe G an ∧ Fr a 48 [(2, (.int .i64 x2)), (3, (.pointer (some ⟨aa, 0, none⟩))), (7, ao), (8, (.int .i64 am))] ∧ Mem W an w (Itm.box aa 27 [v0_0, v0_1] :: ap :: H) ∧ Ow (RI .i64) 2 an ap ao al) af ⟨_, _, rfl, _, ac, ab, (GLe.refl _), f.weak ⟨rfl, rfl, rfl, rfl, trivial⟩, m, ad⟩ ?_
  clear af f m
  rintro ak aq ar au a w ⟨al, am, rfl, an, ao, ap, av, f, m, aw⟩
  have h0_0 := rd2 av h0_0
  have h0_1 := rd2 av h0_1
  refine k_seq (k_seq (k_region ?_))
  refine l_mv f rfl rfl fun a f => l_mv f rfl rfl fun a f => l_own_len 1 m aw rfl Tryz.underlying42 f rfl rfl fun a f => l_in f rfl rfl rfl b_lss fun a f => l_nil ?_
  rcases cond_some ar with ⟨ax, ar⟩ | ⟨ax, ar⟩
  ·refine k_true f rfl ax ?_
   refine k_skip ?_
   refine k_seq (k_block (k_seq ?_))
   refine k_draw 7 Follows (by kernel_rfl) m ?_
   refine q_boxAgg (i := 0) (ds := [v0_0, v0_1]) 7 0 Ag27 rfl rfl rfl rfl (by kernel_rfl) rfl f rfl rfl rfl fun a f => q_mv 1 7 rfl (by kernel_rfl) f rfl rfl rfl fun a f => q_mv 2 7 rfl (by kernel_rfl) f rfl rfl rfl fun a f => ?_
   obtain ⟨ay, az, ar⟩ := bind_some ar
   refine q_own_at (i := 3) 7 1 m aw rfl T42 az rfl (by kernel_rfl) rfl f rfl rfl rfl rfl fun aA a aB f => q_own_load (i := 4) 7 1 aw rfl Pl2 aB az rfl (by kernel_rfl) rfl f rfl rfl rfl fun aC a aD f => ?_
   subst aD
   refine q_one (i := 5) rfl (by kernel_rfl) rfl fun aE w aF m aG aG => ?_
   have h0_0 := rd2 aF h0_0
   have h0_1 := rd2 aF h0_1
   have aw := od1 aF aw
   obtain ⟨aH, aI, ar⟩ := bind_some ar
   refine l_res f rfl rfl Tryz.call111 (Wk.h0 m h0_0 h0_1 aI) fun aJ aK aL w aM m aN a f => ?_
   obtain ⟨aO, rfl, rfl, aP⟩ := aN
   have h0_0 := rd2 aM h0_0
   have h0_1 := rd2 aM h0_1
   have aw := od1 aM aw
   refine l_nil ?_
   refine aG aK [] _ _ aM m ?_
   refine q_p 6 7 rfl (by kernel_rfl) f rfl rfl rfl (fun _ => r_assign (f.eval rfl)) fun a f => q_end fun aQ w aR m => ?_
   have aP := rd1 aR aP
   have h0_0 := rd2 aR h0_0
   have h0_1 := rd2 aR h0_1
   have aw := od1 aR aw
   refine l_nil (k_seq (k_region ?_))
   refine l_as f rfl rfl fun a f => l_nil ?_
   obtain ⟨aS, aT, ar⟩ := bind_some ar
   refine k_cut (fun a w => ∃ aU : List Int, aU = aS ∧ ∃ (aV : GH) (aW : Value) (aX : Itm), GLe aQ aV ∧ Fr a 48 [(2, (.int .i64 x2)), (3, (.pointer (some ⟨aa, 0, none⟩))), (7, aW), (8, (.int .i64 am))] ∧ Mem W aV w (Itm.box aa 27 [v0_0, v0_1] :: aX :: H) ∧ Ow (RI .i64) 2 aV aX aW aU) ?_ ?_
   ·refine k_block ?_
    refine k_loop (fun aY a w => ∃ aZ : List Int, ∃ a0 : Int, (aZ, a0) = aY ∧ ∃ (a1 : GH) (a2 : Value) (a3 : Itm), GLe aQ a1 ∧ Fr a 48 [(2, (.int .i64 x2)), (3, (.pointer (some ⟨aa, 0, none⟩))), (7, a2), (8, (.int .i64 am)), (9, aO), (10, (.int .i64 a0))] ∧ Mem W a1 w (Itm.box aa 27 [v0_0, v0_1] :: a3 :: H) ∧ Ow (RI .i64) 2 a1 a3 a2 aZ) aT ⟨_, _, rfl, _, ao, ap, (GLe.refl _), f.weak ⟨rfl, rfl, rfl, rfl, rfl, rfl, trivial⟩, m, aw⟩ ?_
    clear aT f m
    rintro aY a4 a5 a6 a w ⟨aZ, a0, rfl, a1, a2, a3, a7, f, m, a8⟩
    have aP := rd1 a7 aP
    have h0_0 := rd2 a7 h0_0
    have h0_1 := rd2 a7 h0_1
    refine k_seq (k_seq (k_region ?_))
    refine l_mv f rfl rfl fun a f => l_mv f rfl rfl fun a f => l_len Tryz.underlying42 f rfl rfl aP fun a f => l_in f rfl rfl rfl b_lss fun a f => l_nil ?_
    rcases cond_some a5 with ⟨a9, a5⟩ | ⟨a9, a5⟩
    ·refine k_true f rfl a9 ?_
     refine k_skip ?_
     refine k_seq (k_block (k_seq (k_region ?_)))
     refine l_mv f rfl rfl fun a f => l_mv f rfl rfl fun a f => l_mv f rfl rfl fun a f => ?_
     obtain ⟨ba, bb, a5⟩ := bind_some a5
     refine l_at T42 f rfl rfl rfl aP bb fun bc bd a be bf f => ?_
     subst bf
     refine l_loadAt m Pl2 f rfl rfl be fun a f => ?_
     obtain ⟨bg, bh, a5⟩ := bind_some a5
     refine l_res f rfl rfl Tryz.call70 (Ow.lendCall (RI.mono _) 1 a8 m rfl (fun bi bj m bk => Wk.h m bk bh) (fun _ _ _ _ h => h)) fun bl bm bn w bo m bp a f => ?_
     obtain ⟨rfl, rfl⟩ := bp
     have aP := rd1 bo aP
     have be := At.mono bo be
     have h0_0 := rd2 bo h0_0
     have h0_1 := rd2 bo h0_1
     have a8 := od1 bo a8
     refine l_op f rfl rfl rfl (r_not (f.eval rfl)) fun a f => l_nil ?_
     rcases cond_some a5 with ⟨bq, a5⟩ | ⟨bq, a5⟩
     ·refine k_true f rfl bq ?_
      refine k_region ?_
      refine l_mv f rfl rfl fun a f => l_mv f rfl rfl fun a f => l_mv f rfl rfl fun a f => ?_
      obtain ⟨br, bs, a5⟩ := bind_some a5
      refine l_at T42 f rfl rfl rfl aP bs fun bt bu a bv bw f => ?_
      subst bw
      refine l_loadAt m Pl2 f rfl rfl bv fun a f => l_slit (R := (RI .i64)) (xs := ([br] : List Int)) (RI.one _) m T42 f rfl rfl rfl (by decide) (All2.cons rfl (All2.nil _)) fun bx bz w a m bA f => ?_
      obtain ⟨bB, bC, a5⟩ := bind_some a5
      refine l_append (RI.one _) 2 m a8 rfl T42 rfl (by decide) f rfl rfl rfl (Ow.src (j := 0) bA m rfl) bC fun bD bE w a m bF f => l_as f rfl rfl fun a f => l_nil (k_region ?_)
      refine l_mv f rfl rfl fun a f => l_in f rfl rfl rfl b_add fun a f => l_as f rfl rfl fun a f => l_nil ?_
      have m := m.front 2 rfl
      have m := m.front 2 rfl
      have m := m.eraseAt 2
      obtain rfl := sj a5
      exact ⟨_, rfl, _, _, rfl, _, bE, bD, (GLe.trans a7 bo), f.weak ⟨rfl, rfl, rfl, rfl, rfl, rfl, trivial⟩, m, bF⟩
     ·refine k_false f rfl bq ?_
      refine k_skip ?_
      refine k_region ?_
      refine l_mv f rfl rfl fun a f => l_in f rfl rfl rfl b_add fun a f => l_as f rfl rfl fun a f => l_nil ?_
      obtain rfl := sj a5
      exact ⟨_, rfl, _, _, rfl, _, a2, a3, (GLe.trans a7 bo), f.weak ⟨rfl, rfl, rfl, rfl, rfl, rfl, trivial⟩, m, a8⟩
    ·refine k_false f rfl a9 ?_
     refine k_exit rfl ?_
     obtain rfl := sj a5
     obtain rfl := a6 _ rfl
     exact ⟨_, rfl, _, a2, a3, a7, f.weak ⟨rfl, rfl, rfl, rfl, trivial⟩, m, a8⟩
   ·rintro a w ⟨aU, rfl, aV, aW, aX, bG, f, m, bH⟩
    have h0_0 := rd2 bG h0_0
    have h0_1 := rd2 bG h0_1
    refine k_region ?_
    refine l_mv f rfl rfl fun a f => l_in f rfl rfl rfl b_add fun a f => l_as f rfl rfl fun a f => l_nil ?_
    obtain rfl := sj ar
    exact ⟨_, rfl, _, _, rfl, _, aW, aX, (GLe.trans av (GLe.trans aF (GLe.trans aM (GLe.trans aR bG)))), f.weak ⟨rfl, rfl, rfl, rfl, trivial⟩, m, bH⟩
  ·refine k_false f rfl ax ?_
   refine k_exit rfl ?_
   have m := m.front 1 rfl
   have m := m.eraseAt 1
   obtain rfl := sj ar
   obtain rfl := au _ rfl
   exact ⟨_, rfl, _, ao, ap, av, f.weak ⟨rfl, rfl, trivial⟩, m, aw⟩
 ·rintro a w ⟨ag, rfl, ah, ai, aj, bI, f, m, bJ⟩
  refine k_seq (k_region ?_)
  refine l_mv f rfl rfl fun a f => l_mv f rfl rfl fun a f => ?_
  obtain ⟨bK, bL, hd⟩ := bind_some hd
  refine l_res f rfl rfl Tryz.call70 (Ow.lendCall (RI.mono _) 0 bJ m rfl (fun bM bN m bO => Wk.h m bO bL) (fun _ _ _ _ h => h)) fun bP bQ bR w bS m bT a f => ?_
  obtain ⟨rfl, rfl⟩ := bT
  have bJ := od1 bS bJ
  refine l_as f rfl rfl fun a f => l_nil ?_
  refine k_ret ?_
  have m : Mem W bQ w H := Mem.drop (H' := [aj]) m
  obtain rfl := sj hd
  exact ⟨[(.bool bK)], ⟨f.get _ _ rfl, trivial⟩, f.defers, _, [], (GLe.trans bI bS), m, rfl, rfl⟩

theorem Wk.C {W w : World} {G : GH} {H : List Itm} {v0_0 : Value} {x0_0 : (List (List Int))} (m : Mem W G w (H)) (h0_0 : RSl (RSl (RI .i64)) G v0_0 x0_0) {y : ((List (List Int))) × ((List (List Int))) × Bool} (hd : D.C x0_0 = some y) :
  Calls Tryz.prog 9 #[(.agg #[v0_0])] w (Res W G H (fun G' Ho v => ∃ r0 : Value, ∃ i0 : Itm, ∃ r2 : Value, ∃ i2 : Itm, Ho = [i0, i2] ∧ v = .tuple #[(.agg #[r0, r2]), (.bool y.2.2)] ∧ Ow (RSl (RI .i64)) 42 G' i0 r0 y.1 ∧ Ow (RSl (RI .i64)) 42 G' i2 r2 y.2.1)) := by
 refine calls_b (args := [(.agg #[v0_0])]) (N := 66) [.cell 2 27, .tmp 3] Tryz.func9 rfl rfl (Nat.le_of_ble_eq_true rfl) rfl fun a f => ?_
 unfold D.C at hd
 refine k_seq (k_region ?_)
 refine l_box (cs := [v0_0]) m f rfl rfl rfl fun aa w a m f => l_alloc (cs := [(.slice none 0 0), (.slice none 0 0)]) Tryz.zeroValue27 m f rfl rfl fun ab w a m f => l_as f rfl rfl fun a f => l_nil (k_seq (k_region ?_))
 refine l_boxAgg 1 0 (ds := [v0_0]) m Ag30 f rfl rfl rfl rfl rfl fun a f => ?_
 obtain ⟨ac, ad, hd⟩ := bind_some hd
 refine l_res f rfl rfl Tryz.call31 (Wk.j0 m h0_0 ad) fun ae af ag w ah m ai a f => ?_
 obtain ⟨aj, ak, rfl, rfl, al⟩ := ai
 have h0_0 := rd2 ah h0_0
 refine l_as f rfl rfl fun a f => l_nil (k_seq (k_seq (k_region ?_)))
 refine l_boxAgg 2 0 (ds := [v0_0]) m Ag30 f rfl rfl rfl rfl rfl fun a f => ?_
 obtain ⟨am, an, hd⟩ := bind_some hd
 refine l_res f rfl rfl Tryz.call28 (Wk.k0 m h0_0 an) fun ao ap aq w ar m au a f => ?_
 obtain ⟨rfl, rfl⟩ := au
 have h0_0 := rd2 ar h0_0
 have al := Ow.mono (RSl.mono (RI.mono _)) ar al
 refine l_op f rfl rfl rfl (r_not (f.eval rfl)) fun a f => l_mv f rfl rfl fun a f => ?_
 refine l_cut 4 (fun a w => ∃ av, GLe ap av ∧ Mem W av w (ak :: Itm.box ab 27 [(.slice none 0 0), (.slice none 0 0)] :: Itm.box aa 30 [v0_0] :: H) ∧ Fr a 66 [(0, (.agg #[v0_0])), (1, (.pointer (some ⟨aa, 0, none⟩))), (2, (.pointer (some ⟨ab, 0, none⟩))), (4, aj), (11, (.agg #[v0_0])), (12, (.bool am)), (13, (.bool (!am))), (14, (.bool (!am))), (18, (.bool ((!am) || (decide ((16 : Int) < (ac.length : Int))))))]) ?_ ?_
 ·rcases Bool.eq_false_or_eq_true (!am) with aw | aw
  ·refine l_not' f rfl rfl rfl aw fun a f => ?_
   refine l_not' f rfl rfl rfl aw fun a f => l_not' f rfl rfl rfl aw fun a f => l_op f rfl rfl rfl (r_pickT (f.eval rfl) aw (f.eval rfl)) fun a f => ?_
   exact ⟨_, (GLe.refl _), m, f.weak ⟨rfl, rfl, rfl, rfl, rfl, rfl, rfl, rfl, by rw [aw]; rfl, trivial⟩⟩
  ·refine l_run f rfl rfl aw ?_
   refine l_mv f rfl rfl fun a f => l_run f rfl rfl aw ?_
   refine l_own_len 0 m al rfl Tryz.underlying22 f rfl rfl fun a f => l_run f rfl rfl aw ?_
   refine l_in f rfl rfl rfl b_gtr fun a f => l_op f rfl rfl rfl (r_pickF (f.eval rfl) aw (f.eval rfl)) fun a f => ?_
   exact ⟨_, (GLe.refl _), m, f.weak ⟨rfl, rfl, rfl, rfl, rfl, rfl, rfl, rfl, by rw [aw]; rfl, trivial⟩⟩
 ·rintro a w ⟨av, ax, m, f⟩
  have h0_0 := rd2 ax h0_0
  have al := Ow.mono (RSl.mono (RI.mono _)) ax al
  refine l_nil ?_
  rcases cond_some hd with ⟨ay, hd⟩ | ⟨ay, hd⟩
  ·refine k_true f rfl ay ?_
   refine k_seq (k_region ?_)
   have az : ∀ w, (Instr.build 27 #[]).run Tryz.prog w = .ok (.agg #[(.slice none 0 0), (.slice none 0 0)]) w := by intro w; simp [Instr.build, Instr.fill, cells_int, cells_bool, cells_string, cells_slice, cells_pointer, cells_agg]
   refine l_build f rfl rfl az fun a f => l_boxStore 1 0 (ds := [(.slice none 0 0), (.slice none 0 0)]) m Tryz.sizeOf27 f rfl rfl rfl (ones_cons rfl (ones_cons rfl ones_nil)) rfl (Nat.le_of_ble_eq_true rfl) rfl fun w m => l_as f rfl rfl fun a f => l_nil ?_
   refine k_ret ?_
   obtain ⟨aA, m, aB⟩ := Ow.nil (RSl (RI .i64)) 42 m
   obtain ⟨aC, m, aD⟩ := Ow.nil (RSl (RI .i64)) 42 m
   have aE := rr_agg (P := Tryz.prog) 3 m Ag27 f (s := 2) rfl rfl rfl
   have m := m.front 1 rfl
   have m := m.eraseAt 4
   have m : Mem W av w (aA :: aC :: ak :: H) := m.eraseAt 3
   have m := m.eraseAt 2
   obtain rfl := sj hd
   exact ⟨[(.agg #[(.slice none 0 0), (.slice none 0 0)]), (.bool false)], ⟨aE, f.get _ _ rfl, trivial⟩, f.defers, _, [aA, aC], (GLe.trans ah (GLe.trans ar ax)), m, _, _, _, _, rfl, rfl, aB, aD⟩
  ·refine k_false f rfl ay ?_
   refine k_skip ?_
   refine k_seq (k_region ?_)
   refine l_mv f rfl rfl fun a f => ?_
   have aF : ∀ w, (Instr.build 27 #[(0, aj)]).run Tryz.prog w = .ok (.agg #[aj, (.slice none 0 0)]) w := by intro w; simp [Instr.build, Instr.fill, (Ow.cells 0 m al rfl), cells_int, cells_bool, cells_string, cells_slice, cells_pointer, cells_agg]
   refine l_build f rfl rfl aF fun a f => l_alloc (cs := [(.slice none 0 0), (.slice none 0 0)]) Tryz.zeroValue27 m f rfl rfl fun aG w a m f => l_boxStore 0 0 (ds := [aj, (.slice none 0 0)]) m Tryz.sizeOf27 f rfl rfl rfl (ones_cons (Ow.one1 1 m al rfl) (ones_cons rfl ones_nil)) rfl (Nat.le_of_ble_eq_true rfl) rfl fun w m => l_nil (k_seq (k_seq (k_region ?_)))
   refine l_as f rfl rfl fun a f => l_nil ?_
   obtain ⟨aH, m, aI⟩ := Ow.nil (RSl (RI .i64)) 42 m
   obtain ⟨aJ, aK, hd⟩ := bind_some hd
   refine k_cut (fun a w => ∃ aL : List (List Int), aL = aJ ∧ ∃ (aM : GH) (aN : Value) (aO : Itm), GLe av aM ∧ Fr a 66 [(2, (.pointer (some ⟨ab, 0, none⟩))), (5, (.pointer (some ⟨aG, 0, none⟩)))] ∧ Mem W aM w (Itm.box ab 27 [(.slice none 0 0), (.slice none 0 0)] :: Itm.box aG 27 [aj, aN] :: ak :: aO :: H) ∧ Ow (RSl (RI .i64)) 42 aM aO aN aL) ?_ ?_
   ·refine k_block ?_
    have m := m.front 2 rfl
    have m := m.front 2 rfl
    have m : Mem W av w (Itm.box ab 27 [(.slice none 0 0), (.slice none 0 0)] :: Itm.box aG 27 [aj, (.slice none 0 0)] :: ak :: aH :: Itm.box aa 30 [v0_0] :: H) := m.front 3 rfl
    have m : Mem W av w (Itm.box ab 27 [(.slice none 0 0), (.slice none 0 0)] :: Itm.box aG 27 [aj, (.slice none 0 0)] :: ak :: aH :: H) := m.eraseAt 4
    refine k_loop (fun aP a w => ∃ aQ : Int, ∃ aR : List (List Int), (aQ, aR) = aP ∧ ∃ (aS : GH) (aT : Value) (aU : Itm), GLe av aS ∧ Fr a 66 [(2, (.pointer (some ⟨ab, 0, none⟩))), (4, aj), (5, (.pointer (some ⟨aG, 0, none⟩))), (6, (.int .i64 aQ))] ∧ Mem W aS w (Itm.box ab 27 [(.slice none 0 0), (.slice none 0 0)] :: Itm.box aG 27 [aj, aT] :: ak :: aU :: H) ∧ Ow (RSl (RI .i64)) 42 aS aU aT aR) aK ⟨_, _, rfl, _, (.slice none 0 0), aH, (GLe.refl _), f.weak ⟨rfl, rfl, rfl, rfl, trivial⟩, m, aI⟩ ?_
    clear aK f m
    rintro aP aV aW aX a w ⟨aQ, aR, rfl, aS, aT, aU, aY, f, m, aZ⟩
    have al := Ow.mono (RSl.mono (RI.mono _)) aY al
    refine k_seq (k_seq (k_region ?_))
    refine l_mv f rfl rfl fun a f => l_in f rfl rfl rfl b_geq fun a f => l_nil ?_
    rcases cond_some aW with ⟨a0, aW⟩ | ⟨a0, aW⟩
    ·refine k_true f rfl a0 ?_
     refine k_skip ?_
     refine k_seq (k_block (k_seq (k_region ?_)))
     refine l_as f rfl rfl fun a f => l_nil ?_
     obtain ⟨a1, a2, aW⟩ := bind_some aW
     refine k_cut (fun a w => ∃ a3 : List (List Int), a3 = a1 ∧ ∃ (a4 : GH) (a5 : Value) (a6 : Itm), GLe aS a4 ∧ Fr a 66 [(2, (.pointer (some ⟨ab, 0, none⟩))), (4, aj), (5, (.pointer (some ⟨aG, 0, none⟩))), (6, (.int .i64 aQ))] ∧ Mem W a4 w (Itm.box ab 27 [(.slice none 0 0), (.slice none 0 0)] :: Itm.box aG 27 [aj, a5] :: ak :: a6 :: H) ∧ Ow (RSl (RI .i64)) 42 a4 a6 a5 a3) ?_ ?_
     ·refine k_block ?_
      refine k_loop (fun a7 a w => ∃ a8 : Int, ∃ a9 : List (List Int), (a8, a9) = a7 ∧ ∃ (ba : GH) (bb : Value) (bc : Itm), GLe aS ba ∧ Fr a 66 [(2, (.pointer (some ⟨ab, 0, none⟩))), (4, aj), (5, (.pointer (some ⟨aG, 0, none⟩))), (6, (.int .i64 aQ)), (7, (.int .i64 a8))] ∧ Mem W ba w (Itm.box ab 27 [(.slice none 0 0), (.slice none 0 0)] :: Itm.box aG 27 [aj, bb] :: ak :: bc :: H) ∧ Ow (RSl (RI .i64)) 42 ba bc bb a9) a2 ⟨_, _, rfl, _, aT, aU, (GLe.refl _), f.weak ⟨rfl, rfl, rfl, rfl, rfl, trivial⟩, m, aZ⟩ ?_
      clear a2 f m
      rintro a7 bd be bf a w ⟨a8, a9, rfl, ba, bb, bc, bg, f, m, bh⟩
      have al := Ow.mono (RSl.mono (RI.mono _)) bg al
      refine k_seq (k_seq (k_region ?_))
      refine l_mv f rfl rfl fun a f => l_mv f rfl rfl fun a f => l_own_len 2 m al rfl Tryz.underlying22 f rfl rfl fun a f => l_in f rfl rfl rfl b_lss fun a f => l_nil ?_
      rcases cond_some be with ⟨bi, be⟩ | ⟨bi, be⟩
      ·refine k_true f rfl bi ?_
       refine k_skip ?_
       refine k_seq (k_block (k_seq (k_region ?_)))
       refine l_mv f rfl rfl fun a f => l_in f rfl rfl rfl b_add fun a f => l_as f rfl rfl fun a f => l_nil ?_
       obtain ⟨bj, bk, be⟩ := bind_some be
       refine k_cut (fun a w => ∃ bl : List (List Int), bl = bj ∧ ∃ (bm : GH) (bn : Value) (bo : Itm), GLe ba bm ∧ Fr a 66 [(2, (.pointer (some ⟨ab, 0, none⟩))), (4, aj), (5, (.pointer (some ⟨aG, 0, none⟩))), (6, (.int .i64 aQ)), (7, (.int .i64 a8))] ∧ Mem W bm w (Itm.box ab 27 [(.slice none 0 0), (.slice none 0 0)] :: Itm.box aG 27 [aj, bn] :: ak :: bo :: H) ∧ Ow (RSl (RI .i64)) 42 bm bo bn bl) ?_ ?_
       ·refine k_block ?_
        refine k_loop (fun bp a w => ∃ bq : Int, ∃ br : List (List Int), (bq, br) = bp ∧ ∃ (bs : GH) (bt : Value) (bu : Itm), GLe ba bs ∧ Fr a 66 [(2, (.pointer (some ⟨ab, 0, none⟩))), (4, aj), (5, (.pointer (some ⟨aG, 0, none⟩))), (6, (.int .i64 aQ)), (7, (.int .i64 a8)), (8, (.int .i64 bq))] ∧ Mem W bs w (Itm.box ab 27 [(.slice none 0 0), (.slice none 0 0)] :: Itm.box aG 27 [aj, bt] :: ak :: bu :: H) ∧ Ow (RSl (RI .i64)) 42 bs bu bt br) bk ⟨_, _, rfl, _, bb, bc, (GLe.refl _), f.weak ⟨rfl, rfl, rfl, rfl, rfl, rfl, trivial⟩, m, bh⟩ ?_
        clear bk f m
        rintro bp bv bw bx a w ⟨bq, br, rfl, bs, bt, bu, bz, f, m, bA⟩
        have al := Ow.mono (RSl.mono (RI.mono _)) bz al
        refine k_seq (k_seq (k_region ?_))
        refine l_mv f rfl rfl fun a f => l_mv f rfl rfl fun a f => l_own_len 2 m al rfl Tryz.underlying22 f rfl rfl fun a f => l_in f rfl rfl rfl b_lss fun a f => l_nil ?_
        rcases cond_some bw with ⟨bB, bw⟩ | ⟨bB, bw⟩
        ·refine k_true f rfl bB ?_
         refine k_skip ?_
         refine k_seq (k_block (k_seq ?_))
         refine k_draw 19 Follows (by kernel_rfl) m ?_
         refine q_mv 0 19 rfl (by kernel_rfl) f rfl rfl rfl fun a f => q_mv 1 19 rfl (by kernel_rfl) f rfl rfl rfl fun a f => ?_
         obtain ⟨bC, bD, bw⟩ := bind_some bw
         refine q_own_at (i := 2) 19 2 m al rfl T22 bD rfl (by kernel_rfl) rfl f rfl rfl rfl rfl fun bE a bF f => q_own_load (i := 3) 19 2 al rfl Pl42 bF bD rfl (by kernel_rfl) rfl f rfl rfl rfl fun bG a bH f => q_mv 4 19 rfl (by kernel_rfl) f rfl rfl rfl fun a f => q_mv 5 19 rfl (by kernel_rfl) f rfl rfl rfl fun a f => ?_
         obtain ⟨bI, bJ, bw⟩ := bind_some bw
         refine q_own_at (i := 6) 19 2 m al rfl T22 bJ rfl (by kernel_rfl) rfl f rfl rfl rfl rfl fun bK a bL f => q_own_load (i := 7) 19 2 al rfl Pl42 bL bJ rfl (by kernel_rfl) rfl f rfl rfl rfl fun bM a bN f => q_mv 10 19 rfl (by kernel_rfl) f rfl rfl rfl fun a f => q_one (i := 8) rfl (by kernel_rfl) rfl fun bO w bP m bQ bQ => ?_
         have bH := rd1 bP bH
         have bN := rd1 bP bN
         have al := Ow.mono (RSl.mono (RI.mono _)) bP al
         have bA := Ow.mono (RSl.mono (RI.mono _)) bP bA
         obtain ⟨bR, bS, bw⟩ := bind_some bw
         refine l_res f rfl rfl Tryz.call44 (Wk.s m bH bN bS) fun bT bU bV w bW m bX a f => ?_
         obtain ⟨bY, bZ, rfl, rfl, b0⟩ := bX
         have bH := rd1 bW bH
         have bN := rd1 bW bN
         have al := Ow.mono (RSl.mono (RI.mono _)) bW al
         have bA := Ow.mono (RSl.mono (RI.mono _)) bW bA
         refine l_nil ?_
         refine bQ bU [bZ] _ _ bW m ?_
         refine q_own_len (i := 9) 19 0 m b0 rfl Tryz.underlying42 rfl (by kernel_rfl) rfl f rfl rfl rfl fun a f => q_p 11 19 rfl (by kernel_rfl) f rfl rfl rfl (fun _ => r_int (f.eval rfl) (f.eval rfl) b_eql) fun a f => q_mv 12 19 rfl (by kernel_rfl) f rfl rfl rfl fun a f => ?_
         obtain ⟨b1, b2, bw⟩ := bind_some bw
         refine q_cut (fuel' := 0) (listed' := #[true, true, true, true, true, true, true, true, true, true, true, true, true, true, true, true, true, true, true]) (fun a => Fr a 66 [(2, (.pointer (some ⟨ab, 0, none⟩))), (4, aj), (5, (.pointer (some ⟨aG, 0, none⟩))), (6, (.int .i64 aQ)), (7, (.int .i64 a8)), (8, (.int .i64 bq)), (37, (.bool (decide (bq < (ac.length : Int))))), (40, aj), (41, (.int .i64 a8)), (42, bE), (43, bG), (44, aj), (45, (.int .i64 bq)), (46, bK), (47, bM), (48, bY), (49, (.int .i64 (bR.length : Int))), (50, (.int .i64 aQ)), (51, (.bool ((bR.length : Int) == aQ))), (52, (.bool ((bR.length : Int) == aQ))), (58, (.bool b1))]) ?_ ?_
         ·intro a f
          refine q_end fun b3 w b4 m => ?_
          have bH := rd1 b4 bH
          have bN := rd1 b4 bN
          have b0 := od1 b4 b0
          have al := Ow.mono (RSl.mono (RI.mono _)) b4 al
          have bA := Ow.mono (RSl.mono (RI.mono _)) b4 bA
          refine l_nil ?_
          rcases cond_some bw with ⟨b5, bw⟩ | ⟨b5, bw⟩
          ·refine k_true f rfl b5 ?_
           refine k_region ?_
           refine l_fieldAddr Tryz.underlying27 rfl Tryz.sizeOf22 (by decide) f rfl rfl fun a f => l_boxCell 2 1 m Pl22 f rfl rfl rfl rfl fun a f => l_mv f rfl rfl fun a f => l_mv f rfl rfl fun a f => ?_
           have m : Mem W b3 w (bu :: bZ :: Itm.box ab 27 [(.slice none 0 0), (.slice none 0 0)] :: Itm.box aG 27 [aj, bt] :: ak :: H) := m.front 4 rfl
           obtain ⟨b6, b7, m, b8⟩ := Ow.stamp (RSl.mono (RI.mono _)) bA m
           have b0 := od1 b7 b0
           have al := Ow.mono (RSl.mono (RI.mono _)) b7 al
           obtain ⟨b9, ca, bw⟩ := bind_some bw
           refine l_res f rfl rfl Tryz.call46 (Wk.J m b8 ca) fun cb cc cd w ce m cf a f => ?_
           obtain ⟨cg, ch, rfl, rfl, ci⟩ := cf
           have b8 := rd2 ce b8
           have b0 := od1 ce b0
           have al := Ow.mono (RSl.mono (RI.mono _)) ce al
           refine l_fieldAddr Tryz.underlying27 rfl Tryz.sizeOf22 (by decide) f rfl rfl fun a f => l_boxStore 3 1 (ds := [cg]) m Tryz.sizeOf22 f rfl rfl (Ow.cells 0 m ci rfl) (ones_cons (Ow.one1 0 m ci rfl) ones_nil) rfl (Nat.le_of_ble_eq_true rfl) rfl fun w m => l_nil (k_region ?_)
           refine l_mv f rfl rfl fun a f => l_in f rfl rfl rfl b_add fun a f => l_as f rfl rfl fun a f => l_nil ?_
           have m := m.front 4 rfl
           have m := m.front 4 rfl
           have m : Mem W cc w (Itm.box ab 27 [(.slice none 0 0), (.slice none 0 0)] :: Itm.box aG 27 [aj, cg] :: ak :: ch :: bZ :: H) := m.front 4 rfl
           have m : Mem W cc w (Itm.box ab 27 [(.slice none 0 0), (.slice none 0 0)] :: Itm.box aG 27 [aj, cg] :: ak :: ch :: H) := m.eraseAt 4
           obtain rfl := sj bw
           exact ⟨_, rfl, _, _, rfl, _, cg, ch, (GLe.trans bz (GLe.trans bP (GLe.trans bW (GLe.trans b4 (GLe.trans b7 ce))))), f.weak ⟨rfl, rfl, rfl, rfl, rfl, rfl, trivial⟩, m, ci⟩
          ·refine k_false f rfl b5 ?_
           refine k_skip ?_
           refine k_region ?_
           refine l_mv f rfl rfl fun a f => l_in f rfl rfl rfl b_add fun a f => l_as f rfl rfl fun a f => l_nil ?_
           have m := m.front 4 rfl
           have m := m.front 4 rfl
           have m : Mem W b3 w (Itm.box aG 27 [aj, bt] :: ak :: bu :: bZ :: Itm.box ab 27 [(.slice none 0 0), (.slice none 0 0)] :: H) := m.front 4 rfl
           have m := m.front 4 rfl
           have m : Mem W b3 w (Itm.box ab 27 [(.slice none 0 0), (.slice none 0 0)] :: Itm.box aG 27 [aj, bt] :: ak :: bu :: H) := m.eraseAt 4
           obtain rfl := sj bw
           exact ⟨_, rfl, _, _, rfl, _, bt, bu, (GLe.trans bz (GLe.trans bP (GLe.trans bW b4))), f.weak ⟨rfl, rfl, rfl, rfl, rfl, rfl, trivial⟩, m, bA⟩
         ·intro cj
          rcases cond_some b2 with ⟨ck, b2⟩ | ⟨ck, b2⟩
          ·refine q_boxAgg (i := 13) (ds := [aj, bt]) 19 1 Ag27 rfl rfl rfl rfl (by kernel_rfl) rfl f (wanted_of f rfl rfl rfl ck) rfl rfl fun a f => ?_
           refine q_mv 14 19 rfl (by kernel_rfl) f (wanted_of f rfl rfl rfl ck) rfl rfl fun a f => q_mv 15 19 rfl (by kernel_rfl) f (wanted_of f rfl rfl rfl ck) rfl rfl fun a f => ?_
           obtain ⟨cl, cm, b2⟩ := bind_some b2
           refine q_call (i := 16) 19 rfl (by kernel_rfl) rfl f (wanted_of f rfl rfl rfl ck) rfl rfl Tryz.call45 (fun _ _ w cn m => (Ow.lendCallR (RSl.mono (RI.mono _)) 2 (Ow.mono (RSl.mono (RI.mono _)) cn al) m rfl (fun co cp m cq => (Ow.lendCallR (RSl.mono (RI.mono _)) 2 (Ow.mono (RSl.mono (RI.mono _)) cp (Ow.mono (RSl.mono (RI.mono _)) cn bA)) m rfl (fun cr ct m cu => Wk.K m (rd2 ct cq) cu cm) (fun _ _ _ _ h => h))) (fun _ _ _ _ h => h))) fun a f => q_p 17 19 rfl (by kernel_rfl) f (wanted_of f rfl rfl rfl ck) rfl rfl (fun _ => r_not (f.eval rfl)) fun a f => q_p 18 19 rfl (by kernel_rfl) f rfl rfl rfl (fun _ => r_pickT (f.eval rfl) ck (f.eval rfl)) fun a f => ?_
           obtain rfl := sj b2
           exact cj _ (f.weak ⟨rfl, rfl, rfl, rfl, rfl, rfl, rfl, rfl, rfl, rfl, rfl, rfl, rfl, rfl, rfl, rfl, rfl, rfl, rfl, rfl, rfl, trivial⟩)
          ·refine q_ng 13 19 rfl (by kernel_rfl) f rfl rfl ck rfl fun a f => ?_
           refine q_ng 14 19 rfl (by kernel_rfl) f rfl rfl ck rfl fun a f => q_ng 15 19 rfl (by kernel_rfl) f rfl rfl ck rfl fun a f => q_ng 16 19 rfl (by kernel_rfl) f rfl rfl ck rfl fun a f => q_ng 17 19 rfl (by kernel_rfl) f rfl rfl ck rfl fun a f => q_p 18 19 rfl (by kernel_rfl) f rfl rfl rfl (fun _ => r_pickF (f.eval rfl) ck (f.eval rfl)) fun a f => ?_
           obtain rfl := sj b2
           exact cj _ (f.weak ⟨rfl, rfl, rfl, rfl, rfl, rfl, rfl, rfl, rfl, rfl, rfl, rfl, rfl, rfl, rfl, rfl, rfl, rfl, rfl, rfl, rfl, trivial⟩)
        ·refine k_false f rfl bB ?_
         refine k_exit rfl ?_
         obtain rfl := sj bw
         obtain rfl := bx _ rfl
         exact ⟨_, rfl, _, bt, bu, bz, f.weak ⟨rfl, rfl, rfl, rfl, rfl, trivial⟩, m, bA⟩
       ·rintro a w ⟨bl, rfl, bm, bn, bo, cv, f, m, cw⟩
        have al := Ow.mono (RSl.mono (RI.mono _)) cv al
        refine k_region ?_
        refine l_mv f rfl rfl fun a f => l_in f rfl rfl rfl b_add fun a f => l_as f rfl rfl fun a f => l_nil ?_
        obtain rfl := sj be
        exact ⟨_, rfl, _, _, rfl, _, bn, bo, (GLe.trans bg cv), f.weak ⟨rfl, rfl, rfl, rfl, rfl, trivial⟩, m, cw⟩
      ·refine k_false f rfl bi ?_
       refine k_exit rfl ?_
       obtain rfl := sj be
       obtain rfl := bf _ rfl
       exact ⟨_, rfl, _, bb, bc, bg, f.weak ⟨rfl, rfl, rfl, rfl, trivial⟩, m, bh⟩
     ·rintro a w ⟨a3, rfl, a4, a5, a6, cx, f, m, cy⟩
      have al := Ow.mono (RSl.mono (RI.mono _)) cx al
      refine k_region ?_
      refine l_mv f rfl rfl fun a f => l_in f rfl rfl rfl b_sub fun a f => l_as f rfl rfl fun a f => l_nil ?_
      obtain rfl := sj aW
      exact ⟨_, rfl, _, _, rfl, _, a5, a6, (GLe.trans aY cx), f.weak ⟨rfl, rfl, rfl, rfl, trivial⟩, m, cy⟩
    ·refine k_false f rfl a0 ?_
     refine k_exit rfl ?_
     obtain rfl := sj aW
     obtain rfl := aX _ rfl
     exact ⟨_, rfl, _, aT, aU, aY, f.weak ⟨rfl, rfl, trivial⟩, m, aZ⟩
   ·rintro a w ⟨aL, rfl, aM, aN, aO, cz, f, m, cA⟩
    have al := Ow.mono (RSl.mono (RI.mono _)) cz al
    refine k_seq (k_region ?_)
    refine l_boxAgg 1 0 (ds := [aj, aN]) m Ag27 f rfl rfl rfl rfl rfl fun a f => l_boxStore 0 0 (ds := [aj, aN]) m Tryz.sizeOf27 f rfl rfl rfl (ones_cons (Ow.one1 2 m al rfl) (ones_cons (Ow.one1 3 m cA rfl) ones_nil)) rfl (Nat.le_of_ble_eq_true rfl) rfl fun w m => l_as f rfl rfl fun a f => l_nil ?_
    refine k_ret ?_
    have cB := rr_agg (P := Tryz.prog) 0 m Ag27 f (s := 2) rfl rfl rfl
    have m := m.front 3 rfl
    have m := m.front 3 rfl
    have m : Mem W aM w (ak :: aO :: Itm.box ab 27 [aj, aN] :: H) := m.eraseAt 3
    have m := m.eraseAt 2
    obtain rfl := sj hd
    exact ⟨[(.agg #[aj, aN]), (.bool true)], ⟨cB, f.get _ _ rfl, trivial⟩, f.defers, _, [ak, aO], (GLe.trans ah (GLe.trans ar (GLe.trans ax cz))), m, _, _, _, _, rfl, rfl, al, cA⟩

theorem Wk.y {W w : World} {G : GH} {H : List Itm} {x0 : Int} (m : Mem W G w (H))  {y : Int} (hd : D.y x0 = some y) :
  Calls Tryz.prog 51 #[(.int .u32 x0)] w (Res W G H (fun _ Ho v => Ho = [] ∧ v = (.int .i64 y))) := by
 refine calls_b (args := [(.int .u32 x0)]) (N := 5) [.tmp 2] Tryz.func51 rfl rfl (Nat.le_of_ble_eq_true rfl) rfl fun a f => ?_
 unfold D.y at hd
 refine k_seq (k_region ?_)
 refine l_as f rfl rfl fun a f => l_nil (k_seq (k_region ?_))
 refine l_mv f rfl rfl fun a f => ?_
 obtain ⟨aa, ab, hd⟩ := bind_some hd
 refine l_res f rfl rfl Tryz.call119 (Wk.s0 m  ab) fun ac ad ae w af m ag a f => ?_
 obtain ⟨rfl, rfl⟩ := ag
 refine l_as f rfl rfl fun a f => l_nil ?_
 refine k_ret ?_
 obtain rfl := sj hd
 exact ⟨[(.int .i64 aa)], ⟨f.get _ _ rfl, trivial⟩, f.defers, _, [], af, m, rfl, rfl⟩

theorem Wk.e0 {W w : World} {G : GH} {H : List Itm} {v0 : Value} {x0 : (List Int)} {x1 : Int} (hW : TabW W) (m : Mem W G w (H)) (h0 : RSl (RI .u32) G v0 x0) {y : Int} (hd : D.e0 x0 x1 = some y) :
  Calls Tryz.prog 151 #[v0, (.int .u32 x1)] w (Res W G H (fun _ Ho v => Ho = [] ∧ v = (.int .i64 y))) := by
 refine calls_b (args := [v0, (.int .u32 x1)]) (N := 30) [.tmp 4] Tryz.func151 rfl rfl (Nat.le_of_ble_eq_true rfl) rfl fun a f => ?_
 unfold D.e0 at hd
 refine k_seq (k_region ?_)
 refine l_as f rfl rfl fun a f => l_nil (k_seq (k_region ?_))
 refine l_as f rfl rfl fun a f => l_nil (k_seq (k_seq (k_region ?_)))
 refine l_mv f rfl rfl fun a f => ?_
 obtain ⟨aa, ab, hd⟩ := bind_some hd
 refine l_res f rfl rfl Tryz.call103 (Wk.f hW m  ab) fun ac ad ae w af m ag a f => ?_
 obtain ⟨ah, ai, rfl, rfl, aj⟩ := ag
 have h0 := rd1 af h0
 refine l_own_len 0 m aj rfl Tryz.underlying94 f rfl rfl fun a f => l_mv f rfl rfl fun a f => l_nil ?_
 obtain ⟨ak, al, hd⟩ := bind_some hd
 refine k_cut (fun a w => ∃ am : Int, am = ak ∧ ∃ (an : GH), GLe ad an ∧ Fr a 30 [(5, (.int .i64 am))] ∧ Mem W an w (H)) ?_ ?_
 ·refine k_block ?_
  refine k_loop (fun ao a w => ∃ ap : Int, ∃ aq : Int, (ap, aq) = ao ∧ ∃ (ar : GH), GLe ad ar ∧ Fr a 30 [(0, v0), (1, (.int .u32 x1)), (5, (.int .i64 ap)), (9, ah), (10, (.int .i64 (aa.length : Int))), (11, (.int .i64 aq))] ∧ Mem W ar w (ai :: H)) al ⟨_, _, rfl, _, (GLe.refl _), f.weak ⟨rfl, rfl, rfl, rfl, rfl, rfl, trivial⟩, m⟩ ?_
  clear al f m
  rintro ao au av aw a w ⟨ap, aq, rfl, ar, ax, f, m⟩
  have h0 := rd1 ax h0
  have aj := od1 ax aj
  refine k_seq (k_region ?_)
  refine l_in f rfl rfl rfl b_lss fun a f => l_nil (k_seq ?_)
  rcases cond_some av with ⟨ay, av⟩ | ⟨ay, av⟩
  ·refine k_true f rfl ay ?_
   refine k_skip ?_
   refine k_seq (k_block (k_seq (k_region ?_)))
   obtain ⟨az, aA, av⟩ := bind_some av
   refine l_own_at 0 m aj rfl T94 f rfl rfl rfl aA fun aB a aC f => l_own_load 0 m aj rfl Pl3 f rfl rfl aC aA fun aD a aE f => ?_
   subst aE
   refine l_as f rfl rfl fun a f => l_nil ?_
   refine k_draw 13 Follows (by kernel_rfl) m ?_
   refine q_mv 0 13 rfl (by kernel_rfl) f rfl rfl rfl fun a f => q_mv 1 13 rfl (by kernel_rfl) f rfl rfl rfl fun a f => q_mv 2 13 rfl (by kernel_rfl) f rfl rfl rfl fun a f => q_mv 3 13 rfl (by kernel_rfl) f rfl rfl rfl fun a f => ?_
   obtain ⟨aF, aG, av⟩ := bind_some av
   refine q_at (i := 4) 13 T73 h0 aG rfl (by kernel_rfl) rfl f rfl rfl rfl rfl fun aH aI a aJ aK f => ?_
   subst aK
   refine q_loadAt (i := 5) 13 Pl76 aJ rfl (by kernel_rfl) rfl f rfl rfl rfl fun a f => q_p 6 13 rfl (by kernel_rfl) f rfl rfl rfl (fun _ => r_int (f.eval rfl) (f.eval rfl) b_andNot) fun a f => q_mv 7 13 rfl (by kernel_rfl) f rfl rfl rfl fun a f => ?_
   obtain ⟨aL, aM, av⟩ := bind_some av
   refine q_call (i := 8) 13 rfl (by kernel_rfl) rfl f rfl rfl rfl Tryz.call100 (fun _ _ w aN m => Wk.c m  aM) fun a f => q_p 9 13 rfl (by kernel_rfl) f rfl rfl rfl (fun _ => r_int (f.eval rfl) (f.eval rfl) b_andNot) fun a f => ?_
   obtain ⟨aO, aP, av⟩ := bind_some av
   refine q_call (i := 10) 13 rfl (by kernel_rfl) rfl f rfl rfl rfl Tryz.call51 (fun _ _ w aQ m => Wk.y m  aP) fun a f => q_p 11 13 rfl (by kernel_rfl) f rfl rfl rfl (fun _ => r_int (f.eval rfl) (f.eval rfl) b_add) fun a f => q_p 12 13 rfl (by kernel_rfl) f rfl rfl rfl (fun _ => r_assign (f.eval rfl)) fun a f => q_end fun aR w aS m => ?_
   have h0 := rd1 aS h0
   have aJ := At.mono aS aJ
   have aj := od1 aS aj
   refine l_nil (k_region ?_)
   refine l_in f rfl rfl rfl b_add fun a f => l_mv f rfl rfl fun a f => l_nil ?_
   obtain rfl := sj av
   exact ⟨_, rfl, _, _, rfl, _, (GLe.trans ax aS), f.weak ⟨rfl, rfl, rfl, rfl, rfl, rfl, trivial⟩, m⟩
  ·refine k_false f rfl ay ?_
   refine k_exit rfl ?_
   have m : Mem W ar w H := Mem.drop (H' := [ai]) m
   obtain rfl := sj av
   obtain rfl := aw _ rfl
   exact ⟨_, rfl, _, ax, f.weak ⟨rfl, trivial⟩, m⟩
 ·rintro a w ⟨am, rfl, an, aT, f, m⟩
  refine k_seq (k_region ?_)
  refine l_mv f rfl rfl fun a f => l_in f rfl rfl rfl (b_quo rfl) fun a f => l_as f rfl rfl fun a f => l_nil ?_
  refine k_ret ?_
  obtain rfl := sj hd
  exact ⟨[(.int .i64 (IntKind.i64.wrap (Int.tdiv am 2)))], ⟨f.get _ _ rfl, trivial⟩, f.defers, _, [], (GLe.trans af aT), m, rfl, rfl⟩

theorem Wk.X0 {W w : World} {G : GH} {H : List Itm} {v0 : Value} {x0 : (List Int)} (hW : TabW W) (m : Mem W G w (H)) (h0 : RSl (RI .u32) G v0 x0) {y : ((List Int))} (hd : D.X0 x0 = some y) :
  Calls Tryz.prog 114 #[v0] w (Res W G H (fun G' Ho v => ∃ r0 : Value, ∃ i0 : Itm, Ho = [i0] ∧ r0 = v ∧ Ow (RI .i64) 3 G' i0 r0 y ∧ isNil r0 = y.isEmpty)) := by
 refine calls_b (args := [v0]) (N := 42) [.tmp 2] Tryz.func114 rfl rfl (Nat.le_of_ble_eq_true rfl) rfl fun a f => ?_
 unfold D.X0 at hd
 refine k_seq (k_region ?_)
 refine l_as f rfl rfl fun a f => l_nil (k_seq (k_region ?_))
 refine l_slit (R := (RI .i64)) (xs := ([] : List Int)) (RI.one _) m T94 f rfl rfl rfl (by decide) (All2.nil _) fun aa ab w a m ac f => l_as f rfl rfl fun a f => l_nil (k_seq (k_seq (k_region ?_)))
 refine l_mv f rfl rfl fun a f => ?_
 obtain ⟨ad, ae, hd⟩ := bind_some hd
 refine l_res f rfl rfl Tryz.call53 (Wk.n m h0 ae) fun af ag ah w ai m aj a f => ?_
 obtain ⟨rfl, rfl⟩ := aj
 have h0 := rd1 ai h0
 have ac := od1 ai ac
 refine l_as f rfl rfl fun a f => l_nil ?_
 obtain ⟨ak, al, hd⟩ := bind_some hd
 refine k_cut (fun a w => ∃ q_275' : (List Int), ak = .inl q_275' ∧ ∃ am : List Int, am = q_275' ∧ ∃ (an : GH) (ao : Value) (ap : Itm), GLe ag an ∧ Fr a 42 [(3, ao)] ∧ Mem W an w (ap :: H) ∧ Ow (RI .i64) 3 an ap ao am) ?_ ?_
 ·refine k_block ?_
  refine k_loop (fun aq a w => ∃ ar : List Int, ∃ au : Int, (ar, au) = aq ∧ ∃ (av : GH) (aw : Value) (ax : Itm), GLe ag av ∧ Fr a 42 [(0, v0), (3, aw), (4, (.int .u32 au))] ∧ Mem W av w (ax :: H) ∧ Ow (RI .i64) 3 av ax aw ar) al ⟨_, _, rfl, _, ab, aa, (GLe.refl _), f.weak ⟨rfl, rfl, rfl, trivial⟩, m, ac⟩ ?_
  clear al f m
  rintro aq ay az aA a w ⟨ar, au, rfl, av, aw, ax, aB, f, m, aC⟩
  have h0 := rd1 aB h0
  refine k_seq (k_seq (k_region ?_))
  refine l_mv f rfl rfl fun a f => l_in f rfl rfl rfl b_neq fun a f => l_nil ?_
  rcases cond_some az with ⟨aD, az⟩ | ⟨aD, az⟩
  ·refine k_true f rfl aD ?_
   refine k_skip ?_
   refine k_block (k_seq (k_region ?_))
   refine l_as f rfl rfl fun a f => l_nil (k_seq (k_seq (k_region ?_)))
   refine l_mv f rfl rfl fun a f => ?_
   obtain ⟨aE, aF, az⟩ := bind_some az
   refine l_res f rfl rfl Tryz.call103 (Wk.f hW m  aF) fun aG aH aI w aJ m aK a f => ?_
   obtain ⟨aL, aM, rfl, rfl, aN⟩ := aK
   have h0 := rd1 aJ h0
   have aC := od1 aJ aC
   refine l_own_len 0 m aN rfl Tryz.underlying94 f rfl rfl fun a f => l_mv f rfl rfl fun a f => l_nil ?_
   obtain ⟨aO, aP, az⟩ := bind_some az
   refine k_cut (fun a w => ∃ aQ : Int, aQ = aO ∧ ∃ (aR : GH), GLe aH aR ∧ Fr a 42 [(0, v0), (3, aw), (4, (.int .u32 au)), (5, (.int .i64 aQ))] ∧ Mem W aR w (ax :: H)) ?_ ?_
   ·refine k_block ?_
    have m := m.front 1 rfl
    refine k_loop (fun aS a w => ∃ aT : Int, aT = aS ∧ ∃ (aU : GH), GLe aH aU ∧ Fr a 42 [(0, v0), (3, aw), (4, (.int .u32 au)), (5, (.int .i64 (-1))), (14, aL), (15, (.int .i64 (aE.length : Int))), (16, (.int .i64 aT))] ∧ Mem W aU w (ax :: aM :: H)) aP ⟨_, rfl, _, (GLe.refl _), f.weak ⟨rfl, rfl, rfl, rfl, rfl, rfl, rfl, trivial⟩, m⟩ ?_
    clear aP f m
    rintro aS aV aW aX a w ⟨aT, rfl, aU, aY, f, m⟩
    have h0 := rd1 aY h0
    have aC := od1 aY aC
    have aN := od1 aY aN
    refine k_seq (k_region ?_)
    refine l_in f rfl rfl rfl b_lss fun a f => l_nil (k_seq ?_)
    rcases cond_some aW with ⟨aZ, aW⟩ | ⟨aZ, aW⟩
    ·refine k_true f rfl aZ ?_
     refine k_skip ?_
     refine k_seq (k_block (k_seq (k_region ?_)))
     obtain ⟨a0, a1, aW⟩ := bind_some aW
     refine l_own_at 1 m aN rfl T94 f rfl rfl rfl a1 fun a2 a a3 f => l_own_load 1 m aN rfl Pl3 f rfl rfl a3 a1 fun a4 a a5 f => ?_
     subst a5
     refine l_as f rfl rfl fun a f => l_nil (k_seq (k_region ?_))
     refine l_mv f rfl rfl fun a f => l_mv f rfl rfl fun a f => l_mv f rfl rfl fun a f => ?_
     obtain ⟨a6, a7, aW⟩ := bind_some aW
     refine l_at T73 f rfl rfl rfl h0 a7 fun a8 a9 a ba bb f => ?_
     subst bb
     refine l_loadAt m Pl76 f rfl rfl ba fun a f => l_mv f rfl rfl fun a f => l_in f rfl rfl rfl b_and fun a f => ?_
     obtain ⟨bc, bd, aW⟩ := bind_some aW
     refine l_res f rfl rfl Tryz.call151 (Wk.e0 hW m h0 bd) fun be bf bg w bh m bi a f => ?_
     obtain ⟨rfl, rfl⟩ := bi
     have h0 := rd1 bh h0
     have ba := At.mono bh ba
     have aC := od1 bh aC
     have aN := od1 bh aN
     refine l_in f rfl rfl rfl b_eql fun a f => l_nil ?_
     rcases cond_some aW with ⟨bj, aW⟩ | ⟨bj, aW⟩
     ·refine k_true f rfl bj ?_
      refine k_seq (k_region ?_)
      refine l_mv f rfl rfl fun a f => l_as f rfl rfl fun a f => l_nil ?_
      refine k_exit rfl ?_
      have m := m.eraseAt 1
      obtain rfl := sj aW
      obtain rfl := aX _ rfl
      exact ⟨_, rfl, _, (GLe.trans aY bh), f.weak ⟨rfl, rfl, rfl, rfl, trivial⟩, m⟩
     ·refine k_false f rfl bj ?_
      refine k_skip ?_
      refine k_region ?_
      refine l_in f rfl rfl rfl b_add fun a f => l_mv f rfl rfl fun a f => l_nil ?_
      obtain rfl := sj aW
      exact ⟨_, rfl, _, rfl, _, (GLe.trans aY bh), f.weak ⟨rfl, rfl, rfl, rfl, rfl, rfl, rfl, trivial⟩, m⟩
    ·refine k_false f rfl aZ ?_
     refine k_exit rfl ?_
     have m := m.eraseAt 1
     obtain rfl := sj aW
     obtain rfl := aX _ rfl
     exact ⟨_, rfl, _, aY, f.weak ⟨rfl, rfl, rfl, rfl, trivial⟩, m⟩
   ·rintro a w ⟨aQ, rfl, aR, bk, f, m⟩
    have h0 := rd1 bk h0
    have aC := od1 bk aC
    refine k_seq (k_seq (k_region ?_))
    refine l_mv f rfl rfl fun a f => l_in f rfl rfl rfl b_lss fun a f => l_nil ?_
    rcases cond_some az with ⟨bl, az⟩ | ⟨bl, az⟩
    ·refine k_true f rfl bl ?_
     refine k_seq (k_region ?_)
     refine l_as f rfl rfl fun a f => l_nil ?_
     refine k_ret ?_
     obtain ⟨bm, m, bn⟩ := Ow.nil (RI .i64) 3 m
     have m := m.eraseAt 1
     obtain rfl := sj az
     obtain rfl := aA _ rfl
     obtain rfl := sj hd
     exact ⟨[(.slice none 0 0)], ⟨f.get _ _ rfl, trivial⟩, f.defers, _, [bm], (GLe.trans ai (GLe.trans aB (GLe.trans aJ bk))), m, _, _, rfl, rfl, bn, rfl⟩
    ·refine k_false f rfl bl ?_
     refine k_skip ?_
     refine k_seq (k_region ?_)
     refine l_mv f rfl rfl fun a f => l_mv f rfl rfl fun a f => ?_
     obtain ⟨bo, bp, az⟩ := bind_some az
     refine l_res f rfl rfl Tryz.call100 (Wk.c m  bp) fun bq br bs w bt m bu a f => ?_
     obtain ⟨rfl, rfl⟩ := bu
     have h0 := rd1 bt h0
     have aC := od1 bt aC
     refine l_in f rfl rfl rfl b_andNot fun a f => l_as f rfl rfl fun a f => l_nil (k_region ?_)
     refine l_mv f rfl rfl fun a f => l_mv f rfl rfl fun a f => l_slit (R := (RI .i64)) (xs := ([aQ] : List Int)) (RI.one _) m T94 f rfl rfl rfl (by decide) (All2.cons rfl (All2.nil _)) fun bv bw w a m bx f => ?_
     obtain ⟨bz, bA, az⟩ := bind_some az
     refine l_append (RI.one _) 1 m aC rfl T94 rfl (by decide) f rfl rfl rfl (Ow.src (j := 0) bx m rfl) bA fun bB bC w a m bD f => l_as f rfl rfl fun a f => l_nil ?_
     have m := m.front 1 rfl
     have m := m.eraseAt 1
     obtain rfl := sj az
     exact ⟨_, rfl, _, _, rfl, _, bC, bB, (GLe.trans aB (GLe.trans aJ (GLe.trans bk bt))), f.weak ⟨rfl, rfl, rfl, trivial⟩, m, bD⟩
  ·refine k_false f rfl aD ?_
   refine k_exit rfl ?_
   obtain rfl := sj az
   obtain rfl := aA _ rfl
   exact ⟨_, rfl, _, rfl, _, aw, ax, aB, f.weak ⟨rfl, trivial⟩, m, aC⟩
 ·rintro a w ⟨_, rfl, am, rfl, an, ao, ap, bE, f, m, bF⟩
  refine k_seq (k_region ?_)
  refine l_mv f rfl rfl fun a f => l_as f rfl rfl fun a f => l_nil ?_
  refine k_ret ?_
  obtain ⟨_, bG, hd⟩ := bind_some hd
  have hx_555' := Ow.notNil 0 m bF rfl bG
  obtain rfl := sj hd
  exact ⟨[ao], ⟨f.get _ _ rfl, trivial⟩, f.defers, _, [ap], (GLe.trans ai bE), m, _, _, rfl, rfl, bF, hx_555'⟩

theorem Wk.m0 {W w : World} {G : GH} {H : List Itm} {v0_0 : Value} {x0_0 : (List (List Int))} (hW : TabW W) (m : Mem W G w (H)) (h0_0 : RSl (RSl (RI .i64)) G v0_0 x0_0) {y : Bool} (hd : D.m0 x0_0 = some y) :
  Calls Tryz.prog 48 #[(.agg #[v0_0])] w (Res W G H (fun _ Ho v => Ho = [] ∧ v = (.bool y))) := by
 refine calls_b (args := [(.agg #[v0_0])]) (N := 11) [.tmp 2] Tryz.func48 rfl rfl (Nat.le_of_ble_eq_true rfl) rfl fun a f => ?_
 unfold D.m0 at hd
 refine k_seq (k_region ?_)
 refine l_box (cs := [v0_0]) m f rfl rfl rfl fun aa w a m f => l_as f rfl rfl fun a f => l_nil (k_seq (k_region ?_))
 refine l_boxAgg 0 0 (ds := [v0_0]) m Ag30 f rfl rfl rfl rfl rfl fun a f => ?_
 obtain ⟨ab, ac, hd⟩ := bind_some hd
 refine l_res f rfl rfl Tryz.call93 (Wk.l0 m h0_0 ac) fun ad ae af w ag m ah a f => ?_
 obtain ⟨rfl, rfl⟩ := ah
 have h0_0 := rd2 ag h0_0
 refine l_mv f rfl rfl fun a f => ?_
 obtain ⟨ai, aj, hd⟩ := bind_some hd
 refine l_cut 5 (fun a w => ∃ ak, GLe ae ak ∧ Mem W ak w (Itm.box aa 30 [v0_0] :: H) ∧ Fr a 11 [(0, (.agg #[v0_0])), (1, (.pointer (some ⟨aa, 0, none⟩))), (3, (.agg #[v0_0])), (4, (.bool ab)), (5, (.bool ab)), (10, (.bool ai))]) ?_ ?_
 ·rcases cond_some aj with ⟨al, aj⟩ | ⟨al, aj⟩
  ·refine l_run f rfl rfl al ?_
   refine l_boxAgg 0 0 (ds := [v0_0]) m Ag30 f rfl rfl rfl rfl rfl fun a f => l_run f rfl rfl al ?_
   obtain ⟨am, an, aj⟩ := bind_some aj
   refine l_res f rfl rfl Tryz.call50 (Wk.H m h0_0 an) fun ao ap aq w ar m au a f => ?_
   obtain ⟨av, aw, rfl, rfl, ax⟩ := au
   have h0_0 := rd2 ar h0_0
   refine l_run f rfl rfl al ?_
   obtain ⟨ay, az, m, aA⟩ := Ow.stamp (RI.mono _) ax m
   have h0_0 := rd2 az h0_0
   obtain ⟨aB, aC, aj⟩ := bind_some aj
   refine l_res f rfl rfl Tryz.call114 (Wk.X0 hW m aA aC) fun aD aE aF w aG m aH a f => ?_
   obtain ⟨aI, aJ, rfl, rfl, aK, aL⟩ := aH
   have h0_0 := rd2 aG h0_0
   have aA := rd1 aG aA
   refine l_run f rfl rfl al ?_
   refine l_op f rfl rfl rfl (r_nil_neq (f.eval rfl) (f.eval rfl) (Ow.hdr 0 m aK rfl) Tryz.underlying94 aL) fun a f => l_op f rfl rfl rfl (r_pickT (f.eval rfl) al (f.eval rfl)) fun a f => ?_
   obtain rfl := sj aj
   have m := m.front 1 rfl
   have m := m.eraseAt 1
   exact ⟨_, (GLe.trans ar (GLe.trans az aG)), m, f.weak ⟨rfl, rfl, rfl, rfl, rfl, rfl, trivial⟩⟩
  ·refine l_not' f rfl rfl rfl al fun a f => ?_
   refine l_not' f rfl rfl rfl al fun a f => l_not' f rfl rfl rfl al fun a f => l_not' f rfl rfl rfl al fun a f => l_op f rfl rfl rfl (r_pickF (f.eval rfl) al (f.eval rfl)) fun a f => ?_
   obtain rfl := sj aj
   exact ⟨_, (GLe.refl _), m, f.weak ⟨rfl, rfl, rfl, rfl, rfl, rfl, trivial⟩⟩
 ·rintro a w ⟨ak, aM, m, f⟩
  have h0_0 := rd2 aM h0_0
  refine l_as f rfl rfl fun a f => l_nil ?_
  refine k_ret ?_
  have m : Mem W ak w H := Mem.drop (H' := [Itm.box aa 30 [v0_0]]) m
  obtain rfl := sj hd
  exact ⟨[(.bool ai)], ⟨f.get _ _ rfl, trivial⟩, f.defers, _, [], (GLe.trans ag aM), m, rfl, rfl⟩

theorem Wk.V {W : World} (hW : TabW W) (n : Nat) : ∀ {w : World} {G : GH} {H : List Itm} {v0 : Value} {v4 : Value} {it4 : Itm} {x0 : (List Int)} {x1 : Int} {x2 : Int} {x3 : Int} {x4 : (List Int)} (m : Mem W G w (it4 :: H)) (h0 : RSl (RI .u32) G v0 x0) (o4 : Ow (RI .u32) 76 G it4 v4 x4) {y : ((List Int))} (hd : D.V n x0 x1 x2 x3 x4 = some y),
  Calls Tryz.prog 115 #[v0, (.int .u32 x1), (.int .u32 x2), (.int .u32 x3), v4] w (Res W G H (fun G' Ho v => ∃ r0 : Value, ∃ i0 : Itm, Ho = [i0] ∧ r0 = v ∧ Ow (RI .u32) 76 G' i0 r0 y)) := by
 induction n with
 | zero => intros; rename_i hd; simp [D.V] at hd
 | succ fuel ih =>
  intro w G H v0 v4 it4 x0 x1 x2 x3 x4 m h0 o4 y hd
  refine calls_b (args := [v0, (.int .u32 x1), (.int .u32 x2), (.int .u32 x3), v4]) (N := 58) [.tmp 10] Tryz.func115 rfl rfl (Nat.le_of_ble_eq_true rfl) rfl fun a f => ?_
  unfold D.V at hd
  refine k_seq (k_region ?_)
  refine l_as f rfl rfl fun a f => l_nil (k_seq (k_seq (k_region ?_)))
  refine l_mv f rfl rfl fun a f => l_in f rfl rfl rfl b_eql fun a f => l_nil ?_
  rcases cond_some hd with ⟨aa, hd⟩ | ⟨aa, hd⟩
  ·refine k_true f rfl aa ?_
   refine k_seq (k_seq (k_region ?_))
   refine l_mv f rfl rfl fun a f => l_in f rfl rfl rfl b_eql fun a f => l_nil ?_
   obtain ⟨ab, ac, hd⟩ := bind_some hd
   refine k_cut (fun a w => ∃ ad : List Int, ad = ab ∧ ∃ (ae : GH) (af : Value) (ag : Itm), GLe G ae ∧ Fr a 58 [(4, af)] ∧ Mem W ae w (ag :: H) ∧ Ow (RI .u32) 76 ae ag af ad) ?_ ?_
   ·rcases cond_some ac with ⟨ah, ac⟩ | ⟨ah, ac⟩
    ·refine k_true f rfl ah ?_
     refine k_region ?_
     refine l_mv f rfl rfl fun a f => l_mv f rfl rfl fun a f => l_slit (R := (RI .u32)) (xs := ([x1] : List Int)) (RI.one _) m T71 f rfl rfl rfl (by decide) (All2.cons rfl (All2.nil _)) fun ai aj w a m ak f => ?_
     obtain ⟨al, am, ac⟩ := bind_some ac
     refine l_append (RI.one _) 1 m o4 rfl T71 rfl (by decide) f rfl rfl rfl (Ow.src (j := 0) ak m rfl) am fun an ao w a m ap f => l_as f rfl rfl fun a f => l_nil ?_
     have m := m.front 1 rfl
     have m := m.eraseAt 1
     obtain rfl := sj ac
     exact ⟨_, rfl, _, ao, an, (GLe.refl _), f.weak ⟨rfl, trivial⟩, m, ap⟩
    ·refine k_false f rfl ah ?_
     refine k_skip ?_
     obtain rfl := sj ac
     exact ⟨_, rfl, _, v4, it4, (GLe.refl _), f.weak ⟨rfl, trivial⟩, m, o4⟩
   ·rintro a w ⟨ad, rfl, ae, af, ag, aq, f, m, ar⟩
    refine k_seq (k_region ?_)
    refine l_mv f rfl rfl fun a f => l_as f rfl rfl fun a f => l_nil ?_
    refine k_ret ?_
    obtain rfl := sj hd
    exact ⟨[af], ⟨f.get _ _ rfl, trivial⟩, f.defers, _, [ag], aq, m, _, _, rfl, rfl, ar⟩
  ·refine k_false f rfl aa ?_
   refine k_skip ?_
   refine k_seq (k_seq (k_region ?_))
   refine l_mv f rfl rfl fun a f => ?_
   obtain ⟨au, av, hd⟩ := bind_some hd
   refine l_res f rfl rfl Tryz.call103 (Wk.f hW m  av) fun aw ax ay w az m aA a f => ?_
   obtain ⟨aB, aC, rfl, rfl, aD⟩ := aA
   have h0 := rd1 az h0
   have o4 := od1 az o4
   refine l_own_len 0 m aD rfl Tryz.underlying94 f rfl rfl fun a f => l_mv f rfl rfl fun a f => l_nil ?_
   obtain ⟨aE, aF, hd⟩ := bind_some hd
   refine k_cut (fun a w => ∃ aG : List Int, aG = aE ∧ ∃ (aH : GH) (aI : Value) (aJ : Itm), GLe ax aH ∧ Fr a 58 [(4, aI)] ∧ Mem W aH w (aJ :: H) ∧ Ow (RI .u32) 76 aH aJ aI aG) ?_ ?_
   ·refine k_block ?_
    have m := m.front 1 rfl
    refine k_loop (fun aK a w => ∃ aL : Int, ∃ aM : Int, ∃ aN : List Int, ∃ aO : Int, (aL, aM, aN, aO) = aK ∧ ∃ (aP : GH) (aQ : Value) (aR : Itm), GLe ax aP ∧ Fr a 58 [(0, v0), (1, (.int .u32 x1)), (2, (.int .u32 aL)), (3, (.int .u32 aM)), (4, aQ), (23, aB), (24, (.int .i64 (au.length : Int))), (25, (.int .i64 aO))] ∧ Mem W aP w (aR :: aC :: H) ∧ Ow (RI .u32) 76 aP aR aQ aN) aF ⟨_, _, _, _, rfl, _, v4, it4, (GLe.refl _), f.weak ⟨rfl, rfl, rfl, rfl, rfl, rfl, rfl, rfl, trivial⟩, m, o4⟩ ?_
    clear aF f m
    rintro aK aS aT aU a w ⟨aL, aM, aN, aO, rfl, aP, aQ, aR, aV, f, m, aW⟩
    have h0 := rd1 aV h0
    have aD := od1 aV aD
    refine k_seq (k_region ?_)
    refine l_in f rfl rfl rfl b_lss fun a f => l_nil (k_seq ?_)
    rcases cond_some aT with ⟨aX, aT⟩ | ⟨aX, aT⟩
    ·refine k_true f rfl aX ?_
     refine k_skip ?_
     refine k_seq (k_block (k_seq (k_region ?_)))
     obtain ⟨aY, aZ, aT⟩ := bind_some aT
     refine l_own_at 1 m aD rfl T94 f rfl rfl rfl aZ fun a0 a a1 f => l_own_load 1 m aD rfl Pl3 f rfl rfl a1 aZ fun a2 a a3 f => ?_
     subst a3
     refine l_as f rfl rfl fun a f => l_nil (k_seq ?_)
     refine k_draw 18 Follows (by kernel_rfl) m ?_
     refine q_mv 0 18 rfl (by kernel_rfl) f rfl rfl rfl fun a f => q_mv 1 18 rfl (by kernel_rfl) f rfl rfl rfl fun a f => q_mv 2 18 rfl (by kernel_rfl) f rfl rfl rfl fun a f => ?_
     obtain ⟨a4, a5, aT⟩ := bind_some aT
     refine q_call (i := 3) 18 rfl (by kernel_rfl) rfl f rfl rfl rfl Tryz.call100 (fun _ _ w a6 m => Wk.c m  a5) fun a f => q_p 4 18 rfl (by kernel_rfl) f rfl rfl rfl (fun _ => r_int (f.eval rfl) (f.eval rfl) b_or) fun a f => q_mv 5 18 rfl (by kernel_rfl) f rfl rfl rfl fun a f => q_mv 6 18 rfl (by kernel_rfl) f rfl rfl rfl fun a f => q_mv 7 18 rfl (by kernel_rfl) f rfl rfl rfl fun a f => ?_
     obtain ⟨a7, a8, aT⟩ := bind_some aT
     refine q_at (i := 8) 18 T73 h0 a8 rfl (by kernel_rfl) rfl f rfl rfl rfl rfl fun a9 ba a bb bc f => ?_
     subst bc
     refine q_loadAt (i := 9) 18 Pl76 bb rfl (by kernel_rfl) rfl f rfl rfl rfl fun a f => q_p 10 18 rfl (by kernel_rfl) f rfl rfl rfl (fun _ => r_int (f.eval rfl) (f.eval rfl) b_and) fun a f => q_mv 11 18 rfl (by kernel_rfl) f rfl rfl rfl fun a f => q_mv 12 18 rfl (by kernel_rfl) f rfl rfl rfl fun a f => q_mv 13 18 rfl (by kernel_rfl) f rfl rfl rfl fun a f => ?_
     obtain ⟨bd, be, aT⟩ := bind_some aT
     refine q_at (i := 14) 18 T73 h0 be rfl (by kernel_rfl) rfl f rfl rfl rfl rfl fun bf bg a bh bi f => ?_
     subst bi
     refine q_loadAt (i := 15) 18 Pl76 bh rfl (by kernel_rfl) rfl f rfl rfl rfl fun a f => q_p 16 18 rfl (by kernel_rfl) f rfl rfl rfl (fun _ => r_int (f.eval rfl) (f.eval rfl) b_and) fun a f => q_mv 17 18 rfl (by kernel_rfl) f rfl rfl rfl fun a f => q_end fun bj w bk m => ?_
     have h0 := rd1 bk h0
     have bb := At.mono bk bb
     have bh := At.mono bk bh
     have aW := od1 bk aW
     have aD := od1 bk aD
     obtain ⟨bl, bm, aT⟩ := bind_some aT
     refine l_res f rfl rfl Tryz.call115 (ih m h0 aW bm) fun bn bo bp w bq m br a f => ?_
     obtain ⟨bs, bt, rfl, rfl, bu⟩ := br
     have h0 := rd1 bq h0
     have bb := At.mono bq bb
     have bh := At.mono bq bh
     have aD := od1 bq aD
     refine l_as f rfl rfl fun a f => l_nil (k_seq (k_region ?_))
     refine l_mv f rfl rfl fun a f => l_mv f rfl rfl fun a f => ?_
     obtain ⟨bv, bw, aT⟩ := bind_some aT
     refine l_res f rfl rfl Tryz.call100 (Wk.c m  bw) fun bx bz bA w bB m bC a f => ?_
     obtain ⟨rfl, rfl⟩ := bC
     have h0 := rd1 bB h0
     have bu := od1 bB bu
     have aD := od1 bB aD
     refine l_in f rfl rfl rfl b_andNot fun a f => l_as f rfl rfl fun a f => l_nil (k_region ?_)
     refine l_mv f rfl rfl fun a f => l_mv f rfl rfl fun a f => ?_
     obtain ⟨bD, bE, aT⟩ := bind_some aT
     refine l_res f rfl rfl Tryz.call100 (Wk.c m  bE) fun bF bG bH w bI m bJ a f => ?_
     obtain ⟨rfl, rfl⟩ := bJ
     have h0 := rd1 bI h0
     have bu := od1 bI bu
     have aD := od1 bI aD
     refine l_in f rfl rfl rfl b_or fun a f => l_as f rfl rfl fun a f => l_nil (k_region ?_)
     refine l_in f rfl rfl rfl b_add fun a f => l_mv f rfl rfl fun a f => l_nil ?_
     obtain rfl := sj aT
     exact ⟨_, rfl, _, _, _, _, rfl, _, bs, bt, (GLe.trans aV (GLe.trans bk (GLe.trans bq (GLe.trans bB bI)))), f.weak ⟨rfl, rfl, rfl, rfl, rfl, rfl, rfl, rfl, trivial⟩, m, bu⟩
    ·refine k_false f rfl aX ?_
     refine k_exit rfl ?_
     have m := m.eraseAt 1
     obtain rfl := sj aT
     obtain rfl := aU _ rfl
     exact ⟨_, rfl, _, aQ, aR, aV, f.weak ⟨rfl, trivial⟩, m, aW⟩
   ·rintro a w ⟨aG, rfl, aH, aI, aJ, bK, f, m, bL⟩
    refine k_seq (k_region ?_)
    refine l_mv f rfl rfl fun a f => l_as f rfl rfl fun a f => l_nil ?_
    refine k_ret ?_
    obtain rfl := sj hd
    exact ⟨[aI], ⟨f.get _ _ rfl, trivial⟩, f.defers, _, [aJ], (GLe.trans az bK), m, _, _, rfl, rfl, bL⟩

theorem Wk.u {W w : World} {G : GH} {H : List Itm} {v0 : Value} {v4 : Value} {it4 : Itm} {x0 : (List Int)} {x1 : Int} {x2 : Int} {x3 : Int} {x4 : (List Int)} (hW : TabW W) (m : Mem W G w (it4 :: H)) (h0 : RSl (RI .u32) G v0 x0) (o4 : Ow (RI .u32) 76 G it4 v4 x4) {y : ((List Int))} (hd : D.u x0 x1 x2 x3 x4 = some y) :
  Calls Tryz.prog 115 #[v0, (.int .u32 x1), (.int .u32 x2), (.int .u32 x3), v4] w (Res W G H (fun G' Ho v => ∃ r0 : Value, ∃ i0 : Itm, Ho = [i0] ∧ r0 = v ∧ Ow (RI .u32) 76 G' i0 r0 y)) := by
 exact Wk.V hW recFuel m h0 o4 hd

theorem Wk.a {W w : World} {G : GH} {H : List Itm} {x0 : Int} {x1 : Int} (hW : TabW W) (m : Mem W G w (H))  {y : Int} (hd : D.a x0 x1 = some y) :
  Calls Tryz.prog 117 #[(.int .u32 x0), (.int .u32 x1)] w (Res W G H (fun _ Ho v => Ho = [] ∧ v = (.int .i64 y))) := by
 refine calls_b (args := [(.int .u32 x0), (.int .u32 x1)]) (N := 10) [.tmp 4] Tryz.func117 rfl rfl (Nat.le_of_ble_eq_true rfl) rfl fun a f => ?_
 unfold D.a at hd
 refine k_seq (k_region ?_)
 refine l_as f rfl rfl fun a f => l_nil (k_seq (k_region ?_))
 refine l_mv f rfl rfl fun a f => ?_
 obtain ⟨aa, ab, hd⟩ := bind_some hd
 refine l_res f rfl rfl Tryz.call103 (Wk.f hW m  ab) fun ac ad ae w af m ag a f => ?_
 obtain ⟨ah, ai, rfl, rfl, aj⟩ := ag
 refine l_mv f rfl rfl fun a f => ?_
 obtain ⟨ak, al, hd⟩ := bind_some hd
 refine l_res f rfl rfl Tryz.call103 (Wk.f hW m  al) fun am an ao w ap m aq a f => ?_
 obtain ⟨ar, au, rfl, rfl, av⟩ := aq
 have aj := od1 ap aj
 obtain ⟨aw, ax, hd⟩ := bind_some hd
 refine l_res f rfl rfl Tryz.call153 (Ow.lendCall (RI.mono _) 1 aj m rfl (fun ay az m aA => (Ow.lendCall (RI.mono _) 0 (od1 az av) m rfl (fun aB aC m aD => Wk.u0 m (rd1 aC aA) aD ax) (fun _ _ _ _ h => h))) (fun _ _ _ _ h => h)) fun aE aF aG w aH m aI a f => ?_
 obtain ⟨rfl, rfl⟩ := aI
 have av := od1 aH av
 have aj := od1 aH aj
 refine l_as f rfl rfl fun a f => l_nil ?_
 refine k_ret ?_
 have m : Mem W aF w H := Mem.drop (H' := [au, ai]) m
 obtain rfl := sj hd
 exact ⟨[(.int .i64 aw)], ⟨f.get _ _ rfl, trivial⟩, f.defers, _, [], (GLe.trans af (GLe.trans ap aH)), m, rfl, rfl⟩

theorem Wk.T0 {W w : World} {G : GH} {H : List Itm} {v0 : Value} {it0 : Itm} {x0 : (List Int)} {x1 : Int} {x2 : Int} (hW : TabW W) (m : Mem W G w (it0 :: H)) (o0 : Ow (RI .u32) 76 G it0 v0 x0) {y : ((List Int))} (hd : D.T0 x0 x1 x2 = some y) :
  Calls Tryz.prog 180 #[v0, (.int .i64 x1), (.int .i64 x2), (.func (.func 117) #[] #[])] w (Res W G H (fun G' Ho _ => ∃ i0 : Itm, Ho = [i0] ∧ Ow (RI .u32) 76 G' i0 v0 y)) := by
 refine calls_b (args := [v0, (.int .i64 x1), (.int .i64 x2), (.func (.func 117) #[] #[])]) (N := 53) [] Tryz.func180 rfl rfl (Nat.le_of_ble_eq_true rfl) rfl fun a f => ?_
 unfold D.T0 at hd
 refine k_seq (k_region ?_)
 refine l_mv f rfl rfl fun a f => l_in f rfl rfl rfl b_add fun a f => l_as f rfl rfl fun a f => l_nil ?_
 obtain ⟨aa, ab, hd⟩ := bind_some hd
 refine k_cut (fun a w => ∃ ac : List Int, ac = aa ∧ ∃ (ad : GH) (ae : Itm), GLe G ad ∧ Fr a 53 [] ∧ Mem W ad w (ae :: H) ∧ Ow (RI .u32) 76 ad ae v0 ac) ?_ ?_
 ·refine k_block ?_
  refine k_loop (fun af a w => ∃ ag : List Int, ∃ ah : Int, (ag, ah) = af ∧ ∃ (ai : GH) (aj : Itm), GLe G ai ∧ Fr a 53 [(0, v0), (1, (.int .i64 x1)), (2, (.int .i64 x2)), (3, (.func (.func 117) #[] #[])), (8, (.int .i64 ah))] ∧ Mem W ai w (aj :: H) ∧ Ow (RI .u32) 76 ai aj v0 ag) ab ⟨_, _, rfl, _, it0, (GLe.refl _), f.weak ⟨rfl, rfl, rfl, rfl, rfl, trivial⟩, m, o0⟩ ?_
  clear ab f m
  rintro af ak al am a w ⟨ag, ah, rfl, ai, aj, an, f, m, ao⟩
  refine k_seq (k_seq (k_region ?_))
  refine l_mv f rfl rfl fun a f => l_mv f rfl rfl fun a f => l_in f rfl rfl rfl b_lss fun a f => l_nil ?_
  rcases cond_some al with ⟨ap, al⟩ | ⟨ap, al⟩
  ·refine k_true f rfl ap ?_
   refine k_skip ?_
   refine k_seq (k_block (k_seq (k_region ?_)))
   refine l_mv f rfl rfl fun a f => l_as f rfl rfl fun a f => l_nil ?_
   obtain ⟨aq, ar, al⟩ := bind_some al
   refine k_cut (fun a w => ∃ au : List Int, au = aq ∧ ∃ (av : GH) (aw : Itm), GLe ai av ∧ Fr a 53 [(0, v0), (1, (.int .i64 x1)), (2, (.int .i64 x2)), (3, (.func (.func 117) #[] #[])), (8, (.int .i64 ah))] ∧ Mem W av w (aw :: H) ∧ Ow (RI .u32) 76 av aw v0 au) ?_ ?_
   ·refine k_block ?_
    refine k_loop (fun ax a w => ∃ ay : List Int, ∃ az : Int, (ay, az) = ax ∧ ∃ (aA : GH) (aB : Itm), GLe ai aA ∧ Fr a 53 [(0, v0), (1, (.int .i64 x1)), (2, (.int .i64 x2)), (3, (.func (.func 117) #[] #[])), (8, (.int .i64 ah)), (9, (.int .i64 az))] ∧ Mem W aA w (aB :: H) ∧ Ow (RI .u32) 76 aA aB v0 ay) ar ⟨_, _, rfl, _, aj, (GLe.refl _), f.weak ⟨rfl, rfl, rfl, rfl, rfl, rfl, trivial⟩, m, ao⟩ ?_
    clear ar f m
    rintro ax aC aD aE a w ⟨ay, az, rfl, aA, aB, aF, f, m, aG⟩
    refine k_seq (k_seq ?_)
    refine k_draw 17 Follows (by kernel_rfl) m ?_
    refine q_mv 0 17 rfl (by kernel_rfl) f rfl rfl rfl fun a f => q_mv 1 17 rfl (by kernel_rfl) f rfl rfl rfl fun a f => q_p 2 17 rfl (by kernel_rfl) f rfl rfl rfl (fun _ => r_int (f.eval rfl) (f.eval rfl) b_gtr) fun a f => q_mv 3 17 rfl (by kernel_rfl) f rfl rfl rfl fun a f => ?_
    obtain ⟨aH, aI, aD⟩ := bind_some aD
    refine q_cut (fuel' := 0) (listed' := #[true, true, true, true, true, true, true, true, true, true, true, true, true, true, true, true, true]) (fun a => Fr a 53 [(0, v0), (1, (.int .i64 x1)), (2, (.int .i64 x2)), (3, (.func (.func 117) #[] #[])), (8, (.int .i64 ah)), (9, (.int .i64 az)), (18, (.int .i64 az)), (19, (.int .i64 x1)), (20, (.bool (decide (x1 < az)))), (21, (.bool (decide (x1 < az)))), (34, (.bool aH))]) ?_ ?_
    ·intro a f
     refine q_end fun aJ w aK m => ?_
     have aG := od1 aK aG
     refine l_nil ?_
     rcases cond_some aD with ⟨aL, aD⟩ | ⟨aL, aD⟩
     ·refine k_true f rfl aL ?_
      refine k_skip ?_
      refine k_seq (k_block ?_)
      refine k_draw0 Follows m ?_
      refine p_p 2 rfl (by kernel_rfl) f rfl rfl rfl (fun _ => r_move (f.eval rfl)) fun a f => p_p 3 rfl (by kernel_rfl) f rfl rfl rfl (fun _ => r_move (f.eval rfl)) fun a f => p_p 4 rfl (by kernel_rfl) f rfl rfl rfl (fun _ => r_int (f.eval rfl) (f.eval rfl) b_sub) fun a f => k_draw1 28015 12 (by kernel_rfl) rfl ?_
      refine q_mv 0 28015 rfl (by kernel_rfl) f rfl rfl rfl fun a f => q_mv 1 28015 rfl (by kernel_rfl) f rfl rfl rfl fun a f => q_mv 5 28015 rfl (by kernel_rfl) f rfl rfl rfl fun a f => q_mv 6 28015 rfl (by kernel_rfl) f rfl rfl rfl fun a f => q_p 7 28015 rfl (by kernel_rfl) f rfl rfl rfl (fun _ => r_int (f.eval rfl) (f.eval rfl) b_sub) fun a f => ?_
      obtain ⟨aM, aN, aD⟩ := bind_some aD
      refine q_own_at (i := 8) 28015 0 m aG rfl T71 aN rfl (by kernel_rfl) rfl f rfl rfl rfl rfl fun aO a aP f => q_own_load (i := 9) 28015 0 aG rfl Pl76 aP aN rfl (by kernel_rfl) rfl f rfl rfl rfl fun aQ a aR f => ?_
      subst aR
      refine q_mv 10 28015 rfl (by kernel_rfl) f rfl rfl rfl fun a f => q_mv 11 28015 rfl (by kernel_rfl) f rfl rfl rfl fun a f => ?_
      obtain ⟨aS, aT, aD⟩ := bind_some aD
      refine q_own_at (i := 12) 28015 0 m aG rfl T71 aT rfl (by kernel_rfl) rfl f rfl rfl rfl rfl fun aU a aV f => q_own_load (i := 13) 28015 0 aG rfl Pl76 aV aT rfl (by kernel_rfl) rfl f rfl rfl rfl fun aW a aX f => ?_
      subst aX
      obtain ⟨aY, aZ, aD⟩ := bind_some aD
      refine q_own_at (i := 14) 28015 0 m aG rfl T71 aZ rfl (by kernel_rfl) rfl f rfl rfl rfl rfl fun a0 a a1 f => q_end fun a2 w a3 m => ?_
      have aG := od1 a3 aG
      refine l_own_store 0 m aG rfl Tryz.sizeOf76 f rfl rfl a1 aZ rfl rfl rfl fun a4 w m a5 => ?_
      obtain ⟨a6, a7, aD⟩ := bind_some aD
      refine l_own_at 0 m a5 rfl T71 f rfl rfl rfl a7 fun a8 a a9 f => l_own_store 0 m a5 rfl Tryz.sizeOf76 f rfl rfl a9 a7 rfl rfl rfl fun ba w m bb => l_nil (k_region ?_)
      refine l_mv f rfl rfl fun a f => l_in f rfl rfl rfl b_sub fun a f => l_as f rfl rfl fun a f => l_nil ?_
      obtain rfl := sj aD
      exact ⟨_, rfl, _, _, rfl, _, ba, (GLe.trans aF (GLe.trans aK a3)), f.weak ⟨rfl, rfl, rfl, rfl, rfl, rfl, trivial⟩, m, bb⟩
     ·refine k_false f rfl aL ?_
      refine k_exit rfl ?_
      obtain rfl := sj aD
      obtain rfl := aE _ rfl
      exact ⟨_, rfl, _, aB, (GLe.trans aF aK), f.weak ⟨rfl, rfl, rfl, rfl, rfl, trivial⟩, m, aG⟩
    ·intro bc
     rcases cond_some aI with ⟨bd, aI⟩ | ⟨bd, aI⟩
     ·refine q_mv 4 17 rfl (by kernel_rfl) f (wanted_of f rfl rfl rfl bd) rfl rfl fun a f => ?_
      refine q_mv 5 17 rfl (by kernel_rfl) f (wanted_of f rfl rfl rfl bd) rfl rfl fun a f => q_mv 6 17 rfl (by kernel_rfl) f (wanted_of f rfl rfl rfl bd) rfl rfl fun a f => ?_
      obtain ⟨be, bf, aI⟩ := bind_some aI
      refine q_own_at (i := 7) 17 0 m aG rfl T71 bf rfl (by kernel_rfl) rfl f (wanted_of f rfl rfl rfl bd) rfl rfl rfl fun bg a bh f => q_own_load (i := 8) 17 0 aG rfl Pl76 bh bf rfl (by kernel_rfl) rfl f (wanted_of f rfl rfl rfl bd) rfl rfl fun bi a bj f => ?_
      subst bj
      refine q_mv 9 17 rfl (by kernel_rfl) f (wanted_of f rfl rfl rfl bd) rfl rfl fun a f => q_mv 10 17 rfl (by kernel_rfl) f (wanted_of f rfl rfl rfl bd) rfl rfl fun a f => q_p 11 17 rfl (by kernel_rfl) f (wanted_of f rfl rfl rfl bd) rfl rfl (fun _ => r_int (f.eval rfl) (f.eval rfl) b_sub) fun a f => ?_
      obtain ⟨bk, bl, aI⟩ := bind_some aI
      refine q_own_at (i := 12) 17 0 m aG rfl T71 bl rfl (by kernel_rfl) rfl f (wanted_of f rfl rfl rfl bd) rfl rfl rfl fun bm a bn f => q_own_load (i := 13) 17 0 aG rfl Pl76 bn bl rfl (by kernel_rfl) rfl f (wanted_of f rfl rfl rfl bd) rfl rfl fun bo a bp f => ?_
      subst bp
      obtain ⟨bq, br, aI⟩ := bind_some aI
      refine q_callv (i := 14) 17 rfl (by kernel_rfl) rfl f (wanted_of f rfl rfl rfl bd) rfl rfl rfl Tryz.call117 (fun _ _ w bs m => Wk.a hW m  br) fun a f => q_p 15 17 rfl (by kernel_rfl) f (wanted_of f rfl rfl rfl bd) rfl rfl (fun _ => r_int (f.eval rfl) (f.eval rfl) b_lss) fun a f => q_p 16 17 rfl (by kernel_rfl) f rfl rfl rfl (fun _ => r_pickT (f.eval rfl) bd (f.eval rfl)) fun a f => ?_
      obtain rfl := sj aI
      exact bc _ (f.weak ⟨rfl, rfl, rfl, rfl, rfl, rfl, rfl, rfl, rfl, rfl, rfl, trivial⟩)
     ·refine q_ng 4 17 rfl (by kernel_rfl) f rfl rfl bd rfl fun a f => ?_
      refine q_ng 5 17 rfl (by kernel_rfl) f rfl rfl bd rfl fun a f => q_ng 6 17 rfl (by kernel_rfl) f rfl rfl bd rfl fun a f => q_ng 7 17 rfl (by kernel_rfl) f rfl rfl bd rfl fun a f => q_ng 8 17 rfl (by kernel_rfl) f rfl rfl bd rfl fun a f => q_ng 9 17 rfl (by kernel_rfl) f rfl rfl bd rfl fun a f => q_ng 10 17 rfl (by kernel_rfl) f rfl rfl bd rfl fun a f => q_ng 11 17 rfl (by kernel_rfl) f rfl rfl bd rfl fun a f => q_ng 12 17 rfl (by kernel_rfl) f rfl rfl bd rfl fun a f => q_ng 13 17 rfl (by kernel_rfl) f rfl rfl bd rfl fun a f => q_ng 14 17 rfl (by kernel_rfl) f rfl rfl bd rfl fun a f => q_ng 15 17 rfl (by kernel_rfl) f rfl rfl bd rfl fun a f => q_p 16 17 rfl (by kernel_rfl) f rfl rfl rfl (fun _ => r_pickF (f.eval rfl) bd (f.eval rfl)) fun a f => ?_
      obtain rfl := sj aI
      exact bc _ (f.weak ⟨rfl, rfl, rfl, rfl, rfl, rfl, rfl, rfl, rfl, rfl, rfl, trivial⟩)
   ·rintro a w ⟨au, rfl, av, aw, bt, f, m, bu⟩
    refine k_region ?_
    refine l_mv f rfl rfl fun a f => l_in f rfl rfl rfl b_add fun a f => l_as f rfl rfl fun a f => l_nil ?_
    obtain rfl := sj al
    exact ⟨_, rfl, _, _, rfl, _, aw, (GLe.trans an bt), f.weak ⟨rfl, rfl, rfl, rfl, rfl, trivial⟩, m, bu⟩
  ·refine k_false f rfl ap ?_
   refine k_exit rfl ?_
   obtain rfl := sj al
   obtain rfl := am _ rfl
   exact ⟨_, rfl, _, aj, an, f.weak trivial, m, ao⟩
 ·rintro a w ⟨ac, rfl, ad, ae, bv, f, m, bw⟩
  obtain rfl := sj hd
  exact ⟨[], trivial, f.defers, _, [ae], bv, m, _, rfl, bw⟩

theorem Wk.C0 {W w : World} {G : GH} {H : List Itm} {v0 : Value} {it0 : Itm} {x0 : (List Int)} {x1 : Int} {x2 : Int} {x3 : Int} (hW : TabW W) (m : Mem W G w (it0 :: H)) (o0 : Ow (RI .u32) 76 G it0 v0 x0) {y : ((List Int))} (hd : D.C0 x0 x1 x2 x3 = some y) :
  Calls Tryz.prog 202 #[v0, (.int .i64 x1), (.int .i64 x2), (.int .i64 x3), (.func (.func 117) #[] #[])] w (Res W G H (fun G' Ho _ => ∃ i0 : Itm, Ho = [i0] ∧ Ow (RI .u32) 76 G' i0 v0 y)) := by
 refine calls_b (args := [v0, (.int .i64 x1), (.int .i64 x2), (.int .i64 x3), (.func (.func 117) #[] #[])]) (N := 82) [] Tryz.func202 rfl rfl (Nat.le_of_ble_eq_true rfl) rfl fun a f => ?_
 unfold D.C0 at hd
 refine k_seq (k_region ?_)
 refine l_mv f rfl rfl fun a f => l_as f rfl rfl fun a f => l_nil ?_
 obtain ⟨aa, ab, hd⟩ := bind_some hd
 refine k_cut (fun a w => ∃ q_182' : (List Int), aa = .inl q_182' ∧ ∃ ac : List Int, ac = q_182' ∧ ∃ (ad : GH) (ae : Itm), GLe G ad ∧ Fr a 82 [] ∧ Mem W ad w (ae :: H) ∧ Ow (RI .u32) 76 ad ae v0 ac) ?_ ?_
 ·refine k_block ?_
  refine k_loop (fun af a w => ∃ ag : List Int, ∃ ah : Int, (ag, ah) = af ∧ ∃ (ai : GH) (aj : Itm), GLe G ai ∧ Fr a 82 [(0, v0), (2, (.int .i64 x2)), (3, (.int .i64 x3)), (4, (.func (.func 117) #[] #[])), (10, (.int .i64 ah))] ∧ Mem W ai w (aj :: H) ∧ Ow (RI .u32) 76 ai aj v0 ag) ab ⟨_, _, rfl, _, it0, (GLe.refl _), f.weak ⟨rfl, rfl, rfl, rfl, rfl, trivial⟩, m, o0⟩ ?_
  clear ab f m
  rintro af ak al am a w ⟨ag, ah, rfl, ai, aj, an, f, m, ao⟩
  refine k_block (k_seq (k_region ?_))
  refine l_mv f rfl rfl fun a f => l_in f rfl rfl rfl b_mul fun a f => l_in f rfl rfl rfl b_add fun a f => l_as f rfl rfl fun a f => l_nil (k_seq (k_seq (k_region ?_)))
  refine l_mv f rfl rfl fun a f => l_mv f rfl rfl fun a f => l_in f rfl rfl rfl b_geq fun a f => l_nil ?_
  rcases cond_some al with ⟨ap, al⟩ | ⟨ap, al⟩
  ·refine k_true f rfl ap ?_
   refine k_exit rfl ?_
   obtain rfl := sj al
   obtain rfl := am _ rfl
   exact ⟨_, rfl, _, rfl, _, aj, an, f.weak trivial, m, ao⟩
  ·refine k_false f rfl ap ?_
   refine k_skip ?_
   refine k_seq (k_seq ?_)
   refine k_draw 22 Follows (by kernel_rfl) m ?_
   refine q_mv 0 22 rfl (by kernel_rfl) f rfl rfl rfl fun a f => q_p 1 22 rfl (by kernel_rfl) f rfl rfl rfl (fun _ => r_int (f.eval rfl) (f.eval rfl) b_add) fun a f => q_mv 2 22 rfl (by kernel_rfl) f rfl rfl rfl fun a f => q_p 3 22 rfl (by kernel_rfl) f rfl rfl rfl (fun _ => r_int (f.eval rfl) (f.eval rfl) b_lss) fun a f => q_mv 4 22 rfl (by kernel_rfl) f rfl rfl rfl fun a f => ?_
   obtain ⟨aq, ar, al⟩ := bind_some al
   refine q_cut (fuel' := 0) (listed' := #[true, true, true, true, true, true, true, true, true, true, true, true, true, true, true, true, true, true, true, true, true, true]) (fun a => Fr a 82 [(0, v0), (2, (.int .i64 x2)), (3, (.int .i64 x3)), (4, (.func (.func 117) #[] #[])), (10, (.int .i64 ah)), (11, (.int .i64 (IntKind.i64.wrap ((IntKind.i64.wrap (2 * ah)) + 1)))), (18, (.bool (decide (x2 ≤ (IntKind.i64.wrap ((IntKind.i64.wrap (2 * ah)) + 1)))))), (19, (.int .i64 (IntKind.i64.wrap ((IntKind.i64.wrap (2 * ah)) + 1)))), (20, (.int .i64 (IntKind.i64.wrap ((IntKind.i64.wrap ((IntKind.i64.wrap (2 * ah)) + 1)) + 1)))), (21, (.int .i64 x2)), (22, (.bool (decide ((IntKind.i64.wrap ((IntKind.i64.wrap ((IntKind.i64.wrap (2 * ah)) + 1)) + 1)) < x2)))), (23, (.bool (decide ((IntKind.i64.wrap ((IntKind.i64.wrap ((IntKind.i64.wrap (2 * ah)) + 1)) + 1)) < x2)))), (40, (.bool aq))]) ?_ ?_
   ·intro a f
    refine q_end fun au w av m => ?_
    have ao := od1 av ao
    refine l_nil ?_
    obtain ⟨aw, ax, al⟩ := bind_some al
    refine k_cut (fun a w => ∃ ay : Int, ay = aw ∧ ∃ (az : GH), GLe au az ∧ Fr a 82 [(0, v0), (2, (.int .i64 x2)), (3, (.int .i64 x3)), (4, (.func (.func 117) #[] #[])), (10, (.int .i64 ah)), (11, (.int .i64 ay))] ∧ Mem W az w (aj :: H)) ?_ ?_
    ·rcases cond_some ax with ⟨aA, ax⟩ | ⟨aA, ax⟩
     ·refine k_true f rfl aA ?_
      refine k_region ?_
      refine l_mv f rfl rfl fun a f => l_in f rfl rfl rfl b_add fun a f => l_as f rfl rfl fun a f => l_nil ?_
      obtain rfl := sj ax
      exact ⟨_, rfl, _, (GLe.refl _), f.weak ⟨rfl, rfl, rfl, rfl, rfl, rfl, trivial⟩, m⟩
     ·refine k_false f rfl aA ?_
      refine k_skip ?_
      obtain rfl := sj ax
      exact ⟨_, rfl, _, (GLe.refl _), f.weak ⟨rfl, rfl, rfl, rfl, rfl, rfl, trivial⟩, m⟩
    ·rintro a w ⟨ay, rfl, az, aB, f, m⟩
     have ao := od1 aB ao
     refine k_seq (k_seq ?_)
     refine k_draw 16 Follows (by kernel_rfl) m ?_
     refine q_mv 0 16 rfl (by kernel_rfl) f rfl rfl rfl fun a f => q_mv 1 16 rfl (by kernel_rfl) f rfl rfl rfl fun a f => q_mv 2 16 rfl (by kernel_rfl) f rfl rfl rfl fun a f => q_mv 3 16 rfl (by kernel_rfl) f rfl rfl rfl fun a f => q_p 4 16 rfl (by kernel_rfl) f rfl rfl rfl (fun _ => r_int (f.eval rfl) (f.eval rfl) b_add) fun a f => ?_
     obtain ⟨aC, aD, al⟩ := bind_some al
     refine q_own_at (i := 5) 16 0 m ao rfl T71 aD rfl (by kernel_rfl) rfl f rfl rfl rfl rfl fun aE a aF f => q_own_load (i := 6) 16 0 ao rfl Pl76 aF aD rfl (by kernel_rfl) rfl f rfl rfl rfl fun aG a aH f => ?_
     subst aH
     refine q_mv 7 16 rfl (by kernel_rfl) f rfl rfl rfl fun a f => q_mv 8 16 rfl (by kernel_rfl) f rfl rfl rfl fun a f => q_mv 9 16 rfl (by kernel_rfl) f rfl rfl rfl fun a f => q_p 10 16 rfl (by kernel_rfl) f rfl rfl rfl (fun _ => r_int (f.eval rfl) (f.eval rfl) b_add) fun a f => ?_
     obtain ⟨aI, aJ, al⟩ := bind_some al
     refine q_own_at (i := 11) 16 0 m ao rfl T71 aJ rfl (by kernel_rfl) rfl f rfl rfl rfl rfl fun aK a aL f => q_own_load (i := 12) 16 0 ao rfl Pl76 aL aJ rfl (by kernel_rfl) rfl f rfl rfl rfl fun aM a aN f => ?_
     subst aN
     obtain ⟨aO, aP, al⟩ := bind_some al
     refine q_callv (i := 13) 16 rfl (by kernel_rfl) rfl f rfl rfl rfl rfl Tryz.call117 (fun _ _ w aQ m => Wk.a hW m  aP) fun a f => q_p 14 16 rfl (by kernel_rfl) f rfl rfl rfl (fun _ => r_int (f.eval rfl) (f.eval rfl) b_lss) fun a f => q_p 15 16 rfl (by kernel_rfl) f rfl rfl rfl (fun _ => r_not (f.eval rfl)) fun a f => q_end fun aR w aS m => ?_
     have ao := od1 aS ao
     refine l_nil ?_
     rcases cond_some al with ⟨aT, al⟩ | ⟨aT, al⟩
     ·refine k_true f rfl aT ?_
      refine k_ret ?_
      obtain rfl := sj al
      obtain rfl := am _ rfl
      obtain rfl := sj hd
      exact ⟨[], trivial, f.defers, _, [aj], (GLe.trans an (GLe.trans av (GLe.trans aB aS))), m, _, rfl, ao⟩
     ·refine k_false f rfl aT ?_
      refine k_skip ?_
      refine k_seq ?_
      refine k_draw0 Follows m ?_
      refine p_p 4 rfl (by kernel_rfl) f rfl rfl rfl (fun _ => r_move (f.eval rfl)) fun a f => p_p 5 rfl (by kernel_rfl) f rfl rfl rfl (fun _ => r_move (f.eval rfl)) fun a f => p_p 6 rfl (by kernel_rfl) f rfl rfl rfl (fun _ => r_move (f.eval rfl)) fun a f => p_p 7 rfl (by kernel_rfl) f rfl rfl rfl (fun _ => r_int (f.eval rfl) (f.eval rfl) b_add) fun a f => k_draw1 240021 17 (by kernel_rfl) rfl ?_
      refine q_mv 0 240021 rfl (by kernel_rfl) f rfl rfl rfl fun a f => q_mv 1 240021 rfl (by kernel_rfl) f rfl rfl rfl fun a f => q_mv 2 240021 rfl (by kernel_rfl) f rfl rfl rfl fun a f => q_p 3 240021 rfl (by kernel_rfl) f rfl rfl rfl (fun _ => r_int (f.eval rfl) (f.eval rfl) b_add) fun a f => q_mv 8 240021 rfl (by kernel_rfl) f rfl rfl rfl fun a f => q_mv 9 240021 rfl (by kernel_rfl) f rfl rfl rfl fun a f => q_mv 10 240021 rfl (by kernel_rfl) f rfl rfl rfl fun a f => q_p 11 240021 rfl (by kernel_rfl) f rfl rfl rfl (fun _ => r_int (f.eval rfl) (f.eval rfl) b_add) fun a f => ?_
      obtain ⟨aU, aV, al⟩ := bind_some al
      refine q_own_at (i := 12) 240021 0 m ao rfl T71 aV rfl (by kernel_rfl) rfl f rfl rfl rfl rfl fun aW a aX f => q_own_load (i := 13) 240021 0 ao rfl Pl76 aX aV rfl (by kernel_rfl) rfl f rfl rfl rfl fun aY a aZ f => ?_
      subst aZ
      refine q_mv 14 240021 rfl (by kernel_rfl) f rfl rfl rfl fun a f => q_mv 15 240021 rfl (by kernel_rfl) f rfl rfl rfl fun a f => q_mv 16 240021 rfl (by kernel_rfl) f rfl rfl rfl fun a f => q_p 17 240021 rfl (by kernel_rfl) f rfl rfl rfl (fun _ => r_int (f.eval rfl) (f.eval rfl) b_add) fun a f => ?_
      obtain ⟨a0, a1, al⟩ := bind_some al
      refine q_own_at (i := 18) 240021 0 m ao rfl T71 a1 rfl (by kernel_rfl) rfl f rfl rfl rfl rfl fun a2 a a3 f => q_own_load (i := 19) 240021 0 ao rfl Pl76 a3 a1 rfl (by kernel_rfl) rfl f rfl rfl rfl fun a4 a a5 f => ?_
      subst a5
      obtain ⟨a6, a7, al⟩ := bind_some al
      refine q_own_at (i := 20) 240021 0 m ao rfl T71 a7 rfl (by kernel_rfl) rfl f rfl rfl rfl rfl fun a8 a a9 f => q_end fun ba w bb m => ?_
      have ao := od1 bb ao
      refine l_own_store 0 m ao rfl Tryz.sizeOf76 f rfl rfl a9 a7 rfl rfl rfl fun bc w m bd => ?_
      obtain ⟨be, bf, al⟩ := bind_some al
      refine l_own_at 0 m bd rfl T71 f rfl rfl rfl bf fun bg a bh f => l_own_store 0 m bd rfl Tryz.sizeOf76 f rfl rfl bh bf rfl rfl rfl fun bi w m bj => l_nil (k_region ?_)
      refine l_mv f rfl rfl fun a f => l_as f rfl rfl fun a f => l_nil ?_
      obtain rfl := sj al
      exact ⟨_, rfl, _, _, rfl, _, bi, (GLe.trans an (GLe.trans av (GLe.trans aB (GLe.trans aS bb)))), f.weak ⟨rfl, rfl, rfl, rfl, rfl, trivial⟩, m, bj⟩
   ·intro bk
    rcases cond_some ar with ⟨bl, ar⟩ | ⟨bl, ar⟩
    ·refine q_mv 5 22 rfl (by kernel_rfl) f (wanted_of f rfl rfl rfl bl) rfl rfl fun a f => ?_
     refine q_mv 6 22 rfl (by kernel_rfl) f (wanted_of f rfl rfl rfl bl) rfl rfl fun a f => q_mv 7 22 rfl (by kernel_rfl) f (wanted_of f rfl rfl rfl bl) rfl rfl fun a f => q_mv 8 22 rfl (by kernel_rfl) f (wanted_of f rfl rfl rfl bl) rfl rfl fun a f => q_p 9 22 rfl (by kernel_rfl) f (wanted_of f rfl rfl rfl bl) rfl rfl (fun _ => r_int (f.eval rfl) (f.eval rfl) b_add) fun a f => ?_
     obtain ⟨bm, bn, ar⟩ := bind_some ar
     refine q_own_at (i := 10) 22 0 m ao rfl T71 bn rfl (by kernel_rfl) rfl f (wanted_of f rfl rfl rfl bl) rfl rfl rfl fun bo a bp f => q_own_load (i := 11) 22 0 ao rfl Pl76 bp bn rfl (by kernel_rfl) rfl f (wanted_of f rfl rfl rfl bl) rfl rfl fun bq a br f => ?_
     subst br
     refine q_mv 12 22 rfl (by kernel_rfl) f (wanted_of f rfl rfl rfl bl) rfl rfl fun a f => q_mv 13 22 rfl (by kernel_rfl) f (wanted_of f rfl rfl rfl bl) rfl rfl fun a f => q_mv 14 22 rfl (by kernel_rfl) f (wanted_of f rfl rfl rfl bl) rfl rfl fun a f => q_p 15 22 rfl (by kernel_rfl) f (wanted_of f rfl rfl rfl bl) rfl rfl (fun _ => r_int (f.eval rfl) (f.eval rfl) b_add) fun a f => q_p 16 22 rfl (by kernel_rfl) f (wanted_of f rfl rfl rfl bl) rfl rfl (fun _ => r_int (f.eval rfl) (f.eval rfl) b_add) fun a f => ?_
     obtain ⟨bs, bt, ar⟩ := bind_some ar
     refine q_own_at (i := 17) 22 0 m ao rfl T71 bt rfl (by kernel_rfl) rfl f (wanted_of f rfl rfl rfl bl) rfl rfl rfl fun bu a bv f => q_own_load (i := 18) 22 0 ao rfl Pl76 bv bt rfl (by kernel_rfl) rfl f (wanted_of f rfl rfl rfl bl) rfl rfl fun bw a bx f => ?_
     subst bx
     obtain ⟨bz, bA, ar⟩ := bind_some ar
     refine q_callv (i := 19) 22 rfl (by kernel_rfl) rfl f (wanted_of f rfl rfl rfl bl) rfl rfl rfl Tryz.call117 (fun _ _ w bB m => Wk.a hW m  bA) fun a f => q_p 20 22 rfl (by kernel_rfl) f (wanted_of f rfl rfl rfl bl) rfl rfl (fun _ => r_int (f.eval rfl) (f.eval rfl) b_lss) fun a f => q_p 21 22 rfl (by kernel_rfl) f rfl rfl rfl (fun _ => r_pickT (f.eval rfl) bl (f.eval rfl)) fun a f => ?_
     obtain rfl := sj ar
     exact bk _ (f.weak ⟨rfl, rfl, rfl, rfl, rfl, rfl, rfl, rfl, rfl, rfl, rfl, rfl, rfl, trivial⟩)
    ·refine q_ng 5 22 rfl (by kernel_rfl) f rfl rfl bl rfl fun a f => ?_
     refine q_ng 6 22 rfl (by kernel_rfl) f rfl rfl bl rfl fun a f => q_ng 7 22 rfl (by kernel_rfl) f rfl rfl bl rfl fun a f => q_ng 8 22 rfl (by kernel_rfl) f rfl rfl bl rfl fun a f => q_ng 9 22 rfl (by kernel_rfl) f rfl rfl bl rfl fun a f => q_ng 10 22 rfl (by kernel_rfl) f rfl rfl bl rfl fun a f => q_ng 11 22 rfl (by kernel_rfl) f rfl rfl bl rfl fun a f => q_ng 12 22 rfl (by kernel_rfl) f rfl rfl bl rfl fun a f => q_ng 13 22 rfl (by kernel_rfl) f rfl rfl bl rfl fun a f => q_ng 14 22 rfl (by kernel_rfl) f rfl rfl bl rfl fun a f => q_ng 15 22 rfl (by kernel_rfl) f rfl rfl bl rfl fun a f => q_ng 16 22 rfl (by kernel_rfl) f rfl rfl bl rfl fun a f => q_ng 17 22 rfl (by kernel_rfl) f rfl rfl bl rfl fun a f => q_ng 18 22 rfl (by kernel_rfl) f rfl rfl bl rfl fun a f => q_ng 19 22 rfl (by kernel_rfl) f rfl rfl bl rfl fun a f => q_ng 20 22 rfl (by kernel_rfl) f rfl rfl bl rfl fun a f => ?_
     refine q_p 21 22 rfl (by kernel_rfl) f rfl rfl rfl (fun _ => r_pickF (f.eval rfl) bl (f.eval rfl)) fun a f => ?_
     obtain rfl := sj ar
     exact bk _ (f.weak ⟨rfl, rfl, rfl, rfl, rfl, rfl, rfl, rfl, rfl, rfl, rfl, rfl, rfl, trivial⟩)
 ·rintro a w ⟨_, rfl, ac, rfl, ad, ae, bC, f, m, bD⟩
  obtain rfl := sj hd
  exact ⟨[], trivial, f.defers, _, [ae], bC, m, _, rfl, bD⟩

theorem Wk.V0 {W w : World} {G : GH} {H : List Itm} {v0 : Value} {it0 : Itm} {x0 : (List Int)} {x1 : Int} {x2 : Int} (hW : TabW W) (m : Mem W G w (it0 :: H)) (o0 : Ow (RI .u32) 76 G it0 v0 x0) {y : ((List Int))} (hd : D.V0 x0 x1 x2 = some y) :
  Calls Tryz.prog 181 #[v0, (.int .i64 x1), (.int .i64 x2), (.func (.func 117) #[] #[])] w (Res W G H (fun G' Ho _ => ∃ i0 : Itm, Ho = [i0] ∧ Ow (RI .u32) 76 G' i0 v0 y)) := by
 refine calls_b (args := [v0, (.int .i64 x1), (.int .i64 x2), (.func (.func 117) #[] #[])]) (N := 60) [] Tryz.func181 rfl rfl (Nat.le_of_ble_eq_true rfl) rfl fun a f => ?_
 unfold D.V0 at hd
 refine k_seq (k_region ?_)
 refine l_mv f rfl rfl fun a f => l_as f rfl rfl fun a f => l_nil (k_seq (k_region ?_))
 refine l_as f rfl rfl fun a f => l_nil (k_seq (k_region ?_))
 refine l_mv f rfl rfl fun a f => l_mv f rfl rfl fun a f => l_in f rfl rfl rfl b_sub fun a f => l_as f rfl rfl fun a f => l_nil (k_seq (k_seq (k_region ?_)))
 refine l_mv f rfl rfl fun a f => l_in f rfl rfl rfl b_sub fun a f => l_in f rfl rfl rfl (b_quo rfl) fun a f => l_as f rfl rfl fun a f => l_nil ?_
 obtain ⟨aa, ab, hd⟩ := bind_some hd
 refine k_cut (fun a w => ∃ ac : List Int, ac = aa ∧ ∃ (ad : GH) (ae : Itm), GLe G ad ∧ Fr a 60 [(0, v0), (3, (.func (.func 117) #[] #[])), (8, (.int .i64 x1)), (9, (.int .i64 0)), (10, (.int .i64 (IntKind.i64.wrap (x2 - x1))))] ∧ Mem W ad w (ae :: H) ∧ Ow (RI .u32) 76 ad ae v0 ac) ?_ ?_
 ·refine k_block ?_
  refine k_loop (fun af a w => ∃ ag : List Int, ∃ ah : Int, (ag, ah) = af ∧ ∃ (ai : GH) (aj : Itm), GLe G ai ∧ Fr a 60 [(0, v0), (3, (.func (.func 117) #[] #[])), (8, (.int .i64 x1)), (9, (.int .i64 0)), (10, (.int .i64 (IntKind.i64.wrap (x2 - x1)))), (11, (.int .i64 ah))] ∧ Mem W ai w (aj :: H) ∧ Ow (RI .u32) 76 ai aj v0 ag) ab ⟨_, _, rfl, _, it0, (GLe.refl _), f.weak ⟨rfl, rfl, rfl, rfl, rfl, rfl, trivial⟩, m, o0⟩ ?_
  clear ab f m
  rintro af ak al am a w ⟨ag, ah, rfl, ai, aj, an, f, m, ao⟩
  refine k_seq (k_seq (k_region ?_))
  refine l_mv f rfl rfl fun a f => l_in f rfl rfl rfl b_geq fun a f => l_nil ?_
  rcases cond_some al with ⟨ap, al⟩ | ⟨ap, al⟩
  ·refine k_true f rfl ap ?_
   refine k_skip ?_
   refine k_seq (k_block (k_region ?_))
   refine l_mv f rfl rfl fun a f => l_mv f rfl rfl fun a f => l_mv f rfl rfl fun a f => l_mv f rfl rfl fun a f => l_mv f rfl rfl fun a f => ?_
   obtain ⟨aq, ar, al⟩ := bind_some al
   refine l_res f rfl rfl Tryz.call202 (Wk.C0 hW m ao ar) fun au av aw w ax m ay a f => ?_
   obtain ⟨az, rfl, aA⟩ := ay
   refine l_nil (k_region ?_)
   refine l_mv f rfl rfl fun a f => l_in f rfl rfl rfl b_sub fun a f => l_as f rfl rfl fun a f => l_nil ?_
   obtain rfl := sj al
   exact ⟨_, rfl, _, _, rfl, _, az, (GLe.trans an ax), f.weak ⟨rfl, rfl, rfl, rfl, rfl, rfl, trivial⟩, m, aA⟩
  ·refine k_false f rfl ap ?_
   refine k_exit rfl ?_
   obtain rfl := sj al
   obtain rfl := am _ rfl
   exact ⟨_, rfl, _, aj, an, f.weak ⟨rfl, rfl, rfl, rfl, rfl, trivial⟩, m, ao⟩
 ·rintro a w ⟨ac, rfl, ad, ae, aB, f, m, aC⟩
  refine k_seq (k_region ?_)
  refine l_mv f rfl rfl fun a f => l_in f rfl rfl rfl b_sub fun a f => l_as f rfl rfl fun a f => l_nil ?_
  obtain ⟨aD, aE, hd⟩ := bind_some hd
  refine k_cut (fun a w => ∃ aF : List Int, aF = aD ∧ ∃ (aG : GH) (aH : Itm), GLe ad aG ∧ Fr a 60 [] ∧ Mem W aG w (aH :: H) ∧ Ow (RI .u32) 76 aG aH v0 aF) ?_ ?_
  ·refine k_block ?_
   refine k_loop (fun aI a w => ∃ aJ : List Int, ∃ aK : Int, (aJ, aK) = aI ∧ ∃ (aL : GH) (aM : Itm), GLe ad aL ∧ Fr a 60 [(0, v0), (3, (.func (.func 117) #[] #[])), (8, (.int .i64 x1)), (9, (.int .i64 0)), (12, (.int .i64 aK))] ∧ Mem W aL w (aM :: H) ∧ Ow (RI .u32) 76 aL aM v0 aJ) aE ⟨_, _, rfl, _, ae, (GLe.refl _), f.weak ⟨rfl, rfl, rfl, rfl, rfl, trivial⟩, m, aC⟩ ?_
   clear aE f m
   rintro aI aN aO aP a w ⟨aJ, aK, rfl, aL, aM, aQ, f, m, aR⟩
   refine k_seq (k_seq (k_region ?_))
   refine l_mv f rfl rfl fun a f => l_in f rfl rfl rfl b_geq fun a f => l_nil ?_
   rcases cond_some aO with ⟨aS, aO⟩ | ⟨aS, aO⟩
   ·refine k_true f rfl aS ?_
    refine k_skip ?_
    refine k_seq (k_block (k_seq ?_))
    refine k_draw0 Follows m ?_
    refine p_p 2 rfl (by kernel_rfl) f rfl rfl rfl (fun _ => r_move (f.eval rfl)) fun a f => p_p 3 rfl (by kernel_rfl) f rfl rfl rfl (fun _ => r_move (f.eval rfl)) fun a f => p_p 4 rfl (by kernel_rfl) f rfl rfl rfl (fun _ => r_move (f.eval rfl)) fun a f => p_p 5 rfl (by kernel_rfl) f rfl rfl rfl (fun _ => r_int (f.eval rfl) (f.eval rfl) b_add) fun a f => k_draw1 60017 13 (by kernel_rfl) rfl ?_
    refine q_mv 0 60017 rfl (by kernel_rfl) f rfl rfl rfl fun a f => q_mv 1 60017 rfl (by kernel_rfl) f rfl rfl rfl fun a f => q_mv 6 60017 rfl (by kernel_rfl) f rfl rfl rfl fun a f => q_mv 7 60017 rfl (by kernel_rfl) f rfl rfl rfl fun a f => q_mv 8 60017 rfl (by kernel_rfl) f rfl rfl rfl fun a f => q_p 9 60017 rfl (by kernel_rfl) f rfl rfl rfl (fun _ => r_int (f.eval rfl) (f.eval rfl) b_add) fun a f => ?_
    obtain ⟨aT, aU, aO⟩ := bind_some aO
    refine q_own_at (i := 10) 60017 0 m aR rfl T71 aU rfl (by kernel_rfl) rfl f rfl rfl rfl rfl fun aV a aW f => q_own_load (i := 11) 60017 0 aR rfl Pl76 aW aU rfl (by kernel_rfl) rfl f rfl rfl rfl fun aX a aY f => ?_
    subst aY
    refine q_mv 12 60017 rfl (by kernel_rfl) f rfl rfl rfl fun a f => q_mv 13 60017 rfl (by kernel_rfl) f rfl rfl rfl fun a f => ?_
    obtain ⟨aZ, a0, aO⟩ := bind_some aO
    refine q_own_at (i := 14) 60017 0 m aR rfl T71 a0 rfl (by kernel_rfl) rfl f rfl rfl rfl rfl fun a1 a a2 f => q_own_load (i := 15) 60017 0 aR rfl Pl76 a2 a0 rfl (by kernel_rfl) rfl f rfl rfl rfl fun a3 a a4 f => ?_
    subst a4
    obtain ⟨a5, a6, aO⟩ := bind_some aO
    refine q_own_at (i := 16) 60017 0 m aR rfl T71 a6 rfl (by kernel_rfl) rfl f rfl rfl rfl rfl fun a7 a a8 f => q_end fun a9 w ba m => ?_
    have aR := od1 ba aR
    refine l_own_store 0 m aR rfl Tryz.sizeOf76 f rfl rfl a8 a6 rfl rfl rfl fun bb w m bc => ?_
    obtain ⟨bd, be, aO⟩ := bind_some aO
    refine l_own_at 0 m bc rfl T71 f rfl rfl rfl be fun bf a bg f => l_own_store 0 m bc rfl Tryz.sizeOf76 f rfl rfl bg be rfl rfl rfl fun bh w m bi => l_nil (k_region ?_)
    refine l_mv f rfl rfl fun a f => l_mv f rfl rfl fun a f => l_mv f rfl rfl fun a f => l_mv f rfl rfl fun a f => l_mv f rfl rfl fun a f => ?_
    obtain ⟨bj, bk, aO⟩ := bind_some aO
    refine l_res f rfl rfl Tryz.call202 (Wk.C0 hW m bi bk) fun bl bm bn w bo m bp a f => ?_
    obtain ⟨bq, rfl, br⟩ := bp
    refine l_nil (k_region ?_)
    refine l_mv f rfl rfl fun a f => l_in f rfl rfl rfl b_sub fun a f => l_as f rfl rfl fun a f => l_nil ?_
    obtain rfl := sj aO
    exact ⟨_, rfl, _, _, rfl, _, bq, (GLe.trans aQ (GLe.trans ba bo)), f.weak ⟨rfl, rfl, rfl, rfl, rfl, trivial⟩, m, br⟩
   ·refine k_false f rfl aS ?_
    refine k_exit rfl ?_
    obtain rfl := sj aO
    obtain rfl := aP _ rfl
    exact ⟨_, rfl, _, aM, aQ, f.weak trivial, m, aR⟩
  ·rintro a w ⟨aF, rfl, aG, aH, bs, f, m, bt⟩
   obtain rfl := sj hd
   exact ⟨[], trivial, f.defers, _, [aH], (GLe.trans aB bs), m, _, rfl, bt⟩

theorem Wk.b1 {W w : World} {G : GH} {H : List Itm} {v0 : Value} {it0 : Itm} {x0 : (List Int)} {x1 : Int} {x2 : Int} (m : Mem W G w (it0 :: H)) (o0 : Ow (RI .u32) 76 G it0 v0 x0) {y : ((List Int))} (hd : D.b1 x0 x1 x2 = some y) :
  Calls Tryz.prog 182 #[v0, (.int .i64 x1), (.int .i64 x2), (.func (.func 117) #[] #[])] w (Res W G H (fun G' Ho _ => ∃ i0 : Itm, Ho = [i0] ∧ Ow (RI .u32) 76 G' i0 v0 y)) := by
 refine calls_b (args := [v0, (.int .i64 x1), (.int .i64 x2), (.func (.func 117) #[] #[])]) (N := 67) [] Tryz.func182 rfl rfl (Nat.le_of_ble_eq_true rfl) rfl fun a f => ?_
 unfold D.b1 at hd
 refine k_seq (k_region ?_)
 refine l_mv f rfl rfl fun a f => l_mv f rfl rfl fun a f => l_in f rfl rfl rfl b_sub fun a f => l_as f rfl rfl fun a f => l_nil (k_seq (k_region ?_))
 refine l_mv f rfl rfl fun a f => l_in f rfl rfl rfl b_geq fun a f => l_nil ?_
 rcases cond_some hd with ⟨aa, hd⟩ | ⟨aa, hd⟩
 ·refine k_true f rfl aa ?_
  refine k_seq (k_region ?_)
  refine l_mv f rfl rfl fun a f => l_op f rfl rfl rfl (r_conv (f.eval rfl) ⟨_, Tryz.underlying3⟩ Tryz.underlying190) fun a f => l_alloc (cs := [(.int .u64 0)]) Tryz.zeroValue190 m f rfl rfl fun ab w a m f => l_boxStore 0 0 (ds := [(.int .u64 (IntKind.u64.wrap (IntKind.i64.wrap (x2 - x1))))]) m Tryz.sizeOf190 f rfl rfl rfl (ones_cons rfl ones_nil) rfl (Nat.le_of_ble_eq_true rfl) rfl fun w m => l_nil (k_seq (k_region ?_))
  refine l_mv f rfl rfl fun a f => ?_
  obtain ⟨ac, ad, hd⟩ := bind_some hd
  refine l_res f rfl rfl Tryz.call190 (Wk.O m  ad) fun ae af ag w ah m ai a f => ?_
  obtain ⟨rfl, rfl⟩ := ai
  have o0 := od1 ah o0
  refine l_as f rfl rfl fun a f => l_nil (k_seq (k_region ?_))
  refine l_mv f rfl rfl fun a f => l_mv f rfl rfl fun a f => l_in f rfl rfl rfl (b_quo rfl) fun a f => l_in f rfl rfl rfl b_mul fun a f => l_in f rfl rfl rfl b_add fun a f => l_in f rfl rfl rfl b_sub fun a f => l_as f rfl rfl fun a f => l_nil ?_
  obtain ⟨aj, ak, hd⟩ := bind_some hd
  refine k_cut (fun a w => ∃ al : List Int, al = aj ∧ ∃ (am : GH) (an : Itm), GLe af am ∧ Fr a 67 [] ∧ Mem W am w (an :: H) ∧ Ow (RI .u32) 76 am an v0 al) ?_ ?_
  ·refine k_block ?_
   refine k_loop (fun ao a w => ∃ ap : List Int, ∃ aq : Int, ∃ ar : Int, (ap, aq, ar) = ao ∧ ∃ (au : GH) (av : Itm), GLe af au ∧ Fr a 67 [(0, v0), (1, (.int .i64 x1)), (8, (.int .i64 (IntKind.i64.wrap (x2 - x1)))), (9, (.pointer (some ⟨ab, 0, none⟩))), (10, (.int .u64 ac)), (11, (.int .i64 aq))] ∧ Mem W au w (Itm.box ab 190 [(.int .u64 ar)] :: av :: H) ∧ Ow (RI .u32) 76 au av v0 ap) ak ⟨_, _, _, rfl, _, it0, (GLe.refl _), f.weak ⟨rfl, rfl, rfl, rfl, rfl, rfl, trivial⟩, m, o0⟩ ?_
   clear ak f m
   rintro ao aw ax ay a w ⟨ap, aq, ar, rfl, au, av, az, f, m, aA⟩
   refine k_seq (k_seq (k_region ?_))
   refine l_mv f rfl rfl fun a f => l_mv f rfl rfl fun a f => l_mv f rfl rfl fun a f => l_in f rfl rfl rfl (b_quo rfl) fun a f => l_in f rfl rfl rfl b_mul fun a f => l_in f rfl rfl rfl b_add fun a f => l_in f rfl rfl rfl b_add fun a f => l_in f rfl rfl rfl b_leq fun a f => l_nil ?_
   rcases cond_some ax with ⟨aB, ax⟩ | ⟨aB, ax⟩
   ·refine k_true f rfl aB ?_
    refine k_skip ?_
    refine k_seq (k_block (k_seq (k_region ?_)))
    obtain ⟨aC, aD, ax⟩ := bind_some ax
    refine l_res f rfl rfl Tryz.call191 (Wk.c0 m  aD) fun aE aF aG w aH m aI a f => ?_
    obtain ⟨rfl, rfl⟩ := aI
    have aA := od1 aH aA
    refine l_mv f rfl rfl fun a f => l_in f rfl rfl rfl b_sub fun a f => l_in f rfl rfl rfl b_and fun a f => l_op f rfl rfl rfl (r_conv (f.eval rfl) ⟨_, Tryz.underlying135⟩ Tryz.underlying3) fun a f => l_as f rfl rfl fun a f => l_nil (k_seq (k_seq (k_region ?_)))
    refine l_mv f rfl rfl fun a f => l_mv f rfl rfl fun a f => l_in f rfl rfl rfl b_geq fun a f => l_nil ?_
    obtain ⟨aJ, aK, ax⟩ := bind_some ax
    refine k_cut (fun a w => ∃ aL : Int, aL = aJ ∧ ∃ (aM : GH), GLe aF aM ∧ Fr a 67 [(0, v0), (1, (.int .i64 x1)), (8, (.int .i64 (IntKind.i64.wrap (x2 - x1)))), (9, (.pointer (some ⟨ab, 0, none⟩))), (10, (.int .u64 ac)), (11, (.int .i64 aq)), (12, (.int .i64 aL))] ∧ Mem W aM w (Itm.box ab 190 [(.int .u64 aC.2)] :: av :: H)) ?_ ?_
    ·rcases cond_some aK with ⟨aN, aK⟩ | ⟨aN, aK⟩
     ·refine k_true f rfl aN ?_
      refine k_region ?_
      refine l_mv f rfl rfl fun a f => l_mv f rfl rfl fun a f => l_in f rfl rfl rfl b_sub fun a f => l_as f rfl rfl fun a f => l_nil ?_
      obtain rfl := sj aK
      exact ⟨_, rfl, _, (GLe.refl _), f.weak ⟨rfl, rfl, rfl, rfl, rfl, rfl, rfl, trivial⟩, m⟩
     ·refine k_false f rfl aN ?_
      refine k_skip ?_
      obtain rfl := sj aK
      exact ⟨_, rfl, _, (GLe.refl _), f.weak ⟨rfl, rfl, rfl, rfl, rfl, rfl, rfl, trivial⟩, m⟩
    ·rintro a w ⟨aL, rfl, aM, aO, f, m⟩
     have aA := od1 aO aA
     refine k_draw0 Follows m ?_
     refine p_p 2 rfl (by kernel_rfl) f rfl rfl rfl (fun _ => r_move (f.eval rfl)) fun a f => p_p 3 rfl (by kernel_rfl) f rfl rfl rfl (fun _ => r_move (f.eval rfl)) fun a f => p_p 4 rfl (by kernel_rfl) f rfl rfl rfl (fun _ => r_move (f.eval rfl)) fun a f => p_p 5 rfl (by kernel_rfl) f rfl rfl rfl (fun _ => r_int (f.eval rfl) (f.eval rfl) b_add) fun a f => k_draw1 60017 13 (by kernel_rfl) rfl ?_
     refine q_mv 0 60017 rfl (by kernel_rfl) f rfl rfl rfl fun a f => q_mv 1 60017 rfl (by kernel_rfl) f rfl rfl rfl fun a f => q_mv 6 60017 rfl (by kernel_rfl) f rfl rfl rfl fun a f => q_mv 7 60017 rfl (by kernel_rfl) f rfl rfl rfl fun a f => q_mv 8 60017 rfl (by kernel_rfl) f rfl rfl rfl fun a f => q_p 9 60017 rfl (by kernel_rfl) f rfl rfl rfl (fun _ => r_int (f.eval rfl) (f.eval rfl) b_add) fun a f => ?_
     obtain ⟨aP, aQ, ax⟩ := bind_some ax
     refine q_own_at (i := 10) 60017 1 m aA rfl T71 aQ rfl (by kernel_rfl) rfl f rfl rfl rfl rfl fun aR a aS f => q_own_load (i := 11) 60017 1 aA rfl Pl76 aS aQ rfl (by kernel_rfl) rfl f rfl rfl rfl fun aT a aU f => ?_
     subst aU
     refine q_mv 12 60017 rfl (by kernel_rfl) f rfl rfl rfl fun a f => q_mv 13 60017 rfl (by kernel_rfl) f rfl rfl rfl fun a f => ?_
     obtain ⟨aV, aW, ax⟩ := bind_some ax
     refine q_own_at (i := 14) 60017 1 m aA rfl T71 aW rfl (by kernel_rfl) rfl f rfl rfl rfl rfl fun aX a aY f => q_own_load (i := 15) 60017 1 aA rfl Pl76 aY aW rfl (by kernel_rfl) rfl f rfl rfl rfl fun aZ a a0 f => ?_
     subst a0
     obtain ⟨a1, a2, ax⟩ := bind_some ax
     refine q_own_at (i := 16) 60017 1 m aA rfl T71 a2 rfl (by kernel_rfl) rfl f rfl rfl rfl rfl fun a3 a a4 f => q_end fun a5 w a6 m => ?_
     have aA := od1 a6 aA
     refine l_own_store 1 m aA rfl Tryz.sizeOf76 f rfl rfl a4 a2 rfl rfl rfl fun a7 w m a8 => ?_
     obtain ⟨a9, ba, ax⟩ := bind_some ax
     refine l_own_at 1 m a8 rfl T71 f rfl rfl rfl ba fun bb a bc f => l_own_store 1 m a8 rfl Tryz.sizeOf76 f rfl rfl bc ba rfl rfl rfl fun bd w m be => l_nil (k_region ?_)
     refine l_mv f rfl rfl fun a f => l_in f rfl rfl rfl b_add fun a f => l_as f rfl rfl fun a f => l_nil ?_
     obtain rfl := sj ax
     exact ⟨_, rfl, _, _, _, rfl, _, bd, (GLe.trans az (GLe.trans aH (GLe.trans aO a6))), f.weak ⟨rfl, rfl, rfl, rfl, rfl, rfl, trivial⟩, m, be⟩
   ·refine k_false f rfl aB ?_
    refine k_exit rfl ?_
    have m := m.front 1 rfl
    have m := m.eraseAt 1
    obtain rfl := sj ax
    obtain rfl := ay _ rfl
    exact ⟨_, rfl, _, av, az, f.weak trivial, m, aA⟩
  ·rintro a w ⟨al, rfl, am, an, bf, f, m, bg⟩
   obtain rfl := sj hd
   exact ⟨[], trivial, f.defers, _, [an], (GLe.trans ah bf), m, _, rfl, bg⟩
 ·refine k_false f rfl aa ?_
  refine k_skip ?_
  obtain rfl := sj hd
  exact ⟨[], trivial, f.defers, _, [it0], (GLe.refl _), m, _, rfl, o0⟩

theorem Wk.S {W w : World} {G : GH} {H : List Itm} {v0 : Value} {it0 : Itm} {b3 : Nat} {x0 : (List Int)} {x1 : Int} {x2 : Int} {x3_0 : Int} (hW : TabW W) (m : Mem W G w (it0 :: Itm.box b3 3 [(.int .i64 x3_0)] :: H)) (o0 : Ow (RI .u32) 76 G it0 v0 x0) {y : Int × Int × ((List Int)) × Int} (hd : D.S x0 x1 x2 x3_0 = some y) :
  Calls Tryz.prog 217 #[v0, (.int .i64 x1), (.int .i64 x2), (.pointer (some ⟨b3, 0, none⟩)), (.func (.func 117) #[] #[])] w (Res W G H (fun G' Ho v => ∃ i0 : Itm, Ho = [i0, Itm.box b3 3 [(.int .i64 y.2.2.2)]] ∧ v = .tuple #[(.int .i64 y.1), (.int .i64 y.2.1)] ∧ Ow (RI .u32) 76 G' i0 v0 y.2.2.1)) := by
 refine calls_b (args := [v0, (.int .i64 x1), (.int .i64 x2), (.pointer (some ⟨b3, 0, none⟩)), (.func (.func 117) #[] #[])]) (N := 32) [.tmp 10, .tmp 11] Tryz.func217 rfl rfl (Nat.le_of_ble_eq_true rfl) rfl fun a f => ?_
 unfold D.S at hd
 refine k_seq (k_region ?_)
 refine l_as f rfl rfl fun a f => l_as f rfl rfl fun a f => l_nil (k_seq (k_seq ?_))
 refine k_draw 11 Follows (by kernel_rfl) m ?_
 refine q_mv 0 11 rfl (by kernel_rfl) f rfl rfl rfl fun a f => q_mv 1 11 rfl (by kernel_rfl) f rfl rfl rfl fun a f => q_mv 2 11 rfl (by kernel_rfl) f rfl rfl rfl fun a f => ?_
 obtain ⟨aa, ab, hd⟩ := bind_some hd
 refine q_own_at (i := 3) 11 0 m o0 rfl T71 ab rfl (by kernel_rfl) rfl f rfl rfl rfl rfl fun ac a ad f => q_own_load (i := 4) 11 0 o0 rfl Pl76 ad ab rfl (by kernel_rfl) rfl f rfl rfl rfl fun ae a af f => ?_
 subst af
 refine q_mv 5 11 rfl (by kernel_rfl) f rfl rfl rfl fun a f => q_mv 6 11 rfl (by kernel_rfl) f rfl rfl rfl fun a f => ?_
 obtain ⟨ag, ah, hd⟩ := bind_some hd
 refine q_own_at (i := 7) 11 0 m o0 rfl T71 ah rfl (by kernel_rfl) rfl f rfl rfl rfl rfl fun ai a aj f => q_own_load (i := 8) 11 0 o0 rfl Pl76 aj ah rfl (by kernel_rfl) rfl f rfl rfl rfl fun ak a al f => ?_
 subst al
 obtain ⟨am, an, hd⟩ := bind_some hd
 refine q_callv (i := 9) 11 rfl (by kernel_rfl) rfl f rfl rfl rfl rfl Tryz.call117 (fun _ _ w ao m => Wk.a hW m  an) fun a f => q_p 10 11 rfl (by kernel_rfl) f rfl rfl rfl (fun _ => r_int (f.eval rfl) (f.eval rfl) b_lss) fun a f => q_end fun ap w aq m => ?_
 have o0 := od1 aq o0
 refine l_nil ?_
 rcases cond_some hd with ⟨ar, hd⟩ | ⟨ar, hd⟩
 ·refine k_true f rfl ar ?_
  refine k_seq (k_region ?_)
  refine l_mv f rfl rfl fun a f => l_op f rfl rfl rfl (r_nilCheck (f.eval rfl)) fun a f => l_boxCell 1 0 m Pl3 f rfl rfl rfl rfl fun a f => l_in f rfl rfl rfl b_add fun a f => l_op f rfl rfl rfl (r_nilCheck (f.eval rfl)) fun a f => l_boxStore 1 0 (ds := [(.int .i64 (IntKind.i64.wrap (x3_0 + 1)))]) m Tryz.sizeOf3 f rfl rfl rfl (ones_cons rfl ones_nil) rfl (Nat.le_of_ble_eq_true rfl) rfl fun w m => l_nil (k_seq (k_region ?_))
  refine l_mv f rfl rfl fun a f => l_mv f rfl rfl fun a f => l_as f rfl rfl fun a f => l_as f rfl rfl fun a f => l_nil ?_
  refine k_ret ?_
  obtain rfl := sj hd
  exact ⟨[(.int .i64 x2), (.int .i64 x1)], ⟨f.get _ _ rfl, f.get _ _ rfl, trivial⟩, f.defers, _, [it0, Itm.box b3 3 [(.int .i64 (IntKind.i64.wrap (x3_0 + 1)))]], aq, m, _, rfl, rfl, o0⟩
 ·refine k_false f rfl ar ?_
  refine k_skip ?_
  refine k_seq (k_region ?_)
  refine l_mv f rfl rfl fun a f => l_mv f rfl rfl fun a f => l_as f rfl rfl fun a f => l_as f rfl rfl fun a f => l_nil ?_
  refine k_ret ?_
  obtain rfl := sj hd
  exact ⟨[(.int .i64 x1), (.int .i64 x2)], ⟨f.get _ _ rfl, f.get _ _ rfl, trivial⟩, f.defers, _, [it0, Itm.box b3 3 [(.int .i64 x3_0)]], aq, m, _, rfl, rfl, o0⟩

theorem Wk.t0 {W w : World} {G : GH} {H : List Itm} {v0 : Value} {it0 : Itm} {b4 : Nat} {x0 : (List Int)} {x1 : Int} {x2 : Int} {x3 : Int} {x4_0 : Int} (hW : TabW W) (m : Mem W G w (it0 :: Itm.box b4 3 [(.int .i64 x4_0)] :: H)) (o0 : Ow (RI .u32) 76 G it0 v0 x0) {y : Int × ((List Int)) × Int} (hd : D.t0 x0 x1 x2 x3 x4_0 = some y) :
  Calls Tryz.prog 204 #[v0, (.int .i64 x1), (.int .i64 x2), (.int .i64 x3), (.pointer (some ⟨b4, 0, none⟩)), (.func (.func 117) #[] #[])] w (Res W G H (fun G' Ho v => ∃ i0 : Itm, Ho = [i0, Itm.box b4 3 [(.int .i64 y.2.2)]] ∧ v = (.int .i64 y.1) ∧ Ow (RI .u32) 76 G' i0 v0 y.2.1)) := by
 refine calls_b (args := [v0, (.int .i64 x1), (.int .i64 x2), (.int .i64 x3), (.pointer (some ⟨b4, 0, none⟩)), (.func (.func 117) #[] #[])]) (N := 41) [.tmp 12] Tryz.func204 rfl rfl (Nat.le_of_ble_eq_true rfl) rfl fun a f => ?_
 unfold D.t0 at hd
 refine k_seq (k_region ?_)
 refine l_as f rfl rfl fun a f => l_nil (k_seq (k_region ?_))
 refine l_mv f rfl rfl fun a f => l_mv f rfl rfl fun a f => l_mv f rfl rfl fun a f => l_mv f rfl rfl fun a f => l_mv f rfl rfl fun a f => ?_
 obtain ⟨aa, ab, hd⟩ := bind_some hd
 refine l_res f rfl rfl Tryz.call217 (Wk.S hW m o0 ab) fun ac ad ae w af m ag a f => ?_
 obtain ⟨ah, rfl, rfl, ai⟩ := ag
 refine l_mv f rfl rfl fun a f => l_op f rfl rfl rfl (r_extract (f.eval rfl) rfl) fun a f => l_op f rfl rfl rfl (r_extract (f.eval rfl) rfl) fun a f => l_as f rfl rfl fun a f => l_as f rfl rfl fun a f => l_nil (k_seq (k_region ?_))
 refine l_mv f rfl rfl fun a f => l_mv f rfl rfl fun a f => l_mv f rfl rfl fun a f => l_mv f rfl rfl fun a f => l_mv f rfl rfl fun a f => ?_
 obtain ⟨aj, ak, hd⟩ := bind_some hd
 refine l_res f rfl rfl Tryz.call217 (Wk.S hW m ai ak) fun al am an w ao m ap a f => ?_
 obtain ⟨aq, rfl, rfl, ar⟩ := ap
 refine l_mv f rfl rfl fun a f => l_op f rfl rfl rfl (r_extract (f.eval rfl) rfl) fun a f => l_op f rfl rfl rfl (r_extract (f.eval rfl) rfl) fun a f => l_as f rfl rfl fun a f => l_as f rfl rfl fun a f => l_nil (k_seq (k_region ?_))
 refine l_mv f rfl rfl fun a f => l_mv f rfl rfl fun a f => l_mv f rfl rfl fun a f => l_mv f rfl rfl fun a f => l_mv f rfl rfl fun a f => ?_
 obtain ⟨au, av, hd⟩ := bind_some hd
 refine l_res f rfl rfl Tryz.call217 (Wk.S hW m ar av) fun aw ax ay w az m aA a f => ?_
 obtain ⟨aB, rfl, rfl, aC⟩ := aA
 refine l_mv f rfl rfl fun a f => l_op f rfl rfl rfl (r_extract (f.eval rfl) rfl) fun a f => l_op f rfl rfl rfl (r_extract (f.eval rfl) rfl) fun a f => l_as f rfl rfl fun a f => l_as f rfl rfl fun a f => l_nil (k_seq (k_region ?_))
 refine l_mv f rfl rfl fun a f => l_as f rfl rfl fun a f => l_nil ?_
 refine k_ret ?_
 obtain rfl := sj hd
 exact ⟨[(.int .i64 au.2.1)], ⟨f.get _ _ rfl, trivial⟩, f.defers, _, [aB, Itm.box b4 3 [(.int .i64 au.2.2.2)]], (GLe.trans af (GLe.trans ao az)), m, _, rfl, rfl, aC⟩

theorem Wk.f0 {W w : World} {G : GH} {H : List Itm} {v0 : Value} {it0 : Itm} {b2 : Nat} {x0 : (List Int)} {x1 : Int} {x2_0 : Int} (hW : TabW W) (m : Mem W G w (it0 :: Itm.box b2 3 [(.int .i64 x2_0)] :: H)) (o0 : Ow (RI .u32) 76 G it0 v0 x0) {y : Int × ((List Int)) × Int} (hd : D.f0 x0 x1 x2_0 = some y) :
  Calls Tryz.prog 203 #[v0, (.int .i64 x1), (.pointer (some ⟨b2, 0, none⟩)), (.func (.func 117) #[] #[])] w (Res W G H (fun G' Ho v => ∃ i0 : Itm, Ho = [i0, Itm.box b2 3 [(.int .i64 y.2.2)]] ∧ v = (.int .i64 y.1) ∧ Ow (RI .u32) 76 G' i0 v0 y.2.1)) := by
 refine calls_b (args := [v0, (.int .i64 x1), (.pointer (some ⟨b2, 0, none⟩)), (.func (.func 117) #[] #[])]) (N := 18) [.tmp 8] Tryz.func203 rfl rfl (Nat.le_of_ble_eq_true rfl) rfl fun a f => ?_
 unfold D.f0 at hd
 refine k_seq (k_region ?_)
 refine l_as f rfl rfl fun a f => l_nil (k_seq (k_region ?_))
 refine l_mv f rfl rfl fun a f => l_mv f rfl rfl fun a f => l_in f rfl rfl rfl b_sub fun a f => l_mv f rfl rfl fun a f => l_mv f rfl rfl fun a f => l_in f rfl rfl rfl b_add fun a f => l_mv f rfl rfl fun a f => l_mv f rfl rfl fun a f => ?_
 obtain ⟨aa, ab, hd⟩ := bind_some hd
 refine l_res f rfl rfl Tryz.call204 (Wk.t0 hW m o0 ab) fun ac ad ae w af m ag a f => ?_
 obtain ⟨ah, rfl, rfl, ai⟩ := ag
 refine l_as f rfl rfl fun a f => l_nil ?_
 refine k_ret ?_
 obtain rfl := sj hd
 exact ⟨[(.int .i64 aa.1)], ⟨f.get _ _ rfl, trivial⟩, f.defers, _, [ah, Itm.box b2 3 [(.int .i64 aa.2.2)]], af, m, _, rfl, rfl, ai⟩

theorem Wk.g1 {W w : World} {G : GH} {H : List Itm} {v0 : Value} {it0 : Itm} {x0 : (List Int)} {x1 : Int} {x2 : Int} (hW : TabW W) (m : Mem W G w (it0 :: H)) (o0 : Ow (RI .u32) 76 G it0 v0 x0) {y : Int × Int × ((List Int))} (hd : D.g1 x0 x1 x2 = some y) :
  Calls Tryz.prog 183 #[v0, (.int .i64 x1), (.int .i64 x2), (.func (.func 117) #[] #[])] w (Res W G H (fun G' Ho v => ∃ i0 : Itm, Ho = [i0] ∧ v = .tuple #[(.int .i64 y.1), (.int .i64 y.2.1)] ∧ Ow (RI .u32) 76 G' i0 v0 y.2.2)) := by
 refine calls_b (args := [v0, (.int .i64 x1), (.int .i64 x2), (.func (.func 117) #[] #[])]) (N := 63) [.tmp 8, .tmp 9] Tryz.func183 rfl rfl (Nat.le_of_ble_eq_true rfl) rfl fun a f => ?_
 unfold D.g1 at hd
 refine k_seq (k_region ?_)
 refine l_as f rfl rfl fun a f => l_as f rfl rfl fun a f => l_nil (k_seq (k_region ?_))
 refine l_mv f rfl rfl fun a f => l_mv f rfl rfl fun a f => l_in f rfl rfl rfl b_sub fun a f => l_as f rfl rfl fun a f => l_nil (k_seq (k_region ?_))
 refine l_alloc (cs := [(.int .i64 0)]) Tryz.zeroValue3 m f rfl rfl fun aa w a m f => l_nil (k_seq (k_region ?_))
 refine l_mv f rfl rfl fun a f => l_mv f rfl rfl fun a f => l_in f rfl rfl rfl (b_quo rfl) fun a f => l_in f rfl rfl rfl b_mul fun a f => l_in f rfl rfl rfl b_add fun a f => l_as f rfl rfl fun a f => l_nil (k_seq (k_region ?_))
 refine l_mv f rfl rfl fun a f => l_mv f rfl rfl fun a f => l_in f rfl rfl rfl (b_quo rfl) fun a f => l_in f rfl rfl rfl b_mul fun a f => l_in f rfl rfl rfl b_add fun a f => l_as f rfl rfl fun a f => l_nil (k_seq (k_region ?_))
 refine l_mv f rfl rfl fun a f => l_mv f rfl rfl fun a f => l_in f rfl rfl rfl (b_quo rfl) fun a f => l_in f rfl rfl rfl b_mul fun a f => l_in f rfl rfl rfl b_add fun a f => l_as f rfl rfl fun a f => l_nil (k_seq (k_seq (k_region ?_)))
 refine l_mv f rfl rfl fun a f => l_in f rfl rfl rfl b_geq fun a f => l_nil ?_
 rcases cond_some hd with ⟨ab, hd⟩ | ⟨ab, hd⟩
 ·refine k_true f rfl ab ?_
  refine k_seq (k_seq (k_region ?_))
  refine l_mv f rfl rfl fun a f => l_in f rfl rfl rfl b_geq fun a f => l_nil ?_
  obtain ⟨ac, ad, hd⟩ := bind_some hd
  refine k_cut (fun a w => ∃ ae : List Int, ∃ af : Int, ∃ ag : Int, ∃ ah : Int, ∃ ai : Int, (ae, af, ag, ah, ai) = ac ∧ ∃ (aj : GH) (ak : Itm), GLe G aj ∧ Fr a 63 [(0, v0), (3, (.func (.func 117) #[] #[])), (11, (.pointer (some ⟨aa, 0, none⟩))), (12, (.int .i64 af)), (13, (.int .i64 ag)), (14, (.int .i64 ah))] ∧ Mem W aj w (Itm.box aa 3 [(.int .i64 ai)] :: ak :: H) ∧ Ow (RI .u32) 76 aj ak v0 ae) ?_ ?_
  ·rcases cond_some ad with ⟨al, ad⟩ | ⟨al, ad⟩
   ·refine k_true f rfl al ?_
    refine k_seq (k_region ?_)
    refine l_mv f rfl rfl fun a f => l_mv f rfl rfl fun a f => l_mv f rfl rfl fun a f => ?_
    have m := m.front 1 rfl
    obtain ⟨am, an, ad⟩ := bind_some ad
    refine l_res f rfl rfl Tryz.call203 (Wk.f0 hW m o0 an) fun ao ap aq w ar m au a f => ?_
    obtain ⟨av, rfl, rfl, aw⟩ := au
    refine l_as f rfl rfl fun a f => l_nil (k_seq (k_region ?_))
    refine l_mv f rfl rfl fun a f => l_mv f rfl rfl fun a f => l_mv f rfl rfl fun a f => ?_
    obtain ⟨ax, ay, ad⟩ := bind_some ad
    refine l_res f rfl rfl Tryz.call203 (Wk.f0 hW m aw ay) fun az aA aB w aC m aD a f => ?_
    obtain ⟨aE, rfl, rfl, aF⟩ := aD
    refine l_as f rfl rfl fun a f => l_nil (k_region ?_)
    refine l_mv f rfl rfl fun a f => l_mv f rfl rfl fun a f => l_mv f rfl rfl fun a f => ?_
    obtain ⟨aG, aH, ad⟩ := bind_some ad
    refine l_res f rfl rfl Tryz.call203 (Wk.f0 hW m aF aH) fun aI aJ aK w aL m aM a f => ?_
    obtain ⟨aN, rfl, rfl, aO⟩ := aM
    refine l_as f rfl rfl fun a f => l_nil ?_
    have m := m.front 1 rfl
    obtain rfl := sj ad
    exact ⟨_, _, _, _, _, rfl, _, aN, (GLe.trans ar (GLe.trans aC aL)), f.weak ⟨rfl, rfl, rfl, rfl, rfl, rfl, trivial⟩, m, aO⟩
   ·refine k_false f rfl al ?_
    refine k_skip ?_
    obtain rfl := sj ad
    exact ⟨_, _, _, _, _, rfl, _, it0, (GLe.refl _), f.weak ⟨rfl, rfl, rfl, rfl, rfl, rfl, trivial⟩, m, o0⟩
  ·rintro a w ⟨ae, af, ag, ah, ai, rfl, aj, ak, aP, f, m, aQ⟩
   refine k_region ?_
   refine l_mv f rfl rfl fun a f => l_mv f rfl rfl fun a f => l_mv f rfl rfl fun a f => l_mv f rfl rfl fun a f => l_mv f rfl rfl fun a f => ?_
   have m := m.front 1 rfl
   obtain ⟨aR, aS, hd⟩ := bind_some hd
   refine l_res f rfl rfl Tryz.call204 (Wk.t0 hW m aQ aS) fun aT aU aV w aW m aX a f => ?_
   obtain ⟨aY, rfl, rfl, aZ⟩ := aX
   refine l_as f rfl rfl fun a f => l_nil (k_seq (k_region ?_))
   refine l_boxCell 1 0 m Pl3 f rfl rfl rfl rfl fun a f => l_nil (k_block (k_seq (k_region ?_)))
   refine l_in f rfl rfl rfl b_eql fun a f => l_as f rfl rfl fun a f => l_nil ?_
   rcases cond_some hd with ⟨a0, hd⟩ | ⟨a0, hd⟩
   ·refine k_true f rfl a0 ?_
    refine k_seq (k_region ?_)
    refine l_mv f rfl rfl fun a f => l_as f rfl rfl fun a f => l_as f rfl rfl fun a f => l_nil ?_
    refine k_ret ?_
    have m := m.eraseAt 1
    obtain rfl := sj hd
    exact ⟨[(.int .i64 aR.1), (.int .i64 1)], ⟨f.get _ _ rfl, f.get _ _ rfl, trivial⟩, f.defers, _, [aY], (GLe.trans aP aW), m, _, rfl, rfl, aZ⟩
   ·refine k_false f rfl a0 ?_
    refine k_seq (k_region ?_)
    refine l_in f rfl rfl rfl b_eql fun a f => l_as f rfl rfl fun a f => l_nil ?_
    rcases cond_some hd with ⟨a1, hd⟩ | ⟨a1, hd⟩
    ·refine k_true f rfl a1 ?_
     refine k_seq (k_region ?_)
     refine l_mv f rfl rfl fun a f => l_as f rfl rfl fun a f => l_as f rfl rfl fun a f => l_nil ?_
     refine k_ret ?_
     have m := m.eraseAt 1
     obtain rfl := sj hd
     exact ⟨[(.int .i64 aR.1), (.int .i64 2)], ⟨f.get _ _ rfl, f.get _ _ rfl, trivial⟩, f.defers, _, [aY], (GLe.trans aP aW), m, _, rfl, rfl, aZ⟩
    ·refine k_false f rfl a1 ?_
     refine k_seq (k_region ?_)
     refine l_mv f rfl rfl fun a f => l_as f rfl rfl fun a f => l_as f rfl rfl fun a f => l_nil ?_
     refine k_ret ?_
     have m := m.eraseAt 1
     obtain rfl := sj hd
     exact ⟨[(.int .i64 aR.1), (.int .i64 0)], ⟨f.get _ _ rfl, f.get _ _ rfl, trivial⟩, f.defers, _, [aY], (GLe.trans aP aW), m, _, rfl, rfl, aZ⟩
 ·refine k_false f rfl ab ?_
  refine k_skip ?_
  refine k_seq (k_region ?_)
  refine l_boxCell 0 0 m Pl3 f rfl rfl rfl rfl fun a f => l_nil (k_block (k_seq (k_region ?_)))
  refine l_in f rfl rfl rfl b_eql fun a f => l_as f rfl rfl fun a f => l_nil ?_
  rcases cond_some hd with ⟨a2, hd⟩ | ⟨a2, hd⟩
  ·refine k_true f rfl a2 ?_
   refine k_seq (k_region ?_)
   refine l_mv f rfl rfl fun a f => l_as f rfl rfl fun a f => l_as f rfl rfl fun a f => l_nil ?_
   refine k_ret ?_
   have m := m.front 1 rfl
   have m := m.eraseAt 1
   obtain rfl := sj hd
   exact ⟨[(.int .i64 (IntKind.i64.wrap (x1 + (IntKind.i64.wrap ((IntKind.i64.wrap (Int.tdiv (IntKind.i64.wrap (x2 - x1)) 4)) * 2))))), (.int .i64 1)], ⟨f.get _ _ rfl, f.get _ _ rfl, trivial⟩, f.defers, _, [it0], (GLe.refl _), m, _, rfl, rfl, o0⟩
  ·refine k_false f rfl a2 ?_
   refine k_seq (k_region ?_)
   refine l_in f rfl rfl rfl b_eql fun a f => l_as f rfl rfl fun a f => l_nil ?_
   rcases cond_some hd with ⟨a3, hd⟩ | ⟨a3, hd⟩
   ·refine k_true f rfl a3 ?_
    refine k_seq (k_region ?_)
    refine l_mv f rfl rfl fun a f => l_as f rfl rfl fun a f => l_as f rfl rfl fun a f => l_nil ?_
    refine k_ret ?_
    have m := m.front 1 rfl
    have m := m.eraseAt 1
    obtain rfl := sj hd
    exact ⟨[(.int .i64 (IntKind.i64.wrap (x1 + (IntKind.i64.wrap ((IntKind.i64.wrap (Int.tdiv (IntKind.i64.wrap (x2 - x1)) 4)) * 2))))), (.int .i64 2)], ⟨f.get _ _ rfl, f.get _ _ rfl, trivial⟩, f.defers, _, [it0], (GLe.refl _), m, _, rfl, rfl, o0⟩
   ·refine k_false f rfl a3 ?_
    refine k_seq (k_region ?_)
    refine l_mv f rfl rfl fun a f => l_as f rfl rfl fun a f => l_as f rfl rfl fun a f => l_nil ?_
    refine k_ret ?_
    have m := m.front 1 rfl
    have m := m.eraseAt 1
    obtain rfl := sj hd
    exact ⟨[(.int .i64 (IntKind.i64.wrap (x1 + (IntKind.i64.wrap ((IntKind.i64.wrap (Int.tdiv (IntKind.i64.wrap (x2 - x1)) 4)) * 2))))), (.int .i64 0)], ⟨f.get _ _ rfl, f.get _ _ rfl, trivial⟩, f.defers, _, [it0], (GLe.refl _), m, _, rfl, rfl, o0⟩

theorem Wk.O0 {W w : World} {G : GH} {H : List Itm} {v0 : Value} {it0 : Itm} {x0 : (List Int)} {x1 : Int} {x2 : Int} (m : Mem W G w (it0 :: H)) (o0 : Ow (RI .u32) 76 G it0 v0 x0) {y : ((List Int))} (hd : D.O0 x0 x1 x2 = some y) :
  Calls Tryz.prog 184 #[v0, (.int .i64 x1), (.int .i64 x2), (.func (.func 117) #[] #[])] w (Res W G H (fun G' Ho _ => ∃ i0 : Itm, Ho = [i0] ∧ Ow (RI .u32) 76 G' i0 v0 y)) := by
 refine calls_b (args := [v0, (.int .i64 x1), (.int .i64 x2), (.func (.func 117) #[] #[])]) (N := 34) [] Tryz.func184 rfl rfl (Nat.le_of_ble_eq_true rfl) rfl fun a f => ?_
 unfold D.O0 at hd
 refine k_seq (k_region ?_)
 refine l_mv f rfl rfl fun a f => l_as f rfl rfl fun a f => l_nil (k_seq (k_region ?_))
 refine l_mv f rfl rfl fun a f => l_in f rfl rfl rfl b_sub fun a f => l_as f rfl rfl fun a f => l_nil ?_
 obtain ⟨aa, ab, hd⟩ := bind_some hd
 refine k_cut (fun a w => ∃ ac : List Int, ac = aa ∧ ∃ (ad : GH) (ae : Itm), GLe G ad ∧ Fr a 34 [] ∧ Mem W ad w (ae :: H) ∧ Ow (RI .u32) 76 ad ae v0 ac) ?_ ?_
 ·refine k_block ?_
  refine k_loop (fun af a w => ∃ ag : List Int, ∃ ah : Int, ∃ ai : Int, (ag, ah, ai) = af ∧ ∃ (aj : GH) (ak : Itm), GLe G aj ∧ Fr a 34 [(0, v0), (8, (.int .i64 ah)), (9, (.int .i64 ai))] ∧ Mem W aj w (ak :: H) ∧ Ow (RI .u32) 76 aj ak v0 ag) ab ⟨_, _, _, rfl, _, it0, (GLe.refl _), f.weak ⟨rfl, rfl, rfl, trivial⟩, m, o0⟩ ?_
  clear ab f m
  rintro af al am an a w ⟨ag, ah, ai, rfl, aj, ak, ao, f, m, ap⟩
  refine k_seq (k_seq (k_region ?_))
  refine l_mv f rfl rfl fun a f => l_mv f rfl rfl fun a f => l_in f rfl rfl rfl b_lss fun a f => l_nil ?_
  rcases cond_some am with ⟨aq, am⟩ | ⟨aq, am⟩
  ·refine k_true f rfl aq ?_
   refine k_skip ?_
   refine k_block (k_seq ?_)
   refine k_draw0 Follows m ?_
   refine p_p 2 rfl (by kernel_rfl) f rfl rfl rfl (fun _ => r_move (f.eval rfl)) fun a f => p_p 3 rfl (by kernel_rfl) f rfl rfl rfl (fun _ => r_move (f.eval rfl)) fun a f => k_draw1 12013 11 (by kernel_rfl) rfl ?_
   refine q_mv 0 12013 rfl (by kernel_rfl) f rfl rfl rfl fun a f => q_mv 1 12013 rfl (by kernel_rfl) f rfl rfl rfl fun a f => q_mv 4 12013 rfl (by kernel_rfl) f rfl rfl rfl fun a f => q_mv 5 12013 rfl (by kernel_rfl) f rfl rfl rfl fun a f => ?_
   obtain ⟨ar, au, am⟩ := bind_some am
   refine q_own_at (i := 6) 12013 0 m ap rfl T71 au rfl (by kernel_rfl) rfl f rfl rfl rfl rfl fun av a aw f => q_own_load (i := 7) 12013 0 ap rfl Pl76 aw au rfl (by kernel_rfl) rfl f rfl rfl rfl fun ax a ay f => ?_
   subst ay
   refine q_mv 8 12013 rfl (by kernel_rfl) f rfl rfl rfl fun a f => q_mv 9 12013 rfl (by kernel_rfl) f rfl rfl rfl fun a f => ?_
   obtain ⟨az, aA, am⟩ := bind_some am
   refine q_own_at (i := 10) 12013 0 m ap rfl T71 aA rfl (by kernel_rfl) rfl f rfl rfl rfl rfl fun aB a aC f => q_own_load (i := 11) 12013 0 ap rfl Pl76 aC aA rfl (by kernel_rfl) rfl f rfl rfl rfl fun aD a aE f => ?_
   subst aE
   obtain ⟨aF, aG, am⟩ := bind_some am
   refine q_own_at (i := 12) 12013 0 m ap rfl T71 aG rfl (by kernel_rfl) rfl f rfl rfl rfl rfl fun aH a aI f => q_end fun aJ w aK m => ?_
   have ap := od1 aK ap
   refine l_own_store 0 m ap rfl Tryz.sizeOf76 f rfl rfl aI aG rfl rfl rfl fun aL w m aM => ?_
   obtain ⟨aN, aO, am⟩ := bind_some am
   refine l_own_at 0 m aM rfl T71 f rfl rfl rfl aO fun aP a aQ f => l_own_store 0 m aM rfl Tryz.sizeOf76 f rfl rfl aQ aO rfl rfl rfl fun aR w m aS => l_nil (k_seq (k_region ?_))
   refine l_mv f rfl rfl fun a f => l_in f rfl rfl rfl b_add fun a f => l_as f rfl rfl fun a f => l_nil (k_region ?_)
   refine l_mv f rfl rfl fun a f => l_in f rfl rfl rfl b_sub fun a f => l_as f rfl rfl fun a f => l_nil ?_
   obtain rfl := sj am
   exact ⟨_, rfl, _, _, _, rfl, _, aR, (GLe.trans ao aK), f.weak ⟨rfl, rfl, rfl, trivial⟩, m, aS⟩
  ·refine k_false f rfl aq ?_
   refine k_exit rfl ?_
   obtain rfl := sj am
   obtain rfl := an _ rfl
   exact ⟨_, rfl, _, ak, ao, f.weak trivial, m, ap⟩
 ·rintro a w ⟨ac, rfl, ad, ae, aT, f, m, aU⟩
  obtain rfl := sj hd
  exact ⟨[], trivial, f.defers, _, [ae], aT, m, _, rfl, aU⟩

theorem Wk.Z0 {W w : World} {G : GH} {H : List Itm} {v0 : Value} {it0 : Itm} {x0 : (List Int)} {x1 : Int} {x2 : Int} (hW : TabW W) (m : Mem W G w (it0 :: H)) (o0 : Ow (RI .u32) 76 G it0 v0 x0) {y : Bool × ((List Int))} (hd : D.Z0 x0 x1 x2 = some y) :
  Calls Tryz.prog 185 #[v0, (.int .i64 x1), (.int .i64 x2), (.func (.func 117) #[] #[])] w (Res W G H (fun G' Ho v => ∃ i0 : Itm, Ho = [i0] ∧ v = (.bool y.1) ∧ Ow (RI .u32) 76 G' i0 v0 y.2)) := by
 refine calls_b (args := [v0, (.int .i64 x1), (.int .i64 x2), (.func (.func 117) #[] #[])]) (N := 141) [.tmp 8] Tryz.func185 rfl rfl (Nat.le_of_ble_eq_true rfl) rfl fun a f => ?_
 unfold D.Z0 at hd
 refine k_seq (k_region ?_)
 refine l_as f rfl rfl fun a f => l_nil (k_seq (k_region ?_))
 refine l_mv f rfl rfl fun a f => l_in f rfl rfl rfl b_add fun a f => l_as f rfl rfl fun a f => l_nil (k_seq (k_seq (k_region ?_)))
 refine l_as f rfl rfl fun a f => l_nil ?_
 obtain ⟨aa, ab, hd⟩ := bind_some hd
 refine k_cut (fun a w => ∃ q_1621' : (List Int), aa = .inl q_1621' ∧ ∃ ac : List Int, ac = q_1621' ∧ ∃ (ad : GH) (ae : Itm), GLe G ad ∧ Fr a 141 [] ∧ Mem W ad w (ae :: H) ∧ Ow (RI .u32) 76 ad ae v0 ac) ?_ ?_
 ·refine k_block ?_
  refine k_loop (fun af a w => ∃ ag : List Int, ∃ ah : Int, ∃ ai : Int, (ag, ah, ai) = af ∧ ∃ (aj : GH) (ak : Itm), GLe G aj ∧ Fr a 141 [(0, v0), (1, (.int .i64 x1)), (2, (.int .i64 x2)), (3, (.func (.func 117) #[] #[])), (9, (.int .i64 ah)), (10, (.int .i64 ai))] ∧ Mem W aj w (ak :: H) ∧ Ow (RI .u32) 76 aj ak v0 ag) ab ⟨_, _, _, rfl, _, it0, (GLe.refl _), f.weak ⟨rfl, rfl, rfl, rfl, rfl, rfl, trivial⟩, m, o0⟩ ?_
  clear ab f m
  rintro af al am an a w ⟨ag, ah, ai, rfl, aj, ak, ao, f, m, ap⟩
  refine k_seq (k_seq (k_region ?_))
  refine l_mv f rfl rfl fun a f => l_in f rfl rfl rfl b_lss fun a f => l_nil ?_
  rcases cond_some am with ⟨aq, am⟩ | ⟨aq, am⟩
  ·refine k_true f rfl aq ?_
   refine k_skip ?_
   refine k_seq (k_block (k_seq ?_))
   obtain ⟨ar, au, am⟩ := bind_some am
   refine k_cut (fun a w => ∃ av : Int, av = ar ∧ ∃ (aw : GH), GLe aj aw ∧ Fr a 141 [(0, v0), (1, (.int .i64 x1)), (2, (.int .i64 x2)), (3, (.func (.func 117) #[] #[])), (9, (.int .i64 av)), (10, (.int .i64 ai))] ∧ Mem W aw w (ak :: H)) ?_ ?_
   ·refine k_block ?_
    refine k_loop (fun ax a w => ∃ ay : Int, ay = ax ∧ ∃ (az : GH), GLe aj az ∧ Fr a 141 [(0, v0), (1, (.int .i64 x1)), (2, (.int .i64 x2)), (3, (.func (.func 117) #[] #[])), (9, (.int .i64 ay)), (10, (.int .i64 ai))] ∧ Mem W az w (ak :: H)) au ⟨_, rfl, _, (GLe.refl _), f.weak ⟨rfl, rfl, rfl, rfl, rfl, rfl, trivial⟩, m⟩ ?_
    clear au f m
    rintro ax aA aB aC a w ⟨ay, rfl, az, aD, f, m⟩
    have ap := od1 aD ap
    refine k_seq (k_seq ?_)
    refine k_draw 18 Follows (by kernel_rfl) m ?_
    refine q_mv 0 18 rfl (by kernel_rfl) f rfl rfl rfl fun a f => q_mv 1 18 rfl (by kernel_rfl) f rfl rfl rfl fun a f => q_p 2 18 rfl (by kernel_rfl) f rfl rfl rfl (fun _ => r_int (f.eval rfl) (f.eval rfl) b_lss) fun a f => q_mv 3 18 rfl (by kernel_rfl) f rfl rfl rfl fun a f => ?_
    obtain ⟨aE, aF, aB⟩ := bind_some aB
    refine q_cut (fuel' := 0) (listed' := #[true, true, true, true, true, true, true, true, true, true, true, true, true, true, true, true, true, true]) (fun a => Fr a 141 [(0, v0), (1, (.int .i64 x1)), (2, (.int .i64 x2)), (3, (.func (.func 117) #[] #[])), (9, (.int .i64 ay)), (10, (.int .i64 ai)), (19, (.int .i64 ay)), (20, (.int .i64 x2)), (21, (.bool (decide (ay < x2)))), (22, (.bool (decide (ay < x2)))), (36, (.bool aE))]) ?_ ?_
    ·intro a f
     refine q_end fun aG w aH m => ?_
     have ap := od1 aH ap
     refine l_nil ?_
     rcases cond_some aB with ⟨aI, aB⟩ | ⟨aI, aB⟩
     ·refine k_true f rfl aI ?_
      refine k_skip ?_
      refine k_block (k_region ?_)
      refine l_mv f rfl rfl fun a f => l_in f rfl rfl rfl b_add fun a f => l_as f rfl rfl fun a f => l_nil ?_
      obtain rfl := sj aB
      exact ⟨_, rfl, _, rfl, _, (GLe.trans aD aH), f.weak ⟨rfl, rfl, rfl, rfl, rfl, rfl, trivial⟩, m⟩
     ·refine k_false f rfl aI ?_
      refine k_exit rfl ?_
      obtain rfl := sj aB
      obtain rfl := aC _ rfl
      exact ⟨_, rfl, _, (GLe.trans aD aH), f.weak ⟨rfl, rfl, rfl, rfl, rfl, rfl, trivial⟩, m⟩
    ·intro aJ
     rcases cond_some aF with ⟨aK, aF⟩ | ⟨aK, aF⟩
     ·refine q_mv 4 18 rfl (by kernel_rfl) f (wanted_of f rfl rfl rfl aK) rfl rfl fun a f => ?_
      refine q_mv 5 18 rfl (by kernel_rfl) f (wanted_of f rfl rfl rfl aK) rfl rfl fun a f => q_mv 6 18 rfl (by kernel_rfl) f (wanted_of f rfl rfl rfl aK) rfl rfl fun a f => ?_
      obtain ⟨aL, aM, aF⟩ := bind_some aF
      refine q_own_at (i := 7) 18 0 m ap rfl T71 aM rfl (by kernel_rfl) rfl f (wanted_of f rfl rfl rfl aK) rfl rfl rfl fun aN a aO f => q_own_load (i := 8) 18 0 ap rfl Pl76 aO aM rfl (by kernel_rfl) rfl f (wanted_of f rfl rfl rfl aK) rfl rfl fun aP a aQ f => ?_
      subst aQ
      refine q_mv 9 18 rfl (by kernel_rfl) f (wanted_of f rfl rfl rfl aK) rfl rfl fun a f => q_mv 10 18 rfl (by kernel_rfl) f (wanted_of f rfl rfl rfl aK) rfl rfl fun a f => q_p 11 18 rfl (by kernel_rfl) f (wanted_of f rfl rfl rfl aK) rfl rfl (fun _ => r_int (f.eval rfl) (f.eval rfl) b_sub) fun a f => ?_
      obtain ⟨aR, aS, aF⟩ := bind_some aF
      refine q_own_at (i := 12) 18 0 m ap rfl T71 aS rfl (by kernel_rfl) rfl f (wanted_of f rfl rfl rfl aK) rfl rfl rfl fun aT a aU f => q_own_load (i := 13) 18 0 ap rfl Pl76 aU aS rfl (by kernel_rfl) rfl f (wanted_of f rfl rfl rfl aK) rfl rfl fun aV a aW f => ?_
      subst aW
      obtain ⟨aX, aY, aF⟩ := bind_some aF
      refine q_callv (i := 14) 18 rfl (by kernel_rfl) rfl f (wanted_of f rfl rfl rfl aK) rfl rfl rfl Tryz.call117 (fun _ _ w aZ m => Wk.a hW m  aY) fun a f => q_p 15 18 rfl (by kernel_rfl) f (wanted_of f rfl rfl rfl aK) rfl rfl (fun _ => r_int (f.eval rfl) (f.eval rfl) b_lss) fun a f => q_p 16 18 rfl (by kernel_rfl) f (wanted_of f rfl rfl rfl aK) rfl rfl (fun _ => r_not (f.eval rfl)) fun a f => q_p 17 18 rfl (by kernel_rfl) f rfl rfl rfl (fun _ => r_pickT (f.eval rfl) aK (f.eval rfl)) fun a f => ?_
      obtain rfl := sj aF
      exact aJ _ (f.weak ⟨rfl, rfl, rfl, rfl, rfl, rfl, rfl, rfl, rfl, rfl, rfl, trivial⟩)
     ·refine q_ng 4 18 rfl (by kernel_rfl) f rfl rfl aK rfl fun a f => ?_
      refine q_ng 5 18 rfl (by kernel_rfl) f rfl rfl aK rfl fun a f => q_ng 6 18 rfl (by kernel_rfl) f rfl rfl aK rfl fun a f => q_ng 7 18 rfl (by kernel_rfl) f rfl rfl aK rfl fun a f => q_ng 8 18 rfl (by kernel_rfl) f rfl rfl aK rfl fun a f => q_ng 9 18 rfl (by kernel_rfl) f rfl rfl aK rfl fun a f => q_ng 10 18 rfl (by kernel_rfl) f rfl rfl aK rfl fun a f => q_ng 11 18 rfl (by kernel_rfl) f rfl rfl aK rfl fun a f => q_ng 12 18 rfl (by kernel_rfl) f rfl rfl aK rfl fun a f => q_ng 13 18 rfl (by kernel_rfl) f rfl rfl aK rfl fun a f => q_ng 14 18 rfl (by kernel_rfl) f rfl rfl aK rfl fun a f => q_ng 15 18 rfl (by kernel_rfl) f rfl rfl aK rfl fun a f => q_ng 16 18 rfl (by kernel_rfl) f rfl rfl aK rfl fun a f => q_p 17 18 rfl (by kernel_rfl) f rfl rfl rfl (fun _ => r_pickF (f.eval rfl) aK (f.eval rfl)) fun a f => ?_
      obtain rfl := sj aF
      exact aJ _ (f.weak ⟨rfl, rfl, rfl, rfl, rfl, rfl, rfl, rfl, rfl, rfl, rfl, trivial⟩)
   ·rintro a w ⟨av, rfl, aw, a0, f, m⟩
    have ap := od1 a0 ap
    refine k_seq (k_seq (k_region ?_))
    refine l_mv f rfl rfl fun a f => l_mv f rfl rfl fun a f => l_in f rfl rfl rfl b_eql fun a f => l_nil ?_
    rcases cond_some am with ⟨a1, am⟩ | ⟨a1, am⟩
    ·refine k_true f rfl a1 ?_
     refine k_seq (k_region ?_)
     refine l_as f rfl rfl fun a f => l_nil ?_
     refine k_ret ?_
     obtain rfl := sj am
     obtain rfl := an _ rfl
     obtain rfl := sj hd
     exact ⟨[(.bool true)], ⟨f.get _ _ rfl, trivial⟩, f.defers, _, [ak], (GLe.trans ao a0), m, _, rfl, rfl, ap⟩
    ·refine k_false f rfl a1 ?_
     refine k_skip ?_
     refine k_seq (k_seq (k_region ?_))
     refine l_mv f rfl rfl fun a f => l_mv f rfl rfl fun a f => l_in f rfl rfl rfl b_sub fun a f => l_in f rfl rfl rfl b_lss fun a f => l_nil ?_
     rcases cond_some am with ⟨a2, am⟩ | ⟨a2, am⟩
     ·refine k_true f rfl a2 ?_
      refine k_seq (k_region ?_)
      refine l_as f rfl rfl fun a f => l_nil ?_
      refine k_ret ?_
      obtain rfl := sj am
      obtain rfl := an _ rfl
      obtain rfl := sj hd
      exact ⟨[(.bool false)], ⟨f.get _ _ rfl, trivial⟩, f.defers, _, [ak], (GLe.trans ao a0), m, _, rfl, rfl, ap⟩
     ·refine k_false f rfl a2 ?_
      refine k_skip ?_
      refine k_seq ?_
      refine k_draw0 Follows m ?_
      refine p_p 2 rfl (by kernel_rfl) f rfl rfl rfl (fun _ => r_move (f.eval rfl)) fun a f => p_p 3 rfl (by kernel_rfl) f rfl rfl rfl (fun _ => r_move (f.eval rfl)) fun a f => p_p 4 rfl (by kernel_rfl) f rfl rfl rfl (fun _ => r_int (f.eval rfl) (f.eval rfl) b_sub) fun a f => k_draw1 28015 12 (by kernel_rfl) rfl ?_
      refine q_mv 0 28015 rfl (by kernel_rfl) f rfl rfl rfl fun a f => q_mv 1 28015 rfl (by kernel_rfl) f rfl rfl rfl fun a f => q_mv 5 28015 rfl (by kernel_rfl) f rfl rfl rfl fun a f => q_mv 6 28015 rfl (by kernel_rfl) f rfl rfl rfl fun a f => q_p 7 28015 rfl (by kernel_rfl) f rfl rfl rfl (fun _ => r_int (f.eval rfl) (f.eval rfl) b_sub) fun a f => ?_
      obtain ⟨a3, a4, am⟩ := bind_some am
      refine q_own_at (i := 8) 28015 0 m ap rfl T71 a4 rfl (by kernel_rfl) rfl f rfl rfl rfl rfl fun a5 a a6 f => q_own_load (i := 9) 28015 0 ap rfl Pl76 a6 a4 rfl (by kernel_rfl) rfl f rfl rfl rfl fun a7 a a8 f => ?_
      subst a8
      refine q_mv 10 28015 rfl (by kernel_rfl) f rfl rfl rfl fun a f => q_mv 11 28015 rfl (by kernel_rfl) f rfl rfl rfl fun a f => ?_
      obtain ⟨a9, ba, am⟩ := bind_some am
      refine q_own_at (i := 12) 28015 0 m ap rfl T71 ba rfl (by kernel_rfl) rfl f rfl rfl rfl rfl fun bb a bc f => q_own_load (i := 13) 28015 0 ap rfl Pl76 bc ba rfl (by kernel_rfl) rfl f rfl rfl rfl fun bd a be f => ?_
      subst be
      obtain ⟨bf, bg, am⟩ := bind_some am
      refine q_own_at (i := 14) 28015 0 m ap rfl T71 bg rfl (by kernel_rfl) rfl f rfl rfl rfl rfl fun bh a bi f => q_end fun bj w bk m => ?_
      have ap := od1 bk ap
      refine l_own_store 0 m ap rfl Tryz.sizeOf76 f rfl rfl bi bg rfl rfl rfl fun bl w m bm => ?_
      obtain ⟨bn, bo, am⟩ := bind_some am
      refine l_own_at 0 m bm rfl T71 f rfl rfl rfl bo fun bp a bq f => l_own_store 0 m bm rfl Tryz.sizeOf76 f rfl rfl bq bo rfl rfl rfl fun br w m bs => l_nil (k_seq (k_seq (k_region ?_)))
      refine l_mv f rfl rfl fun a f => l_mv f rfl rfl fun a f => l_in f rfl rfl rfl b_sub fun a f => l_in f rfl rfl rfl b_geq fun a f => l_nil ?_
      obtain ⟨bt, bu, am⟩ := bind_some am
      refine k_cut (fun a w => ∃ bv : List Int, bv = bt ∧ ∃ (bw : GH) (bx : Itm), GLe bj bw ∧ Fr a 141 [(0, v0), (1, (.int .i64 x1)), (2, (.int .i64 x2)), (3, (.func (.func 117) #[] #[])), (9, (.int .i64 av)), (10, (.int .i64 ai))] ∧ Mem W bw w (bx :: H) ∧ Ow (RI .u32) 76 bw bx v0 bv) ?_ ?_
      ·rcases cond_some bu with ⟨bz, bu⟩ | ⟨bz, bu⟩
       ·refine k_true f rfl bz ?_
        refine k_seq (k_region ?_)
        refine l_mv f rfl rfl fun a f => l_in f rfl rfl rfl b_sub fun a f => l_as f rfl rfl fun a f => l_nil ?_
        obtain ⟨bA, bB, bu⟩ := bind_some bu
        refine k_cut (fun a w => ∃ bC : List Int, bC = bA ∧ ∃ (bD : GH) (bE : Itm), GLe bj bD ∧ Fr a 141 [(0, v0), (1, (.int .i64 x1)), (2, (.int .i64 x2)), (3, (.func (.func 117) #[] #[])), (9, (.int .i64 av)), (10, (.int .i64 ai))] ∧ Mem W bD w (bE :: H) ∧ Ow (RI .u32) 76 bD bE v0 bC) ?_ ?_
        ·refine k_block ?_
         refine k_loop (fun bF a w => ∃ bG : List Int, ∃ bH : Int, (bG, bH) = bF ∧ ∃ (bI : GH) (bJ : Itm), GLe bj bI ∧ Fr a 141 [(0, v0), (1, (.int .i64 x1)), (2, (.int .i64 x2)), (3, (.func (.func 117) #[] #[])), (9, (.int .i64 av)), (10, (.int .i64 ai)), (11, (.int .i64 bH))] ∧ Mem W bI w (bJ :: H) ∧ Ow (RI .u32) 76 bI bJ v0 bG) bB ⟨_, _, rfl, _, br, (GLe.refl _), f.weak ⟨rfl, rfl, rfl, rfl, rfl, rfl, rfl, trivial⟩, m, bs⟩ ?_
         clear bB f m
         rintro bF bK bL bM a w ⟨bG, bH, rfl, bI, bJ, bN, f, m, bO⟩
         refine k_seq (k_seq (k_region ?_))
         refine l_mv f rfl rfl fun a f => l_in f rfl rfl rfl b_geq fun a f => l_nil ?_
         rcases cond_some bL with ⟨bP, bL⟩ | ⟨bP, bL⟩
         ·refine k_true f rfl bP ?_
          refine k_skip ?_
          refine k_seq (k_block (k_seq (k_seq ?_)))
          refine k_draw 13 Follows (by kernel_rfl) m ?_
          refine q_mv 0 13 rfl (by kernel_rfl) f rfl rfl rfl fun a f => q_mv 1 13 rfl (by kernel_rfl) f rfl rfl rfl fun a f => q_mv 2 13 rfl (by kernel_rfl) f rfl rfl rfl fun a f => ?_
          obtain ⟨bQ, bR, bL⟩ := bind_some bL
          refine q_own_at (i := 3) 13 0 m bO rfl T71 bR rfl (by kernel_rfl) rfl f rfl rfl rfl rfl fun bS a bT f => q_own_load (i := 4) 13 0 bO rfl Pl76 bT bR rfl (by kernel_rfl) rfl f rfl rfl rfl fun bU a bV f => ?_
          subst bV
          refine q_mv 5 13 rfl (by kernel_rfl) f rfl rfl rfl fun a f => q_mv 6 13 rfl (by kernel_rfl) f rfl rfl rfl fun a f => q_p 7 13 rfl (by kernel_rfl) f rfl rfl rfl (fun _ => r_int (f.eval rfl) (f.eval rfl) b_sub) fun a f => ?_
          obtain ⟨bW, bX, bL⟩ := bind_some bL
          refine q_own_at (i := 8) 13 0 m bO rfl T71 bX rfl (by kernel_rfl) rfl f rfl rfl rfl rfl fun bY a bZ f => q_own_load (i := 9) 13 0 bO rfl Pl76 bZ bX rfl (by kernel_rfl) rfl f rfl rfl rfl fun b0 a b1 f => ?_
          subst b1
          obtain ⟨b2, b3, bL⟩ := bind_some bL
          refine q_callv (i := 10) 13 rfl (by kernel_rfl) rfl f rfl rfl rfl rfl Tryz.call117 (fun _ _ w b4 m => Wk.a hW m  b3) fun a f => q_p 11 13 rfl (by kernel_rfl) f rfl rfl rfl (fun _ => r_int (f.eval rfl) (f.eval rfl) b_lss) fun a f => q_p 12 13 rfl (by kernel_rfl) f rfl rfl rfl (fun _ => r_not (f.eval rfl)) fun a f => q_end fun b5 w b6 m => ?_
          have bO := od1 b6 bO
          refine l_nil ?_
          rcases cond_some bL with ⟨b7, bL⟩ | ⟨b7, bL⟩
          ·refine k_true f rfl b7 ?_
           refine k_exit rfl ?_
           obtain rfl := sj bL
           obtain rfl := bM _ rfl
           exact ⟨_, rfl, _, bJ, (GLe.trans bN b6), f.weak ⟨rfl, rfl, rfl, rfl, rfl, rfl, trivial⟩, m, bO⟩
          ·refine k_false f rfl b7 ?_
           refine k_skip ?_
           refine k_draw0 Follows m ?_
           refine p_p 2 rfl (by kernel_rfl) f rfl rfl rfl (fun _ => r_move (f.eval rfl)) fun a f => p_p 3 rfl (by kernel_rfl) f rfl rfl rfl (fun _ => r_move (f.eval rfl)) fun a f => p_p 4 rfl (by kernel_rfl) f rfl rfl rfl (fun _ => r_int (f.eval rfl) (f.eval rfl) b_sub) fun a f => k_draw1 28015 12 (by kernel_rfl) rfl ?_
           refine q_mv 0 28015 rfl (by kernel_rfl) f rfl rfl rfl fun a f => q_mv 1 28015 rfl (by kernel_rfl) f rfl rfl rfl fun a f => q_mv 5 28015 rfl (by kernel_rfl) f rfl rfl rfl fun a f => q_mv 6 28015 rfl (by kernel_rfl) f rfl rfl rfl fun a f => q_p 7 28015 rfl (by kernel_rfl) f rfl rfl rfl (fun _ => r_int (f.eval rfl) (f.eval rfl) b_sub) fun a f => ?_
           obtain ⟨b8, b9, bL⟩ := bind_some bL
           refine q_own_at (i := 8) 28015 0 m bO rfl T71 b9 rfl (by kernel_rfl) rfl f rfl rfl rfl rfl fun ca a cb f => q_own_load (i := 9) 28015 0 bO rfl Pl76 cb b9 rfl (by kernel_rfl) rfl f rfl rfl rfl fun cc a cd f => ?_
           subst cd
           refine q_mv 10 28015 rfl (by kernel_rfl) f rfl rfl rfl fun a f => q_mv 11 28015 rfl (by kernel_rfl) f rfl rfl rfl fun a f => ?_
           obtain ⟨ce, cf, bL⟩ := bind_some bL
           refine q_own_at (i := 12) 28015 0 m bO rfl T71 cf rfl (by kernel_rfl) rfl f rfl rfl rfl rfl fun cg a ch f => q_own_load (i := 13) 28015 0 bO rfl Pl76 ch cf rfl (by kernel_rfl) rfl f rfl rfl rfl fun ci a cj f => ?_
           subst cj
           obtain ⟨ck, cl, bL⟩ := bind_some bL
           refine q_own_at (i := 14) 28015 0 m bO rfl T71 cl rfl (by kernel_rfl) rfl f rfl rfl rfl rfl fun cm a cn f => q_end fun co w cp m => ?_
           have bO := od1 cp bO
           refine l_own_store 0 m bO rfl Tryz.sizeOf76 f rfl rfl cn cl rfl rfl rfl fun cq w m cr => ?_
           obtain ⟨cs, ct, bL⟩ := bind_some bL
           refine l_own_at 0 m cr rfl T71 f rfl rfl rfl ct fun cu a cv f => l_own_store 0 m cr rfl Tryz.sizeOf76 f rfl rfl cv ct rfl rfl rfl fun cw w m cx => l_nil (k_region ?_)
           refine l_mv f rfl rfl fun a f => l_in f rfl rfl rfl b_sub fun a f => l_as f rfl rfl fun a f => l_nil ?_
           obtain rfl := sj bL
           exact ⟨_, rfl, _, _, rfl, _, cw, (GLe.trans bN (GLe.trans b6 cp)), f.weak ⟨rfl, rfl, rfl, rfl, rfl, rfl, rfl, trivial⟩, m, cx⟩
         ·refine k_false f rfl bP ?_
          refine k_exit rfl ?_
          obtain rfl := sj bL
          obtain rfl := bM _ rfl
          exact ⟨_, rfl, _, bJ, bN, f.weak ⟨rfl, rfl, rfl, rfl, rfl, rfl, trivial⟩, m, bO⟩
        ·rintro a w ⟨bC, rfl, bD, bE, cy, f, m, cz⟩
         obtain rfl := sj bu
         exact ⟨_, rfl, _, bE, cy, f.weak ⟨rfl, rfl, rfl, rfl, rfl, rfl, trivial⟩, m, cz⟩
       ·refine k_false f rfl bz ?_
        refine k_skip ?_
        obtain rfl := sj bu
        exact ⟨_, rfl, _, br, (GLe.refl _), f.weak ⟨rfl, rfl, rfl, rfl, rfl, rfl, trivial⟩, m, bs⟩
      ·rintro a w ⟨bv, rfl, bw, bx, cA, f, m, cB⟩
       refine k_seq (k_region ?_)
       refine l_mv f rfl rfl fun a f => l_mv f rfl rfl fun a f => l_in f rfl rfl rfl b_sub fun a f => l_in f rfl rfl rfl b_geq fun a f => l_nil ?_
       rcases cond_some am with ⟨cC, am⟩ | ⟨cC, am⟩
       ·refine k_true f rfl cC ?_
        refine k_seq (k_region ?_)
        refine l_mv f rfl rfl fun a f => l_in f rfl rfl rfl b_add fun a f => l_as f rfl rfl fun a f => l_nil ?_
        obtain ⟨cD, cE, am⟩ := bind_some am
        refine k_cut (fun a w => ∃ cF : List Int, cF = cD ∧ ∃ (cG : GH) (cH : Itm), GLe bw cG ∧ Fr a 141 [(0, v0), (1, (.int .i64 x1)), (2, (.int .i64 x2)), (3, (.func (.func 117) #[] #[])), (9, (.int .i64 av)), (10, (.int .i64 ai))] ∧ Mem W cG w (cH :: H) ∧ Ow (RI .u32) 76 cG cH v0 cF) ?_ ?_
        ·refine k_block ?_
         refine k_loop (fun cI a w => ∃ cJ : List Int, ∃ cK : Int, (cJ, cK) = cI ∧ ∃ (cL : GH) (cM : Itm), GLe bw cL ∧ Fr a 141 [(0, v0), (1, (.int .i64 x1)), (2, (.int .i64 x2)), (3, (.func (.func 117) #[] #[])), (9, (.int .i64 av)), (10, (.int .i64 ai)), (12, (.int .i64 cK))] ∧ Mem W cL w (cM :: H) ∧ Ow (RI .u32) 76 cL cM v0 cJ) cE ⟨_, _, rfl, _, bx, (GLe.refl _), f.weak ⟨rfl, rfl, rfl, rfl, rfl, rfl, rfl, trivial⟩, m, cB⟩ ?_
         clear cE f m
         rintro cI cN cO cP a w ⟨cJ, cK, rfl, cL, cM, cQ, f, m, cR⟩
         refine k_seq (k_seq (k_region ?_))
         refine l_mv f rfl rfl fun a f => l_mv f rfl rfl fun a f => l_in f rfl rfl rfl b_lss fun a f => l_nil ?_
         rcases cond_some cO with ⟨cS, cO⟩ | ⟨cS, cO⟩
         ·refine k_true f rfl cS ?_
          refine k_skip ?_
          refine k_seq (k_block (k_seq (k_seq ?_)))
          refine k_draw 13 Follows (by kernel_rfl) m ?_
          refine q_mv 0 13 rfl (by kernel_rfl) f rfl rfl rfl fun a f => q_mv 1 13 rfl (by kernel_rfl) f rfl rfl rfl fun a f => q_mv 2 13 rfl (by kernel_rfl) f rfl rfl rfl fun a f => ?_
          obtain ⟨cT, cU, cO⟩ := bind_some cO
          refine q_own_at (i := 3) 13 0 m cR rfl T71 cU rfl (by kernel_rfl) rfl f rfl rfl rfl rfl fun cV a cW f => q_own_load (i := 4) 13 0 cR rfl Pl76 cW cU rfl (by kernel_rfl) rfl f rfl rfl rfl fun cX a cY f => ?_
          subst cY
          refine q_mv 5 13 rfl (by kernel_rfl) f rfl rfl rfl fun a f => q_mv 6 13 rfl (by kernel_rfl) f rfl rfl rfl fun a f => q_p 7 13 rfl (by kernel_rfl) f rfl rfl rfl (fun _ => r_int (f.eval rfl) (f.eval rfl) b_sub) fun a f => ?_
          obtain ⟨cZ, c0, cO⟩ := bind_some cO
          refine q_own_at (i := 8) 13 0 m cR rfl T71 c0 rfl (by kernel_rfl) rfl f rfl rfl rfl rfl fun c1 a c2 f => q_own_load (i := 9) 13 0 cR rfl Pl76 c2 c0 rfl (by kernel_rfl) rfl f rfl rfl rfl fun c3 a c4 f => ?_
          subst c4
          obtain ⟨c5, c6, cO⟩ := bind_some cO
          refine q_callv (i := 10) 13 rfl (by kernel_rfl) rfl f rfl rfl rfl rfl Tryz.call117 (fun _ _ w c7 m => Wk.a hW m  c6) fun a f => q_p 11 13 rfl (by kernel_rfl) f rfl rfl rfl (fun _ => r_int (f.eval rfl) (f.eval rfl) b_lss) fun a f => q_p 12 13 rfl (by kernel_rfl) f rfl rfl rfl (fun _ => r_not (f.eval rfl)) fun a f => q_end fun c8 w c9 m => ?_
          have cR := od1 c9 cR
          refine l_nil ?_
          rcases cond_some cO with ⟨da, cO⟩ | ⟨da, cO⟩
          ·refine k_true f rfl da ?_
           refine k_exit rfl ?_
           obtain rfl := sj cO
           obtain rfl := cP _ rfl
           exact ⟨_, rfl, _, cM, (GLe.trans cQ c9), f.weak ⟨rfl, rfl, rfl, rfl, rfl, rfl, trivial⟩, m, cR⟩
          ·refine k_false f rfl da ?_
           refine k_skip ?_
           refine k_draw0 Follows m ?_
           refine p_p 2 rfl (by kernel_rfl) f rfl rfl rfl (fun _ => r_move (f.eval rfl)) fun a f => p_p 3 rfl (by kernel_rfl) f rfl rfl rfl (fun _ => r_move (f.eval rfl)) fun a f => p_p 4 rfl (by kernel_rfl) f rfl rfl rfl (fun _ => r_int (f.eval rfl) (f.eval rfl) b_sub) fun a f => k_draw1 28015 12 (by kernel_rfl) rfl ?_
           refine q_mv 0 28015 rfl (by kernel_rfl) f rfl rfl rfl fun a f => q_mv 1 28015 rfl (by kernel_rfl) f rfl rfl rfl fun a f => q_mv 5 28015 rfl (by kernel_rfl) f rfl rfl rfl fun a f => q_mv 6 28015 rfl (by kernel_rfl) f rfl rfl rfl fun a f => q_p 7 28015 rfl (by kernel_rfl) f rfl rfl rfl (fun _ => r_int (f.eval rfl) (f.eval rfl) b_sub) fun a f => ?_
           obtain ⟨db, dc, cO⟩ := bind_some cO
           refine q_own_at (i := 8) 28015 0 m cR rfl T71 dc rfl (by kernel_rfl) rfl f rfl rfl rfl rfl fun dd a de f => q_own_load (i := 9) 28015 0 cR rfl Pl76 de dc rfl (by kernel_rfl) rfl f rfl rfl rfl fun df a dg f => ?_
           subst dg
           refine q_mv 10 28015 rfl (by kernel_rfl) f rfl rfl rfl fun a f => q_mv 11 28015 rfl (by kernel_rfl) f rfl rfl rfl fun a f => ?_
           obtain ⟨dh, di, cO⟩ := bind_some cO
           refine q_own_at (i := 12) 28015 0 m cR rfl T71 di rfl (by kernel_rfl) rfl f rfl rfl rfl rfl fun dj a dk f => q_own_load (i := 13) 28015 0 cR rfl Pl76 dk di rfl (by kernel_rfl) rfl f rfl rfl rfl fun dl a dm f => ?_
           subst dm
           obtain ⟨dn, dp, cO⟩ := bind_some cO
           refine q_own_at (i := 14) 28015 0 m cR rfl T71 dp rfl (by kernel_rfl) rfl f rfl rfl rfl rfl fun dq a dr f => q_end fun ds w dt m => ?_
           have cR := od1 dt cR
           refine l_own_store 0 m cR rfl Tryz.sizeOf76 f rfl rfl dr dp rfl rfl rfl fun du w m dv => ?_
           obtain ⟨dw, dx, cO⟩ := bind_some cO
           refine l_own_at 0 m dv rfl T71 f rfl rfl rfl dx fun dy a dz f => l_own_store 0 m dv rfl Tryz.sizeOf76 f rfl rfl dz dx rfl rfl rfl fun dA w m dB => l_nil (k_region ?_)
           refine l_mv f rfl rfl fun a f => l_in f rfl rfl rfl b_add fun a f => l_as f rfl rfl fun a f => l_nil ?_
           obtain rfl := sj cO
           exact ⟨_, rfl, _, _, rfl, _, dA, (GLe.trans cQ (GLe.trans c9 dt)), f.weak ⟨rfl, rfl, rfl, rfl, rfl, rfl, rfl, trivial⟩, m, dB⟩
         ·refine k_false f rfl cS ?_
          refine k_exit rfl ?_
          obtain rfl := sj cO
          obtain rfl := cP _ rfl
          exact ⟨_, rfl, _, cM, cQ, f.weak ⟨rfl, rfl, rfl, rfl, rfl, rfl, trivial⟩, m, cR⟩
        ·rintro a w ⟨cF, rfl, cG, cH, dC, f, m, dD⟩
         refine k_region ?_
         refine l_mv f rfl rfl fun a f => l_in f rfl rfl rfl b_add fun a f => l_as f rfl rfl fun a f => l_nil ?_
         obtain rfl := sj am
         exact ⟨_, rfl, _, _, _, rfl, _, cH, (GLe.trans ao (GLe.trans a0 (GLe.trans bk (GLe.trans cA dC)))), f.weak ⟨rfl, rfl, rfl, rfl, rfl, rfl, trivial⟩, m, dD⟩
       ·refine k_false f rfl cC ?_
        refine k_skip ?_
        refine k_region ?_
        refine l_mv f rfl rfl fun a f => l_in f rfl rfl rfl b_add fun a f => l_as f rfl rfl fun a f => l_nil ?_
        obtain rfl := sj am
        exact ⟨_, rfl, _, _, _, rfl, _, bx, (GLe.trans ao (GLe.trans a0 (GLe.trans bk cA))), f.weak ⟨rfl, rfl, rfl, rfl, rfl, rfl, trivial⟩, m, cB⟩
  ·refine k_false f rfl aq ?_
   refine k_exit rfl ?_
   obtain rfl := sj am
   obtain rfl := an _ rfl
   exact ⟨_, rfl, _, rfl, _, ak, ao, f.weak trivial, m, ap⟩
 ·rintro a w ⟨_, rfl, ac, rfl, ad, ae, dE, f, m, dF⟩
  refine k_seq (k_region ?_)
  refine l_as f rfl rfl fun a f => l_nil ?_
  refine k_ret ?_
  obtain rfl := sj hd
  exact ⟨[(.bool false)], ⟨f.get _ _ rfl, trivial⟩, f.defers, _, [ae], dE, m, _, rfl, rfl, dF⟩

theorem Wk.f1 {W w : World} {G : GH} {H : List Itm} {v0 : Value} {it0 : Itm} {x0 : (List Int)} {x1 : Int} {x2 : Int} {x3 : Int} (hW : TabW W) (m : Mem W G w (it0 :: H)) (o0 : Ow (RI .u32) 76 G it0 v0 x0) {y : Int × ((List Int))} (hd : D.f1 x0 x1 x2 x3 = some y) :
  Calls Tryz.prog 186 #[v0, (.int .i64 x1), (.int .i64 x2), (.int .i64 x3), (.func (.func 117) #[] #[])] w (Res W G H (fun G' Ho v => ∃ i0 : Itm, Ho = [i0] ∧ v = (.int .i64 y.1) ∧ Ow (RI .u32) 76 G' i0 v0 y.2)) := by
 refine calls_b (args := [v0, (.int .i64 x1), (.int .i64 x2), (.int .i64 x3), (.func (.func 117) #[] #[])]) (N := 90) [.tmp 10] Tryz.func186 rfl rfl (Nat.le_of_ble_eq_true rfl) rfl fun a f => ?_
 unfold D.f1 at hd
 refine k_seq (k_region ?_)
 refine l_as f rfl rfl fun a f => l_nil (k_seq ?_)
 refine k_draw0 Follows m ?_
 refine p_p 2 rfl (by kernel_rfl) f rfl rfl rfl (fun _ => r_move (f.eval rfl)) fun a f => p_p 3 rfl (by kernel_rfl) f rfl rfl rfl (fun _ => r_move (f.eval rfl)) fun a f => k_draw1 12013 11 (by kernel_rfl) rfl ?_
 refine q_mv 0 12013 rfl (by kernel_rfl) f rfl rfl rfl fun a f => q_mv 1 12013 rfl (by kernel_rfl) f rfl rfl rfl fun a f => q_mv 4 12013 rfl (by kernel_rfl) f rfl rfl rfl fun a f => q_mv 5 12013 rfl (by kernel_rfl) f rfl rfl rfl fun a f => ?_
 obtain ⟨aa, ab, hd⟩ := bind_some hd
 refine q_own_at (i := 6) 12013 0 m o0 rfl T71 ab rfl (by kernel_rfl) rfl f rfl rfl rfl rfl fun ac a ad f => q_own_load (i := 7) 12013 0 o0 rfl Pl76 ad ab rfl (by kernel_rfl) rfl f rfl rfl rfl fun ae a af f => ?_
 subst af
 refine q_mv 8 12013 rfl (by kernel_rfl) f rfl rfl rfl fun a f => q_mv 9 12013 rfl (by kernel_rfl) f rfl rfl rfl fun a f => ?_
 obtain ⟨ag, ah, hd⟩ := bind_some hd
 refine q_own_at (i := 10) 12013 0 m o0 rfl T71 ah rfl (by kernel_rfl) rfl f rfl rfl rfl rfl fun ai a aj f => q_own_load (i := 11) 12013 0 o0 rfl Pl76 aj ah rfl (by kernel_rfl) rfl f rfl rfl rfl fun ak a al f => ?_
 subst al
 obtain ⟨am, an, hd⟩ := bind_some hd
 refine q_own_at (i := 12) 12013 0 m o0 rfl T71 an rfl (by kernel_rfl) rfl f rfl rfl rfl rfl fun ao a ap f => q_end fun aq w ar m => ?_
 have o0 := od1 ar o0
 refine l_own_store 0 m o0 rfl Tryz.sizeOf76 f rfl rfl ap an rfl rfl rfl fun au w m av => ?_
 obtain ⟨aw, ax, hd⟩ := bind_some hd
 refine l_own_at 0 m av rfl T71 f rfl rfl rfl ax fun ay a az f => l_own_store 0 m av rfl Tryz.sizeOf76 f rfl rfl az ax rfl rfl rfl fun aA w m aB => l_nil (k_seq (k_region ?_))
 refine l_mv f rfl rfl fun a f => l_in f rfl rfl rfl b_add fun a f => l_mv f rfl rfl fun a f => l_in f rfl rfl rfl b_sub fun a f => l_as f rfl rfl fun a f => l_as f rfl rfl fun a f => l_nil (k_seq ?_)
 obtain ⟨aC, aD, hd⟩ := bind_some hd
 refine k_cut (fun a w => ∃ aE : List Int, ∃ aF : Int, (aE, aF) = aC ∧ ∃ (aG : GH) (aH : Itm), GLe aq aG ∧ Fr a 90 [(11, (.int .i64 aF))] ∧ Mem W aG w (aH :: H) ∧ Ow (RI .u32) 76 aG aH v0 aE) ?_ ?_
 ·refine k_block ?_
  refine k_loop (fun aI a w => ∃ aJ : List Int, ∃ aK : Int, ∃ aL : Int, (aJ, aK, aL) = aI ∧ ∃ (aM : GH) (aN : Itm), GLe aq aM ∧ Fr a 90 [(0, v0), (1, (.int .i64 x1)), (4, (.func (.func 117) #[] #[])), (11, (.int .i64 aK)), (12, (.int .i64 aL))] ∧ Mem W aM w (aN :: H) ∧ Ow (RI .u32) 76 aM aN v0 aJ) aD ⟨_, _, _, rfl, _, aA, (GLe.refl _), f.weak ⟨rfl, rfl, rfl, rfl, rfl, trivial⟩, m, aB⟩ ?_
  clear aD f m
  rintro aI aO aP aQ a w ⟨aJ, aK, aL, rfl, aM, aN, aR, f, m, aS⟩
  refine k_block (k_seq ?_)
  obtain ⟨aT, aU, aP⟩ := bind_some aP
  refine k_cut (fun a w => ∃ aV : Int, aV = aT ∧ ∃ (aW : GH), GLe aM aW ∧ Fr a 90 [(0, v0), (1, (.int .i64 x1)), (4, (.func (.func 117) #[] #[])), (11, (.int .i64 aV)), (12, (.int .i64 aL))] ∧ Mem W aW w (aN :: H)) ?_ ?_
  ·refine k_block ?_
   refine k_loop (fun aX a w => ∃ aY : Int, aY = aX ∧ ∃ (aZ : GH), GLe aM aZ ∧ Fr a 90 [(0, v0), (1, (.int .i64 x1)), (4, (.func (.func 117) #[] #[])), (11, (.int .i64 aY)), (12, (.int .i64 aL))] ∧ Mem W aZ w (aN :: H)) aU ⟨_, rfl, _, (GLe.refl _), f.weak ⟨rfl, rfl, rfl, rfl, rfl, trivial⟩, m⟩ ?_
   clear aU f m
   rintro aX a0 a1 a2 a w ⟨aY, rfl, aZ, a3, f, m⟩
   have aS := od1 a3 aS
   refine k_seq (k_seq ?_)
   refine k_draw 17 Follows (by kernel_rfl) m ?_
   refine q_mv 0 17 rfl (by kernel_rfl) f rfl rfl rfl fun a f => q_mv 1 17 rfl (by kernel_rfl) f rfl rfl rfl fun a f => q_p 2 17 rfl (by kernel_rfl) f rfl rfl rfl (fun _ => r_int (f.eval rfl) (f.eval rfl) b_leq) fun a f => q_mv 3 17 rfl (by kernel_rfl) f rfl rfl rfl fun a f => ?_
   obtain ⟨a4, a5, a1⟩ := bind_some a1
   refine q_cut (fuel' := 0) (listed' := #[true, true, true, true, true, true, true, true, true, true, true, true, true, true, true, true, true]) (fun a => Fr a 90 [(0, v0), (1, (.int .i64 x1)), (4, (.func (.func 117) #[] #[])), (11, (.int .i64 aY)), (12, (.int .i64 aL)), (31, (.int .i64 aY)), (32, (.int .i64 aL)), (33, (.bool (decide (aY ≤ aL)))), (34, (.bool (decide (aY ≤ aL)))), (47, (.bool a4))]) ?_ ?_
   ·intro a f
    refine q_end fun a6 w a7 m => ?_
    have aS := od1 a7 aS
    refine l_nil ?_
    rcases cond_some a1 with ⟨a8, a1⟩ | ⟨a8, a1⟩
    ·refine k_true f rfl a8 ?_
     refine k_skip ?_
     refine k_block (k_region ?_)
     refine l_mv f rfl rfl fun a f => l_in f rfl rfl rfl b_add fun a f => l_as f rfl rfl fun a f => l_nil ?_
     obtain rfl := sj a1
     exact ⟨_, rfl, _, rfl, _, (GLe.trans a3 a7), f.weak ⟨rfl, rfl, rfl, rfl, rfl, trivial⟩, m⟩
    ·refine k_false f rfl a8 ?_
     refine k_exit rfl ?_
     obtain rfl := sj a1
     obtain rfl := a2 _ rfl
     exact ⟨_, rfl, _, (GLe.trans a3 a7), f.weak ⟨rfl, rfl, rfl, rfl, rfl, trivial⟩, m⟩
   ·intro a9
    rcases cond_some a5 with ⟨ba, a5⟩ | ⟨ba, a5⟩
    ·refine q_mv 4 17 rfl (by kernel_rfl) f (wanted_of f rfl rfl rfl ba) rfl rfl fun a f => ?_
     refine q_mv 5 17 rfl (by kernel_rfl) f (wanted_of f rfl rfl rfl ba) rfl rfl fun a f => q_mv 6 17 rfl (by kernel_rfl) f (wanted_of f rfl rfl rfl ba) rfl rfl fun a f => ?_
     obtain ⟨bb, bc, a5⟩ := bind_some a5
     refine q_own_at (i := 7) 17 0 m aS rfl T71 bc rfl (by kernel_rfl) rfl f (wanted_of f rfl rfl rfl ba) rfl rfl rfl fun bd a be f => q_own_load (i := 8) 17 0 aS rfl Pl76 be bc rfl (by kernel_rfl) rfl f (wanted_of f rfl rfl rfl ba) rfl rfl fun bf a bg f => ?_
     subst bg
     refine q_mv 9 17 rfl (by kernel_rfl) f (wanted_of f rfl rfl rfl ba) rfl rfl fun a f => q_mv 10 17 rfl (by kernel_rfl) f (wanted_of f rfl rfl rfl ba) rfl rfl fun a f => ?_
     obtain ⟨bh, bi, a5⟩ := bind_some a5
     refine q_own_at (i := 11) 17 0 m aS rfl T71 bi rfl (by kernel_rfl) rfl f (wanted_of f rfl rfl rfl ba) rfl rfl rfl fun bj a bk f => q_own_load (i := 12) 17 0 aS rfl Pl76 bk bi rfl (by kernel_rfl) rfl f (wanted_of f rfl rfl rfl ba) rfl rfl fun bl a bm f => ?_
     subst bm
     obtain ⟨bn, bo, a5⟩ := bind_some a5
     refine q_callv (i := 13) 17 rfl (by kernel_rfl) rfl f (wanted_of f rfl rfl rfl ba) rfl rfl rfl Tryz.call117 (fun _ _ w bp m => Wk.a hW m  bo) fun a f => q_p 14 17 rfl (by kernel_rfl) f (wanted_of f rfl rfl rfl ba) rfl rfl (fun _ => r_int (f.eval rfl) (f.eval rfl) b_lss) fun a f => q_p 15 17 rfl (by kernel_rfl) f (wanted_of f rfl rfl rfl ba) rfl rfl (fun _ => r_not (f.eval rfl)) fun a f => q_p 16 17 rfl (by kernel_rfl) f rfl rfl rfl (fun _ => r_pickT (f.eval rfl) ba (f.eval rfl)) fun a f => ?_
     obtain rfl := sj a5
     exact a9 _ (f.weak ⟨rfl, rfl, rfl, rfl, rfl, rfl, rfl, rfl, rfl, rfl, trivial⟩)
    ·refine q_ng 4 17 rfl (by kernel_rfl) f rfl rfl ba rfl fun a f => ?_
     refine q_ng 5 17 rfl (by kernel_rfl) f rfl rfl ba rfl fun a f => q_ng 6 17 rfl (by kernel_rfl) f rfl rfl ba rfl fun a f => q_ng 7 17 rfl (by kernel_rfl) f rfl rfl ba rfl fun a f => q_ng 8 17 rfl (by kernel_rfl) f rfl rfl ba rfl fun a f => q_ng 9 17 rfl (by kernel_rfl) f rfl rfl ba rfl fun a f => q_ng 10 17 rfl (by kernel_rfl) f rfl rfl ba rfl fun a f => q_ng 11 17 rfl (by kernel_rfl) f rfl rfl ba rfl fun a f => q_ng 12 17 rfl (by kernel_rfl) f rfl rfl ba rfl fun a f => q_ng 13 17 rfl (by kernel_rfl) f rfl rfl ba rfl fun a f => q_ng 14 17 rfl (by kernel_rfl) f rfl rfl ba rfl fun a f => q_ng 15 17 rfl (by kernel_rfl) f rfl rfl ba rfl fun a f => q_p 16 17 rfl (by kernel_rfl) f rfl rfl rfl (fun _ => r_pickF (f.eval rfl) ba (f.eval rfl)) fun a f => ?_
     obtain rfl := sj a5
     exact a9 _ (f.weak ⟨rfl, rfl, rfl, rfl, rfl, rfl, rfl, rfl, rfl, rfl, trivial⟩)
  ·rintro a w ⟨aV, rfl, aW, bq, f, m⟩
   have aS := od1 bq aS
   refine k_seq ?_
   obtain ⟨br, bs, aP⟩ := bind_some aP
   refine k_cut (fun a w => ∃ bt : Int, bt = br ∧ ∃ (bu : GH), GLe aW bu ∧ Fr a 90 [(0, v0), (1, (.int .i64 x1)), (4, (.func (.func 117) #[] #[])), (11, (.int .i64 aV)), (12, (.int .i64 bt))] ∧ Mem W bu w (aN :: H)) ?_ ?_
   ·refine k_block ?_
    refine k_loop (fun bv a w => ∃ bw : Int, bw = bv ∧ ∃ (bx : GH), GLe aW bx ∧ Fr a 90 [(0, v0), (1, (.int .i64 x1)), (4, (.func (.func 117) #[] #[])), (11, (.int .i64 aV)), (12, (.int .i64 bw))] ∧ Mem W bx w (aN :: H)) bs ⟨_, rfl, _, (GLe.refl _), f.weak ⟨rfl, rfl, rfl, rfl, rfl, trivial⟩, m⟩ ?_
    clear bs f m
    rintro bv bz bA bB a w ⟨bw, rfl, bx, bC, f, m⟩
    have aS := od1 bC aS
    refine k_seq (k_seq ?_)
    refine k_draw 16 Follows (by kernel_rfl) m ?_
    refine q_mv 0 16 rfl (by kernel_rfl) f rfl rfl rfl fun a f => q_mv 1 16 rfl (by kernel_rfl) f rfl rfl rfl fun a f => q_p 2 16 rfl (by kernel_rfl) f rfl rfl rfl (fun _ => r_int (f.eval rfl) (f.eval rfl) b_leq) fun a f => q_mv 3 16 rfl (by kernel_rfl) f rfl rfl rfl fun a f => ?_
    obtain ⟨bD, bE, bA⟩ := bind_some bA
    refine q_cut (fuel' := 0) (listed' := #[true, true, true, true, true, true, true, true, true, true, true, true, true, true, true, true]) (fun a => Fr a 90 [(0, v0), (1, (.int .i64 x1)), (4, (.func (.func 117) #[] #[])), (11, (.int .i64 aV)), (12, (.int .i64 bw)), (50, (.int .i64 aV)), (51, (.int .i64 bw)), (52, (.bool (decide (aV ≤ bw)))), (53, (.bool (decide (aV ≤ bw)))), (65, (.bool bD))]) ?_ ?_
    ·intro a f
     refine q_end fun bF w bG m => ?_
     have aS := od1 bG aS
     refine l_nil ?_
     rcases cond_some bA with ⟨bH, bA⟩ | ⟨bH, bA⟩
     ·refine k_true f rfl bH ?_
      refine k_skip ?_
      refine k_block (k_region ?_)
      refine l_mv f rfl rfl fun a f => l_in f rfl rfl rfl b_sub fun a f => l_as f rfl rfl fun a f => l_nil ?_
      obtain rfl := sj bA
      exact ⟨_, rfl, _, rfl, _, (GLe.trans bC bG), f.weak ⟨rfl, rfl, rfl, rfl, rfl, trivial⟩, m⟩
     ·refine k_false f rfl bH ?_
      refine k_exit rfl ?_
      obtain rfl := sj bA
      obtain rfl := bB _ rfl
      exact ⟨_, rfl, _, (GLe.trans bC bG), f.weak ⟨rfl, rfl, rfl, rfl, rfl, trivial⟩, m⟩
    ·intro bI
     rcases cond_some bE with ⟨bJ, bE⟩ | ⟨bJ, bE⟩
     ·refine q_mv 4 16 rfl (by kernel_rfl) f (wanted_of f rfl rfl rfl bJ) rfl rfl fun a f => ?_
      refine q_mv 5 16 rfl (by kernel_rfl) f (wanted_of f rfl rfl rfl bJ) rfl rfl fun a f => q_mv 6 16 rfl (by kernel_rfl) f (wanted_of f rfl rfl rfl bJ) rfl rfl fun a f => ?_
      obtain ⟨bK, bL, bE⟩ := bind_some bE
      refine q_own_at (i := 7) 16 0 m aS rfl T71 bL rfl (by kernel_rfl) rfl f (wanted_of f rfl rfl rfl bJ) rfl rfl rfl fun bM a bN f => q_own_load (i := 8) 16 0 aS rfl Pl76 bN bL rfl (by kernel_rfl) rfl f (wanted_of f rfl rfl rfl bJ) rfl rfl fun bO a bP f => ?_
      subst bP
      refine q_mv 9 16 rfl (by kernel_rfl) f (wanted_of f rfl rfl rfl bJ) rfl rfl fun a f => q_mv 10 16 rfl (by kernel_rfl) f (wanted_of f rfl rfl rfl bJ) rfl rfl fun a f => ?_
      obtain ⟨bQ, bR, bE⟩ := bind_some bE
      refine q_own_at (i := 11) 16 0 m aS rfl T71 bR rfl (by kernel_rfl) rfl f (wanted_of f rfl rfl rfl bJ) rfl rfl rfl fun bS a bT f => q_own_load (i := 12) 16 0 aS rfl Pl76 bT bR rfl (by kernel_rfl) rfl f (wanted_of f rfl rfl rfl bJ) rfl rfl fun bU a bV f => ?_
      subst bV
      obtain ⟨bW, bX, bE⟩ := bind_some bE
      refine q_callv (i := 13) 16 rfl (by kernel_rfl) rfl f (wanted_of f rfl rfl rfl bJ) rfl rfl rfl Tryz.call117 (fun _ _ w bY m => Wk.a hW m  bX) fun a f => q_p 14 16 rfl (by kernel_rfl) f (wanted_of f rfl rfl rfl bJ) rfl rfl (fun _ => r_int (f.eval rfl) (f.eval rfl) b_lss) fun a f => q_p 15 16 rfl (by kernel_rfl) f rfl rfl rfl (fun _ => r_pickT (f.eval rfl) bJ (f.eval rfl)) fun a f => ?_
      obtain rfl := sj bE
      exact bI _ (f.weak ⟨rfl, rfl, rfl, rfl, rfl, rfl, rfl, rfl, rfl, rfl, trivial⟩)
     ·refine q_ng 4 16 rfl (by kernel_rfl) f rfl rfl bJ rfl fun a f => ?_
      refine q_ng 5 16 rfl (by kernel_rfl) f rfl rfl bJ rfl fun a f => q_ng 6 16 rfl (by kernel_rfl) f rfl rfl bJ rfl fun a f => q_ng 7 16 rfl (by kernel_rfl) f rfl rfl bJ rfl fun a f => q_ng 8 16 rfl (by kernel_rfl) f rfl rfl bJ rfl fun a f => q_ng 9 16 rfl (by kernel_rfl) f rfl rfl bJ rfl fun a f => q_ng 10 16 rfl (by kernel_rfl) f rfl rfl bJ rfl fun a f => q_ng 11 16 rfl (by kernel_rfl) f rfl rfl bJ rfl fun a f => q_ng 12 16 rfl (by kernel_rfl) f rfl rfl bJ rfl fun a f => q_ng 13 16 rfl (by kernel_rfl) f rfl rfl bJ rfl fun a f => q_ng 14 16 rfl (by kernel_rfl) f rfl rfl bJ rfl fun a f => q_p 15 16 rfl (by kernel_rfl) f rfl rfl rfl (fun _ => r_pickF (f.eval rfl) bJ (f.eval rfl)) fun a f => ?_
      obtain rfl := sj bE
      exact bI _ (f.weak ⟨rfl, rfl, rfl, rfl, rfl, rfl, rfl, rfl, rfl, rfl, trivial⟩)
   ·rintro a w ⟨bt, rfl, bu, bZ, f, m⟩
    have aS := od1 bZ aS
    refine k_seq (k_seq (k_region ?_))
    refine l_mv f rfl rfl fun a f => l_mv f rfl rfl fun a f => l_in f rfl rfl rfl b_gtr fun a f => l_nil ?_
    rcases cond_some aP with ⟨b0, aP⟩ | ⟨b0, aP⟩
    ·refine k_true f rfl b0 ?_
     refine k_exit rfl ?_
     obtain rfl := sj aP
     obtain rfl := aQ _ rfl
     exact ⟨_, _, rfl, _, aN, (GLe.trans aR (GLe.trans bq bZ)), f.weak ⟨rfl, trivial⟩, m, aS⟩
    ·refine k_false f rfl b0 ?_
     refine k_skip ?_
     refine k_seq ?_
     refine k_draw0 Follows m ?_
     refine p_p 2 rfl (by kernel_rfl) f rfl rfl rfl (fun _ => r_move (f.eval rfl)) fun a f => p_p 3 rfl (by kernel_rfl) f rfl rfl rfl (fun _ => r_move (f.eval rfl)) fun a f => k_draw1 12013 11 (by kernel_rfl) rfl ?_
     refine q_mv 0 12013 rfl (by kernel_rfl) f rfl rfl rfl fun a f => q_mv 1 12013 rfl (by kernel_rfl) f rfl rfl rfl fun a f => q_mv 4 12013 rfl (by kernel_rfl) f rfl rfl rfl fun a f => q_mv 5 12013 rfl (by kernel_rfl) f rfl rfl rfl fun a f => ?_
     obtain ⟨b1, b2, aP⟩ := bind_some aP
     refine q_own_at (i := 6) 12013 0 m aS rfl T71 b2 rfl (by kernel_rfl) rfl f rfl rfl rfl rfl fun b3 a b4 f => q_own_load (i := 7) 12013 0 aS rfl Pl76 b4 b2 rfl (by kernel_rfl) rfl f rfl rfl rfl fun b5 a b6 f => ?_
     subst b6
     refine q_mv 8 12013 rfl (by kernel_rfl) f rfl rfl rfl fun a f => q_mv 9 12013 rfl (by kernel_rfl) f rfl rfl rfl fun a f => ?_
     obtain ⟨b7, b8, aP⟩ := bind_some aP
     refine q_own_at (i := 10) 12013 0 m aS rfl T71 b8 rfl (by kernel_rfl) rfl f rfl rfl rfl rfl fun b9 a ca f => q_own_load (i := 11) 12013 0 aS rfl Pl76 ca b8 rfl (by kernel_rfl) rfl f rfl rfl rfl fun cb a cc f => ?_
     subst cc
     obtain ⟨cd, ce, aP⟩ := bind_some aP
     refine q_own_at (i := 12) 12013 0 m aS rfl T71 ce rfl (by kernel_rfl) rfl f rfl rfl rfl rfl fun cf a cg f => q_end fun ch w ci m => ?_
     have aS := od1 ci aS
     refine l_own_store 0 m aS rfl Tryz.sizeOf76 f rfl rfl cg ce rfl rfl rfl fun cj w m ck => ?_
     obtain ⟨cl, cm, aP⟩ := bind_some aP
     refine l_own_at 0 m ck rfl T71 f rfl rfl rfl cm fun cn a co f => l_own_store 0 m ck rfl Tryz.sizeOf76 f rfl rfl co cm rfl rfl rfl fun cp w m cq => l_nil (k_seq (k_region ?_))
     refine l_mv f rfl rfl fun a f => l_in f rfl rfl rfl b_add fun a f => l_as f rfl rfl fun a f => l_nil (k_region ?_)
     refine l_mv f rfl rfl fun a f => l_in f rfl rfl rfl b_sub fun a f => l_as f rfl rfl fun a f => l_nil ?_
     obtain rfl := sj aP
     exact ⟨_, rfl, _, _, _, rfl, _, cp, (GLe.trans aR (GLe.trans bq (GLe.trans bZ ci))), f.weak ⟨rfl, rfl, rfl, rfl, rfl, trivial⟩, m, cq⟩
 ·rintro a w ⟨aE, aF, rfl, aG, aH, cr, f, m, cs⟩
  refine k_seq (k_region ?_)
  refine l_mv f rfl rfl fun a f => l_as f rfl rfl fun a f => l_nil ?_
  refine k_ret ?_
  obtain rfl := sj hd
  exact ⟨[(.int .i64 aF)], ⟨f.get _ _ rfl, trivial⟩, f.defers, _, [aH], (GLe.trans ar cr), m, _, rfl, rfl, cs⟩


end Go.Proofs.YtebbefpdncgoiaaGreatDoor
