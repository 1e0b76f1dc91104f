/- That Go functions compute their models. Printed by gen2.py. -/
import Derived.Test.YteoihjfnojgnnaaGreatWc
set_option linter.unusedVariables false
namespace Go.Proofs.YteoihjfnojgnnaaGreat
open _root_.Go.Proofs.Tryz
set_option maxRecDepth 100000
set_option maxHeartbeats 1000000
attribute [local irreducible] wpList wpQuiet Code.wp
variable {g : World} {T0 : Nat → Prop} {w0 : World} {R : Assn}

theorem ref24_Walk_sim {p0 : Proc} {a1 : OA} {c1 : Nat} {a2 : OA} {c2 : Nat} {r : (List ref24Reach)} (hS : Sep g T0 w0 [R]) (h1 : SlR rGSlot T0 w0 (sv a1 p0.Objects c1) p0.Objects) (h2 : SlR rGBlock T0 w0 (sv a2 p0.Blocks c2) p0.Blocks) (hm : ref24_Walk p0 = some r) :
    Calls Tryz.prog 20 #[.agg (cProc p0 a1 c1 a2 c2).toArray] w0 (RetS T0 w0 fun T w v => ∃ (a14 : OA) (c14 : Nat), v = sv a14 r c14 ∧ Sep g T w [R] ∧ SlR rref24Reach T w (sv a14 r c14) r ∧ True) := by
  refine enter (args := [.agg (cProc p0 a1 c1 a2 c2).toArray]) Tryz.func20 rfl Tryz.ntmps20 rfl fun J => ?_
  unfold ref24_Walk at hm
  refine sq2 (rg (wl rfl (bxS (cs := (cProc p0 a1 c1 a2 c2)) rfl rfl hS fun w1 b1 im1 hS1 => ?_)))
  refine pv (r_zs rfl) (nil (t_then ?_))
  refine sq2 (rg (pv (r_zs rfl) (nil (t_then ?_))))
  refine sq2 (sq2 (rg (pv (r_zi rfl) (nil (t_then ?_)))))
  obtain ⟨o1, ho1, hq1⟩ := bindS hm
  obtain ⟨bd1, hbd1, ho1⟩ := loop_open ho1
  refine blk (wp_loop_ghost (fun m a w2 => ∃ (J : JV) (T1 : TP) (x1 : List ref24Reach) (a3 : OA) (c3 : Nat) (x2 : Int), a = env (nf 60) J [(1, pt b1 0), (3, sv a3 x1 c3), (4, iv x2)] ∧ Im T0 w1 T1 w2 ∧ Sep g T1 w2 [boxA b1 (cProc p0 a1 c1 a2 c2), R] ∧ SlR rref24Reach T1 w2 (sv a3 x1 c3) x1 ∧ loopM bd1 m (x1, x2) = some o1) NN ⟨_, _, [], _, _, 0, env_has ⟨rfl, rfl, rfl, trivial⟩, Im.refl, hS1.sel [0, 1] rfl, SlR_nil, ho1⟩ ?_)
  rintro m _ w2 ⟨J, T1, x1, a3, c3, x2, rfl, im2, hS2, h3, ho1⟩
  obtain ⟨m1, z1, rfl, hm, hn1⟩ := loop_round ho1
  rw [hbd1] at hm
  refine sq2 (sq2 (rg (pv (r_mi rfl) (pv (r_fa rfl underlying31 rfl sizeOf3 rfl) (pv (r_ld rfl isAgg3 (hS2.cell0 (i := 0) ⟨rfl, rfl⟩ (j := 3) rfl)) (pv (r_ib rfl rfl rfl) (nil (t_then ?_))))))))
  refine cnd rfl (fun hb1 => ?_) (fun hb1 => ?_)
  · have hm := ctrue hb1 hm
    refine skp (t_then ?_)
    obtain ⟨kk1, hkk1, hm⟩ := jn_open hm
    refine cut (fun a w3 => ∃ (J : JV) (T2 : TP) (x3 : List ref24Reach) (a4 : OA) (c4 : Nat), a = env (nf 60) J [(1, pt b1 0), (3, sv a4 x3 c4), (4, iv x2)] ∧ Im T1 w2 T2 w3 ∧ Sep g T2 w3 [boxA b1 (cProc p0 a1 c1 a2 c2), R] ∧ SlR rref24Reach T2 w3 (sv a4 x3 c4) x3 ∧ kk1 x3 = some z1) ?_ ?_
    · refine blk (sq2 ?_)
      obtain ⟨y1, hx1, hm⟩ := bindS hm
      refine rg (pv (r_ldS rfl isAgg31 sizeOf31 rfl (hS2.cells0 (i := 0) ⟨rfl, rfl⟩ (o := 0) rfl) (cs := (cProc p0 a1 c1 a2 c2))) (pv (r_mi rfl) (wl rfl (calS cf37 rfl (ref24_Range_sim (p0 := p0) (p1 := x2) (hS2.bun [0, 1] [] rfl) (h1.mono (iT im1 im2)) (h2.mono (iT im1 im2)) hx1) rfl fun v1 T3 w4 im4 rv1 => ?_))))
      obtain ⟨rfl, hS3, _⟩ := rv1
      have hS3 := hS3.unb
      refine wl rfl (alS (zs := [iv 0, iv 0, iv 0, .bool false]) zeroValue73 rfl hS3 fun w5 b2 im5 hS4 => ?_)
      refine wl rfl (st0B (q := 0) hS4 ⟨rfl, rfl⟩ rfl rfl rfl sizeOf73 rfl rfl rfl fun w6 im6 hS5 => ?_)
      refine nil (t_then ?_)
      refine sq2 (sq2 (rg (pv (r_fa rfl underlying73 rfl sizeOf4 rfl) (pv (r_ld rfl isAgg4 (hS5.cell0 (i := 0) ⟨rfl, rfl⟩ (j := 3) rfl)) (pv (r_nt rfl) (nil (t_then ?_)))))))
      refine cnd rfl (fun hb2 => ?_) (fun hb2 => ?_)
      · have hm := ctrue hb2 hm
        exact xt (x_then (x_eq (t_then ⟨_, _, x1, _, _, env_has ⟨rfl, rfl, rfl, trivial⟩, (iT im4 (iT im5 im6)), hS5.sel [1, 2] rfl, (h3.mono (iT im4 (iT im5 im6))), hm⟩)))
      have hm := cfalse hb2 hm
      refine skp (t_then ?_)
      refine sq2 (rg (pv (r_zs rfl) (nil (t_then ?_))))
      refine sq2 (rg (pv (r_zi rfl) (nil (t_then ?_))))
      obtain ⟨kk2, hkk2, hm⟩ := jn_open hm
      have hS6 := hS5.nilO rref24Reach 73
      refine cut (fun a w7 => ∃ (J : JV) (T4 : TP) (x4 : List ref24Reach) (a5 : OA) (n1 : Nat) (c5 : Nat) (x5 : Int), a = env (nf 60) J [(1, pt b1 0), (3, sv a3 x1 c3), (4, iv x2), (5, pt b2 0), (6, .slice a5 n1 c5), (7, iv x5)] ∧ Im T3 w6 T4 w7 ∧ Sep g T4 w7 [ownA rref24Reach 73 (.slice a5 n1 c5) x4, boxA b2 (cref24Reach y1), boxA b1 (cProc p0 a1 c1 a2 c2), R] ∧ kk2 x4 x5 = some z1) ?_ ?_
      · obtain ⟨o2, ho2, hq2⟩ := bindS hm
        obtain ⟨bd2, hbd2, ho2⟩ := loop_open ho2
        refine blk (wp_loop_ghost (fun m a w8 => ∃ (J : JV) (T5 : TP) (x6 : List ref24Reach) (a6 : OA) (n2 : Nat) (c6 : Nat) (x7 : Int), a = env (nf 60) J [(1, pt b1 0), (3, sv a3 x1 c3), (4, iv x2), (5, pt b2 0), (6, .slice a6 n2 c6), (7, iv x7)] ∧ Im T3 w6 T5 w8 ∧ Sep g T5 w8 [ownA rref24Reach 73 (.slice a6 n2 c6) x6, boxA b2 (cref24Reach y1), boxA b1 (cProc p0 a1 c1 a2 c2), R] ∧ loopM bd2 m (x6, x7) = some o2) NN ⟨_, _, [], _, _, _, 0, env_has ⟨rfl, rfl, rfl, rfl, rfl, rfl, trivial⟩, Im.refl, hS6.sel [0, 1, 2, 3] rfl, ho2⟩ ?_)
        rintro m _ w8 ⟨J, T5, x6, a6, n2, c6, x7, rfl, im8, hS7, ho2⟩
        obtain ⟨m2, z2, rfl, hm, hn2⟩ := loop_round ho2
        rw [hbd2] at hm
        refine sq2 (sq2 (rs [0, 0, 0, 0, 0, 0, 0, 0, 1, 1, 2, 0] [0, 1, 2, 3, 4, 5, 6, 7, 8, 9, 10, 11] mix (by kernel_rfl) hS7.lt fun w9 i1 => ?_))
        have im9 := i1.imm
        have hS8 := hS7.keep i1 (fun _ h => h)
        refine s0 rfl trivial (fun _ => r_mi rfl) rfl (s0 rfl trivial (fun _ => r_ms rfl) rfl (s0 rfl trivial (fun _ => r_ln rfl underlying70) rfl (s0 rfl trivial (fun _ => r_ib rfl rfl rfl) rfl (s0 rfl trivial (fun _ => r_mb rfl) rfl (?_)))))
        rcases Bool.eq_false_or_eq_true (decide (x7 < (List.length x1 : Int))) with hb3 | hb3
        · have hm := ctrue hb3 hm
          obtain ⟨u1, hx2, hm⟩ := bindS hm
          obtain ⟨b3, of1, cs1, k1, cp1, hv1, hp1, hl1, he1, hr1, hc1, hT1⟩ := (h3.mono (iT im4 (iT im5 (iT im6 (iT im8 im9))))).ixT hx2 rfl
          cases rref24Reach_open hr1
          obtain ⟨y2, hx3, hm⟩ := bindS hm
          refine s0 rfl ⟨_, rfl, congrArg Value.bool hb3⟩ (fun _ => r_ms rfl) rfl (s0 rfl ⟨_, rfl, congrArg Value.bool hb3⟩ (fun _ => r_mi rfl) rfl (s0 rfl ⟨_, rfl, congrArg Value.bool hb3⟩ (fun _ => r_ixe hv1 rfl underlying70 sizeOf73 hp1 hl1 he1) rfl (s1 rfl ⟨_, rfl, congrArg Value.bool hb3⟩ (r_ldS rfl isAgg73 sizeOf73 rfl hc1 (cs := (cref24Reach u1))) rfl (s1 rfl ⟨_, rfl, congrArg Value.bool hb3⟩ (r_ldS rfl isAgg73 sizeOf73 rfl (hS8.cells0 (i := 1) ⟨rfl, rfl⟩ (o := 0) rfl) (cs := (cref24Reach y1))) rfl (s2 [] rfl ⟨_, rfl, congrArg Value.bool hb3⟩ rfl (by kernel_rfl) (calS cf38 rfl (ref24_before_sim (p0 := u1) (p1 := y1) (hS8.bun [0, 1, 2, 3] [] rfl)  hx3) rfl fun v2 T6 w10 im10 rv2 => ?_))))))
          obtain ⟨rfl, hS9, _⟩ := rv2
          have hS9 := hS9.unb
          refine ⟨st0, ?_⟩
          refine s0 rfl trivial (fun _ => r_pkt rfl hb3 rfl) rfl (se (t_then ?_))
          refine cnd rfl (fun hb4 => ?_) (fun hb4 => ?_)
          · have hm := ctrue hb4 hm
            refine skp (t_then ?_)
            refine blk (sq2 ?_)
            obtain ⟨u2, hx4, hm⟩ := bindS hm
            obtain ⟨b4, of2, cs2, k2, cp2, hv2, hp2, hl2, he2, hr2, hc2, hT2⟩ := (h3.mono (iT im4 (iT im5 (iT im6 (iT im8 (iT im9 im10)))))).ixT hx4 rfl
            cases rref24Reach_open hr2
            refine rg (pv (r_ms rfl) (pv (r_ms rfl) (pv (r_mi rfl) (pv (r_ixe hv2 rfl underlying70 sizeOf73 hp2 hl2 he2) (pv (r_ldS rfl isAgg73 sizeOf73 rfl hc2 (cs := (cref24Reach u2))) (wl rfl (bsS (r := rref24Reach) (l := ([u2] : List ref24Reach)) (css := [(cref24Reach u2)]) hS9 underlying70 sizeOf73 zeroValue73 rfl rfl (by kernel_rfl) rfl ⟨(rref24Reach_mk (x := u2)  : rref24Reach.rp _ _ _ _), trivial⟩ rfl rfl fun w11 a7 n3 c7 im11 hS10 => ?_)))))))
            obtain ⟨z_1, hro1, hm⟩ := bindS hm
            refine wl rfl (apO (q := 1) (l := x6) (us := ([u2] : List ref24Reach)) hS10 ⟨rfl, rfl⟩ rfl rfl (hS10.own (i := 0) ⟨rfl, rfl⟩).v underlying70 el73 (room_some hro1) fun w12 a8 n4 c8 im12 hS11 => ?_)
            refine pv (r_zs rfl) (nil (t_then ?_))
            have hm := oI hm; subst hm
            exact rg (pv (r_mi rfl) (pv (r_ib rfl rfl rfl) (pv (r_zi rfl) (nil (t_blk (t_then ⟨m2, Nat.lt_succ_self _, _, _, (x6 ++ ([u2] : List ref24Reach)), _, _, _, (IntKind.wrap .i64 (x7 + 1)), env_has ⟨rfl, rfl, rfl, rfl, rfl, rfl, trivial⟩, (iT im8 (iT im9 (iT im10 (iT im11 im12)))), hS11.sel [1, 2, 3, 4] rfl, hn2⟩))))))
          have hm := cfalse hb4 hm
          have hm := oI hm; subst hm
          have hn2 : _ = Lp.brk _ := hn2
          subst hn2
          have hm := thn_brk hq2
          exact xt (x_then (x_then (x_eq (t_then ⟨_, _, x6, _, _, _, x7, env_has ⟨rfl, rfl, rfl, rfl, rfl, rfl, trivial⟩, (iT im8 (iT im9 im10)), hS9.sel [0, 1, 2, 3] rfl, hm⟩))))
        have hm := cfalse hb3 hm
        refine sU rfl (gI rfl rfl hb3) (sU rfl (gI rfl rfl hb3) (sU rfl (gI rfl rfl hb3) (sU rfl (gI rfl rfl hb3) (sU rfl (gI rfl rfl hb3) (sU rfl (gI rfl rfl hb3) (s0 rfl trivial (fun _ => r_pkf rfl hb3 rfl) rfl (se (t_then ?_))))))))
        refine cnd (b := false) rfl (fun h => nomatch h) (fun _ => ?_)
        have hm := oI hm; subst hm
        have hn2 : _ = Lp.brk _ := hn2
        subst hn2
        have hm := thn_brk hq2
        exact xt (x_then (x_then (x_eq (t_then ⟨_, _, x6, _, _, _, x7, env_has ⟨rfl, rfl, rfl, rfl, rfl, rfl, trivial⟩, (iT im8 im9), hS8.sel [0, 1, 2, 3] rfl, hm⟩))))
      rintro _ w7 ⟨J, T4, x4, a5, n1, c5, x5, rfl, im7, hS12, hm⟩
      rw [hkk2] at hm
      refine sq2 (rg (pv (r_ms rfl) (pv (r_ldS rfl isAgg73 sizeOf73 rfl (hS12.cells0 (i := 1) ⟨rfl, rfl⟩ (o := 0) rfl) (cs := (cref24Reach y1))) (wl rfl (bsS (r := rref24Reach) (l := ([y1] : List ref24Reach)) (css := [(cref24Reach y1)]) hS12 underlying70 sizeOf73 zeroValue73 rfl rfl (by kernel_rfl) rfl ⟨(rref24Reach_mk (x := y1)  : rref24Reach.rp _ _ _ _), trivial⟩ rfl rfl fun w13 a9 n5 c9 im13 hS13 => ?_)))))
      obtain ⟨z_2, hro2, hm⟩ := bindS hm
      refine wl rfl (apO (q := 1) (l := x4) (us := ([y1] : List ref24Reach)) hS13 ⟨rfl, rfl⟩ rfl rfl (hS13.own (i := 0) ⟨rfl, rfl⟩).v underlying70 el73 (room_some hro2) fun w14 a10 n6 c10 im14 hS14 => ?_)
      refine pv (r_zs rfl) (nil (t_then ?_))
      refine sq2 ?_
      obtain ⟨o2, ho2, hq2⟩ := bindS hm
      obtain ⟨bd2, hbd2, ho2⟩ := loop_open ho2
      refine blk (wp_loop_ghost (fun m a w15 => ∃ (J : JV) (T7 : TP) (x8 : List ref24Reach) (a11 : OA) (n7 : Nat) (c11 : Nat) (x9 : Int), a = env (nf 60) J [(1, pt b1 0), (3, sv a3 x1 c3), (4, iv x2), (6, .slice a11 n7 c11), (7, iv x9)] ∧ Im T4 w14 T7 w15 ∧ Sep g T7 w15 [ownA rref24Reach 73 (.slice a11 n7 c11) x8, boxA b1 (cProc p0 a1 c1 a2 c2), R] ∧ loopM bd2 m (x8, x9) = some o2) NN ⟨_, _, (x4 ++ ([y1] : List ref24Reach)), _, _, _, x5, env_has ⟨rfl, rfl, rfl, rfl, rfl, trivial⟩, Im.refl, hS14.sel [1, 3, 4] rfl, ho2⟩ ?_)
      rintro m _ w15 ⟨J, T7, x8, a11, n7, c11, x9, rfl, im15, hS15, ho2⟩
      obtain ⟨m2, z2, rfl, hm, hn2⟩ := loop_round ho2
      rw [hbd2] at hm
      refine sq2 (sq2 (rg (pv (r_mi rfl) (pv (r_ms rfl) (pv (r_ln rfl underlying70) (pv (r_ib rfl rfl rfl) (nil (t_then ?_))))))))
      refine cnd rfl (fun hb6 => ?_) (fun hb6 => ?_)
      · have hm := ctrue hb6 hm
        refine skp (t_then ?_)
        refine blk (sq2 ?_)
        obtain ⟨u3, hx5, hm⟩ := bindS hm
        obtain ⟨b5, of3, cs3, k3, cp3, hv3, hp3, hl3, he3, hr3, hc3, hT3⟩ := (h3.mono (iT im4 (iT im5 (iT im6 (iT im7 (iT im13 (iT im14 im15))))))).ixT hx5 rfl
        cases rref24Reach_open hr3
        refine rg (pv (r_ms rfl) (pv (r_ms rfl) (pv (r_mi rfl) (pv (r_ixe hv3 rfl underlying70 sizeOf73 hp3 hl3 he3) (pv (r_ldS rfl isAgg73 sizeOf73 rfl hc3 (cs := (cref24Reach u3))) (wl rfl (bsS (r := rref24Reach) (l := ([u3] : List ref24Reach)) (css := [(cref24Reach u3)]) hS15 underlying70 sizeOf73 zeroValue73 rfl rfl (by kernel_rfl) rfl ⟨(rref24Reach_mk (x := u3)  : rref24Reach.rp _ _ _ _), trivial⟩ rfl rfl fun w16 a12 n8 c12 im16 hS16 => ?_)))))))
        obtain ⟨z_3, hro3, hm⟩ := bindS hm
        refine wl rfl (apO (q := 1) (l := x8) (us := ([u3] : List ref24Reach)) hS16 ⟨rfl, rfl⟩ rfl rfl (hS16.own (i := 0) ⟨rfl, rfl⟩).v underlying70 el73 (room_some hro3) fun w17 a13 n9 c13 im17 hS17 => ?_)
        refine pv (r_zs rfl) (nil (t_then ?_))
        have hm := oI hm; subst hm
        exact rg (pv (r_mi rfl) (pv (r_ib rfl rfl rfl) (pv (r_zi rfl) (nil (t_blk (t_then ⟨m2, Nat.lt_succ_self _, _, _, (x8 ++ ([u3] : List ref24Reach)), _, _, _, (IntKind.wrap .i64 (x9 + 1)), env_has ⟨rfl, rfl, rfl, rfl, rfl, trivial⟩, (iT im15 (iT im16 im17)), hS17.sel [1, 2, 3] rfl, hn2⟩))))))
      have hm := cfalse hb6 hm
      have hm := oI hm; subst hm
      have hn2 : _ = Lp.brk _ := hn2
      subst hn2
      have hm := thn_brk hq2
      refine xt (x_then (x_then (x_eq (t_then ?_))))
      obtain ⟨T8, im18, hS18, h5⟩ := hS15.seal 0 ⟨rfl, rfl⟩
      have hsh := h5.len
      subst hsh
      exact rg (pv (r_ms rfl) (pv (r_zs rfl) (nil (t_blk (t_then ⟨_, _, x8, _, _, env_has ⟨rfl, rfl, rfl, trivial⟩, (iT im4 (iT im5 (iT im6 (iT im7 (iT im13 (iT im14 (iT im15 im18))))))), hS18.sel [1, 2] rfl, h5, hm⟩)))))
    rintro _ w3 ⟨J, T2, x3, a4, c4, rfl, im3, hS19, h4, hm⟩
    rw [hkk1] at hm
    have hm := oI hm; subst hm
    exact rg (pv (r_mi rfl) (pv (r_ib rfl rfl rfl) (pv (r_zi rfl) (nil (t_then ⟨m1, Nat.lt_succ_self _, _, _, x3, _, _, (IntKind.wrap .i64 (x2 + 1)), env_has ⟨rfl, rfl, rfl, trivial⟩, (iT im2 im3), hS19.sel [0, 1] rfl, h4, hn1⟩)))))
  have hm := cfalse hb1 hm
  have hm := oI hm; subst hm
  have hn1 : _ = Lp.brk _ := hn1
  subst hn1
  have hm := thn_brk hq1
  refine xt (x_then (x_then (x_eq (t_then ?_))))
  refine sq2 (rg (pv (r_ms rfl) (pv (r_zs rfl) (nil (t_then ?_)))))
  have hm := oI hm; subst hm
  exact rtn (ret1 rfl rfl ⟨_, rfl, _, (iT im1 im2), ⟨_, _, rfl, hS2.sel [1] rfl, h3, trivial⟩⟩)

theorem ref24_Name_sim {p0 : Int} {r : Int} (hS : Sep g T0 w0 [R])  (hm : ref24_Name p0 = some r) :
    Calls Tryz.prog 10 #[iv p0] w0 (RetS T0 w0 fun T w v => v = iv r ∧ Sep g T w [R] ∧ True) := by
  refine enter (args := [iv p0]) Tryz.func10 rfl Tryz.ntmps10 rfl fun J => ?_
  unfold ref24_Name at hm
  refine sq2 (rg (pv (r_zi rfl) (nil (t_then ?_))))
  refine sq2 (rg (wl rfl (bsS (r := (rInt .i64)) (l := ([8, 9, 18, 19, 20, 21, 22, 23, 24, 25, 26, 27] : List Int)) (css := [[iv 8], [iv 9], [iv 18], [iv 19], [iv 20], [iv 21], [iv 22], [iv 23], [iv 24], [iv 25], [iv 26], [iv 27]]) hS underlying41 sizeOf3 zeroValue3 rfl rfl (by kernel_rfl) rfl ⟨rfl, rfl, rfl, rfl, rfl, rfl, rfl, rfl, rfl, rfl, rfl, rfl, trivial⟩ rfl rfl fun w1 a1 n1 c1 im1 hS1 => ?_)))
  refine pv (r_zs rfl) (nil (t_then ?_))
  refine sq2 ?_
  obtain ⟨u1, hx1, hm⟩ := bindS hm
  obtain ⟨b1, of1, cs1, k1, cp1, hv1, hp1, hl1, he1, hr1, hc1⟩ := (hS1.own (i := 0) ⟨rfl, rfl⟩).v.ixq hx1 rfl
  cases hr1
  refine rg (pv (r_ms rfl) (pv (r_mi rfl) (pv (r_ixe hv1 rfl underlying41 sizeOf3 hp1 hl1 he1) (pv (r_ld rfl isAgg3 (hc1.get (j := 0) rfl)) (pv (r_zi rfl) (nil (t_then ?_)))))))
  have hm := oI hm; subst hm
  exact rtn (ret1 rfl rfl ⟨_, rfl, _, im1, ⟨rfl, hS1.sel [1] rfl, trivial⟩⟩)

theorem ref24_Assign_sim {p0 : Proc} {a1 : OA} {c1 : Nat} {a2 : OA} {c2 : Nat} {p1 : Int} {r : ref24Given} (hS : Sep g T0 w0 [R]) (h1 : SlR rGSlot T0 w0 (sv a1 p0.Objects c1) p0.Objects) (h2 : SlR rGBlock T0 w0 (sv a2 p0.Blocks c2) p0.Blocks) (hm : ref24_Assign p0 p1 = some r) :
    Calls Tryz.prog 7 #[.agg (cProc p0 a1 c1 a2 c2).toArray, iv p1] w0 (RetS T0 w0 fun T w v => ∃ (a16 : OA) (c16 : Nat), v = .agg #[sv a16 r.Seats c16, iv r.Slots] ∧ Sep g T w [R] ∧ SlR rSeat T w (sv a16 r.Seats c16) r.Seats ∧ True) := by
  refine enter (args := [.agg (cProc p0 a1 c1 a2 c2).toArray, iv p1]) Tryz.func7 rfl Tryz.ntmps7 rfl fun J => ?_
  unfold ref24_Assign at hm
  refine sq2 (rg (wl rfl (bxS (cs := (cProc p0 a1 c1 a2 c2)) rfl rfl hS fun w1 b1 im1 hS1 => ?_)))
  refine wl rfl (alS (zs := [.slice none 0 0, iv 0]) zeroValue37 rfl hS1 fun w2 b2 im2 hS2 => ?_)
  refine nil (t_then ?_)
  refine sq2 (rg (wl rfl (alS (zs := [.slice none 0 0, iv 0]) zeroValue37 rfl hS2 fun w3 b3 im3 hS3 => ?_)))
  refine nil (t_then ?_)
  refine sq2 (sq2 (rg (pv (r_zi rfl) (nil (t_then ?_)))))
  obtain ⟨o1, ho1, hq1⟩ := bindS hm
  obtain ⟨bd1, hbd1, ho1⟩ := loop_open ho1
  have hS4 := hS3.nilO rSeat 44
  refine blk (wp_loop_ghost (fun m a w4 => ∃ (J : JV) (T1 : TP) (x3 : ref24Given) (a3 : OA) (n1 : Nat) (c3 : Nat) (x2 : Int), a = env (nf 211) J [(1, iv p1), (2, pt b1 0), (4, pt b2 0), (5, pt b3 0), (6, iv x2)] ∧ Im T0 w3 T1 w4 ∧ Sep g T1 w4 [ownA rSeat 44 (.slice a3 n1 c3) x3.Seats, boxA b3 [.slice a3 n1 c3, iv x3.Slots], boxA b2 [.slice none 0 0, iv 0], boxA b1 (cProc p0 a1 c1 a2 c2), R] ∧ loopM bd1 m (x2, x3) = some o1) NN ⟨_, _, (⟨[], 0⟩ : ref24Given), _, _, _, 0, env_has ⟨rfl, rfl, rfl, rfl, rfl, trivial⟩, Im.refl, hS4.sel [0, 1, 2, 3, 4] rfl, ho1⟩ ?_)
  rintro m _ w4 ⟨J, T1, x3, a3, n1, c3, x2, rfl, im4, hS5, ho1⟩
  obtain ⟨m1, z1, rfl, hm, hn1⟩ := loop_round ho1
  rw [hbd1] at hm
  refine sq2 (sq2 (rg (pv (r_mi rfl) (pv (r_fa rfl underlying31 rfl sizeOf3 rfl) (pv (r_ld rfl isAgg3 (hS5.cell0 (i := 3) ⟨rfl, rfl⟩ (j := 3) rfl)) (pv (r_ib rfl rfl rfl) (nil (t_then ?_))))))))
  refine cnd rfl (fun hb1 => ?_) (fun hb1 => ?_)
  · have hm := ctrue hb1 hm
    refine skp (t_then ?_)
    refine sq2 (blk (rg (pv (r_fa rfl underlying37 rfl sizeOf32 rfl) (pv (r_ld rfl isAgg32 (hS5.cell0 (i := 1) ⟨rfl, rfl⟩ (j := 0) rfl)) (pv (r_bd (by kernel_rfl) rfl (u := .agg #[iv 0, iv (-1)])) (wl rfl (bsS (r := rSeat) (l := ([(⟨0, (-1)⟩ : Seat)] : List Seat)) (css := [[iv 0, iv (-1)]]) hS5 underlying32 sizeOf44 zeroValue44 rfl rfl (by kernel_rfl) rfl ⟨(rSeat_mk (x := (⟨0, (-1)⟩ : Seat))  : rSeat.rp _ _ _ _), trivial⟩ rfl rfl fun w5 a4 n2 c4 im5 hS6 => ?_)))))))
    obtain ⟨z_1, hro1, hm⟩ := bindS hm
    refine wl rfl (apO (q := 1) (l := x3.Seats) (us := ([(⟨0, (-1)⟩ : Seat)] : List Seat)) hS6 ⟨rfl, rfl⟩ rfl rfl (hS6.own (i := 0) ⟨rfl, rfl⟩).v underlying32 el44 (room_some hro1) fun w6 a5 n3 c5 im6 hS7 => ?_)
    refine pv (r_fa rfl underlying37 rfl sizeOf32 rfl) (wl rfl (st0B (q := 2) hS7 ⟨rfl, rfl⟩ rfl rfl rfl sizeOf32 rfl rfl rfl fun w7 im7 hS8 => ?_))
    refine nil (t_blk (t_then ?_))
    have hm := oI hm; subst hm
    exact rg (pv (r_mi rfl) (pv (r_ib rfl rfl rfl) (pv (r_zi rfl) (nil (t_then ⟨m1, Nat.lt_succ_self _, _, _, (⟨x3.Seats ++ ([(⟨0, (-1)⟩ : Seat)] : List Seat), x3.Slots⟩ : ref24Given), _, _, _, (IntKind.wrap .i64 (x2 + 1)), env_has ⟨rfl, rfl, rfl, rfl, rfl, trivial⟩, (iT im4 (iT im5 (iT im6 im7))), hS8.sel [1, 2, 3, 4, 5] rfl, hn1⟩)))))
  have hm := cfalse hb1 hm
  have hm := oI hm; subst hm
  have hn1 : _ = Lp.brk _ := hn1
  subst hn1
  have hm := thn_brk hq1
  refine xt (x_then (x_then (x_eq (t_then ?_))))
  refine sq2 ?_
  obtain ⟨y1, hx1, hm⟩ := bindS hm
  refine rg (pv (r_ldS rfl isAgg31 sizeOf31 rfl (hS5.cells0 (i := 3) ⟨rfl, rfl⟩ (o := 0) rfl) (cs := (cProc p0 a1 c1 a2 c2))) (wl rfl (calS cf20 rfl (ref24_Walk_sim (p0 := p0) (hS5.bun [0, 1, 2, 4] [] rfl) (h1.mono (iT im1 (iT im2 (iT im3 im4)))) (h2.mono (iT im1 (iT im2 (iT im3 im4)))) hx1) rfl fun v1 T2 w8 im8 rv1 => ?_)))
  obtain ⟨a6, c6, rfl, hS9, h3, _⟩ := rv1
  have hS9 := hS9.unb
  refine pv (r_zs rfl) (nil (t_then ?_))
  refine sq2 ?_
  obtain ⟨u1, hx2, hm⟩ := bindS hm
  refine rg (pv (r_mi rfl) (wl rfl (msS (r := (rInt .i64)) hS9 rfl rfl underlying41 el3 zeroValue3 rfl hx2 fun w9 a7 n4 c7 im9 hS10 => ?_)))
  refine pv (r_zs rfl) (nil (t_then ?_))
  refine sq2 (sq2 (rg (pv (r_zi rfl) (nil (t_then ?_)))))
  obtain ⟨o1, ho1, hq1⟩ := bindS hm
  obtain ⟨bd1, hbd1, ho1⟩ := loop_open ho1
  refine blk (wp_loop_ghost (fun m a w10 => ∃ (J : JV) (T3 : TP) (x7 : ref24Given) (x4 : List Int) (a8 : OA) (n5 : Nat) (c8 : Nat) (a9 : OA) (n6 : Nat) (c9 : Nat) (x6 : Int), a = env (nf 211) J [(1, iv p1), (4, pt b2 0), (5, pt b3 0), (7, sv a6 y1 c6), (8, .slice a8 n5 c8), (9, iv x6)] ∧ Im T2 w9 T3 w10 ∧ Sep g T3 w10 [ownA (rInt .i64) 3 (.slice a8 n5 c8) x4, ownA rSeat 44 (.slice a9 n6 c9) x7.Seats, boxA b3 [.slice a9 n6 c9, iv x7.Slots], boxA b2 [.slice none 0 0, iv 0], R] ∧ loopM bd1 m (x4, x6, x7) = some o1) NN ⟨_, _, x3, u1, _, _, _, _, _, _, 0, env_has ⟨rfl, rfl, rfl, rfl, rfl, rfl, trivial⟩, Im.refl, hS10.sel [0, 1, 2, 3, 4] rfl, ho1⟩ ?_)
  rintro m _ w10 ⟨J, T3, x7, x4, a8, n5, c8, a9, n6, c9, x6, rfl, im10, hS11, ho1⟩
  obtain ⟨m1, z1, rfl, hm, hn1⟩ := loop_round ho1
  rw [hbd1] at hm
  refine sq2 (sq2 (rg (pv (r_mi rfl) (pv (r_ms rfl) (pv (r_ln rfl underlying70) (pv (r_ib rfl rfl rfl) (nil (t_then ?_))))))))
  refine cnd rfl (fun hb2 => ?_) (fun hb2 => ?_)
  · have hm := ctrue hb2 hm
    refine skp (t_then ?_)
    obtain ⟨kk1, hkk1, hm⟩ := jn_open hm
    refine cut (fun a w11 => ∃ (J : JV) (T4 : TP) (x10 : ref24Given) (x8 : List Int) (a10 : OA) (n7 : Nat) (c10 : Nat) (a11 : OA) (n8 : Nat) (c11 : Nat), a = env (nf 211) J [(1, iv p1), (4, pt b2 0), (5, pt b3 0), (7, sv a6 y1 c6), (8, .slice a10 n7 c10), (9, iv x6)] ∧ Im T3 w10 T4 w11 ∧ Sep g T4 w11 [ownA (rInt .i64) 3 (.slice a10 n7 c10) x8, ownA rSeat 44 (.slice a11 n8 c11) x10.Seats, boxA b3 [.slice a11 n8 c11, iv x10.Slots], boxA b2 [.slice none 0 0, iv 0], R] ∧ kk1 x8 x10 = some z1) ?_ ?_
    · refine blk (sq2 ?_)
      obtain ⟨u2, hx3, hm⟩ := bindS hm
      obtain ⟨b4, of1, cs1, k1, cp1, hv1, hp1, hl1, he1, hr1, hc1, hT1⟩ := (h3.mono (iT im9 im10)).ixT hx3 rfl
      cases rref24Reach_open hr1
      refine rg (pv (r_ms rfl) (pv (r_mi rfl) (pv (r_ixe hv1 rfl underlying70 sizeOf73 hp1 hl1 he1) (pv (r_ldS rfl isAgg73 sizeOf73 rfl hc1 (cs := (cref24Reach u2))) (wl rfl (alS (zs := [iv 0, iv 0, iv 0, .bool false]) zeroValue73 rfl hS11 fun w12 b5 im12 hS12 => ?_))))))
      refine wl rfl (st0B (q := 0) hS12 ⟨rfl, rfl⟩ rfl rfl rfl sizeOf73 rfl rfl rfl fun w13 im13 hS13 => ?_)
      refine nil (t_then ?_)
      refine sq2 (rg (pv (r_zi rfl) (nil (t_then ?_))))
      refine sq2 (rg (pv (r_zi rfl) (nil (t_then ?_))))
      refine sq2 (sq2 (rg (pv (r_mi rfl) (pv (r_ib rfl rfl rfl) (pv (r_zi rfl) (nil (t_then ?_)))))))
      obtain ⟨o2, ho2, hq2⟩ := bindS hm
      obtain ⟨bd2, hbd2, ho2⟩ := loop_open ho2
      refine blk (wp_loop_ghost (fun m a w14 => ∃ (J : JV) (T5 : TP) (x11 : List Int) (a12 : OA) (n9 : Nat) (c12 : Nat) (x12 : Int) (x13 : Int), a = env (nf 211) J [(1, iv p1), (4, pt b2 0), (5, pt b3 0), (7, sv a6 y1 c6), (8, .slice a12 n9 c12), (9, iv x6), (10, pt b5 0), (11, iv x12), (12, iv (-1)), (13, iv x13)] ∧ Im T3 w13 T5 w14 ∧ Sep g T5 w14 [boxA b5 (cref24Reach u2), ownA (rInt .i64) 3 (.slice a12 n9 c12) x11, ownA rSeat 44 (.slice a9 n6 c9) x7.Seats, boxA b3 [.slice a9 n6 c9, iv x7.Slots], boxA b2 [.slice none 0 0, iv 0], R] ∧ loopM bd2 m (x11, x12, x13) = some o2) NN ⟨_, _, x4, _, _, _, (-1), (IntKind.wrap .i64 (p1 - 1)), env_has ⟨rfl, rfl, rfl, rfl, rfl, rfl, rfl, rfl, rfl, rfl, trivial⟩, Im.refl, hS13.sel [0, 1, 2, 3, 4, 5] rfl, ho2⟩ ?_)
      rintro m _ w14 ⟨J, T5, x11, a12, n9, c12, x12, x13, rfl, im14, hS14, ho2⟩
      obtain ⟨m2, z2, rfl, hm, hn2⟩ := loop_round ho2
      rw [hbd2] at hm
      refine sq2 (sq2 (rg (pv (r_mi rfl) (pv (r_ib rfl rfl rfl) (nil (t_then ?_))))))
      refine cnd rfl (fun hb3 => ?_) (fun hb3 => ?_)
      · have hm := ctrue hb3 hm
        refine skp (t_then ?_)
        obtain ⟨kk2, hkk2, hm⟩ := jn_open hm
        refine cut (fun a w15 => ∃ (J : JV) (T6 : TP) (x14 : List Int) (a13 : OA) (n10 : Nat) (c13 : Nat) (x15 : Int), a = env (nf 211) J [(1, iv p1), (4, pt b2 0), (5, pt b3 0), (7, sv a6 y1 c6), (8, .slice a13 n10 c13), (9, iv x6), (10, pt b5 0), (11, iv x15), (12, iv (-1)), (13, iv x13)] ∧ Im T5 w14 T6 w15 ∧ Sep g T6 w15 [boxA b5 (cref24Reach u2), ownA (rInt .i64) 3 (.slice a13 n10 c13) x14, ownA rSeat 44 (.slice a9 n6 c9) x7.Seats, boxA b3 [.slice a9 n6 c9, iv x7.Slots], boxA b2 [.slice none 0 0, iv 0], R] ∧ kk2 x14 x15 = some z2) ?_ ?_
        · refine blk ?_
          obtain ⟨kk3, hkk3, hm⟩ := jn_open hm
          refine cut (fun a w16 => ∃ (J : JV) (T7 : TP) (x16 : List Int) (a14 : OA) (n11 : Nat) (c14 : Nat), a = env (nf 211) J [(1, iv p1), (4, pt b2 0), (5, pt b3 0), (7, sv a6 y1 c6), (8, .slice a14 n11 c14), (9, iv x6), (10, pt b5 0), (11, iv x12), (12, iv (-1)), (13, iv x13)] ∧ Im T5 w14 T7 w16 ∧ Sep g T7 w16 [boxA b5 (cref24Reach u2), ownA (rInt .i64) 3 (.slice a14 n11 c14) x16, ownA rSeat 44 (.slice a9 n6 c9) x7.Seats, boxA b3 [.slice a9 n6 c9, iv x7.Slots], boxA b2 [.slice none 0 0, iv 0], R] ∧ kk3 x16 = some z2) ?_ ?_
          · refine sq2 ?_
            obtain ⟨u3, hx4, hm⟩ := bindS hm
            obtain ⟨b6, of2, cs2, k2, cp2, hv2, hp2, hl2, he2, hr2, hc2⟩ := (hS14.own (i := 1) ⟨rfl, rfl⟩).v.ixq hx4 rfl
            cases hr2
            refine rq mix (by kernel_rfl) hS14.lt (qv (fun _ hq => r_ms rfl) (qv (fun _ hq => r_mi rfl) (qv (fun _ hq => r_ixe hv2 rfl underlying41 sizeOf3 hp2 hl2 he2) (qv (fun _ hq => r_ld rfl isAgg3 (hq.cell (hc2.get (j := 0) rfl))) (qv (fun _ hq => r_ib rfl rfl rfl) (qv (fun _ hq => r_mb rfl) (?_)))))))
            rcases Bool.eq_false_or_eq_true (decide (0 < u3)) with hb4 | hb4
            · have hm := ctrue hb4 hm
              obtain ⟨u4, hx5, hm⟩ := bindS hm
              obtain ⟨b7, of3, cs3, k3, cp3, hv3, hp3, hl3, he3, hr3, hc3⟩ := (hS14.own (i := 1) ⟨rfl, rfl⟩).v.ixq hx5 rfl
              cases hr3
              obtain ⟨u5, hx6, hm⟩ := bindS hm
              obtain ⟨b8, of4, cs4, k4, cp4, hv4, hp4, hl4, he4, hr4, hc4, hT2⟩ := (h3.mono (iT im9 (iT im10 (iT im12 (iT im13 im14))))).ixT hx6 rfl
              cases rref24Reach_open hr4
              refine qgT (d0 := 52) rfl rfl hb4 (qv (fun _ hq => r_ms rfl) (qgT (d0 := 52) rfl rfl hb4 (qv (fun _ hq => r_ms rfl) (qgT (d0 := 52) rfl rfl hb4 (qv (fun _ hq => r_mi rfl) (qgT (d0 := 52) rfl rfl hb4 (qv (fun _ hq => r_ixe hv3 rfl underlying41 sizeOf3 hp3 hl3 he3) (qgT (d0 := 52) rfl rfl hb4 (qv (fun _ hq => r_ld rfl isAgg3 (hq.cell (hc3.get (j := 0) rfl))) (qgT (d0 := 52) rfl rfl hb4 (qv (fun _ hq => r_ib rfl rfl rfl) (qgT (d0 := 52) rfl rfl hb4 (qv (fun _ hq => r_ixe hv4 rfl underlying70 sizeOf73 hp4 hl4 he4) (qgT (d0 := 52) rfl rfl hb4 (qv (fun _ hq => r_fa rfl underlying73 rfl sizeOf3 rfl) (qgT (d0 := 52) rfl rfl hb4 (qv (fun _ hq => r_ld rfl isAgg3 (hq.cell (hc4.get (j := 2) rfl))) (qgT (d0 := 52) rfl rfl hb4 (qv (fun _ hq => r_fa rfl underlying73 rfl sizeOf3 rfl) (qgT (d0 := 52) rfl rfl hb4 (qv (fun _ hq => r_ld rfl isAgg3 (hq.cell (hS14.cell0 (i := 0) ⟨rfl, rfl⟩ (j := 1) rfl))) (qgT (d0 := 52) rfl rfl hb4 (qv (fun _ hq => r_ib rfl rfl rfl) (qv (fun _ hq => r_pkt rfl hb4 rfl) (qn fun w17 T8 i1 => ?_)))))))))))))))))))))))))
              have im17 := i1.imm
              have hS15 := hS14.keep i1 (fun _ h => h)
              refine t_then ?_
              refine cnd rfl (fun hb5 => ?_) (fun hb5 => ?_)
              · have hm := ctrue hb5 hm
                obtain ⟨u6, hx7, hm⟩ := bindS hm
                obtain ⟨b9, of5, cs5, k5, cp5, hv5, hp5, hl5, he5, hr5, hc5⟩ := (hS15.own (i := 1) ⟨rfl, rfl⟩).v.ixq hx7 rfl
                cases hr5
                obtain ⟨u7, hx8, hm⟩ := bindS hm
                refine rg (pv (r_ms rfl) (pv (r_mi rfl) (pv (r_ixe hv5 rfl underlying41 sizeOf3 hp5 hl5 he5) (wl rfl (stO (q := 1) (i := Int.toNat x13) (j := 0) (u := u7) (u' := 0) hS15 ⟨rfl, rfl⟩ hv5 (idx_some hx8).2.2 he5 rfl rfl rfl sizeOf3 rfl rfl rfl (fun c0 hc0 => by rw [storeL_all (r := (rInt .i64)) hc0 rfl]; exact rfl) fun w18 im18 hS16 => ?_)))))
                exact nil (t_then ⟨_, _, (List.set x11 (Int.toNat x13) 0), _, _, _, env_has ⟨rfl, rfl, rfl, rfl, rfl, rfl, rfl, rfl, rfl, rfl, trivial⟩, (iT im17 im18), hS16.sel [0, 1, 2, 3, 4, 5] rfl, hm⟩)
              have hm := cfalse hb5 hm
              exact skp (t_then ⟨_, _, x11, _, _, _, env_has ⟨rfl, rfl, rfl, rfl, rfl, rfl, rfl, rfl, rfl, rfl, trivial⟩, im17, hS15.sel [0, 1, 2, 3, 4, 5] rfl, hm⟩)
            have hm := cfalse hb4 hm
            refine qgF (d0 := 52) rfl rfl (by rw [hb4]; rfl) (qgF (d0 := 52) rfl rfl (by rw [hb4]; rfl) (qgF (d0 := 52) rfl rfl (by rw [hb4]; rfl) (qgF (d0 := 52) rfl rfl (by rw [hb4]; rfl) (qgF (d0 := 52) rfl rfl (by rw [hb4]; rfl) (qgF (d0 := 52) rfl rfl (by rw [hb4]; rfl) (qgF (d0 := 52) rfl rfl (by rw [hb4]; rfl) (qgF (d0 := 52) rfl rfl (by rw [hb4]; rfl) (qgF (d0 := 52) rfl rfl (by rw [hb4]; rfl) (qgF (d0 := 52) rfl rfl (by rw [hb4]; rfl) (qgF (d0 := 52) rfl rfl (by rw [hb4]; rfl) (qgF (d0 := 52) rfl rfl (by rw [hb4]; rfl) (qv (fun _ hq => r_pkf rfl hb4 rfl) (qn fun w19 T9 i2 => ?_)))))))))))))
            have im19 := i2.imm
            have hS17 := hS14.keep i2 (fun _ h => h)
            refine t_then ?_
            refine cnd (b := false) rfl (fun h => nomatch h) (fun _ => ?_)
            exact skp (t_then ⟨_, _, x11, _, _, _, env_has ⟨rfl, rfl, rfl, rfl, rfl, rfl, rfl, rfl, rfl, rfl, trivial⟩, im19, hS17.sel [0, 1, 2, 3, 4, 5] rfl, hm⟩)
          rintro _ w16 ⟨J, T7, x16, a14, n11, c14, rfl, im16, hS18, hm⟩
          rw [hkk3] at hm
          refine sq2 ?_
          obtain ⟨u8, hx9, hm⟩ := bindS hm
          obtain ⟨b10, of6, cs6, k6, cp6, hv6, hp6, hl6, he6, hr6, hc6⟩ := (hS18.own (i := 1) ⟨rfl, rfl⟩).v.ixq hx9 rfl
          cases hr6
          refine rg (pv (r_ms rfl) (pv (r_mi rfl) (pv (r_ixe hv6 rfl underlying41 sizeOf3 hp6 hl6 he6) (pv (r_ld rfl isAgg3 (hc6.get (j := 0) rfl)) (pv (r_ib rfl rfl rfl) (nil (t_then ?_)))))))
          refine cnd rfl (fun hb7 => ?_) (fun hb7 => ?_)
          · have hm := ctrue hb7 hm
            exact rg (pv (r_mi rfl) (pv (r_zi rfl) (nil (t_blk (t_then ⟨_, _, x16, _, _, _, x13, env_has ⟨rfl, rfl, rfl, rfl, rfl, rfl, rfl, rfl, rfl, rfl, trivial⟩, im16, hS18.sel [0, 1, 2, 3, 4, 5] rfl, hm⟩)))))
          have hm := cfalse hb7 hm
          exact skp (t_blk (t_then ⟨_, _, x16, _, _, _, x12, env_has ⟨rfl, rfl, rfl, rfl, rfl, rfl, rfl, rfl, rfl, rfl, trivial⟩, im16, hS18.sel [0, 1, 2, 3, 4, 5] rfl, hm⟩))
        rintro _ w15 ⟨J, T6, x14, a13, n10, c13, x15, rfl, im15, hS19, hm⟩
        rw [hkk2] at hm
        have hm := oI hm; subst hm
        exact rg (pv (r_mi rfl) (pv (r_ib rfl rfl rfl) (pv (r_zi rfl) (nil (t_then ⟨m2, Nat.lt_succ_self _, _, _, x14, _, _, _, x15, (IntKind.wrap .i64 (x13 - 1)), env_has ⟨rfl, rfl, rfl, rfl, rfl, rfl, rfl, rfl, rfl, rfl, trivial⟩, (iT im14 im15), hS19.sel [0, 1, 2, 3, 4, 5] rfl, hn2⟩)))))
      have hm := cfalse hb3 hm
      have hm := oI hm; subst hm
      have hn2 : _ = Lp.brk _ := hn2
      subst hn2
      have hm := thn_brk hq2
      refine xt (x_then (x_then (x_eq (t_then ?_))))
      refine sq2 (sq2 (rg (pv (r_zi rfl) (nil (t_then ?_)))))
      obtain ⟨o2, ho2, hq2⟩ := bindS hm
      obtain ⟨bd2, hbd2, ho2⟩ := loop_open ho2
      refine blk (wp_loop_ghost (fun m a w20 => ∃ (J : JV) (T10 : TP) (x17 : Int) (x18 : Int), a = env (nf 211) J [(1, iv p1), (4, pt b2 0), (5, pt b3 0), (7, sv a6 y1 c6), (8, .slice a12 n9 c12), (9, iv x6), (10, pt b5 0), (11, iv x12), (12, iv x17), (14, iv x18)] ∧ Im T5 w14 T10 w20 ∧ Sep g T10 w20 [boxA b5 (cref24Reach u2), ownA (rInt .i64) 3 (.slice a12 n9 c12) x11, ownA rSeat 44 (.slice a9 n6 c9) x7.Seats, boxA b3 [.slice a9 n6 c9, iv x7.Slots], boxA b2 [.slice none 0 0, iv 0], R] ∧ loopM bd2 m (x17, x18) = some o2) NN ⟨_, _, (-1), 0, env_has ⟨rfl, rfl, rfl, rfl, rfl, rfl, rfl, rfl, rfl, rfl, trivial⟩, Im.refl, hS14.sel [0, 1, 2, 3, 4, 5] rfl, ho2⟩ ?_)
      rintro m _ w20 ⟨J, T10, x17, x18, rfl, im20, hS20, ho2⟩
      obtain ⟨m2, z2, rfl, hm, hn2⟩ := loop_round ho2
      rw [hbd2] at hm
      refine sq2 (sq2 (rg (pv (r_mi rfl) (pv (r_mi rfl) (pv (r_ib rfl rfl rfl) (nil (t_then ?_)))))))
      refine cnd rfl (fun hb8 => ?_) (fun hb8 => ?_)
      · have hm := ctrue hb8 hm
        refine skp (t_then ?_)
        obtain ⟨kk4, hkk4, hm⟩ := jn_open hm
        refine cut (fun a w21 => ∃ (J : JV) (T11 : TP) (x19 : Int), a = env (nf 211) J [(1, iv p1), (4, pt b2 0), (5, pt b3 0), (7, sv a6 y1 c6), (8, .slice a12 n9 c12), (9, iv x6), (10, pt b5 0), (11, iv x12), (12, iv x19), (14, iv x18)] ∧ Im T10 w20 T11 w21 ∧ Sep g T11 w21 [boxA b5 (cref24Reach u2), ownA (rInt .i64) 3 (.slice a12 n9 c12) x11, ownA rSeat 44 (.slice a9 n6 c9) x7.Seats, boxA b3 [.slice a9 n6 c9, iv x7.Slots], boxA b2 [.slice none 0 0, iv 0], R] ∧ kk4 x19 = some z2) ?_ ?_
        · refine blk (sq2 ?_)
          obtain ⟨u9, hx10, hm⟩ := bindS hm
          obtain ⟨b11, of7, cs7, k7, cp7, hv7, hp7, hl7, he7, hr7, hc7⟩ := (hS20.own (i := 1) ⟨rfl, rfl⟩).v.ixq hx10 rfl
          cases hr7
          refine rq mix (by kernel_rfl) hS20.lt (qv (fun _ hq => r_ms rfl) (qv (fun _ hq => r_mi rfl) (qv (fun _ hq => r_ixe hv7 rfl underlying41 sizeOf3 hp7 hl7 he7) (qv (fun _ hq => r_ld rfl isAgg3 (hq.cell (hc7.get (j := 0) rfl))) (qv (fun _ hq => r_ib rfl rfl rfl) (qv (fun _ hq => r_mb rfl) (?_)))))))
          rcases Bool.eq_false_or_eq_true (decide (0 < u9)) with hb9 | hb9
          · have hm := ctrue hb9 hm
            refine qgT (d0 := 85) rfl rfl hb9 (qv (fun _ hq => r_mi rfl) (qgT (d0 := 85) rfl rfl hb9 (qv (fun _ hq => r_ib rfl rfl rfl) (qgT (d0 := 85) rfl rfl hb9 (qv (fun _ hq => r_mb rfl) (?_))))))
            rcases Bool.eq_false_or_eq_true (decide (x17 < 0)) with hb10 | hb10
            · have hm := ctrue hb10 hm
              refine qgF (d0 := 88) rfl rfl (by rw [hb10]; rfl) (qgF (d0 := 88) rfl rfl (by rw [hb10]; rfl) (qgF (d0 := 88) rfl rfl (by rw [hb10]; rfl) (qgF (d0 := 88) rfl rfl (by rw [hb10]; rfl) (qgF (d0 := 88) rfl rfl (by rw [hb10]; rfl) (qgF (d0 := 88) rfl rfl (by rw [hb10]; rfl) (qgF (d0 := 88) rfl rfl (by rw [hb10]; rfl) (qgF (d0 := 88) rfl rfl (by rw [hb10]; rfl) (qgF (d0 := 88) rfl rfl (by rw [hb10]; rfl) (qgF (d0 := 88) rfl rfl (by rw [hb10]; rfl) (qgF (d0 := 88) rfl rfl (by rw [hb10]; rfl) (qgF (d0 := 88) rfl rfl (by rw [hb10]; rfl) (qgF (d0 := 88) rfl rfl (by rw [hb10]; rfl) (qgF (d0 := 88) rfl rfl (by rw [hb10]; rfl) (qgF (d0 := 88) rfl rfl (by rw [hb10]; rfl) (qgF (d0 := 88) rfl rfl (by rw [hb10]; rfl) (qgF (d0 := 88) rfl rfl (by rw [hb10]; rfl) (qgF (d0 := 88) rfl rfl (by rw [hb10]; rfl) (qgF (d0 := 88) rfl rfl (by rw [hb10]; rfl) (qgT (d0 := 85) rfl rfl hb9 (qv (fun _ hq => r_pkt rfl hb10 rfl) (qgT (d0 := 85) rfl rfl hb9 (qv (fun _ hq => r_mb rfl) (qgF (d0 := 109) rfl rfl rfl (qgF (d0 := 109) rfl rfl rfl (qgF (d0 := 109) rfl rfl rfl (qgF (d0 := 109) rfl rfl rfl (qgF (d0 := 109) rfl rfl rfl (qgF (d0 := 109) rfl rfl rfl (qgF (d0 := 109) rfl rfl rfl (qgF (d0 := 109) rfl rfl rfl (qgF (d0 := 109) rfl rfl rfl (qgF (d0 := 109) rfl rfl rfl (qgF (d0 := 109) rfl rfl rfl (qgF (d0 := 109) rfl rfl rfl (qgF (d0 := 109) rfl rfl rfl (qgF (d0 := 109) rfl rfl rfl (qgF (d0 := 109) rfl rfl rfl (qgF (d0 := 109) rfl rfl rfl (qgF (d0 := 109) rfl rfl rfl (qgF (d0 := 109) rfl rfl rfl (qgF (d0 := 109) rfl rfl rfl (qgF (d0 := 109) rfl rfl rfl (qgU (d0 := 129) rfl rfl (qgU (d0 := 129) rfl rfl (qgU (d0 := 129) rfl rfl (qgU (d0 := 129) rfl rfl (qgU (d0 := 129) rfl rfl (qgU (d0 := 129) rfl rfl (qgU (d0 := 129) rfl rfl (qgU (d0 := 129) rfl rfl (qgU (d0 := 129) rfl rfl (qgF (d0 := 109) rfl rfl rfl (qgT (d0 := 85) rfl rfl hb9 (qv (fun _ hq => r_pkt rfl rfl rfl) (qv (fun _ hq => r_pkt rfl hb9 rfl) (qn fun w25 T15 i6 => ?_))))))))))))))))))))))))))))))))))))))))))))))))))))))))
              have im25 := i6.imm
              have hS24 := hS20.keep i6 (fun _ h => h)
              refine t_then ?_
              refine cnd (b := true) rfl (fun _ => ?_) (fun h => nomatch h)
              exact rg (pv (r_mi rfl) (pv (r_zi rfl) (nil (t_blk (t_then ⟨_, _, x18, env_has ⟨rfl, rfl, rfl, rfl, rfl, rfl, rfl, rfl, rfl, rfl, trivial⟩, im25, hS24.sel [0, 1, 2, 3, 4, 5] rfl, hm⟩)))))
            have hm := cfalse hb10 hm
            obtain ⟨u10, hx11, hm⟩ := bindS hm
            obtain ⟨b12, of8, cs8, k8, cp8, hv8, hp8, hl8, he8, hr8, hc8⟩ := (hS20.own (i := 1) ⟨rfl, rfl⟩).v.ixq hx11 rfl
            cases hr8
            obtain ⟨u11, hx12, hm⟩ := bindS hm
            obtain ⟨b13, of9, cs9, k9, cp9, hv9, hp9, hl9, he9, hr9, hc9, hT3⟩ := (h3.mono (iT im9 (iT im10 (iT im12 (iT im13 (iT im14 im20)))))).ixT hx12 rfl
            cases rref24Reach_open hr9
            obtain ⟨u12, hx13, hm⟩ := bindS hm
            obtain ⟨b14, of10, cs10, k10, cp10, hv10, hp10, hl10, he10, hr10, hc10⟩ := (hS20.own (i := 1) ⟨rfl, rfl⟩).v.ixq hx13 rfl
            cases hr10
            obtain ⟨u13, hx14, hm⟩ := bindS hm
            obtain ⟨b15, of11, cs11, k11, cp11, hv11, hp11, hl11, he11, hr11, hc11, hT4⟩ := (h3.mono (iT im9 (iT im10 (iT im12 (iT im13 (iT im14 im20)))))).ixT hx14 rfl
            cases rref24Reach_open hr11
            refine qgT (d0 := 88) rfl rfl hb10 (qv (fun _ hq => r_ms rfl) (qgT (d0 := 88) rfl rfl hb10 (qv (fun _ hq => r_ms rfl) (qgT (d0 := 88) rfl rfl hb10 (qv (fun _ hq => r_mi rfl) (qgT (d0 := 88) rfl rfl hb10 (qv (fun _ hq => r_ixe hv8 rfl underlying41 sizeOf3 hp8 hl8 he8) (qgT (d0 := 88) rfl rfl hb10 (qv (fun _ hq => r_ld rfl isAgg3 (hq.cell (hc8.get (j := 0) rfl))) (qgT (d0 := 88) rfl rfl hb10 (qv (fun _ hq => r_ib rfl rfl rfl) (qgT (d0 := 88) rfl rfl hb10 (qv (fun _ hq => r_ixe hv9 rfl underlying70 sizeOf73 hp9 hl9 he9) (qgT (d0 := 88) rfl rfl hb10 (qv (fun _ hq => r_fa rfl underlying73 rfl sizeOf3 rfl) (qgT (d0 := 88) rfl rfl hb10 (qv (fun _ hq => r_ld rfl isAgg3 (hq.cell (hc9.get (j := 2) rfl))) (qgT (d0 := 88) rfl rfl hb10 (qv (fun _ hq => r_ms rfl) (qgT (d0 := 88) rfl rfl hb10 (qv (fun _ hq => r_ms rfl) (qgT (d0 := 88) rfl rfl hb10 (qv (fun _ hq => r_mi rfl) (qgT (d0 := 88) rfl rfl hb10 (qv (fun _ hq => r_ixe hv10 rfl underlying41 sizeOf3 hp10 hl10 he10) (qgT (d0 := 88) rfl rfl hb10 (qv (fun _ hq => r_ld rfl isAgg3 (hq.cell (hc10.get (j := 0) rfl))) (qgT (d0 := 88) rfl rfl hb10 (qv (fun _ hq => r_ib rfl rfl rfl) (qgT (d0 := 88) rfl rfl hb10 (qv (fun _ hq => r_ixe hv11 rfl underlying70 sizeOf73 hp11 hl11 he11) (qgT (d0 := 88) rfl rfl hb10 (qv (fun _ hq => r_fa rfl underlying73 rfl sizeOf3 rfl) (qgT (d0 := 88) rfl rfl hb10 (qv (fun _ hq => r_ld rfl isAgg3 (hq.cell (hc11.get (j := 2) rfl))) (qgT (d0 := 88) rfl rfl hb10 (qv (fun _ hq => r_ib rfl rfl rfl) (qgT (d0 := 85) rfl rfl hb9 (qv (fun _ hq => r_pkf rfl hb10 rfl) (qgT (d0 := 85) rfl rfl hb9 (qv (fun _ hq => r_mb rfl) (?_))))))))))))))))))))))))))))))))))))))))))
            rcases Bool.eq_false_or_eq_true (decide (u13.To < u11.To)) with hb11 | hb11
            · have hm := ctrue hb11 hm
              refine qgF (d0 := 109) rfl rfl (by rw [hb11]; rfl) (qgF (d0 := 109) rfl rfl (by rw [hb11]; rfl) (qgF (d0 := 109) rfl rfl (by rw [hb11]; rfl) (qgF (d0 := 109) rfl rfl (by rw [hb11]; rfl) (qgF (d0 := 109) rfl rfl (by rw [hb11]; rfl) (qgF (d0 := 109) rfl rfl (by rw [hb11]; rfl) (qgF (d0 := 109) rfl rfl (by rw [hb11]; rfl) (qgF (d0 := 109) rfl rfl (by rw [hb11]; rfl) (qgF (d0 := 109) rfl rfl (by rw [hb11]; rfl) (qgF (d0 := 109) rfl rfl (by rw [hb11]; rfl) (qgF (d0 := 109) rfl rfl (by rw [hb11]; rfl) (qgF (d0 := 109) rfl rfl (by rw [hb11]; rfl) (qgF (d0 := 109) rfl rfl (by rw [hb11]; rfl) (qgF (d0 := 109) rfl rfl (by rw [hb11]; rfl) (qgF (d0 := 109) rfl rfl (by rw [hb11]; rfl) (qgF (d0 := 109) rfl rfl (by rw [hb11]; rfl) (qgF (d0 := 109) rfl rfl (by rw [hb11]; rfl) (qgF (d0 := 109) rfl rfl (by rw [hb11]; rfl) (qgF (d0 := 109) rfl rfl (by rw [hb11]; rfl) (qgF (d0 := 109) rfl rfl (by rw [hb11]; rfl) (qgU (d0 := 129) rfl rfl (qgU (d0 := 129) rfl rfl (qgU (d0 := 129) rfl rfl (qgU (d0 := 129) rfl rfl (qgU (d0 := 129) rfl rfl (qgU (d0 := 129) rfl rfl (qgU (d0 := 129) rfl rfl (qgU (d0 := 129) rfl rfl (qgU (d0 := 129) rfl rfl (qgF (d0 := 109) rfl rfl (by rw [hb11]; rfl) (qgT (d0 := 85) rfl rfl hb9 (qv (fun _ hq => r_pkt rfl hb11 rfl) (qv (fun _ hq => r_pkt rfl hb9 rfl) (qn fun w24 T14 i5 => ?_)))))))))))))))))))))))))))))))))
              have im24 := i5.imm
              have hS23 := hS20.keep i5 (fun _ h => h)
              refine t_then ?_
              refine cnd (b := true) rfl (fun _ => ?_) (fun h => nomatch h)
              exact rg (pv (r_mi rfl) (pv (r_zi rfl) (nil (t_blk (t_then ⟨_, _, x18, env_has ⟨rfl, rfl, rfl, rfl, rfl, rfl, rfl, rfl, rfl, rfl, trivial⟩, im24, hS23.sel [0, 1, 2, 3, 4, 5] rfl, hm⟩)))))
            have hm := cfalse hb11 hm
            obtain ⟨u14, hx15, hm⟩ := bindS hm
            obtain ⟨b16, of12, cs12, k12, cp12, hv12, hp12, hl12, he12, hr12, hc12⟩ := (hS20.own (i := 1) ⟨rfl, rfl⟩).v.ixq hx15 rfl
            cases hr12
            obtain ⟨u15, hx16, hm⟩ := bindS hm
            obtain ⟨b17, of13, cs13, k13, cp13, hv13, hp13, hl13, he13, hr13, hc13, hT5⟩ := (h3.mono (iT im9 (iT im10 (iT im12 (iT im13 (iT im14 im20)))))).ixT hx16 rfl
            cases rref24Reach_open hr13
            obtain ⟨u16, hx17, hm⟩ := bindS hm
            obtain ⟨b18, of14, cs14, k14, cp14, hv14, hp14, hl14, he14, hr14, hc14⟩ := (hS20.own (i := 1) ⟨rfl, rfl⟩).v.ixq hx17 rfl
            cases hr14
            obtain ⟨u17, hx18, hm⟩ := bindS hm
            obtain ⟨b19, of15, cs15, k15, cp15, hv15, hp15, hl15, he15, hr15, hc15, hT6⟩ := (h3.mono (iT im9 (iT im10 (iT im12 (iT im13 (iT im14 im20)))))).ixT hx18 rfl
            cases rref24Reach_open hr15
            refine qgT (d0 := 109) rfl rfl hb11 (qv (fun _ hq => r_ms rfl) (qgT (d0 := 109) rfl rfl hb11 (qv (fun _ hq => r_ms rfl) (qgT (d0 := 109) rfl rfl hb11 (qv (fun _ hq => r_mi rfl) (qgT (d0 := 109) rfl rfl hb11 (qv (fun _ hq => r_ixe hv12 rfl underlying41 sizeOf3 hp12 hl12 he12) (qgT (d0 := 109) rfl rfl hb11 (qv (fun _ hq => r_ld rfl isAgg3 (hq.cell (hc12.get (j := 0) rfl))) (qgT (d0 := 109) rfl rfl hb11 (qv (fun _ hq => r_ib rfl rfl rfl) (qgT (d0 := 109) rfl rfl hb11 (qv (fun _ hq => r_ixe hv13 rfl underlying70 sizeOf73 hp13 hl13 he13) (qgT (d0 := 109) rfl rfl hb11 (qv (fun _ hq => r_fa rfl underlying73 rfl sizeOf3 rfl) (qgT (d0 := 109) rfl rfl hb11 (qv (fun _ hq => r_ld rfl isAgg3 (hq.cell (hc13.get (j := 2) rfl))) (qgT (d0 := 109) rfl rfl hb11 (qv (fun _ hq => r_ms rfl) (qgT (d0 := 109) rfl rfl hb11 (qv (fun _ hq => r_ms rfl) (qgT (d0 := 109) rfl rfl hb11 (qv (fun _ hq => r_mi rfl) (qgT (d0 := 109) rfl rfl hb11 (qv (fun _ hq => r_ixe hv14 rfl underlying41 sizeOf3 hp14 hl14 he14) (qgT (d0 := 109) rfl rfl hb11 (qv (fun _ hq => r_ld rfl isAgg3 (hq.cell (hc14.get (j := 0) rfl))) (qgT (d0 := 109) rfl rfl hb11 (qv (fun _ hq => r_ib rfl rfl rfl) (qgT (d0 := 109) rfl rfl hb11 (qv (fun _ hq => r_ixe hv15 rfl underlying70 sizeOf73 hp15 hl15 he15) (qgT (d0 := 109) rfl rfl hb11 (qv (fun _ hq => r_fa rfl underlying73 rfl sizeOf3 rfl) (qgT (d0 := 109) rfl rfl hb11 (qv (fun _ hq => r_ld rfl isAgg3 (hq.cell (hc15.get (j := 2) rfl))) (qgT (d0 := 109) rfl rfl hb11 (qv (fun _ hq => r_ib rfl rfl rfl) (qgT (d0 := 109) rfl rfl hb11 (qv (fun _ hq => r_mb rfl) (?_))))))))))))))))))))))))))))))))))))))))
            rcases Bool.eq_false_or_eq_true (u15.To == u17.To) with hb12 | hb12
            · have hm := ctrue hb12 hm
              obtain ⟨u18, hx19, hm⟩ := bindS hm
              obtain ⟨b20, of16, cs16, k16, cp16, hv16, hp16, hl16, he16, hr16, hc16⟩ := (hS20.own (i := 1) ⟨rfl, rfl⟩).v.ixq hx19 rfl
              cases hr16
              obtain ⟨u19, hx20, hm⟩ := bindS hm
              obtain ⟨b21, of17, cs17, k17, cp17, hv17, hp17, hl17, he17, hr17, hc17⟩ := (hS20.own (i := 1) ⟨rfl, rfl⟩).v.ixq hx20 rfl
              cases hr17
              refine qgT (d0 := 129) rfl rfl hb12 (qv (fun _ hq => r_ms rfl) (qgT (d0 := 129) rfl rfl hb12 (qv (fun _ hq => r_mi rfl) (qgT (d0 := 129) rfl rfl hb12 (qv (fun _ hq => r_ixe hv16 rfl underlying41 sizeOf3 hp16 hl16 he16) (qgT (d0 := 129) rfl rfl hb12 (qv (fun _ hq => r_ld rfl isAgg3 (hq.cell (hc16.get (j := 0) rfl))) (qgT (d0 := 129) rfl rfl hb12 (qv (fun _ hq => r_ms rfl) (qgT (d0 := 129) rfl rfl hb12 (qv (fun _ hq => r_mi rfl) (qgT (d0 := 129) rfl rfl hb12 (qv (fun _ hq => r_ixe hv17 rfl underlying41 sizeOf3 hp17 hl17 he17) (qgT (d0 := 129) rfl rfl hb12 (qv (fun _ hq => r_ld rfl isAgg3 (hq.cell (hc17.get (j := 0) rfl))) (qgT (d0 := 129) rfl rfl hb12 (qv (fun _ hq => r_ib rfl rfl rfl) (qgT (d0 := 109) rfl rfl hb11 (qv (fun _ hq => r_pkt rfl hb12 rfl) (qgT (d0 := 85) rfl rfl hb9 (qv (fun _ hq => r_pkf rfl hb11 rfl) (qv (fun _ hq => r_pkt rfl hb9 rfl) (qn fun w22 T12 i3 => ?_)))))))))))))))))))))))
              have im22 := i3.imm
              have hS21 := hS20.keep i3 (fun _ h => h)
              refine t_then ?_
              refine cnd rfl (fun hb13 => ?_) (fun hb13 => ?_)
              · have hm := ctrue hb13 hm
                exact rg (pv (r_mi rfl) (pv (r_zi rfl) (nil (t_blk (t_then ⟨_, _, x18, env_has ⟨rfl, rfl, rfl, rfl, rfl, rfl, rfl, rfl, rfl, rfl, trivial⟩, im22, hS21.sel [0, 1, 2, 3, 4, 5] rfl, hm⟩)))))
              have hm := cfalse hb13 hm
              exact skp (t_blk (t_then ⟨_, _, x17, env_has ⟨rfl, rfl, rfl, rfl, rfl, rfl, rfl, rfl, rfl, rfl, trivial⟩, im22, hS21.sel [0, 1, 2, 3, 4, 5] rfl, hm⟩))
            have hm := cfalse hb12 hm
            refine qgF (d0 := 129) rfl rfl (by rw [hb12]; rfl) (qgF (d0 := 129) rfl rfl (by rw [hb12]; rfl) (qgF (d0 := 129) rfl rfl (by rw [hb12]; rfl) (qgF (d0 := 129) rfl rfl (by rw [hb12]; rfl) (qgF (d0 := 129) rfl rfl (by rw [hb12]; rfl) (qgF (d0 := 129) rfl rfl (by rw [hb12]; rfl) (qgF (d0 := 129) rfl rfl (by rw [hb12]; rfl) (qgF (d0 := 129) rfl rfl (by rw [hb12]; rfl) (qgF (d0 := 129) rfl rfl (by rw [hb12]; rfl) (qgT (d0 := 109) rfl rfl hb11 (qv (fun _ hq => r_pkf rfl hb12 rfl) (qgT (d0 := 85) rfl rfl hb9 (qv (fun _ hq => r_pkf rfl hb11 rfl) (qv (fun _ hq => r_pkt rfl hb9 rfl) (qn fun w23 T13 i4 => ?_))))))))))))))
            have im23 := i4.imm
            have hS22 := hS20.keep i4 (fun _ h => h)
            refine t_then ?_
            refine cnd (b := false) rfl (fun h => nomatch h) (fun _ => ?_)
            exact skp (t_blk (t_then ⟨_, _, x17, env_has ⟨rfl, rfl, rfl, rfl, rfl, rfl, rfl, rfl, rfl, rfl, trivial⟩, im23, hS22.sel [0, 1, 2, 3, 4, 5] rfl, hm⟩))
          have hm := cfalse hb9 hm
          refine qgF (d0 := 85) rfl rfl (by rw [hb9]; rfl) (qgF (d0 := 85) rfl rfl (by rw [hb9]; rfl) (qgF (d0 := 85) rfl rfl (by rw [hb9]; rfl) (qgU (d0 := 88) rfl rfl (qgU (d0 := 88) rfl rfl (qgU (d0 := 88) rfl rfl (qgU (d0 := 88) rfl rfl (qgU (d0 := 88) rfl rfl (qgU (d0 := 88) rfl rfl (qgU (d0 := 88) rfl rfl (qgU (d0 := 88) rfl rfl (qgU (d0 := 88) rfl rfl (qgU (d0 := 88) rfl rfl (qgU (d0 := 88) rfl rfl (qgU (d0 := 88) rfl rfl (qgU (d0 := 88) rfl rfl (qgU (d0 := 88) rfl rfl (qgU (d0 := 88) rfl rfl (qgU (d0 := 88) rfl rfl (qgU (d0 := 88) rfl rfl (qgU (d0 := 88) rfl rfl (qgU (d0 := 88) rfl rfl (qgF (d0 := 85) rfl rfl (by rw [hb9]; rfl) (qgF (d0 := 85) rfl rfl (by rw [hb9]; rfl) (qgU (d0 := 109) rfl rfl (qgU (d0 := 109) rfl rfl (qgU (d0 := 109) rfl rfl (qgU (d0 := 109) rfl rfl (qgU (d0 := 109) rfl rfl (qgU (d0 := 109) rfl rfl (qgU (d0 := 109) rfl rfl (qgU (d0 := 109) rfl rfl (qgU (d0 := 109) rfl rfl (qgU (d0 := 109) rfl rfl (qgU (d0 := 109) rfl rfl (qgU (d0 := 109) rfl rfl (qgU (d0 := 109) rfl rfl (qgU (d0 := 109) rfl rfl (qgU (d0 := 109) rfl rfl (qgU (d0 := 109) rfl rfl (qgU (d0 := 109) rfl rfl (qgU (d0 := 109) rfl rfl (qgU (d0 := 109) rfl rfl (qgU (d0 := 109) rfl rfl (qgU (d0 := 129) rfl rfl (qgU (d0 := 129) rfl rfl (qgU (d0 := 129) rfl rfl (qgU (d0 := 129) rfl rfl (qgU (d0 := 129) rfl rfl (qgU (d0 := 129) rfl rfl (qgU (d0 := 129) rfl rfl (qgU (d0 := 129) rfl rfl (qgU (d0 := 129) rfl rfl (qgU (d0 := 109) rfl rfl (qgF (d0 := 85) rfl rfl (by rw [hb9]; rfl) (qv (fun _ hq => r_pkf rfl hb9 rfl) (qn fun w26 T16 i7 => ?_))))))))))))))))))))))))))))))))))))))))))))))))))))))))
          have im26 := i7.imm
          have hS25 := hS20.keep i7 (fun _ h => h)
          refine t_then ?_
          refine cnd (b := false) rfl (fun h => nomatch h) (fun _ => ?_)
          exact skp (t_blk (t_then ⟨_, _, x17, env_has ⟨rfl, rfl, rfl, rfl, rfl, rfl, rfl, rfl, rfl, rfl, trivial⟩, im26, hS25.sel [0, 1, 2, 3, 4, 5] rfl, hm⟩))
        rintro _ w21 ⟨J, T11, x19, rfl, im21, hS26, hm⟩
        rw [hkk4] at hm
        have hm := oI hm; subst hm
        exact rg (pv (r_mi rfl) (pv (r_ib rfl rfl rfl) (pv (r_zi rfl) (nil (t_then ⟨m2, Nat.lt_succ_self _, _, _, x19, (IntKind.wrap .i64 (x18 + 1)), env_has ⟨rfl, rfl, rfl, rfl, rfl, rfl, rfl, rfl, rfl, rfl, trivial⟩, (iT im20 im21), hS26.sel [0, 1, 2, 3, 4, 5] rfl, hn2⟩)))))
      have hm := cfalse hb8 hm
      have hm := oI hm; subst hm
      have hn2 : _ = Lp.brk _ := hn2
      subst hn2
      have hm := thn_brk hq2
      refine xt (x_then (x_then (x_eq (t_then ?_))))
      obtain ⟨kk5, hkk5, hm⟩ := jn_open hm
      refine cut (fun a w27 => ∃ (J : JV) (T17 : TP) (x22 : ref24Given) (a15 : OA) (n12 : Nat) (c15 : Nat) (x21 : Int), a = env (nf 211) J [(1, iv p1), (4, pt b2 0), (5, pt b3 0), (7, sv a6 y1 c6), (8, .slice a12 n9 c12), (9, iv x6), (10, pt b5 0), (11, iv x21)] ∧ Im T10 w20 T17 w27 ∧ Sep g T17 w27 [boxA b5 (cref24Reach u2), ownA (rInt .i64) 3 (.slice a12 n9 c12) x11, ownA rSeat 44 (.slice a15 n12 c15) x22.Seats, boxA b3 [.slice a15 n12 c15, iv x22.Slots], boxA b2 [.slice none 0 0, iv 0], R] ∧ kk5 x21 x22 = some z1) ?_ ?_
      · refine sq2 (rq mix (by kernel_rfl) hS20.lt (qv (fun _ hq => r_mi rfl) (qv (fun _ hq => r_ib rfl rfl rfl) (qv (fun _ hq => r_mb rfl) (?_)))))
        rcases Bool.eq_false_or_eq_true (decide (x12 < 0)) with hb18 | hb18
        · have hm := ctrue hb18 hm
          refine qgT (d0 := 145) rfl rfl hb18 (qv (fun _ hq => r_mi rfl) (qgT (d0 := 145) rfl rfl hb18 (qv (fun _ hq => r_ib rfl rfl rfl) (qv (fun _ hq => r_pkt rfl hb18 rfl) (qv (fun _ hq => r_mb rfl) (?_))))))
          rcases Bool.eq_false_or_eq_true (decide (0 ≤ x17)) with hb19 | hb19
          · have hm := ctrue hb19 hm
            obtain ⟨u20, hx21, hm⟩ := bindS hm
            obtain ⟨b22, of18, cs18, k18, cp18, hv18, hp18, hl18, he18, hr18, hc18⟩ := (hS20.own (i := 1) ⟨rfl, rfl⟩).v.ixq hx21 rfl
            cases hr18
            obtain ⟨u21, hx22, hm⟩ := bindS hm
            obtain ⟨b23, of19, cs19, k19, cp19, hv19, hp19, hl19, he19, hr19, hc19, hT7⟩ := (h3.mono (iT im9 (iT im10 (iT im12 (iT im13 (iT im14 im20)))))).ixT hx22 rfl
            cases rref24Reach_open hr19
            refine qgT (d0 := 149) rfl rfl hb19 (qv (fun _ hq => r_ms rfl) (qgT (d0 := 149) rfl rfl hb19 (qv (fun _ hq => r_ms rfl) (qgT (d0 := 149) rfl rfl hb19 (qv (fun _ hq => r_mi rfl) (qgT (d0 := 149) rfl rfl hb19 (qv (fun _ hq => r_ixe hv18 rfl underlying41 sizeOf3 hp18 hl18 he18) (qgT (d0 := 149) rfl rfl hb19 (qv (fun _ hq => r_ld rfl isAgg3 (hq.cell (hc18.get (j := 0) rfl))) (qgT (d0 := 149) rfl rfl hb19 (qv (fun _ hq => r_ib rfl rfl rfl) (qgT (d0 := 149) rfl rfl hb19 (qv (fun _ hq => r_ixe hv19 rfl underlying70 sizeOf73 hp19 hl19 he19) (qgT (d0 := 149) rfl rfl hb19 (qv (fun _ hq => r_fa rfl underlying73 rfl sizeOf3 rfl) (qgT (d0 := 149) rfl rfl hb19 (qv (fun _ hq => r_ld rfl isAgg3 (hq.cell (hc19.get (j := 2) rfl))) (qgT (d0 := 149) rfl rfl hb19 (qv (fun _ hq => r_fa rfl underlying73 rfl sizeOf3 rfl) (qgT (d0 := 149) rfl rfl hb19 (qv (fun _ hq => r_ld rfl isAgg3 (hq.cell (hS20.cell0 (i := 0) ⟨rfl, rfl⟩ (j := 2) rfl))) (qgT (d0 := 149) rfl rfl hb19 (qv (fun _ hq => r_ib rfl rfl rfl) (qv (fun _ hq => r_pkt rfl hb19 rfl) (qn fun w28 T18 i8 => ?_)))))))))))))))))))))))))
            have im28 := i8.imm
            have hS27 := hS20.keep i8 (fun _ h => h)
            refine t_then ?_
            refine cnd rfl (fun hb20 => ?_) (fun hb20 => ?_)
            · have hm := ctrue hb20 hm
              refine sq2 (rs [0, 1, 0, 0, 0, 0, 1, 0, 0, 0, 1, 0, 1, 0, 0, 2] [0, 1, 2, 3, 4, 5, 6, 7, 8, 9, 10, 11, 12, 13, 14, 15] mix (by kernel_rfl) hS27.lt fun w29 i9 => ?_)
              have im29 := i9.imm
              have hS28 := hS27.keep i9 (fun _ h => h)
              obtain ⟨u22, hx23, hm⟩ := bindS hm
              obtain ⟨b24, of20, cs20, k20, cp20, hv20, hp20, hl20, he20, hr20, hc20⟩ := (hS28.own (i := 1) ⟨rfl, rfl⟩).v.ixq hx23 rfl
              cases hr20
              obtain ⟨u23, hx24, hm⟩ := bindS hm
              obtain ⟨b25, of21, cs21, k21, cp21, hv21, hp21, hl21, he21, hr21, hc21, hT8⟩ := (h3.mono (iT im9 (iT im10 (iT im12 (iT im13 (iT im14 (iT im20 (iT im28 im29)))))))).ixT hx24 rfl
              cases rref24Reach_open hr21
              obtain ⟨u24, hx25, hm⟩ := bindS hm
              obtain ⟨b26, of22, cs22, k22, cp22, hv22, hp22, hl22, he22, hr22, hc22⟩ := (hS28.own (i := 2) ⟨rfl, rfl⟩).v.ixq hx25 rfl
              cases rSeat_open hr22
              obtain ⟨u25, hx26, hm⟩ := bindS hm
              refine s0 rfl trivial (fun _ => r_fa rfl underlying37 rfl sizeOf32 rfl) rfl (s1 rfl trivial (r_ld rfl isAgg32 (hS28.cell0 (i := 3) ⟨rfl, rfl⟩ (j := 0) rfl)) rfl (s0 rfl trivial (fun _ => r_ms rfl) rfl (s0 rfl trivial (fun _ => r_ms rfl) rfl (s0 rfl trivial (fun _ => r_mi rfl) rfl (s0 rfl trivial (fun _ => r_ixe hv20 rfl underlying41 sizeOf3 hp20 hl20 he20) rfl (s1 rfl trivial (r_ld rfl isAgg3 (hc20.get (j := 0) rfl)) rfl (s0 rfl trivial (fun _ => r_ib rfl rfl rfl) rfl (s0 rfl trivial (fun _ => r_ixe hv21 rfl underlying70 sizeOf73 hp21 hl21 he21) rfl (s0 rfl trivial (fun _ => r_fa rfl underlying73 rfl sizeOf3 rfl) rfl (s1 rfl trivial (r_ld rfl isAgg3 (hc21.get (j := 0) rfl)) rfl (s0 rfl trivial (fun _ => r_fa rfl underlying37 rfl sizeOf3 rfl) rfl (s1 rfl trivial (r_ld rfl isAgg3 (hS28.cell0 (i := 3) ⟨rfl, rfl⟩ (j := 1) rfl)) rfl (s0 rfl trivial (fun _ => r_bd (by kernel_rfl) rfl (u := .agg #[iv 0, iv x7.Slots])) rfl (s0 rfl trivial (fun _ => r_ixe hv22 rfl underlying32 sizeOf44 hp22 hl22 he22) rfl (s2 [] rfl trivial rfl (by kernel_rfl) (stO (q := 2) (i := Int.toNat u23.R) (j := 0) (u := u25) (u' := (⟨0, x7.Slots⟩ : Seat)) hS28 ⟨rfl, rfl⟩ hv22 (idx_some hx26).2.2 he22 rfl rfl rfl sizeOf44 rfl rfl rfl (fun c0 hc0 => by rw [storeL_all (r := rSeat) hc0 rfl]; exact (rSeat_mk (x := (⟨0, x7.Slots⟩ : Seat))  : rSeat.rp _ _ _ _)) fun w30 im30 hS29 => ?_))))))))))))))))
              refine ⟨st0, ?_⟩
              refine se (t_then ?_)
              refine sq2 (rg (pv (r_fa rfl underlying37 rfl sizeOf3 rfl) (pv (r_ld rfl isAgg3 (hS29.cell0 (i := 3) ⟨rfl, rfl⟩ (j := 1) rfl)) (pv (r_ib rfl rfl rfl) (pv (r_fa rfl underlying37 rfl sizeOf3 rfl) (wl rfl (st0B (q := 3) hS29 ⟨rfl, rfl⟩ rfl rfl rfl sizeOf3 rfl rfl rfl fun w31 im31 hS30 => ?_)))))))
              refine nil (t_then ?_)
              exact rg (pv (r_mi rfl) (pv (r_zi rfl) (nil (t_then ⟨_, _, (⟨List.set x7.Seats (Int.toNat u23.R) (⟨0, x7.Slots⟩ : Seat), IntKind.wrap .i64 (x7.Slots + 1)⟩ : ref24Given), _, _, _, x17, env_has ⟨rfl, rfl, rfl, rfl, rfl, rfl, rfl, rfl, trivial⟩, (iT im28 (iT im29 (iT im30 im31))), hS30.sel [0, 1, 2, 3, 4, 5] rfl, hm⟩))))
            have hm := cfalse hb20 hm
            exact skp (t_then ⟨_, _, x7, _, _, _, x12, env_has ⟨rfl, rfl, rfl, rfl, rfl, rfl, rfl, rfl, trivial⟩, im28, hS27.sel [0, 1, 2, 3, 4, 5] rfl, hm⟩)
          have hm := cfalse hb19 hm
          refine qgF (d0 := 149) rfl rfl (by rw [hb19]; rfl) (qgF (d0 := 149) rfl rfl (by rw [hb19]; rfl) (qgF (d0 := 149) rfl rfl (by rw [hb19]; rfl) (qgF (d0 := 149) rfl rfl (by rw [hb19]; rfl) (qgF (d0 := 149) rfl rfl (by rw [hb19]; rfl) (qgF (d0 := 149) rfl rfl (by rw [hb19]; rfl) (qgF (d0 := 149) rfl rfl (by rw [hb19]; rfl) (qgF (d0 := 149) rfl rfl (by rw [hb19]; rfl) (qgF (d0 := 149) rfl rfl (by rw [hb19]; rfl) (qgF (d0 := 149) rfl rfl (by rw [hb19]; rfl) (qgF (d0 := 149) rfl rfl (by rw [hb19]; rfl) (qgF (d0 := 149) rfl rfl (by rw [hb19]; rfl) (qv (fun _ hq => r_pkf rfl hb19 rfl) (qn fun w32 T19 i10 => ?_)))))))))))))
          have im32 := i10.imm
          have hS31 := hS20.keep i10 (fun _ h => h)
          refine t_then ?_
          refine cnd (b := false) rfl (fun h => nomatch h) (fun _ => ?_)
          exact skp (t_then ⟨_, _, x7, _, _, _, x12, env_has ⟨rfl, rfl, rfl, rfl, rfl, rfl, rfl, rfl, trivial⟩, im32, hS31.sel [0, 1, 2, 3, 4, 5] rfl, hm⟩)
        have hm := cfalse hb18 hm
        refine qgF (d0 := 145) rfl rfl (by rw [hb18]; rfl) (qgF (d0 := 145) rfl rfl (by rw [hb18]; rfl) (qv (fun _ hq => r_pkf rfl hb18 rfl) (qv (fun _ hq => r_mb rfl) (qgF (d0 := 149) rfl rfl rfl (qgF (d0 := 149) rfl rfl rfl (qgF (d0 := 149) rfl rfl rfl (qgF (d0 := 149) rfl rfl rfl (qgF (d0 := 149) rfl rfl rfl (qgF (d0 := 149) rfl rfl rfl (qgF (d0 := 149) rfl rfl rfl (qgF (d0 := 149) rfl rfl rfl (qgF (d0 := 149) rfl rfl rfl (qgF (d0 := 149) rfl rfl rfl (qgF (d0 := 149) rfl rfl rfl (qgF (d0 := 149) rfl rfl rfl (qv (fun _ hq => r_pkf rfl rfl rfl) (qn fun w33 T20 i11 => ?_)))))))))))))))))
        have im33 := i11.imm
        have hS32 := hS20.keep i11 (fun _ h => h)
        refine t_then ?_
        refine cnd (b := false) rfl (fun h => nomatch h) (fun _ => ?_)
        exact skp (t_then ⟨_, _, x7, _, _, _, x12, env_has ⟨rfl, rfl, rfl, rfl, rfl, rfl, rfl, rfl, trivial⟩, im33, hS32.sel [0, 1, 2, 3, 4, 5] rfl, hm⟩)
      rintro _ w27 ⟨J, T17, x22, a15, n12, c15, x21, rfl, im27, hS33, hm⟩
      rw [hkk5] at hm
      refine sq2 (rg (pv (r_mi rfl) (pv (r_ib rfl rfl rfl) (nil (t_then ?_)))))
      refine cnd rfl (fun hb23 => ?_) (fun hb23 => ?_)
      · have hm := ctrue hb23 hm
        refine sq2 ?_
        obtain ⟨u26, hx27, hm⟩ := bindS hm
        obtain ⟨b27, of23, cs23, k23, cp23, hv23, hp23, hl23, he23, hr23, hc23⟩ := (hS33.own (i := 2) ⟨rfl, rfl⟩).v.ixq hx27 rfl
        cases rSeat_open hr23
        obtain ⟨u27, hx28, hm⟩ := bindS hm
        refine rg (pv (r_fa rfl underlying37 rfl sizeOf32 rfl) (pv (r_ld rfl isAgg32 (hS33.cell0 (i := 3) ⟨rfl, rfl⟩ (j := 0) rfl)) (pv (r_fa rfl underlying73 rfl sizeOf3 rfl) (pv (r_ld rfl isAgg3 (hS33.cell0 (i := 0) ⟨rfl, rfl⟩ (j := 0) rfl)) (pv (r_fa rfl underlying37 rfl sizeOf3 rfl) (pv (r_ld rfl isAgg3 (hS33.cell0 (i := 3) ⟨rfl, rfl⟩ (j := 1) rfl)) (pv (r_bd (by kernel_rfl) rfl (u := .agg #[iv 0, iv x22.Slots])) (pv (r_ixe hv23 rfl underlying32 sizeOf44 hp23 hl23 he23) (wl rfl (stO (q := 2) (i := Int.toNat u2.R) (j := 0) (u := u27) (u' := (⟨0, x22.Slots⟩ : Seat)) hS33 ⟨rfl, rfl⟩ hv23 (idx_some hx28).2.2 he23 rfl rfl rfl sizeOf44 rfl rfl rfl (fun c0 hc0 => by rw [storeL_all (r := rSeat) hc0 rfl]; exact (rSeat_mk (x := (⟨0, x22.Slots⟩ : Seat))  : rSeat.rp _ _ _ _)) fun w34 im34 hS34 => ?_))))))))))
        refine nil (t_then ?_)
        refine rg (pv (r_fa rfl underlying37 rfl sizeOf3 rfl) (pv (r_ld rfl isAgg3 (hS34.cell0 (i := 3) ⟨rfl, rfl⟩ (j := 1) rfl)) (pv (r_ib rfl rfl rfl) (pv (r_fa rfl underlying37 rfl sizeOf3 rfl) (wl rfl (st0B (q := 3) hS34 ⟨rfl, rfl⟩ rfl rfl rfl sizeOf3 rfl rfl rfl fun w35 im35 hS35 => ?_))))))
        exact nil (t_blk (t_then ⟨_, _, (⟨List.set x22.Seats (Int.toNat u2.R) (⟨0, x22.Slots⟩ : Seat), IntKind.wrap .i64 (x22.Slots + 1)⟩ : ref24Given), x11, _, _, _, _, _, _, env_has ⟨rfl, rfl, rfl, rfl, rfl, rfl, trivial⟩, (iT im12 (iT im13 (iT im14 (iT im20 (iT im27 (iT im34 im35)))))), hS35.sel [1, 2, 3, 4, 5] rfl, hm⟩))
      have hm := cfalse hb23 hm
      refine sq2 ?_
      obtain ⟨u28, hx29, hm⟩ := bindS hm
      obtain ⟨b28, of24, cs24, k24, cp24, hv24, hp24, hl24, he24, hr24, hc24⟩ := (hS33.own (i := 1) ⟨rfl, rfl⟩).v.ixq hx29 rfl
      cases hr24
      obtain ⟨u29, hx30, hm⟩ := bindS hm
      refine rg (pv (r_ms rfl) (pv (r_mi rfl) (pv (r_mi rfl) (pv (r_ib rfl rfl rfl) (pv (r_ixe hv24 rfl underlying41 sizeOf3 hp24 hl24 he24) (wl rfl (stO (q := 1) (i := Int.toNat x21) (j := 0) (u := u29) (u' := IntKind.wrap .i64 (x6 + 1)) hS33 ⟨rfl, rfl⟩ hv24 (idx_some hx30).2.2 he24 rfl rfl rfl sizeOf3 rfl rfl rfl (fun c0 hc0 => by rw [storeL_all (r := (rInt .i64)) hc0 rfl]; exact rfl) fun w36 im36 hS36 => ?_)))))))
      refine nil (t_then ?_)
      refine rs [0, 1, 0, 1, 0, 2, 0, 0, 2] [0, 1, 2, 3, 4, 5, 6, 7, 8] mix (by kernel_rfl) hS36.lt fun w37 i12 => ?_
      have im37 := i12.imm
      have hS37 := hS36.keep i12 (fun _ h => h)
      obtain ⟨y2, hx31, hm⟩ := bindS hm
      refine s0 rfl trivial (fun _ => r_fa rfl underlying37 rfl sizeOf32 rfl) rfl (s1 rfl trivial (r_ld rfl isAgg32 (hS37.cell0 (i := 3) ⟨rfl, rfl⟩ (j := 0) rfl)) rfl (s0 rfl trivial (fun _ => r_fa rfl underlying73 rfl sizeOf3 rfl) rfl (s1 rfl trivial (r_ld rfl isAgg3 (hS37.cell0 (i := 0) ⟨rfl, rfl⟩ (j := 0) rfl)) rfl (s0 rfl trivial (fun _ => r_mi rfl) rfl (s2 [(3, iv u2.R), (1, .slice a15 n12 c15)] rfl trivial rfl (by kernel_rfl) (calS cf10 rfl (ref24_Name_sim (p0 := x21) (hS37.bun [1, 2, 3, 4, 5, 0] [] rfl)  hx31) rfl fun v2 T21 w38 im38 rv2 => ?_))))))
      obtain ⟨rfl, hS38, _⟩ := rv2
      have hS38 := hS38.unb
      refine ⟨st1 rfl (r_ld rfl isAgg3 (hS38.cell0 (i := 5) ⟨rfl, rfl⟩ (j := 0) rfl)) (st1 rfl (r_ld rfl isAgg32 (hS38.cell0 (i := 2) ⟨rfl, rfl⟩ (j := 0) rfl)) (st0)), ?_⟩
      obtain ⟨u30, hx32, hm⟩ := bindS hm
      obtain ⟨b29, of25, cs25, k25, cp25, hv25, hp25, hl25, he25, hr25, hc25⟩ := (hS38.own (i := 1) ⟨rfl, rfl⟩).v.ixq hx32 rfl
      cases rSeat_open hr25
      obtain ⟨u31, hx33, hm⟩ := bindS hm
      refine s0 rfl trivial (fun _ => r_bd (by kernel_rfl) rfl (u := .agg #[iv y2, iv (-1)])) rfl (s0 rfl trivial (fun _ => r_ixe hv25 rfl underlying32 sizeOf44 hp25 hl25 he25) rfl (s2 [] rfl trivial rfl (by kernel_rfl) (stO (q := 1) (i := Int.toNat u2.R) (j := 0) (u := u31) (u' := (⟨y2, (-1)⟩ : Seat)) hS38 ⟨rfl, rfl⟩ hv25 (idx_some hx33).2.2 he25 rfl rfl rfl sizeOf44 rfl rfl rfl (fun c0 hc0 => by rw [storeL_all (r := rSeat) hc0 rfl]; exact (rSeat_mk (x := (⟨y2, (-1)⟩ : Seat))  : rSeat.rp _ _ _ _)) fun w39 im39 hS39 => ?_)))
      refine ⟨st0, ?_⟩
      exact se (t_blk (t_then ⟨_, _, (⟨List.set x22.Seats (Int.toNat u2.R) (⟨y2, (-1)⟩ : Seat), x22.Slots⟩ : ref24Given), (List.set x11 (Int.toNat x21) (IntKind.wrap .i64 (x6 + 1))), _, _, _, _, _, _, env_has ⟨rfl, rfl, rfl, rfl, rfl, rfl, trivial⟩, (iT im12 (iT im13 (iT im14 (iT im20 (iT im27 (iT im36 (iT im37 (iT im38 im39)))))))), hS39.sel [0, 1, 2, 3, 4] rfl, hm⟩))
    rintro _ w11 ⟨J, T4, x10, x8, a10, n7, c10, a11, n8, c11, rfl, im11, hS40, hm⟩
    rw [hkk1] at hm
    have hm := oI hm; subst hm
    exact rg (pv (r_mi rfl) (pv (r_ib rfl rfl rfl) (pv (r_zi rfl) (nil (t_then ⟨m1, Nat.lt_succ_self _, _, _, x10, x8, _, _, _, _, _, _, (IntKind.wrap .i64 (x6 + 1)), env_has ⟨rfl, rfl, rfl, rfl, rfl, rfl, trivial⟩, (iT im10 im11), hS40.sel [0, 1, 2, 3, 4] rfl, hn1⟩)))))
  have hm := cfalse hb2 hm
  have hm := oI hm; subst hm
  have hn1 : _ = Lp.brk _ := hn1
  subst hn1
  have hm := thn_brk hq1
  refine xt (x_then (x_then (x_eq (t_then ?_))))
  refine sq2 (rg (pv (r_ldS rfl isAgg37 sizeOf37 rfl (hS11.cells0 (i := 2) ⟨rfl, rfl⟩ (o := 0) rfl) (cs := [.slice a9 n6 c9, iv x7.Slots])) (wl rfl (st0B (q := 3) hS11 ⟨rfl, rfl⟩ rfl rfl rfl sizeOf37 rfl rfl rfl fun w40 im40 hS41 => ?_))))
  refine nil (t_then ?_)
  obtain ⟨T22, im41, hS42, h4⟩ := hS41.seal 1 ⟨rfl, rfl⟩
  have hsh := h4.len
  subst hsh
  have hm := oI hm; subst hm
  exact rtn (retN (vs := [.agg #[sv a9 x7.Seats c9, iv x7.Slots]]) rfl ⟨rvS rfl isAgg37 sizeOf37 rfl (hS42.bx (i := 3) ⟨rfl, rfl⟩), trivial⟩ rfl ⟨_, rfl, _, (iT im1 (iT im2 (iT im3 (iT im4 (iT im8 (iT im9 (iT im10 (iT im40 im41)))))))), ⟨_, _, rfl, hS42.sel [4] rfl, h4, trivial⟩⟩)

theorem alloc_Spilled_sim {p0 : List Seat} {a1 : OA} {c1 : Nat} {r : (List Bool)} (hS : Sep g T0 w0 [R]) (h1 : SlR rSeat T0 w0 (sv a1 p0 c1) p0) (hm : alloc_Spilled p0 = some r) :
    Calls Tryz.prog 8 #[sv a1 p0 c1] w0 (RetS T0 w0 fun T w v => ∃ (a7 : OA) (n6 : Nat) (c7 : Nat), v = .slice a7 n6 c7 ∧ Sep g T w [R, ownA rBool 4 (.slice a7 n6 c7) r] ∧ True) := by
  refine enter (args := [sv a1 p0 c1]) Tryz.func8 rfl Tryz.ntmps8 rfl fun J => ?_
  unfold alloc_Spilled at hm
  refine sq2 (rg (pv (r_zs rfl) (nil (t_then ?_))))
  refine sq2 (rg (pv (r_zs rfl) (nil (t_then ?_))))
  refine sq2 (sq2 (rg (pv (r_ms rfl) (pv (r_ln rfl underlying32) (pv (r_mi rfl) (nil (t_then ?_)))))))
  obtain ⟨o1, ho1, hq1⟩ := bindS hm
  obtain ⟨bd1, hbd1, ho1⟩ := loop_open ho1
  have hS1 := hS.nilO rBool 4
  refine blk (wp_loop_ghost (fun m a w1 => ∃ (J : JV) (T1 : TP) (x1 : List Bool) (a2 : OA) (n1 : Nat) (c2 : Nat) (x2 : Int), a = env (nf 25) J [(3, .slice a2 n1 c2), (6, sv a1 p0 c1), (7, iv (List.length p0 : Int)), (8, iv x2)] ∧ Im T0 w0 T1 w1 ∧ Sep g T1 w1 [ownA rBool 4 (.slice a2 n1 c2) x1, R] ∧ loopM bd1 m (x1, x2) = some o1) NN ⟨_, _, [], _, _, _, 0, env_has ⟨rfl, rfl, rfl, rfl, trivial⟩, Im.refl, hS1.sel [0, 1] rfl, ho1⟩ ?_)
  rintro m _ w1 ⟨J, T1, x1, a2, n1, c2, x2, rfl, im1, hS2, ho1⟩
  obtain ⟨m1, z1, rfl, hm, hn1⟩ := loop_round ho1
  rw [hbd1] at hm
  refine sq2 (rg (pv (r_ib rfl rfl rfl) (nil (t_then ?_))))
  refine sq2 (cnd rfl (fun hb1 => ?_) (fun hb1 => ?_))
  · have hm := ctrue hb1 hm
    refine skp (t_then ?_)
    refine sq2 (blk (sq2 ?_))
    obtain ⟨u1, hx1, hm⟩ := bindS hm
    obtain ⟨b1, of1, cs1, k1, cp1, hv1, hp1, hl1, he1, hr1, hc1, hT1⟩ := (h1.mono im1).ixT hx1 rfl
    cases rSeat_open hr1
    refine rg (pv (r_ixe hv1 rfl underlying32 sizeOf44 hp1 hl1 he1) (pv (r_ldS rfl isAgg44 sizeOf44 rfl hc1 (cs := [iv u1.Reg, iv u1.Slot])) (wl rfl (alS (zs := [iv 0, iv 0]) zeroValue44 rfl hS2 fun w2 b2 im2 hS3 => ?_))))
    refine wl rfl (st0B (q := 0) hS3 ⟨rfl, rfl⟩ rfl rfl rfl sizeOf44 rfl rfl rfl fun w3 im3 hS4 => ?_)
    refine nil (t_then ?_)
    refine rg (pv (r_ms rfl) (pv (r_fa rfl underlying44 rfl sizeOf3 rfl) (pv (r_ld rfl isAgg3 (hS4.cell0 (i := 0) ⟨rfl, rfl⟩ (j := 0) rfl)) (pv (r_ib rfl rfl rfl) (pv (r_mb rfl) (?_))))))
    rcases Bool.eq_false_or_eq_true (u1.Reg == 0) with hb2 | hb2
    · have hm := ctrue hb2 hm
      refine gT (d0 := 16) rfl rfl hb2 (pv (r_fa rfl underlying44 rfl sizeOf3 rfl) (gT (d0 := 16) rfl rfl hb2 (pv (r_ld rfl isAgg3 (hS4.cell0 (i := 0) ⟨rfl, rfl⟩ (j := 1) rfl)) (gT (d0 := 16) rfl rfl hb2 (pv (r_ib rfl rfl rfl) (pv (r_pkt rfl hb2 rfl) (wl rfl (bsS (r := rBool) (l := ([u1.Slot != (-1)] : List Bool)) (css := [[.bool (u1.Slot != (-1))]]) hS4 underlying39 sizeOf4 zeroValue4 rfl rfl (by kernel_rfl) rfl ⟨rfl, trivial⟩ rfl rfl fun w4 a3 n2 c3 im4 hS5 => ?_))))))))
      obtain ⟨z_1, hro1, hm⟩ := bindS hm
      refine wl rfl (apO (q := 2) (l := x1) (us := ([u1.Slot != (-1)] : List Bool)) hS5 ⟨rfl, rfl⟩ rfl rfl (hS5.own (i := 0) ⟨rfl, rfl⟩).v underlying39 el4 (room_some hro1) fun w5 a4 n3 c4 im5 hS6 => ?_)
      refine pv (r_zs rfl) (nil (t_blk (t_then ?_)))
      have hm := oI hm; subst hm
      exact rg (pv (r_ib rfl rfl rfl) (pv (r_mi rfl) (nil (t_then ⟨m1, Nat.lt_succ_self _, _, _, (x1 ++ ([u1.Slot != (-1)] : List Bool)), _, _, _, (IntKind.wrap .i64 (x2 + 1)), env_has ⟨rfl, rfl, rfl, rfl, trivial⟩, (iT im1 (iT im2 (iT im3 (iT im4 im5)))), hS6.sel [2, 3] rfl, hn1⟩))))
    have hm := cfalse hb2 hm
    refine gF (d0 := 16) rfl rfl (by rw [hb2]; rfl) (gF (d0 := 16) rfl rfl (by rw [hb2]; rfl) (gF (d0 := 16) rfl rfl (by rw [hb2]; rfl) (pv (r_pkf rfl hb2 rfl) (wl rfl (bsS (r := rBool) (l := ([false] : List Bool)) (css := [[.bool false]]) hS4 underlying39 sizeOf4 zeroValue4 rfl rfl (by kernel_rfl) rfl ⟨rfl, trivial⟩ rfl rfl fun w6 a5 n4 c5 im6 hS7 => ?_)))))
    obtain ⟨z_2, hro2, hm⟩ := bindS hm
    refine wl rfl (apO (q := 2) (l := x1) (us := ([false] : List Bool)) hS7 ⟨rfl, rfl⟩ rfl rfl (hS7.own (i := 0) ⟨rfl, rfl⟩).v underlying39 el4 (room_some hro2) fun w7 a6 n5 c6 im7 hS8 => ?_)
    refine pv (r_zs rfl) (nil (t_blk (t_then ?_)))
    have hm := oI hm; subst hm
    exact rg (pv (r_ib rfl rfl rfl) (pv (r_mi rfl) (nil (t_then ⟨m1, Nat.lt_succ_self _, _, _, (x1 ++ ([false] : List Bool)), _, _, _, (IntKind.wrap .i64 (x2 + 1)), env_has ⟨rfl, rfl, rfl, rfl, trivial⟩, (iT im1 (iT im2 (iT im3 (iT im6 im7)))), hS8.sel [2, 3] rfl, hn1⟩))))
  have hm := cfalse hb1 hm
  have hm := oI hm; subst hm
  have hn1 : _ = Lp.brk _ := hn1
  subst hn1
  have hm := thn_brk hq1
  refine xt (x_then (x_then (x_eq (t_then ?_))))
  refine sq2 (rg (pv (r_ms rfl) (pv (r_zs rfl) (nil (t_then ?_)))))
  have hm := oI hm; subst hm
  exact rtn (ret1 rfl rfl ⟨_, rfl, _, im1, ⟨_, _, _, rfl, hS2.sel [1, 0] rfl, trivial⟩⟩)

theorem slices_Index_sim {p0 : List Int} {v_p0 : Value} {H_p0 : Assn} {p1 : Int} {r : Int} (hS : Sep g T0 w0 [R, H_p0]) (hV_p0 : Vw H_p0 (rInt .i64) v_p0 p0) (hm : slices_Index p0 p1 = some r) :
    Calls Tryz.prog 39 #[v_p0, iv p1] w0 (RetS T0 w0 fun T w v => v = iv r ∧ Sep g T w [R, H_p0] ∧ True) := by
  refine enter (args := [v_p0, iv p1]) Tryz.func39 rfl Tryz.ntmps39 rfl fun J => ?_
  unfold slices_Index at hm
  refine sq2 (rg (pv (r_zi rfl) (nil (t_then ?_))))
  refine sq2 (sq2 (rg (pv (r_mx (v := v_p0) rfl) (pv (r_lnV rfl (hS.view (i := 1) ⟨rfl, rfl⟩ hV_p0) underlying41) (pv (r_mi rfl) (nil (t_then ?_)))))))
  obtain ⟨o1, ho1, hq1⟩ := bindS hm
  obtain ⟨bd1, hbd1, ho1⟩ := loop_open ho1
  refine blk (wp_loop_ghost (fun m a w1 => ∃ (J : JV) (T1 : TP) (x1 : Int), a = env (nf 19) J [(0, v_p0), (1, iv p1), (7, iv (List.length p0 : Int)), (8, iv x1)] ∧ Im T0 w0 T1 w1 ∧ Sep g T1 w1 [R, H_p0] ∧ loopM bd1 m x1 = some o1) NN ⟨_, _, 0, env_has ⟨rfl, rfl, rfl, rfl, trivial⟩, Im.refl, hS.sel [0, 1] rfl, ho1⟩ ?_)
  rintro m _ w1 ⟨J, T1, x1, rfl, im1, hS1, ho1⟩
  obtain ⟨m1, z1, rfl, hm, hn1⟩ := loop_round ho1
  rw [hbd1] at hm
  refine sq2 (rg (pv (r_ib rfl rfl rfl) (nil (t_then ?_))))
  refine sq2 (cnd rfl (fun hb1 => ?_) (fun hb1 => ?_))
  · have hm := ctrue hb1 hm
    refine skp (t_then ?_)
    refine sq2 (blk (sq2 (rg (pv (r_mi rfl) (pv (r_zi rfl) (nil (t_then ?_)))))))
    refine sq2 ?_
    obtain ⟨u1, hx1, hm⟩ := bindS hm
    obtain ⟨b1, of1, cs1, k1, cp1, hv1, hp1, hl1, he1, hr1, hc1⟩ := (hS1.view (i := 1) ⟨rfl, rfl⟩ hV_p0).ixq hx1 rfl
    cases hr1
    refine rg (pv (r_mi rfl) (pv (r_mx (v := v_p0) rfl) (pv (r_mi rfl) (pv (r_ixe hv1 rfl underlying41 sizeOf3 hp1 hl1 he1) (pv (r_ld rfl isAgg3 (hc1.get (j := 0) rfl)) (pv (r_ib rfl rfl rfl) (nil (t_then ?_))))))))
    refine cnd rfl (fun hb2 => ?_) (fun hb2 => ?_)
    · have hm := ctrue hb2 hm
      refine sq2 (rg (pv (r_mi rfl) (pv (r_zi rfl) (nil (t_then ?_)))))
      have hm := oI hm; subst hm
      have hn1 : _ = Lp.ret _ := hn1
      subst hn1
      have hm := thn_ret hq1
      have hm := oI hm; subst hm
      exact rtn (r_blk (r_then (r_then (r_blk (r_then (ret1 rfl rfl ⟨_, rfl, _, im1, ⟨rfl, hS1.sel [0, 1] rfl, trivial⟩⟩))))))
    have hm := cfalse hb2 hm
    refine skp (t_blk (t_then ?_))
    have hm := oI hm; subst hm
    exact rg (pv (r_ib rfl rfl rfl) (pv (r_mi rfl) (nil (t_then ⟨m1, Nat.lt_succ_self _, _, _, (IntKind.wrap .i64 (x1 + 1)), env_has ⟨rfl, rfl, rfl, rfl, trivial⟩, im1, hS1.sel [0, 1] rfl, hn1⟩))))
  have hm := cfalse hb1 hm
  have hm := oI hm; subst hm
  have hn1 : _ = Lp.brk _ := hn1
  subst hn1
  have hm := thn_brk hq1
  refine xt (x_then (x_then (x_eq (t_then ?_))))
  refine sq2 (rg (pv (r_zi rfl) (nil (t_then ?_))))
  have hm := oI hm; subst hm
  exact rtn (ret1 rfl rfl ⟨_, rfl, _, im1, ⟨rfl, hS1.sel [0, 1] rfl, trivial⟩⟩)

theorem slices_Contains_sim {p0 : List Int} {v_p0 : Value} {H_p0 : Assn} {p1 : Int} {r : Bool} (hS : Sep g T0 w0 [R, H_p0]) (hV_p0 : Vw H_p0 (rInt .i64) v_p0 p0) (hm : slices_Contains p0 p1 = some r) :
    Calls Tryz.prog 21 #[v_p0, iv p1] w0 (RetS T0 w0 fun T w v => v = .bool r ∧ Sep g T w [R, H_p0] ∧ True) := by
  refine enter (args := [v_p0, iv p1]) Tryz.func21 rfl Tryz.ntmps21 rfl fun J => ?_
  unfold slices_Contains at hm
  refine sq2 (rg (pv (r_zb rfl) (nil (t_then ?_))))
  refine sq2 ?_
  obtain ⟨y1, hx1, hm⟩ := bindS hm
  refine rg (pv (r_mx (v := v_p0) rfl) (pv (r_mi rfl) (wl rfl (calS cf39 rfl (slices_Index_sim (p0 := p0) (H_p0 := H_p0) (p1 := p1) (hS.bun [0] [1] rfl) hV_p0 hx1) rfl fun v1 T1 w1 im1 rv1 => ?_))))
  obtain ⟨rfl, hS1, _⟩ := rv1
  have hS1 := hS1.unb
  refine pv (r_ib rfl rfl rfl) (pv (r_zb rfl) (nil (t_then ?_)))
  have hm := oI hm; subst hm
  exact rtn (ret1 rfl rfl ⟨_, rfl, _, im1, ⟨rfl, hS1.sel [0, 1] rfl, trivial⟩⟩)

theorem cmp_Less_sim {p0 : Int} {p1 : Int} {r : Bool} (hS : Sep g T0 w0 [R])  (hm : cmp_Less p0 p1 = some r) :
    Calls Tryz.prog 73 #[iv p0, iv p1] w0 (RetS T0 w0 fun T w v => v = .bool r ∧ Sep g T w [R] ∧ True) := by
  refine enter (args := [iv p0, iv p1]) Tryz.func73 rfl Tryz.ntmps73 rfl fun J => ?_
  unfold cmp_Less at hm
  refine sq2 (rg (pv (r_zb rfl) (nil (t_then ?_))))
  refine sq2 ?_
  obtain ⟨y1, hx1, hm⟩ := bindS hm
  refine rg (pv (r_mi rfl) (wl rfl (calS cf32 rfl (cmp_isNaN_sim (p0 := p0) (hS.bun [0] [] rfl)  hx1) rfl fun v1 T1 w1 im1 rv1 => ?_)))
  obtain ⟨rfl, hS1, _⟩ := rv1
  have hS1 := hS1.unb
  refine pv (r_mb rfl) (?_)
  rcases Bool.eq_false_or_eq_true y1 with hb1 | hb1
  · have hm := ctrue hb1 hm
    obtain ⟨y2, hx2, hm⟩ := bindS hm
    refine gT (d0 := 7) rfl rfl hb1 (pv (r_mi rfl) (gT (d0 := 7) rfl rfl hb1 (wl rfl (calS cf32 rfl (cmp_isNaN_sim (p0 := p1) (hS1.bun [0] [] rfl)  hx2) rfl fun v2 T2 w2 im2 rv2 => ?_))))
    obtain ⟨rfl, hS2, _⟩ := rv2
    have hS2 := hS2.unb
    refine gT (d0 := 7) rfl rfl hb1 (pv (r_nt rfl) (pv (r_pkt rfl hb1 rfl) (pv (r_mb rfl) (?_))))
    rcases Bool.eq_false_or_eq_true (!y2) with hb2 | hb2
    · have hm := ctrue hb2 hm
      refine gF (d0 := 12) rfl rfl (by rw [hb2]; rfl) (gF (d0 := 12) rfl rfl (by rw [hb2]; rfl) (gF (d0 := 12) rfl rfl (by rw [hb2]; rfl) (pv (r_pkt rfl hb2 rfl) (pv (r_zb rfl) (nil (t_then ?_))))))
      have hm := oI hm; subst hm
      exact rtn (ret1 rfl rfl ⟨_, rfl, _, (iT im1 im2), ⟨rfl, hS2.sel [0] rfl, trivial⟩⟩)
    have hm := cfalse hb2 hm
    refine gT (d0 := 12) rfl rfl hb2 (pv (r_mi rfl) (gT (d0 := 12) rfl rfl hb2 (pv (r_mi rfl) (gT (d0 := 12) rfl rfl hb2 (pv (r_ib rfl rfl rfl) (pv (r_pkf rfl hb2 rfl) (pv (r_zb rfl) (nil (t_then ?_)))))))))
    have hm := oI hm; subst hm
    exact rtn (ret1 rfl rfl ⟨_, rfl, _, (iT im1 im2), ⟨rfl, hS2.sel [0] rfl, trivial⟩⟩)
  have hm := cfalse hb1 hm
  refine gF (d0 := 7) rfl rfl (by rw [hb1]; rfl) (gF (d0 := 7) rfl rfl (by rw [hb1]; rfl) (gF (d0 := 7) rfl rfl (by rw [hb1]; rfl) (pv (r_pkf rfl hb1 rfl) (pv (r_mb rfl) (gT (d0 := 12) rfl rfl rfl (pv (r_mi rfl) (gT (d0 := 12) rfl rfl rfl (pv (r_mi rfl) (gT (d0 := 12) rfl rfl rfl (pv (r_ib rfl rfl rfl) (pv (r_pkf rfl rfl rfl) (pv (r_zb rfl) (nil (t_then ?_))))))))))))))
  have hm := oI hm; subst hm
  exact rtn (ret1 rfl rfl ⟨_, rfl, _, im1, ⟨rfl, hS1.sel [0] rfl, trivial⟩⟩)

theorem slices_insertionSortOrdered_sim {p0 : List Int} {a1 : OA} {n1 : Nat} {c1 : Nat} {p1 : Int} {p2 : Int} {r : (List Int)} (hS : Sep g T0 w0 [R, ownA (rInt .i64) 3 (.slice a1 n1 c1) p0])  (hm : slices_insertionSortOrdered p0 p1 p2 = some r) :
    Calls Tryz.prog 67 #[.slice a1 n1 c1, iv p1, iv p2] w0 (RetS T0 w0 fun T w v => v = .tuple #[] ∧ Sep g T w [R, ownA (rInt .i64) 3 (.slice a1 n1 c1) r] ∧ True) := by
  refine enter (args := [.slice a1 n1 c1, iv p1, iv p2]) Tryz.func67 rfl Tryz.ntmps67 rfl fun J => ?_
  unfold slices_insertionSortOrdered at hm
  refine sq2 (rg (pv (r_mi rfl) (pv (r_ib rfl rfl rfl) (pv (r_zi rfl) (nil (t_then ?_))))))
  obtain ⟨o1, ho1, hq1⟩ := bindS hm
  obtain ⟨bd1, hbd1, ho1⟩ := loop_open ho1
  refine blk (wp_loop_ghost (fun m a w1 => ∃ (J : JV) (T1 : TP) (x1 : List Int) (x2 : Int), a = env (nf 49) J [(0, .slice a1 n1 c1), (1, iv p1), (2, iv p2), (6, iv x2)] ∧ Im T0 w0 T1 w1 ∧ Sep g T1 w1 [R, ownA (rInt .i64) 3 (.slice a1 n1 c1) x1] ∧ loopM bd1 m (x1, x2) = some o1) NN ⟨_, _, p0, (IntKind.wrap .i64 (p1 + 1)), env_has ⟨rfl, rfl, rfl, rfl, trivial⟩, Im.refl, hS.sel [0, 1] rfl, ho1⟩ ?_)
  rintro m _ w1 ⟨J, T1, x1, x2, rfl, im1, hS1, ho1⟩
  obtain ⟨m1, z1, rfl, hm, hn1⟩ := loop_round ho1
  rw [hbd1] at hm
  refine sq2 (sq2 (rg (pv (r_mi rfl) (pv (r_mi rfl) (pv (r_ib rfl rfl rfl) (nil (t_then ?_)))))))
  refine cnd rfl (fun hb1 => ?_) (fun hb1 => ?_)
  · have hm := ctrue hb1 hm
    refine skp (t_then ?_)
    refine sq2 (blk (sq2 (rg (pv (r_mi rfl) (pv (r_zi rfl) (nil (t_then ?_)))))))
    obtain ⟨o2, ho2, hq2⟩ := bindS hm
    obtain ⟨bd2, hbd2, ho2⟩ := loop_open ho2
    refine blk (wp_loop_ghost (fun m a w2 => ∃ (J : JV) (T2 : TP) (x3 : List Int) (x4 : Int), a = env (nf 49) J [(0, .slice a1 n1 c1), (1, iv p1), (2, iv p2), (6, iv x2), (7, iv x4)] ∧ Im T1 w1 T2 w2 ∧ Sep g T2 w2 [R, ownA (rInt .i64) 3 (.slice a1 n1 c1) x3] ∧ loopM bd2 m (x3, x4) = some o2) NN ⟨_, _, x1, x2, env_has ⟨rfl, rfl, rfl, rfl, rfl, trivial⟩, Im.refl, hS1.sel [0, 1] rfl, ho2⟩ ?_)
    rintro m _ w2 ⟨J, T2, x3, x4, rfl, im2, hS2, ho2⟩
    obtain ⟨m2, z2, rfl, hm, hn2⟩ := loop_round ho2
    rw [hbd2] at hm
    refine sq2 (sq2 (rs [0, 0, 0, 0, 0, 0, 0, 1, 0, 0, 0, 0, 1, 2, 0] [0, 1, 2, 3, 4, 5, 6, 7, 8, 9, 10, 11, 12, 13, 14] mix (by kernel_rfl) hS2.lt fun w3 i1 => ?_))
    have im3 := i1.imm
    have hS3 := hS2.keep i1 (fun _ h => h)
    refine s0 rfl trivial (fun _ => r_mi rfl) rfl (s0 rfl trivial (fun _ => r_mi rfl) rfl (s0 rfl trivial (fun _ => r_ib rfl rfl rfl) rfl (s0 rfl trivial (fun _ => r_mb rfl) rfl (?_))))
    rcases Bool.eq_false_or_eq_true (decide (p1 < x4)) with hb2 | hb2
    · have hm := ctrue hb2 hm
      obtain ⟨u1, hx1, hm⟩ := bindS hm
      obtain ⟨b1, of1, cs1, k1, cp1, hv1, hp1, hl1, he1, hr1, hc1⟩ := (hS3.own (i := 1) ⟨rfl, rfl⟩).v.ixq hx1 rfl
      cases hr1
      obtain ⟨u2, hx2, hm⟩ := bindS hm
      obtain ⟨b2, of2, cs2, k2, cp2, hv2, hp2, hl2, he2, hr2, hc2⟩ := (hS3.own (i := 1) ⟨rfl, rfl⟩).v.ixq hx2 rfl
      cases hr2
      obtain ⟨y1, hx3, hm⟩ := bindS hm
      refine s0 rfl ⟨_, rfl, congrArg Value.bool hb2⟩ (fun _ => r_ms rfl) rfl (s0 rfl ⟨_, rfl, congrArg Value.bool hb2⟩ (fun _ => r_mi rfl) rfl (s0 rfl ⟨_, rfl, congrArg Value.bool hb2⟩ (fun _ => r_ixe hv1 rfl underlying41 sizeOf3 hp1 hl1 he1) rfl (s1 rfl ⟨_, rfl, congrArg Value.bool hb2⟩ (r_ld rfl isAgg3 (hc1.get (j := 0) rfl)) rfl (s0 rfl ⟨_, rfl, congrArg Value.bool hb2⟩ (fun _ => r_ms rfl) rfl (s0 rfl ⟨_, rfl, congrArg Value.bool hb2⟩ (fun _ => r_mi rfl) rfl (s0 rfl ⟨_, rfl, congrArg Value.bool hb2⟩ (fun _ => r_ib rfl rfl rfl) rfl (s0 rfl ⟨_, rfl, congrArg Value.bool hb2⟩ (fun _ => r_ixe hv2 rfl underlying41 sizeOf3 hp2 hl2 he2) rfl (s1 rfl ⟨_, rfl, congrArg Value.bool hb2⟩ (r_ld rfl isAgg3 (hc2.get (j := 0) rfl)) rfl (s2 [] rfl ⟨_, rfl, congrArg Value.bool hb2⟩ rfl (by kernel_rfl) (calS cf73 rfl (cmp_Less_sim (p0 := u1) (p1 := u2) (hS3.bun [0, 1] [] rfl)  hx3) rfl fun v1 T3 w4 im4 rv1 => ?_))))))))))
      obtain ⟨rfl, hS4, _⟩ := rv1
      have hS4 := hS4.unb
      refine ⟨st0, ?_⟩
      refine s0 rfl trivial (fun _ => r_pkt rfl hb2 rfl) rfl (se (t_then ?_))
      refine cnd rfl (fun hb3 => ?_) (fun hb3 => ?_)
      · have hm := ctrue hb3 hm
        refine skp (t_then ?_)
        refine sq2 (blk (rs [0, 0, 0, 0, 0, 0, 0, 0, 0, 1, 0, 0, 0, 1, 0, 2, 0, 2] [0, 1, 2, 3, 4, 5, 6, 7, 8, 9, 10, 11, 12, 13, 14, 15, 16, 17] mix (by kernel_rfl) hS4.lt fun w5 i2 => ?_))
        have im5 := i2.imm
        have hS5 := hS4.keep i2 (fun _ h => h)
        obtain ⟨u3, hx4, hm⟩ := bindS hm
        obtain ⟨b3, of3, cs3, k3, cp3, hv3, hp3, hl3, he3, hr3, hc3⟩ := (hS5.own (i := 1) ⟨rfl, rfl⟩).v.ixq hx4 rfl
        cases hr3
        obtain ⟨u4, hx5, hm⟩ := bindS hm
        obtain ⟨b4, of4, cs4, k4, cp4, hv4, hp4, hl4, he4, hr4, hc4⟩ := (hS5.own (i := 1) ⟨rfl, rfl⟩).v.ixq hx5 rfl
        cases hr4
        obtain ⟨u5, hx6, hm⟩ := bindS hm
        obtain ⟨b5, of5, cs5, k5, cp5, hv5, hp5, hl5, he5, hr5, hc5⟩ := (hS5.own (i := 1) ⟨rfl, rfl⟩).v.ixq hx6 rfl
        cases hr5
        obtain ⟨u6, hx7, hm⟩ := bindS hm
        refine s0 rfl trivial (fun _ => r_ms rfl) rfl (s0 rfl trivial (fun _ => r_mi rfl) rfl (s0 rfl trivial (fun _ => r_ms rfl) rfl (s0 rfl trivial (fun _ => r_mi rfl) rfl (s0 rfl trivial (fun _ => r_ib rfl rfl rfl) rfl (s0 rfl trivial (fun _ => r_ms rfl) rfl (s0 rfl trivial (fun _ => r_mi rfl) rfl (s0 rfl trivial (fun _ => r_ib rfl rfl rfl) rfl (s0 rfl trivial (fun _ => r_ixe hv3 rfl underlying41 sizeOf3 hp3 hl3 he3) rfl (s1 rfl trivial (r_ld rfl isAgg3 (hc3.get (j := 0) rfl)) rfl (s0 rfl trivial (fun _ => r_ms rfl) rfl (s0 rfl trivial (fun _ => r_mi rfl) rfl (s0 rfl trivial (fun _ => r_ixe hv4 rfl underlying41 sizeOf3 hp4 hl4 he4) rfl (s1 rfl trivial (r_ld rfl isAgg3 (hc4.get (j := 0) rfl)) rfl (s0 rfl trivial (fun _ => r_ixe hv5 rfl underlying41 sizeOf3 hp5 hl5 he5) rfl (s2 [] rfl trivial rfl (by kernel_rfl) (stO (q := 1) (i := Int.toNat x4) (j := 0) (u := u6) (u' := u3) hS5 ⟨rfl, rfl⟩ hv5 (idx_some hx7).2.2 he5 rfl rfl rfl sizeOf3 rfl rfl rfl (fun c0 hc0 => by rw [storeL_all (r := (rInt .i64)) hc0 rfl]; exact rfl) fun w6 im6 hS6 => ?_))))))))))))))))
        refine ⟨st0, ?_⟩
        obtain ⟨u7, hx8, hm⟩ := bindS hm
        obtain ⟨b6, of6, cs6, k6, cp6, hv6, hp6, hl6, he6, hr6, hc6⟩ := (hS6.own (i := 1) ⟨rfl, rfl⟩).v.ixq hx8 rfl
        cases hr6
        obtain ⟨u8, hx9, hm⟩ := bindS hm
        refine s0 rfl trivial (fun _ => r_ixe hv6 rfl underlying41 sizeOf3 hp6 hl6 he6) rfl (s2 [] rfl trivial rfl (by kernel_rfl) (stO (q := 1) (i := Int.toNat (IntKind.wrap .i64 (x4 - 1))) (j := 0) (u := u8) (u' := u4) hS6 ⟨rfl, rfl⟩ hv6 (idx_some hx9).2.2 he6 rfl rfl rfl sizeOf3 rfl rfl rfl (fun c0 hc0 => by rw [storeL_all (r := (rInt .i64)) hc0 rfl]; exact rfl) fun w7 im7 hS7 => ?_))
        refine ⟨st0, ?_⟩
        refine se (t_blk (t_then ?_))
        have hm := oI hm; subst hm
        exact rg (pv (r_mi rfl) (pv (r_ib rfl rfl rfl) (pv (r_zi rfl) (nil (t_then ⟨m2, Nat.lt_succ_self _, _, _, (List.set (List.set x3 (Int.toNat x4) u3) (Int.toNat (IntKind.wrap .i64 (x4 - 1))) u4), (IntKind.wrap .i64 (x4 - 1)), env_has ⟨rfl, rfl, rfl, rfl, rfl, trivial⟩, (iT im2 (iT im3 (iT im4 (iT im5 (iT im6 im7))))), hS7.sel [0, 1] rfl, hn2⟩)))))
      have hm := cfalse hb3 hm
      have hm := oI hm; subst hm
      have hn2 : _ = Lp.brk _ := hn2
      subst hn2
      have hm := thn_brk hq2
      refine xt (x_then (x_then (x_eq (t_blk (t_then ?_)))))
      have hm := oI hm; subst hm
      exact rg (pv (r_mi rfl) (pv (r_ib rfl rfl rfl) (pv (r_zi rfl) (nil (t_then ⟨m1, Nat.lt_succ_self _, _, _, x3, (IntKind.wrap .i64 (x2 + 1)), env_has ⟨rfl, rfl, rfl, rfl, trivial⟩, (iT im1 (iT im2 (iT im3 im4))), hS4.sel [0, 1] rfl, hn1⟩)))))
    have hm := cfalse hb2 hm
    refine sU rfl (gI rfl rfl hb2) (sU rfl (gI rfl rfl hb2) (sU rfl (gI rfl rfl hb2) (sU rfl (gI rfl rfl hb2) (sU rfl (gI rfl rfl hb2) (sU rfl (gI rfl rfl hb2) (sU rfl (gI rfl rfl hb2) (sU rfl (gI rfl rfl hb2) (sU rfl (gI rfl rfl hb2) (sU rfl (gI rfl rfl hb2) (s0 rfl trivial (fun _ => r_pkf rfl hb2 rfl) rfl (se (t_then ?_))))))))))))
    refine cnd (b := false) rfl (fun h => nomatch h) (fun _ => ?_)
    have hm := oI hm; subst hm
    have hn2 : _ = Lp.brk _ := hn2
    subst hn2
    have hm := thn_brk hq2
    refine xt (x_then (x_then (x_eq (t_blk (t_then ?_)))))
    have hm := oI hm; subst hm
    exact rg (pv (r_mi rfl) (pv (r_ib rfl rfl rfl) (pv (r_zi rfl) (nil (t_then ⟨m1, Nat.lt_succ_self _, _, _, x3, (IntKind.wrap .i64 (x2 + 1)), env_has ⟨rfl, rfl, rfl, rfl, trivial⟩, (iT im1 (iT im2 im3)), hS3.sel [0, 1] rfl, hn1⟩)))))
  have hm := cfalse hb1 hm
  have hm := oI hm; subst hm
  have hn1 : _ = Lp.brk _ := hn1
  subst hn1
  have hm := thn_brk hq1
  have hm := oI hm; subst hm
  exact xt (x_then (x_then (x_eq (end0 rfl ⟨_, rfl, _, im1, ⟨rfl, hS1.sel [0, 1] rfl, trivial⟩⟩))))

theorem slices_pdqsortOrdered_sim {p0 : List Int} {a1 : OA} {n1 : Nat} {c1 : Nat} {p1 : Int} {p2 : Int} {p3 : Int} {r : (List Int)} (hS : Sep g T0 w0 [R, ownA (rInt .i64) 3 (.slice a1 n1 c1) p0])  (hm : slices_pdqsortOrdered p0 p1 p2 p3 = some r) :
    Calls Tryz.prog 40 #[.slice a1 n1 c1, iv p1, iv p2, iv p3] w0 (RetS T0 w0 fun T w v => v = .tuple #[] ∧ Sep g T w [R, ownA (rInt .i64) 3 (.slice a1 n1 c1) r] ∧ True) := by
  refine enter (args := [.slice a1 n1 c1, iv p1, iv p2, iv p3]) Tryz.func40 rfl Tryz.ntmps40 rfl fun J => ?_
  unfold slices_pdqsortOrdered at hm
  refine sq2 (rg (pv (r_zb rfl) (nil (t_then ?_))))
  refine sq2 (rg (pv (r_zb rfl) (nil (t_then ?_))))
  obtain ⟨o1, ho1, hq1⟩ := bindS hm
  obtain ⟨bd1, hbd1, ho1⟩ := loop_open ho1
  refine blk (wp_loop_ghost (fun m a w1 => ∃ (J : JV) (T1 : TP) (x1 : Int) (x2 : Int), a = env (nf 134) J [(0, .slice a1 n1 c1), (1, iv x1), (2, iv x2)] ∧ Im T0 w0 T1 w1 ∧ Sep g T1 w1 [R, ownA (rInt .i64) 3 (.slice a1 n1 c1) p0] ∧ loopM bd1 m (x1, x2) = some o1) NN ⟨_, _, p1, p2, env_has ⟨rfl, rfl, rfl, trivial⟩, Im.refl, hS.sel [0, 1] rfl, ho1⟩ ?_)
  rintro m _ w1 ⟨J, T1, x1, x2, rfl, im1, hS1, ho1⟩
  obtain ⟨m1, z1, rfl, hm, hn1⟩ := loop_round ho1
  rw [hbd1] at hm
  refine blk (sq2 (rg (pv (r_mi rfl) (pv (r_mi rfl) (pv (r_ib rfl rfl rfl) (pv (r_zi rfl) (nil (t_then ?_))))))))
  refine sq2 (sq2 (rg (pv (r_mi rfl) (pv (r_ib rfl rfl rfl) (nil (t_then ?_))))))
  refine cnd rfl (fun hb1 => ?_) (fun hb1 => ?_)
  · have hm := ctrue hb1 hm
    refine sq2 ?_
    obtain ⟨y1, hx1, hm⟩ := bindS hm
    refine rg (pv (r_ms rfl) (pv (r_mi rfl) (pv (r_mi rfl) (wl rfl (calS cf67 rfl (slices_insertionSortOrdered_sim (p0 := p0) (p1 := x1) (p2 := x2) (hS1.bun [0] [1] rfl)  hx1) rfl fun v1 T2 w2 im2 rv1 => ?_)))))
    obtain ⟨rfl, hS2, _⟩ := rv1
    have hS2 := hS2.unb
    refine nil (t_then ?_)
    have hm := oI hm; subst hm
    have hn1 : _ = Lp.ret _ := hn1
    subst hn1
    have hm := thn_ret hq1
    have hm := oI hm; subst hm
    exact rtn (r_then (r_blk (r_then (r_blk (ret0 rfl ⟨_, rfl, _, (iT im1 im2), ⟨rfl, hS2.sel [0, 1] rfl, trivial⟩⟩)))))
  have hm := cfalse hb1 hm
  cases hm

theorem slices_Sort_sim {p0 : List Int} {a1 : OA} {n1 : Nat} {c1 : Nat} {r : (List Int)} (hS : Sep g T0 w0 [R, ownA (rInt .i64) 3 (.slice a1 n1 c1) p0])  (hm : slices_Sort p0 = some r) :
    Calls Tryz.prog 22 #[.slice a1 n1 c1] w0 (RetS T0 w0 fun T w v => v = .tuple #[] ∧ Sep g T w [R, ownA (rInt .i64) 3 (.slice a1 n1 c1) r] ∧ True) := by
  refine enter (args := [.slice a1 n1 c1]) Tryz.func22 rfl Tryz.ntmps22 rfl fun J => ?_
  unfold slices_Sort at hm
  refine sq2 (rg (pv (r_ms rfl) (pv (r_lnV rfl (hS.own (i := 1) ⟨rfl, rfl⟩).v underlying41) (pv (r_zi rfl) (nil (t_then ?_))))))
  obtain ⟨y1, hx1, hm⟩ := bindS hm
  refine rg (pv (r_ms rfl) (pv (r_mi rfl) (pv (r_mi rfl) (pv (r_cv rfl underlying3 underlying87) (wl rfl (calS cf31 rfl (bits_Len_sim (p0 := IntKind.wrap .u64 (List.length p0 : Int)) (hS.bun [0, 1] [] rfl)  hx1) rfl fun v1 T1 w1 im1 rv1 => ?_))))))
  obtain ⟨rfl, hS1, _⟩ := rv1
  have hS1 := hS1.unb
  obtain ⟨y2, hx2, hm⟩ := bindS hm
  refine wl rfl (calS cf40 rfl (slices_pdqsortOrdered_sim (p0 := p0) (p1 := 0) (p2 := (List.length p0 : Int)) (p3 := y1) (hS1.bun [0] [1] rfl)  hx2) rfl fun v2 T2 w2 im2 rv2 => ?_)
  obtain ⟨rfl, hS2, _⟩ := rv2
  have hS2 := hS2.unb
  have hm := oI hm; subst hm
  exact nil (end0 rfl ⟨_, rfl, _, (iT im1 im2), ⟨rfl, hS2.sel [0, 1] rfl, trivial⟩⟩)

theorem alloc_Given_sim {p0 : List Seat} {a1 : OA} {c1 : Nat} {r : (List Int)} (hS : Sep g T0 w0 [R]) (h1 : SlR rSeat T0 w0 (sv a1 p0 c1) p0) (hm : alloc_Given p0 = some r) :
    Calls Tryz.prog 9 #[sv a1 p0 c1] w0 (RetS T0 w0 fun T w v => ∃ (a6 : OA) (n5 : Nat) (c6 : Nat), v = .slice a6 n5 c6 ∧ Sep g T w [R, ownA (rInt .i64) 3 (.slice a6 n5 c6) r] ∧ True) := by
  refine enter (args := [sv a1 p0 c1]) Tryz.func9 rfl Tryz.ntmps9 rfl fun J => ?_
  unfold alloc_Given at hm
  refine sq2 (rg (pv (r_zs rfl) (nil (t_then ?_))))
  refine sq2 (rg (pv (r_zs rfl) (nil (t_then ?_))))
  refine sq2 (sq2 (rg (pv (r_ms rfl) (pv (r_ln rfl underlying32) (pv (r_mi rfl) (nil (t_then ?_)))))))
  obtain ⟨o1, ho1, hq1⟩ := bindS hm
  obtain ⟨bd1, hbd1, ho1⟩ := loop_open ho1
  have hS1 := hS.nilO (rInt .i64) 3
  refine blk (wp_loop_ghost (fun m a w1 => ∃ (J : JV) (T1 : TP) (x1 : List Int) (a2 : OA) (n1 : Nat) (c2 : Nat) (x2 : Int), a = env (nf 31) J [(3, .slice a2 n1 c2), (6, sv a1 p0 c1), (7, iv (List.length p0 : Int)), (8, iv x2)] ∧ Im T0 w0 T1 w1 ∧ Sep g T1 w1 [ownA (rInt .i64) 3 (.slice a2 n1 c2) x1, R] ∧ loopM bd1 m (x1, x2) = some o1) NN ⟨_, _, [], _, _, _, 0, env_has ⟨rfl, rfl, rfl, rfl, trivial⟩, Im.refl, hS1.sel [0, 1] rfl, ho1⟩ ?_)
  rintro m _ w1 ⟨J, T1, x1, a2, n1, c2, x2, rfl, im1, hS2, ho1⟩
  obtain ⟨m1, z1, rfl, hm, hn1⟩ := loop_round ho1
  rw [hbd1] at hm
  refine sq2 (rg (pv (r_ib rfl rfl rfl) (nil (t_then ?_))))
  refine sq2 (cnd rfl (fun hb1 => ?_) (fun hb1 => ?_))
  · have hm := ctrue hb1 hm
    refine skp (t_then ?_)
    obtain ⟨kk1, hkk1, hm⟩ := jn_open hm
    refine cut (fun a w2 => ∃ (J : JV) (T2 : TP) (x3 : List Int) (a3 : OA) (n2 : Nat) (c3 : Nat), a = env (nf 31) J [(3, .slice a3 n2 c3), (6, sv a1 p0 c1), (7, iv (List.length p0 : Int)), (8, iv x2)] ∧ Im T1 w1 T2 w2 ∧ Sep g T2 w2 [ownA (rInt .i64) 3 (.slice a3 n2 c3) x3, R] ∧ kk1 x3 = some z1) ?_ ?_
    · refine blk (sq2 ?_)
      obtain ⟨u1, hx1, hm⟩ := bindS hm
      obtain ⟨b1, of1, cs1, k1, cp1, hv1, hp1, hl1, he1, hr1, hc1, hT1⟩ := (h1.mono im1).ixT hx1 rfl
      cases rSeat_open hr1
      refine rg (pv (r_ixe hv1 rfl underlying32 sizeOf44 hp1 hl1 he1) (pv (r_ldS rfl isAgg44 sizeOf44 rfl hc1 (cs := [iv u1.Reg, iv u1.Slot])) (wl rfl (alS (zs := [iv 0, iv 0]) zeroValue44 rfl hS2 fun w3 b2 im3 hS3 => ?_))))
      refine wl rfl (st0B (q := 0) hS3 ⟨rfl, rfl⟩ rfl rfl rfl sizeOf44 rfl rfl rfl fun w4 im4 hS4 => ?_)
      refine nil (t_then ?_)
      refine sq2 (rg (pv (r_fa rfl underlying44 rfl sizeOf3 rfl) (pv (r_ld rfl isAgg3 (hS4.cell0 (i := 0) ⟨rfl, rfl⟩ (j := 0) rfl)) (pv (r_ib rfl rfl rfl) (pv (r_mb rfl) (?_))))))
      rcases Bool.eq_false_or_eq_true (decide (0 < u1.Reg)) with hb2 | hb2
      · have hm := ctrue hb2 hm
        obtain ⟨y1, hx2, hm⟩ := bindS hm
        refine gT (d0 := 15) rfl rfl hb2 (pv (r_ms rfl) (gT (d0 := 15) rfl rfl hb2 (pv (r_fa rfl underlying44 rfl sizeOf3 rfl) (gT (d0 := 15) rfl rfl hb2 (pv (r_ld rfl isAgg3 (hS4.cell0 (i := 0) ⟨rfl, rfl⟩ (j := 0) rfl)) (gT (d0 := 15) rfl rfl hb2 (wl rfl (calS cf21 rfl (slices_Contains_sim (p0 := x1) (H_p0 := ownA (rInt .i64) 3 (.slice a2 n1 c2) x1) (p1 := u1.Reg) (hS4.bun [0, 2] [1] rfl) vwOwn hx2) rfl fun v1 T3 w5 im5 rv1 => ?_))))))))
        obtain ⟨rfl, hS5, _⟩ := rv1
        have hS5 := hS5.unb
        refine gT (d0 := 15) rfl rfl hb2 (pv (r_nt rfl) (pv (r_pkt rfl hb2 rfl) (nil (t_then ?_))))
        refine cnd rfl (fun hb3 => ?_) (fun hb3 => ?_)
        · have hm := ctrue hb3 hm
          refine rg (pv (r_ms rfl) (pv (r_fa rfl underlying44 rfl sizeOf3 rfl) (pv (r_ld rfl isAgg3 (hS5.cell0 (i := 0) ⟨rfl, rfl⟩ (j := 0) rfl)) (wl rfl (bsS (r := (rInt .i64)) (l := ([u1.Reg] : List Int)) (css := [[iv u1.Reg]]) hS5 underlying41 sizeOf3 zeroValue3 rfl rfl (by kernel_rfl) rfl ⟨rfl, trivial⟩ rfl rfl fun w6 a4 n3 c4 im6 hS6 => ?_)))))
          obtain ⟨z_1, hro1, hm⟩ := bindS hm
          refine wl rfl (apO (q := 3) (l := x1) (us := ([u1.Reg] : List Int)) hS6 ⟨rfl, rfl⟩ rfl rfl (hS6.own (i := 0) ⟨rfl, rfl⟩).v underlying41 el3 (room_some hro1) fun w7 a5 n4 c5 im7 hS7 => ?_)
          exact pv (r_zs rfl) (nil (t_blk (t_then ⟨_, _, (x1 ++ ([u1.Reg] : List Int)), _, _, _, env_has ⟨rfl, rfl, rfl, rfl, trivial⟩, (iT im3 (iT im4 (iT im5 (iT im6 im7)))), hS7.sel [3, 2] rfl, hm⟩)))
        have hm := cfalse hb3 hm
        exact skp (t_blk (t_then ⟨_, _, x1, _, _, _, env_has ⟨rfl, rfl, rfl, rfl, trivial⟩, (iT im3 (iT im4 im5)), hS5.sel [2, 1] rfl, hm⟩))
      have hm := cfalse hb2 hm
      refine gF (d0 := 15) rfl rfl (by rw [hb2]; rfl) (gF (d0 := 15) rfl rfl (by rw [hb2]; rfl) (gF (d0 := 15) rfl rfl (by rw [hb2]; rfl) (gF (d0 := 15) rfl rfl (by rw [hb2]; rfl) (gF (d0 := 15) rfl rfl (by rw [hb2]; rfl) (pv (r_pkf rfl hb2 rfl) (nil (t_then ?_)))))))
      refine cnd (b := false) rfl (fun h => nomatch h) (fun _ => ?_)
      exact skp (t_blk (t_then ⟨_, _, x1, _, _, _, env_has ⟨rfl, rfl, rfl, rfl, trivial⟩, (iT im3 im4), hS4.sel [1, 2] rfl, hm⟩))
    rintro _ w2 ⟨J, T2, x3, a3, n2, c3, rfl, im2, hS8, hm⟩
    rw [hkk1] at hm
    have hm := oI hm; subst hm
    exact rg (pv (r_ib rfl rfl rfl) (pv (r_mi rfl) (nil (t_then ⟨m1, Nat.lt_succ_self _, _, _, x3, _, _, _, (IntKind.wrap .i64 (x2 + 1)), env_has ⟨rfl, rfl, rfl, rfl, trivial⟩, (iT im1 im2), hS8.sel [0, 1] rfl, hn1⟩))))
  have hm := cfalse hb1 hm
  have hm := oI hm; subst hm
  have hn1 : _ = Lp.brk _ := hn1
  subst hn1
  have hm := thn_brk hq1
  refine xt (x_then (x_then (x_eq (t_then ?_))))
  refine sq2 ?_
  obtain ⟨y2, hx3, hm⟩ := bindS hm
  refine rg (pv (r_ms rfl) (wl rfl (calS cf22 rfl (slices_Sort_sim (p0 := x1) (hS2.bun [1] [0] rfl)  hx3) rfl fun v2 T4 w8 im8 rv2 => ?_)))
  obtain ⟨rfl, hS9, _⟩ := rv2
  have hS9 := hS9.unb
  refine nil (t_then ?_)
  refine sq2 (rg (pv (r_ms rfl) (pv (r_zs rfl) (nil (t_then ?_)))))
  have hm := oI hm; subst hm
  exact rtn (ret1 rfl rfl ⟨_, rfl, _, (iT im1 im8), ⟨_, _, _, rfl, hS9.sel [0, 1] rfl, trivial⟩⟩)

theorem law24_AllocAssigns_sim {p0 : GModule} {a1 : OA} {c1 : Nat} {a2 : OA} {c2 : Nat} {a3 : OA} {c3 : Nat} {p1 : Int} {p2 : Int} {r : Bool} (hS : Sep g T0 w0 [R]) (h1 : SlR rGSlot T0 w0 (sv a1 p0.Globals c1) p0.Globals) (h2 : SlR (rSl (rInt .u8)) T0 w0 (sv a2 p0.Data c2) p0.Data) (h3 : SlR rProc T0 w0 (sv a3 p0.Procs c3) p0.Procs) (hm : law24_AllocAssigns p0 p1 p2 = some r) :
    Calls Tryz.prog 3 #[.agg #[sv a1 p0.Globals c1, sv a2 p0.Data c2, sv a3 p0.Procs c3, iv p0.Main], iv p1, iv p2] w0 (RetS T0 w0 fun T w v => v = .bool r ∧ Sep g T w [R] ∧ True) := by
  refine enter (args := [.agg #[sv a1 p0.Globals c1, sv a2 p0.Data c2, sv a3 p0.Procs c3, iv p0.Main], iv p1, iv p2]) Tryz.func3 rfl Tryz.ntmps3 rfl fun J => ?_
  unfold law24_AllocAssigns at hm
  refine sq2 (rg (wl rfl (bxS (cs := [sv a1 p0.Globals c1, sv a2 p0.Data c2, sv a3 p0.Procs c3, iv p0.Main]) rfl rfl hS fun w1 b1 im1 hS1 => ?_)))
  refine pv (r_zb rfl) (nil (t_then ?_))
  refine sq2 (sq2 ?_)
  obtain ⟨y1, hx1, hm⟩ := bindS hm
  refine rg (pv (r_ldS rfl isAgg26 sizeOf26 rfl (hS1.cells0 (i := 0) ⟨rfl, rfl⟩ (o := 0) rfl) (cs := [sv a1 p0.Globals c1, sv a2 p0.Data c2, sv a3 p0.Procs c3, iv p0.Main])) (pv (r_mi rfl) (wl rfl (calS cf4 rfl (law24_few_sim (p0 := p0) (p1 := p1) (hS1.bun [0, 1] [] rfl) (h1.mono im1) (h2.mono im1) (h3.mono im1) hx1) rfl fun v1 T1 w2 im2 rv1 => ?_))))
  obtain ⟨rfl, hS2, _⟩ := rv1
  have hS2 := hS2.unb
  refine pv (r_nt rfl) (nil (t_then ?_))
  refine cnd rfl (fun hb1 => ?_) (fun hb1 => ?_)
  · have hm := ctrue hb1 hm
    refine sq2 ?_
    obtain ⟨y2, hx2, hm⟩ := bindS hm
    refine rg (wl rfl (calS cf5 rfl (law24_awake_sim  (hS2.bun [1] [] rfl)  hx2) rfl fun v2 T2 w3 im3 rv2 => ?_))
    obtain ⟨rfl, hS3, _⟩ := rv2
    have hS3 := hS3.unb
    refine pv (r_zb rfl) (nil (t_then ?_))
    have hm := oI hm; subst hm
    exact rtn (r_then (ret1 rfl rfl ⟨_, rfl, _, (iT im1 (iT im2 im3)), ⟨rfl, hS3.sel [0] rfl, trivial⟩⟩))
  have hm := cfalse hb1 hm
  refine skp (t_then ?_)
  refine sq2 ?_
  obtain ⟨u1, hx3, hm⟩ := bindS hm
  obtain ⟨b2, of1, cs1, k1, cp1, hv1, hp1, hl1, he1, hr1, hc1, hT1⟩ := (h3.mono (iT im1 im2)).ixT hx3 rfl
  obtain ⟨a4, c4, a5, c5, rfl, h4, h5⟩ := rProc_open hr1
  refine rg (pv (r_fa rfl underlying26 rfl sizeOf24 rfl) (pv (r_ld rfl isAgg24 (hS2.cell0 (i := 0) ⟨rfl, rfl⟩ (j := 2) rfl)) (pv (r_mi rfl) (pv (r_ixe hv1 rfl underlying24 sizeOf31 hp1 hl1 he1) (pv (r_ldS rfl isAgg31 sizeOf31 rfl hc1 (cs := (cProc u1 a4 c4 a5 c5))) (wl rfl (alS (zs := [.string ⟨([] : List UInt8).toArray⟩, .bool false, iv 0, iv 0, .slice none 0 0, .slice none 0 0]) zeroValue31 rfl hS2 fun w4 b3 im4 hS4 => ?_)))))))
  refine wl rfl (st0B (q := 0) hS4 ⟨rfl, rfl⟩ rfl rfl rfl sizeOf31 rfl rfl rfl fun w5 im5 hS5 => ?_)
  refine nil (t_then ?_)
  refine sq2 ?_
  obtain ⟨y3, hx4, hm⟩ := bindS hm
  refine rg (pv (r_ldS rfl isAgg31 sizeOf31 rfl (hS5.cells0 (i := 0) ⟨rfl, rfl⟩ (o := 0) rfl) (cs := (cProc u1 a4 c4 a5 c5))) (pv (r_mi rfl) (wl rfl (calS cf6 rfl (alloc_Assign_sim (p0 := u1) (p1 := p2) (hS5.bun [0, 2] [] rfl) (h4.mono (iT im4 im5)) (h5.mono (iT im4 im5)) hx4) rfl fun v3 T3 w6 im6 rv3 => ?_))))
  obtain ⟨a6, n1, c6, rfl, hS6, _⟩ := rv3
  have hS6 := hS6.unb
  obtain ⟨T4, im7, hS7, h6⟩ := hS6.seal 2 ⟨rfl, rfl⟩
  have hsh := h6.len
  subst hsh
  refine pv (r_mv rfl) (pv (r_ex (v := sv a6 y3.1 c6) rfl rfl) (pv (r_ex (v := iv y3.2.1) rfl rfl) (pv (r_ex (v := iv y3.2.2) rfl rfl) (pv (r_zs rfl) (pv (r_zi rfl) (pv (r_zi rfl) (nil (t_then ?_))))))))
  refine sq2 (sq2 (rg (pv (r_mi rfl) (pv (r_ib rfl rfl rfl) (pv (r_mb rfl) (?_))))))
  rcases Bool.eq_false_or_eq_true (decide (p2 < 0)) with hb2 | hb2
  · have hm := ctrue hb2 hm
    refine gF (d0 := 38) rfl rfl (by rw [hb2]; rfl) (gF (d0 := 38) rfl rfl (by rw [hb2]; rfl) (pv (r_pkt rfl hb2 rfl) (nil (t_then ?_))))
    refine cnd (b := true) rfl (fun _ => ?_) (fun h => nomatch h)
    refine sq2 ?_
    obtain ⟨y11, hx19, hm⟩ := bindS hm
    refine rg (wl rfl (calS cf5 rfl (law24_awake_sim  (hS7.bun [1] [] rfl)  hx19) rfl fun v11 T21 w25 im28 rv11 => ?_))
    obtain ⟨rfl, hS28, _⟩ := rv11
    have hS28 := hS28.unb
    refine pv (r_mb rfl) (?_)
    rcases Bool.eq_false_or_eq_true y11 with hb32 | hb32
    · have hm := ctrue hb32 hm
      refine gT (d0 := 43) rfl rfl hb32 (pv (r_mi rfl) (gT (d0 := 43) rfl rfl hb32 (pv (r_ib rfl rfl rfl) (pv (r_pkt rfl hb32 rfl) (pv (r_mb rfl) (?_))))))
      rcases Bool.eq_false_or_eq_true (y3.2.2 == 1) with hb33 | hb33
      · have hm := ctrue hb33 hm
        refine gT (d0 := 47) rfl rfl hb33 (pv (r_ms rfl) (gT (d0 := 47) rfl rfl hb33 (pv (r_ln rfl underlying32) (gT (d0 := 47) rfl rfl hb33 (pv (r_ib rfl rfl rfl) (pv (r_pkt rfl hb33 rfl) (pv (r_mb rfl) (?_))))))))
        rcases Bool.eq_false_or_eq_true ((List.length y3.1 : Int) == 0) with hb34 | hb34
        · have hm := ctrue hb34 hm
          refine gT (d0 := 52) rfl rfl hb34 (pv (r_mi rfl) (gT (d0 := 52) rfl rfl hb34 (pv (r_ib rfl rfl rfl) (pv (r_pkt rfl hb34 rfl) (pv (r_zb rfl) (nil (t_then ?_)))))))
          have hm := oI hm; subst hm
          exact rtn (r_then (ret1 rfl rfl ⟨_, rfl, _, (iT im1 (iT im2 (iT im4 (iT im5 (iT im6 (iT im7 im28)))))), ⟨rfl, hS28.sel [0] rfl, trivial⟩⟩))
        have hm := cfalse hb34 hm
        refine gF (d0 := 52) rfl rfl (by rw [hb34]; rfl) (gF (d0 := 52) rfl rfl (by rw [hb34]; rfl) (pv (r_pkf rfl hb34 rfl) (pv (r_zb rfl) (nil (t_then ?_)))))
        have hm := oI hm; subst hm
        exact rtn (r_then (ret1 rfl rfl ⟨_, rfl, _, (iT im1 (iT im2 (iT im4 (iT im5 (iT im6 (iT im7 im28)))))), ⟨rfl, hS28.sel [0] rfl, trivial⟩⟩))
      have hm := cfalse hb33 hm
      refine gF (d0 := 47) rfl rfl (by rw [hb33]; rfl) (gF (d0 := 47) rfl rfl (by rw [hb33]; rfl) (gF (d0 := 47) rfl rfl (by rw [hb33]; rfl) (pv (r_pkf rfl hb33 rfl) (pv (r_mb rfl) (gF (d0 := 52) rfl rfl rfl (gF (d0 := 52) rfl rfl rfl (pv (r_pkf rfl rfl rfl) (pv (r_zb rfl) (nil (t_then ?_))))))))))
      have hm := oI hm; subst hm
      exact rtn (r_then (ret1 rfl rfl ⟨_, rfl, _, (iT im1 (iT im2 (iT im4 (iT im5 (iT im6 (iT im7 im28)))))), ⟨rfl, hS28.sel [0] rfl, trivial⟩⟩))
    have hm := cfalse hb32 hm
    refine gF (d0 := 43) rfl rfl (by rw [hb32]; rfl) (gF (d0 := 43) rfl rfl (by rw [hb32]; rfl) (pv (r_pkf rfl hb32 rfl) (pv (r_mb rfl) (gF (d0 := 47) rfl rfl rfl (gF (d0 := 47) rfl rfl rfl (gF (d0 := 47) rfl rfl rfl (pv (r_pkf rfl rfl rfl) (pv (r_mb rfl) (gF (d0 := 52) rfl rfl rfl (gF (d0 := 52) rfl rfl rfl (pv (r_pkf rfl rfl rfl) (pv (r_zb rfl) (nil (t_then ?_))))))))))))))
    have hm := oI hm; subst hm
    exact rtn (r_then (ret1 rfl rfl ⟨_, rfl, _, (iT im1 (iT im2 (iT im4 (iT im5 (iT im6 (iT im7 im28)))))), ⟨rfl, hS28.sel [0] rfl, trivial⟩⟩))
  have hm := cfalse hb2 hm
  refine gT (d0 := 38) rfl rfl hb2 (pv (r_mi rfl) (gT (d0 := 38) rfl rfl hb2 (pv (r_ib rfl rfl rfl) (pv (r_pkf rfl hb2 rfl) (nil (t_then ?_))))))
  refine cnd rfl (fun hb3 => ?_) (fun hb3 => ?_)
  · have hm := ctrue hb3 hm
    refine sq2 ?_
    obtain ⟨y4, hx5, hm⟩ := bindS hm
    refine rg (wl rfl (calS cf5 rfl (law24_awake_sim  (hS7.bun [1] [] rfl)  hx5) rfl fun v4 T5 w7 im8 rv4 => ?_))
    obtain ⟨rfl, hS8, _⟩ := rv4
    have hS8 := hS8.unb
    refine pv (r_mb rfl) (?_)
    rcases Bool.eq_false_or_eq_true y4 with hb4 | hb4
    · have hm := ctrue hb4 hm
      refine gT (d0 := 43) rfl rfl hb4 (pv (r_mi rfl) (gT (d0 := 43) rfl rfl hb4 (pv (r_ib rfl rfl rfl) (pv (r_pkt rfl hb4 rfl) (pv (r_mb rfl) (?_))))))
      rcases Bool.eq_false_or_eq_true (y3.2.2 == 1) with hb5 | hb5
      · have hm := ctrue hb5 hm
        refine gT (d0 := 47) rfl rfl hb5 (pv (r_ms rfl) (gT (d0 := 47) rfl rfl hb5 (pv (r_ln rfl underlying32) (gT (d0 := 47) rfl rfl hb5 (pv (r_ib rfl rfl rfl) (pv (r_pkt rfl hb5 rfl) (pv (r_mb rfl) (?_))))))))
        rcases Bool.eq_false_or_eq_true ((List.length y3.1 : Int) == 0) with hb6 | hb6
        · have hm := ctrue hb6 hm
          refine gT (d0 := 52) rfl rfl hb6 (pv (r_mi rfl) (gT (d0 := 52) rfl rfl hb6 (pv (r_ib rfl rfl rfl) (pv (r_pkt rfl hb6 rfl) (pv (r_zb rfl) (nil (t_then ?_)))))))
          have hm := oI hm; subst hm
          exact rtn (r_then (ret1 rfl rfl ⟨_, rfl, _, (iT im1 (iT im2 (iT im4 (iT im5 (iT im6 (iT im7 im8)))))), ⟨rfl, hS8.sel [0] rfl, trivial⟩⟩))
        have hm := cfalse hb6 hm
        refine gF (d0 := 52) rfl rfl (by rw [hb6]; rfl) (gF (d0 := 52) rfl rfl (by rw [hb6]; rfl) (pv (r_pkf rfl hb6 rfl) (pv (r_zb rfl) (nil (t_then ?_)))))
        have hm := oI hm; subst hm
        exact rtn (r_then (ret1 rfl rfl ⟨_, rfl, _, (iT im1 (iT im2 (iT im4 (iT im5 (iT im6 (iT im7 im8)))))), ⟨rfl, hS8.sel [0] rfl, trivial⟩⟩))
      have hm := cfalse hb5 hm
      refine gF (d0 := 47) rfl rfl (by rw [hb5]; rfl) (gF (d0 := 47) rfl rfl (by rw [hb5]; rfl) (gF (d0 := 47) rfl rfl (by rw [hb5]; rfl) (pv (r_pkf rfl hb5 rfl) (pv (r_mb rfl) (gF (d0 := 52) rfl rfl rfl (gF (d0 := 52) rfl rfl rfl (pv (r_pkf rfl rfl rfl) (pv (r_zb rfl) (nil (t_then ?_))))))))))
      have hm := oI hm; subst hm
      exact rtn (r_then (ret1 rfl rfl ⟨_, rfl, _, (iT im1 (iT im2 (iT im4 (iT im5 (iT im6 (iT im7 im8)))))), ⟨rfl, hS8.sel [0] rfl, trivial⟩⟩))
    have hm := cfalse hb4 hm
    refine gF (d0 := 43) rfl rfl (by rw [hb4]; rfl) (gF (d0 := 43) rfl rfl (by rw [hb4]; rfl) (pv (r_pkf rfl hb4 rfl) (pv (r_mb rfl) (gF (d0 := 47) rfl rfl rfl (gF (d0 := 47) rfl rfl rfl (gF (d0 := 47) rfl rfl rfl (pv (r_pkf rfl rfl rfl) (pv (r_mb rfl) (gF (d0 := 52) rfl rfl rfl (gF (d0 := 52) rfl rfl rfl (pv (r_pkf rfl rfl rfl) (pv (r_zb rfl) (nil (t_then ?_))))))))))))))
    have hm := oI hm; subst hm
    exact rtn (r_then (ret1 rfl rfl ⟨_, rfl, _, (iT im1 (iT im2 (iT im4 (iT im5 (iT im6 (iT im7 im8)))))), ⟨rfl, hS8.sel [0] rfl, trivial⟩⟩))
  have hm := cfalse hb3 hm
  refine skp (t_then ?_)
  refine sq2 ?_
  obtain ⟨y5, hx6, hm⟩ := bindS hm
  refine rg (pv (r_ldS rfl isAgg31 sizeOf31 rfl (hS7.cells0 (i := 0) ⟨rfl, rfl⟩ (o := 0) rfl) (cs := (cProc u1 a4 c4 a5 c5))) (pv (r_mi rfl) (wl rfl (calS cf7 rfl (ref24_Assign_sim (p0 := u1) (p1 := p2) (hS7.bun [1] [] rfl) (h4.mono (iT im4 (iT im5 (iT im6 im7)))) (h5.mono (iT im4 (iT im5 (iT im6 im7)))) hx6) rfl fun v5 T6 w8 im9 rv5 => ?_))))
  obtain ⟨a7, c7, rfl, hS9, h7, _⟩ := rv5
  have hS9 := hS9.unb
  refine wl rfl (alS (zs := [.slice none 0 0, iv 0]) zeroValue37 rfl hS9 fun w9 b4 im10 hS10 => ?_)
  refine wl rfl (st0B (q := 0) hS10 ⟨rfl, rfl⟩ rfl rfl rfl sizeOf37 rfl rfl rfl fun w10 im11 hS11 => ?_)
  refine nil (t_then ?_)
  refine sq2 ?_
  obtain ⟨y6, hx7, hm⟩ := bindS hm
  refine rg (pv (r_ms rfl) (wl rfl (calS cf8 rfl (alloc_Spilled_sim (p0 := y3.1) (hS11.bun [0, 1] [] rfl) (h6.mono (iT im9 (iT im10 im11))) hx7) rfl fun v6 T7 w11 im12 rv6 => ?_)))
  obtain ⟨a8, n2, c8, rfl, hS12, _⟩ := rv6
  have hS12 := hS12.unb
  obtain ⟨T8, im13, hS13, h8⟩ := hS12.seal 2 ⟨rfl, rfl⟩
  have hsh := h8.len
  subst hsh
  obtain ⟨y7, hx8, hm⟩ := bindS hm
  refine pv (r_ms rfl) (wl rfl (calS cf9 rfl (alloc_Given_sim (p0 := y3.1) (hS13.bun [0, 1] [] rfl) (h6.mono (iT im9 (iT im10 (iT im11 (iT im12 im13))))) hx8) rfl fun v7 T9 w12 im14 rv7 => ?_))
  obtain ⟨a9, n3, c9, rfl, hS14, _⟩ := rv7
  have hS14 := hS14.unb
  obtain ⟨T10, im15, hS15, h9⟩ := hS14.seal 2 ⟨rfl, rfl⟩
  have hsh := h9.len
  subst hsh
  refine pv (r_zs rfl) (pv (r_zs rfl) (nil (t_then ?_)))
  refine sq2 (sq2 (rg (pv (r_mi rfl) (pv (r_ib rfl rfl rfl) (pv (r_mb rfl) (?_))))))
  rcases Bool.eq_false_or_eq_true (y3.2.2 != 0) with hb7 | hb7
  · have hm := ctrue hb7 hm
    refine gF (d0 := 65) rfl rfl (by rw [hb7]; rfl) (gF (d0 := 65) rfl rfl (by rw [hb7]; rfl) (gF (d0 := 65) rfl rfl (by rw [hb7]; rfl) (gF (d0 := 65) rfl rfl (by rw [hb7]; rfl) (pv (r_pkt rfl hb7 rfl) (pv (r_mb rfl) (gF (d0 := 71) rfl rfl rfl (gF (d0 := 71) rfl rfl rfl (gF (d0 := 71) rfl rfl rfl (gF (d0 := 71) rfl rfl rfl (gF (d0 := 71) rfl rfl rfl (gF (d0 := 71) rfl rfl rfl (pv (r_pkt rfl rfl rfl) (pv (r_mb rfl) (gF (d0 := 79) rfl rfl rfl (gF (d0 := 79) rfl rfl rfl (gF (d0 := 79) rfl rfl rfl (gF (d0 := 79) rfl rfl rfl (gF (d0 := 79) rfl rfl rfl (pv (r_pkt rfl rfl rfl) (nil (t_then ?_)))))))))))))))))))))
    refine cnd (b := true) rfl (fun _ => ?_) (fun h => nomatch h)
    refine sq2 (rg (pv (r_zb rfl) (nil (t_then ?_))))
    have hm := oI hm; subst hm
    exact rtn (r_then (ret1 rfl rfl ⟨_, rfl, _, (iT im1 (iT im2 (iT im4 (iT im5 (iT im6 (iT im7 (iT im9 (iT im10 (iT im11 (iT im12 (iT im13 (iT im14 im15)))))))))))), ⟨rfl, hS15.sel [1] rfl, trivial⟩⟩))
  have hm := cfalse hb7 hm
  refine gT (d0 := 65) rfl rfl hb7 (pv (r_mi rfl) (gT (d0 := 65) rfl rfl hb7 (pv (r_fa rfl underlying37 rfl sizeOf3 rfl) (gT (d0 := 65) rfl rfl hb7 (pv (r_ld rfl isAgg3 (hS15.cell0 (i := 0) ⟨rfl, rfl⟩ (j := 1) rfl)) (gT (d0 := 65) rfl rfl hb7 (pv (r_ib rfl rfl rfl) (pv (r_pkf rfl hb7 rfl) (pv (r_mb rfl) (?_))))))))))
  rcases Bool.eq_false_or_eq_true (y3.2.1 != y5.Slots) with hb8 | hb8
  · have hm := ctrue hb8 hm
    refine gF (d0 := 71) rfl rfl (by rw [hb8]; rfl) (gF (d0 := 71) rfl rfl (by rw [hb8]; rfl) (gF (d0 := 71) rfl rfl (by rw [hb8]; rfl) (gF (d0 := 71) rfl rfl (by rw [hb8]; rfl) (gF (d0 := 71) rfl rfl (by rw [hb8]; rfl) (gF (d0 := 71) rfl rfl (by rw [hb8]; rfl) (pv (r_pkt rfl hb8 rfl) (pv (r_mb rfl) (gF (d0 := 79) rfl rfl rfl (gF (d0 := 79) rfl rfl rfl (gF (d0 := 79) rfl rfl rfl (gF (d0 := 79) rfl rfl rfl (gF (d0 := 79) rfl rfl rfl (pv (r_pkt rfl rfl rfl) (nil (t_then ?_)))))))))))))))
    refine cnd (b := true) rfl (fun _ => ?_) (fun h => nomatch h)
    refine sq2 (rg (pv (r_zb rfl) (nil (t_then ?_))))
    have hm := oI hm; subst hm
    exact rtn (r_then (ret1 rfl rfl ⟨_, rfl, _, (iT im1 (iT im2 (iT im4 (iT im5 (iT im6 (iT im7 (iT im9 (iT im10 (iT im11 (iT im12 (iT im13 (iT im14 im15)))))))))))), ⟨rfl, hS15.sel [1] rfl, trivial⟩⟩))
  have hm := cfalse hb8 hm
  refine gT (d0 := 71) rfl rfl hb8 (pv (r_ms rfl) (gT (d0 := 71) rfl rfl hb8 (pv (r_ln rfl underlying32) (gT (d0 := 71) rfl rfl hb8 (pv (r_fa rfl underlying37 rfl sizeOf32 rfl) (gT (d0 := 71) rfl rfl hb8 (pv (r_ld rfl isAgg32 (hS15.cell0 (i := 0) ⟨rfl, rfl⟩ (j := 0) rfl)) (gT (d0 := 71) rfl rfl hb8 (pv (r_ln rfl underlying32) (gT (d0 := 71) rfl rfl hb8 (pv (r_ib rfl rfl rfl) (pv (r_pkf rfl hb8 rfl) (pv (r_mb rfl) (?_))))))))))))))
  rcases Bool.eq_false_or_eq_true ((List.length y3.1 : Int) != (List.length y5.Seats : Int)) with hb9 | hb9
  · have hm := ctrue hb9 hm
    refine gF (d0 := 79) rfl rfl (by rw [hb9]; rfl) (gF (d0 := 79) rfl rfl (by rw [hb9]; rfl) (gF (d0 := 79) rfl rfl (by rw [hb9]; rfl) (gF (d0 := 79) rfl rfl (by rw [hb9]; rfl) (gF (d0 := 79) rfl rfl (by rw [hb9]; rfl) (pv (r_pkt rfl hb9 rfl) (nil (t_then ?_)))))))
    refine cnd (b := true) rfl (fun _ => ?_) (fun h => nomatch h)
    refine sq2 (rg (pv (r_zb rfl) (nil (t_then ?_))))
    have hm := oI hm; subst hm
    exact rtn (r_then (ret1 rfl rfl ⟨_, rfl, _, (iT im1 (iT im2 (iT im4 (iT im5 (iT im6 (iT im7 (iT im9 (iT im10 (iT im11 (iT im12 (iT im13 (iT im14 im15)))))))))))), ⟨rfl, hS15.sel [1] rfl, trivial⟩⟩))
  have hm := cfalse hb9 hm
  refine gT (d0 := 79) rfl rfl hb9 (pv (r_ms rfl) (gT (d0 := 79) rfl rfl hb9 (pv (r_ln rfl underlying39) (gT (d0 := 79) rfl rfl hb9 (pv (r_ms rfl) (gT (d0 := 79) rfl rfl hb9 (pv (r_ln rfl underlying32) (gT (d0 := 79) rfl rfl hb9 (pv (r_ib rfl rfl rfl) (pv (r_pkf rfl hb9 rfl) (nil (t_then ?_))))))))))))
  refine cnd rfl (fun hb10 => ?_) (fun hb10 => ?_)
  · have hm := ctrue hb10 hm
    refine sq2 (rg (pv (r_zb rfl) (nil (t_then ?_))))
    have hm := oI hm; subst hm
    exact rtn (r_then (ret1 rfl rfl ⟨_, rfl, _, (iT im1 (iT im2 (iT im4 (iT im5 (iT im6 (iT im7 (iT im9 (iT im10 (iT im11 (iT im12 (iT im13 (iT im14 im15)))))))))))), ⟨rfl, hS15.sel [1] rfl, trivial⟩⟩))
  have hm := cfalse hb10 hm
  refine skp (t_then ?_)
  refine sq2 (sq2 (rg (pv (r_zi rfl) (nil (t_then ?_)))))
  obtain ⟨o1, ho1, hq1⟩ := bindS hm
  obtain ⟨bd1, hbd1, ho1⟩ := loop_open ho1
  refine blk (wp_loop_ghost (fun m a w13 => ∃ (J : JV) (T11 : TP) (x1 : Int), a = env (nf 170) J [(8, sv a6 y3.1 c6), (11, pt b4 0), (12, sv a8 y6 c8), (13, sv a9 y7 c9), (14, iv x1)] ∧ Im T10 w12 T11 w13 ∧ Sep g T11 w13 [boxA b4 [sv a7 y5.Seats c7, iv y5.Slots], R] ∧ loopM bd1 m x1 = some o1) NN ⟨_, _, 0, env_has ⟨rfl, rfl, rfl, rfl, rfl, trivial⟩, Im.refl, hS15.sel [0, 1] rfl, ho1⟩ ?_)
  rintro m _ w13 ⟨J, T11, x1, rfl, im16, hS16, ho1⟩
  obtain ⟨m1, z1, rfl, hm, hn1⟩ := loop_round ho1
  rw [hbd1] at hm
  refine sq2 (sq2 (rg (pv (r_mi rfl) (pv (r_ms rfl) (pv (r_ln rfl underlying32) (pv (r_ib rfl rfl rfl) (nil (t_then ?_))))))))
  refine cnd rfl (fun hb11 => ?_) (fun hb11 => ?_)
  · have hm := ctrue hb11 hm
    refine skp (t_then ?_)
    refine sq2 (blk (sq2 ?_))
    obtain ⟨u2, hx9, hm⟩ := bindS hm
    obtain ⟨b5, of2, cs2, k2, cp2, hv2, hp2, hl2, he2, hr2, hc2, hT2⟩ := (h6.mono (iT im9 (iT im10 (iT im11 (iT im12 (iT im13 (iT im14 (iT im15 im16)))))))).ixT hx9 rfl
    cases rSeat_open hr2
    obtain ⟨u3, hx10, hm⟩ := bindS hm
    obtain ⟨b6, of3, cs3, k3, cp3, hv3, hp3, hl3, he3, hr3, hc3, hT3⟩ := (h7.mono (iT im10 (iT im11 (iT im12 (iT im13 (iT im14 (iT im15 im16))))))).ixT hx10 rfl
    cases rSeat_open hr3
    refine rq mix (by kernel_rfl) hS16.lt (qv (fun _ hq => r_ms rfl) (qv (fun _ hq => r_mi rfl) (qv (fun _ hq => r_ixe hv2 rfl underlying32 sizeOf44 hp2 hl2 he2) (qv (fun _ hq => r_ldS rfl isAgg44 sizeOf44 rfl (hq.cellsAt hc2) (cs := [iv u2.Reg, iv u2.Slot])) (qv (fun _ hq => r_fa rfl underlying37 rfl sizeOf32 rfl) (qv (fun _ hq => r_ld rfl isAgg32 (hq.cell (hS16.cell0 (i := 0) ⟨rfl, rfl⟩ (j := 0) rfl))) (qv (fun _ hq => r_mi rfl) (qv (fun _ hq => r_ixe hv3 rfl underlying32 sizeOf44 hp3 hl3 he3) (qv (fun _ hq => r_ldS rfl isAgg44 sizeOf44 rfl (hq.cellsAt hc3) (cs := [iv u3.Reg, iv u3.Slot])) (qv (fun _ hq => r_seqn rfl rfl (ne_44 u2.Reg u2.Slot u3.Reg u3.Slot)) (qv (fun _ hq => r_mb rfl) (?_))))))))))))
    rcases Bool.eq_false_or_eq_true (!((u2.Reg == u3.Reg) && (u2.Slot == u3.Slot))) with hb12 | hb12
    · have hm := ctrue hb12 hm
      refine qgF (d0 := 102) rfl rfl (by rw [hb12]; rfl) (qgF (d0 := 102) rfl rfl (by rw [hb12]; rfl) (qgF (d0 := 102) rfl rfl (by rw [hb12]; rfl) (qgF (d0 := 102) rfl rfl (by rw [hb12]; rfl) (qgF (d0 := 102) rfl rfl (by rw [hb12]; rfl) (qgF (d0 := 102) rfl rfl (by rw [hb12]; rfl) (qgF (d0 := 102) rfl rfl (by rw [hb12]; rfl) (qgF (d0 := 102) rfl rfl (by rw [hb12]; rfl) (qgF (d0 := 102) rfl rfl (by rw [hb12]; rfl) (qgF (d0 := 102) rfl rfl (by rw [hb12]; rfl) (qgF (d0 := 102) rfl rfl (by rw [hb12]; rfl) (qgU (d0 := 113) rfl rfl (qgU (d0 := 113) rfl rfl (qgU (d0 := 113) rfl rfl (qgU (d0 := 113) rfl rfl (qgU (d0 := 113) rfl rfl (qgU (d0 := 113) rfl rfl (qgF (d0 := 102) rfl rfl (by rw [hb12]; rfl) (qgF (d0 := 102) rfl rfl (by rw [hb12]; rfl) (qv (fun _ hq => r_pkt rfl hb12 rfl) (qn fun w16 T14 i3 => ?_))))))))))))))))))))
      have im19 := i3.imm
      have hS19 := hS16.keep i3 (fun _ h => h)
      refine t_then ?_
      refine cnd (b := true) rfl (fun _ => ?_) (fun h => nomatch h)
      refine sq2 (rg (pv (r_zb rfl) (nil (t_then ?_))))
      have hm := oI hm; subst hm
      have hn1 : _ = Lp.ret _ := hn1
      subst hn1
      have hm := thn_ret hq1
      have hm := oI hm; subst hm
      exact rtn (r_blk (r_then (r_then (r_blk (r_then (ret1 rfl rfl ⟨_, rfl, _, (iT im1 (iT im2 (iT im4 (iT im5 (iT im6 (iT im7 (iT im9 (iT im10 (iT im11 (iT im12 (iT im13 (iT im14 (iT im15 (iT im16 im19)))))))))))))), ⟨rfl, hS19.sel [1] rfl, trivial⟩⟩))))))
    have hm := cfalse hb12 hm
    obtain ⟨u4, hx11, hm⟩ := bindS hm
    obtain ⟨b7, of4, cs4, k4, cp4, hv4, hp4, hl4, he4, hr4, hc4, hT4⟩ := (h8.mono (iT im14 (iT im15 im16))).ixT hx11 rfl
    cases hr4
    obtain ⟨u5, hx12, hm⟩ := bindS hm
    obtain ⟨b8, of5, cs5, k5, cp5, hv5, hp5, hl5, he5, hr5, hc5, hT5⟩ := (h6.mono (iT im9 (iT im10 (iT im11 (iT im12 (iT im13 (iT im14 (iT im15 im16)))))))).ixT hx12 rfl
    cases rSeat_open hr5
    refine qgT (d0 := 102) rfl rfl hb12 (qv (fun _ hq => r_ms rfl) (qgT (d0 := 102) rfl rfl hb12 (qv (fun _ hq => r_mi rfl) (qgT (d0 := 102) rfl rfl hb12 (qv (fun _ hq => r_ixe hv4 rfl underlying39 sizeOf4 hp4 hl4 he4) (qgT (d0 := 102) rfl rfl hb12 (qv (fun _ hq => r_ld rfl isAgg4 (hq.cell (hc4.get (j := 0) rfl))) (qgT (d0 := 102) rfl rfl hb12 (qv (fun _ hq => r_ms rfl) (qgT (d0 := 102) rfl rfl hb12 (qv (fun _ hq => r_mi rfl) (qgT (d0 := 102) rfl rfl hb12 (qv (fun _ hq => r_ixe hv5 rfl underlying32 sizeOf44 hp5 hl5 he5) (qgT (d0 := 102) rfl rfl hb12 (qv (fun _ hq => r_fa rfl underlying44 rfl sizeOf3 rfl) (qgT (d0 := 102) rfl rfl hb12 (qv (fun _ hq => r_ld rfl isAgg3 (hq.cell (hc5.get (j := 0) rfl))) (qgT (d0 := 102) rfl rfl hb12 (qv (fun _ hq => r_ib rfl rfl rfl) (qgT (d0 := 102) rfl rfl hb12 (qv (fun _ hq => r_mb rfl) (?_))))))))))))))))))))))
    rcases Bool.eq_false_or_eq_true (u5.Reg == 0) with hb13 | hb13
    · have hm := ctrue hb13 hm
      obtain ⟨u6, hx13, hm⟩ := bindS hm
      obtain ⟨b9, of6, cs6, k6, cp6, hv6, hp6, hl6, he6, hr6, hc6, hT6⟩ := (h6.mono (iT im9 (iT im10 (iT im11 (iT im12 (iT im13 (iT im14 (iT im15 im16)))))))).ixT hx13 rfl
      cases rSeat_open hr6
      refine qgT (d0 := 113) rfl rfl hb13 (qv (fun _ hq => r_ms rfl) (qgT (d0 := 113) rfl rfl hb13 (qv (fun _ hq => r_mi rfl) (qgT (d0 := 113) rfl rfl hb13 (qv (fun _ hq => r_ixe hv6 rfl underlying32 sizeOf44 hp6 hl6 he6) (qgT (d0 := 113) rfl rfl hb13 (qv (fun _ hq => r_fa rfl underlying44 rfl sizeOf3 rfl) (qgT (d0 := 113) rfl rfl hb13 (qv (fun _ hq => r_ld rfl isAgg3 (hq.cell (hc6.get (j := 1) rfl))) (qgT (d0 := 113) rfl rfl hb13 (qv (fun _ hq => r_ib rfl rfl rfl) (qgT (d0 := 102) rfl rfl hb12 (qv (fun _ hq => r_pkt rfl hb13 rfl) (qgT (d0 := 102) rfl rfl hb12 (qv (fun _ hq => r_bn rfl rfl underlying4) (qv (fun _ hq => r_pkf rfl hb12 rfl) (qn fun w14 T12 i1 => ?_)))))))))))))))))
      have im17 := i1.imm
      have hS17 := hS16.keep i1 (fun _ h => h)
      refine t_then ?_
      refine cnd rfl (fun hb14 => ?_) (fun hb14 => ?_)
      · have hm := ctrue hb14 hm
        refine sq2 (rg (pv (r_zb rfl) (nil (t_then ?_))))
        have hm := oI hm; subst hm
        have hn1 : _ = Lp.ret _ := hn1
        subst hn1
        have hm := thn_ret hq1
        have hm := oI hm; subst hm
        exact rtn (r_blk (r_then (r_then (r_blk (r_then (ret1 rfl rfl ⟨_, rfl, _, (iT im1 (iT im2 (iT im4 (iT im5 (iT im6 (iT im7 (iT im9 (iT im10 (iT im11 (iT im12 (iT im13 (iT im14 (iT im15 (iT im16 im17)))))))))))))), ⟨rfl, hS17.sel [1] rfl, trivial⟩⟩))))))
      have hm := cfalse hb14 hm
      refine skp (t_blk (t_then ?_))
      have hm := oI hm; subst hm
      exact rg (pv (r_mi rfl) (pv (r_ib rfl rfl rfl) (pv (r_zi rfl) (nil (t_then ⟨m1, Nat.lt_succ_self _, _, _, (IntKind.wrap .i64 (x1 + 1)), env_has ⟨rfl, rfl, rfl, rfl, rfl, trivial⟩, (iT im16 im17), hS17.sel [0, 1] rfl, hn1⟩)))))
    have hm := cfalse hb13 hm
    refine qgF (d0 := 113) rfl rfl (by rw [hb13]; rfl) (qgF (d0 := 113) rfl rfl (by rw [hb13]; rfl) (qgF (d0 := 113) rfl rfl (by rw [hb13]; rfl) (qgF (d0 := 113) rfl rfl (by rw [hb13]; rfl) (qgF (d0 := 113) rfl rfl (by rw [hb13]; rfl) (qgF (d0 := 113) rfl rfl (by rw [hb13]; rfl) (qgT (d0 := 102) rfl rfl hb12 (qv (fun _ hq => r_pkf rfl hb13 rfl) (qgT (d0 := 102) rfl rfl hb12 (qv (fun _ hq => r_bn rfl rfl underlying4) (qv (fun _ hq => r_pkf rfl hb12 rfl) (qn fun w15 T13 i2 => ?_)))))))))))
    have im18 := i2.imm
    have hS18 := hS16.keep i2 (fun _ h => h)
    refine t_then ?_
    refine cnd rfl (fun hb15 => ?_) (fun hb15 => ?_)
    · have hm := ctrue hb15 hm
      refine sq2 (rg (pv (r_zb rfl) (nil (t_then ?_))))
      have hm := oI hm; subst hm
      have hn1 : _ = Lp.ret _ := hn1
      subst hn1
      have hm := thn_ret hq1
      have hm := oI hm; subst hm
      exact rtn (r_blk (r_then (r_then (r_blk (r_then (ret1 rfl rfl ⟨_, rfl, _, (iT im1 (iT im2 (iT im4 (iT im5 (iT im6 (iT im7 (iT im9 (iT im10 (iT im11 (iT im12 (iT im13 (iT im14 (iT im15 (iT im16 im18)))))))))))))), ⟨rfl, hS18.sel [1] rfl, trivial⟩⟩))))))
    have hm := cfalse hb15 hm
    refine skp (t_blk (t_then ?_))
    have hm := oI hm; subst hm
    exact rg (pv (r_mi rfl) (pv (r_ib rfl rfl rfl) (pv (r_zi rfl) (nil (t_then ⟨m1, Nat.lt_succ_self _, _, _, (IntKind.wrap .i64 (x1 + 1)), env_has ⟨rfl, rfl, rfl, rfl, rfl, trivial⟩, (iT im16 im18), hS18.sel [0, 1] rfl, hn1⟩)))))
  have hm := cfalse hb11 hm
  have hm := oI hm; subst hm
  have hn1 : _ = Lp.brk _ := hn1
  subst hn1
  have hm := thn_brk hq1
  refine xt (x_then (x_then (x_eq (t_then ?_))))
  refine sq2 (rg (pv (r_zi rfl) (nil (t_then ?_))))
  refine sq2 (sq2 (rg (pv (r_zi rfl) (nil (t_then ?_)))))
  obtain ⟨o1, ho1, hq1⟩ := bindS hm
  obtain ⟨bd1, hbd1, ho1⟩ := loop_open ho1
  refine blk (wp_loop_ghost (fun m a w17 => ∃ (J : JV) (T15 : TP) (x2 : Int) (x3 : Int), a = env (nf 170) J [(8, sv a6 y3.1 c6), (13, sv a9 y7 c9), (15, iv x2), (16, iv x3)] ∧ Im T11 w13 T15 w17 ∧ Sep g T15 w17 [R] ∧ loopM bd1 m (x2, x3) = some o1) NN ⟨_, _, 0, 0, env_has ⟨rfl, rfl, rfl, rfl, trivial⟩, Im.refl, hS16.sel [1] rfl, ho1⟩ ?_)
  rintro m _ w17 ⟨J, T15, x2, x3, rfl, im20, hS20, ho1⟩
  obtain ⟨m1, z1, rfl, hm, hn1⟩ := loop_round ho1
  rw [hbd1] at hm
  refine sq2 (sq2 (rg (pv (r_mi rfl) (pv (r_ib rfl rfl rfl) (nil (t_then ?_))))))
  refine cnd rfl (fun hb17 => ?_) (fun hb17 => ?_)
  · have hm := ctrue hb17 hm
    refine skp (t_then ?_)
    obtain ⟨kk1, hkk1, hm⟩ := jn_open hm
    refine cut (fun a w18 => ∃ (J : JV) (T16 : TP) (x4 : Int), a = env (nf 170) J [(8, sv a6 y3.1 c6), (13, sv a9 y7 c9), (15, iv x4), (16, iv x3)] ∧ Im T15 w17 T16 w18 ∧ Sep g T16 w18 [R] ∧ kk1 x4 = some z1) ?_ ?_
    · refine blk (sq2 (rg (pv (r_zb rfl) (nil (t_then ?_)))))
      refine sq2 (sq2 (rg (pv (r_zi rfl) (nil (t_then ?_)))))
      obtain ⟨o2, ho2, hq2⟩ := bindS hm
      obtain ⟨bd2, hbd2, ho2⟩ := loop_open ho2
      refine blk (wp_loop_ghost (fun m a w19 => ∃ (J : JV) (T17 : TP) (x5 : Bool) (x6 : Int), a = env (nf 170) J [(8, sv a6 y3.1 c6), (13, sv a9 y7 c9), (15, iv x2), (16, iv x3), (17, .bool x5), (18, iv x6)] ∧ Im T15 w17 T17 w19 ∧ Sep g T17 w19 [R] ∧ loopM bd2 m (x5, x6) = some o2) NN ⟨_, _, false, 0, env_has ⟨rfl, rfl, rfl, rfl, rfl, rfl, trivial⟩, Im.refl, hS20.sel [0] rfl, ho2⟩ ?_)
      rintro m _ w19 ⟨J, T17, x5, x6, rfl, im22, hS21, ho2⟩
      obtain ⟨m2, z2, rfl, hm, hn2⟩ := loop_round ho2
      rw [hbd2] at hm
      refine sq2 (sq2 (rg (pv (r_mi rfl) (pv (r_ms rfl) (pv (r_ln rfl underlying32) (pv (r_ib rfl rfl rfl) (nil (t_then ?_))))))))
      refine cnd rfl (fun hb18 => ?_) (fun hb18 => ?_)
      · have hm := ctrue hb18 hm
        refine skp (t_then ?_)
        refine sq2 (blk (rs [0, 0, 0, 0, 0, 0, 1, 0, 2, 0, 0, 0] [0, 1, 2, 3, 4, 5, 6, 7, 8, 9, 10, 11] mix (by kernel_rfl) hS21.lt fun w20 i4 => ?_))
        have im23 := i4.imm
        have hS22 := hS21.keep i4 (fun _ h => h)
        refine s0 rfl trivial (fun _ => r_mb rfl) rfl (s0 rfl trivial (fun _ => r_mb rfl) rfl (?_))
        rcases Bool.eq_false_or_eq_true x5 with hb19 | hb19
        · have hm := ctrue hb19 hm
          refine sU rfl (gI rfl rfl hb19) (sU rfl (gI rfl rfl hb19) (sU rfl (gI rfl rfl hb19) (sU rfl (gI rfl rfl hb19) (sU rfl (gI rfl rfl hb19) (sU rfl (gI rfl rfl hb19) (sU rfl (gI rfl rfl hb19) (sU rfl (gI rfl rfl hb19) (s0 rfl trivial (fun _ => r_pkt rfl hb19 rfl) rfl (s0 rfl trivial (fun _ => r_zb rfl) rfl (se (t_blk (t_then ?_))))))))))))
          have hm := oI hm; subst hm
          exact rg (pv (r_mi rfl) (pv (r_ib rfl rfl rfl) (pv (r_zi rfl) (nil (t_then ⟨m2, Nat.lt_succ_self _, _, _, true, (IntKind.wrap .i64 (x6 + 1)), env_has ⟨rfl, rfl, rfl, rfl, rfl, rfl, trivial⟩, (iT im22 im23), hS22.sel [0] rfl, hn2⟩)))))
        have hm := cfalse hb19 hm
        obtain ⟨u7, hx14, hm⟩ := bindS hm
        obtain ⟨b10, of7, cs7, k7, cp7, hv7, hp7, hl7, he7, hr7, hc7, hT7⟩ := (h6.mono (iT im9 (iT im10 (iT im11 (iT im12 (iT im13 (iT im14 (iT im15 (iT im16 (iT im20 (iT im22 im23))))))))))).ixT hx14 rfl
        cases rSeat_open hr7
        obtain ⟨y8, hx15, hm⟩ := bindS hm
        refine s0 rfl ⟨_, rfl, congrArg Value.bool hb19⟩ (fun _ => r_ms rfl) rfl (s0 rfl ⟨_, rfl, congrArg Value.bool hb19⟩ (fun _ => r_mi rfl) rfl (s0 rfl ⟨_, rfl, congrArg Value.bool hb19⟩ (fun _ => r_ixe hv7 rfl underlying32 sizeOf44 hp7 hl7 he7) rfl (s0 rfl ⟨_, rfl, congrArg Value.bool hb19⟩ (fun _ => r_fa rfl underlying44 rfl sizeOf3 rfl) rfl (s1 rfl ⟨_, rfl, congrArg Value.bool hb19⟩ (r_ld rfl isAgg3 (hc7.get (j := 0) rfl)) rfl (s0 rfl ⟨_, rfl, congrArg Value.bool hb19⟩ (fun _ => r_mi rfl) rfl (s2 [(6, iv u7.Reg)] rfl ⟨_, rfl, congrArg Value.bool hb19⟩ rfl (by kernel_rfl) (calS cf10 rfl (ref24_Name_sim (p0 := x3) (hS22.bun [0] [] rfl)  hx15) rfl fun v8 T18 w21 im24 rv8 => ?_)))))))
        obtain ⟨rfl, hS23, _⟩ := rv8
        have hS23 := hS23.unb
        refine ⟨st1 rfl (r_ld rfl isAgg3 ((hc7.same (im24 b10 hT7).2).get (j := 0) rfl)) (st0), ?_⟩
        refine s0 rfl ⟨_, rfl, congrArg Value.bool hb19⟩ (fun _ => r_ib rfl rfl rfl) rfl (s0 rfl trivial (fun _ => r_pkf rfl hb19 rfl) rfl (s0 rfl trivial (fun _ => r_zb rfl) rfl (se (t_blk (t_then ?_)))))
        have hm := oI hm; subst hm
        exact rg (pv (r_mi rfl) (pv (r_ib rfl rfl rfl) (pv (r_zi rfl) (nil (t_then ⟨m2, Nat.lt_succ_self _, _, _, (u7.Reg == y8), (IntKind.wrap .i64 (x6 + 1)), env_has ⟨rfl, rfl, rfl, rfl, rfl, rfl, trivial⟩, (iT im22 (iT im23 im24)), hS23.sel [0] rfl, hn2⟩)))))
      have hm := cfalse hb18 hm
      have hm := oI hm; subst hm
      have hn2 : _ = Lp.brk _ := hn2
      subst hn2
      have hm := thn_brk hq2
      refine xt (x_then (x_then (x_eq (t_then ?_))))
      refine sq2 (sq2 (rs [0, 0, 0, 0, 0, 0, 0, 0, 0, 0, 1, 0, 2, 0, 0, 0] [0, 1, 2, 3, 4, 5, 6, 7, 8, 9, 10, 11, 12, 13, 14, 15] mix (by kernel_rfl) hS21.lt fun w22 i5 => ?_))
      have im25 := i5.imm
      have hS24 := hS21.keep i5 (fun _ h => h)
      refine s0 rfl trivial (fun _ => r_mb rfl) rfl (s0 rfl trivial (fun _ => r_mb rfl) rfl (?_))
      rcases Bool.eq_false_or_eq_true x5 with hb20 | hb20
      · have hm := ctrue hb20 hm
        refine s0 rfl ⟨_, rfl, congrArg Value.bool hb20⟩ (fun _ => r_mi rfl) rfl (s0 rfl ⟨_, rfl, congrArg Value.bool hb20⟩ (fun _ => r_ms rfl) rfl (s0 rfl ⟨_, rfl, congrArg Value.bool hb20⟩ (fun _ => r_ln rfl underlying41) rfl (s0 rfl ⟨_, rfl, congrArg Value.bool hb20⟩ (fun _ => r_ib rfl rfl rfl) rfl (s0 rfl ⟨_, rfl, congrArg Value.bool hb20⟩ (fun _ => r_mb rfl) rfl (?_)))))
        rcases Bool.eq_false_or_eq_true (decide ((List.length y7 : Int) ≤ x2)) with hb21 | hb21
        · have hm := ctrue hb21 hm
          refine sU rfl (gI rfl rfl hb21) (sU rfl (gI rfl rfl hb21) (sU rfl (gI rfl rfl hb21) (sU rfl (gI rfl rfl hb21) (sU rfl (gI rfl rfl hb21) (sU rfl (gI rfl rfl hb21) (sU rfl (gI rfl rfl hb21) (s0 rfl ⟨_, rfl, congrArg Value.bool hb20⟩ (fun _ => r_pkt rfl hb21 rfl) rfl (s0 rfl trivial (fun _ => r_pkt rfl hb20 rfl) rfl (se (t_then ?_))))))))))
          refine cnd (b := true) rfl (fun _ => ?_) (fun h => nomatch h)
          refine sq2 (rg (pv (r_zb rfl) (nil (t_then ?_))))
          have hm := oI hm; subst hm
          have hn1 : _ = Lp.ret _ := hn1
          subst hn1
          have hm := thn_ret hq1
          have hm := oI hm; subst hm
          exact rtn (r_then (r_blk (r_then (r_then (r_blk (r_then (ret1 rfl rfl ⟨_, rfl, _, (iT im1 (iT im2 (iT im4 (iT im5 (iT im6 (iT im7 (iT im9 (iT im10 (iT im11 (iT im12 (iT im13 (iT im14 (iT im15 (iT im16 (iT im20 (iT im22 im25)))))))))))))))), ⟨rfl, hS24.sel [0] rfl, trivial⟩⟩)))))))
        have hm := cfalse hb21 hm
        obtain ⟨u8, hx16, hm⟩ := bindS hm
        obtain ⟨b11, of8, cs8, k8, cp8, hv8, hp8, hl8, he8, hr8, hc8, hT8⟩ := (h9.mono (iT im16 (iT im20 (iT im22 im25)))).ixT hx16 rfl
        cases hr8
        obtain ⟨y9, hx17, hm⟩ := bindS hm
        refine s0 rfl ⟨_, rfl, congrArg Value.bool hb21⟩ (fun _ => r_ms rfl) rfl (s0 rfl ⟨_, rfl, congrArg Value.bool hb21⟩ (fun _ => r_mi rfl) rfl (s0 rfl ⟨_, rfl, congrArg Value.bool hb21⟩ (fun _ => r_ixe hv8 rfl underlying41 sizeOf3 hp8 hl8 he8) rfl (s1 rfl ⟨_, rfl, congrArg Value.bool hb21⟩ (r_ld rfl isAgg3 (hc8.get (j := 0) rfl)) rfl (s0 rfl ⟨_, rfl, congrArg Value.bool hb21⟩ (fun _ => r_mi rfl) rfl (s2 [(10, iv u8)] rfl ⟨_, rfl, congrArg Value.bool hb21⟩ rfl (by kernel_rfl) (calS cf10 rfl (ref24_Name_sim (p0 := x3) (hS24.bun [0] [] rfl)  hx17) rfl fun v9 T19 w23 im26 rv9 => ?_))))))
        obtain ⟨rfl, hS25, _⟩ := rv9
        have hS25 := hS25.unb
        refine ⟨st1 rfl (r_ld rfl isAgg3 ((hc8.same (im26 b11 hT8).2).get (j := 0) rfl)) (st0), ?_⟩
        refine s0 rfl ⟨_, rfl, congrArg Value.bool hb21⟩ (fun _ => r_ib rfl rfl rfl) rfl (s0 rfl ⟨_, rfl, congrArg Value.bool hb20⟩ (fun _ => r_pkf rfl hb21 rfl) rfl (s0 rfl trivial (fun _ => r_pkt rfl hb20 rfl) rfl (se (t_then ?_))))
        refine cnd rfl (fun hb22 => ?_) (fun hb22 => ?_)
        · have hm := ctrue hb22 hm
          refine sq2 (rg (pv (r_zb rfl) (nil (t_then ?_))))
          have hm := oI hm; subst hm
          have hn1 : _ = Lp.ret _ := hn1
          subst hn1
          have hm := thn_ret hq1
          have hm := oI hm; subst hm
          exact rtn (r_then (r_blk (r_then (r_then (r_blk (r_then (ret1 rfl rfl ⟨_, rfl, _, (iT im1 (iT im2 (iT im4 (iT im5 (iT im6 (iT im7 (iT im9 (iT im10 (iT im11 (iT im12 (iT im13 (iT im14 (iT im15 (iT im16 (iT im20 (iT im22 (iT im25 im26))))))))))))))))), ⟨rfl, hS25.sel [0] rfl, trivial⟩⟩)))))))
        have hm := cfalse hb22 hm
        refine skp (t_then ?_)
        refine sq2 (rg (pv (r_mb rfl) (nil (t_then ?_))))
        refine cnd rfl (fun hb23 => ?_) (fun hb23 => ?_)
        · have hm := ctrue hb23 hm
          exact rg (pv (r_mi rfl) (pv (r_ib rfl rfl rfl) (pv (r_zi rfl) (nil (t_blk (t_then ⟨_, _, (IntKind.wrap .i64 (x2 + 1)), env_has ⟨rfl, rfl, rfl, rfl, trivial⟩, (iT im22 (iT im25 im26)), hS25.sel [0] rfl, hm⟩))))))
        have hm := cfalse hb23 hm
        exact skp (t_blk (t_then ⟨_, _, x2, env_has ⟨rfl, rfl, rfl, rfl, trivial⟩, (iT im22 (iT im25 im26)), hS25.sel [0] rfl, hm⟩))
      have hm := cfalse hb20 hm
      refine sU rfl (gI rfl rfl hb20) (sU rfl (gI rfl rfl hb20) (sU rfl (gI rfl rfl hb20) (sU rfl (gI rfl rfl hb20) (sU rfl (gI rfl rfl hb20) (sU rfl ⟨_, rfl, .inr rfl⟩ (sU rfl ⟨_, rfl, .inr rfl⟩ (sU rfl ⟨_, rfl, .inr rfl⟩ (sU rfl ⟨_, rfl, .inr rfl⟩ (sU rfl ⟨_, rfl, .inr rfl⟩ (sU rfl ⟨_, rfl, .inr rfl⟩ (sU rfl ⟨_, rfl, .inr rfl⟩ (sU rfl (gI rfl rfl hb20) (s0 rfl trivial (fun _ => r_pkf rfl hb20 rfl) rfl (se (t_then ?_)))))))))))))))
      refine cnd (b := false) rfl (fun h => nomatch h) (fun _ => ?_)
      refine skp (t_then ?_)
      refine sq2 (rg (pv (r_mb rfl) (nil (t_then ?_))))
      refine cnd rfl (fun hb26 => ?_) (fun hb26 => ?_)
      · have hm := ctrue hb26 hm
        exact rg (pv (r_mi rfl) (pv (r_ib rfl rfl rfl) (pv (r_zi rfl) (nil (t_blk (t_then ⟨_, _, (IntKind.wrap .i64 (x2 + 1)), env_has ⟨rfl, rfl, rfl, rfl, trivial⟩, (iT im22 im25), hS24.sel [0] rfl, hm⟩))))))
      have hm := cfalse hb26 hm
      exact skp (t_blk (t_then ⟨_, _, x2, env_has ⟨rfl, rfl, rfl, rfl, trivial⟩, (iT im22 im25), hS24.sel [0] rfl, hm⟩))
    rintro _ w18 ⟨J, T16, x4, rfl, im21, hS26, hm⟩
    rw [hkk1] at hm
    have hm := oI hm; subst hm
    exact rg (pv (r_mi rfl) (pv (r_ib rfl rfl rfl) (pv (r_zi rfl) (nil (t_then ⟨m1, Nat.lt_succ_self _, _, _, x4, (IntKind.wrap .i64 (x3 + 1)), env_has ⟨rfl, rfl, rfl, rfl, trivial⟩, (iT im20 im21), hS26.sel [0] rfl, hn1⟩)))))
  have hm := cfalse hb17 hm
  have hm := oI hm; subst hm
  have hn1 : _ = Lp.brk _ := hn1
  subst hn1
  have hm := thn_brk hq1
  refine xt (x_then (x_then (x_eq (t_then ?_))))
  refine sq2 ?_
  obtain ⟨y10, hx18, hm⟩ := bindS hm
  refine rg (wl rfl (calS cf5 rfl (law24_awake_sim  (hS20.bun [0] [] rfl)  hx18) rfl fun v10 T20 w24 im27 rv10 => ?_))
  obtain ⟨rfl, hS27, _⟩ := rv10
  have hS27 := hS27.unb
  refine pv (r_mb rfl) (?_)
  rcases Bool.eq_false_or_eq_true y10 with hb27 | hb27
  · have hm := ctrue hb27 hm
    refine gT (d0 := 164) rfl rfl hb27 (pv (r_mi rfl) (gT (d0 := 164) rfl rfl hb27 (pv (r_ms rfl) (gT (d0 := 164) rfl rfl hb27 (pv (r_ln rfl underlying41) (gT (d0 := 164) rfl rfl hb27 (pv (r_ib rfl rfl rfl) (pv (r_pkt rfl hb27 rfl) (pv (r_zb rfl) (nil (t_then ?_)))))))))))
    have hm := oI hm; subst hm
    exact rtn (ret1 rfl rfl ⟨_, rfl, _, (iT im1 (iT im2 (iT im4 (iT im5 (iT im6 (iT im7 (iT im9 (iT im10 (iT im11 (iT im12 (iT im13 (iT im14 (iT im15 (iT im16 (iT im20 im27))))))))))))))), ⟨rfl, hS27.sel [0] rfl, trivial⟩⟩)
  have hm := cfalse hb27 hm
  refine gF (d0 := 164) rfl rfl (by rw [hb27]; rfl) (gF (d0 := 164) rfl rfl (by rw [hb27]; rfl) (gF (d0 := 164) rfl rfl (by rw [hb27]; rfl) (gF (d0 := 164) rfl rfl (by rw [hb27]; rfl) (pv (r_pkf rfl hb27 rfl) (pv (r_zb rfl) (nil (t_then ?_)))))))
  have hm := oI hm; subst hm
  exact rtn (ret1 rfl rfl ⟨_, rfl, _, (iT im1 (iT im2 (iT im4 (iT im5 (iT im6 (iT im7 (iT im9 (iT im10 (iT im11 (iT im12 (iT im13 (iT im14 (iT im15 (iT im16 (iT im20 im27))))))))))))))), ⟨rfl, hS27.sel [0] rfl, trivial⟩⟩)
end Go.Proofs.YteoihjfnojgnnaaGreat
