/- That Go functions compute their models. Printed by gen2.py. -/
import Derived.Test.YteoihjfnojgnnaaGreatWa
set_option linter.unusedVariables false
namespace Go.Proofs.YteoihjfnojgnnaaGreat
open _root_.Go.Proofs.Tryz
set_option maxRecDepth 100000
set_option maxHeartbeats 1000000
attribute [local irreducible] wpList wpQuiet Code.wp
variable {g : World} {T0 : Nat → Prop} {w0 : World} {R : Assn}

theorem flow_outs_1_sim {p0 : Int} {p1 : Proc} {b_p1 o_p1 : Nat} {H_p1 : List Value → Assn} {a1 : OA} {c1 : Nat} {a2 : OA} {c2 : Nat} {r : Bool} (hS : Sep g T0 w0 [R, H_p1 (cProc p1 a1 c1 a2 c2)]) (hL_p1 : Ln b_p1 o_p1 H_p1) (h1 : SlR rGSlot T0 w0 (sv a1 p1.Objects c1) p1.Objects) (h2 : SlR rGBlock T0 w0 (sv a2 p1.Blocks c2) p1.Blocks) (hm : flow_outs_1 p0 p1 = some r) :
    Calls Tryz.prog 80 #[iv p0, pt b_p1 o_p1] w0 (RetS T0 w0 fun T w v => v = .bool r ∧ Sep g T w [R, H_p1 (cProc p1 a1 c1 a2 c2)] ∧ True) := by
  refine enter (args := [iv p0, pt b_p1 o_p1]) Tryz.func80 rfl Tryz.ntmps80 rfl fun J => ?_
  unfold flow_outs_1 at hm
  refine sq2 (rg (pv (r_zb rfl) (nil (t_then ?_))))
  refine sq2 (rg (pv (r_mi rfl) (pv (r_ib rfl rfl rfl) (pv (r_mb rfl) (?_)))))
  rcases Bool.eq_false_or_eq_true (decide (p0 < 0)) with hb1 | hb1
  · have hm := ctrue hb1 hm
    refine gF (d0 := 6) rfl rfl (by rw [hb1]; rfl) (gF (d0 := 6) rfl rfl (by rw [hb1]; rfl) (gF (d0 := 6) rfl rfl (by rw [hb1]; rfl) (gF (d0 := 6) rfl rfl (by rw [hb1]; rfl) (gF (d0 := 6) rfl rfl (by rw [hb1]; rfl) (pv (r_pkt rfl hb1 rfl) (pv (r_zb rfl) (nil (t_then ?_))))))))
    have hm := oI hm; subst hm
    exact rtn (ret1 rfl rfl ⟨_, rfl, _, Im.refl, ⟨rfl, hS.sel [0, 1] rfl, trivial⟩⟩)
  have hm := cfalse hb1 hm
  refine gT (d0 := 6) rfl rfl hb1 (pv (r_mi rfl) (gT (d0 := 6) rfl rfl hb1 (pv (r_fa rfl underlying31 rfl sizeOf29 rfl) (gT (d0 := 6) rfl rfl hb1 (pv (r_ld rfl isAgg29 (hS.cellB (i := 1) ⟨rfl, rfl⟩ hL_p1 (j := 5) rfl)) (gT (d0 := 6) rfl rfl hb1 (pv (r_ln rfl underlying29) (gT (d0 := 6) rfl rfl hb1 (pv (r_ib rfl rfl rfl) (pv (r_pkf rfl hb1 rfl) (pv (r_zb rfl) (nil (t_then ?_)))))))))))))
  have hm := oI hm; subst hm
  exact rtn (ret1 rfl rfl ⟨_, rfl, _, Im.refl, ⟨rfl, hS.sel [0, 1] rfl, trivial⟩⟩)

theorem slices_IndexFunc_sim {p0 : List Int} {v_p0 : Value} {H_p0 : Assn} {p1 : Proc} {b_p1 o_p1 : Nat} {H_p1 : List Value → Assn} {a1 : OA} {c1 : Nat} {a2 : OA} {c2 : Nat} {r : Int} (hS : Sep g T0 w0 [R, H_p0, H_p1 (cProc p1 a1 c1 a2 c2)]) (hV_p0 : Vw H_p0 (rInt .i64) v_p0 p0) (hL_p1 : Ln b_p1 o_p1 H_p1) (h1 : SlR rGSlot T0 w0 (sv a1 p1.Objects c1) p1.Objects) (h2 : SlR rGBlock T0 w0 (sv a2 p1.Blocks c2) p1.Blocks) (hm : slices_IndexFunc p0 p1 = some r) :
    Calls Tryz.prog 95 #[v_p0, .func (.func 80) #[] #[pt b_p1 o_p1]] w0 (RetS T0 w0 fun T w v => v = iv r ∧ Sep g T w [R, H_p0, H_p1 (cProc p1 a1 c1 a2 c2)] ∧ True) := by
  refine enter (args := [v_p0, .func (.func 80) #[] #[pt b_p1 o_p1]]) Tryz.func95 rfl Tryz.ntmps95 rfl fun J => ?_
  unfold slices_IndexFunc at hm
  refine sq2 (rg (pv (r_zi rfl) (nil (t_then ?_))))
  refine sq2 (sq2 (rg (pv (r_mx (v := v_p0) rfl) (pv (r_lnV rfl (hS.view (i := 1) ⟨rfl, rfl⟩ hV_p0) underlying41) (pv (r_mi rfl) (nil (t_then ?_)))))))
  obtain ⟨o1, ho1, hq1⟩ := bindS hm
  obtain ⟨bd1, hbd1, ho1⟩ := loop_open ho1
  refine blk (wp_loop_ghost (fun m a w1 => ∃ (J : JV) (T1 : TP) (x1 : Int), a = env (nf 19) J [(0, v_p0), (1, .func (.func 80) #[] #[pt b_p1 o_p1]), (7, iv (List.length p0 : Int)), (8, iv x1)] ∧ Im T0 w0 T1 w1 ∧ Sep g T1 w1 [R, H_p0, H_p1 (cProc p1 a1 c1 a2 c2)] ∧ loopM bd1 m x1 = some o1) NN ⟨_, _, 0, env_has ⟨rfl, rfl, rfl, rfl, trivial⟩, Im.refl, hS.sel [0, 1, 2] rfl, ho1⟩ ?_)
  rintro m _ w1 ⟨J, T1, x1, rfl, im1, hS1, ho1⟩
  obtain ⟨m1, z1, rfl, hm, hn1⟩ := loop_round ho1
  rw [hbd1] at hm
  refine sq2 (rg (pv (r_ib rfl rfl rfl) (nil (t_then ?_))))
  refine sq2 (cnd rfl (fun hb1 => ?_) (fun hb1 => ?_))
  · have hm := ctrue hb1 hm
    refine skp (t_then ?_)
    refine sq2 (blk (sq2 (rg (pv (r_mi rfl) (pv (r_zi rfl) (nil (t_then ?_)))))))
    refine sq2 ?_
    obtain ⟨u1, hx1, hm⟩ := bindS hm
    obtain ⟨b1, of1, cs1, k1, cp1, hv1, hp1, hl1, he1, hr1, hc1⟩ := (hS1.view (i := 1) ⟨rfl, rfl⟩ hV_p0).ixq hx1 rfl
    cases hr1
    obtain ⟨y1, hx2, hm⟩ := bindS hm
    refine rg (pv (r_mf rfl) (pv (r_mx (v := v_p0) rfl) (pv (r_mi rfl) (pv (r_ixe hv1 rfl underlying41 sizeOf3 hp1 hl1 he1) (pv (r_ld rfl isAgg3 (hc1.get (j := 0) rfl)) (wl rfl (calS cf80 rfl (flow_outs_1_sim (p0 := u1) (p1 := p1) (H_p1 := H_p1) (hS1.bun [0, 1] [2] rfl) hL_p1 (h1.mono im1) (h2.mono im1) hx2) rfl fun v1 T2 w2 im2 rv1 => ?_)))))))
    obtain ⟨rfl, hS2, _⟩ := rv1
    have hS2 := hS2.unb
    refine nil (t_then ?_)
    refine cnd rfl (fun hb2 => ?_) (fun hb2 => ?_)
    · have hm := ctrue hb2 hm
      refine sq2 (rg (pv (r_mi rfl) (pv (r_zi rfl) (nil (t_then ?_)))))
      have hm := oI hm; subst hm
      have hn1 : _ = Lp.ret _ := hn1
      subst hn1
      have hm := thn_ret hq1
      have hm := oI hm; subst hm
      exact rtn (r_blk (r_then (r_then (r_blk (r_then (ret1 rfl rfl ⟨_, rfl, _, (iT im1 im2), ⟨rfl, hS2.sel [0, 1, 2] rfl, trivial⟩⟩))))))
    have hm := cfalse hb2 hm
    refine skp (t_blk (t_then ?_))
    have hm := oI hm; subst hm
    exact rg (pv (r_ib rfl rfl rfl) (pv (r_mi rfl) (nil (t_then ⟨m1, Nat.lt_succ_self _, _, _, (IntKind.wrap .i64 (x1 + 1)), env_has ⟨rfl, rfl, rfl, rfl, trivial⟩, (iT im1 im2), hS2.sel [0, 1, 2] rfl, hn1⟩))))
  have hm := cfalse hb1 hm
  have hm := oI hm; subst hm
  have hn1 : _ = Lp.brk _ := hn1
  subst hn1
  have hm := thn_brk hq1
  refine xt (x_then (x_then (x_eq (t_then ?_))))
  refine sq2 (rg (pv (r_zi rfl) (nil (t_then ?_))))
  have hm := oI hm; subst hm
  exact rtn (ret1 rfl rfl ⟨_, rfl, _, im1, ⟨rfl, hS1.sel [0, 1, 2] rfl, trivial⟩⟩)

theorem slices_DeleteFunc_sim {p0 : List Int} {a1 : OA} {n1 : Nat} {c1 : Nat} {p1 : Proc} {b_p1 o_p1 : Nat} {H_p1 : List Value → Assn} {a2 : OA} {c2 : Nat} {a3 : OA} {c3 : Nat} {r : (List Int)} (hS : Sep g T0 w0 [R, ownA (rInt .i64) 3 (.slice a1 n1 c1) p0, H_p1 (cProc p1 a2 c2 a3 c3)]) (hL_p1 : Ln b_p1 o_p1 H_p1) (h1 : SlR rGSlot T0 w0 (sv a2 p1.Objects c2) p1.Objects) (h2 : SlR rGBlock T0 w0 (sv a3 p1.Blocks c3) p1.Blocks) (hm : slices_DeleteFunc p0 p1 = some r) :
    Calls Tryz.prog 78 #[.slice a1 n1 c1, .func (.func 80) #[] #[pt b_p1 o_p1]] w0 (RetS T0 w0 fun T w v => ∃ (a7 : OA) (n5 : Nat) (c7 : Nat), v = .slice a7 n5 c7 ∧ Sep g T w [R, H_p1 (cProc p1 a2 c2 a3 c3), ownA (rInt .i64) 3 (.slice a7 n5 c7) r] ∧ True) := by
  refine enter (args := [.slice a1 n1 c1, .func (.func 80) #[] #[pt b_p1 o_p1]]) Tryz.func78 rfl Tryz.ntmps78 rfl fun J => ?_
  unfold slices_DeleteFunc at hm
  refine sq2 (rg (pv (r_zs rfl) (nil (t_then ?_))))
  refine sq2 ?_
  obtain ⟨y1, hx1, hm⟩ := bindS hm
  refine rg (pv (r_ms rfl) (pv (r_mf rfl) (wl rfl (calS cf95 rfl (slices_IndexFunc_sim (p0 := p0) (H_p0 := ownA (rInt .i64) 3 (.slice a1 n1 c1) p0) (p1 := p1) (H_p1 := H_p1) (hS.bun [0] [1, 2] rfl) vwOwn hL_p1 h1 h2 hx1) rfl fun v1 T1 w1 im1 rv1 => ?_))))
  obtain ⟨rfl, hS1, _⟩ := rv1
  have hS1 := hS1.unb
  refine pv (r_zi rfl) (nil (t_then ?_))
  refine sq2 (sq2 (rg (pv (r_mi rfl) (pv (r_ib rfl rfl rfl) (nil (t_then ?_))))))
  refine cnd rfl (fun hb1 => ?_) (fun hb1 => ?_)
  · have hm := ctrue hb1 hm
    refine sq2 (rg (pv (r_ms rfl) (pv (r_zs rfl) (nil (t_then ?_)))))
    have hm := oI hm; subst hm
    exact rtn (r_then (ret1 rfl rfl ⟨_, rfl, _, im1, ⟨_, _, _, rfl, hS1.sel [0, 2, 1] rfl, trivial⟩⟩))
  have hm := cfalse hb1 hm
  refine skp (t_then ?_)
  refine sq2 (sq2 (rg (pv (r_mi rfl) (pv (r_ib rfl rfl rfl) (pv (r_zi rfl) (nil (t_then ?_)))))))
  obtain ⟨o1, ho1, hq1⟩ := bindS hm
  obtain ⟨bd1, hbd1, ho1⟩ := loop_open ho1
  refine blk (wp_loop_ghost (fun m a w2 => ∃ (J : JV) (T2 : TP) (x1 : List Int) (a4 : OA) (n2 : Nat) (c4 : Nat) (x2 : Int) (x3 : Int), a = env (nf 42) J [(0, .slice a4 n2 c4), (1, .func (.func 80) #[] #[pt b_p1 o_p1]), (5, iv x2), (6, iv x3)] ∧ Im T1 w1 T2 w2 ∧ Sep g T2 w2 [R, ownA (rInt .i64) 3 (.slice a4 n2 c4) x1, H_p1 (cProc p1 a2 c2 a3 c3)] ∧ loopM bd1 m (x1, x2, x3) = some o1) NN ⟨_, _, p0, _, _, _, y1, (IntKind.wrap .i64 (y1 + 1)), env_has ⟨rfl, rfl, rfl, rfl, trivial⟩, Im.refl, hS1.sel [0, 1, 2] rfl, ho1⟩ ?_)
  rintro m _ w2 ⟨J, T2, x1, a4, n2, c4, x2, x3, rfl, im2, hS2, ho1⟩
  obtain ⟨m1, z1, rfl, hm, hn1⟩ := loop_round ho1
  rw [hbd1] at hm
  refine sq2 (sq2 (rg (pv (r_mi rfl) (pv (r_ms rfl) (pv (r_lnV rfl (hS2.own (i := 1) ⟨rfl, rfl⟩).v underlying41) (pv (r_ib rfl rfl rfl) (nil (t_then ?_))))))))
  refine cnd rfl (fun hb2 => ?_) (fun hb2 => ?_)
  · have hm := ctrue hb2 hm
    refine skp (t_then ?_)
    obtain ⟨kk1, hkk1, hm⟩ := jn_open hm
    refine cut (fun a w3 => ∃ (J : JV) (T3 : TP) (x4 : List Int) (a5 : OA) (n3 : Nat) (c5 : Nat) (x5 : Int), a = env (nf 42) J [(0, .slice a5 n3 c5), (1, .func (.func 80) #[] #[pt b_p1 o_p1]), (5, iv x5), (6, iv x3)] ∧ Im T2 w2 T3 w3 ∧ Sep g T3 w3 [R, ownA (rInt .i64) 3 (.slice a5 n3 c5) x4, H_p1 (cProc p1 a2 c2 a3 c3)] ∧ kk1 x4 x5 = some z1) ?_ ?_
    · refine blk (sq2 ?_)
      obtain ⟨u1, hx2, hm⟩ := bindS hm
      obtain ⟨b1, of1, cs1, k1, cp1, hv1, hp1, hl1, he1, hr1, hc1⟩ := (hS2.own (i := 1) ⟨rfl, rfl⟩).v.ixq hx2 rfl
      cases hr1
      refine rg (pv (r_ms rfl) (pv (r_mi rfl) (pv (r_ixe hv1 rfl underlying41 sizeOf3 hp1 hl1 he1) (pv (r_ld rfl isAgg3 (hc1.get (j := 0) rfl)) (pv (r_zi rfl) (nil (t_then ?_)))))))
      refine sq2 ?_
      obtain ⟨y2, hx3, hm⟩ := bindS hm
      refine rg (pv (r_mf rfl) (pv (r_mi rfl) (wl rfl (calS cf80 rfl (flow_outs_1_sim (p0 := u1) (p1 := p1) (H_p1 := H_p1) (hS2.bun [0, 1] [2] rfl) hL_p1 (h1.mono (iT im1 im2)) (h2.mono (iT im1 im2)) hx3) rfl fun v2 T4 w4 im4 rv2 => ?_))))
      obtain ⟨rfl, hS3, _⟩ := rv2
      have hS3 := hS3.unb
      refine pv (r_nt rfl) (nil (t_then ?_))
      refine cnd rfl (fun hb3 => ?_) (fun hb3 => ?_)
      · have hm := ctrue hb3 hm
        refine sq2 ?_
        obtain ⟨u2, hx4, hm⟩ := bindS hm
        obtain ⟨b2, of2, cs2, k2, cp2, hv2, hp2, hl2, he2, hr2, hc2⟩ := (hS3.own (i := 1) ⟨rfl, rfl⟩).v.ixq hx4 rfl
        cases hr2
        obtain ⟨u3, hx5, hm⟩ := bindS hm
        refine rg (pv (r_ms rfl) (pv (r_mi rfl) (pv (r_mi rfl) (pv (r_ixe hv2 rfl underlying41 sizeOf3 hp2 hl2 he2) (wl rfl (stO (q := 1) (i := Int.toNat x2) (j := 0) (u := u3) (u' := u1) hS3 ⟨rfl, rfl⟩ hv2 (idx_some hx5).2.2 he2 rfl rfl rfl sizeOf3 rfl rfl rfl (fun c0 hc0 => by rw [storeL_all (r := (rInt .i64)) hc0 rfl]; exact rfl) fun w5 im5 hS4 => ?_))))))
        refine nil (t_then ?_)
        exact rg (pv (r_mi rfl) (pv (r_ib rfl rfl rfl) (pv (r_zi rfl) (nil (t_blk (t_then ⟨_, _, (List.set x1 (Int.toNat x2) u1), _, _, _, (IntKind.wrap .i64 (x2 + 1)), env_has ⟨rfl, rfl, rfl, rfl, trivial⟩, (iT im4 im5), hS4.sel [0, 1, 2] rfl, hm⟩))))))
      have hm := cfalse hb3 hm
      exact skp (t_blk (t_then ⟨_, _, x1, _, _, _, x2, env_has ⟨rfl, rfl, rfl, rfl, trivial⟩, im4, hS3.sel [0, 1, 2] rfl, hm⟩))
    rintro _ w3 ⟨J, T3, x4, a5, n3, c5, x5, rfl, im3, hS5, hm⟩
    rw [hkk1] at hm
    have hm := oI hm; subst hm
    exact rg (pv (r_mi rfl) (pv (r_ib rfl rfl rfl) (pv (r_zi rfl) (nil (t_then ⟨m1, Nat.lt_succ_self _, _, _, x4, _, _, _, x5, (IntKind.wrap .i64 (x3 + 1)), env_has ⟨rfl, rfl, rfl, rfl, trivial⟩, (iT im2 im3), hS5.sel [0, 1, 2] rfl, hn1⟩)))))
  have hm := cfalse hb2 hm
  have hm := oI hm; subst hm
  have hn1 : _ = Lp.brk _ := hn1
  subst hn1
  have hm := thn_brk hq1
  refine xt (x_then (x_then (x_eq (t_then ?_))))
  refine sq2 (rg (pv (r_ms rfl) (pv (r_mi rfl) (?_))))
  obtain ⟨u4, hx6, hm⟩ := bindS hm
  refine pv (r_slV (v := Value.slice (if c4 = Int.toNat x2 then a4 else Option.map (fun z => z.add ((Int.toNat x2) * 1)) a4) (List.length x1 - Int.toNat x2) (c4 - Int.toNat x2)) rfl (hS2.own (i := 1) ⟨rfl, rfl⟩).v ⟨_, rfl⟩ rfl hx6 underlying41 sizeOf3 rfl rfl) (wl rfl (clO (q := 1) (i := Int.toNat x2) (l := x1) (z0 := 0) hS2 ⟨rfl, rfl⟩ rfl zeroValue3 (fun _ _ => rfl) underlying41 (sub_lo hx6) fun w6 im6 hS6 => ?_))
  refine nil (t_then ?_)
  refine sq2 (rg (pv (r_ms rfl) (pv (r_mi rfl) (?_))))
  obtain ⟨u5, hx7, hm⟩ := bindS hm
  obtain ⟨a6, n4, c6, he3, hS7⟩ := hS6.cutA (q := 1) ⟨rfl, rfl⟩ hx7
  refine pv (r_slV rfl (hS6.own (i := 1) ⟨rfl, rfl⟩).v rfl ⟨_, rfl⟩ hx7 underlying41 sizeOf3 rfl he3) (pv (r_zs rfl) (nil (t_then ?_)))
  have hm := oI hm; subst hm
  exact rtn (ret1 rfl rfl ⟨_, rfl, _, (iT im1 (iT im2 im6)), ⟨_, _, _, rfl, hS7.sel [0, 2, 1] rfl, trivial⟩⟩)

theorem flow_outs_sim {p0 : Proc} {a1 : OA} {c1 : Nat} {a2 : OA} {c2 : Nat} {p1 : Int} {r : (List Int)} (hS : Sep g T0 w0 [R]) (h1 : SlR rGSlot T0 w0 (sv a1 p0.Objects c1) p0.Objects) (h2 : SlR rGBlock T0 w0 (sv a2 p0.Blocks c2) p0.Blocks) (hm : flow_outs p0 p1 = some r) :
    Calls Tryz.prog 45 #[.agg (cProc p0 a1 c1 a2 c2).toArray, iv p1] w0 (RetS T0 w0 fun T w v => ∃ (a6 : OA) (n3 : Nat) (c6 : Nat), v = .slice a6 n3 c6 ∧ Sep g T w [R, ownA (rInt .i64) 3 (.slice a6 n3 c6) r] ∧ True) := by
  refine enter (args := [.agg (cProc p0 a1 c1 a2 c2).toArray, iv p1]) Tryz.func45 rfl Tryz.ntmps45 rfl fun J => ?_
  unfold flow_outs at hm
  refine sq2 (rg (wl rfl (bxS (cs := (cProc p0 a1 c1 a2 c2)) rfl rfl hS fun w1 b1 im1 hS1 => ?_)))
  refine pv (r_zs rfl) (nil (t_then ?_))
  refine sq2 ?_
  obtain ⟨u1, hx1, hm⟩ := bindS hm
  obtain ⟨b2, of1, cs1, k1, cp1, hv1, hp1, hl1, he1, hr1, hc1, hT1⟩ := (h2.mono im1).ixT hx1 rfl
  obtain ⟨a3, c3, rfl, h3⟩ := rGBlock_open hr1
  obtain ⟨y1, hx2, hm⟩ := bindS hm
  refine rg (pv (r_fa rfl underlying31 rfl sizeOf29 rfl) (pv (r_ld rfl isAgg29 (hS1.cell0 (i := 0) ⟨rfl, rfl⟩ (j := 5) rfl)) (pv (r_mi rfl) (pv (r_ixe hv1 rfl underlying29 sizeOf52 hp1 hl1 he1) (pv (r_ldS rfl isAgg52 sizeOf52 rfl hc1 (cs := [sv a3 u1.Ins c3, iv u1.End, iv u1.A, iv u1.To, iv u1.Else])) (wl rfl (calS cf79 rfl (ir_Outs_sim (p0 := u1) (hS1.bun [0, 1] [] rfl) h3 hx2) rfl fun v1 T1 w2 im2 rv1 => ?_)))))))
  obtain ⟨a4, n1, c4, rfl, hS2, _⟩ := rv1
  have hS2 := hS2.unb
  obtain ⟨y2, hx3, hm⟩ := bindS hm
  refine pv (r_mkf (u := .func (.func 80) #[] #[pt b1 0]) rfl) (wl rfl (calS cf78 rfl (slices_DeleteFunc_sim (p0 := y1) (p1 := p0) (H_p1 := boxA b1) (hS2.bun [1] [2, 0] rfl) (lnBox b1) (h1.mono (iT im1 im2)) (h2.mono (iT im1 im2)) hx3) rfl fun v2 T2 w3 im3 rv2 => ?_))
  obtain ⟨a5, n2, c5, rfl, hS3, _⟩ := rv2
  have hS3 := hS3.unb
  refine pv (r_zs rfl) (nil (t_then ?_))
  have hm := oI hm; subst hm
  exact rtn (ret1 rfl rfl ⟨_, rfl, _, (iT im1 (iT im2 im3)), ⟨_, _, _, rfl, hS3.sel [0, 2] rfl, trivial⟩⟩)

theorem flow_join_sim {p0 : List Bool} {a1 : OA} {n1 : Nat} {c1 : Nat} {p1 : List Bool} {v_p1 : Value} {H_p1 : Assn} {r : Bool × (List Bool)} (hS : Sep g T0 w0 [R, ownA rBool 4 (.slice a1 n1 c1) p0, H_p1]) (hV_p1 : Vw H_p1 rBool v_p1 p1) (hm : flow_join p0 p1 = some r) :
    Calls Tryz.prog 46 #[.slice a1 n1 c1, v_p1] w0 (RetS T0 w0 fun T w v => v = .bool r.1 ∧ Sep g T w [R, ownA rBool 4 (.slice a1 n1 c1) r.2, H_p1] ∧ True) := by
  refine enter (args := [.slice a1 n1 c1, v_p1]) Tryz.func46 rfl Tryz.ntmps46 rfl fun J => ?_
  unfold flow_join at hm
  refine sq2 (rg (pv (r_zb rfl) (nil (t_then ?_))))
  refine sq2 (rg (pv (r_zb rfl) (nil (t_then ?_))))
  refine sq2 (sq2 (rg (pv (r_mx (v := v_p1) rfl) (pv (r_lnV rfl (hS.view (i := 2) ⟨rfl, rfl⟩ hV_p1) underlying39) (pv (r_mi rfl) (nil (t_then ?_)))))))
  obtain ⟨o1, ho1, hq1⟩ := bindS hm
  obtain ⟨bd1, hbd1, ho1⟩ := loop_open ho1
  refine blk (wp_loop_ghost (fun m a w1 => ∃ (J : JV) (T1 : TP) (x1 : List Bool) (x2 : Bool) (x3 : Int), a = env (nf 28) J [(0, .slice a1 n1 c1), (5, .bool x2), (8, v_p1), (9, iv (List.length p1 : Int)), (10, iv x3)] ∧ Im T0 w0 T1 w1 ∧ Sep g T1 w1 [R, ownA rBool 4 (.slice a1 n1 c1) x1, H_p1] ∧ loopM bd1 m (x1, x2, x3) = some o1) NN ⟨_, _, p0, false, 0, env_has ⟨rfl, rfl, rfl, rfl, rfl, trivial⟩, Im.refl, hS.sel [0, 1, 2] rfl, ho1⟩ ?_)
  rintro m _ w1 ⟨J, T1, x1, x2, x3, rfl, im1, hS1, ho1⟩
  obtain ⟨m1, z1, rfl, hm, hn1⟩ := loop_round ho1
  rw [hbd1] at hm
  refine sq2 (rg (pv (r_ib rfl rfl rfl) (nil (t_then ?_))))
  refine sq2 (cnd rfl (fun hb1 => ?_) (fun hb1 => ?_))
  · have hm := ctrue hb1 hm
    refine skp (t_then ?_)
    obtain ⟨kk1, hkk1, hm⟩ := jn_open hm
    refine cut (fun a w2 => ∃ (J : JV) (T2 : TP) (x4 : List Bool) (x5 : Bool), a = env (nf 28) J [(0, .slice a1 n1 c1), (5, .bool x5), (8, v_p1), (9, iv (List.length p1 : Int)), (10, iv x3)] ∧ Im T1 w1 T2 w2 ∧ Sep g T2 w2 [R, ownA rBool 4 (.slice a1 n1 c1) x4, H_p1] ∧ kk1 x4 x5 = some z1) ?_ ?_
    · refine blk (sq2 ?_)
      obtain ⟨u1, hx1, hm⟩ := bindS hm
      obtain ⟨b1, of1, cs1, k1, cp1, hv1, hp1, hl1, he1, hr1, hc1⟩ := (hS1.view (i := 2) ⟨rfl, rfl⟩ hV_p1).ixq hx1 rfl
      cases hr1
      refine rg (pv (r_mi rfl) (pv (r_ixe hv1 rfl underlying39 sizeOf4 hp1 hl1 he1) (pv (r_ld rfl isAgg4 (hc1.get (j := 0) rfl)) (pv (r_zi rfl) (pv (r_zb rfl) (nil (t_then ?_)))))))
      refine sq2 (rg (pv (r_mb rfl) (pv (r_mb rfl) (?_))))
      rcases Bool.eq_false_or_eq_true u1 with hb2 | hb2
      · have hm := ctrue hb2 hm
        obtain ⟨u2, hx2, hm⟩ := bindS hm
        obtain ⟨b2, of2, cs2, k2, cp2, hv2, hp2, hl2, he2, hr2, hc2⟩ := (hS1.own (i := 1) ⟨rfl, rfl⟩).v.ixq hx2 rfl
        cases hr2
        refine gT (d0 := 16) rfl rfl hb2 (pv (r_ms rfl) (gT (d0 := 16) rfl rfl hb2 (pv (r_mi rfl) (gT (d0 := 16) rfl rfl hb2 (pv (r_ixe hv2 rfl underlying39 sizeOf4 hp2 hl2 he2) (gT (d0 := 16) rfl rfl hb2 (pv (r_ld rfl isAgg4 (hc2.get (j := 0) rfl)) (gT (d0 := 16) rfl rfl hb2 (pv (r_nt rfl) (pv (r_pkt rfl hb2 rfl) (nil (t_then ?_))))))))))))
        refine cnd rfl (fun hb3 => ?_) (fun hb3 => ?_)
        · have hm := ctrue hb3 hm
          obtain ⟨u3, hx3, hm⟩ := bindS hm
          obtain ⟨b3, of3, cs3, k3, cp3, hv3, hp3, hl3, he3, hr3, hc3⟩ := (hS1.own (i := 1) ⟨rfl, rfl⟩).v.ixq hx3 rfl
          cases hr3
          obtain ⟨u4, hx4, hm⟩ := bindS hm
          refine rg (pv (r_ms rfl) (pv (r_mi rfl) (pv (r_ixe hv3 rfl underlying39 sizeOf4 hp3 hl3 he3) (wl rfl (stO (q := 1) (i := Int.toNat x3) (j := 0) (u := u4) (u' := true) hS1 ⟨rfl, rfl⟩ hv3 (idx_some hx4).2.2 he3 rfl rfl rfl sizeOf4 rfl rfl rfl (fun c0 hc0 => by rw [storeL_all (r := rBool) hc0 rfl]; exact rfl) fun w3 im3 hS2 => ?_)))))
          exact pv (r_zb rfl) (nil (t_blk (t_then ⟨_, _, (List.set x1 (Int.toNat x3) true), true, env_has ⟨rfl, rfl, rfl, rfl, rfl, trivial⟩, im3, hS2.sel [0, 1, 2] rfl, hm⟩)))
        have hm := cfalse hb3 hm
        exact skp (t_blk (t_then ⟨_, _, x1, x2, env_has ⟨rfl, rfl, rfl, rfl, rfl, trivial⟩, Im.refl, hS1.sel [0, 1, 2] rfl, hm⟩))
      have hm := cfalse hb2 hm
      refine gF (d0 := 16) rfl rfl (by rw [hb2]; rfl) (gF (d0 := 16) rfl rfl (by rw [hb2]; rfl) (gF (d0 := 16) rfl rfl (by rw [hb2]; rfl) (gF (d0 := 16) rfl rfl (by rw [hb2]; rfl) (gF (d0 := 16) rfl rfl (by rw [hb2]; rfl) (pv (r_pkf rfl hb2 rfl) (nil (t_then ?_)))))))
      refine cnd (b := false) rfl (fun h => nomatch h) (fun _ => ?_)
      exact skp (t_blk (t_then ⟨_, _, x1, x2, env_has ⟨rfl, rfl, rfl, rfl, rfl, trivial⟩, Im.refl, hS1.sel [0, 1, 2] rfl, hm⟩))
    rintro _ w2 ⟨J, T2, x4, x5, rfl, im2, hS3, hm⟩
    rw [hkk1] at hm
    have hm := oI hm; subst hm
    exact rg (pv (r_ib rfl rfl rfl) (pv (r_mi rfl) (nil (t_then ⟨m1, Nat.lt_succ_self _, _, _, x4, x5, (IntKind.wrap .i64 (x3 + 1)), env_has ⟨rfl, rfl, rfl, rfl, rfl, trivial⟩, (iT im1 im2), hS3.sel [0, 1, 2] rfl, hn1⟩))))
  have hm := cfalse hb1 hm
  have hm := oI hm; subst hm
  have hn1 : _ = Lp.brk _ := hn1
  subst hn1
  have hm := thn_brk hq1
  refine xt (x_then (x_then (x_eq (t_then ?_))))
  refine sq2 (rg (pv (r_mb rfl) (pv (r_zb rfl) (nil (t_then ?_)))))
  have hm := oI hm; subst hm
  exact rtn (ret1 rfl rfl ⟨_, rfl, _, im1, ⟨rfl, hS1.sel [0, 1, 2] rfl, trivial⟩⟩)

theorem slices_Clone_sim {p0 : List Bool} {v_p0 : Value} {H_p0 : Assn} {r : (List Bool)} (hS : Sep g T0 w0 [R, H_p0]) (hV_p0 : Vw H_p0 rBool v_p0 p0) (hm : slices_Clone p0 = some r) :
    Calls Tryz.prog 47 #[v_p0] w0 (RetS T0 w0 fun T w v => ∃ (a4 : OA) (n3 : Nat) (c4 : Nat), v = .slice a4 n3 c4 ∧ Sep g T w [R, H_p0, ownA rBool 4 (.slice a4 n3 c4) r] ∧ True) := by
  refine enter (args := [v_p0]) Tryz.func47 rfl Tryz.ntmps47 rfl fun J => ?_
  unfold slices_Clone at hm
  refine sq2 (rg (pv (r_zs rfl) (nil (t_then ?_))))
  refine sq2 (sq2 (rg (pv (r_mx (v := v_p0) rfl) (?_))))
  obtain ⟨a1, c1, he1⟩ := (hS.view (i := 1) ⟨rfl, rfl⟩ hV_p0).shape
  subst he1
  refine pv (r_sne rfl rfl rfl underlying39) (nil (t_then ?_))
  rcases SlV.nilOr (hS.view (i := 1) ⟨rfl, rfl⟩ hV_p0) with ⟨hb1, hl0⟩ | hb1
  · subst hb1
    subst hl0
    have hm : some [] = some r := hm
    refine cnd (b := true) rfl (fun _ => ?_) (fun h => nomatch h)
    refine sq2 (rg (pv (r_zs rfl) (nil (t_then ?_))))
    have hS1 := hS.nilO rBool 4
    have hm := oI hm; subst hm
    exact rtn (r_then (ret1 rfl rfl ⟨_, rfl, _, Im.refl, ⟨_, _, _, rfl, hS1.sel [1, 2, 0] rfl, trivial⟩⟩))
  refine cnd rfl (fun h => absurd (h.symm.trans hb1) (fun h => nomatch h)) (fun _ => ?_)
  refine skp (t_then ?_)
  refine sq2 (rg (wl rfl (bs0S rBool hS underlying39 sizeOf4 fun w1 a2 n1 c2 im1 hS2 => ?_)))
  obtain ⟨z_1, hro1, hm⟩ := bindS hm
  refine pv (r_mx (v := sv a1 p0 c1) rfl) (wl rfl (apO (q := 0) (l := ([] : List Bool)) (us := p0) hS2 ⟨rfl, rfl⟩ rfl rfl (hS2.view (i := 2) ⟨rfl, rfl⟩ hV_p0) underlying39 el4 (room_some hro1) fun w2 a3 n2 c3 im2 hS3 => ?_))
  refine pv (r_zs rfl) (nil (t_then ?_))
  have hm := oI hm; subst hm
  exact rtn (ret1 rfl rfl ⟨_, rfl, _, (iT im1 im2), ⟨_, _, _, rfl, hS3.sel [1, 2, 0] rfl, trivial⟩⟩)

theorem ir_Uses_sim {p0 : Ins} {a1 : OA} {c1 : Nat} {r : (List Int)} (hS : Sep g T0 w0 [R]) (h1 : SlR (rInt .i64) T0 w0 (sv a1 p0.Args c1) p0.Args) (hm : ir_Uses p0 = some r) :
    Calls Tryz.prog 27 #[.agg (cIns p0 a1 c1).toArray] w0 (RetS T0 w0 fun T w v => ∃ (a13 : OA) (n12 : Nat) (c13 : Nat), v = .slice a13 n12 c13 ∧ Sep g T w [R, ownA (rInt .i64) 3 (.slice a13 n12 c13) r] ∧ True) := by
  refine enter (args := [.agg (cIns p0 a1 c1).toArray]) Tryz.func27 rfl Tryz.ntmps27 rfl fun J => ?_
  unfold ir_Uses at hm
  refine sq2 (rg (wl rfl (bxS (cs := (cIns p0 a1 c1)) rfl rfl hS fun w1 b1 im1 hS1 => ?_)))
  refine pv (r_zs rfl) (nil (t_then ?_))
  refine sq2 (rg (pv (r_zs rfl) (nil (t_then ?_))))
  refine sq2 ?_
  obtain ⟨y1, hx1, hm⟩ := bindS hm
  refine rg (pv (r_fa rfl underlying49 rfl sizeOf3 rfl) (pv (r_ld rfl isAgg3 (hS1.cell0 (i := 0) ⟨rfl, rfl⟩ (j := 0) rfl)) (wl rfl (calS cf49 rfl (ir_reads_sim (p0 := p0.Op) (hS1.bun [0, 1] [] rfl)  hx1) rfl fun v1 T1 w2 im2 rv1 => ?_))))
  obtain ⟨rfl, hS2, _⟩ := rv1
  have hS2 := hS2.unb
  refine pv (r_mv rfl) (pv (r_ex (v := .bool y1.1) rfl rfl) (pv (r_ex (v := .bool y1.2) rfl rfl) (pv (r_zb rfl) (pv (r_zb rfl) (nil (t_then ?_))))))
  obtain ⟨kk1, hkk1, hm⟩ := jn_open hm
  have hS3 := hS2.nilO (rInt .i64) 3
  refine cut (fun a w3 => ∃ (J : JV) (T2 : TP) (x1 : List Int) (a2 : OA) (n1 : Nat) (c2 : Nat), a = env (nf 54) J [(1, pt b1 0), (3, .slice a2 n1 c2), (5, .bool y1.2)] ∧ Im T1 w2 T2 w3 ∧ Sep g T2 w3 [ownA (rInt .i64) 3 (.slice a2 n1 c2) x1, boxA b1 (cIns p0 a1 c1), R] ∧ kk1 x1 = some r) ?_ ?_
  · refine sq2 (rg (pv (r_mb rfl) (pv (r_mb rfl) (?_))))
    rcases Bool.eq_false_or_eq_true y1.1 with hb1 | hb1
    · have hm := ctrue hb1 hm
      refine gT (d0 := 15) rfl rfl hb1 (pv (r_fa rfl underlying49 rfl sizeOf3 rfl) (gT (d0 := 15) rfl rfl hb1 (pv (r_ld rfl isAgg3 (hS3.cell0 (i := 1) ⟨rfl, rfl⟩ (j := 2) rfl)) (gT (d0 := 15) rfl rfl hb1 (pv (r_ib rfl rfl rfl) (pv (r_pkt rfl hb1 rfl) (nil (t_then ?_))))))))
      refine cnd rfl (fun hb2 => ?_) (fun hb2 => ?_)
      · have hm := ctrue hb2 hm
        refine rg (pv (r_ms rfl) (pv (r_fa rfl underlying49 rfl sizeOf3 rfl) (pv (r_ld rfl isAgg3 (hS3.cell0 (i := 1) ⟨rfl, rfl⟩ (j := 2) rfl)) (wl rfl (bsS (r := (rInt .i64)) (l := ([p0.A] : List Int)) (css := [[iv p0.A]]) hS3 underlying41 sizeOf3 zeroValue3 rfl rfl (by kernel_rfl) rfl ⟨rfl, trivial⟩ rfl rfl fun w4 a3 n2 c3 im4 hS4 => ?_)))))
        obtain ⟨z_1, hro1, hm⟩ := bindS hm
        refine wl rfl (apO (q := 1) (l := ([] : List Int)) (us := ([p0.A] : List Int)) hS4 ⟨rfl, rfl⟩ rfl rfl (hS4.own (i := 0) ⟨rfl, rfl⟩).v underlying41 el3 (room_some hro1) fun w5 a4 n3 c4 im5 hS5 => ?_)
        exact pv (r_zs rfl) (nil (t_then ⟨_, _, (([] : List Int) ++ ([p0.A] : List Int)), _, _, _, env_has ⟨rfl, rfl, rfl, trivial⟩, (iT im4 im5), hS5.sel [1, 2, 3] rfl, hm⟩))
      have hm := cfalse hb2 hm
      exact skp (t_then ⟨_, _, [], _, _, _, env_has ⟨rfl, rfl, rfl, trivial⟩, Im.refl, hS3.sel [0, 1, 2] rfl, hm⟩)
    have hm := cfalse hb1 hm
    refine gF (d0 := 15) rfl rfl (by rw [hb1]; rfl) (gF (d0 := 15) rfl rfl (by rw [hb1]; rfl) (gF (d0 := 15) rfl rfl (by rw [hb1]; rfl) (pv (r_pkf rfl hb1 rfl) (nil (t_then ?_)))))
    refine cnd (b := false) rfl (fun h => nomatch h) (fun _ => ?_)
    exact skp (t_then ⟨_, _, [], _, _, _, env_has ⟨rfl, rfl, rfl, trivial⟩, Im.refl, hS3.sel [0, 1, 2] rfl, hm⟩)
  rintro _ w3 ⟨J, T2, x1, a2, n1, c2, rfl, im3, hS6, hm⟩
  rw [hkk1] at hm
  obtain ⟨kk2, hkk2, hm⟩ := jn_open hm
  refine cut (fun a w6 => ∃ (J : JV) (T3 : TP) (x2 : List Int) (a5 : OA) (n4 : Nat) (c5 : Nat), a = env (nf 54) J [(1, pt b1 0), (3, .slice a5 n4 c5)] ∧ Im T2 w3 T3 w6 ∧ Sep g T3 w6 [ownA (rInt .i64) 3 (.slice a5 n4 c5) x2, boxA b1 (cIns p0 a1 c1), R] ∧ kk2 x2 = some r) ?_ ?_
  · refine sq2 (rg (pv (r_mb rfl) (pv (r_mb rfl) (?_))))
    rcases Bool.eq_false_or_eq_true y1.2 with hb4 | hb4
    · have hm := ctrue hb4 hm
      refine gT (d0 := 26) rfl rfl hb4 (pv (r_fa rfl underlying49 rfl sizeOf3 rfl) (gT (d0 := 26) rfl rfl hb4 (pv (r_ld rfl isAgg3 (hS6.cell0 (i := 1) ⟨rfl, rfl⟩ (j := 3) rfl)) (gT (d0 := 26) rfl rfl hb4 (pv (r_ib rfl rfl rfl) (pv (r_pkt rfl hb4 rfl) (nil (t_then ?_))))))))
      refine cnd rfl (fun hb5 => ?_) (fun hb5 => ?_)
      · have hm := ctrue hb5 hm
        refine rg (pv (r_ms rfl) (pv (r_fa rfl underlying49 rfl sizeOf3 rfl) (pv (r_ld rfl isAgg3 (hS6.cell0 (i := 1) ⟨rfl, rfl⟩ (j := 3) rfl)) (wl rfl (bsS (r := (rInt .i64)) (l := ([p0.B] : List Int)) (css := [[iv p0.B]]) hS6 underlying41 sizeOf3 zeroValue3 rfl rfl (by kernel_rfl) rfl ⟨rfl, trivial⟩ rfl rfl fun w7 a6 n5 c6 im7 hS7 => ?_)))))
        obtain ⟨z_2, hro2, hm⟩ := bindS hm
        refine wl rfl (apO (q := 1) (l := x1) (us := ([p0.B] : List Int)) hS7 ⟨rfl, rfl⟩ rfl rfl (hS7.own (i := 0) ⟨rfl, rfl⟩).v underlying41 el3 (room_some hro2) fun w8 a7 n6 c7 im8 hS8 => ?_)
        exact pv (r_zs rfl) (nil (t_then ⟨_, _, (x1 ++ ([p0.B] : List Int)), _, _, _, env_has ⟨rfl, rfl, trivial⟩, (iT im7 im8), hS8.sel [1, 2, 3] rfl, hm⟩))
      have hm := cfalse hb5 hm
      exact skp (t_then ⟨_, _, x1, _, _, _, env_has ⟨rfl, rfl, trivial⟩, Im.refl, hS6.sel [0, 1, 2] rfl, hm⟩)
    have hm := cfalse hb4 hm
    refine gF (d0 := 26) rfl rfl (by rw [hb4]; rfl) (gF (d0 := 26) rfl rfl (by rw [hb4]; rfl) (gF (d0 := 26) rfl rfl (by rw [hb4]; rfl) (pv (r_pkf rfl hb4 rfl) (nil (t_then ?_)))))
    refine cnd (b := false) rfl (fun h => nomatch h) (fun _ => ?_)
    exact skp (t_then ⟨_, _, x1, _, _, _, env_has ⟨rfl, rfl, trivial⟩, Im.refl, hS6.sel [0, 1, 2] rfl, hm⟩)
  rintro _ w6 ⟨J, T3, x2, a5, n4, c5, rfl, im6, hS9, hm⟩
  rw [hkk2] at hm
  obtain ⟨kk3, hkk3, hm⟩ := jn_open hm
  refine cut (fun a w9 => ∃ (J : JV) (T4 : TP) (x3 : List Int) (a8 : OA) (n7 : Nat) (c8 : Nat), a = env (nf 54) J [(3, .slice a8 n7 c8)] ∧ Im T3 w6 T4 w9 ∧ Sep g T4 w9 [ownA (rInt .i64) 3 (.slice a8 n7 c8) x3, R] ∧ kk3 x3 = some r) ?_ ?_
  · refine sq2 (rg (pv (r_fa rfl underlying49 rfl sizeOf3 rfl) (pv (r_ld rfl isAgg3 (hS9.cell0 (i := 1) ⟨rfl, rfl⟩ (j := 0) rfl)) (pv (r_ib rfl rfl rfl) (nil (t_then ?_))))))
    refine cnd rfl (fun hb7 => ?_) (fun hb7 => ?_)
    · have hm := ctrue hb7 hm
      refine sq2 (rg (pv (r_fa rfl underlying49 rfl sizeOf41 rfl) (pv (r_ld rfl isAgg41 (hS9.cell0 (i := 1) ⟨rfl, rfl⟩ (j := 9) rfl)) (pv (r_ln rfl underlying41) (pv (r_mi rfl) (nil (t_then ?_)))))))
      obtain ⟨o1, ho1, hq1⟩ := bindS hm
      obtain ⟨bd1, hbd1, ho1⟩ := loop_open ho1
      refine blk (wp_loop_ghost (fun m a w10 => ∃ (J : JV) (T5 : TP) (x4 : List Int) (a9 : OA) (n8 : Nat) (c9 : Nat) (x5 : Int), a = env (nf 54) J [(3, .slice a9 n8 c9), (40, sv a1 p0.Args c1), (41, iv (List.length p0.Args : Int)), (42, iv x5)] ∧ Im T3 w6 T5 w10 ∧ Sep g T5 w10 [ownA (rInt .i64) 3 (.slice a9 n8 c9) x4, R] ∧ loopM bd1 m (x4, x5) = some o1) NN ⟨_, _, x2, _, _, _, 0, env_has ⟨rfl, rfl, rfl, rfl, trivial⟩, Im.refl, hS9.sel [0, 2] rfl, ho1⟩ ?_)
      rintro m _ w10 ⟨J, T5, x4, a9, n8, c9, x5, rfl, im10, hS10, ho1⟩
      obtain ⟨m1, z1, rfl, hm, hn1⟩ := loop_round ho1
      rw [hbd1] at hm
      refine sq2 (rg (pv (r_ib rfl rfl rfl) (nil (t_then ?_))))
      refine sq2 (cnd rfl (fun hb8 => ?_) (fun hb8 => ?_))
      · have hm := ctrue hb8 hm
        refine skp (t_then ?_)
        obtain ⟨kk4, hkk4, hm⟩ := jn_open hm
        refine cut (fun a w11 => ∃ (J : JV) (T6 : TP) (x6 : List Int) (a10 : OA) (n9 : Nat) (c10 : Nat), a = env (nf 54) J [(3, .slice a10 n9 c10), (40, sv a1 p0.Args c1), (41, iv (List.length p0.Args : Int)), (42, iv x5)] ∧ Im T5 w10 T6 w11 ∧ Sep g T6 w11 [ownA (rInt .i64) 3 (.slice a10 n9 c10) x6, R] ∧ kk4 x6 = some z1) ?_ ?_
        · refine blk (sq2 ?_)
          obtain ⟨u1, hx2, hm⟩ := bindS hm
          obtain ⟨b2, of1, cs1, k1, cp1, hv1, hp1, hl1, he1, hr1, hc1, hT1⟩ := (h1.mono (iT im1 (iT im2 (iT im3 (iT im6 im10))))).ixT hx2 rfl
          cases hr1
          refine rg (pv (r_ixe hv1 rfl underlying41 sizeOf3 hp1 hl1 he1) (pv (r_ld rfl isAgg3 (hc1.get (j := 0) rfl)) (pv (r_zi rfl) (nil (t_then ?_)))))
          refine sq2 (rg (pv (r_mi rfl) (pv (r_ib rfl rfl rfl) (nil (t_then ?_)))))
          refine cnd rfl (fun hb9 => ?_) (fun hb9 => ?_)
          · have hm := ctrue hb9 hm
            refine rg (pv (r_ms rfl) (pv (r_mi rfl) (wl rfl (bsS (r := (rInt .i64)) (l := ([u1] : List Int)) (css := [[iv u1]]) hS10 underlying41 sizeOf3 zeroValue3 rfl rfl (by kernel_rfl) rfl ⟨rfl, trivial⟩ rfl rfl fun w12 a11 n10 c11 im12 hS11 => ?_))))
            obtain ⟨z_3, hro3, hm⟩ := bindS hm
            refine wl rfl (apO (q := 1) (l := x4) (us := ([u1] : List Int)) hS11 ⟨rfl, rfl⟩ rfl rfl (hS11.own (i := 0) ⟨rfl, rfl⟩).v underlying41 el3 (room_some hro3) fun w13 a12 n11 c12 im13 hS12 => ?_)
            exact pv (r_zs rfl) (nil (t_blk (t_then ⟨_, _, (x4 ++ ([u1] : List Int)), _, _, _, env_has ⟨rfl, rfl, rfl, rfl, trivial⟩, (iT im12 im13), hS12.sel [1, 2] rfl, hm⟩)))
          have hm := cfalse hb9 hm
          exact skp (t_blk (t_then ⟨_, _, x4, _, _, _, env_has ⟨rfl, rfl, rfl, rfl, trivial⟩, Im.refl, hS10.sel [0, 1] rfl, hm⟩))
        rintro _ w11 ⟨J, T6, x6, a10, n9, c10, rfl, im11, hS13, hm⟩
        rw [hkk4] at hm
        have hm := oI hm; subst hm
        exact rg (pv (r_ib rfl rfl rfl) (pv (r_mi rfl) (nil (t_then ⟨m1, Nat.lt_succ_self _, _, _, x6, _, _, _, (IntKind.wrap .i64 (x5 + 1)), env_has ⟨rfl, rfl, rfl, rfl, trivial⟩, (iT im10 im11), hS13.sel [0, 1] rfl, hn1⟩))))
      have hm := cfalse hb8 hm
      have hm := oI hm; subst hm
      have hn1 : _ = Lp.brk _ := hn1
      subst hn1
      have hm := thn_brk hq1
      exact xt (x_then (x_then (x_eq (t_then ⟨_, _, x4, _, _, _, env_has ⟨rfl, trivial⟩, im10, hS10.sel [0, 1] rfl, hm⟩))))
    have hm := cfalse hb7 hm
    exact skp (t_then ⟨_, _, x2, _, _, _, env_has ⟨rfl, trivial⟩, Im.refl, hS9.sel [0, 2] rfl, hm⟩)
  rintro _ w9 ⟨J, T4, x3, a8, n7, c8, rfl, im9, hS14, hm⟩
  rw [hkk3] at hm
  refine sq2 (rg (pv (r_ms rfl) (pv (r_zs rfl) (nil (t_then ?_)))))
  have hm := oI hm; subst hm
  exact rtn (ret1 rfl rfl ⟨_, rfl, _, (iT im1 (iT im2 (iT im3 (iT im6 im9)))), ⟨_, _, _, rfl, hS14.sel [1, 0] rfl, trivial⟩⟩)

theorem flow_before_sim {p0 : List Bool} {a1 : OA} {n1 : Nat} {c1 : Nat} {p1 : Ins} {a2 : OA} {c2 : Nat} {r : (List Bool)} (hS : Sep g T0 w0 [R, ownA rBool 4 (.slice a1 n1 c1) p0]) (h1 : SlR (rInt .i64) T0 w0 (sv a2 p1.Args c2) p1.Args) (hm : flow_before p0 p1 = some r) :
    Calls Tryz.prog 48 #[.slice a1 n1 c1, .agg (cIns p1 a2 c2).toArray] w0 (RetS T0 w0 fun T w v => v = .tuple #[] ∧ Sep g T w [R, ownA rBool 4 (.slice a1 n1 c1) r] ∧ True) := by
  refine enter (args := [.slice a1 n1 c1, .agg (cIns p1 a2 c2).toArray]) Tryz.func48 rfl Tryz.ntmps48 rfl fun J => ?_
  unfold flow_before at hm
  refine sq2 (rg (wl rfl (bxS (cs := (cIns p1 a2 c2)) rfl rfl hS fun w1 b1 im1 hS1 => ?_)))
  refine nil (t_then ?_)
  refine sq2 ?_
  obtain ⟨y1, hx1, hm⟩ := bindS hm
  refine rg (pv (r_ms rfl) (pv (r_ldS rfl isAgg49 sizeOf49 rfl (hS1.cells0 (i := 0) ⟨rfl, rfl⟩ (o := 0) rfl) (cs := (cIns p1 a2 c2))) (wl rfl (calS cf28 rfl (ir_Def_sim (p0 := p1) (hS1.bun [0, 1, 2] [] rfl) (h1.mono im1) hx1) rfl fun v1 T1 w2 im2 rv1 => ?_))))
  obtain ⟨rfl, hS2, _⟩ := rv1
  have hS2 := hS2.unb
  obtain ⟨y2, hx2, hm⟩ := bindS hm
  refine wl rfl (calS cf77 rfl (flow_mark_sim (p0 := p0) (p1 := y1) (p2 := false) (hS2.bun [0, 1] [2] rfl)  hx2) rfl fun v2 T2 w3 im3 rv2 => ?_)
  obtain ⟨rfl, hS3, _⟩ := rv2
  have hS3 := hS3.unb
  refine nil (t_then ?_)
  refine sq2 ?_
  obtain ⟨y3, hx3, hm⟩ := bindS hm
  refine rg (pv (r_ldS rfl isAgg49 sizeOf49 rfl (hS3.cells0 (i := 0) ⟨rfl, rfl⟩ (o := 0) rfl) (cs := (cIns p1 a2 c2))) (wl rfl (calS cf27 rfl (ir_Uses_sim (p0 := p1) (hS3.bun [1, 2] [] rfl) (h1.mono (iT im1 (iT im2 im3))) hx3) rfl fun v3 T3 w4 im4 rv3 => ?_)))
  obtain ⟨a3, n2, c3, rfl, hS4, _⟩ := rv3
  have hS4 := hS4.unb
  refine pv (r_lnV rfl (hS4.own (i := 2) ⟨rfl, rfl⟩).v underlying41) (pv (r_mi rfl) (nil (t_then ?_)))
  obtain ⟨o1, ho1, hq1⟩ := bindS hm
  obtain ⟨bd1, hbd1, ho1⟩ := loop_open ho1
  refine blk (wp_loop_ghost (fun m a w5 => ∃ (J : JV) (T4 : TP) (x1 : List Bool) (x2 : Int), a = env (nf 21) J [(0, .slice a1 n1 c1), (11, .slice a3 n2 c3), (12, iv (List.length y3 : Int)), (13, iv x2)] ∧ Im T3 w4 T4 w5 ∧ Sep g T4 w5 [R, ownA rBool 4 (.slice a1 n1 c1) x1, ownA (rInt .i64) 3 (.slice a3 n2 c3) y3] ∧ loopM bd1 m (x1, x2) = some o1) NN ⟨_, _, y2, 0, env_has ⟨rfl, rfl, rfl, rfl, trivial⟩, Im.refl, hS4.sel [0, 1, 2] rfl, ho1⟩ ?_)
  rintro m _ w5 ⟨J, T4, x1, x2, rfl, im5, hS5, ho1⟩
  obtain ⟨m1, z1, rfl, hm, hn1⟩ := loop_round ho1
  rw [hbd1] at hm
  refine sq2 (rg (pv (r_ib rfl rfl rfl) (nil (t_then ?_))))
  refine sq2 (cnd rfl (fun hb1 => ?_) (fun hb1 => ?_))
  · have hm := ctrue hb1 hm
    refine skp (t_then ?_)
    refine sq2 (blk (sq2 ?_))
    obtain ⟨u1, hx4, hm⟩ := bindS hm
    obtain ⟨b2, of1, cs1, k1, cp1, hv1, hp1, hl1, he1, hr1, hc1⟩ := (hS5.own (i := 2) ⟨rfl, rfl⟩).v.ixq hx4 rfl
    cases hr1
    refine rg (pv (r_ixe hv1 rfl underlying41 sizeOf3 hp1 hl1 he1) (pv (r_ld rfl isAgg3 (hc1.get (j := 0) rfl)) (pv (r_zi rfl) (nil (t_then ?_)))))
    obtain ⟨y4, hx5, hm⟩ := bindS hm
    refine rg (pv (r_ms rfl) (pv (r_mi rfl) (wl rfl (calS cf77 rfl (flow_mark_sim (p0 := x1) (p1 := u1) (p2 := true) (hS5.bun [0, 2] [1] rfl)  hx5) rfl fun v4 T5 w6 im6 rv4 => ?_))))
    obtain ⟨rfl, hS6, _⟩ := rv4
    have hS6 := hS6.unb
    refine nil (t_blk (t_then ?_))
    have hm := oI hm; subst hm
    exact rg (pv (r_ib rfl rfl rfl) (pv (r_mi rfl) (nil (t_then ⟨m1, Nat.lt_succ_self _, _, _, y4, (IntKind.wrap .i64 (x2 + 1)), env_has ⟨rfl, rfl, rfl, rfl, trivial⟩, (iT im5 im6), hS6.sel [0, 2, 1] rfl, hn1⟩))))
  have hm := cfalse hb1 hm
  have hm := oI hm; subst hm
  have hn1 : _ = Lp.brk _ := hn1
  subst hn1
  have hm := thn_brk hq1
  have hm := oI hm; subst hm
  exact xt (x_then (x_then (x_eq (end0 rfl ⟨_, rfl, _, (iT im1 (iT im2 (iT im3 (iT im4 im5)))), ⟨rfl, hS5.sel [0, 1] rfl, trivial⟩⟩))))

theorem flow_Live_sim {p0 : Proc} {a1 : OA} {c1 : Nat} {a2 : OA} {c2 : Nat} {r : (List (List Bool)) × (List (List Bool))} (hS : Sep g T0 w0 [R]) (h1 : SlR rGSlot T0 w0 (sv a1 p0.Objects c1) p0.Objects) (h2 : SlR rGBlock T0 w0 (sv a2 p0.Blocks c2) p0.Blocks) (hm : flow_Live p0 = some r) :
    Calls Tryz.prog 26 #[.agg (cProc p0 a1 c1 a2 c2).toArray] w0 (RetS T0 w0 fun T w v => ∃ (a28 : OA) (n23 : Nat) (c28 : Nat) (a29 : OA) (n24 : Nat) (c29 : Nat), v = .tuple #[.slice a28 n23 c28, .slice a29 n24 c29] ∧ Sep g T w [R, nestA nER39 39 (.slice a28 n23 c28) r.1, nestA nER39 39 (.slice a29 n24 c29) r.2] ∧ True) := by
  refine enter (args := [.agg (cProc p0 a1 c1 a2 c2).toArray]) Tryz.func26 rfl Tryz.ntmps26 rfl fun J => ?_
  unfold flow_Live at hm
  refine sq2 (rg (wl rfl (bxS (cs := (cProc p0 a1 c1 a2 c2)) rfl rfl hS fun w1 b1 im1 hS1 => ?_)))
  refine pv (r_zs rfl) (pv (r_zs rfl) (nil (t_then ?_)))
  refine sq2 (rg (pv (r_fa rfl underlying31 rfl sizeOf3 rfl) (pv (r_ld rfl isAgg3 (hS1.cell0 (i := 0) ⟨rfl, rfl⟩ (j := 3) rfl)) (pv (r_imx rfl rfl) (pv (r_zi rfl) (nil (t_then ?_)))))))
  refine sq2 (sq2 (rg (pv (r_fa rfl underlying31 rfl sizeOf29 rfl) (pv (r_ld rfl isAgg29 (hS1.cell0 (i := 0) ⟨rfl, rfl⟩ (j := 5) rfl)) (pv (r_ln rfl underlying29) (pv (r_mi rfl) (nil (t_then ?_))))))))
  obtain ⟨o1, ho1, hq1⟩ := bindS hm
  obtain ⟨bd1, hbd1, ho1⟩ := loop_open ho1
  have hS2 := Sep.nnil (E := nER39) (e := 39) hS1
  have hS3 := Sep.nnil (E := nER39) (e := 39) hS2
  refine blk (wp_loop_ghost (fun m a w2 => ∃ (J : JV) (T1 : TP) (x1 : List (List Bool)) (a3 : OA) (n1 : Nat) (c3 : Nat) (x2 : List (List Bool)) (a4 : OA) (n2 : Nat) (c4 : Nat) (x3 : Int), a = env (nf 110) J [(1, pt b1 0), (2, .slice a4 n2 c4), (3, .slice a3 n1 c3), (4, iv (max p0.Regs 0)), (19, iv (List.length p0.Blocks : Int)), (20, iv x3)] ∧ Im T0 w1 T1 w2 ∧ Sep g T1 w2 [nestA nER39 39 (.slice a3 n1 c3) x1, nestA nER39 39 (.slice a4 n2 c4) x2, boxA b1 (cProc p0 a1 c1 a2 c2), R] ∧ loopM bd1 m (x1, x2, x3) = some o1) NN ⟨_, _, [], _, _, _, [], _, _, _, 0, env_has ⟨rfl, rfl, rfl, rfl, rfl, rfl, trivial⟩, Im.refl, hS3.sel [0, 1, 2, 3] rfl, ho1⟩ ?_)
  rintro m _ w2 ⟨J, T1, x1, a3, n1, c3, x2, a4, n2, c4, x3, rfl, im2, hS4, ho1⟩
  obtain ⟨m1, z1, rfl, hm, hn1⟩ := loop_round ho1
  rw [hbd1] at hm
  refine sq2 (rg (pv (r_ib rfl rfl rfl) (nil (t_then ?_))))
  refine sq2 (cnd rfl (fun hb1 => ?_) (fun hb1 => ?_))
  · have hm := ctrue hb1 hm
    refine skp (t_then ?_)
    refine sq2 (blk (rt [0, 0, 2, 2, 2, 0, 0, 2, 2, 2, 0, 0] [0, 1, 5, 6, 2, 3, 4, 7, 8, 9, 10, 11] mix (by kernel_rfl) hS4.lt fun w3 i1 => ?_))
    have im3 := i1.imm
    have hS5 := hS4.keep i1 (fun _ h => h)
    obtain ⟨u1, hx1, hm⟩ := bindS hm
    obtain ⟨z_1, hro1, hm⟩ := bindS hm
    obtain ⟨z_2, hro2, hm⟩ := bindS hm
    refine t0 rfl trivial (fun _ => r_ms rfl) rfl (t0 rfl trivial (fun _ => r_mi rfl) rfl (t0 rfl trivial (fun _ => r_ms rfl) rfl (t0 rfl trivial (fun _ => r_mi rfl) rfl (tw [2, 7] rfl (wt_of rfl rfl trivial) rfl (by kernel_rfl) (by kernel_rfl) ⟨br [3, 4, 7, 8, 9, 10, 11] [] rfl (by kernel_rfl) (by kernel_rfl) trivial (by kernel_rfl) (msS (r := rBool) hS5 rfl rfl underlying39 el4 zeroValue4 rfl hx1 fun w4 a5 n3 c5 im4 hS6 => ?_), br [2, 3, 4, 8, 9, 10, 11] [] rfl (by kernel_rfl) (by kernel_rfl) trivial (by kernel_rfl) (msS (r := rBool) hS5 rfl rfl underlying39 el4 zeroValue4 rfl hx1 fun w4 a5 n3 c5 im4 hS6 => ?_), trivial⟩))))
    · refine ⟨st0, ?_⟩
      refine tw [3, 7] rfl (wt_of rfl rfl trivial) rfl (by kernel_rfl) (by kernel_rfl) ⟨br [4, 7, 8, 9, 10, 11] [] rfl (by kernel_rfl) (by kernel_rfl) trivial (by kernel_rfl) (bsS (r := rRaw 1) (l := [[.slice a5 n3 c5]]) (css := [[.slice a5 n3 c5]]) hS6 underlying79 sizeOf39 zeroValue39 rfl rfl (by kernel_rfl) rfl ⟨⟨rfl, rfl, (List.all_eq_true (p := Value.oneCell')).1 rfl⟩, trivial⟩ rfl rfl fun w5 a6 n4 c6 im5 hS7 => ?_), br [3, 4, 8, 9, 10, 11] [] rfl (by kernel_rfl) (by kernel_rfl) trivial (by kernel_rfl) (msS (r := rBool) hS6 rfl rfl underlying39 el4 zeroValue4 rfl hx1 fun w5 a6 n4 c6 im5 hS7 => ?_), trivial⟩
      · refine ⟨st0, ?_⟩
        refine tw [4, 7] rfl (wt_of rfl rfl trivial) rfl (by kernel_rfl) (by kernel_rfl) ⟨br [7, 8, 9, 10, 11] [] rfl (by kernel_rfl) (by kernel_rfl) trivial (by kernel_rfl) (apN (q := 2) (show Sep g T1 w5 [nER39.A u1 [.slice a5 n3 c5], ownA (rRaw 1) 39 (.slice a6 n4 c6) ([[.slice a5 n3 c5]] : List (List Value)), nestA nER39 39 (.slice a3 n1 c3) x1, nestA nER39 39 (.slice a4 n2 c4) x2, boxA b1 (cProc p0 a1 c1 a2 c2), R] from Sep.exI (a5, n3, c5) (Sep.pI rfl (hS7.bun [1] [0, 2, 3, 4, 5] rfl))) ⟨rfl, rfl⟩ rfl rfl ((show Sep g T1 w5 [nER39.A u1 [.slice a5 n3 c5], ownA (rRaw 1) 39 (.slice a6 n4 c6) ([[.slice a5 n3 c5]] : List (List Value)), nestA nER39 39 (.slice a3 n1 c3) x1, nestA nER39 39 (.slice a4 n2 c4) x2, boxA b1 (cProc p0 a1 c1 a2 c2), R] from Sep.exI (a5, n3, c5) (Sep.pI rfl (hS7.bun [1] [0, 2, 3, 4, 5] rfl))).own (i := 1) ⟨rfl, rfl⟩).v underlying79 el39 (room_some hro1) fun w6 a7 n5 c7 im6 hS8 => ?_), br [4, 8, 9, 10, 11] [] rfl (by kernel_rfl) (by kernel_rfl) trivial (by kernel_rfl) (msS (r := rBool) hS7 rfl rfl underlying39 el4 zeroValue4 rfl hx1 fun w6 a7 n5 c7 im6 hS8 => ?_), trivial⟩
        · have hS8 : Sep g T1 w6 [ownA (rRaw 1) 39 (.slice a6 n4 c6) ([[.slice a5 n3 c5]] : List (List Value)), nestA nER39 39 (.slice a3 n1 c3) x1, nestA nER39 39 (.slice a7 n5 c7) (x2 ++ [u1]), boxA b1 (cProc p0 a1 c1 a2 c2), R] := hS8
          refine ⟨st0, ?_⟩
          refine tw [7] rfl (wt_of rfl rfl trivial) rfl (by kernel_rfl) (by kernel_rfl) ⟨br [8, 9, 10, 11] [] rfl (by kernel_rfl) (by kernel_rfl) trivial (by kernel_rfl) (msS (r := rBool) hS8 rfl rfl underlying39 el4 zeroValue4 rfl hx1 fun w7 a8 n6 c8 im7 hS9 => ?_), trivial⟩
          refine ⟨st0, ?_⟩
          refine tw [8] rfl (wt_of rfl rfl trivial) rfl (by kernel_rfl) (by kernel_rfl) ⟨br [9, 10, 11] [] rfl (by kernel_rfl) (by kernel_rfl) trivial (by kernel_rfl) (bsS (r := rRaw 1) (l := [[.slice a8 n6 c8]]) (css := [[.slice a8 n6 c8]]) hS9 underlying79 sizeOf39 zeroValue39 rfl rfl (by kernel_rfl) rfl ⟨⟨rfl, rfl, (List.all_eq_true (p := Value.oneCell')).1 rfl⟩, trivial⟩ rfl rfl fun w8 a9 n7 c9 im8 hS10 => ?_), trivial⟩
          refine ⟨st0, ?_⟩
          refine tw [9] rfl (wt_of rfl rfl trivial) rfl (by kernel_rfl) (by kernel_rfl) ⟨br [10, 11] [] rfl (by kernel_rfl) (by kernel_rfl) trivial (by kernel_rfl) (apN (q := 2) (show Sep g T1 w8 [nER39.A u1 [.slice a8 n6 c8], ownA (rRaw 1) 39 (.slice a9 n7 c9) ([[.slice a8 n6 c8]] : List (List Value)), ownA (rRaw 1) 39 (.slice a6 n4 c6) ([[.slice a5 n3 c5]] : List (List Value)), nestA nER39 39 (.slice a3 n1 c3) x1, nestA nER39 39 (.slice a7 n5 c7) (x2 ++ [u1]), boxA b1 (cProc p0 a1 c1 a2 c2), R] from Sep.exI (a8, n6, c8) (Sep.pI rfl (hS10.bun [1] [0, 2, 3, 4, 5, 6] rfl))) ⟨rfl, rfl⟩ rfl rfl ((show Sep g T1 w8 [nER39.A u1 [.slice a8 n6 c8], ownA (rRaw 1) 39 (.slice a9 n7 c9) ([[.slice a8 n6 c8]] : List (List Value)), ownA (rRaw 1) 39 (.slice a6 n4 c6) ([[.slice a5 n3 c5]] : List (List Value)), nestA nER39 39 (.slice a3 n1 c3) x1, nestA nER39 39 (.slice a7 n5 c7) (x2 ++ [u1]), boxA b1 (cProc p0 a1 c1 a2 c2), R] from Sep.exI (a8, n6, c8) (Sep.pI rfl (hS10.bun [1] [0, 2, 3, 4, 5, 6] rfl))).own (i := 1) ⟨rfl, rfl⟩).v underlying79 el39 (room_some hro2) fun w9 a10 n8 c10 im9 hS11 => ?_), trivial⟩
          refine ⟨st0, ?_⟩
          refine t0 rfl trivial (fun _ => r_zs rfl) rfl (t0 rfl trivial (fun _ => r_zs rfl) rfl (te (t_blk (t_then ?_))))
          have hm := oI hm; subst hm
          exact rg (pv (r_ib rfl rfl rfl) (pv (r_mi rfl) (nil (t_then ⟨m1, Nat.lt_succ_self _, _, _, (x1 ++ [u1]), _, _, _, (x2 ++ [u1]), _, _, _, (IntKind.wrap .i64 (x3 + 1)), env_has ⟨rfl, rfl, rfl, rfl, rfl, rfl, trivial⟩, (iT im2 (iT im3 (iT im4 (iT im5 (iT im6 (iT im7 (iT im8 im9))))))), hS11.sel [2, 3, 4, 5] rfl, hn1⟩))))
        refine ⟨st0, ?_⟩
        refine tw [4, 8] rfl (wt_of rfl rfl trivial) rfl (by kernel_rfl) (by kernel_rfl) ⟨br [8, 9, 10, 11] [] rfl (by kernel_rfl) (by kernel_rfl) trivial (by kernel_rfl) (apN (q := 3) (show Sep g T1 w6 [nER39.A u1 [.slice a5 n3 c5], ownA rBool 4 (.slice a7 n5 c7) u1, ownA (rRaw 1) 39 (.slice a6 n4 c6) ([[.slice a5 n3 c5]] : List (List Value)), nestA nER39 39 (.slice a3 n1 c3) x1, nestA nER39 39 (.slice a4 n2 c4) x2, boxA b1 (cProc p0 a1 c1 a2 c2), R] from Sep.exI (a5, n3, c5) (Sep.pI rfl (hS8.bun [2] [0, 1, 3, 4, 5, 6] rfl))) ⟨rfl, rfl⟩ rfl rfl ((show Sep g T1 w6 [nER39.A u1 [.slice a5 n3 c5], ownA rBool 4 (.slice a7 n5 c7) u1, ownA (rRaw 1) 39 (.slice a6 n4 c6) ([[.slice a5 n3 c5]] : List (List Value)), nestA nER39 39 (.slice a3 n1 c3) x1, nestA nER39 39 (.slice a4 n2 c4) x2, boxA b1 (cProc p0 a1 c1 a2 c2), R] from Sep.exI (a5, n3, c5) (Sep.pI rfl (hS8.bun [2] [0, 1, 3, 4, 5, 6] rfl))).own (i := 2) ⟨rfl, rfl⟩).v underlying79 el39 (room_some hro1) fun w7 a8 n6 c8 im7 hS9 => ?_), br [4, 9, 10, 11] [] rfl (by kernel_rfl) (by kernel_rfl) trivial (by kernel_rfl) (bsS (r := rRaw 1) (l := [[.slice a7 n5 c7]]) (css := [[.slice a7 n5 c7]]) hS8 underlying79 sizeOf39 zeroValue39 rfl rfl (by kernel_rfl) rfl ⟨⟨rfl, rfl, (List.all_eq_true (p := Value.oneCell')).1 rfl⟩, trivial⟩ rfl rfl fun w7 a8 n6 c8 im7 hS9 => ?_), trivial⟩
        · have hS9 : Sep g T1 w7 [ownA rBool 4 (.slice a7 n5 c7) u1, ownA (rRaw 1) 39 (.slice a6 n4 c6) ([[.slice a5 n3 c5]] : List (List Value)), nestA nER39 39 (.slice a3 n1 c3) x1, nestA nER39 39 (.slice a8 n6 c8) (x2 ++ [u1]), boxA b1 (cProc p0 a1 c1 a2 c2), R] := hS9
          refine ⟨st0, ?_⟩
          refine tw [8] rfl (wt_of rfl rfl trivial) rfl (by kernel_rfl) (by kernel_rfl) ⟨br [9, 10, 11] [] rfl (by kernel_rfl) (by kernel_rfl) trivial (by kernel_rfl) (bsS (r := rRaw 1) (l := [[.slice a7 n5 c7]]) (css := [[.slice a7 n5 c7]]) hS9 underlying79 sizeOf39 zeroValue39 rfl rfl (by kernel_rfl) rfl ⟨⟨rfl, rfl, (List.all_eq_true (p := Value.oneCell')).1 rfl⟩, trivial⟩ rfl rfl fun w8 a9 n7 c9 im8 hS10 => ?_), trivial⟩
          refine ⟨st0, ?_⟩
          refine tw [9] rfl (wt_of rfl rfl trivial) rfl (by kernel_rfl) (by kernel_rfl) ⟨br [10, 11] [] rfl (by kernel_rfl) (by kernel_rfl) trivial (by kernel_rfl) (apN (q := 2) (show Sep g T1 w8 [nER39.A u1 [.slice a7 n5 c7], ownA (rRaw 1) 39 (.slice a9 n7 c9) ([[.slice a7 n5 c7]] : List (List Value)), ownA (rRaw 1) 39 (.slice a6 n4 c6) ([[.slice a5 n3 c5]] : List (List Value)), nestA nER39 39 (.slice a3 n1 c3) x1, nestA nER39 39 (.slice a8 n6 c8) (x2 ++ [u1]), boxA b1 (cProc p0 a1 c1 a2 c2), R] from Sep.exI (a7, n5, c7) (Sep.pI rfl (hS10.bun [1] [0, 2, 3, 4, 5, 6] rfl))) ⟨rfl, rfl⟩ rfl rfl ((show Sep g T1 w8 [nER39.A u1 [.slice a7 n5 c7], ownA (rRaw 1) 39 (.slice a9 n7 c9) ([[.slice a7 n5 c7]] : List (List Value)), ownA (rRaw 1) 39 (.slice a6 n4 c6) ([[.slice a5 n3 c5]] : List (List Value)), nestA nER39 39 (.slice a3 n1 c3) x1, nestA nER39 39 (.slice a8 n6 c8) (x2 ++ [u1]), boxA b1 (cProc p0 a1 c1 a2 c2), R] from Sep.exI (a7, n5, c7) (Sep.pI rfl (hS10.bun [1] [0, 2, 3, 4, 5, 6] rfl))).own (i := 1) ⟨rfl, rfl⟩).v underlying79 el39 (room_some hro2) fun w9 a10 n8 c10 im9 hS11 => ?_), trivial⟩
          refine ⟨st0, ?_⟩
          refine t0 rfl trivial (fun _ => r_zs rfl) rfl (t0 rfl trivial (fun _ => r_zs rfl) rfl (te (t_blk (t_then ?_))))
          have hm := oI hm; subst hm
          exact rg (pv (r_ib rfl rfl rfl) (pv (r_mi rfl) (nil (t_then ⟨m1, Nat.lt_succ_self _, _, _, (x1 ++ [u1]), _, _, _, (x2 ++ [u1]), _, _, _, (IntKind.wrap .i64 (x3 + 1)), env_has ⟨rfl, rfl, rfl, rfl, rfl, rfl, trivial⟩, (iT im2 (iT im3 (iT im4 (iT im5 (iT im6 (iT im7 (iT im8 im9))))))), hS11.sel [2, 3, 4, 5] rfl, hn1⟩))))
        refine ⟨st0, ?_⟩
        refine tw [4] rfl (wt_of rfl rfl trivial) rfl (by kernel_rfl) (by kernel_rfl) ⟨br [9, 10, 11] [] rfl (by kernel_rfl) (by kernel_rfl) trivial (by kernel_rfl) (apN (q := 4) (show Sep g T1 w7 [nER39.A u1 [.slice a5 n3 c5], ownA (rRaw 1) 39 (.slice a8 n6 c8) ([[.slice a7 n5 c7]] : List (List Value)), ownA rBool 4 (.slice a7 n5 c7) u1, ownA (rRaw 1) 39 (.slice a6 n4 c6) ([[.slice a5 n3 c5]] : List (List Value)), nestA nER39 39 (.slice a3 n1 c3) x1, nestA nER39 39 (.slice a4 n2 c4) x2, boxA b1 (cProc p0 a1 c1 a2 c2), R] from Sep.exI (a5, n3, c5) (Sep.pI rfl (hS9.bun [3] [0, 1, 2, 4, 5, 6, 7] rfl))) ⟨rfl, rfl⟩ rfl rfl ((show Sep g T1 w7 [nER39.A u1 [.slice a5 n3 c5], ownA (rRaw 1) 39 (.slice a8 n6 c8) ([[.slice a7 n5 c7]] : List (List Value)), ownA rBool 4 (.slice a7 n5 c7) u1, ownA (rRaw 1) 39 (.slice a6 n4 c6) ([[.slice a5 n3 c5]] : List (List Value)), nestA nER39 39 (.slice a3 n1 c3) x1, nestA nER39 39 (.slice a4 n2 c4) x2, boxA b1 (cProc p0 a1 c1 a2 c2), R] from Sep.exI (a5, n3, c5) (Sep.pI rfl (hS9.bun [3] [0, 1, 2, 4, 5, 6, 7] rfl))).own (i := 3) ⟨rfl, rfl⟩).v underlying79 el39 (room_some hro1) fun w8 a9 n7 c9 im8 hS10 => ?_), trivial⟩
        refine ⟨st0, ?_⟩
        refine tw [9] rfl (wt_of rfl rfl trivial) rfl (by kernel_rfl) (by kernel_rfl) ⟨br [10, 11] [] rfl (by kernel_rfl) (by kernel_rfl) trivial (by kernel_rfl) (apN (q := 2) (show Sep g T1 w8 [nER39.A u1 [.slice a7 n5 c7], ownA (rRaw 1) 39 (.slice a8 n6 c8) ([[.slice a7 n5 c7]] : List (List Value)), ownA (rRaw 1) 39 (.slice a6 n4 c6) ([[.slice a5 n3 c5]] : List (List Value)), nestA nER39 39 (.slice a3 n1 c3) x1, nestA nER39 39 (.slice a9 n7 c9) (x2 ++ [u1]), boxA b1 (cProc p0 a1 c1 a2 c2), R] from Sep.exI (a7, n5, c7) (Sep.pI rfl (hS10.bun [1] [0, 2, 3, 4, 5, 6] rfl))) ⟨rfl, rfl⟩ rfl rfl ((show Sep g T1 w8 [nER39.A u1 [.slice a7 n5 c7], ownA (rRaw 1) 39 (.slice a8 n6 c8) ([[.slice a7 n5 c7]] : List (List Value)), ownA (rRaw 1) 39 (.slice a6 n4 c6) ([[.slice a5 n3 c5]] : List (List Value)), nestA nER39 39 (.slice a3 n1 c3) x1, nestA nER39 39 (.slice a9 n7 c9) (x2 ++ [u1]), boxA b1 (cProc p0 a1 c1 a2 c2), R] from Sep.exI (a7, n5, c7) (Sep.pI rfl (hS10.bun [1] [0, 2, 3, 4, 5, 6] rfl))).own (i := 1) ⟨rfl, rfl⟩).v underlying79 el39 (room_some hro2) fun w9 a10 n8 c10 im9 hS11 => ?_), trivial⟩
        refine ⟨st0, ?_⟩
        refine t0 rfl trivial (fun _ => r_zs rfl) rfl (t0 rfl trivial (fun _ => r_zs rfl) rfl (te (t_blk (t_then ?_))))
        have hm := oI hm; subst hm
        exact rg (pv (r_ib rfl rfl rfl) (pv (r_mi rfl) (nil (t_then ⟨m1, Nat.lt_succ_self _, _, _, (x1 ++ [u1]), _, _, _, (x2 ++ [u1]), _, _, _, (IntKind.wrap .i64 (x3 + 1)), env_has ⟨rfl, rfl, rfl, rfl, rfl, rfl, trivial⟩, (iT im2 (iT im3 (iT im4 (iT im5 (iT im6 (iT im7 (iT im8 im9))))))), hS11.sel [2, 3, 4, 5] rfl, hn1⟩))))
      refine ⟨st0, ?_⟩
      refine tw [3, 8] rfl (wt_of rfl rfl trivial) rfl (by kernel_rfl) (by kernel_rfl) ⟨br [4, 8, 9, 10, 11] [] rfl (by kernel_rfl) (by kernel_rfl) trivial (by kernel_rfl) (bsS (r := rRaw 1) (l := [[.slice a5 n3 c5]]) (css := [[.slice a5 n3 c5]]) hS7 underlying79 sizeOf39 zeroValue39 rfl rfl (by kernel_rfl) rfl ⟨⟨rfl, rfl, (List.all_eq_true (p := Value.oneCell')).1 rfl⟩, trivial⟩ rfl rfl fun w6 a7 n5 c7 im6 hS8 => ?_), br [3, 4, 9, 10, 11] [] rfl (by kernel_rfl) (by kernel_rfl) trivial (by kernel_rfl) (bsS (r := rRaw 1) (l := [[.slice a6 n4 c6]]) (css := [[.slice a6 n4 c6]]) hS7 underlying79 sizeOf39 zeroValue39 rfl rfl (by kernel_rfl) rfl ⟨⟨rfl, rfl, (List.all_eq_true (p := Value.oneCell')).1 rfl⟩, trivial⟩ rfl rfl fun w6 a7 n5 c7 im6 hS8 => ?_), trivial⟩
      · refine ⟨st0, ?_⟩
        refine tw [4, 8] rfl (wt_of rfl rfl trivial) rfl (by kernel_rfl) (by kernel_rfl) ⟨br [8, 9, 10, 11] [] rfl (by kernel_rfl) (by kernel_rfl) trivial (by kernel_rfl) (apN (q := 3) (show Sep g T1 w6 [nER39.A u1 [.slice a5 n3 c5], ownA (rRaw 1) 39 (.slice a7 n5 c7) ([[.slice a5 n3 c5]] : List (List Value)), ownA rBool 4 (.slice a6 n4 c6) u1, nestA nER39 39 (.slice a3 n1 c3) x1, nestA nER39 39 (.slice a4 n2 c4) x2, boxA b1 (cProc p0 a1 c1 a2 c2), R] from Sep.exI (a5, n3, c5) (Sep.pI rfl (hS8.bun [2] [0, 1, 3, 4, 5, 6] rfl))) ⟨rfl, rfl⟩ rfl rfl ((show Sep g T1 w6 [nER39.A u1 [.slice a5 n3 c5], ownA (rRaw 1) 39 (.slice a7 n5 c7) ([[.slice a5 n3 c5]] : List (List Value)), ownA rBool 4 (.slice a6 n4 c6) u1, nestA nER39 39 (.slice a3 n1 c3) x1, nestA nER39 39 (.slice a4 n2 c4) x2, boxA b1 (cProc p0 a1 c1 a2 c2), R] from Sep.exI (a5, n3, c5) (Sep.pI rfl (hS8.bun [2] [0, 1, 3, 4, 5, 6] rfl))).own (i := 1) ⟨rfl, rfl⟩).v underlying79 el39 (room_some hro1) fun w7 a8 n6 c8 im7 hS9 => ?_), br [4, 9, 10, 11] [] rfl (by kernel_rfl) (by kernel_rfl) trivial (by kernel_rfl) (bsS (r := rRaw 1) (l := [[.slice a6 n4 c6]]) (css := [[.slice a6 n4 c6]]) hS8 underlying79 sizeOf39 zeroValue39 rfl rfl (by kernel_rfl) rfl ⟨⟨rfl, rfl, (List.all_eq_true (p := Value.oneCell')).1 rfl⟩, trivial⟩ rfl rfl fun w7 a8 n6 c8 im7 hS9 => ?_), trivial⟩
        · have hS9 : Sep g T1 w7 [ownA (rRaw 1) 39 (.slice a7 n5 c7) ([[.slice a5 n3 c5]] : List (List Value)), ownA rBool 4 (.slice a6 n4 c6) u1, nestA nER39 39 (.slice a3 n1 c3) x1, nestA nER39 39 (.slice a8 n6 c8) (x2 ++ [u1]), boxA b1 (cProc p0 a1 c1 a2 c2), R] := hS9
          refine ⟨st0, ?_⟩
          refine tw [8] rfl (wt_of rfl rfl trivial) rfl (by kernel_rfl) (by kernel_rfl) ⟨br [9, 10, 11] [] rfl (by kernel_rfl) (by kernel_rfl) trivial (by kernel_rfl) (bsS (r := rRaw 1) (l := [[.slice a6 n4 c6]]) (css := [[.slice a6 n4 c6]]) hS9 underlying79 sizeOf39 zeroValue39 rfl rfl (by kernel_rfl) rfl ⟨⟨rfl, rfl, (List.all_eq_true (p := Value.oneCell')).1 rfl⟩, trivial⟩ rfl rfl fun w8 a9 n7 c9 im8 hS10 => ?_), trivial⟩
          refine ⟨st0, ?_⟩
          refine tw [9] rfl (wt_of rfl rfl trivial) rfl (by kernel_rfl) (by kernel_rfl) ⟨br [10, 11] [] rfl (by kernel_rfl) (by kernel_rfl) trivial (by kernel_rfl) (apN (q := 2) (show Sep g T1 w8 [nER39.A u1 [.slice a6 n4 c6], ownA (rRaw 1) 39 (.slice a9 n7 c9) ([[.slice a6 n4 c6]] : List (List Value)), ownA (rRaw 1) 39 (.slice a7 n5 c7) ([[.slice a5 n3 c5]] : List (List Value)), nestA nER39 39 (.slice a3 n1 c3) x1, nestA nER39 39 (.slice a8 n6 c8) (x2 ++ [u1]), boxA b1 (cProc p0 a1 c1 a2 c2), R] from Sep.exI (a6, n4, c6) (Sep.pI rfl (hS10.bun [2] [0, 1, 3, 4, 5, 6] rfl))) ⟨rfl, rfl⟩ rfl rfl ((show Sep g T1 w8 [nER39.A u1 [.slice a6 n4 c6], ownA (rRaw 1) 39 (.slice a9 n7 c9) ([[.slice a6 n4 c6]] : List (List Value)), ownA (rRaw 1) 39 (.slice a7 n5 c7) ([[.slice a5 n3 c5]] : List (List Value)), nestA nER39 39 (.slice a3 n1 c3) x1, nestA nER39 39 (.slice a8 n6 c8) (x2 ++ [u1]), boxA b1 (cProc p0 a1 c1 a2 c2), R] from Sep.exI (a6, n4, c6) (Sep.pI rfl (hS10.bun [2] [0, 1, 3, 4, 5, 6] rfl))).own (i := 1) ⟨rfl, rfl⟩).v underlying79 el39 (room_some hro2) fun w9 a10 n8 c10 im9 hS11 => ?_), trivial⟩
          refine ⟨st0, ?_⟩
          refine t0 rfl trivial (fun _ => r_zs rfl) rfl (t0 rfl trivial (fun _ => r_zs rfl) rfl (te (t_blk (t_then ?_))))
          have hm := oI hm; subst hm
          exact rg (pv (r_ib rfl rfl rfl) (pv (r_mi rfl) (nil (t_then ⟨m1, Nat.lt_succ_self _, _, _, (x1 ++ [u1]), _, _, _, (x2 ++ [u1]), _, _, _, (IntKind.wrap .i64 (x3 + 1)), env_has ⟨rfl, rfl, rfl, rfl, rfl, rfl, trivial⟩, (iT im2 (iT im3 (iT im4 (iT im5 (iT im6 (iT im7 (iT im8 im9))))))), hS11.sel [2, 3, 4, 5] rfl, hn1⟩))))
        refine ⟨st0, ?_⟩
        refine tw [4] rfl (wt_of rfl rfl trivial) rfl (by kernel_rfl) (by kernel_rfl) ⟨br [9, 10, 11] [] rfl (by kernel_rfl) (by kernel_rfl) trivial (by kernel_rfl) (apN (q := 4) (show Sep g T1 w7 [nER39.A u1 [.slice a5 n3 c5], ownA (rRaw 1) 39 (.slice a8 n6 c8) ([[.slice a6 n4 c6]] : List (List Value)), ownA (rRaw 1) 39 (.slice a7 n5 c7) ([[.slice a5 n3 c5]] : List (List Value)), ownA rBool 4 (.slice a6 n4 c6) u1, nestA nER39 39 (.slice a3 n1 c3) x1, nestA nER39 39 (.slice a4 n2 c4) x2, boxA b1 (cProc p0 a1 c1 a2 c2), R] from Sep.exI (a5, n3, c5) (Sep.pI rfl (hS9.bun [3] [0, 1, 2, 4, 5, 6, 7] rfl))) ⟨rfl, rfl⟩ rfl rfl ((show Sep g T1 w7 [nER39.A u1 [.slice a5 n3 c5], ownA (rRaw 1) 39 (.slice a8 n6 c8) ([[.slice a6 n4 c6]] : List (List Value)), ownA (rRaw 1) 39 (.slice a7 n5 c7) ([[.slice a5 n3 c5]] : List (List Value)), ownA rBool 4 (.slice a6 n4 c6) u1, nestA nER39 39 (.slice a3 n1 c3) x1, nestA nER39 39 (.slice a4 n2 c4) x2, boxA b1 (cProc p0 a1 c1 a2 c2), R] from Sep.exI (a5, n3, c5) (Sep.pI rfl (hS9.bun [3] [0, 1, 2, 4, 5, 6, 7] rfl))).own (i := 2) ⟨rfl, rfl⟩).v underlying79 el39 (room_some hro1) fun w8 a9 n7 c9 im8 hS10 => ?_), trivial⟩
        refine ⟨st0, ?_⟩
        refine tw [9] rfl (wt_of rfl rfl trivial) rfl (by kernel_rfl) (by kernel_rfl) ⟨br [10, 11] [] rfl (by kernel_rfl) (by kernel_rfl) trivial (by kernel_rfl) (apN (q := 2) (show Sep g T1 w8 [nER39.A u1 [.slice a6 n4 c6], ownA (rRaw 1) 39 (.slice a8 n6 c8) ([[.slice a6 n4 c6]] : List (List Value)), ownA (rRaw 1) 39 (.slice a7 n5 c7) ([[.slice a5 n3 c5]] : List (List Value)), nestA nER39 39 (.slice a3 n1 c3) x1, nestA nER39 39 (.slice a9 n7 c9) (x2 ++ [u1]), boxA b1 (cProc p0 a1 c1 a2 c2), R] from Sep.exI (a6, n4, c6) (Sep.pI rfl (hS10.bun [2] [0, 1, 3, 4, 5, 6] rfl))) ⟨rfl, rfl⟩ rfl rfl ((show Sep g T1 w8 [nER39.A u1 [.slice a6 n4 c6], ownA (rRaw 1) 39 (.slice a8 n6 c8) ([[.slice a6 n4 c6]] : List (List Value)), ownA (rRaw 1) 39 (.slice a7 n5 c7) ([[.slice a5 n3 c5]] : List (List Value)), nestA nER39 39 (.slice a3 n1 c3) x1, nestA nER39 39 (.slice a9 n7 c9) (x2 ++ [u1]), boxA b1 (cProc p0 a1 c1 a2 c2), R] from Sep.exI (a6, n4, c6) (Sep.pI rfl (hS10.bun [2] [0, 1, 3, 4, 5, 6] rfl))).own (i := 1) ⟨rfl, rfl⟩).v underlying79 el39 (room_some hro2) fun w9 a10 n8 c10 im9 hS11 => ?_), trivial⟩
        refine ⟨st0, ?_⟩
        refine t0 rfl trivial (fun _ => r_zs rfl) rfl (t0 rfl trivial (fun _ => r_zs rfl) rfl (te (t_blk (t_then ?_))))
        have hm := oI hm; subst hm
        exact rg (pv (r_ib rfl rfl rfl) (pv (r_mi rfl) (nil (t_then ⟨m1, Nat.lt_succ_self _, _, _, (x1 ++ [u1]), _, _, _, (x2 ++ [u1]), _, _, _, (IntKind.wrap .i64 (x3 + 1)), env_has ⟨rfl, rfl, rfl, rfl, rfl, rfl, trivial⟩, (iT im2 (iT im3 (iT im4 (iT im5 (iT im6 (iT im7 (iT im8 im9))))))), hS11.sel [2, 3, 4, 5] rfl, hn1⟩))))
      refine ⟨st0, ?_⟩
      refine tw [3] rfl (wt_of rfl rfl trivial) rfl (by kernel_rfl) (by kernel_rfl) ⟨br [4, 9, 10, 11] [] rfl (by kernel_rfl) (by kernel_rfl) trivial (by kernel_rfl) (bsS (r := rRaw 1) (l := [[.slice a5 n3 c5]]) (css := [[.slice a5 n3 c5]]) hS8 underlying79 sizeOf39 zeroValue39 rfl rfl (by kernel_rfl) rfl ⟨⟨rfl, rfl, (List.all_eq_true (p := Value.oneCell')).1 rfl⟩, trivial⟩ rfl rfl fun w7 a8 n6 c8 im7 hS9 => ?_), trivial⟩
      refine ⟨st0, ?_⟩
      refine tw [4] rfl (wt_of rfl rfl trivial) rfl (by kernel_rfl) (by kernel_rfl) ⟨br [9, 10, 11] [] rfl (by kernel_rfl) (by kernel_rfl) trivial (by kernel_rfl) (apN (q := 4) (show Sep g T1 w7 [nER39.A u1 [.slice a5 n3 c5], ownA (rRaw 1) 39 (.slice a8 n6 c8) ([[.slice a5 n3 c5]] : List (List Value)), ownA (rRaw 1) 39 (.slice a7 n5 c7) ([[.slice a6 n4 c6]] : List (List Value)), ownA rBool 4 (.slice a6 n4 c6) u1, nestA nER39 39 (.slice a3 n1 c3) x1, nestA nER39 39 (.slice a4 n2 c4) x2, boxA b1 (cProc p0 a1 c1 a2 c2), R] from Sep.exI (a5, n3, c5) (Sep.pI rfl (hS9.bun [3] [0, 1, 2, 4, 5, 6, 7] rfl))) ⟨rfl, rfl⟩ rfl rfl ((show Sep g T1 w7 [nER39.A u1 [.slice a5 n3 c5], ownA (rRaw 1) 39 (.slice a8 n6 c8) ([[.slice a5 n3 c5]] : List (List Value)), ownA (rRaw 1) 39 (.slice a7 n5 c7) ([[.slice a6 n4 c6]] : List (List Value)), ownA rBool 4 (.slice a6 n4 c6) u1, nestA nER39 39 (.slice a3 n1 c3) x1, nestA nER39 39 (.slice a4 n2 c4) x2, boxA b1 (cProc p0 a1 c1 a2 c2), R] from Sep.exI (a5, n3, c5) (Sep.pI rfl (hS9.bun [3] [0, 1, 2, 4, 5, 6, 7] rfl))).own (i := 1) ⟨rfl, rfl⟩).v underlying79 el39 (room_some hro1) fun w8 a9 n7 c9 im8 hS10 => ?_), trivial⟩
      refine ⟨st0, ?_⟩
      refine tw [9] rfl (wt_of rfl rfl trivial) rfl (by kernel_rfl) (by kernel_rfl) ⟨br [10, 11] [] rfl (by kernel_rfl) (by kernel_rfl) trivial (by kernel_rfl) (apN (q := 2) (show Sep g T1 w8 [nER39.A u1 [.slice a6 n4 c6], ownA (rRaw 1) 39 (.slice a8 n6 c8) ([[.slice a5 n3 c5]] : List (List Value)), ownA (rRaw 1) 39 (.slice a7 n5 c7) ([[.slice a6 n4 c6]] : List (List Value)), nestA nER39 39 (.slice a3 n1 c3) x1, nestA nER39 39 (.slice a9 n7 c9) (x2 ++ [u1]), boxA b1 (cProc p0 a1 c1 a2 c2), R] from Sep.exI (a6, n4, c6) (Sep.pI rfl (hS10.bun [2] [0, 1, 3, 4, 5, 6] rfl))) ⟨rfl, rfl⟩ rfl rfl ((show Sep g T1 w8 [nER39.A u1 [.slice a6 n4 c6], ownA (rRaw 1) 39 (.slice a8 n6 c8) ([[.slice a5 n3 c5]] : List (List Value)), ownA (rRaw 1) 39 (.slice a7 n5 c7) ([[.slice a6 n4 c6]] : List (List Value)), nestA nER39 39 (.slice a3 n1 c3) x1, nestA nER39 39 (.slice a9 n7 c9) (x2 ++ [u1]), boxA b1 (cProc p0 a1 c1 a2 c2), R] from Sep.exI (a6, n4, c6) (Sep.pI rfl (hS10.bun [2] [0, 1, 3, 4, 5, 6] rfl))).own (i := 2) ⟨rfl, rfl⟩).v underlying79 el39 (room_some hro2) fun w9 a10 n8 c10 im9 hS11 => ?_), trivial⟩
      refine ⟨st0, ?_⟩
      refine t0 rfl trivial (fun _ => r_zs rfl) rfl (t0 rfl trivial (fun _ => r_zs rfl) rfl (te (t_blk (t_then ?_))))
      have hm := oI hm; subst hm
      exact rg (pv (r_ib rfl rfl rfl) (pv (r_mi rfl) (nil (t_then ⟨m1, Nat.lt_succ_self _, _, _, (x1 ++ [u1]), _, _, _, (x2 ++ [u1]), _, _, _, (IntKind.wrap .i64 (x3 + 1)), env_has ⟨rfl, rfl, rfl, rfl, rfl, rfl, trivial⟩, (iT im2 (iT im3 (iT im4 (iT im5 (iT im6 (iT im7 (iT im8 im9))))))), hS11.sel [2, 3, 4, 5] rfl, hn1⟩))))
    refine ⟨st0, ?_⟩
    refine tw [2, 8] rfl (wt_of rfl rfl trivial) rfl (by kernel_rfl) (by kernel_rfl) ⟨br [3, 4, 8, 9, 10, 11] [] rfl (by kernel_rfl) (by kernel_rfl) trivial (by kernel_rfl) (msS (r := rBool) hS6 rfl rfl underlying39 el4 zeroValue4 rfl hx1 fun w5 a6 n4 c6 im5 hS7 => ?_), br [2, 3, 4, 9, 10, 11] [] rfl (by kernel_rfl) (by kernel_rfl) trivial (by kernel_rfl) (bsS (r := rRaw 1) (l := [[.slice a5 n3 c5]]) (css := [[.slice a5 n3 c5]]) hS6 underlying79 sizeOf39 zeroValue39 rfl rfl (by kernel_rfl) rfl ⟨⟨rfl, rfl, (List.all_eq_true (p := Value.oneCell')).1 rfl⟩, trivial⟩ rfl rfl fun w5 a6 n4 c6 im5 hS7 => ?_), trivial⟩
    · refine ⟨st0, ?_⟩
      refine tw [3, 8] rfl (wt_of rfl rfl trivial) rfl (by kernel_rfl) (by kernel_rfl) ⟨br [4, 8, 9, 10, 11] [] rfl (by kernel_rfl) (by kernel_rfl) trivial (by kernel_rfl) (bsS (r := rRaw 1) (l := [[.slice a6 n4 c6]]) (css := [[.slice a6 n4 c6]]) hS7 underlying79 sizeOf39 zeroValue39 rfl rfl (by kernel_rfl) rfl ⟨⟨rfl, rfl, (List.all_eq_true (p := Value.oneCell')).1 rfl⟩, trivial⟩ rfl rfl fun w6 a7 n5 c7 im6 hS8 => ?_), br [3, 4, 9, 10, 11] [] rfl (by kernel_rfl) (by kernel_rfl) trivial (by kernel_rfl) (bsS (r := rRaw 1) (l := [[.slice a5 n3 c5]]) (css := [[.slice a5 n3 c5]]) hS7 underlying79 sizeOf39 zeroValue39 rfl rfl (by kernel_rfl) rfl ⟨⟨rfl, rfl, (List.all_eq_true (p := Value.oneCell')).1 rfl⟩, trivial⟩ rfl rfl fun w6 a7 n5 c7 im6 hS8 => ?_), trivial⟩
      · refine ⟨st0, ?_⟩
        refine tw [4, 8] rfl (wt_of rfl rfl trivial) rfl (by kernel_rfl) (by kernel_rfl) ⟨br [8, 9, 10, 11] [] rfl (by kernel_rfl) (by kernel_rfl) trivial (by kernel_rfl) (apN (q := 3) (show Sep g T1 w6 [nER39.A u1 [.slice a6 n4 c6], ownA (rRaw 1) 39 (.slice a7 n5 c7) ([[.slice a6 n4 c6]] : List (List Value)), ownA rBool 4 (.slice a5 n3 c5) u1, nestA nER39 39 (.slice a3 n1 c3) x1, nestA nER39 39 (.slice a4 n2 c4) x2, boxA b1 (cProc p0 a1 c1 a2 c2), R] from Sep.exI (a6, n4, c6) (Sep.pI rfl (hS8.bun [1] [0, 2, 3, 4, 5, 6] rfl))) ⟨rfl, rfl⟩ rfl rfl ((show Sep g T1 w6 [nER39.A u1 [.slice a6 n4 c6], ownA (rRaw 1) 39 (.slice a7 n5 c7) ([[.slice a6 n4 c6]] : List (List Value)), ownA rBool 4 (.slice a5 n3 c5) u1, nestA nER39 39 (.slice a3 n1 c3) x1, nestA nER39 39 (.slice a4 n2 c4) x2, boxA b1 (cProc p0 a1 c1 a2 c2), R] from Sep.exI (a6, n4, c6) (Sep.pI rfl (hS8.bun [1] [0, 2, 3, 4, 5, 6] rfl))).own (i := 1) ⟨rfl, rfl⟩).v underlying79 el39 (room_some hro1) fun w7 a8 n6 c8 im7 hS9 => ?_), br [4, 9, 10, 11] [] rfl (by kernel_rfl) (by kernel_rfl) trivial (by kernel_rfl) (bsS (r := rRaw 1) (l := [[.slice a5 n3 c5]]) (css := [[.slice a5 n3 c5]]) hS8 underlying79 sizeOf39 zeroValue39 rfl rfl (by kernel_rfl) rfl ⟨⟨rfl, rfl, (List.all_eq_true (p := Value.oneCell')).1 rfl⟩, trivial⟩ rfl rfl fun w7 a8 n6 c8 im7 hS9 => ?_), trivial⟩
        · have hS9 : Sep g T1 w7 [ownA (rRaw 1) 39 (.slice a7 n5 c7) ([[.slice a6 n4 c6]] : List (List Value)), ownA rBool 4 (.slice a5 n3 c5) u1, nestA nER39 39 (.slice a3 n1 c3) x1, nestA nER39 39 (.slice a8 n6 c8) (x2 ++ [u1]), boxA b1 (cProc p0 a1 c1 a2 c2), R] := hS9
          refine ⟨st0, ?_⟩
          refine tw [8] rfl (wt_of rfl rfl trivial) rfl (by kernel_rfl) (by kernel_rfl) ⟨br [9, 10, 11] [] rfl (by kernel_rfl) (by kernel_rfl) trivial (by kernel_rfl) (bsS (r := rRaw 1) (l := [[.slice a5 n3 c5]]) (css := [[.slice a5 n3 c5]]) hS9 underlying79 sizeOf39 zeroValue39 rfl rfl (by kernel_rfl) rfl ⟨⟨rfl, rfl, (List.all_eq_true (p := Value.oneCell')).1 rfl⟩, trivial⟩ rfl rfl fun w8 a9 n7 c9 im8 hS10 => ?_), trivial⟩
          refine ⟨st0, ?_⟩
          refine tw [9] rfl (wt_of rfl rfl trivial) rfl (by kernel_rfl) (by kernel_rfl) ⟨br [10, 11] [] rfl (by kernel_rfl) (by kernel_rfl) trivial (by kernel_rfl) (apN (q := 2) (show Sep g T1 w8 [nER39.A u1 [.slice a5 n3 c5], ownA (rRaw 1) 39 (.slice a9 n7 c9) ([[.slice a5 n3 c5]] : List (List Value)), ownA (rRaw 1) 39 (.slice a7 n5 c7) ([[.slice a6 n4 c6]] : List (List Value)), nestA nER39 39 (.slice a3 n1 c3) x1, nestA nER39 39 (.slice a8 n6 c8) (x2 ++ [u1]), boxA b1 (cProc p0 a1 c1 a2 c2), R] from Sep.exI (a5, n3, c5) (Sep.pI rfl (hS10.bun [2] [0, 1, 3, 4, 5, 6] rfl))) ⟨rfl, rfl⟩ rfl rfl ((show Sep g T1 w8 [nER39.A u1 [.slice a5 n3 c5], ownA (rRaw 1) 39 (.slice a9 n7 c9) ([[.slice a5 n3 c5]] : List (List Value)), ownA (rRaw 1) 39 (.slice a7 n5 c7) ([[.slice a6 n4 c6]] : List (List Value)), nestA nER39 39 (.slice a3 n1 c3) x1, nestA nER39 39 (.slice a8 n6 c8) (x2 ++ [u1]), boxA b1 (cProc p0 a1 c1 a2 c2), R] from Sep.exI (a5, n3, c5) (Sep.pI rfl (hS10.bun [2] [0, 1, 3, 4, 5, 6] rfl))).own (i := 1) ⟨rfl, rfl⟩).v underlying79 el39 (room_some hro2) fun w9 a10 n8 c10 im9 hS11 => ?_), trivial⟩
          refine ⟨st0, ?_⟩
          refine t0 rfl trivial (fun _ => r_zs rfl) rfl (t0 rfl trivial (fun _ => r_zs rfl) rfl (te (t_blk (t_then ?_))))
          have hm := oI hm; subst hm
          exact rg (pv (r_ib rfl rfl rfl) (pv (r_mi rfl) (nil (t_then ⟨m1, Nat.lt_succ_self _, _, _, (x1 ++ [u1]), _, _, _, (x2 ++ [u1]), _, _, _, (IntKind.wrap .i64 (x3 + 1)), env_has ⟨rfl, rfl, rfl, rfl, rfl, rfl, trivial⟩, (iT im2 (iT im3 (iT im4 (iT im5 (iT im6 (iT im7 (iT im8 im9))))))), hS11.sel [2, 3, 4, 5] rfl, hn1⟩))))
        refine ⟨st0, ?_⟩
        refine tw [4] rfl (wt_of rfl rfl trivial) rfl (by kernel_rfl) (by kernel_rfl) ⟨br [9, 10, 11] [] rfl (by kernel_rfl) (by kernel_rfl) trivial (by kernel_rfl) (apN (q := 4) (show Sep g T1 w7 [nER39.A u1 [.slice a6 n4 c6], ownA (rRaw 1) 39 (.slice a8 n6 c8) ([[.slice a5 n3 c5]] : List (List Value)), ownA (rRaw 1) 39 (.slice a7 n5 c7) ([[.slice a6 n4 c6]] : List (List Value)), ownA rBool 4 (.slice a5 n3 c5) u1, nestA nER39 39 (.slice a3 n1 c3) x1, nestA nER39 39 (.slice a4 n2 c4) x2, boxA b1 (cProc p0 a1 c1 a2 c2), R] from Sep.exI (a6, n4, c6) (Sep.pI rfl (hS9.bun [2] [0, 1, 3, 4, 5, 6, 7] rfl))) ⟨rfl, rfl⟩ rfl rfl ((show Sep g T1 w7 [nER39.A u1 [.slice a6 n4 c6], ownA (rRaw 1) 39 (.slice a8 n6 c8) ([[.slice a5 n3 c5]] : List (List Value)), ownA (rRaw 1) 39 (.slice a7 n5 c7) ([[.slice a6 n4 c6]] : List (List Value)), ownA rBool 4 (.slice a5 n3 c5) u1, nestA nER39 39 (.slice a3 n1 c3) x1, nestA nER39 39 (.slice a4 n2 c4) x2, boxA b1 (cProc p0 a1 c1 a2 c2), R] from Sep.exI (a6, n4, c6) (Sep.pI rfl (hS9.bun [2] [0, 1, 3, 4, 5, 6, 7] rfl))).own (i := 2) ⟨rfl, rfl⟩).v underlying79 el39 (room_some hro1) fun w8 a9 n7 c9 im8 hS10 => ?_), trivial⟩
        refine ⟨st0, ?_⟩
        refine tw [9] rfl (wt_of rfl rfl trivial) rfl (by kernel_rfl) (by kernel_rfl) ⟨br [10, 11] [] rfl (by kernel_rfl) (by kernel_rfl) trivial (by kernel_rfl) (apN (q := 2) (show Sep g T1 w8 [nER39.A u1 [.slice a5 n3 c5], ownA (rRaw 1) 39 (.slice a8 n6 c8) ([[.slice a5 n3 c5]] : List (List Value)), ownA (rRaw 1) 39 (.slice a7 n5 c7) ([[.slice a6 n4 c6]] : List (List Value)), nestA nER39 39 (.slice a3 n1 c3) x1, nestA nER39 39 (.slice a9 n7 c9) (x2 ++ [u1]), boxA b1 (cProc p0 a1 c1 a2 c2), R] from Sep.exI (a5, n3, c5) (Sep.pI rfl (hS10.bun [2] [0, 1, 3, 4, 5, 6] rfl))) ⟨rfl, rfl⟩ rfl rfl ((show Sep g T1 w8 [nER39.A u1 [.slice a5 n3 c5], ownA (rRaw 1) 39 (.slice a8 n6 c8) ([[.slice a5 n3 c5]] : List (List Value)), ownA (rRaw 1) 39 (.slice a7 n5 c7) ([[.slice a6 n4 c6]] : List (List Value)), nestA nER39 39 (.slice a3 n1 c3) x1, nestA nER39 39 (.slice a9 n7 c9) (x2 ++ [u1]), boxA b1 (cProc p0 a1 c1 a2 c2), R] from Sep.exI (a5, n3, c5) (Sep.pI rfl (hS10.bun [2] [0, 1, 3, 4, 5, 6] rfl))).own (i := 1) ⟨rfl, rfl⟩).v underlying79 el39 (room_some hro2) fun w9 a10 n8 c10 im9 hS11 => ?_), trivial⟩
        refine ⟨st0, ?_⟩
        refine t0 rfl trivial (fun _ => r_zs rfl) rfl (t0 rfl trivial (fun _ => r_zs rfl) rfl (te (t_blk (t_then ?_))))
        have hm := oI hm; subst hm
        exact rg (pv (r_ib rfl rfl rfl) (pv (r_mi rfl) (nil (t_then ⟨m1, Nat.lt_succ_self _, _, _, (x1 ++ [u1]), _, _, _, (x2 ++ [u1]), _, _, _, (IntKind.wrap .i64 (x3 + 1)), env_has ⟨rfl, rfl, rfl, rfl, rfl, rfl, trivial⟩, (iT im2 (iT im3 (iT im4 (iT im5 (iT im6 (iT im7 (iT im8 im9))))))), hS11.sel [2, 3, 4, 5] rfl, hn1⟩))))
      refine ⟨st0, ?_⟩
      refine tw [3] rfl (wt_of rfl rfl trivial) rfl (by kernel_rfl) (by kernel_rfl) ⟨br [4, 9, 10, 11] [] rfl (by kernel_rfl) (by kernel_rfl) trivial (by kernel_rfl) (bsS (r := rRaw 1) (l := [[.slice a6 n4 c6]]) (css := [[.slice a6 n4 c6]]) hS8 underlying79 sizeOf39 zeroValue39 rfl rfl (by kernel_rfl) rfl ⟨⟨rfl, rfl, (List.all_eq_true (p := Value.oneCell')).1 rfl⟩, trivial⟩ rfl rfl fun w7 a8 n6 c8 im7 hS9 => ?_), trivial⟩
      refine ⟨st0, ?_⟩
      refine tw [4] rfl (wt_of rfl rfl trivial) rfl (by kernel_rfl) (by kernel_rfl) ⟨br [9, 10, 11] [] rfl (by kernel_rfl) (by kernel_rfl) trivial (by kernel_rfl) (apN (q := 4) (show Sep g T1 w7 [nER39.A u1 [.slice a6 n4 c6], ownA (rRaw 1) 39 (.slice a8 n6 c8) ([[.slice a6 n4 c6]] : List (List Value)), ownA (rRaw 1) 39 (.slice a7 n5 c7) ([[.slice a5 n3 c5]] : List (List Value)), ownA rBool 4 (.slice a5 n3 c5) u1, nestA nER39 39 (.slice a3 n1 c3) x1, nestA nER39 39 (.slice a4 n2 c4) x2, boxA b1 (cProc p0 a1 c1 a2 c2), R] from Sep.exI (a6, n4, c6) (Sep.pI rfl (hS9.bun [2] [0, 1, 3, 4, 5, 6, 7] rfl))) ⟨rfl, rfl⟩ rfl rfl ((show Sep g T1 w7 [nER39.A u1 [.slice a6 n4 c6], ownA (rRaw 1) 39 (.slice a8 n6 c8) ([[.slice a6 n4 c6]] : List (List Value)), ownA (rRaw 1) 39 (.slice a7 n5 c7) ([[.slice a5 n3 c5]] : List (List Value)), ownA rBool 4 (.slice a5 n3 c5) u1, nestA nER39 39 (.slice a3 n1 c3) x1, nestA nER39 39 (.slice a4 n2 c4) x2, boxA b1 (cProc p0 a1 c1 a2 c2), R] from Sep.exI (a6, n4, c6) (Sep.pI rfl (hS9.bun [2] [0, 1, 3, 4, 5, 6, 7] rfl))).own (i := 1) ⟨rfl, rfl⟩).v underlying79 el39 (room_some hro1) fun w8 a9 n7 c9 im8 hS10 => ?_), trivial⟩
      refine ⟨st0, ?_⟩
      refine tw [9] rfl (wt_of rfl rfl trivial) rfl (by kernel_rfl) (by kernel_rfl) ⟨br [10, 11] [] rfl (by kernel_rfl) (by kernel_rfl) trivial (by kernel_rfl) (apN (q := 2) (show Sep g T1 w8 [nER39.A u1 [.slice a5 n3 c5], ownA (rRaw 1) 39 (.slice a8 n6 c8) ([[.slice a6 n4 c6]] : List (List Value)), ownA (rRaw 1) 39 (.slice a7 n5 c7) ([[.slice a5 n3 c5]] : List (List Value)), nestA nER39 39 (.slice a3 n1 c3) x1, nestA nER39 39 (.slice a9 n7 c9) (x2 ++ [u1]), boxA b1 (cProc p0 a1 c1 a2 c2), R] from Sep.exI (a5, n3, c5) (Sep.pI rfl (hS10.bun [2] [0, 1, 3, 4, 5, 6] rfl))) ⟨rfl, rfl⟩ rfl rfl ((show Sep g T1 w8 [nER39.A u1 [.slice a5 n3 c5], ownA (rRaw 1) 39 (.slice a8 n6 c8) ([[.slice a6 n4 c6]] : List (List Value)), ownA (rRaw 1) 39 (.slice a7 n5 c7) ([[.slice a5 n3 c5]] : List (List Value)), nestA nER39 39 (.slice a3 n1 c3) x1, nestA nER39 39 (.slice a9 n7 c9) (x2 ++ [u1]), boxA b1 (cProc p0 a1 c1 a2 c2), R] from Sep.exI (a5, n3, c5) (Sep.pI rfl (hS10.bun [2] [0, 1, 3, 4, 5, 6] rfl))).own (i := 2) ⟨rfl, rfl⟩).v underlying79 el39 (room_some hro2) fun w9 a10 n8 c10 im9 hS11 => ?_), trivial⟩
      refine ⟨st0, ?_⟩
      refine t0 rfl trivial (fun _ => r_zs rfl) rfl (t0 rfl trivial (fun _ => r_zs rfl) rfl (te (t_blk (t_then ?_))))
      have hm := oI hm; subst hm
      exact rg (pv (r_ib rfl rfl rfl) (pv (r_mi rfl) (nil (t_then ⟨m1, Nat.lt_succ_self _, _, _, (x1 ++ [u1]), _, _, _, (x2 ++ [u1]), _, _, _, (IntKind.wrap .i64 (x3 + 1)), env_has ⟨rfl, rfl, rfl, rfl, rfl, rfl, trivial⟩, (iT im2 (iT im3 (iT im4 (iT im5 (iT im6 (iT im7 (iT im8 im9))))))), hS11.sel [2, 3, 4, 5] rfl, hn1⟩))))
    refine ⟨st0, ?_⟩
    refine tw [2] rfl (wt_of rfl rfl trivial) rfl (by kernel_rfl) (by kernel_rfl) ⟨br [3, 4, 9, 10, 11] [] rfl (by kernel_rfl) (by kernel_rfl) trivial (by kernel_rfl) (msS (r := rBool) hS7 rfl rfl underlying39 el4 zeroValue4 rfl hx1 fun w6 a7 n5 c7 im6 hS8 => ?_), trivial⟩
    refine ⟨st0, ?_⟩
    refine tw [3] rfl (wt_of rfl rfl trivial) rfl (by kernel_rfl) (by kernel_rfl) ⟨br [4, 9, 10, 11] [] rfl (by kernel_rfl) (by kernel_rfl) trivial (by kernel_rfl) (bsS (r := rRaw 1) (l := [[.slice a7 n5 c7]]) (css := [[.slice a7 n5 c7]]) hS8 underlying79 sizeOf39 zeroValue39 rfl rfl (by kernel_rfl) rfl ⟨⟨rfl, rfl, (List.all_eq_true (p := Value.oneCell')).1 rfl⟩, trivial⟩ rfl rfl fun w7 a8 n6 c8 im7 hS9 => ?_), trivial⟩
    refine ⟨st0, ?_⟩
    refine tw [4] rfl (wt_of rfl rfl trivial) rfl (by kernel_rfl) (by kernel_rfl) ⟨br [9, 10, 11] [] rfl (by kernel_rfl) (by kernel_rfl) trivial (by kernel_rfl) (apN (q := 4) (show Sep g T1 w7 [nER39.A u1 [.slice a7 n5 c7], ownA (rRaw 1) 39 (.slice a8 n6 c8) ([[.slice a7 n5 c7]] : List (List Value)), ownA (rRaw 1) 39 (.slice a6 n4 c6) ([[.slice a5 n3 c5]] : List (List Value)), ownA rBool 4 (.slice a5 n3 c5) u1, nestA nER39 39 (.slice a3 n1 c3) x1, nestA nER39 39 (.slice a4 n2 c4) x2, boxA b1 (cProc p0 a1 c1 a2 c2), R] from Sep.exI (a7, n5, c7) (Sep.pI rfl (hS9.bun [1] [0, 2, 3, 4, 5, 6, 7] rfl))) ⟨rfl, rfl⟩ rfl rfl ((show Sep g T1 w7 [nER39.A u1 [.slice a7 n5 c7], ownA (rRaw 1) 39 (.slice a8 n6 c8) ([[.slice a7 n5 c7]] : List (List Value)), ownA (rRaw 1) 39 (.slice a6 n4 c6) ([[.slice a5 n3 c5]] : List (List Value)), ownA rBool 4 (.slice a5 n3 c5) u1, nestA nER39 39 (.slice a3 n1 c3) x1, nestA nER39 39 (.slice a4 n2 c4) x2, boxA b1 (cProc p0 a1 c1 a2 c2), R] from Sep.exI (a7, n5, c7) (Sep.pI rfl (hS9.bun [1] [0, 2, 3, 4, 5, 6, 7] rfl))).own (i := 1) ⟨rfl, rfl⟩).v underlying79 el39 (room_some hro1) fun w8 a9 n7 c9 im8 hS10 => ?_), trivial⟩
    refine ⟨st0, ?_⟩
    refine tw [9] rfl (wt_of rfl rfl trivial) rfl (by kernel_rfl) (by kernel_rfl) ⟨br [10, 11] [] rfl (by kernel_rfl) (by kernel_rfl) trivial (by kernel_rfl) (apN (q := 2) (show Sep g T1 w8 [nER39.A u1 [.slice a5 n3 c5], ownA (rRaw 1) 39 (.slice a8 n6 c8) ([[.slice a7 n5 c7]] : List (List Value)), ownA (rRaw 1) 39 (.slice a6 n4 c6) ([[.slice a5 n3 c5]] : List (List Value)), nestA nER39 39 (.slice a3 n1 c3) x1, nestA nER39 39 (.slice a9 n7 c9) (x2 ++ [u1]), boxA b1 (cProc p0 a1 c1 a2 c2), R] from Sep.exI (a5, n3, c5) (Sep.pI rfl (hS10.bun [2] [0, 1, 3, 4, 5, 6] rfl))) ⟨rfl, rfl⟩ rfl rfl ((show Sep g T1 w8 [nER39.A u1 [.slice a5 n3 c5], ownA (rRaw 1) 39 (.slice a8 n6 c8) ([[.slice a7 n5 c7]] : List (List Value)), ownA (rRaw 1) 39 (.slice a6 n4 c6) ([[.slice a5 n3 c5]] : List (List Value)), nestA nER39 39 (.slice a3 n1 c3) x1, nestA nER39 39 (.slice a9 n7 c9) (x2 ++ [u1]), boxA b1 (cProc p0 a1 c1 a2 c2), R] from Sep.exI (a5, n3, c5) (Sep.pI rfl (hS10.bun [2] [0, 1, 3, 4, 5, 6] rfl))).own (i := 2) ⟨rfl, rfl⟩).v underlying79 el39 (room_some hro2) fun w9 a10 n8 c10 im9 hS11 => ?_), trivial⟩
    refine ⟨st0, ?_⟩
    refine t0 rfl trivial (fun _ => r_zs rfl) rfl (t0 rfl trivial (fun _ => r_zs rfl) rfl (te (t_blk (t_then ?_))))
    have hm := oI hm; subst hm
    exact rg (pv (r_ib rfl rfl rfl) (pv (r_mi rfl) (nil (t_then ⟨m1, Nat.lt_succ_self _, _, _, (x1 ++ [u1]), _, _, _, (x2 ++ [u1]), _, _, _, (IntKind.wrap .i64 (x3 + 1)), env_has ⟨rfl, rfl, rfl, rfl, rfl, rfl, trivial⟩, (iT im2 (iT im3 (iT im4 (iT im5 (iT im6 (iT im7 (iT im8 im9))))))), hS11.sel [2, 3, 4, 5] rfl, hn1⟩))))
  have hm := cfalse hb1 hm
  have hm := oI hm; subst hm
  have hn1 : _ = Lp.brk _ := hn1
  subst hn1
  have hm := thn_brk hq1
  refine xt (x_then (x_then (x_eq (t_then ?_))))
  refine sq2 (sq2 (rg (pv (r_fa rfl underlying31 rfl sizeOf29 rfl) (pv (r_ld rfl isAgg29 (hS4.cell0 (i := 2) ⟨rfl, rfl⟩ (j := 5) rfl)) (pv (r_ln rfl underlying29) (pv (r_mi rfl) (nil (t_then ?_))))))))
  obtain ⟨o1, ho1, hq1⟩ := bindS hm
  obtain ⟨bd1, hbd1, ho1⟩ := loop_open ho1
  refine blk (wp_loop_ghost (fun m a w10 => ∃ (J : JV) (T2 : TP) (x4 : List (List Bool)) (a11 : OA) (n9 : Nat) (c11 : Nat) (x5 : Int), a = env (nf 110) J [(1, pt b1 0), (2, .slice a4 n2 c4), (3, .slice a11 n9 c11), (34, sv a2 p0.Blocks c2), (35, iv (List.length p0.Blocks : Int)), (36, iv x5)] ∧ Im T1 w2 T2 w10 ∧ Sep g T2 w10 [nestA nER39 39 (.slice a11 n9 c11) x4, nestA nER39 39 (.slice a4 n2 c4) x2, boxA b1 (cProc p0 a1 c1 a2 c2), R] ∧ loopM bd1 m (x4, x5) = some o1) NN ⟨_, _, x1, _, _, _, 0, env_has ⟨rfl, rfl, rfl, rfl, rfl, rfl, trivial⟩, Im.refl, hS4.sel [0, 1, 2, 3] rfl, ho1⟩ ?_)
  rintro m _ w10 ⟨J, T2, x4, a11, n9, c11, x5, rfl, im10, hS12, ho1⟩
  obtain ⟨m1, z1, rfl, hm, hn1⟩ := loop_round ho1
  rw [hbd1] at hm
  refine sq2 (rg (pv (r_ib rfl rfl rfl) (nil (t_then ?_))))
  refine sq2 (cnd rfl (fun hb2 => ?_) (fun hb2 => ?_))
  · have hm := ctrue hb2 hm
    refine skp (t_then ?_)
    refine sq2 (blk (sq2 ?_))
    obtain ⟨u2, hx2, hm⟩ := bindS hm
    obtain ⟨b2, of1, cs1, k1, cp1, hv1, hp1, hl1, he1, hr1, hc1, hT1⟩ := (h2.mono (iT im1 (iT im2 im10))).ixT hx2 rfl
    obtain ⟨a12, c12, rfl, h3⟩ := rGBlock_open hr1
    refine rg (pv (r_mi rfl) (pv (r_ixe hv1 rfl underlying29 sizeOf52 hp1 hl1 he1) (pv (r_ldS rfl isAgg52 sizeOf52 rfl hc1 (cs := [sv a12 u2.Ins c12, iv u2.End, iv u2.A, iv u2.To, iv u2.Else])) (wl rfl (alS (zs := [.slice none 0 0, iv 0, iv 0, iv 0, iv 0]) zeroValue52 rfl hS12 fun w11 b3 im11 hS13 => ?_)))))
    refine pv (r_zi rfl) (wl rfl (st0B (q := 0) hS13 ⟨rfl, rfl⟩ rfl rfl rfl sizeOf52 rfl rfl rfl fun w12 im12 hS14 => ?_))
    refine nil (t_then ?_)
    refine rs [0, 0, 0, 1, 1, 2] [0, 1, 2, 3, 4, 5] mix (by kernel_rfl) hS14.lt fun w13 i2 => ?_
    have im13 := i2.imm
    have hS15 := hS14.keep i2 (fun _ h => h)
    refine s0 rfl trivial (fun _ => r_ms rfl) rfl (s0 rfl trivial (fun _ => r_mi rfl) rfl (?_))
    obtain ⟨u3, hx3, hm⟩ := bindS hm
    obtain ⟨b4, of2, k2, cp2, hv2, hp2, hl2, he2⟩ := hS15.nhd (q := 1) ⟨rfl, rfl⟩ hx3 rfl
    obtain ⟨css1, cs2, hS16⟩ := hS15.nfocus (q := 1) ⟨rfl, rfl⟩ hx3
    obtain ⟨⟨a13, n10, c13⟩, hS17⟩ := hS16.exE
    obtain ⟨hcs1, hS18⟩ := hS17.pE
    subst hcs1
    have hS19 : Sep g T2 w13 [ownA rBool 4 (.slice a13 n10 c13) u3, elsA nER39 x4 css1 (some (Int.toNat x5)), boxA b3 [sv a12 u2.Ins c12, iv u2.End, iv u2.A, iv u2.To, iv u2.Else], (holeA (rRaw 1) 39 (.slice a11 n9 c11) css1 (Int.toNat x5)) [.slice a13 n10 c13], nestA nER39 39 (.slice a4 n2 c4) x2, boxA b1 (cProc p0 a1 c1 a2 c2), R] := hS18.unb
    obtain ⟨y1, hx4, hm⟩ := bindS hm
    refine s0 rfl trivial (fun _ => r_ixe hv2 rfl underlying79 sizeOf39 hp2 hl2 he2) rfl (s1 rfl trivial (r_ld rfl isAgg39 (hS19.cellB (i := 3) ⟨rfl, rfl⟩ (lnHole (i := x5) hv2 he2) (j := 0) rfl)) rfl (s1 rfl trivial (r_ldS rfl isAgg52 sizeOf52 rfl (hS19.cells0 (i := 2) ⟨rfl, rfl⟩ (o := 0) rfl) (cs := [sv a12 u2.Ins c12, iv u2.End, iv u2.A, iv u2.To, iv u2.Else])) rfl (s2 [] rfl trivial rfl (by kernel_rfl) (calS cf44 rfl (flow_ended_sim (p0 := u3) (p1 := u2) (hS19.bun [1, 3, 4, 5, 6, 2] [0] rfl) (h3.mono (iT im11 (iT im12 im13))) hx4) rfl fun v1 T3 w14 im14 rv1 => ?_))))
    obtain ⟨rfl, hS20, _⟩ := rv1
    have hS20 := hS20.unb
    refine ⟨st0, ?_⟩
    refine se (t_blk (t_then ?_))
    have hS21 := hS20.bun [6] [0, 1, 2, 3, 4, 5] rfl
    have hS22 : Sep g T3 w14 [nER39.A y1 [.slice a13 n10 c13], elsA nER39 x4 css1 (some (Int.toNat x5)), (holeA (rRaw 1) 39 (.slice a11 n9 c11) css1 (Int.toNat x5)) [.slice a13 n10 c13], nestA nER39 39 (.slice a4 n2 c4) x2, boxA b1 (cProc p0 a1 c1 a2 c2), R, boxA b3 [sv a12 u2.Ins c12, iv u2.End, iv u2.A, iv u2.To, iv u2.Else]] := Sep.exI (a13, n10, c13) (Sep.pI rfl hS21)
    have hS23 : Sep g T3 w14 [nestA nER39 39 (.slice a11 n9 c11) (List.set x4 (Int.toNat x5) y1), nestA nER39 39 (.slice a4 n2 c4) x2, boxA b1 (cProc p0 a1 c1 a2 c2), R, boxA b3 [sv a12 u2.Ins c12, iv u2.End, iv u2.A, iv u2.To, iv u2.Else]] := hS22.nunfocus (q := 0) ⟨rfl, rfl⟩ (idx_ltn hx3)
    have hm := oI hm; subst hm
    exact rg (pv (r_ib rfl rfl rfl) (pv (r_mi rfl) (nil (t_then ⟨m1, Nat.lt_succ_self _, _, _, (List.set x4 (Int.toNat x5) y1), _, _, _, (IntKind.wrap .i64 (x5 + 1)), env_has ⟨rfl, rfl, rfl, rfl, rfl, rfl, trivial⟩, (iT im10 (iT im11 (iT im12 (iT im13 im14)))), hS23.sel [0, 1, 2, 3] rfl, hn1⟩))))
  have hm := cfalse hb2 hm
  have hm := oI hm; subst hm
  have hn1 : _ = Lp.brk _ := hn1
  subst hn1
  have hm := thn_brk hq1
  refine xt (x_then (x_then (x_eq (t_then ?_))))
  refine sq2 (sq2 (rg (pv (r_zb rfl) (nil (t_then ?_)))))
  obtain ⟨o1, ho1, hq1⟩ := bindS hm
  obtain ⟨bd1, hbd1, ho1⟩ := loop_open ho1
  refine blk (wp_loop_ghost (fun m a w15 => ∃ (J : JV) (T4 : TP) (x6 : List (List Bool)) (a14 : OA) (n11 : Nat) (c14 : Nat) (x7 : List (List Bool)) (a15 : OA) (n12 : Nat) (c15 : Nat) (x8 : Bool), a = env (nf 110) J [(1, pt b1 0), (2, .slice a15 n12 c15), (3, .slice a14 n11 c14), (7, .bool x8)] ∧ Im T2 w10 T4 w15 ∧ Sep g T4 w15 [nestA nER39 39 (.slice a14 n11 c14) x6, nestA nER39 39 (.slice a15 n12 c15) x7, boxA b1 (cProc p0 a1 c1 a2 c2), R] ∧ loopM bd1 m (x6, x7, x8) = some o1) NN ⟨_, _, x4, _, _, _, x2, _, _, _, true, env_has ⟨rfl, rfl, rfl, rfl, trivial⟩, Im.refl, hS12.sel [0, 1, 2, 3] rfl, ho1⟩ ?_)
  rintro m _ w15 ⟨J, T4, x6, a14, n11, c14, x7, a15, n12, c15, x8, rfl, im15, hS24, ho1⟩
  obtain ⟨m1, z1, rfl, hm, hn1⟩ := loop_round ho1
  rw [hbd1] at hm
  refine sq2 (sq2 (rg (pv (r_mb rfl) (nil (t_then ?_)))))
  refine cnd rfl (fun hb3 => ?_) (fun hb3 => ?_)
  · have hm := ctrue hb3 hm
    refine skp (t_then ?_)
    refine blk (sq2 (rg (pv (r_zb rfl) (nil (t_then ?_)))))
    refine sq2 (rg (pv (r_fa rfl underlying31 rfl sizeOf29 rfl) (pv (r_ld rfl isAgg29 (hS24.cell0 (i := 2) ⟨rfl, rfl⟩ (j := 5) rfl)) (pv (r_ln rfl underlying29) (pv (r_ib rfl rfl rfl) (pv (r_zi rfl) (nil (t_then ?_))))))))
    obtain ⟨o2, ho2, hq2⟩ := bindS hm
    obtain ⟨bd2, hbd2, ho2⟩ := loop_open ho2
    refine blk (wp_loop_ghost (fun m a w16 => ∃ (J : JV) (T5 : TP) (x9 : List (List Bool)) (a16 : OA) (n13 : Nat) (c16 : Nat) (x10 : List (List Bool)) (a17 : OA) (n14 : Nat) (c17 : Nat) (x11 : Bool) (x12 : Int), a = env (nf 110) J [(1, pt b1 0), (2, .slice a17 n14 c17), (3, .slice a16 n13 c16), (7, .bool x11), (8, iv x12)] ∧ Im T4 w15 T5 w16 ∧ Sep g T5 w16 [nestA nER39 39 (.slice a16 n13 c16) x9, nestA nER39 39 (.slice a17 n14 c17) x10, boxA b1 (cProc p0 a1 c1 a2 c2), R] ∧ loopM bd2 m (x9, x10, x11, x12) = some o2) NN ⟨_, _, x6, _, _, _, x7, _, _, _, false, (IntKind.wrap .i64 ((List.length p0.Blocks : Int) - 1)), env_has ⟨rfl, rfl, rfl, rfl, rfl, trivial⟩, Im.refl, hS24.sel [0, 1, 2, 3] rfl, ho2⟩ ?_)
    rintro m _ w16 ⟨J, T5, x9, a16, n13, c16, x10, a17, n14, c17, x11, x12, rfl, im16, hS25, ho2⟩
    obtain ⟨m2, z2, rfl, hm, hn2⟩ := loop_round ho2
    rw [hbd2] at hm
    refine sq2 (sq2 (rg (pv (r_mi rfl) (pv (r_ib rfl rfl rfl) (nil (t_then ?_))))))
    refine cnd rfl (fun hb4 => ?_) (fun hb4 => ?_)
    · have hm := ctrue hb4 hm
      refine skp (t_then ?_)
      refine sq2 (blk (sq2 (sq2 ?_)))
      obtain ⟨y2, hx5, hm⟩ := bindS hm
      refine rg (pv (r_ldS rfl isAgg31 sizeOf31 rfl (hS25.cells0 (i := 2) ⟨rfl, rfl⟩ (o := 0) rfl) (cs := (cProc p0 a1 c1 a2 c2))) (pv (r_mi rfl) (wl rfl (calS cf45 rfl (flow_outs_sim (p0 := p0) (p1 := x12) (hS25.bun [0, 1, 2, 3] [] rfl) (h1.mono (iT im1 (iT im2 (iT im10 (iT im15 im16))))) (h2.mono (iT im1 (iT im2 (iT im10 (iT im15 im16))))) hx5) rfl fun v2 T6 w17 im17 rv2 => ?_))))
      obtain ⟨a18, n15, c18, rfl, hS26, _⟩ := rv2
      have hS26 := hS26.unb
      refine pv (r_lnV rfl (hS26.own (i := 4) ⟨rfl, rfl⟩).v underlying41) (pv (r_mi rfl) (nil (t_then ?_)))
      obtain ⟨o3, ho3, hq3⟩ := bindS hm
      obtain ⟨bd3, hbd3, ho3⟩ := loop_open ho3
      refine blk (wp_loop_ghost (fun m a w18 => ∃ (J : JV) (T7 : TP) (x13 : List (List Bool)) (a19 : OA) (n16 : Nat) (c19 : Nat) (x14 : Int), a = env (nf 110) J [(1, pt b1 0), (2, .slice a17 n14 c17), (3, .slice a19 n16 c19), (7, .bool x11), (8, iv x12), (59, .slice a18 n15 c18), (60, iv (List.length y2 : Int)), (61, iv x14)] ∧ Im T6 w17 T7 w18 ∧ Sep g T7 w18 [nestA nER39 39 (.slice a19 n16 c19) x13, nestA nER39 39 (.slice a17 n14 c17) x10, boxA b1 (cProc p0 a1 c1 a2 c2), R, ownA (rInt .i64) 3 (.slice a18 n15 c18) y2] ∧ loopM bd3 m (x13, x14) = some o3) NN ⟨_, _, x9, _, _, _, 0, env_has ⟨rfl, rfl, rfl, rfl, rfl, rfl, rfl, rfl, trivial⟩, Im.refl, hS26.sel [0, 1, 2, 3, 4] rfl, ho3⟩ ?_)
      rintro m _ w18 ⟨J, T7, x13, a19, n16, c19, x14, rfl, im18, hS27, ho3⟩
      obtain ⟨m3, z3, rfl, hm, hn3⟩ := loop_round ho3
      rw [hbd3] at hm
      refine sq2 (rg (pv (r_ib rfl rfl rfl) (nil (t_then ?_))))
      refine sq2 (cnd rfl (fun hb5 => ?_) (fun hb5 => ?_))
      · have hm := ctrue hb5 hm
        refine skp (t_then ?_)
        refine sq2 (blk (sq2 ?_))
        obtain ⟨u4, hx6, hm⟩ := bindS hm
        obtain ⟨b5, of3, cs3, k3, cp3, hv3, hp3, hl3, he3, hr2, hc2⟩ := (hS27.own (i := 4) ⟨rfl, rfl⟩).v.ixq hx6 rfl
        cases hr2
        refine rg (pv (r_ixe hv3 rfl underlying41 sizeOf3 hp3 hl3 he3) (pv (r_ld rfl isAgg3 (hc2.get (j := 0) rfl)) (pv (r_zi rfl) (nil (t_then ?_)))))
        refine rs [0, 0, 0, 1, 0, 0, 0, 1, 2] [0, 1, 2, 3, 4, 5, 6, 7, 8] mix (by kernel_rfl) hS27.lt fun w19 i3 => ?_
        have im19 := i3.imm
        have hS28 := hS27.keep i3 (fun _ h => h)
        refine s0 rfl trivial (fun _ => r_ms rfl) rfl (s0 rfl trivial (fun _ => r_mi rfl) rfl (?_))
        obtain ⟨u5, hx7, hm⟩ := bindS hm
        obtain ⟨b6, of4, k4, cp4, hv4, hp4, hl4, he4⟩ := hS28.nhd (q := 0) ⟨rfl, rfl⟩ hx7 rfl
        obtain ⟨css2, cs4, hS29⟩ := hS28.nfocus (q := 0) ⟨rfl, rfl⟩ hx7
        obtain ⟨⟨a20, n17, c20⟩, hS30⟩ := hS29.exE
        obtain ⟨hcs2, hS31⟩ := hS30.pE
        subst hcs2
        have hS32 : Sep g T7 w19 [ownA rBool 4 (.slice a20 n17 c20) u5, elsA nER39 x13 css2 (some (Int.toNat x12)), (holeA (rRaw 1) 39 (.slice a19 n16 c19) css2 (Int.toNat x12)) [.slice a20 n17 c20], nestA nER39 39 (.slice a17 n14 c17) x10, boxA b1 (cProc p0 a1 c1 a2 c2), R, ownA (rInt .i64) 3 (.slice a18 n15 c18) y2] := hS31.unb
        refine s0 rfl trivial (fun _ => r_ixe hv4 rfl underlying79 sizeOf39 hp4 hl4 he4) rfl (s1 rfl trivial (r_ld rfl isAgg39 (hS32.cellB (i := 2) ⟨rfl, rfl⟩ (lnHole (i := x12) hv4 he4) (j := 0) rfl)) rfl (s0 rfl trivial (fun _ => r_ms rfl) rfl (s0 rfl trivial (fun _ => r_mi rfl) rfl (?_))))
        obtain ⟨u6, hx8, hm⟩ := bindS hm
        obtain ⟨b7, of5, k5, cp5, hv5, hp5, hl5, he5⟩ := hS32.nhd (q := 3) ⟨rfl, rfl⟩ hx8 rfl
        obtain ⟨css3, cs5, hS33⟩ := hS32.nfocus (q := 3) ⟨rfl, rfl⟩ hx8
        obtain ⟨⟨a21, n18, c21⟩, hS34⟩ := hS33.exE
        obtain ⟨hcs3, hS35⟩ := hS34.pE
        subst hcs3
        have hS36 : Sep g T7 w19 [ownA rBool 4 (.slice a21 n18 c21) u6, elsA nER39 x10 css3 (some (Int.toNat u4)), ownA rBool 4 (.slice a20 n17 c20) u5, elsA nER39 x13 css2 (some (Int.toNat x12)), (holeA (rRaw 1) 39 (.slice a19 n16 c19) css2 (Int.toNat x12)) [.slice a20 n17 c20], (holeA (rRaw 1) 39 (.slice a17 n14 c17) css3 (Int.toNat u4)) [.slice a21 n18 c21], boxA b1 (cProc p0 a1 c1 a2 c2), R, ownA (rInt .i64) 3 (.slice a18 n15 c18) y2] := hS35.unb
        obtain ⟨y3, hx9, hm⟩ := bindS hm
        refine s0 rfl trivial (fun _ => r_ixe hv5 rfl underlying79 sizeOf39 hp5 hl5 he5) rfl (s1 rfl trivial (r_ld rfl isAgg39 (hS36.cellB (i := 5) ⟨rfl, rfl⟩ (lnHole (i := u4) hv5 he5) (j := 0) rfl)) rfl (s2 [] rfl trivial rfl (by kernel_rfl) (calS cf46 rfl (flow_join_sim (p0 := u5) (p1 := u6) (H_p1 := ownA rBool 4 (.slice a21 n18 c21) u6) (hS36.bun [1, 3, 4, 5, 6, 7, 8] [2, 0] rfl) vwOwn hx9) rfl fun v3 T8 w20 im20 rv3 => ?_)))
        obtain ⟨rfl, hS37, _⟩ := rv3
        have hS37 := hS37.unb
        refine ⟨st0, ?_⟩
        refine se (t_blk (t_then ?_))
        have hS38 := hS37.bun [7] [1, 0, 2, 3, 4, 5, 6, 8] rfl
        have hS39 : Sep g T8 w20 [nER39.A y3.2 [.slice a20 n17 c20], elsA nER39 x13 css2 (some (Int.toNat x12)), elsA nER39 x10 css3 (some (Int.toNat u4)), (holeA (rRaw 1) 39 (.slice a19 n16 c19) css2 (Int.toNat x12)) [.slice a20 n17 c20], (holeA (rRaw 1) 39 (.slice a17 n14 c17) css3 (Int.toNat u4)) [.slice a21 n18 c21], boxA b1 (cProc p0 a1 c1 a2 c2), R, ownA (rInt .i64) 3 (.slice a18 n15 c18) y2, ownA rBool 4 (.slice a21 n18 c21) u6] := Sep.exI (a20, n17, c20) (Sep.pI rfl hS38)
        have hS40 : Sep g T8 w20 [elsA nER39 x10 css3 (some (Int.toNat u4)), nestA nER39 39 (.slice a19 n16 c19) (List.set x13 (Int.toNat x12) y3.2), (holeA (rRaw 1) 39 (.slice a17 n14 c17) css3 (Int.toNat u4)) [.slice a21 n18 c21], boxA b1 (cProc p0 a1 c1 a2 c2), R, ownA (rInt .i64) 3 (.slice a18 n15 c18) y2, ownA rBool 4 (.slice a21 n18 c21) u6] := hS39.nunfocus (q := 1) ⟨rfl, rfl⟩ (idx_ltn hx7)
        have hS41 := hS40.bun [6] [0, 1, 2, 3, 4, 5] rfl
        have hS42 : Sep g T8 w20 [nER39.A u6 [.slice a21 n18 c21], elsA nER39 x10 css3 (some (Int.toNat u4)), nestA nER39 39 (.slice a19 n16 c19) (List.set x13 (Int.toNat x12) y3.2), (holeA (rRaw 1) 39 (.slice a17 n14 c17) css3 (Int.toNat u4)) [.slice a21 n18 c21], boxA b1 (cProc p0 a1 c1 a2 c2), R, ownA (rInt .i64) 3 (.slice a18 n15 c18) y2] := Sep.exI (a21, n18, c21) (Sep.pI rfl hS41)
        have hS43 : Sep g T8 w20 [nestA nER39 39 (.slice a19 n16 c19) (List.set x13 (Int.toNat x12) y3.2), nestA nER39 39 (.slice a17 n14 c17) x10, boxA b1 (cProc p0 a1 c1 a2 c2), R, ownA (rInt .i64) 3 (.slice a18 n15 c18) y2] := hS42.nunfocus0 (q := 1) ⟨rfl, rfl⟩ hx8
        have hm := oI hm; subst hm
        exact rg (pv (r_ib rfl rfl rfl) (pv (r_mi rfl) (nil (t_then ⟨m3, Nat.lt_succ_self _, _, _, (List.set x13 (Int.toNat x12) y3.2), _, _, _, (IntKind.wrap .i64 (x14 + 1)), env_has ⟨rfl, rfl, rfl, rfl, rfl, rfl, rfl, rfl, trivial⟩, (iT im18 (iT im19 im20)), hS43.sel [0, 1, 2, 3, 4] rfl, hn3⟩))))
      have hm := cfalse hb5 hm
      have hm := oI hm; subst hm
      have hn3 : _ = Lp.brk _ := hn3
      subst hn3
      have hm := thn_brk hq3
      refine xt (x_then (x_then (x_eq (t_then ?_))))
      refine sq2 (rg (pv (r_ms rfl) (pv (r_mi rfl) (?_))))
      obtain ⟨u7, hx10, hm⟩ := bindS hm
      obtain ⟨b8, of6, k6, cp6, hv6, hp6, hl6, he6⟩ := hS27.nhd (q := 0) ⟨rfl, rfl⟩ hx10 rfl
      obtain ⟨css4, cs6, hS44⟩ := hS27.nfocus (q := 0) ⟨rfl, rfl⟩ hx10
      obtain ⟨⟨a22, n19, c22⟩, hS45⟩ := hS44.exE
      obtain ⟨hcs4, hS46⟩ := hS45.pE
      subst hcs4
      have hS47 : Sep g T7 w18 [ownA rBool 4 (.slice a22 n19 c22) u7, elsA nER39 x13 css4 (some (Int.toNat x12)), (holeA (rRaw 1) 39 (.slice a19 n16 c19) css4 (Int.toNat x12)) [.slice a22 n19 c22], nestA nER39 39 (.slice a17 n14 c17) x10, boxA b1 (cProc p0 a1 c1 a2 c2), R, ownA (rInt .i64) 3 (.slice a18 n15 c18) y2] := hS46.unb
      obtain ⟨y4, hx11, hm⟩ := bindS hm
      refine pv (r_ixe hv6 rfl underlying79 sizeOf39 hp6 hl6 he6) (pv (r_ld rfl isAgg39 (hS47.cellB (i := 2) ⟨rfl, rfl⟩ (lnHole (i := x12) hv6 he6) (j := 0) rfl)) (wl rfl (calS cf47 rfl (slices_Clone_sim (p0 := u7) (H_p0 := ownA rBool 4 (.slice a22 n19 c22) u7) (hS47.bun [1, 2, 3, 4, 5] [0] rfl) vwOwn hx11) rfl fun v4 T9 w21 im21 rv4 => ?_)))
      obtain ⟨a23, n20, c23, rfl, hS48, _⟩ := rv4
      have hS48 := hS48.unb
      refine pv (r_zs rfl) (nil (t_then ?_))
      refine sq2 ?_
      obtain ⟨u8, hx12, hm⟩ := bindS hm
      obtain ⟨b9, of7, cs7, k7, cp7, hv7, hp7, hl7, he7, hr3, hc3, hT2⟩ := (h2.mono (iT im1 (iT im2 (iT im10 (iT im15 (iT im16 (iT im17 (iT im18 im21)))))))).ixT hx12 rfl
      obtain ⟨a24, c24, rfl, h4⟩ := rGBlock_open hr3
      refine rg (pv (r_fa rfl underlying31 rfl sizeOf29 rfl) (pv (r_ld rfl isAgg29 (hS48.cell0 (i := 3) ⟨rfl, rfl⟩ (j := 5) rfl)) (pv (r_mi rfl) (pv (r_ixe hv7 rfl underlying29 sizeOf52 hp7 hl7 he7) (pv (r_fa rfl underlying52 rfl sizeOf50 rfl) (pv (r_ld rfl isAgg50 (hc3.get (j := 0) rfl)) (pv (r_zs rfl) (nil (t_then ?_)))))))))
      refine sq2 (sq2 (rg (pv (r_ms rfl) (pv (r_ln rfl underlying50) (pv (r_ib rfl rfl rfl) (pv (r_zi rfl) (nil (t_then ?_))))))))
      obtain ⟨o3, ho3, hq3⟩ := bindS hm
      obtain ⟨bd3, hbd3, ho3⟩ := loop_open ho3
      refine blk (wp_loop_ghost (fun m a w22 => ∃ (J : JV) (T10 : TP) (x15 : List Bool) (a25 : OA) (n21 : Nat) (c25 : Nat) (x16 : Int), a = env (nf 110) J [(1, pt b1 0), (2, .slice a17 n14 c17), (3, .slice a19 n16 c19), (7, .bool x11), (8, iv x12), (11, .slice a25 n21 c25), (12, sv a24 u8.Ins c24), (13, iv x16)] ∧ Im T9 w21 T10 w22 ∧ Sep g T10 w22 [elsA nER39 x13 css4 (some (Int.toNat x12)), (holeA (rRaw 1) 39 (.slice a19 n16 c19) css4 (Int.toNat x12)) [.slice a22 n19 c22], nestA nER39 39 (.slice a17 n14 c17) x10, boxA b1 (cProc p0 a1 c1 a2 c2), R, ownA rBool 4 (.slice a22 n19 c22) u7, ownA rBool 4 (.slice a25 n21 c25) x15] ∧ loopM bd3 m (x15, x16) = some o3) NN ⟨_, _, y4, _, _, _, (IntKind.wrap .i64 ((List.length u8.Ins : Int) - 1)), env_has ⟨rfl, rfl, rfl, rfl, rfl, rfl, rfl, rfl, trivial⟩, Im.refl, hS48.sel [0, 1, 2, 3, 4, 5, 6] rfl, ho3⟩ ?_)
      rintro m _ w22 ⟨J, T10, x15, a25, n21, c25, x16, rfl, im22, hS49, ho3⟩
      obtain ⟨m3, z3, rfl, hm, hn3⟩ := loop_round ho3
      rw [hbd3] at hm
      refine sq2 (sq2 (rg (pv (r_mi rfl) (pv (r_ib rfl rfl rfl) (nil (t_then ?_))))))
      refine cnd rfl (fun hb6 => ?_) (fun hb6 => ?_)
      · have hm := ctrue hb6 hm
        refine skp (t_then ?_)
        refine sq2 (blk ?_)
        obtain ⟨u9, hx13, hm⟩ := bindS hm
        obtain ⟨b10, of8, cs8, k8, cp8, hv8, hp8, hl8, he8, hr4, hc4, hT3⟩ := (h4.mono im22).ixT hx13 rfl
        obtain ⟨a26, c26, rfl, h5⟩ := rIns_open hr4
        obtain ⟨y5, hx14, hm⟩ := bindS hm
        refine rg (pv (r_ms rfl) (pv (r_ms rfl) (pv (r_mi rfl) (pv (r_ixe hv8 rfl underlying50 sizeOf49 hp8 hl8 he8) (pv (r_ldS rfl isAgg49 sizeOf49 rfl hc4 (cs := (cIns u9 a26 c26))) (wl rfl (calS cf48 rfl (flow_before_sim (p0 := x15) (p1 := u9) (hS49.bun [0, 1, 2, 3, 4, 5] [6] rfl) h5 hx14) rfl fun v5 T11 w23 im23 rv5 => ?_)))))))
        obtain ⟨rfl, hS50, _⟩ := rv5
        have hS50 := hS50.unb
        refine nil (t_blk (t_then ?_))
        have hm := oI hm; subst hm
        exact rg (pv (r_mi rfl) (pv (r_ib rfl rfl rfl) (pv (r_zi rfl) (nil (t_then ⟨m3, Nat.lt_succ_self _, _, _, y5, _, _, _, (IntKind.wrap .i64 (x16 - 1)), env_has ⟨rfl, rfl, rfl, rfl, rfl, rfl, rfl, rfl, trivial⟩, (iT im22 im23), hS50.sel [0, 1, 2, 3, 4, 5, 6] rfl, hn3⟩)))))
      have hm := cfalse hb6 hm
      have hm := oI hm; subst hm
      have hn3 : _ = Lp.brk _ := hn3
      subst hn3
      have hm := thn_brk hq3
      refine xt (x_then (x_then (x_eq (t_then ?_))))
      refine rg (pv (r_ms rfl) (pv (r_mi rfl) (?_)))
      obtain ⟨u10, hx15, hm⟩ := bindS hm
      obtain ⟨b11, of9, k9, cp9, hv9, hp9, hl9, he9⟩ := hS49.nhd (q := 2) ⟨rfl, rfl⟩ hx15 rfl
      obtain ⟨css5, cs9, hS51⟩ := hS49.nfocus (q := 2) ⟨rfl, rfl⟩ hx15
      obtain ⟨⟨a27, n22, c27⟩, hS52⟩ := hS51.exE
      obtain ⟨hcs5, hS53⟩ := hS52.pE
      subst hcs5
      have hS54 : Sep g T10 w22 [ownA rBool 4 (.slice a27 n22 c27) u10, elsA nER39 x10 css5 (some (Int.toNat x12)), elsA nER39 x13 css4 (some (Int.toNat x12)), (holeA (rRaw 1) 39 (.slice a19 n16 c19) css4 (Int.toNat x12)) [.slice a22 n19 c22], (holeA (rRaw 1) 39 (.slice a17 n14 c17) css5 (Int.toNat x12)) [.slice a27 n22 c27], boxA b1 (cProc p0 a1 c1 a2 c2), R, ownA rBool 4 (.slice a22 n19 c22) u7, ownA rBool 4 (.slice a25 n21 c25) x15] := hS53.unb
      obtain ⟨y6, hx16, hm⟩ := bindS hm
      refine pv (r_ixe hv9 rfl underlying79 sizeOf39 hp9 hl9 he9) (pv (r_ld rfl isAgg39 (hS54.cellB (i := 4) ⟨rfl, rfl⟩ (lnHole (i := x12) hv9 he9) (j := 0) rfl)) (pv (r_ms rfl) (wl rfl (calS cf46 rfl (flow_join_sim (p0 := u10) (p1 := x15) (H_p1 := ownA rBool 4 (.slice a25 n21 c25) x15) (hS54.bun [1, 2, 3, 4, 5, 6, 7] [0, 8] rfl) vwOwn hx16) rfl fun v6 T12 w24 im24 rv6 => ?_))))
      obtain ⟨rfl, hS55, _⟩ := rv6
      have hS55 := hS55.unb
      refine pv (r_mb rfl) (?_)
      rcases Bool.eq_false_or_eq_true y6.1 with hb7 | hb7
      · have hm := ctrue hb7 hm
        refine gF (d0 := 105) rfl rfl (by rw [hb7]; rfl) (pv (r_pkt rfl hb7 rfl) (pv (r_zb rfl) (nil (t_blk (t_then ?_)))))
        have hS62 := hS55.bun [6] [1, 0, 2, 3, 4, 5, 7, 8] rfl
        have hS63 : Sep g T12 w24 [nER39.A u7 [.slice a22 n19 c22], elsA nER39 x13 css4 (some (Int.toNat x12)), elsA nER39 x10 css5 (some (Int.toNat x12)), (holeA (rRaw 1) 39 (.slice a19 n16 c19) css4 (Int.toNat x12)) [.slice a22 n19 c22], (holeA (rRaw 1) 39 (.slice a17 n14 c17) css5 (Int.toNat x12)) [.slice a27 n22 c27], boxA b1 (cProc p0 a1 c1 a2 c2), R, ownA rBool 4 (.slice a27 n22 c27) y6.2, ownA rBool 4 (.slice a25 n21 c25) x15] := Sep.exI (a22, n19, c22) (Sep.pI rfl hS62)
        have hS64 : Sep g T12 w24 [elsA nER39 x10 css5 (some (Int.toNat x12)), nestA nER39 39 (.slice a19 n16 c19) x13, (holeA (rRaw 1) 39 (.slice a17 n14 c17) css5 (Int.toNat x12)) [.slice a27 n22 c27], boxA b1 (cProc p0 a1 c1 a2 c2), R, ownA rBool 4 (.slice a27 n22 c27) y6.2, ownA rBool 4 (.slice a25 n21 c25) x15] := hS63.nunfocus0 (q := 1) ⟨rfl, rfl⟩ hx10
        have hS65 := hS64.bun [5] [0, 1, 2, 3, 4, 6] rfl
        have hS66 : Sep g T12 w24 [nER39.A y6.2 [.slice a27 n22 c27], elsA nER39 x10 css5 (some (Int.toNat x12)), nestA nER39 39 (.slice a19 n16 c19) x13, (holeA (rRaw 1) 39 (.slice a17 n14 c17) css5 (Int.toNat x12)) [.slice a27 n22 c27], boxA b1 (cProc p0 a1 c1 a2 c2), R, ownA rBool 4 (.slice a25 n21 c25) x15] := Sep.exI (a27, n22, c27) (Sep.pI rfl hS65)
        have hS67 : Sep g T12 w24 [nestA nER39 39 (.slice a19 n16 c19) x13, nestA nER39 39 (.slice a17 n14 c17) (List.set x10 (Int.toNat x12) y6.2), boxA b1 (cProc p0 a1 c1 a2 c2), R, ownA rBool 4 (.slice a25 n21 c25) x15] := hS66.nunfocus (q := 1) ⟨rfl, rfl⟩ (idx_ltn hx15)
        have hm := oI hm; subst hm
        exact rg (pv (r_mi rfl) (pv (r_ib rfl rfl rfl) (pv (r_zi rfl) (nil (t_then ⟨m2, Nat.lt_succ_self _, _, _, x13, _, _, _, (List.set x10 (Int.toNat x12) y6.2), _, _, _, true, (IntKind.wrap .i64 (x12 - 1)), env_has ⟨rfl, rfl, rfl, rfl, rfl, trivial⟩, (iT im16 (iT im17 (iT im18 (iT im21 (iT im22 im24))))), hS67.sel [0, 1, 2, 3] rfl, hn2⟩)))))
      have hm := cfalse hb7 hm
      refine gT (d0 := 105) rfl rfl hb7 (pv (r_mb rfl) (pv (r_pkf rfl hb7 rfl) (pv (r_zb rfl) (nil (t_blk (t_then ?_))))))
      have hS56 := hS55.bun [6] [1, 0, 2, 3, 4, 5, 7, 8] rfl
      have hS57 : Sep g T12 w24 [nER39.A u7 [.slice a22 n19 c22], elsA nER39 x13 css4 (some (Int.toNat x12)), elsA nER39 x10 css5 (some (Int.toNat x12)), (holeA (rRaw 1) 39 (.slice a19 n16 c19) css4 (Int.toNat x12)) [.slice a22 n19 c22], (holeA (rRaw 1) 39 (.slice a17 n14 c17) css5 (Int.toNat x12)) [.slice a27 n22 c27], boxA b1 (cProc p0 a1 c1 a2 c2), R, ownA rBool 4 (.slice a27 n22 c27) y6.2, ownA rBool 4 (.slice a25 n21 c25) x15] := Sep.exI (a22, n19, c22) (Sep.pI rfl hS56)
      have hS58 : Sep g T12 w24 [elsA nER39 x10 css5 (some (Int.toNat x12)), nestA nER39 39 (.slice a19 n16 c19) x13, (holeA (rRaw 1) 39 (.slice a17 n14 c17) css5 (Int.toNat x12)) [.slice a27 n22 c27], boxA b1 (cProc p0 a1 c1 a2 c2), R, ownA rBool 4 (.slice a27 n22 c27) y6.2, ownA rBool 4 (.slice a25 n21 c25) x15] := hS57.nunfocus0 (q := 1) ⟨rfl, rfl⟩ hx10
      have hS59 := hS58.bun [5] [0, 1, 2, 3, 4, 6] rfl
      have hS60 : Sep g T12 w24 [nER39.A y6.2 [.slice a27 n22 c27], elsA nER39 x10 css5 (some (Int.toNat x12)), nestA nER39 39 (.slice a19 n16 c19) x13, (holeA (rRaw 1) 39 (.slice a17 n14 c17) css5 (Int.toNat x12)) [.slice a27 n22 c27], boxA b1 (cProc p0 a1 c1 a2 c2), R, ownA rBool 4 (.slice a25 n21 c25) x15] := Sep.exI (a27, n22, c27) (Sep.pI rfl hS59)
      have hS61 : Sep g T12 w24 [nestA nER39 39 (.slice a19 n16 c19) x13, nestA nER39 39 (.slice a17 n14 c17) (List.set x10 (Int.toNat x12) y6.2), boxA b1 (cProc p0 a1 c1 a2 c2), R, ownA rBool 4 (.slice a25 n21 c25) x15] := hS60.nunfocus (q := 1) ⟨rfl, rfl⟩ (idx_ltn hx15)
      have hm := oI hm; subst hm
      exact rg (pv (r_mi rfl) (pv (r_ib rfl rfl rfl) (pv (r_zi rfl) (nil (t_then ⟨m2, Nat.lt_succ_self _, _, _, x13, _, _, _, (List.set x10 (Int.toNat x12) y6.2), _, _, _, x11, (IntKind.wrap .i64 (x12 - 1)), env_has ⟨rfl, rfl, rfl, rfl, rfl, trivial⟩, (iT im16 (iT im17 (iT im18 (iT im21 (iT im22 im24))))), hS61.sel [0, 1, 2, 3] rfl, hn2⟩)))))
    have hm := cfalse hb4 hm
    have hm := oI hm; subst hm
    have hn2 : _ = Lp.brk _ := hn2
    subst hn2
    have hm := thn_brk hq2
    have hm := oI hm; subst hm
    exact xt (x_then (x_then (x_eq (t_blk (t_then ⟨m1, Nat.lt_succ_self _, _, _, x9, _, _, _, x10, _, _, _, x11, env_has ⟨rfl, rfl, rfl, rfl, trivial⟩, (iT im15 im16), hS25.sel [0, 1, 2, 3] rfl, hn1⟩)))))
  have hm := cfalse hb3 hm
  have hm := oI hm; subst hm
  have hn1 : _ = Lp.brk _ := hn1
  subst hn1
  have hm := thn_brk hq1
  refine xt (x_then (x_then (x_eq (t_then ?_))))
  refine sq2 (rg (pv (r_ms rfl) (pv (r_ms rfl) (pv (r_zs rfl) (pv (r_zs rfl) (nil (t_then ?_)))))))
  have hm := oI hm; subst hm
  exact rtn (retN (vs := [.slice a15 n12 c15, .slice a14 n11 c14]) rfl ⟨rfl, rfl, trivial⟩ rfl ⟨_, rfl, _, (iT im1 (iT im2 (iT im10 im15))), ⟨_, _, _, _, _, _, rfl, hS24.sel [3, 1, 0] rfl, trivial⟩⟩)

theorem alloc_ranges_sim {p0 : Proc} {a1 : OA} {c1 : Nat} {a2 : OA} {c2 : Nat} {r : (List AllocReach)} (hS : Sep g T0 w0 [R]) (h1 : SlR rGSlot T0 w0 (sv a1 p0.Objects c1) p0.Objects) (h2 : SlR rGBlock T0 w0 (sv a2 p0.Blocks c2) p0.Blocks) (hm : alloc_ranges p0 = some r) :
    Calls Tryz.prog 12 #[.agg (cProc p0 a1 c1 a2 c2).toArray] w0 (RetS T0 w0 fun T w v => ∃ (a21 : OA) (n17 : Nat) (c21 : Nat), v = .slice a21 n17 c21 ∧ Sep g T w [R, ownA rAllocReach 57 (.slice a21 n17 c21) r] ∧ True) := by
  refine enter (args := [.agg (cProc p0 a1 c1 a2 c2).toArray]) Tryz.func12 rfl Tryz.ntmps12 rfl fun J => ?_
  unfold alloc_ranges at hm
  refine sq2 (rg (wl rfl (bxS (cs := (cProc p0 a1 c1 a2 c2)) rfl rfl hS fun w1 b1 im1 hS1 => ?_)))
  refine pv (r_zs rfl) (nil (t_then ?_))
  refine sq2 ?_
  obtain ⟨u1, hx1, hm⟩ := bindS hm
  refine rg (pv (r_fa rfl underlying31 rfl sizeOf3 rfl) (pv (r_ld rfl isAgg3 (hS1.cell0 (i := 0) ⟨rfl, rfl⟩ (j := 3) rfl)) (pv (r_imx rfl rfl) (wl rfl (msS (r := rAllocReach) hS1 rfl rfl underlying53 el57 zeroValue57 (rAllocReach_mk (x := (⟨0, 0, 0, false⟩ : AllocReach))  : rAllocReach.rp _ _ _ _) hx1 fun w2 a3 n1 c3 im2 hS2 => ?_)))))
  refine pv (r_zs rfl) (nil (t_then ?_))
  refine sq2 (sq2 (rg (pv (r_ms rfl) (pv (r_lnV rfl (hS2.own (i := 0) ⟨rfl, rfl⟩).v underlying53) (pv (r_mi rfl) (nil (t_then ?_)))))))
  obtain ⟨o1, ho1, hq1⟩ := bindS hm
  obtain ⟨bd1, hbd1, ho1⟩ := loop_open ho1
  refine blk (wp_loop_ghost (fun m a w3 => ∃ (J : JV) (T1 : TP) (x1 : List AllocReach) (a4 : OA) (n2 : Nat) (c4 : Nat) (x2 : Int), a = env (nf 126) J [(1, pt b1 0), (3, .slice a4 n2 c4), (24, iv (List.length u1 : Int)), (25, iv x2)] ∧ Im T0 w2 T1 w3 ∧ Sep g T1 w3 [ownA rAllocReach 57 (.slice a4 n2 c4) x1, boxA b1 (cProc p0 a1 c1 a2 c2), R] ∧ loopM bd1 m (x1, x2) = some o1) NN ⟨_, _, u1, _, _, _, 0, env_has ⟨rfl, rfl, rfl, rfl, trivial⟩, Im.refl, hS2.sel [0, 1, 2] rfl, ho1⟩ ?_)
  rintro m _ w3 ⟨J, T1, x1, a4, n2, c4, x2, rfl, im3, hS3, ho1⟩
  obtain ⟨m1, z1, rfl, hm, hn1⟩ := loop_round ho1
  rw [hbd1] at hm
  refine sq2 (rg (pv (r_ib rfl rfl rfl) (nil (t_then ?_))))
  refine sq2 (cnd rfl (fun hb1 => ?_) (fun hb1 => ?_))
  · have hm := ctrue hb1 hm
    refine skp (t_then ?_)
    obtain ⟨kk1, hkk1, hm⟩ := jn_open hm
    refine cut (fun a w4 => ∃ (J : JV) (T2 : TP) (x3 : List AllocReach) (a5 : OA) (n3 : Nat) (c5 : Nat), a = env (nf 126) J [(1, pt b1 0), (3, .slice a5 n3 c5), (24, iv (List.length u1 : Int)), (25, iv x2)] ∧ Im T1 w3 T2 w4 ∧ Sep g T2 w4 [ownA rAllocReach 57 (.slice a5 n3 c5) x3, boxA b1 (cProc p0 a1 c1 a2 c2), R] ∧ kk1 x3 = some z1) ?_ ?_
    · refine blk (sq2 (rg (pv (r_mi rfl) (pv (r_zi rfl) (nil (t_then ?_))))))
      refine sq2 ?_
      obtain ⟨u2, hx2, hm⟩ := bindS hm
      obtain ⟨b2, of1, cs1, k1, cp1, hv1, hp1, hl1, he1, hr1, hc1⟩ := (hS3.own (i := 0) ⟨rfl, rfl⟩).v.ixq hx2 rfl
      cases rAllocReach_open hr1
      obtain ⟨u3, hx3, hm⟩ := bindS hm
      refine rg (pv (r_ms rfl) (pv (r_mi rfl) (pv (r_mi rfl) (pv (r_ixe hv1 rfl underlying53 sizeOf57 hp1 hl1 he1) (pv (r_fa rfl underlying57 rfl sizeOf3 rfl) (wl rfl (stO (q := 0) (i := Int.toNat x2) (j := 0) (u := u3) (u' := { u3 with r := x2 }) hS3 ⟨rfl, rfl⟩ hv1 (idx_some hx3).2.2 he1 rfl rfl rfl sizeOf3 rfl rfl rfl (fun c0 hc0 => by cases rAllocReach_open hc0; exact (rAllocReach_mk (x := { u3 with r := x2 })  : rAllocReach.rp _ _ _ _)) fun w5 im5 hS4 => ?_)))))))
      refine nil (t_then ?_)
      refine sq2 (rg (pv (r_mi rfl) (pv (r_fa rfl underlying31 rfl sizeOf3 rfl) (pv (r_ld rfl isAgg3 (hS4.cell0 (i := 1) ⟨rfl, rfl⟩ (j := 2) rfl)) (pv (r_ib rfl rfl rfl) (nil (t_then ?_)))))))
      refine cnd rfl (fun hb2 => ?_) (fun hb2 => ?_)
      · have hm := ctrue hb2 hm
        obtain ⟨u4, hx4, hm⟩ := bindS hm
        obtain ⟨b3, of2, cs2, k2, cp2, hv2, hp2, hl2, he2, hr2, hc2⟩ := (hS4.own (i := 0) ⟨rfl, rfl⟩).v.ixq hx4 rfl
        cases rAllocReach_open hr2
        obtain ⟨u5, hx5, hm⟩ := bindS hm
        obtain ⟨y1, hx6, hm⟩ := bindS hm
        refine rg (pv (r_ms rfl) (pv (r_mi rfl) (pv (r_ixe hv2 rfl underlying53 sizeOf57 hp2 hl2 he2) (?_))))
        obtain ⟨cs3, hr3, hS5⟩ := hS4.focus (q := 0) ⟨rfl, rfl⟩ hx5
        cases rAllocReach_open hr3
        refine wl rfl (calS cf25 rfl (alloc_reach_at_sim (p0 := u5) (H_p0 := holeA rAllocReach 57 (.slice a4 n2 c4) (List.set x1 (Int.toNat x2) ({ u3 with r := x2 })) (Int.toNat x2)) (p1 := 0) (hS5.bun [1, 2] [0] rfl) (lnHole hv2 he2) hx6) rfl fun v1 T3 w6 im6 rv1 => ?_)
        obtain ⟨rfl, hS6, _⟩ := rv1
        have hS6 := hS6.unb
        have hS7 : Sep g T3 w6 [boxA b1 (cProc p0 a1 c1 a2 c2), R, ownA rAllocReach 57 (.slice a4 n2 c4) (List.set (List.set x1 (Int.toNat x2) ({ u3 with r := x2 })) (Int.toNat x2) y1)] := hS6.unfocus (q := 2) (u := y1) ⟨rfl, rfl⟩ (rAllocReach_mk (x := y1)  : rAllocReach.rp _ _ _ _)
        exact nil (t_blk (t_then ⟨_, _, (List.set (List.set x1 (Int.toNat x2) ({ u3 with r := x2 })) (Int.toNat x2) y1), _, _, _, env_has ⟨rfl, rfl, rfl, rfl, trivial⟩, (iT im5 im6), hS7.sel [2, 0, 1] rfl, hm⟩))
      have hm := cfalse hb2 hm
      exact skp (t_blk (t_then ⟨_, _, (List.set x1 (Int.toNat x2) ({ u3 with r := x2 })), _, _, _, env_has ⟨rfl, rfl, rfl, rfl, trivial⟩, im5, hS4.sel [0, 1, 2] rfl, hm⟩))
    rintro _ w4 ⟨J, T2, x3, a5, n3, c5, rfl, im4, hS8, hm⟩
    rw [hkk1] at hm
    have hm := oI hm; subst hm
    exact rg (pv (r_ib rfl rfl rfl) (pv (r_mi rfl) (nil (t_then ⟨m1, Nat.lt_succ_self _, _, _, x3, _, _, _, (IntKind.wrap .i64 (x2 + 1)), env_has ⟨rfl, rfl, rfl, rfl, trivial⟩, (iT im3 im4), hS8.sel [0, 1, 2] rfl, hn1⟩))))
  have hm := cfalse hb1 hm
  have hm := oI hm; subst hm
  have hn1 : _ = Lp.brk _ := hn1
  subst hn1
  have hm := thn_brk hq1
  refine xt (x_then (x_then (x_eq (t_then ?_))))
  refine sq2 ?_
  obtain ⟨y2, hx7, hm⟩ := bindS hm
  refine rg (pv (r_ldS rfl isAgg31 sizeOf31 rfl (hS3.cells0 (i := 1) ⟨rfl, rfl⟩ (o := 0) rfl) (cs := (cProc p0 a1 c1 a2 c2))) (wl rfl (calS cf26 rfl (flow_Live_sim (p0 := p0) (hS3.bun [0, 1, 2] [] rfl) (h1.mono (iT im1 (iT im2 im3))) (h2.mono (iT im1 (iT im2 im3))) hx7) rfl fun v2 T4 w7 im7 rv2 => ?_)))
  obtain ⟨a6, n4, c6, a7, n5, c7, rfl, hS9, _⟩ := rv2
  have hS9 := hS9.unb
  refine pv (r_mv rfl) (pv (r_ex (v := .slice a6 n4 c6) rfl rfl) (pv (r_ex (v := .slice a7 n5 c7) rfl rfl) (pv (r_zs rfl) (pv (r_zs rfl) (nil (t_then ?_))))))
  refine sq2 (rg (pv (r_zi rfl) (nil (t_then ?_))))
  refine sq2 (sq2 (rg (pv (r_fa rfl underlying31 rfl sizeOf29 rfl) (pv (r_ld rfl isAgg29 (hS9.cell0 (i := 1) ⟨rfl, rfl⟩ (j := 5) rfl)) (pv (r_ln rfl underlying29) (pv (r_mi rfl) (nil (t_then ?_))))))))
  obtain ⟨o1, ho1, hq1⟩ := bindS hm
  obtain ⟨bd1, hbd1, ho1⟩ := loop_open ho1
  refine blk (wp_loop_ghost (fun m a w8 => ∃ (J : JV) (T5 : TP) (x4 : List AllocReach) (a8 : OA) (n6 : Nat) (c8 : Nat) (x5 : Int) (x6 : Int), a = env (nf 126) J [(3, .slice a8 n6 c8), (5, .slice a6 n4 c6), (6, .slice a7 n5 c7), (7, iv x5), (48, sv a2 p0.Blocks c2), (49, iv (List.length p0.Blocks : Int)), (50, iv x6)] ∧ Im T4 w7 T5 w8 ∧ Sep g T5 w8 [ownA rAllocReach 57 (.slice a8 n6 c8) x4, R, nestA nER39 39 (.slice a6 n4 c6) y2.1, nestA nER39 39 (.slice a7 n5 c7) y2.2] ∧ loopM bd1 m (x4, x5, x6) = some o1) NN ⟨_, _, x1, _, _, _, 0, 0, env_has ⟨rfl, rfl, rfl, rfl, rfl, rfl, rfl, trivial⟩, Im.refl, hS9.sel [0, 2, 3, 4] rfl, ho1⟩ ?_)
  rintro m _ w8 ⟨J, T5, x4, a8, n6, c8, x5, x6, rfl, im8, hS10, ho1⟩
  obtain ⟨m1, z1, rfl, hm, hn1⟩ := loop_round ho1
  rw [hbd1] at hm
  refine sq2 (rg (pv (r_ib rfl rfl rfl) (nil (t_then ?_))))
  refine sq2 (cnd rfl (fun hb3 => ?_) (fun hb3 => ?_))
  · have hm := ctrue hb3 hm
    refine skp (t_then ?_)
    refine sq2 (blk (sq2 ?_))
    obtain ⟨u6, hx8, hm⟩ := bindS hm
    obtain ⟨b4, of3, cs4, k3, cp3, hv3, hp3, hl3, he3, hr4, hc3, hT1⟩ := (h2.mono (iT im1 (iT im2 (iT im3 (iT im7 im8))))).ixT hx8 rfl
    obtain ⟨a9, c9, rfl, h3⟩ := rGBlock_open hr4
    refine rg (pv (r_mi rfl) (pv (r_ixe hv3 rfl underlying29 sizeOf52 hp3 hl3 he3) (pv (r_ldS rfl isAgg52 sizeOf52 rfl hc3 (cs := [sv a9 u6.Ins c9, iv u6.End, iv u6.A, iv u6.To, iv u6.Else])) (wl rfl (alS (zs := [.slice none 0 0, iv 0, iv 0, iv 0, iv 0]) zeroValue52 rfl hS10 fun w9 b5 im9 hS11 => ?_)))))
    refine pv (r_zi rfl) (wl rfl (st0B (q := 0) hS11 ⟨rfl, rfl⟩ rfl rfl rfl sizeOf52 rfl rfl rfl fun w10 im10 hS12 => ?_))
    refine nil (t_then ?_)
    refine sq2 (sq2 (rg (pv (r_ms rfl) (pv (r_mi rfl) (?_)))))
    obtain ⟨u7, hx9, hm⟩ := bindS hm
    obtain ⟨b6, of4, k4, cp4, hv4, hp4, hl4, he4⟩ := hS12.nhd (q := 3) ⟨rfl, rfl⟩ hx9 rfl
    obtain ⟨css1, cs5, hS13⟩ := hS12.nfocus (q := 3) ⟨rfl, rfl⟩ hx9
    obtain ⟨⟨a10, n7, c10⟩, hS14⟩ := hS13.exE
    obtain ⟨hcs1, hS15⟩ := hS14.pE
    subst hcs1
    have hS16 : Sep g T5 w10 [ownA rBool 4 (.slice a10 n7 c10) u7, elsA nER39 y2.1 css1 (some (Int.toNat x6)), boxA b5 [sv a9 u6.Ins c9, iv u6.End, iv u6.A, iv u6.To, iv u6.Else], ownA rAllocReach 57 (.slice a8 n6 c8) x4, R, (holeA (rRaw 1) 39 (.slice a6 n4 c6) css1 (Int.toNat x6)) [.slice a10 n7 c10], nestA nER39 39 (.slice a7 n5 c7) y2.2] := hS15.unb
    refine pv (r_ixe hv4 rfl underlying79 sizeOf39 hp4 hl4 he4) (pv (r_ld rfl isAgg39 (hS16.cellB (i := 5) ⟨rfl, rfl⟩ (lnHole (i := x6) hv4 he4) (j := 0) rfl)) (pv (r_lnV rfl (hS16.own (i := 0) ⟨rfl, rfl⟩).v underlying39) (pv (r_mi rfl) (nil (t_then ?_)))))
    obtain ⟨o2, ho2, hq2⟩ := bindS hm
    obtain ⟨bd2, hbd2, ho2⟩ := loop_open ho2
    refine blk (wp_loop_ghost (fun m a w11 => ∃ (J : JV) (T6 : TP) (x7 : List AllocReach) (a11 : OA) (n8 : Nat) (c11 : Nat) (x8 : Int), a = env (nf 126) J [(3, .slice a11 n8 c11), (5, .slice a6 n4 c6), (6, .slice a7 n5 c7), (7, iv x5), (8, iv x6), (9, pt b5 0), (48, sv a2 p0.Blocks c2), (49, iv (List.length p0.Blocks : Int)), (50, iv x6), (58, .slice a10 n7 c10), (59, iv (List.length u7 : Int)), (60, iv x8)] ∧ Im T5 w10 T6 w11 ∧ Sep g T6 w11 [ownA rBool 4 (.slice a10 n7 c10) u7, elsA nER39 y2.1 css1 (some (Int.toNat x6)), boxA b5 [sv a9 u6.Ins c9, iv u6.End, iv u6.A, iv u6.To, iv u6.Else], ownA rAllocReach 57 (.slice a11 n8 c11) x7, R, (holeA (rRaw 1) 39 (.slice a6 n4 c6) css1 (Int.toNat x6)) [.slice a10 n7 c10], nestA nER39 39 (.slice a7 n5 c7) y2.2] ∧ loopM bd2 m (x7, x8) = some o2) NN ⟨_, _, x4, _, _, _, 0, env_has ⟨rfl, rfl, rfl, rfl, rfl, rfl, rfl, rfl, rfl, rfl, rfl, rfl, trivial⟩, Im.refl, hS16.sel [0, 1, 2, 3, 4, 5, 6] rfl, ho2⟩ ?_)
    rintro m _ w11 ⟨J, T6, x7, a11, n8, c11, x8, rfl, im11, hS17, ho2⟩
    obtain ⟨m2, z2, rfl, hm, hn2⟩ := loop_round ho2
    rw [hbd2] at hm
    refine sq2 (rg (pv (r_ib rfl rfl rfl) (nil (t_then ?_))))
    refine sq2 (cnd rfl (fun hb4 => ?_) (fun hb4 => ?_))
    · have hm := ctrue hb4 hm
      refine skp (t_then ?_)
      obtain ⟨kk2, hkk2, hm⟩ := jn_open hm
      refine cut (fun a w12 => ∃ (J : JV) (T7 : TP) (x9 : List AllocReach) (a12 : OA) (n9 : Nat) (c12 : Nat), a = env (nf 126) J [(3, .slice a12 n9 c12), (5, .slice a6 n4 c6), (6, .slice a7 n5 c7), (7, iv x5), (8, iv x6), (9, pt b5 0), (48, sv a2 p0.Blocks c2), (49, iv (List.length p0.Blocks : Int)), (50, iv x6), (58, .slice a10 n7 c10), (59, iv (List.length u7 : Int)), (60, iv x8)] ∧ Im T6 w11 T7 w12 ∧ Sep g T7 w12 [ownA rBool 4 (.slice a10 n7 c10) u7, elsA nER39 y2.1 css1 (some (Int.toNat x6)), boxA b5 [sv a9 u6.Ins c9, iv u6.End, iv u6.A, iv u6.To, iv u6.Else], ownA rAllocReach 57 (.slice a12 n9 c12) x9, R, (holeA (rRaw 1) 39 (.slice a6 n4 c6) css1 (Int.toNat x6)) [.slice a10 n7 c10], nestA nER39 39 (.slice a7 n5 c7) y2.2] ∧ kk2 x9 = some z2) ?_ ?_
      · refine blk (sq2 ?_)
        obtain ⟨u8, hx10, hm⟩ := bindS hm
        obtain ⟨b7, of5, cs6, k5, cp5, hv5, hp5, hl5, he5, hr5, hc4⟩ := (hS17.own (i := 0) ⟨rfl, rfl⟩).v.ixq hx10 rfl
        cases hr5
        refine rg (pv (r_mi rfl) (pv (r_ixe hv5 rfl underlying39 sizeOf4 hp5 hl5 he5) (pv (r_ld rfl isAgg4 (hc4.get (j := 0) rfl)) (pv (r_zi rfl) (pv (r_zb rfl) (nil (t_then ?_)))))))
        refine sq2 (rg (pv (r_mb rfl) (nil (t_then ?_))))
        refine cnd rfl (fun hb5 => ?_) (fun hb5 => ?_)
        · have hm := ctrue hb5 hm
          obtain ⟨u9, hx11, hm⟩ := bindS hm
          obtain ⟨b8, of6, cs7, k6, cp6, hv6, hp6, hl6, he6, hr6, hc5⟩ := (hS17.own (i := 3) ⟨rfl, rfl⟩).v.ixq hx11 rfl
          cases rAllocReach_open hr6
          obtain ⟨u10, hx12, hm⟩ := bindS hm
          obtain ⟨y3, hx13, hm⟩ := bindS hm
          refine rg (pv (r_ms rfl) (pv (r_mi rfl) (pv (r_ixe hv6 rfl underlying53 sizeOf57 hp6 hl6 he6) (pv (r_mi rfl) (?_)))))
          obtain ⟨cs8, hr7, hS18⟩ := hS17.focus (q := 3) ⟨rfl, rfl⟩ hx12
          cases rAllocReach_open hr7
          refine wl rfl (calS cf25 rfl (alloc_reach_at_sim (p0 := u10) (H_p0 := holeA rAllocReach 57 (.slice a11 n8 c11) x7 (Int.toNat x8)) (p1 := x5) (hS18.bun [0, 1, 2, 4, 5, 6] [3] rfl) (lnHole hv6 he6) hx13) rfl fun v3 T8 w13 im13 rv3 => ?_)
          obtain ⟨rfl, hS19, _⟩ := rv3
          have hS19 := hS19.unb
          have hS20 : Sep g T8 w13 [ownA rBool 4 (.slice a10 n7 c10) u7, elsA nER39 y2.1 css1 (some (Int.toNat x6)), boxA b5 [sv a9 u6.Ins c9, iv u6.End, iv u6.A, iv u6.To, iv u6.Else], R, (holeA (rRaw 1) 39 (.slice a6 n4 c6) css1 (Int.toNat x6)) [.slice a10 n7 c10], nestA nER39 39 (.slice a7 n5 c7) y2.2, ownA rAllocReach 57 (.slice a11 n8 c11) (List.set x7 (Int.toNat x8) y3)] := hS19.unfocus (q := 6) (u := y3) ⟨rfl, rfl⟩ (rAllocReach_mk (x := y3)  : rAllocReach.rp _ _ _ _)
          exact nil (t_blk (t_then ⟨_, _, (List.set x7 (Int.toNat x8) y3), _, _, _, env_has ⟨rfl, rfl, rfl, rfl, rfl, rfl, rfl, rfl, rfl, rfl, rfl, rfl, trivial⟩, im13, hS20.sel [0, 1, 2, 6, 3, 4, 5] rfl, hm⟩))
        have hm := cfalse hb5 hm
        exact skp (t_blk (t_then ⟨_, _, x7, _, _, _, env_has ⟨rfl, rfl, rfl, rfl, rfl, rfl, rfl, rfl, rfl, rfl, rfl, rfl, trivial⟩, Im.refl, hS17.sel [0, 1, 2, 3, 4, 5, 6] rfl, hm⟩))
      rintro _ w12 ⟨J, T7, x9, a12, n9, c12, rfl, im12, hS21, hm⟩
      rw [hkk2] at hm
      have hm := oI hm; subst hm
      exact rg (pv (r_ib rfl rfl rfl) (pv (r_mi rfl) (nil (t_then ⟨m2, Nat.lt_succ_self _, _, _, x9, _, _, _, (IntKind.wrap .i64 (x8 + 1)), env_has ⟨rfl, rfl, rfl, rfl, rfl, rfl, rfl, rfl, rfl, rfl, rfl, rfl, trivial⟩, (iT im11 im12), hS21.sel [0, 1, 2, 3, 4, 5, 6] rfl, hn2⟩))))
    have hm := cfalse hb4 hm
    have hm := oI hm; subst hm
    have hn2 : _ = Lp.brk _ := hn2
    subst hn2
    have hm := thn_brk hq2
    refine xt (x_then (x_then (x_eq (t_then ?_))))
    refine sq2 (sq2 (rg (pv (r_fa rfl underlying52 rfl sizeOf50 rfl) (pv (r_ld rfl isAgg50 (hS17.cell0 (i := 2) ⟨rfl, rfl⟩ (j := 0) rfl)) (pv (r_ln rfl underlying50) (pv (r_mi rfl) (nil (t_then ?_))))))))
    obtain ⟨o2, ho2, hq2⟩ := bindS hm
    obtain ⟨bd2, hbd2, ho2⟩ := loop_open ho2
    refine blk (wp_loop_ghost (fun m a w14 => ∃ (J : JV) (T9 : TP) (x10 : List AllocReach) (a13 : OA) (n10 : Nat) (c13 : Nat) (x11 : Int) (x12 : Int), a = env (nf 126) J [(3, .slice a13 n10 c13), (5, .slice a6 n4 c6), (6, .slice a7 n5 c7), (7, iv x11), (8, iv x6), (48, sv a2 p0.Blocks c2), (49, iv (List.length p0.Blocks : Int)), (50, iv x6), (73, sv a9 u6.Ins c9), (74, iv (List.length u6.Ins : Int)), (75, iv x12)] ∧ Im T6 w11 T9 w14 ∧ Sep g T9 w14 [ownA rBool 4 (.slice a10 n7 c10) u7, elsA nER39 y2.1 css1 (some (Int.toNat x6)), ownA rAllocReach 57 (.slice a13 n10 c13) x10, R, (holeA (rRaw 1) 39 (.slice a6 n4 c6) css1 (Int.toNat x6)) [.slice a10 n7 c10], nestA nER39 39 (.slice a7 n5 c7) y2.2] ∧ loopM bd2 m (x10, x11, x12) = some o2) NN ⟨_, _, x7, _, _, _, x5, 0, env_has ⟨rfl, rfl, rfl, rfl, rfl, rfl, rfl, rfl, rfl, rfl, rfl, trivial⟩, Im.refl, hS17.sel [0, 1, 3, 4, 5, 6] rfl, ho2⟩ ?_)
    rintro m _ w14 ⟨J, T9, x10, a13, n10, c13, x11, x12, rfl, im14, hS22, ho2⟩
    obtain ⟨m2, z2, rfl, hm, hn2⟩ := loop_round ho2
    rw [hbd2] at hm
    refine sq2 (rg (pv (r_ib rfl rfl rfl) (nil (t_then ?_))))
    refine sq2 (cnd rfl (fun hb6 => ?_) (fun hb6 => ?_))
    · have hm := ctrue hb6 hm
      refine skp (t_then ?_)
      refine sq2 (blk (sq2 ?_))
      obtain ⟨u11, hx14, hm⟩ := bindS hm
      obtain ⟨b9, of7, cs9, k7, cp7, hv7, hp7, hl7, he7, hr8, hc6, hT2⟩ := (h3.mono (iT im9 (iT im10 (iT im11 im14)))).ixT hx14 rfl
      obtain ⟨a14, c14, rfl, h4⟩ := rIns_open hr8
      refine rg (pv (r_ixe hv7 rfl underlying50 sizeOf49 hp7 hl7 he7) (pv (r_ldS rfl isAgg49 sizeOf49 rfl hc6 (cs := (cIns u11 a14 c14))) (wl rfl (alS (zs := [iv 0, iv 0, iv 0, iv 0, iv 0, iv 0, iv 0, iv 0, .int .u32 0, .slice none 0 0, .bool false]) zeroValue49 rfl hS22 fun w15 b10 im15 hS23 => ?_))))
      refine wl rfl (st0B (q := 0) hS23 ⟨rfl, rfl⟩ rfl rfl rfl sizeOf49 rfl rfl rfl fun w16 im16 hS24 => ?_)
      refine nil (t_then ?_)
      refine sq2 (sq2 ?_)
      obtain ⟨y4, hx15, hm⟩ := bindS hm
      refine rg (pv (r_ldS rfl isAgg49 sizeOf49 rfl (hS24.cells0 (i := 0) ⟨rfl, rfl⟩ (o := 0) rfl) (cs := (cIns u11 a14 c14))) (wl rfl (calS cf27 rfl (ir_Uses_sim (p0 := u11) (hS24.bun [0, 1, 2, 3, 4, 5, 6] [] rfl) (h4.mono (iT im15 im16)) hx15) rfl fun v4 T10 w17 im17 rv4 => ?_)))
      obtain ⟨a15, n11, c15, rfl, hS25, _⟩ := rv4
      have hS25 := hS25.unb
      refine pv (r_lnV rfl (hS25.own (i := 7) ⟨rfl, rfl⟩).v underlying41) (pv (r_mi rfl) (nil (t_then ?_)))
      obtain ⟨o3, ho3, hq3⟩ := bindS hm
      obtain ⟨bd3, hbd3, ho3⟩ := loop_open ho3
      refine blk (wp_loop_ghost (fun m a w18 => ∃ (J : JV) (T11 : TP) (x13 : List AllocReach) (a16 : OA) (n12 : Nat) (c16 : Nat) (x14 : Int), a = env (nf 126) J [(3, .slice a16 n12 c16), (5, .slice a6 n4 c6), (6, .slice a7 n5 c7), (7, iv x11), (8, iv x6), (13, pt b10 0), (48, sv a2 p0.Blocks c2), (49, iv (List.length p0.Blocks : Int)), (50, iv x6), (73, sv a9 u6.Ins c9), (74, iv (List.length u6.Ins : Int)), (75, iv x12), (80, .slice a15 n11 c15), (81, iv (List.length y4 : Int)), (82, iv x14)] ∧ Im T10 w17 T11 w18 ∧ Sep g T11 w18 [boxA b10 (cIns u11 a14 c14), ownA rBool 4 (.slice a10 n7 c10) u7, elsA nER39 y2.1 css1 (some (Int.toNat x6)), ownA rAllocReach 57 (.slice a16 n12 c16) x13, R, (holeA (rRaw 1) 39 (.slice a6 n4 c6) css1 (Int.toNat x6)) [.slice a10 n7 c10], nestA nER39 39 (.slice a7 n5 c7) y2.2, ownA (rInt .i64) 3 (.slice a15 n11 c15) y4] ∧ loopM bd3 m (x13, x14) = some o3) NN ⟨_, _, x10, _, _, _, 0, env_has ⟨rfl, rfl, rfl, rfl, rfl, rfl, rfl, rfl, rfl, rfl, rfl, rfl, rfl, rfl, rfl, trivial⟩, Im.refl, hS25.sel [0, 1, 2, 3, 4, 5, 6, 7] rfl, ho3⟩ ?_)
      rintro m _ w18 ⟨J, T11, x13, a16, n12, c16, x14, rfl, im18, hS26, ho3⟩
      obtain ⟨m3, z3, rfl, hm, hn3⟩ := loop_round ho3
      rw [hbd3] at hm
      refine sq2 (rg (pv (r_ib rfl rfl rfl) (nil (t_then ?_))))
      refine sq2 (cnd rfl (fun hb7 => ?_) (fun hb7 => ?_))
      · have hm := ctrue hb7 hm
        refine skp (t_then ?_)
        refine sq2 (blk (sq2 ?_))
        obtain ⟨u12, hx16, hm⟩ := bindS hm
        obtain ⟨b11, of8, cs10, k8, cp8, hv8, hp8, hl8, he8, hr9, hc7⟩ := (hS26.own (i := 7) ⟨rfl, rfl⟩).v.ixq hx16 rfl
        cases hr9
        refine rg (pv (r_ixe hv8 rfl underlying41 sizeOf3 hp8 hl8 he8) (pv (r_ld rfl isAgg3 (hc7.get (j := 0) rfl)) (pv (r_zi rfl) (nil (t_then ?_)))))
        obtain ⟨u13, hx17, hm⟩ := bindS hm
        obtain ⟨b12, of9, cs11, k9, cp9, hv9, hp9, hl9, he9, hr10, hc8⟩ := (hS26.own (i := 3) ⟨rfl, rfl⟩).v.ixq hx17 rfl
        cases rAllocReach_open hr10
        obtain ⟨u14, hx18, hm⟩ := bindS hm
        obtain ⟨y5, hx19, hm⟩ := bindS hm
        refine rg (pv (r_ms rfl) (pv (r_mi rfl) (pv (r_ixe hv9 rfl underlying53 sizeOf57 hp9 hl9 he9) (pv (r_mi rfl) (?_)))))
        obtain ⟨cs12, hr11, hS27⟩ := hS26.focus (q := 3) ⟨rfl, rfl⟩ hx18
        cases rAllocReach_open hr11
        refine wl rfl (calS cf25 rfl (alloc_reach_at_sim (p0 := u14) (H_p0 := holeA rAllocReach 57 (.slice a16 n12 c16) x13 (Int.toNat u12)) (p1 := x11) (hS27.bun [0, 1, 2, 4, 5, 6, 7] [3] rfl) (lnHole hv9 he9) hx19) rfl fun v5 T12 w19 im19 rv5 => ?_)
        obtain ⟨rfl, hS28, _⟩ := rv5
        have hS28 := hS28.unb
        have hS29 : Sep g T12 w19 [boxA b10 (cIns u11 a14 c14), ownA rBool 4 (.slice a10 n7 c10) u7, elsA nER39 y2.1 css1 (some (Int.toNat x6)), R, (holeA (rRaw 1) 39 (.slice a6 n4 c6) css1 (Int.toNat x6)) [.slice a10 n7 c10], nestA nER39 39 (.slice a7 n5 c7) y2.2, ownA (rInt .i64) 3 (.slice a15 n11 c15) y4, ownA rAllocReach 57 (.slice a16 n12 c16) (List.set x13 (Int.toNat u12) y5)] := hS28.unfocus (q := 7) (u := y5) ⟨rfl, rfl⟩ (rAllocReach_mk (x := y5)  : rAllocReach.rp _ _ _ _)
        refine nil (t_blk (t_then ?_))
        have hm := oI hm; subst hm
        exact rg (pv (r_ib rfl rfl rfl) (pv (r_mi rfl) (nil (t_then ⟨m3, Nat.lt_succ_self _, _, _, (List.set x13 (Int.toNat u12) y5), _, _, _, (IntKind.wrap .i64 (x14 + 1)), env_has ⟨rfl, rfl, rfl, rfl, rfl, rfl, rfl, rfl, rfl, rfl, rfl, rfl, rfl, rfl, rfl, trivial⟩, (iT im18 im19), hS29.sel [0, 1, 2, 7, 3, 4, 5, 6] rfl, hn3⟩))))
      have hm := cfalse hb7 hm
      have hm := oI hm; subst hm
      have hn3 : _ = Lp.brk _ := hn3
      subst hn3
      have hm := thn_brk hq3
      refine xt (x_then (x_then (x_eq (t_then ?_))))
      obtain ⟨kk3, hkk3, hm⟩ := jn_open hm
      refine cut (fun a w20 => ∃ (J : JV) (T13 : TP) (x15 : List AllocReach) (a17 : OA) (n13 : Nat) (c17 : Nat), a = env (nf 126) J [(3, .slice a17 n13 c17), (5, .slice a6 n4 c6), (6, .slice a7 n5 c7), (7, iv x11), (8, iv x6), (48, sv a2 p0.Blocks c2), (49, iv (List.length p0.Blocks : Int)), (50, iv x6), (73, sv a9 u6.Ins c9), (74, iv (List.length u6.Ins : Int)), (75, iv x12)] ∧ Im T11 w18 T13 w20 ∧ Sep g T13 w20 [ownA rBool 4 (.slice a10 n7 c10) u7, elsA nER39 y2.1 css1 (some (Int.toNat x6)), ownA rAllocReach 57 (.slice a17 n13 c17) x15, R, (holeA (rRaw 1) 39 (.slice a6 n4 c6) css1 (Int.toNat x6)) [.slice a10 n7 c10], nestA nER39 39 (.slice a7 n5 c7) y2.2] ∧ kk3 x15 = some z2) ?_ ?_
      · refine sq2 ?_
        obtain ⟨y6, hx20, hm⟩ := bindS hm
        refine rg (pv (r_ldS rfl isAgg49 sizeOf49 rfl (hS26.cells0 (i := 0) ⟨rfl, rfl⟩ (o := 0) rfl) (cs := (cIns u11 a14 c14))) (wl rfl (calS cf28 rfl (ir_Def_sim (p0 := u11) (hS26.bun [1, 2, 3, 4, 5, 6] [] rfl) (h4.mono (iT im15 (iT im16 (iT im17 im18)))) hx20) rfl fun v6 T14 w21 im21 rv6 => ?_)))
        obtain ⟨rfl, hS30, _⟩ := rv6
        have hS30 := hS30.unb
        refine pv (r_zi rfl) (nil (t_then ?_))
        refine sq2 (rg (pv (r_mi rfl) (pv (r_ib rfl rfl rfl) (nil (t_then ?_)))))
        refine cnd rfl (fun hb8 => ?_) (fun hb8 => ?_)
        · have hm := ctrue hb8 hm
          obtain ⟨u15, hx21, hm⟩ := bindS hm
          obtain ⟨b13, of10, cs13, k10, cp10, hv10, hp10, hl10, he10, hr12, hc9⟩ := (hS30.own (i := 2) ⟨rfl, rfl⟩).v.ixq hx21 rfl
          cases rAllocReach_open hr12
          obtain ⟨u16, hx22, hm⟩ := bindS hm
          obtain ⟨y7, hx23, hm⟩ := bindS hm
          refine rg (pv (r_ms rfl) (pv (r_mi rfl) (pv (r_ixe hv10 rfl underlying53 sizeOf57 hp10 hl10 he10) (pv (r_mi rfl) (pv (r_ib rfl rfl rfl) (?_))))))
          obtain ⟨cs14, hr13, hS31⟩ := hS30.focus (q := 2) ⟨rfl, rfl⟩ hx22
          cases rAllocReach_open hr13
          refine wl rfl (calS cf25 rfl (alloc_reach_at_sim (p0 := u16) (H_p0 := holeA rAllocReach 57 (.slice a16 n12 c16) x13 (Int.toNat y6)) (p1 := IntKind.wrap .i64 (x11 + 1)) (hS31.bun [0, 1, 3, 4, 5] [2] rfl) (lnHole hv10 he10) hx23) rfl fun v7 T15 w22 im22 rv7 => ?_)
          obtain ⟨rfl, hS32, _⟩ := rv7
          have hS32 := hS32.unb
          have hS33 : Sep g T15 w22 [ownA rBool 4 (.slice a10 n7 c10) u7, elsA nER39 y2.1 css1 (some (Int.toNat x6)), R, (holeA (rRaw 1) 39 (.slice a6 n4 c6) css1 (Int.toNat x6)) [.slice a10 n7 c10], nestA nER39 39 (.slice a7 n5 c7) y2.2, ownA rAllocReach 57 (.slice a16 n12 c16) (List.set x13 (Int.toNat y6) y7)] := hS32.unfocus (q := 5) (u := y7) ⟨rfl, rfl⟩ (rAllocReach_mk (x := y7)  : rAllocReach.rp _ _ _ _)
          exact nil (t_then ⟨_, _, (List.set x13 (Int.toNat y6) y7), _, _, _, env_has ⟨rfl, rfl, rfl, rfl, rfl, rfl, rfl, rfl, rfl, rfl, rfl, trivial⟩, (iT im21 im22), hS33.sel [0, 1, 5, 2, 3, 4] rfl, hm⟩)
        have hm := cfalse hb8 hm
        exact skp (t_then ⟨_, _, x13, _, _, _, env_has ⟨rfl, rfl, rfl, rfl, rfl, rfl, rfl, rfl, rfl, rfl, rfl, trivial⟩, im21, hS30.sel [0, 1, 2, 3, 4, 5] rfl, hm⟩)
      rintro _ w20 ⟨J, T13, x15, a17, n13, c17, rfl, im20, hS34, hm⟩
      rw [hkk3] at hm
      refine rg (pv (r_mi rfl) (pv (r_ib rfl rfl rfl) (pv (r_zi rfl) (nil (t_blk (t_then ?_))))))
      have hm := oI hm; subst hm
      exact rg (pv (r_ib rfl rfl rfl) (pv (r_mi rfl) (nil (t_then ⟨m2, Nat.lt_succ_self _, _, _, x15, _, _, _, (IntKind.wrap .i64 (x11 + 2)), (IntKind.wrap .i64 (x12 + 1)), env_has ⟨rfl, rfl, rfl, rfl, rfl, rfl, rfl, rfl, rfl, rfl, rfl, trivial⟩, (iT im14 (iT im15 (iT im16 (iT im17 (iT im18 im20))))), hS34.sel [0, 1, 2, 3, 4, 5] rfl, hn2⟩))))
    have hm := cfalse hb6 hm
    have hm := oI hm; subst hm
    have hn2 : _ = Lp.brk _ := hn2
    subst hn2
    have hm := thn_brk hq2
    refine xt (x_then (x_then (x_eq (t_then ?_))))
    refine sq2 (sq2 (rg (pv (r_ms rfl) (pv (r_mi rfl) (?_)))))
    obtain ⟨u17, hx24, hm⟩ := bindS hm
    obtain ⟨b14, of11, k11, cp11, hv11, hp11, hl11, he11⟩ := hS22.nhd (q := 5) ⟨rfl, rfl⟩ hx24 rfl
    obtain ⟨css2, cs15, hS35⟩ := hS22.nfocus (q := 5) ⟨rfl, rfl⟩ hx24
    obtain ⟨⟨a18, n14, c18⟩, hS36⟩ := hS35.exE
    obtain ⟨hcs2, hS37⟩ := hS36.pE
    subst hcs2
    have hS38 : Sep g T9 w14 [ownA rBool 4 (.slice a18 n14 c18) u17, elsA nER39 y2.2 css2 (some (Int.toNat x6)), ownA rBool 4 (.slice a10 n7 c10) u7, elsA nER39 y2.1 css1 (some (Int.toNat x6)), ownA rAllocReach 57 (.slice a13 n10 c13) x10, R, (holeA (rRaw 1) 39 (.slice a6 n4 c6) css1 (Int.toNat x6)) [.slice a10 n7 c10], (holeA (rRaw 1) 39 (.slice a7 n5 c7) css2 (Int.toNat x6)) [.slice a18 n14 c18]] := hS37.unb
    refine pv (r_ixe hv11 rfl underlying79 sizeOf39 hp11 hl11 he11) (pv (r_ld rfl isAgg39 (hS38.cellB (i := 7) ⟨rfl, rfl⟩ (lnHole (i := x6) hv11 he11) (j := 0) rfl)) (pv (r_lnV rfl (hS38.own (i := 0) ⟨rfl, rfl⟩).v underlying39) (pv (r_mi rfl) (nil (t_then ?_)))))
    obtain ⟨o2, ho2, hq2⟩ := bindS hm
    obtain ⟨bd2, hbd2, ho2⟩ := loop_open ho2
    refine blk (wp_loop_ghost (fun m a w23 => ∃ (J : JV) (T16 : TP) (x16 : List AllocReach) (a19 : OA) (n15 : Nat) (c19 : Nat) (x17 : Int), a = env (nf 126) J [(3, .slice a19 n15 c19), (5, .slice a6 n4 c6), (6, .slice a7 n5 c7), (7, iv x11), (48, sv a2 p0.Blocks c2), (49, iv (List.length p0.Blocks : Int)), (50, iv x6), (108, .slice a18 n14 c18), (109, iv (List.length u17 : Int)), (110, iv x17)] ∧ Im T9 w14 T16 w23 ∧ Sep g T16 w23 [ownA rBool 4 (.slice a18 n14 c18) u17, elsA nER39 y2.2 css2 (some (Int.toNat x6)), ownA rBool 4 (.slice a10 n7 c10) u7, elsA nER39 y2.1 css1 (some (Int.toNat x6)), ownA rAllocReach 57 (.slice a19 n15 c19) x16, R, (holeA (rRaw 1) 39 (.slice a6 n4 c6) css1 (Int.toNat x6)) [.slice a10 n7 c10], (holeA (rRaw 1) 39 (.slice a7 n5 c7) css2 (Int.toNat x6)) [.slice a18 n14 c18]] ∧ loopM bd2 m (x16, x17) = some o2) NN ⟨_, _, x10, _, _, _, 0, env_has ⟨rfl, rfl, rfl, rfl, rfl, rfl, rfl, rfl, rfl, rfl, trivial⟩, Im.refl, hS38.sel [0, 1, 2, 3, 4, 5, 6, 7] rfl, ho2⟩ ?_)
    rintro m _ w23 ⟨J, T16, x16, a19, n15, c19, x17, rfl, im23, hS39, ho2⟩
    obtain ⟨m2, z2, rfl, hm, hn2⟩ := loop_round ho2
    rw [hbd2] at hm
    refine sq2 (rg (pv (r_ib rfl rfl rfl) (nil (t_then ?_))))
    refine sq2 (cnd rfl (fun hb9 => ?_) (fun hb9 => ?_))
    · have hm := ctrue hb9 hm
      refine skp (t_then ?_)
      obtain ⟨kk4, hkk4, hm⟩ := jn_open hm
      refine cut (fun a w24 => ∃ (J : JV) (T17 : TP) (x18 : List AllocReach) (a20 : OA) (n16 : Nat) (c20 : Nat), a = env (nf 126) J [(3, .slice a20 n16 c20), (5, .slice a6 n4 c6), (6, .slice a7 n5 c7), (7, iv x11), (48, sv a2 p0.Blocks c2), (49, iv (List.length p0.Blocks : Int)), (50, iv x6), (108, .slice a18 n14 c18), (109, iv (List.length u17 : Int)), (110, iv x17)] ∧ Im T16 w23 T17 w24 ∧ Sep g T17 w24 [ownA rBool 4 (.slice a18 n14 c18) u17, elsA nER39 y2.2 css2 (some (Int.toNat x6)), ownA rBool 4 (.slice a10 n7 c10) u7, elsA nER39 y2.1 css1 (some (Int.toNat x6)), ownA rAllocReach 57 (.slice a20 n16 c20) x18, R, (holeA (rRaw 1) 39 (.slice a6 n4 c6) css1 (Int.toNat x6)) [.slice a10 n7 c10], (holeA (rRaw 1) 39 (.slice a7 n5 c7) css2 (Int.toNat x6)) [.slice a18 n14 c18]] ∧ kk4 x18 = some z2) ?_ ?_
      · refine blk (sq2 ?_)
        obtain ⟨u18, hx25, hm⟩ := bindS hm
        obtain ⟨b15, of12, cs16, k12, cp12, hv12, hp12, hl12, he12, hr14, hc10⟩ := (hS39.own (i := 0) ⟨rfl, rfl⟩).v.ixq hx25 rfl
        cases hr14
        refine rg (pv (r_mi rfl) (pv (r_ixe hv12 rfl underlying39 sizeOf4 hp12 hl12 he12) (pv (r_ld rfl isAgg4 (hc10.get (j := 0) rfl)) (pv (r_zi rfl) (pv (r_zb rfl) (nil (t_then ?_)))))))
        refine sq2 (rg (pv (r_mb rfl) (nil (t_then ?_))))
        refine cnd rfl (fun hb10 => ?_) (fun hb10 => ?_)
        · have hm := ctrue hb10 hm
          obtain ⟨u19, hx26, hm⟩ := bindS hm
          obtain ⟨b16, of13, cs17, k13, cp13, hv13, hp13, hl13, he13, hr15, hc11⟩ := (hS39.own (i := 4) ⟨rfl, rfl⟩).v.ixq hx26 rfl
          cases rAllocReach_open hr15
          obtain ⟨u20, hx27, hm⟩ := bindS hm
          obtain ⟨y8, hx28, hm⟩ := bindS hm
          refine rg (pv (r_ms rfl) (pv (r_mi rfl) (pv (r_ixe hv13 rfl underlying53 sizeOf57 hp13 hl13 he13) (pv (r_mi rfl) (?_)))))
          obtain ⟨cs18, hr16, hS40⟩ := hS39.focus (q := 4) ⟨rfl, rfl⟩ hx27
          cases rAllocReach_open hr16
          refine wl rfl (calS cf25 rfl (alloc_reach_at_sim (p0 := u20) (H_p0 := holeA rAllocReach 57 (.slice a19 n15 c19) x16 (Int.toNat x17)) (p1 := x11) (hS40.bun [0, 1, 2, 3, 5, 6, 7] [4] rfl) (lnHole hv13 he13) hx28) rfl fun v8 T18 w25 im25 rv8 => ?_)
          obtain ⟨rfl, hS41, _⟩ := rv8
          have hS41 := hS41.unb
          have hS42 : Sep g T18 w25 [ownA rBool 4 (.slice a18 n14 c18) u17, elsA nER39 y2.2 css2 (some (Int.toNat x6)), ownA rBool 4 (.slice a10 n7 c10) u7, elsA nER39 y2.1 css1 (some (Int.toNat x6)), R, (holeA (rRaw 1) 39 (.slice a6 n4 c6) css1 (Int.toNat x6)) [.slice a10 n7 c10], (holeA (rRaw 1) 39 (.slice a7 n5 c7) css2 (Int.toNat x6)) [.slice a18 n14 c18], ownA rAllocReach 57 (.slice a19 n15 c19) (List.set x16 (Int.toNat x17) y8)] := hS41.unfocus (q := 7) (u := y8) ⟨rfl, rfl⟩ (rAllocReach_mk (x := y8)  : rAllocReach.rp _ _ _ _)
          exact nil (t_blk (t_then ⟨_, _, (List.set x16 (Int.toNat x17) y8), _, _, _, env_has ⟨rfl, rfl, rfl, rfl, rfl, rfl, rfl, rfl, rfl, rfl, trivial⟩, im25, hS42.sel [0, 1, 2, 3, 7, 4, 5, 6] rfl, hm⟩))
        have hm := cfalse hb10 hm
        exact skp (t_blk (t_then ⟨_, _, x16, _, _, _, env_has ⟨rfl, rfl, rfl, rfl, rfl, rfl, rfl, rfl, rfl, rfl, trivial⟩, Im.refl, hS39.sel [0, 1, 2, 3, 4, 5, 6, 7] rfl, hm⟩))
      rintro _ w24 ⟨J, T17, x18, a20, n16, c20, rfl, im24, hS43, hm⟩
      rw [hkk4] at hm
      have hm := oI hm; subst hm
      exact rg (pv (r_ib rfl rfl rfl) (pv (r_mi rfl) (nil (t_then ⟨m2, Nat.lt_succ_self _, _, _, x18, _, _, _, (IntKind.wrap .i64 (x17 + 1)), env_has ⟨rfl, rfl, rfl, rfl, rfl, rfl, rfl, rfl, rfl, rfl, trivial⟩, (iT im23 im24), hS43.sel [0, 1, 2, 3, 4, 5, 6, 7] rfl, hn2⟩))))
    have hm := cfalse hb9 hm
    have hm := oI hm; subst hm
    have hn2 : _ = Lp.brk _ := hn2
    subst hn2
    have hm := thn_brk hq2
    refine xt (x_then (x_then (x_eq (t_then ?_))))
    refine rg (pv (r_mi rfl) (pv (r_ib rfl rfl rfl) (pv (r_zi rfl) (nil (t_blk (t_then ?_))))))
    have hS44 := hS39.bun [2] [3, 0, 1, 4, 5, 6, 7] rfl
    have hS45 : Sep g T16 w23 [nER39.A u7 [.slice a10 n7 c10], elsA nER39 y2.1 css1 (some (Int.toNat x6)), ownA rBool 4 (.slice a18 n14 c18) u17, elsA nER39 y2.2 css2 (some (Int.toNat x6)), ownA rAllocReach 57 (.slice a19 n15 c19) x16, R, (holeA (rRaw 1) 39 (.slice a6 n4 c6) css1 (Int.toNat x6)) [.slice a10 n7 c10], (holeA (rRaw 1) 39 (.slice a7 n5 c7) css2 (Int.toNat x6)) [.slice a18 n14 c18]] := Sep.exI (a10, n7, c10) (Sep.pI rfl hS44)
    have hS46 : Sep g T16 w23 [ownA rBool 4 (.slice a18 n14 c18) u17, elsA nER39 y2.2 css2 (some (Int.toNat x6)), ownA rAllocReach 57 (.slice a19 n15 c19) x16, R, nestA nER39 39 (.slice a6 n4 c6) y2.1, (holeA (rRaw 1) 39 (.slice a7 n5 c7) css2 (Int.toNat x6)) [.slice a18 n14 c18]] := hS45.nunfocus0 (q := 4) ⟨rfl, rfl⟩ hx9
    have hS47 := hS46.bun [0] [1, 2, 3, 4, 5] rfl
    have hS48 : Sep g T16 w23 [nER39.A u17 [.slice a18 n14 c18], elsA nER39 y2.2 css2 (some (Int.toNat x6)), ownA rAllocReach 57 (.slice a19 n15 c19) x16, R, nestA nER39 39 (.slice a6 n4 c6) y2.1, (holeA (rRaw 1) 39 (.slice a7 n5 c7) css2 (Int.toNat x6)) [.slice a18 n14 c18]] := Sep.exI (a18, n14, c18) (Sep.pI rfl hS47)
    have hS49 : Sep g T16 w23 [ownA rAllocReach 57 (.slice a19 n15 c19) x16, R, nestA nER39 39 (.slice a6 n4 c6) y2.1, nestA nER39 39 (.slice a7 n5 c7) y2.2] := hS48.nunfocus0 (q := 3) ⟨rfl, rfl⟩ hx24
    have hm := oI hm; subst hm
    exact rg (pv (r_ib rfl rfl rfl) (pv (r_mi rfl) (nil (t_then ⟨m1, Nat.lt_succ_self _, _, _, x16, _, _, _, (IntKind.wrap .i64 (x11 + 1)), (IntKind.wrap .i64 (x6 + 1)), env_has ⟨rfl, rfl, rfl, rfl, rfl, rfl, rfl, trivial⟩, (iT im8 (iT im9 (iT im10 (iT im11 (iT im14 im23))))), hS49.sel [0, 1, 2, 3] rfl, hn1⟩))))
  have hm := cfalse hb3 hm
  have hm := oI hm; subst hm
  have hn1 : _ = Lp.brk _ := hn1
  subst hn1
  have hm := thn_brk hq1
  refine xt (x_then (x_then (x_eq (t_then ?_))))
  refine sq2 (rg (pv (r_ms rfl) (pv (r_zs rfl) (nil (t_then ?_)))))
  have hm := oI hm; subst hm
  exact rtn (ret1 rfl rfl ⟨_, rfl, _, (iT im1 (iT im2 (iT im3 (iT im7 im8)))), ⟨_, _, _, rfl, hS10.sel [1, 0] rfl, trivial⟩⟩)

theorem alloc_Assign_1_sim {p0 : AllocReach} {r : Bool} (hS : Sep g T0 w0 [R])  (hm : alloc_Assign_1 p0 = some r) :
    Calls Tryz.prog 14 #[.agg (cAllocReach p0).toArray] w0 (RetS T0 w0 fun T w v => v = .bool r ∧ Sep g T w [R] ∧ True) := by
  refine enter (args := [.agg (cAllocReach p0).toArray]) Tryz.func14 rfl Tryz.ntmps14 rfl fun J => ?_
  unfold alloc_Assign_1 at hm
  refine sq2 (rg (wl rfl (bxS (cs := (cAllocReach p0)) rfl rfl hS fun w1 b1 im1 hS1 => ?_)))
  refine pv (r_zb rfl) (nil (t_then ?_))
  refine sq2 (rg (pv (r_fa rfl underlying57 rfl sizeOf4 rfl) (pv (r_ld rfl isAgg4 (hS1.cell0 (i := 0) ⟨rfl, rfl⟩ (j := 3) rfl)) (pv (r_nt rfl) (pv (r_zb rfl) (nil (t_then ?_)))))))
  have hm := oI hm; subst hm
  exact rtn (ret1 rfl rfl ⟨_, rfl, _, im1, ⟨rfl, hS1.sel [1] rfl, trivial⟩⟩)

theorem slices_IndexFunc_2_sim {p0 : List AllocReach} {v_p0 : Value} {H_p0 : Assn} {r : Int} (hS : Sep g T0 w0 [R, H_p0]) (hV_p0 : Vw H_p0 rAllocReach v_p0 p0) (hm : slices_IndexFunc_2 p0 = some r) :
    Calls Tryz.prog 29 #[v_p0, .func (.func 14) #[] #[]] w0 (RetS T0 w0 fun T w v => v = iv r ∧ Sep g T w [R, H_p0] ∧ True) := by
  refine enter (args := [v_p0, .func (.func 14) #[] #[]]) Tryz.func29 rfl Tryz.ntmps29 rfl fun J => ?_
  unfold slices_IndexFunc_2 at hm
  refine sq2 (rg (pv (r_zi rfl) (nil (t_then ?_))))
  refine sq2 (sq2 (rg (pv (r_mx (v := v_p0) rfl) (pv (r_lnV rfl (hS.view (i := 1) ⟨rfl, rfl⟩ hV_p0) underlying53) (pv (r_mi rfl) (nil (t_then ?_)))))))
  obtain ⟨o1, ho1, hq1⟩ := bindS hm
  obtain ⟨bd1, hbd1, ho1⟩ := loop_open ho1
  refine blk (wp_loop_ghost (fun m a w1 => ∃ (J : JV) (T1 : TP) (x1 : Int), a = env (nf 19) J [(0, v_p0), (1, .func (.func 14) #[] #[]), (7, iv (List.length p0 : Int)), (8, iv x1)] ∧ Im T0 w0 T1 w1 ∧ Sep g T1 w1 [R, H_p0] ∧ loopM bd1 m x1 = some o1) NN ⟨_, _, 0, env_has ⟨rfl, rfl, rfl, rfl, trivial⟩, Im.refl, hS.sel [0, 1] rfl, ho1⟩ ?_)
  rintro m _ w1 ⟨J, T1, x1, rfl, im1, hS1, ho1⟩
  obtain ⟨m1, z1, rfl, hm, hn1⟩ := loop_round ho1
  rw [hbd1] at hm
  refine sq2 (rg (pv (r_ib rfl rfl rfl) (nil (t_then ?_))))
  refine sq2 (cnd rfl (fun hb1 => ?_) (fun hb1 => ?_))
  · have hm := ctrue hb1 hm
    refine skp (t_then ?_)
    refine sq2 (blk (sq2 (rg (pv (r_mi rfl) (pv (r_zi rfl) (nil (t_then ?_)))))))
    refine sq2 ?_
    obtain ⟨u1, hx1, hm⟩ := bindS hm
    obtain ⟨b1, of1, cs1, k1, cp1, hv1, hp1, hl1, he1, hr1, hc1⟩ := (hS1.view (i := 1) ⟨rfl, rfl⟩ hV_p0).ixq hx1 rfl
    cases rAllocReach_open hr1
    obtain ⟨y1, hx2, hm⟩ := bindS hm
    refine rg (pv (r_mf rfl) (pv (r_mx (v := v_p0) rfl) (pv (r_mi rfl) (pv (r_ixe hv1 rfl underlying53 sizeOf57 hp1 hl1 he1) (pv (r_ldS rfl isAgg57 sizeOf57 rfl hc1 (cs := (cAllocReach u1))) (wl rfl (calS cf14 rfl (alloc_Assign_1_sim (p0 := u1) (hS1.bun [0, 1] [] rfl)  hx2) rfl fun v1 T2 w2 im2 rv1 => ?_)))))))
    obtain ⟨rfl, hS2, _⟩ := rv1
    have hS2 := hS2.unb
    refine nil (t_then ?_)
    refine cnd rfl (fun hb2 => ?_) (fun hb2 => ?_)
    · have hm := ctrue hb2 hm
      refine sq2 (rg (pv (r_mi rfl) (pv (r_zi rfl) (nil (t_then ?_)))))
      have hm := oI hm; subst hm
      have hn1 : _ = Lp.ret _ := hn1
      subst hn1
      have hm := thn_ret hq1
      have hm := oI hm; subst hm
      exact rtn (r_blk (r_then (r_then (r_blk (r_then (ret1 rfl rfl ⟨_, rfl, _, (iT im1 im2), ⟨rfl, hS2.sel [0, 1] rfl, trivial⟩⟩))))))
    have hm := cfalse hb2 hm
    refine skp (t_blk (t_then ?_))
    have hm := oI hm; subst hm
    exact rg (pv (r_ib rfl rfl rfl) (pv (r_mi rfl) (nil (t_then ⟨m1, Nat.lt_succ_self _, _, _, (IntKind.wrap .i64 (x1 + 1)), env_has ⟨rfl, rfl, rfl, rfl, trivial⟩, (iT im1 im2), hS2.sel [0, 1] rfl, hn1⟩))))
  have hm := cfalse hb1 hm
  have hm := oI hm; subst hm
  have hn1 : _ = Lp.brk _ := hn1
  subst hn1
  have hm := thn_brk hq1
  refine xt (x_then (x_then (x_eq (t_then ?_))))
  refine sq2 (rg (pv (r_zi rfl) (nil (t_then ?_))))
  have hm := oI hm; subst hm
  exact rtn (ret1 rfl rfl ⟨_, rfl, _, im1, ⟨rfl, hS1.sel [0, 1] rfl, trivial⟩⟩)

theorem slices_DeleteFunc_2_sim {p0 : List AllocReach} {a1 : OA} {n1 : Nat} {c1 : Nat} {r : (List AllocReach)} (hS : Sep g T0 w0 [R, ownA rAllocReach 57 (.slice a1 n1 c1) p0])  (hm : slices_DeleteFunc_2 p0 = some r) :
    Calls Tryz.prog 13 #[.slice a1 n1 c1, .func (.func 14) #[] #[]] w0 (RetS T0 w0 fun T w v => ∃ (a5 : OA) (n5 : Nat) (c5 : Nat), v = .slice a5 n5 c5 ∧ Sep g T w [R, ownA rAllocReach 57 (.slice a5 n5 c5) r] ∧ True) := by
  refine enter (args := [.slice a1 n1 c1, .func (.func 14) #[] #[]]) Tryz.func13 rfl Tryz.ntmps13 rfl fun J => ?_
  unfold slices_DeleteFunc_2 at hm
  refine sq2 (rg (pv (r_zs rfl) (nil (t_then ?_))))
  refine sq2 ?_
  obtain ⟨y1, hx1, hm⟩ := bindS hm
  refine rg (pv (r_ms rfl) (pv (r_mf rfl) (wl rfl (calS cf29 rfl (slices_IndexFunc_2_sim (p0 := p0) (H_p0 := ownA rAllocReach 57 (.slice a1 n1 c1) p0) (hS.bun [0] [1] rfl) vwOwn hx1) rfl fun v1 T1 w1 im1 rv1 => ?_))))
  obtain ⟨rfl, hS1, _⟩ := rv1
  have hS1 := hS1.unb
  refine pv (r_zi rfl) (nil (t_then ?_))
  refine sq2 (sq2 (rg (pv (r_mi rfl) (pv (r_ib rfl rfl rfl) (nil (t_then ?_))))))
  refine cnd rfl (fun hb1 => ?_) (fun hb1 => ?_)
  · have hm := ctrue hb1 hm
    refine sq2 (rg (pv (r_ms rfl) (pv (r_zs rfl) (nil (t_then ?_)))))
    have hm := oI hm; subst hm
    exact rtn (r_then (ret1 rfl rfl ⟨_, rfl, _, im1, ⟨_, _, _, rfl, hS1.sel [0, 1] rfl, trivial⟩⟩))
  have hm := cfalse hb1 hm
  refine skp (t_then ?_)
  refine sq2 (sq2 (rg (pv (r_mi rfl) (pv (r_ib rfl rfl rfl) (pv (r_zi rfl) (nil (t_then ?_)))))))
  obtain ⟨o1, ho1, hq1⟩ := bindS hm
  obtain ⟨bd1, hbd1, ho1⟩ := loop_open ho1
  refine blk (wp_loop_ghost (fun m a w2 => ∃ (J : JV) (T2 : TP) (x1 : List AllocReach) (a2 : OA) (n2 : Nat) (c2 : Nat) (x2 : Int) (x3 : Int), a = env (nf 42) J [(0, .slice a2 n2 c2), (1, .func (.func 14) #[] #[]), (5, iv x2), (6, iv x3)] ∧ Im T1 w1 T2 w2 ∧ Sep g T2 w2 [R, ownA rAllocReach 57 (.slice a2 n2 c2) x1] ∧ loopM bd1 m (x1, x2, x3) = some o1) NN ⟨_, _, p0, _, _, _, y1, (IntKind.wrap .i64 (y1 + 1)), env_has ⟨rfl, rfl, rfl, rfl, trivial⟩, Im.refl, hS1.sel [0, 1] rfl, ho1⟩ ?_)
  rintro m _ w2 ⟨J, T2, x1, a2, n2, c2, x2, x3, rfl, im2, hS2, ho1⟩
  obtain ⟨m1, z1, rfl, hm, hn1⟩ := loop_round ho1
  rw [hbd1] at hm
  refine sq2 (sq2 (rg (pv (r_mi rfl) (pv (r_ms rfl) (pv (r_lnV rfl (hS2.own (i := 1) ⟨rfl, rfl⟩).v underlying53) (pv (r_ib rfl rfl rfl) (nil (t_then ?_))))))))
  refine cnd rfl (fun hb2 => ?_) (fun hb2 => ?_)
  · have hm := ctrue hb2 hm
    refine skp (t_then ?_)
    obtain ⟨kk1, hkk1, hm⟩ := jn_open hm
    refine cut (fun a w3 => ∃ (J : JV) (T3 : TP) (x4 : List AllocReach) (a3 : OA) (n3 : Nat) (c3 : Nat) (x5 : Int), a = env (nf 42) J [(0, .slice a3 n3 c3), (1, .func (.func 14) #[] #[]), (5, iv x5), (6, iv x3)] ∧ Im T2 w2 T3 w3 ∧ Sep g T3 w3 [R, ownA rAllocReach 57 (.slice a3 n3 c3) x4] ∧ kk1 x4 x5 = some z1) ?_ ?_
    · refine blk (sq2 ?_)
      obtain ⟨u1, hx2, hm⟩ := bindS hm
      obtain ⟨b1, of1, cs1, k1, cp1, hv1, hp1, hl1, he1, hr1, hc1⟩ := (hS2.own (i := 1) ⟨rfl, rfl⟩).v.ixq hx2 rfl
      cases rAllocReach_open hr1
      refine rg (pv (r_ms rfl) (pv (r_mi rfl) (pv (r_ixe hv1 rfl underlying53 sizeOf57 hp1 hl1 he1) (pv (r_ldS rfl isAgg57 sizeOf57 rfl hc1 (cs := (cAllocReach u1))) (wl rfl (alS (zs := [iv 0, iv 0, iv 0, .bool false]) zeroValue57 rfl hS2 fun w4 b2 im4 hS3 => ?_))))))
      refine wl rfl (st0B (q := 0) hS3 ⟨rfl, rfl⟩ rfl rfl rfl sizeOf57 rfl rfl rfl fun w5 im5 hS4 => ?_)
      refine nil (t_then ?_)
      refine sq2 ?_
      obtain ⟨y2, hx3, hm⟩ := bindS hm
      refine rg (pv (r_mf rfl) (pv (r_ldS rfl isAgg57 sizeOf57 rfl (hS4.cells0 (i := 0) ⟨rfl, rfl⟩ (o := 0) rfl) (cs := (cAllocReach u1))) (wl rfl (calS cf14 rfl (alloc_Assign_1_sim (p0 := u1) (hS4.bun [0, 1, 2] [] rfl)  hx3) rfl fun v2 T4 w6 im6 rv2 => ?_))))
      obtain ⟨rfl, hS5, _⟩ := rv2
      have hS5 := hS5.unb
      refine pv (r_nt rfl) (nil (t_then ?_))
      refine cnd rfl (fun hb3 => ?_) (fun hb3 => ?_)
      · have hm := ctrue hb3 hm
        refine sq2 ?_
        obtain ⟨u2, hx4, hm⟩ := bindS hm
        obtain ⟨b3, of2, cs2, k2, cp2, hv2, hp2, hl2, he2, hr2, hc2⟩ := (hS5.own (i := 2) ⟨rfl, rfl⟩).v.ixq hx4 rfl
        cases rAllocReach_open hr2
        obtain ⟨u3, hx5, hm⟩ := bindS hm
        refine rg (pv (r_ms rfl) (pv (r_mi rfl) (pv (r_ldS rfl isAgg57 sizeOf57 rfl (hS5.cells0 (i := 0) ⟨rfl, rfl⟩ (o := 0) rfl) (cs := (cAllocReach u1))) (pv (r_ixe hv2 rfl underlying53 sizeOf57 hp2 hl2 he2) (wl rfl (stO (q := 2) (i := Int.toNat x2) (j := 0) (u := u3) (u' := u1) hS5 ⟨rfl, rfl⟩ hv2 (idx_some hx5).2.2 he2 rfl rfl rfl sizeOf57 rfl rfl rfl (fun c0 hc0 => by rw [storeL_all (r := rAllocReach) hc0 rfl]; exact (rAllocReach_mk (x := u1)  : rAllocReach.rp _ _ _ _)) fun w7 im7 hS6 => ?_))))))
        refine nil (t_then ?_)
        exact rg (pv (r_mi rfl) (pv (r_ib rfl rfl rfl) (pv (r_zi rfl) (nil (t_blk (t_then ⟨_, _, (List.set x1 (Int.toNat x2) u1), _, _, _, (IntKind.wrap .i64 (x2 + 1)), env_has ⟨rfl, rfl, rfl, rfl, trivial⟩, (iT im4 (iT im5 (iT im6 im7))), hS6.sel [1, 2] rfl, hm⟩))))))
      have hm := cfalse hb3 hm
      exact skp (t_blk (t_then ⟨_, _, x1, _, _, _, x2, env_has ⟨rfl, rfl, rfl, rfl, trivial⟩, (iT im4 (iT im5 im6)), hS5.sel [1, 2] rfl, hm⟩))
    rintro _ w3 ⟨J, T3, x4, a3, n3, c3, x5, rfl, im3, hS7, hm⟩
    rw [hkk1] at hm
    have hm := oI hm; subst hm
    exact rg (pv (r_mi rfl) (pv (r_ib rfl rfl rfl) (pv (r_zi rfl) (nil (t_then ⟨m1, Nat.lt_succ_self _, _, _, x4, _, _, _, x5, (IntKind.wrap .i64 (x3 + 1)), env_has ⟨rfl, rfl, rfl, rfl, trivial⟩, (iT im2 im3), hS7.sel [0, 1] rfl, hn1⟩)))))
  have hm := cfalse hb2 hm
  have hm := oI hm; subst hm
  have hn1 : _ = Lp.brk _ := hn1
  subst hn1
  have hm := thn_brk hq1
  refine xt (x_then (x_then (x_eq (t_then ?_))))
  refine sq2 (rg (pv (r_ms rfl) (pv (r_mi rfl) (?_))))
  obtain ⟨u4, hx6, hm⟩ := bindS hm
  refine pv (r_slV (v := Value.slice (if c2 = Int.toNat x2 then a2 else Option.map (fun z => z.add ((Int.toNat x2) * 4)) a2) (List.length x1 - Int.toNat x2) (c2 - Int.toNat x2)) rfl (hS2.own (i := 1) ⟨rfl, rfl⟩).v ⟨_, rfl⟩ rfl hx6 underlying53 sizeOf57 rfl rfl) (wl rfl (clO (q := 1) (i := Int.toNat x2) (l := x1) (z0 := (⟨0, 0, 0, false⟩ : AllocReach)) hS2 ⟨rfl, rfl⟩ rfl zeroValue57 (fun _ _ => (rAllocReach_mk (x := (⟨0, 0, 0, false⟩ : AllocReach))  : rAllocReach.rp _ _ _ _)) underlying53 (sub_lo hx6) fun w8 im8 hS8 => ?_))
  refine nil (t_then ?_)
  refine sq2 (rg (pv (r_ms rfl) (pv (r_mi rfl) (?_))))
  obtain ⟨u5, hx7, hm⟩ := bindS hm
  obtain ⟨a4, n4, c4, he3, hS9⟩ := hS8.cutA (q := 1) ⟨rfl, rfl⟩ hx7
  refine pv (r_slV rfl (hS8.own (i := 1) ⟨rfl, rfl⟩).v rfl ⟨_, rfl⟩ hx7 underlying53 sizeOf57 rfl he3) (pv (r_zs rfl) (nil (t_then ?_)))
  have hm := oI hm; subst hm
  exact rtn (ret1 rfl rfl ⟨_, rfl, _, (iT im1 (iT im2 im8)), ⟨_, _, _, rfl, hS9.sel [0, 1] rfl, trivial⟩⟩)

theorem bits_Len64_sim {p0 : Int} {r : Int} (hS : Sep g T0 w0 [R])  (hm : bits_Len64 p0 = some r) :
    Calls Tryz.prog 59 #[.int .u64 p0] w0 (RetS T0 w0 fun T w v => v = iv r ∧ Sep g T w [R] ∧ True) := by
  refine enter (args := [.int .u64 p0]) Tryz.func59 rfl Tryz.ntmps59 rfl fun J => ?_
  unfold bits_Len64 at hm
  refine sq2 (rg (pv (r_zi rfl) (nil (t_then ?_))))
  obtain ⟨kk1, hkk1, hm⟩ := jn_open hm
  refine cut (fun a w1 => ∃ (J : JV) (T1 : TP) (x1 : Int) (x2 : Int), a = env (nf 25) J [(0, .int .u64 x1), (2, iv x2)] ∧ Im T0 w0 T1 w1 ∧ Sep g T1 w1 [R] ∧ kk1 x1 x2 = some r) ?_ ?_
  · refine sq2 (rg (pv (r_mi rfl) (pv (r_ib rfl rfl rfl) (nil (t_then ?_)))))
    refine cnd rfl (fun hb1 => ?_) (fun hb1 => ?_)
    · have hm := ctrue hb1 hm
      refine sq2 (rg (pv (r_mi rfl) (pv (r_ishr rfl rfl (by decide)) (pv (r_zi rfl) (nil (t_then ?_))))))
      exact rg (pv (r_zi rfl) (nil (t_then ⟨_, _, (Int.fdiv p0 (2 ^ (min (Int.toNat 32) (IntKind.bits .u64)))), 32, env_has ⟨rfl, rfl, trivial⟩, Im.refl, hS.sel [0] rfl, hm⟩)))
    have hm := cfalse hb1 hm
    exact skp (t_then ⟨_, _, p0, 0, env_has ⟨rfl, rfl, trivial⟩, Im.refl, hS.sel [0] rfl, hm⟩)
  rintro _ w1 ⟨J, T1, x1, x2, rfl, im1, hS1, hm⟩
  rw [hkk1] at hm
  obtain ⟨kk2, hkk2, hm⟩ := jn_open hm
  refine cut (fun a w2 => ∃ (J : JV) (T2 : TP) (x3 : Int) (x4 : Int), a = env (nf 25) J [(0, .int .u64 x3), (2, iv x4)] ∧ Im T1 w1 T2 w2 ∧ Sep g T2 w2 [R] ∧ kk2 x3 x4 = some r) ?_ ?_
  · refine sq2 (rg (pv (r_mi rfl) (pv (r_ib rfl rfl rfl) (nil (t_then ?_)))))
    refine cnd rfl (fun hb2 => ?_) (fun hb2 => ?_)
    · have hm := ctrue hb2 hm
      refine sq2 (rg (pv (r_mi rfl) (pv (r_ishr rfl rfl (by decide)) (pv (r_zi rfl) (nil (t_then ?_))))))
      exact rg (pv (r_mi rfl) (pv (r_ib rfl rfl rfl) (pv (r_zi rfl) (nil (t_then ⟨_, _, (Int.fdiv x1 (2 ^ (min (Int.toNat 16) (IntKind.bits .u64)))), (IntKind.wrap .i64 (x2 + 16)), env_has ⟨rfl, rfl, trivial⟩, Im.refl, hS1.sel [0] rfl, hm⟩)))))
    have hm := cfalse hb2 hm
    exact skp (t_then ⟨_, _, x1, x2, env_has ⟨rfl, rfl, trivial⟩, Im.refl, hS1.sel [0] rfl, hm⟩)
  rintro _ w2 ⟨J, T2, x3, x4, rfl, im2, hS2, hm⟩
  rw [hkk2] at hm
  obtain ⟨kk3, hkk3, hm⟩ := jn_open hm
  refine cut (fun a w3 => ∃ (J : JV) (T3 : TP) (x5 : Int) (x6 : Int), a = env (nf 25) J [(0, .int .u64 x5), (2, iv x6)] ∧ Im T2 w2 T3 w3 ∧ Sep g T3 w3 [R] ∧ kk3 x5 x6 = some r) ?_ ?_
  · refine sq2 (rg (pv (r_mi rfl) (pv (r_ib rfl rfl rfl) (nil (t_then ?_)))))
    refine cnd rfl (fun hb3 => ?_) (fun hb3 => ?_)
    · have hm := ctrue hb3 hm
      refine sq2 (rg (pv (r_mi rfl) (pv (r_ishr rfl rfl (by decide)) (pv (r_zi rfl) (nil (t_then ?_))))))
      exact rg (pv (r_mi rfl) (pv (r_ib rfl rfl rfl) (pv (r_zi rfl) (nil (t_then ⟨_, _, (Int.fdiv x3 (2 ^ (min (Int.toNat 8) (IntKind.bits .u64)))), (IntKind.wrap .i64 (x4 + 8)), env_has ⟨rfl, rfl, trivial⟩, Im.refl, hS2.sel [0] rfl, hm⟩)))))
    have hm := cfalse hb3 hm
    exact skp (t_then ⟨_, _, x3, x4, env_has ⟨rfl, rfl, trivial⟩, Im.refl, hS2.sel [0] rfl, hm⟩)
  rintro _ w3 ⟨J, T3, x5, x6, rfl, im3, hS3, hm⟩
  rw [hkk3] at hm
  refine sq2 ?_
  obtain ⟨u1, hx1, hm⟩ := bindS hm
  refine rg (pv (r_mi rfl) (pv (r_mi rfl) (pv (r_cv rfl underlying121 underlying5) (pv (r_sx rfl rfl hx1 underlying9) (pv (r_cv rfl underlying5 underlying3) (pv (r_ib rfl rfl rfl) (pv (r_zi rfl) (nil (t_then ?_)))))))))
  have hm := oI hm; subst hm
  exact rtn (ret1 rfl rfl ⟨_, rfl, _, (iT im1 (iT im2 im3)), ⟨rfl, hS3.sel [0] rfl, trivial⟩⟩)

theorem bits_Len_sim {p0 : Int} {r : Int} (hS : Sep g T0 w0 [R])  (hm : bits_Len p0 = some r) :
    Calls Tryz.prog 31 #[.int .u64 p0] w0 (RetS T0 w0 fun T w v => v = iv r ∧ Sep g T w [R] ∧ True) := by
  refine enter (args := [.int .u64 p0]) Tryz.func31 rfl Tryz.ntmps31 rfl fun J => ?_
  unfold bits_Len at hm
  refine sq2 (rg (pv (r_zi rfl) (nil (t_then ?_))))
  refine sq2 (cnd (b := false) rfl (fun h => nomatch h) (fun _ => ?_))
  refine skp (t_then ?_)
  refine sq2 ?_
  obtain ⟨y1, hx1, hm⟩ := bindS hm
  refine rg (pv (r_mi rfl) (wl rfl (calS cf59 rfl (bits_Len64_sim (p0 := p0) (hS.bun [0] [] rfl)  hx1) rfl fun v1 T1 w1 im1 rv1 => ?_)))
  obtain ⟨rfl, hS1, _⟩ := rv1
  have hS1 := hS1.unb
  refine pv (r_zi rfl) (nil (t_then ?_))
  have hm := oI hm; subst hm
  exact rtn (ret1 rfl rfl ⟨_, rfl, _, im1, ⟨rfl, hS1.sel [0] rfl, trivial⟩⟩)

theorem cmp_isNaN_sim {p0 : Int} {r : Bool} (hS : Sep g T0 w0 [R])  (hm : cmp_isNaN p0 = some r) :
    Calls Tryz.prog 32 #[iv p0] w0 (RetS T0 w0 fun T w v => v = .bool r ∧ Sep g T w [R] ∧ True) := by
  refine enter (args := [iv p0]) Tryz.func32 rfl Tryz.ntmps32 rfl fun J => ?_
  unfold cmp_isNaN at hm
  refine sq2 (rg (pv (r_zb rfl) (nil (t_then ?_))))
  refine sq2 (rg (pv (r_mi rfl) (pv (r_mi rfl) (pv (r_ib rfl rfl rfl) (pv (r_zb rfl) (nil (t_then ?_)))))))
  have hm := oI hm; subst hm
  exact rtn (ret1 rfl rfl ⟨_, rfl, _, Im.refl, ⟨rfl, hS.sel [0] rfl, trivial⟩⟩)

theorem cmp_Compare_sim {p0 : Int} {p1 : Int} {r : Int} (hS : Sep g T0 w0 [R])  (hm : cmp_Compare p0 p1 = some r) :
    Calls Tryz.prog 18 #[iv p0, iv p1] w0 (RetS T0 w0 fun T w v => v = iv r ∧ Sep g T w [R] ∧ True) := by
  refine enter (args := [iv p0, iv p1]) Tryz.func18 rfl Tryz.ntmps18 rfl fun J => ?_
  unfold cmp_Compare at hm
  refine sq2 (rg (pv (r_zi rfl) (nil (t_then ?_))))
  refine sq2 ?_
  obtain ⟨y1, hx1, hm⟩ := bindS hm
  refine rg (pv (r_mi rfl) (wl rfl (calS cf32 rfl (cmp_isNaN_sim (p0 := p0) (hS.bun [0] [] rfl)  hx1) rfl fun v1 T1 w1 im1 rv1 => ?_)))
  obtain ⟨rfl, hS1, _⟩ := rv1
  have hS1 := hS1.unb
  refine pv (r_zb rfl) (nil (t_then ?_))
  refine sq2 ?_
  obtain ⟨y2, hx2, hm⟩ := bindS hm
  refine rg (pv (r_mi rfl) (wl rfl (calS cf32 rfl (cmp_isNaN_sim (p0 := p1) (hS1.bun [0] [] rfl)  hx2) rfl fun v2 T2 w2 im2 rv2 => ?_)))
  obtain ⟨rfl, hS2, _⟩ := rv2
  have hS2 := hS2.unb
  refine pv (r_zb rfl) (nil (t_then ?_))
  refine sq2 (sq2 (rg (pv (r_mb rfl) (nil (t_then ?_)))))
  refine cnd rfl (fun hb1 => ?_) (fun hb1 => ?_)
  · have hm := ctrue hb1 hm
    refine sq2 (sq2 (rg (pv (r_mb rfl) (nil (t_then ?_)))))
    refine cnd rfl (fun hb2 => ?_) (fun hb2 => ?_)
    · have hm := ctrue hb2 hm
      refine sq2 (rg (pv (r_zi rfl) (nil (t_then ?_))))
      have hm := oI hm; subst hm
      exact rtn (r_then (r_then (ret1 rfl rfl ⟨_, rfl, _, (iT im1 im2), ⟨rfl, hS2.sel [0] rfl, trivial⟩⟩)))
    have hm := cfalse hb2 hm
    refine skp (t_then ?_)
    refine sq2 (rg (pv (r_zi rfl) (nil (t_then ?_))))
    have hm := oI hm; subst hm
    exact rtn (r_then (ret1 rfl rfl ⟨_, rfl, _, (iT im1 im2), ⟨rfl, hS2.sel [0] rfl, trivial⟩⟩))
  have hm := cfalse hb1 hm
  refine skp (t_then ?_)
  refine sq2 (sq2 (rg (pv (r_mb rfl) (nil (t_then ?_)))))
  refine cnd rfl (fun hb3 => ?_) (fun hb3 => ?_)
  · have hm := ctrue hb3 hm
    refine sq2 (rg (pv (r_zi rfl) (nil (t_then ?_))))
    have hm := oI hm; subst hm
    exact rtn (r_then (ret1 rfl rfl ⟨_, rfl, _, (iT im1 im2), ⟨rfl, hS2.sel [0] rfl, trivial⟩⟩))
  have hm := cfalse hb3 hm
  refine skp (t_then ?_)
  refine sq2 (sq2 (rg (pv (r_mi rfl) (pv (r_mi rfl) (pv (r_ib rfl rfl rfl) (nil (t_then ?_)))))))
  refine cnd rfl (fun hb4 => ?_) (fun hb4 => ?_)
  · have hm := ctrue hb4 hm
    refine sq2 (rg (pv (r_zi rfl) (nil (t_then ?_))))
    have hm := oI hm; subst hm
    exact rtn (r_then (ret1 rfl rfl ⟨_, rfl, _, (iT im1 im2), ⟨rfl, hS2.sel [0] rfl, trivial⟩⟩))
  have hm := cfalse hb4 hm
  refine skp (t_then ?_)
  refine sq2 (sq2 (rg (pv (r_mi rfl) (pv (r_mi rfl) (pv (r_ib rfl rfl rfl) (nil (t_then ?_)))))))
  refine cnd rfl (fun hb5 => ?_) (fun hb5 => ?_)
  · have hm := ctrue hb5 hm
    refine sq2 (rg (pv (r_zi rfl) (nil (t_then ?_))))
    have hm := oI hm; subst hm
    exact rtn (r_then (ret1 rfl rfl ⟨_, rfl, _, (iT im1 im2), ⟨rfl, hS2.sel [0] rfl, trivial⟩⟩))
  have hm := cfalse hb5 hm
  refine skp (t_then ?_)
  refine sq2 (rg (pv (r_zi rfl) (nil (t_then ?_))))
  have hm := oI hm; subst hm
  exact rtn (ret1 rfl rfl ⟨_, rfl, _, (iT im1 im2), ⟨rfl, hS2.sel [0] rfl, trivial⟩⟩)

theorem cmp_Or_sim {p0 : List Int} {a1 : OA} {c1 : Nat} {r : Int} (hS : Sep g T0 w0 [R]) (h1 : SlR (rInt .i64) T0 w0 (sv a1 p0 c1) p0) (hm : cmp_Or p0 = some r) :
    Calls Tryz.prog 17 #[sv a1 p0 c1] w0 (RetS T0 w0 fun T w v => v = iv r ∧ Sep g T w [R] ∧ True) := by
  refine enter (args := [sv a1 p0 c1]) Tryz.func17 rfl Tryz.ntmps17 rfl fun J => ?_
  unfold cmp_Or at hm
  refine sq2 (rg (pv (r_zi rfl) (nil (t_then ?_))))
  refine sq2 (rg (pv (r_zi rfl) (nil (t_then ?_))))
  refine sq2 (sq2 (rg (pv (r_ms rfl) (pv (r_ln rfl underlying41) (pv (r_mi rfl) (nil (t_then ?_)))))))
  obtain ⟨o1, ho1, hq1⟩ := bindS hm
  obtain ⟨bd1, hbd1, ho1⟩ := loop_open ho1
  refine blk (wp_loop_ghost (fun m a w1 => ∃ (J : JV) (T1 : TP) (x1 : Int), a = env (nf 18) J [(3, iv 0), (6, sv a1 p0 c1), (7, iv (List.length p0 : Int)), (8, iv x1)] ∧ Im T0 w0 T1 w1 ∧ Sep g T1 w1 [R] ∧ loopM bd1 m x1 = some o1) NN ⟨_, _, 0, env_has ⟨rfl, rfl, rfl, rfl, trivial⟩, Im.refl, hS.sel [0] rfl, ho1⟩ ?_)
  rintro m _ w1 ⟨J, T1, x1, rfl, im1, hS1, ho1⟩
  obtain ⟨m1, z1, rfl, hm, hn1⟩ := loop_round ho1
  rw [hbd1] at hm
  refine sq2 (rg (pv (r_ib rfl rfl rfl) (nil (t_then ?_))))
  refine sq2 (cnd rfl (fun hb1 => ?_) (fun hb1 => ?_))
  · have hm := ctrue hb1 hm
    refine skp (t_then ?_)
    refine sq2 (blk (sq2 ?_))
    obtain ⟨u1, hx1, hm⟩ := bindS hm
    obtain ⟨b1, of1, cs1, k1, cp1, hv1, hp1, hl1, he1, hr1, hc1, hT1⟩ := (h1.mono im1).ixT hx1 rfl
    cases hr1
    refine rg (pv (r_ixe hv1 rfl underlying41 sizeOf3 hp1 hl1 he1) (pv (r_ld rfl isAgg3 (hc1.get (j := 0) rfl)) (pv (r_zi rfl) (nil (t_then ?_)))))
    refine sq2 (rg (pv (r_mi rfl) (pv (r_mi rfl) (pv (r_ib rfl rfl rfl) (nil (t_then ?_))))))
    refine cnd rfl (fun hb2 => ?_) (fun hb2 => ?_)
    · have hm := ctrue hb2 hm
      refine sq2 (rg (pv (r_mi rfl) (pv (r_zi rfl) (nil (t_then ?_)))))
      have hm := oI hm; subst hm
      have hn1 : _ = Lp.ret _ := hn1
      subst hn1
      have hm := thn_ret hq1
      have hm := oI hm; subst hm
      exact rtn (r_blk (r_then (r_then (r_blk (r_then (ret1 rfl rfl ⟨_, rfl, _, im1, ⟨rfl, hS1.sel [0] rfl, trivial⟩⟩))))))
    have hm := cfalse hb2 hm
    refine skp (t_blk (t_then ?_))
    have hm := oI hm; subst hm
    exact rg (pv (r_ib rfl rfl rfl) (pv (r_mi rfl) (nil (t_then ⟨m1, Nat.lt_succ_self _, _, _, (IntKind.wrap .i64 (x1 + 1)), env_has ⟨rfl, rfl, rfl, rfl, trivial⟩, im1, hS1.sel [0] rfl, hn1⟩))))
  have hm := cfalse hb1 hm
  have hm := oI hm; subst hm
  have hn1 : _ = Lp.brk _ := hn1
  subst hn1
  have hm := thn_brk hq1
  refine xt (x_then (x_then (x_eq (t_then ?_))))
  refine sq2 (rg (pv (r_mi rfl) (pv (r_zi rfl) (nil (t_then ?_)))))
  have hm := oI hm; subst hm
  exact rtn (ret1 rfl rfl ⟨_, rfl, _, im1, ⟨rfl, hS1.sel [0] rfl, trivial⟩⟩)

theorem alloc_Assign_2_sim {p0 : AllocReach} {p1 : AllocReach} {r : Int} (hS : Sep g T0 w0 [R])  (hm : alloc_Assign_2 p0 p1 = some r) :
    Calls Tryz.prog 16 #[.agg (cAllocReach p0).toArray, .agg (cAllocReach p1).toArray] w0 (RetS T0 w0 fun T w v => v = iv r ∧ Sep g T w [R] ∧ True) := by
  refine enter (args := [.agg (cAllocReach p0).toArray, .agg (cAllocReach p1).toArray]) Tryz.func16 rfl Tryz.ntmps16 rfl fun J => ?_
  unfold alloc_Assign_2 at hm
  refine sq2 (rg (wl rfl (bxS (cs := (cAllocReach p0)) rfl rfl hS fun w1 b1 im1 hS1 => ?_)))
  refine wl rfl (bxS (cs := (cAllocReach p1)) rfl rfl hS1 fun w2 b2 im2 hS2 => ?_)
  refine pv (r_zi rfl) (nil (t_then ?_))
  refine sq2 (rs [0, 1, 0, 1, 2, 0, 1, 0, 1, 2, 0, 1, 0, 1, 2, 2, 2, 0] [0, 1, 2, 3, 5, 6, 7, 8, 10, 11, 12, 13, 4, 9, 14, 15, 16, 17] mix (by kernel_rfl) hS2.lt fun w3 i1 => ?_)
  have im3 := i1.imm
  have hS3 := hS2.keep i1 (fun _ h => h)
  obtain ⟨y1, hx1, hm⟩ := bindS hm
  refine s0 rfl trivial (fun _ => r_fa rfl underlying57 rfl sizeOf3 rfl) rfl (s1 rfl trivial (r_ld rfl isAgg3 (hS3.cell0 (i := 1) ⟨rfl, rfl⟩ (j := 1) rfl)) rfl (s0 rfl trivial (fun _ => r_fa rfl underlying57 rfl sizeOf3 rfl) rfl (s1 rfl trivial (r_ld rfl isAgg3 (hS3.cell0 (i := 0) ⟨rfl, rfl⟩ (j := 1) rfl)) rfl (s0 rfl trivial (fun _ => r_fa rfl underlying57 rfl sizeOf3 rfl) rfl (s1 rfl trivial (r_ld rfl isAgg3 (hS3.cell0 (i := 1) ⟨rfl, rfl⟩ (j := 2) rfl)) rfl (s0 rfl trivial (fun _ => r_fa rfl underlying57 rfl sizeOf3 rfl) rfl (s1 rfl trivial (r_ld rfl isAgg3 (hS3.cell0 (i := 0) ⟨rfl, rfl⟩ (j := 2) rfl)) rfl (s0 rfl trivial (fun _ => r_fa rfl underlying57 rfl sizeOf3 rfl) rfl (s1 rfl trivial (r_ld rfl isAgg3 (hS3.cell0 (i := 1) ⟨rfl, rfl⟩ (j := 0) rfl)) rfl (s0 rfl trivial (fun _ => r_fa rfl underlying57 rfl sizeOf3 rfl) rfl (s1 rfl trivial (r_ld rfl isAgg3 (hS3.cell0 (i := 0) ⟨rfl, rfl⟩ (j := 0) rfl)) rfl (s2 [(13, iv p1.r), (11, iv p0.r), (8, iv p1.to), (6, iv p0.to)] rfl trivial rfl (by kernel_rfl) (calS cf18 rfl (cmp_Compare_sim (p0 := p0.from_) (p1 := p1.from_) (hS3.bun [2, 0, 1] [] rfl)  hx1) rfl fun v1 T1 w4 im4 rv1 => ?_)))))))))))))
  obtain ⟨rfl, hS4, _⟩ := rv1
  have hS4 := hS4.unb
  refine ⟨st1 rfl (r_ld rfl isAgg3 (hS4.cell0 (i := 1) ⟨rfl, rfl⟩ (j := 0) rfl)) (st1 rfl (r_ld rfl isAgg3 (hS4.cell0 (i := 2) ⟨rfl, rfl⟩ (j := 0) rfl)) (st1 rfl (r_ld rfl isAgg3 (hS4.cell0 (i := 1) ⟨rfl, rfl⟩ (j := 2) rfl)) (st1 rfl (r_ld rfl isAgg3 (hS4.cell0 (i := 2) ⟨rfl, rfl⟩ (j := 2) rfl)) (st0)))), ?_⟩
  obtain ⟨y2, hx2, hm⟩ := bindS hm
  refine s2 [(13, iv p1.r), (11, iv p0.r)] rfl trivial rfl (by kernel_rfl) (calS cf18 rfl (cmp_Compare_sim (p0 := p0.to) (p1 := p1.to) (hS4.bun [0, 1, 2] [] rfl)  hx2) rfl fun v2 T2 w5 im5 rv2 => ?_)
  obtain ⟨rfl, hS5, _⟩ := rv2
  have hS5 := hS5.unb
  refine ⟨st1 rfl (r_ld rfl isAgg3 (hS5.cell0 (i := 1) ⟨rfl, rfl⟩ (j := 0) rfl)) (st1 rfl (r_ld rfl isAgg3 (hS5.cell0 (i := 2) ⟨rfl, rfl⟩ (j := 0) rfl)) (st0)), ?_⟩
  obtain ⟨y3, hx3, hm⟩ := bindS hm
  refine s2 [] rfl trivial rfl (by kernel_rfl) (calS cf18 rfl (cmp_Compare_sim (p0 := p0.r) (p1 := p1.r) (hS5.bun [0, 1, 2] [] rfl)  hx3) rfl fun v3 T3 w6 im6 rv3 => ?_)
  obtain ⟨rfl, hS6, _⟩ := rv3
  have hS6 := hS6.unb
  refine ⟨st0, ?_⟩
  refine s2 [] rfl trivial rfl (by kernel_rfl) (bsS (r := (rInt .i64)) (l := ([y1, y2, y3] : List Int)) (css := [[iv y1], [iv y2], [iv y3]]) hS6 underlying41 sizeOf3 zeroValue3 rfl rfl (by kernel_rfl) rfl ⟨rfl, rfl, rfl, trivial⟩ rfl rfl fun w7 a1 n1 c1 im7 hS7 => ?_)
  refine ⟨st0, ?_⟩
  obtain ⟨T4, im8, hS8, h1⟩ := hS7.seal 0 ⟨rfl, rfl⟩
  have hsh := h1.len
  subst hsh
  obtain ⟨y4, hx4, hm⟩ := bindS hm
  refine s2 [] rfl trivial rfl (by kernel_rfl) (calS cf17 rfl (cmp_Or_sim (p0 := ([y1, y2, y3] : List Int)) (hS8.bun [1] [] rfl) h1 hx4) rfl fun v4 T5 w8 im9 rv4 => ?_)
  obtain ⟨rfl, hS9, _⟩ := rv4
  have hS9 := hS9.unb
  refine ⟨st0, ?_⟩
  refine s0 rfl trivial (fun _ => r_zi rfl) rfl (se (t_then ?_))
  have hm := oI hm; subst hm
  exact rtn (ret1 rfl rfl ⟨_, rfl, _, (iT im1 (iT im2 (iT im3 (iT im4 (iT im5 (iT im6 (iT im7 (iT im8 im9)))))))), ⟨rfl, hS9.sel [0] rfl, trivial⟩⟩)

theorem slices_insertionSortCmpFunc_sim {p0 : List AllocReach} {a1 : OA} {n1 : Nat} {c1 : Nat} {p1 : Int} {p2 : Int} {r : (List AllocReach)} (hS : Sep g T0 w0 [R, ownA rAllocReach 57 (.slice a1 n1 c1) p0])  (hm : slices_insertionSortCmpFunc p0 p1 p2 = some r) :
    Calls Tryz.prog 50 #[.slice a1 n1 c1, iv p1, iv p2, .func (.func 16) #[] #[]] w0 (RetS T0 w0 fun T w v => v = .tuple #[] ∧ Sep g T w [R, ownA rAllocReach 57 (.slice a1 n1 c1) r] ∧ True) := by
  refine enter (args := [.slice a1 n1 c1, iv p1, iv p2, .func (.func 16) #[] #[]]) Tryz.func50 rfl Tryz.ntmps50 rfl fun J => ?_
  unfold slices_insertionSortCmpFunc at hm
  refine sq2 (rg (pv (r_mi rfl) (pv (r_ib rfl rfl rfl) (pv (r_zi rfl) (nil (t_then ?_))))))
  obtain ⟨o1, ho1, hq1⟩ := bindS hm
  obtain ⟨bd1, hbd1, ho1⟩ := loop_open ho1
  refine blk (wp_loop_ghost (fun m a w1 => ∃ (J : JV) (T1 : TP) (x1 : List AllocReach) (x2 : Int), a = env (nf 53) J [(0, .slice a1 n1 c1), (1, iv p1), (2, iv p2), (3, .func (.func 16) #[] #[]), (8, iv x2)] ∧ Im T0 w0 T1 w1 ∧ Sep g T1 w1 [R, ownA rAllocReach 57 (.slice a1 n1 c1) x1] ∧ loopM bd1 m (x1, x2) = some o1) NN ⟨_, _, p0, (IntKind.wrap .i64 (p1 + 1)), env_has ⟨rfl, rfl, rfl, rfl, rfl, trivial⟩, Im.refl, hS.sel [0, 1] rfl, ho1⟩ ?_)
  rintro m _ w1 ⟨J, T1, x1, x2, rfl, im1, hS1, ho1⟩
  obtain ⟨m1, z1, rfl, hm, hn1⟩ := loop_round ho1
  rw [hbd1] at hm
  refine sq2 (sq2 (rg (pv (r_mi rfl) (pv (r_mi rfl) (pv (r_ib rfl rfl rfl) (nil (t_then ?_)))))))
  refine cnd rfl (fun hb1 => ?_) (fun hb1 => ?_)
  · have hm := ctrue hb1 hm
    refine skp (t_then ?_)
    refine sq2 (blk (sq2 (rg (pv (r_mi rfl) (pv (r_zi rfl) (nil (t_then ?_)))))))
    obtain ⟨o2, ho2, hq2⟩ := bindS hm
    obtain ⟨bd2, hbd2, ho2⟩ := loop_open ho2
    refine blk (wp_loop_ghost (fun m a w2 => ∃ (J : JV) (T2 : TP) (x3 : List AllocReach) (x4 : Int), a = env (nf 53) J [(0, .slice a1 n1 c1), (1, iv p1), (2, iv p2), (3, .func (.func 16) #[] #[]), (8, iv x2), (9, iv x4)] ∧ Im T1 w1 T2 w2 ∧ Sep g T2 w2 [R, ownA rAllocReach 57 (.slice a1 n1 c1) x3] ∧ loopM bd2 m (x3, x4) = some o2) NN ⟨_, _, x1, x2, env_has ⟨rfl, rfl, rfl, rfl, rfl, rfl, trivial⟩, Im.refl, hS1.sel [0, 1] rfl, ho2⟩ ?_)
    rintro m _ w2 ⟨J, T2, x3, x4, rfl, im2, hS2, ho2⟩
    obtain ⟨m2, z2, rfl, hm, hn2⟩ := loop_round ho2
    rw [hbd2] at hm
    refine sq2 (sq2 (rs [0, 0, 0, 0, 0, 0, 0, 0, 1, 0, 0, 0, 0, 1, 2, 0, 0] [0, 1, 2, 3, 4, 5, 6, 7, 8, 9, 10, 11, 12, 13, 14, 15, 16] mix (by kernel_rfl) hS2.lt fun w3 i1 => ?_))
    have im3 := i1.imm
    have hS3 := hS2.keep i1 (fun _ h => h)
    refine s0 rfl trivial (fun _ => r_mi rfl) rfl (s0 rfl trivial (fun _ => r_mi rfl) rfl (s0 rfl trivial (fun _ => r_ib rfl rfl rfl) rfl (s0 rfl trivial (fun _ => r_mb rfl) rfl (?_))))
    rcases Bool.eq_false_or_eq_true (decide (p1 < x4)) with hb2 | hb2
    · have hm := ctrue hb2 hm
      obtain ⟨u1, hx1, hm⟩ := bindS hm
      obtain ⟨b1, of1, cs1, k1, cp1, hv1, hp1, hl1, he1, hr1, hc1⟩ := (hS3.own (i := 1) ⟨rfl, rfl⟩).v.ixq hx1 rfl
      cases rAllocReach_open hr1
      obtain ⟨u2, hx2, hm⟩ := bindS hm
      obtain ⟨b2, of2, cs2, k2, cp2, hv2, hp2, hl2, he2, hr2, hc2⟩ := (hS3.own (i := 1) ⟨rfl, rfl⟩).v.ixq hx2 rfl
      cases rAllocReach_open hr2
      obtain ⟨y1, hx3, hm⟩ := bindS hm
      refine s0 rfl ⟨_, rfl, congrArg Value.bool hb2⟩ (fun _ => r_mf rfl) rfl (s0 rfl ⟨_, rfl, congrArg Value.bool hb2⟩ (fun _ => r_ms rfl) rfl (s0 rfl ⟨_, rfl, congrArg Value.bool hb2⟩ (fun _ => r_mi rfl) rfl (s0 rfl ⟨_, rfl, congrArg Value.bool hb2⟩ (fun _ => r_ixe hv1 rfl underlying53 sizeOf57 hp1 hl1 he1) rfl (s1 rfl ⟨_, rfl, congrArg Value.bool hb2⟩ (r_ldS rfl isAgg57 sizeOf57 rfl hc1 (cs := (cAllocReach u1))) rfl (s0 rfl ⟨_, rfl, congrArg Value.bool hb2⟩ (fun _ => r_ms rfl) rfl (s0 rfl ⟨_, rfl, congrArg Value.bool hb2⟩ (fun _ => r_mi rfl) rfl (s0 rfl ⟨_, rfl, congrArg Value.bool hb2⟩ (fun _ => r_ib rfl rfl rfl) rfl (s0 rfl ⟨_, rfl, congrArg Value.bool hb2⟩ (fun _ => r_ixe hv2 rfl underlying53 sizeOf57 hp2 hl2 he2) rfl (s1 rfl ⟨_, rfl, congrArg Value.bool hb2⟩ (r_ldS rfl isAgg57 sizeOf57 rfl hc2 (cs := (cAllocReach u2))) rfl (s2 [] rfl ⟨_, rfl, congrArg Value.bool hb2⟩ rfl (by kernel_rfl) (calS cf16 rfl (alloc_Assign_2_sim (p0 := u1) (p1 := u2) (hS3.bun [0, 1] [] rfl)  hx3) rfl fun v1 T3 w4 im4 rv1 => ?_)))))))))))
      obtain ⟨rfl, hS4, _⟩ := rv1
      have hS4 := hS4.unb
      refine ⟨st0, ?_⟩
      refine s0 rfl ⟨_, rfl, congrArg Value.bool hb2⟩ (fun _ => r_ib rfl rfl rfl) rfl (s0 rfl trivial (fun _ => r_pkt rfl hb2 rfl) rfl (se (t_then ?_)))
      refine cnd rfl (fun hb3 => ?_) (fun hb3 => ?_)
      · have hm := ctrue hb3 hm
        refine skp (t_then ?_)
        refine sq2 (blk (rs [0, 0, 0, 0, 0, 0, 0, 0, 0, 1, 0, 0, 0, 1, 0, 2, 0, 2] [0, 1, 2, 3, 4, 5, 6, 7, 8, 9, 10, 11, 12, 13, 14, 15, 16, 17] mix (by kernel_rfl) hS4.lt fun w5 i2 => ?_))
        have im5 := i2.imm
        have hS5 := hS4.keep i2 (fun _ h => h)
        obtain ⟨u3, hx4, hm⟩ := bindS hm
        obtain ⟨b3, of3, cs3, k3, cp3, hv3, hp3, hl3, he3, hr3, hc3⟩ := (hS5.own (i := 1) ⟨rfl, rfl⟩).v.ixq hx4 rfl
        cases rAllocReach_open hr3
        obtain ⟨u4, hx5, hm⟩ := bindS hm
        obtain ⟨b4, of4, cs4, k4, cp4, hv4, hp4, hl4, he4, hr4, hc4⟩ := (hS5.own (i := 1) ⟨rfl, rfl⟩).v.ixq hx5 rfl
        cases rAllocReach_open hr4
        obtain ⟨u5, hx6, hm⟩ := bindS hm
        obtain ⟨b5, of5, cs5, k5, cp5, hv5, hp5, hl5, he5, hr5, hc5⟩ := (hS5.own (i := 1) ⟨rfl, rfl⟩).v.ixq hx6 rfl
        cases rAllocReach_open hr5
        obtain ⟨u6, hx7, hm⟩ := bindS hm
        refine s0 rfl trivial (fun _ => r_ms rfl) rfl (s0 rfl trivial (fun _ => r_mi rfl) rfl (s0 rfl trivial (fun _ => r_ms rfl) rfl (s0 rfl trivial (fun _ => r_mi rfl) rfl (s0 rfl trivial (fun _ => r_ib rfl rfl rfl) rfl (s0 rfl trivial (fun _ => r_ms rfl) rfl (s0 rfl trivial (fun _ => r_mi rfl) rfl (s0 rfl trivial (fun _ => r_ib rfl rfl rfl) rfl (s0 rfl trivial (fun _ => r_ixe hv3 rfl underlying53 sizeOf57 hp3 hl3 he3) rfl (s1 rfl trivial (r_ldS rfl isAgg57 sizeOf57 rfl hc3 (cs := (cAllocReach u3))) rfl (s0 rfl trivial (fun _ => r_ms rfl) rfl (s0 rfl trivial (fun _ => r_mi rfl) rfl (s0 rfl trivial (fun _ => r_ixe hv4 rfl underlying53 sizeOf57 hp4 hl4 he4) rfl (s1 rfl trivial (r_ldS rfl isAgg57 sizeOf57 rfl hc4 (cs := (cAllocReach u4))) rfl (s0 rfl trivial (fun _ => r_ixe hv5 rfl underlying53 sizeOf57 hp5 hl5 he5) rfl (s2 [] rfl trivial rfl (by kernel_rfl) (stO (q := 1) (i := Int.toNat x4) (j := 0) (u := u6) (u' := u3) hS5 ⟨rfl, rfl⟩ hv5 (idx_some hx7).2.2 he5 rfl rfl rfl sizeOf57 rfl rfl rfl (fun c0 hc0 => by rw [storeL_all (r := rAllocReach) hc0 rfl]; exact (rAllocReach_mk (x := u3)  : rAllocReach.rp _ _ _ _)) fun w6 im6 hS6 => ?_))))))))))))))))
        refine ⟨st0, ?_⟩
        obtain ⟨u7, hx8, hm⟩ := bindS hm
        obtain ⟨b6, of6, cs6, k6, cp6, hv6, hp6, hl6, he6, hr6, hc6⟩ := (hS6.own (i := 1) ⟨rfl, rfl⟩).v.ixq hx8 rfl
        cases rAllocReach_open hr6
        obtain ⟨u8, hx9, hm⟩ := bindS hm
        refine s0 rfl trivial (fun _ => r_ixe hv6 rfl underlying53 sizeOf57 hp6 hl6 he6) rfl (s2 [] rfl trivial rfl (by kernel_rfl) (stO (q := 1) (i := Int.toNat (IntKind.wrap .i64 (x4 - 1))) (j := 0) (u := u8) (u' := u4) hS6 ⟨rfl, rfl⟩ hv6 (idx_some hx9).2.2 he6 rfl rfl rfl sizeOf57 rfl rfl rfl (fun c0 hc0 => by rw [storeL_all (r := rAllocReach) hc0 rfl]; exact (rAllocReach_mk (x := u4)  : rAllocReach.rp _ _ _ _)) fun w7 im7 hS7 => ?_))
        refine ⟨st0, ?_⟩
        refine se (t_blk (t_then ?_))
        have hm := oI hm; subst hm
        exact rg (pv (r_mi rfl) (pv (r_ib rfl rfl rfl) (pv (r_zi rfl) (nil (t_then ⟨m2, Nat.lt_succ_self _, _, _, (List.set (List.set x3 (Int.toNat x4) u3) (Int.toNat (IntKind.wrap .i64 (x4 - 1))) u4), (IntKind.wrap .i64 (x4 - 1)), env_has ⟨rfl, rfl, rfl, rfl, rfl, rfl, trivial⟩, (iT im2 (iT im3 (iT im4 (iT im5 (iT im6 im7))))), hS7.sel [0, 1] rfl, hn2⟩)))))
      have hm := cfalse hb3 hm
      have hm := oI hm; subst hm
      have hn2 : _ = Lp.brk _ := hn2
      subst hn2
      have hm := thn_brk hq2
      refine xt (x_then (x_then (x_eq (t_blk (t_then ?_)))))
      have hm := oI hm; subst hm
      exact rg (pv (r_mi rfl) (pv (r_ib rfl rfl rfl) (pv (r_zi rfl) (nil (t_then ⟨m1, Nat.lt_succ_self _, _, _, x3, (IntKind.wrap .i64 (x2 + 1)), env_has ⟨rfl, rfl, rfl, rfl, rfl, trivial⟩, (iT im1 (iT im2 (iT im3 im4))), hS4.sel [0, 1] rfl, hn1⟩)))))
    have hm := cfalse hb2 hm
    refine sU rfl (gI rfl rfl hb2) (sU rfl (gI rfl rfl hb2) (sU rfl (gI rfl rfl hb2) (sU rfl (gI rfl rfl hb2) (sU rfl (gI rfl rfl hb2) (sU rfl (gI rfl rfl hb2) (sU rfl (gI rfl rfl hb2) (sU rfl (gI rfl rfl hb2) (sU rfl (gI rfl rfl hb2) (sU rfl (gI rfl rfl hb2) (sU rfl (gI rfl rfl hb2) (sU rfl (gI rfl rfl hb2) (s0 rfl trivial (fun _ => r_pkf rfl hb2 rfl) rfl (se (t_then ?_))))))))))))))
    refine cnd (b := false) rfl (fun h => nomatch h) (fun _ => ?_)
    have hm := oI hm; subst hm
    have hn2 : _ = Lp.brk _ := hn2
    subst hn2
    have hm := thn_brk hq2
    refine xt (x_then (x_then (x_eq (t_blk (t_then ?_)))))
    have hm := oI hm; subst hm
    exact rg (pv (r_mi rfl) (pv (r_ib rfl rfl rfl) (pv (r_zi rfl) (nil (t_then ⟨m1, Nat.lt_succ_self _, _, _, x3, (IntKind.wrap .i64 (x2 + 1)), env_has ⟨rfl, rfl, rfl, rfl, rfl, trivial⟩, (iT im1 (iT im2 im3)), hS3.sel [0, 1] rfl, hn1⟩)))))
  have hm := cfalse hb1 hm
  have hm := oI hm; subst hm
  have hn1 : _ = Lp.brk _ := hn1
  subst hn1
  have hm := thn_brk hq1
  have hm := oI hm; subst hm
  exact xt (x_then (x_then (x_eq (end0 rfl ⟨_, rfl, _, im1, ⟨rfl, hS1.sel [0, 1] rfl, trivial⟩⟩))))

theorem slices_siftDownCmpFunc_sim {p0 : List AllocReach} {a1 : OA} {n1 : Nat} {c1 : Nat} {p1 : Int} {p2 : Int} {p3 : Int} {r : (List AllocReach)} (hS : Sep g T0 w0 [R, ownA rAllocReach 57 (.slice a1 n1 c1) p0])  (hm : slices_siftDownCmpFunc p0 p1 p2 p3 = some r) :
    Calls Tryz.prog 81 #[.slice a1 n1 c1, iv p1, iv p2, iv p3, .func (.func 16) #[] #[]] w0 (RetS T0 w0 fun T w v => v = .tuple #[] ∧ Sep g T w [R, ownA rAllocReach 57 (.slice a1 n1 c1) r] ∧ True) := by
  refine enter (args := [.slice a1 n1 c1, iv p1, iv p2, iv p3, .func (.func 16) #[] #[]]) Tryz.func81 rfl Tryz.ntmps81 rfl fun J => ?_
  unfold slices_siftDownCmpFunc at hm
  refine sq2 (rg (pv (r_mi rfl) (pv (r_zi rfl) (nil (t_then ?_)))))
  obtain ⟨o1, ho1, hq1⟩ := bindS hm
  obtain ⟨bd1, hbd1, ho1⟩ := loop_open ho1
  refine blk (wp_loop_ghost (fun m a w1 => ∃ (J : JV) (T1 : TP) (x1 : List AllocReach) (x2 : Int), a = env (nf 82) J [(0, .slice a1 n1 c1), (2, iv p2), (3, iv p3), (4, .func (.func 16) #[] #[]), (10, iv x2)] ∧ Im T0 w0 T1 w1 ∧ Sep g T1 w1 [R, ownA rAllocReach 57 (.slice a1 n1 c1) x1] ∧ loopM bd1 m (x1, x2) = some o1) NN ⟨_, _, p0, p1, env_has ⟨rfl, rfl, rfl, rfl, rfl, trivial⟩, Im.refl, hS.sel [0, 1] rfl, ho1⟩ ?_)
  rintro m _ w1 ⟨J, T1, x1, x2, rfl, im1, hS1, ho1⟩
  obtain ⟨m1, z1, rfl, hm, hn1⟩ := loop_round ho1
  rw [hbd1] at hm
  refine blk (sq2 (rg (pv (r_mi rfl) (pv (r_ib rfl rfl rfl) (pv (r_ib rfl rfl rfl) (pv (r_zi rfl) (nil (t_then ?_))))))))
  refine sq2 (sq2 (rg (pv (r_mi rfl) (pv (r_mi rfl) (pv (r_ib rfl rfl rfl) (nil (t_then ?_)))))))
  refine cnd rfl (fun hb1 => ?_) (fun hb1 => ?_)
  · have hm := ctrue hb1 hm
    have hm := oI hm; subst hm
    have hn1 : _ = Lp.brk _ := hn1
    subst hn1
    have hm := thn_brk hq1
    have hm := oI hm; subst hm
    exact xt (x_then (x_ne (by decide) (x_then (x_eq (end0 rfl ⟨_, rfl, _, im1, ⟨rfl, hS1.sel [0, 1] rfl, trivial⟩⟩)))))
  have hm := cfalse hb1 hm
  refine skp (t_then ?_)
  obtain ⟨kk1, hkk1, hm⟩ := jn_open hm
  refine cut (fun a w2 => ∃ (J : JV) (T2 : TP) (x3 : Int), a = env (nf 82) J [(0, .slice a1 n1 c1), (2, iv p2), (3, iv p3), (4, .func (.func 16) #[] #[]), (10, iv x2), (11, iv x3)] ∧ Im T1 w1 T2 w2 ∧ Sep g T2 w2 [R, ownA rAllocReach 57 (.slice a1 n1 c1) x1] ∧ kk1 x3 = some z1) ?_ ?_
  · refine sq2 (rs [0, 0, 0, 0, 0, 0, 0, 0, 0, 0, 0, 1, 0, 0, 0, 0, 0, 0, 1, 2, 0, 0] [0, 1, 2, 3, 4, 5, 6, 7, 8, 9, 10, 11, 12, 13, 14, 15, 16, 17, 18, 19, 20, 21] mix (by kernel_rfl) hS1.lt fun w3 i1 => ?_)
    have im3 := i1.imm
    have hS2 := hS1.keep i1 (fun _ h => h)
    refine s0 rfl trivial (fun _ => r_mi rfl) rfl (s0 rfl trivial (fun _ => r_ib rfl rfl rfl) rfl (s0 rfl trivial (fun _ => r_mi rfl) rfl (s0 rfl trivial (fun _ => r_ib rfl rfl rfl) rfl (s0 rfl trivial (fun _ => r_mb rfl) rfl (?_)))))
    rcases Bool.eq_false_or_eq_true (decide ((IntKind.wrap .i64 ((IntKind.wrap .i64 ((IntKind.wrap .i64 (2 * x2)) + 1)) + 1)) < p2)) with hb2 | hb2
    · have hm := ctrue hb2 hm
      obtain ⟨u1, hx1, hm⟩ := bindS hm
      obtain ⟨b1, of1, cs1, k1, cp1, hv1, hp1, hl1, he1, hr1, hc1⟩ := (hS2.own (i := 1) ⟨rfl, rfl⟩).v.ixq hx1 rfl
      cases rAllocReach_open hr1
      obtain ⟨u2, hx2, hm⟩ := bindS hm
      obtain ⟨b2, of2, cs2, k2, cp2, hv2, hp2, hl2, he2, hr2, hc2⟩ := (hS2.own (i := 1) ⟨rfl, rfl⟩).v.ixq hx2 rfl
      cases rAllocReach_open hr2
      obtain ⟨y1, hx3, hm⟩ := bindS hm
      refine s0 rfl ⟨_, rfl, congrArg Value.bool hb2⟩ (fun _ => r_mf rfl) rfl (s0 rfl ⟨_, rfl, congrArg Value.bool hb2⟩ (fun _ => r_ms rfl) rfl (s0 rfl ⟨_, rfl, congrArg Value.bool hb2⟩ (fun _ => r_mi rfl) rfl (s0 rfl ⟨_, rfl, congrArg Value.bool hb2⟩ (fun _ => r_mi rfl) rfl (s0 rfl ⟨_, rfl, congrArg Value.bool hb2⟩ (fun _ => r_ib rfl rfl rfl) rfl (s0 rfl ⟨_, rfl, congrArg Value.bool hb2⟩ (fun _ => r_ixe hv1 rfl underlying53 sizeOf57 hp1 hl1 he1) rfl (s1 rfl ⟨_, rfl, congrArg Value.bool hb2⟩ (r_ldS rfl isAgg57 sizeOf57 rfl hc1 (cs := (cAllocReach u1))) rfl (s0 rfl ⟨_, rfl, congrArg Value.bool hb2⟩ (fun _ => r_ms rfl) rfl (s0 rfl ⟨_, rfl, congrArg Value.bool hb2⟩ (fun _ => r_mi rfl) rfl (s0 rfl ⟨_, rfl, congrArg Value.bool hb2⟩ (fun _ => r_mi rfl) rfl (s0 rfl ⟨_, rfl, congrArg Value.bool hb2⟩ (fun _ => r_ib rfl rfl rfl) rfl (s0 rfl ⟨_, rfl, congrArg Value.bool hb2⟩ (fun _ => r_ib rfl rfl rfl) rfl (s0 rfl ⟨_, rfl, congrArg Value.bool hb2⟩ (fun _ => r_ixe hv2 rfl underlying53 sizeOf57 hp2 hl2 he2) rfl (s1 rfl ⟨_, rfl, congrArg Value.bool hb2⟩ (r_ldS rfl isAgg57 sizeOf57 rfl hc2 (cs := (cAllocReach u2))) rfl (s2 [] rfl ⟨_, rfl, congrArg Value.bool hb2⟩ rfl (by kernel_rfl) (calS cf16 rfl (alloc_Assign_2_sim (p0 := u1) (p1 := u2) (hS2.bun [0, 1] [] rfl)  hx3) rfl fun v1 T3 w4 im4 rv1 => ?_)))))))))))))))
      obtain ⟨rfl, hS3, _⟩ := rv1
      have hS3 := hS3.unb
      refine ⟨st0, ?_⟩
      refine s0 rfl ⟨_, rfl, congrArg Value.bool hb2⟩ (fun _ => r_ib rfl rfl rfl) rfl (s0 rfl trivial (fun _ => r_pkt rfl hb2 rfl) rfl (se (t_then ?_)))
      refine cnd rfl (fun hb3 => ?_) (fun hb3 => ?_)
      · have hm := ctrue hb3 hm
        exact rg (pv (r_mi rfl) (pv (r_ib rfl rfl rfl) (pv (r_zi rfl) (nil (t_then ⟨_, _, (IntKind.wrap .i64 ((IntKind.wrap .i64 ((IntKind.wrap .i64 (2 * x2)) + 1)) + 1)), env_has ⟨rfl, rfl, rfl, rfl, rfl, rfl, trivial⟩, (iT im3 im4), hS3.sel [0, 1] rfl, hm⟩)))))
      have hm := cfalse hb3 hm
      exact skp (t_then ⟨_, _, (IntKind.wrap .i64 ((IntKind.wrap .i64 (2 * x2)) + 1)), env_has ⟨rfl, rfl, rfl, rfl, rfl, rfl, trivial⟩, (iT im3 im4), hS3.sel [0, 1] rfl, hm⟩)
    have hm := cfalse hb2 hm
    refine sU rfl (gI rfl rfl hb2) (sU rfl (gI rfl rfl hb2) (sU rfl (gI rfl rfl hb2) (sU rfl (gI rfl rfl hb2) (sU rfl (gI rfl rfl hb2) (sU rfl (gI rfl rfl hb2) (sU rfl (gI rfl rfl hb2) (sU rfl (gI rfl rfl hb2) (sU rfl (gI rfl rfl hb2) (sU rfl (gI rfl rfl hb2) (sU rfl (gI rfl rfl hb2) (sU rfl (gI rfl rfl hb2) (sU rfl (gI rfl rfl hb2) (sU rfl (gI rfl rfl hb2) (sU rfl (gI rfl rfl hb2) (sU rfl (gI rfl rfl hb2) (s0 rfl trivial (fun _ => r_pkf rfl hb2 rfl) rfl (se (t_then ?_))))))))))))))))))
    refine cnd (b := false) rfl (fun h => nomatch h) (fun _ => ?_)
    exact skp (t_then ⟨_, _, (IntKind.wrap .i64 ((IntKind.wrap .i64 (2 * x2)) + 1)), env_has ⟨rfl, rfl, rfl, rfl, rfl, rfl, trivial⟩, im3, hS2.sel [0, 1] rfl, hm⟩)
  rintro _ w2 ⟨J, T2, x3, rfl, im2, hS4, hm⟩
  rw [hkk1] at hm
  refine sq2 (sq2 (rs [0, 0, 0, 0, 0, 0, 1, 0, 0, 0, 0, 0, 1, 2, 0, 0] [0, 1, 2, 3, 4, 5, 6, 7, 8, 9, 10, 11, 12, 13, 14, 15] mix (by kernel_rfl) hS4.lt fun w5 i2 => ?_))
  have im5 := i2.imm
  have hS5 := hS4.keep i2 (fun _ h => h)
  obtain ⟨u3, hx4, hm⟩ := bindS hm
  obtain ⟨b3, of3, cs3, k3, cp3, hv3, hp3, hl3, he3, hr3, hc3⟩ := (hS5.own (i := 1) ⟨rfl, rfl⟩).v.ixq hx4 rfl
  cases rAllocReach_open hr3
  obtain ⟨u4, hx5, hm⟩ := bindS hm
  obtain ⟨b4, of4, cs4, k4, cp4, hv4, hp4, hl4, he4, hr4, hc4⟩ := (hS5.own (i := 1) ⟨rfl, rfl⟩).v.ixq hx5 rfl
  cases rAllocReach_open hr4
  obtain ⟨y2, hx6, hm⟩ := bindS hm
  refine s0 rfl trivial (fun _ => r_mf rfl) rfl (s0 rfl trivial (fun _ => r_ms rfl) rfl (s0 rfl trivial (fun _ => r_mi rfl) rfl (s0 rfl trivial (fun _ => r_mi rfl) rfl (s0 rfl trivial (fun _ => r_ib rfl rfl rfl) rfl (s0 rfl trivial (fun _ => r_ixe hv3 rfl underlying53 sizeOf57 hp3 hl3 he3) rfl (s1 rfl trivial (r_ldS rfl isAgg57 sizeOf57 rfl hc3 (cs := (cAllocReach u3))) rfl (s0 rfl trivial (fun _ => r_ms rfl) rfl (s0 rfl trivial (fun _ => r_mi rfl) rfl (s0 rfl trivial (fun _ => r_mi rfl) rfl (s0 rfl trivial (fun _ => r_ib rfl rfl rfl) rfl (s0 rfl trivial (fun _ => r_ixe hv4 rfl underlying53 sizeOf57 hp4 hl4 he4) rfl (s1 rfl trivial (r_ldS rfl isAgg57 sizeOf57 rfl hc4 (cs := (cAllocReach u4))) rfl (s2 [] rfl trivial rfl (by kernel_rfl) (calS cf16 rfl (alloc_Assign_2_sim (p0 := u3) (p1 := u4) (hS5.bun [0, 1] [] rfl)  hx6) rfl fun v2 T4 w6 im6 rv2 => ?_))))))))))))))
  obtain ⟨rfl, hS6, _⟩ := rv2
  have hS6 := hS6.unb
  refine ⟨st0, ?_⟩
  refine s0 rfl trivial (fun _ => r_ib rfl rfl rfl) rfl (s0 rfl trivial (fun _ => r_nt rfl) rfl (se (t_then ?_)))
  refine cnd rfl (fun hb5 => ?_) (fun hb5 => ?_)
  · have hm := ctrue hb5 hm
    have hm := oI hm; subst hm
    have hn1 : _ = Lp.ret _ := hn1
    subst hn1
    have hm := thn_ret hq1
    have hm := oI hm; subst hm
    exact rtn (r_then (r_blk (r_then (r_blk (ret0 rfl ⟨_, rfl, _, (iT im1 (iT im2 (iT im5 im6))), ⟨rfl, hS6.sel [0, 1] rfl, trivial⟩⟩)))))
  have hm := cfalse hb5 hm
  refine skp (t_then ?_)
  refine sq2 (rs [0, 0, 0, 0, 0, 0, 0, 0, 0, 0, 0, 0, 0, 1, 0, 0, 0, 0, 0, 1, 0, 2, 0, 2] [0, 1, 2, 3, 4, 5, 6, 7, 8, 9, 10, 11, 12, 13, 14, 15, 16, 17, 18, 19, 20, 21, 22, 23] mix (by kernel_rfl) hS6.lt fun w7 i3 => ?_)
  have im7 := i3.imm
  have hS7 := hS6.keep i3 (fun _ h => h)
  obtain ⟨u5, hx7, hm⟩ := bindS hm
  obtain ⟨b5, of5, cs5, k5, cp5, hv5, hp5, hl5, he5, hr5, hc5⟩ := (hS7.own (i := 1) ⟨rfl, rfl⟩).v.ixq hx7 rfl
  cases rAllocReach_open hr5
  obtain ⟨u6, hx8, hm⟩ := bindS hm
  obtain ⟨b6, of6, cs6, k6, cp6, hv6, hp6, hl6, he6, hr6, hc6⟩ := (hS7.own (i := 1) ⟨rfl, rfl⟩).v.ixq hx8 rfl
  cases rAllocReach_open hr6
  obtain ⟨u7, hx9, hm⟩ := bindS hm
  obtain ⟨b7, of7, cs7, k7, cp7, hv7, hp7, hl7, he7, hr7, hc7⟩ := (hS7.own (i := 1) ⟨rfl, rfl⟩).v.ixq hx9 rfl
  cases rAllocReach_open hr7
  obtain ⟨u8, hx10, hm⟩ := bindS hm
  refine s0 rfl trivial (fun _ => r_ms rfl) rfl (s0 rfl trivial (fun _ => r_mi rfl) rfl (s0 rfl trivial (fun _ => r_mi rfl) rfl (s0 rfl trivial (fun _ => r_ib rfl rfl rfl) rfl (s0 rfl trivial (fun _ => r_ms rfl) rfl (s0 rfl trivial (fun _ => r_mi rfl) rfl (s0 rfl trivial (fun _ => r_mi rfl) rfl (s0 rfl trivial (fun _ => r_ib rfl rfl rfl) rfl (s0 rfl trivial (fun _ => r_ms rfl) rfl (s0 rfl trivial (fun _ => r_mi rfl) rfl (s0 rfl trivial (fun _ => r_mi rfl) rfl (s0 rfl trivial (fun _ => r_ib rfl rfl rfl) rfl (s0 rfl trivial (fun _ => r_ixe hv5 rfl underlying53 sizeOf57 hp5 hl5 he5) rfl (s1 rfl trivial (r_ldS rfl isAgg57 sizeOf57 rfl hc5 (cs := (cAllocReach u5))) rfl (s0 rfl trivial (fun _ => r_ms rfl) rfl (s0 rfl trivial (fun _ => r_mi rfl) rfl (s0 rfl trivial (fun _ => r_mi rfl) rfl (s0 rfl trivial (fun _ => r_ib rfl rfl rfl) rfl (s0 rfl trivial (fun _ => r_ixe hv6 rfl underlying53 sizeOf57 hp6 hl6 he6) rfl (s1 rfl trivial (r_ldS rfl isAgg57 sizeOf57 rfl hc6 (cs := (cAllocReach u6))) rfl (s0 rfl trivial (fun _ => r_ixe hv7 rfl underlying53 sizeOf57 hp7 hl7 he7) rfl (s2 [] rfl trivial rfl (by kernel_rfl) (stO (q := 1) (i := Int.toNat (IntKind.wrap .i64 (p3 + x2))) (j := 0) (u := u8) (u' := u5) hS7 ⟨rfl, rfl⟩ hv7 (idx_some hx10).2.2 he7 rfl rfl rfl sizeOf57 rfl rfl rfl (fun c0 hc0 => by rw [storeL_all (r := rAllocReach) hc0 rfl]; exact (rAllocReach_mk (x := u5)  : rAllocReach.rp _ _ _ _)) fun w8 im8 hS8 => ?_))))))))))))))))))))))
  refine ⟨st0, ?_⟩
  obtain ⟨u9, hx11, hm⟩ := bindS hm
  obtain ⟨b8, of8, cs8, k8, cp8, hv8, hp8, hl8, he8, hr8, hc8⟩ := (hS8.own (i := 1) ⟨rfl, rfl⟩).v.ixq hx11 rfl
  cases rAllocReach_open hr8
  obtain ⟨u10, hx12, hm⟩ := bindS hm
  refine s0 rfl trivial (fun _ => r_ixe hv8 rfl underlying53 sizeOf57 hp8 hl8 he8) rfl (s2 [] rfl trivial rfl (by kernel_rfl) (stO (q := 1) (i := Int.toNat (IntKind.wrap .i64 (p3 + x3))) (j := 0) (u := u10) (u' := u6) hS8 ⟨rfl, rfl⟩ hv8 (idx_some hx12).2.2 he8 rfl rfl rfl sizeOf57 rfl rfl rfl (fun c0 hc0 => by rw [storeL_all (r := rAllocReach) hc0 rfl]; exact (rAllocReach_mk (x := u6)  : rAllocReach.rp _ _ _ _)) fun w9 im9 hS9 => ?_))
  refine ⟨st0, ?_⟩
  refine se (t_then ?_)
  have hm := oI hm; subst hm
  exact rg (pv (r_mi rfl) (pv (r_zi rfl) (nil (t_blk (t_then ⟨m1, Nat.lt_succ_self _, _, _, (List.set (List.set x1 (Int.toNat (IntKind.wrap .i64 (p3 + x2))) u5) (Int.toNat (IntKind.wrap .i64 (p3 + x3))) u6), x3, env_has ⟨rfl, rfl, rfl, rfl, rfl, trivial⟩, (iT im1 (iT im2 (iT im5 (iT im6 (iT im7 (iT im8 im9)))))), hS9.sel [0, 1] rfl, hn1⟩)))))

theorem slices_heapSortCmpFunc_sim {p0 : List AllocReach} {a1 : OA} {n1 : Nat} {c1 : Nat} {p1 : Int} {p2 : Int} {r : (List AllocReach)} (hS : Sep g T0 w0 [R, ownA rAllocReach 57 (.slice a1 n1 c1) p0])  (hm : slices_heapSortCmpFunc p0 p1 p2 = some r) :
    Calls Tryz.prog 51 #[.slice a1 n1 c1, iv p1, iv p2, .func (.func 16) #[] #[]] w0 (RetS T0 w0 fun T w v => v = .tuple #[] ∧ Sep g T w [R, ownA rAllocReach 57 (.slice a1 n1 c1) r] ∧ True) := by
  refine enter (args := [.slice a1 n1 c1, iv p1, iv p2, .func (.func 16) #[] #[]]) Tryz.func51 rfl Tryz.ntmps51 rfl fun J => ?_
  unfold slices_heapSortCmpFunc at hm
  refine sq2 (rg (pv (r_mi rfl) (pv (r_zi rfl) (nil (t_then ?_)))))
  refine sq2 (rg (pv (r_zi rfl) (nil (t_then ?_))))
  refine sq2 (rg (pv (r_mi rfl) (pv (r_mi rfl) (pv (r_ib rfl rfl rfl) (pv (r_zi rfl) (nil (t_then ?_)))))))
  refine sq2 (sq2 (rg (pv (r_mi rfl) (pv (r_ib rfl rfl rfl) (pv (r_iq rfl rfl (by decide)) (pv (r_zi rfl) (nil (t_then ?_))))))))
  obtain ⟨o1, ho1, hq1⟩ := bindS hm
  obtain ⟨bd1, hbd1, ho1⟩ := loop_open ho1
  refine blk (wp_loop_ghost (fun m a w1 => ∃ (J : JV) (T1 : TP) (x1 : List AllocReach) (x2 : Int), a = env (nf 60) J [(0, .slice a1 n1 c1), (3, .func (.func 16) #[] #[]), (8, iv p1), (9, iv 0), (10, iv (IntKind.wrap .i64 (p2 - p1))), (11, iv x2)] ∧ Im T0 w0 T1 w1 ∧ Sep g T1 w1 [R, ownA rAllocReach 57 (.slice a1 n1 c1) x1] ∧ loopM bd1 m (x1, x2) = some o1) NN ⟨_, _, p0, (IntKind.wrap .i64 (Int.tdiv (IntKind.wrap .i64 ((IntKind.wrap .i64 (p2 - p1)) - 1)) 2)), env_has ⟨rfl, rfl, rfl, rfl, rfl, rfl, trivial⟩, Im.refl, hS.sel [0, 1] rfl, ho1⟩ ?_)
  rintro m _ w1 ⟨J, T1, x1, x2, rfl, im1, hS1, ho1⟩
  obtain ⟨m1, z1, rfl, hm, hn1⟩ := loop_round ho1
  rw [hbd1] at hm
  refine sq2 (sq2 (rg (pv (r_mi rfl) (pv (r_ib rfl rfl rfl) (nil (t_then ?_))))))
  refine cnd rfl (fun hb1 => ?_) (fun hb1 => ?_)
  · have hm := ctrue hb1 hm
    refine skp (t_then ?_)
    refine sq2 (blk ?_)
    obtain ⟨y1, hx1, hm⟩ := bindS hm
    refine rg (pv (r_ms rfl) (pv (r_mi rfl) (pv (r_mi rfl) (pv (r_mi rfl) (pv (r_mf rfl) (wl rfl (calS cf81 rfl (slices_siftDownCmpFunc_sim (p0 := x1) (p1 := x2) (p2 := IntKind.wrap .i64 (p2 - p1)) (p3 := p1) (hS1.bun [0] [1] rfl)  hx1) rfl fun v1 T2 w2 im2 rv1 => ?_)))))))
    obtain ⟨rfl, hS2, _⟩ := rv1
    have hS2 := hS2.unb
    refine nil (t_blk (t_then ?_))
    have hm := oI hm; subst hm
    exact rg (pv (r_mi rfl) (pv (r_ib rfl rfl rfl) (pv (r_zi rfl) (nil (t_then ⟨m1, Nat.lt_succ_self _, _, _, y1, (IntKind.wrap .i64 (x2 - 1)), env_has ⟨rfl, rfl, rfl, rfl, rfl, rfl, trivial⟩, (iT im1 im2), hS2.sel [0, 1] rfl, hn1⟩)))))
  have hm := cfalse hb1 hm
  have hm := oI hm; subst hm
  have hn1 : _ = Lp.brk _ := hn1
  subst hn1
  have hm := thn_brk hq1
  refine xt (x_then (x_then (x_eq (t_then ?_))))
  refine sq2 (rg (pv (r_mi rfl) (pv (r_ib rfl rfl rfl) (pv (r_zi rfl) (nil (t_then ?_))))))
  obtain ⟨o1, ho1, hq1⟩ := bindS hm
  obtain ⟨bd1, hbd1, ho1⟩ := loop_open ho1
  refine blk (wp_loop_ghost (fun m a w3 => ∃ (J : JV) (T3 : TP) (x3 : List AllocReach) (x4 : Int), a = env (nf 60) J [(0, .slice a1 n1 c1), (3, .func (.func 16) #[] #[]), (8, iv p1), (9, iv 0), (12, iv x4)] ∧ Im T1 w1 T3 w3 ∧ Sep g T3 w3 [R, ownA rAllocReach 57 (.slice a1 n1 c1) x3] ∧ loopM bd1 m (x3, x4) = some o1) NN ⟨_, _, x1, (IntKind.wrap .i64 ((IntKind.wrap .i64 (p2 - p1)) - 1)), env_has ⟨rfl, rfl, rfl, rfl, rfl, trivial⟩, Im.refl, hS1.sel [0, 1] rfl, ho1⟩ ?_)
  rintro m _ w3 ⟨J, T3, x3, x4, rfl, im3, hS3, ho1⟩
  obtain ⟨m1, z1, rfl, hm, hn1⟩ := loop_round ho1
  rw [hbd1] at hm
  refine sq2 (sq2 (rg (pv (r_mi rfl) (pv (r_ib rfl rfl rfl) (nil (t_then ?_))))))
  refine cnd rfl (fun hb2 => ?_) (fun hb2 => ?_)
  · have hm := ctrue hb2 hm
    refine skp (t_then ?_)
    refine sq2 (blk (sq2 (rs [0, 0, 0, 0, 0, 0, 0, 0, 0, 0, 0, 1, 0, 0, 0, 1, 0, 2, 0, 2] [0, 1, 2, 3, 4, 5, 6, 7, 8, 9, 10, 11, 12, 13, 14, 15, 16, 17, 18, 19] mix (by kernel_rfl) hS3.lt fun w4 i1 => ?_)))
    have im4 := i1.imm
    have hS4 := hS3.keep i1 (fun _ h => h)
    obtain ⟨u1, hx2, hm⟩ := bindS hm
    obtain ⟨b1, of1, cs1, k1, cp1, hv1, hp1, hl1, he1, hr1, hc1⟩ := (hS4.own (i := 1) ⟨rfl, rfl⟩).v.ixq hx2 rfl
    cases rAllocReach_open hr1
    obtain ⟨u2, hx3, hm⟩ := bindS hm
    obtain ⟨b2, of2, cs2, k2, cp2, hv2, hp2, hl2, he2, hr2, hc2⟩ := (hS4.own (i := 1) ⟨rfl, rfl⟩).v.ixq hx3 rfl
    cases rAllocReach_open hr2
    obtain ⟨u3, hx4, hm⟩ := bindS hm
    obtain ⟨b3, of3, cs3, k3, cp3, hv3, hp3, hl3, he3, hr3, hc3⟩ := (hS4.own (i := 1) ⟨rfl, rfl⟩).v.ixq hx4 rfl
    cases rAllocReach_open hr3
    obtain ⟨u4, hx5, hm⟩ := bindS hm
    refine s0 rfl trivial (fun _ => r_ms rfl) rfl (s0 rfl trivial (fun _ => r_mi rfl) rfl (s0 rfl trivial (fun _ => r_ms rfl) rfl (s0 rfl trivial (fun _ => r_mi rfl) rfl (s0 rfl trivial (fun _ => r_mi rfl) rfl (s0 rfl trivial (fun _ => r_ib rfl rfl rfl) rfl (s0 rfl trivial (fun _ => r_ms rfl) rfl (s0 rfl trivial (fun _ => r_mi rfl) rfl (s0 rfl trivial (fun _ => r_mi rfl) rfl (s0 rfl trivial (fun _ => r_ib rfl rfl rfl) rfl (s0 rfl trivial (fun _ => r_ixe hv1 rfl underlying53 sizeOf57 hp1 hl1 he1) rfl (s1 rfl trivial (r_ldS rfl isAgg57 sizeOf57 rfl hc1 (cs := (cAllocReach u1))) rfl (s0 rfl trivial (fun _ => r_ms rfl) rfl (s0 rfl trivial (fun _ => r_mi rfl) rfl (s0 rfl trivial (fun _ => r_ixe hv2 rfl underlying53 sizeOf57 hp2 hl2 he2) rfl (s1 rfl trivial (r_ldS rfl isAgg57 sizeOf57 rfl hc2 (cs := (cAllocReach u2))) rfl (s0 rfl trivial (fun _ => r_ixe hv3 rfl underlying53 sizeOf57 hp3 hl3 he3) rfl (s2 [] rfl trivial rfl (by kernel_rfl) (stO (q := 1) (i := Int.toNat p1) (j := 0) (u := u4) (u' := u1) hS4 ⟨rfl, rfl⟩ hv3 (idx_some hx5).2.2 he3 rfl rfl rfl sizeOf57 rfl rfl rfl (fun c0 hc0 => by rw [storeL_all (r := rAllocReach) hc0 rfl]; exact (rAllocReach_mk (x := u1)  : rAllocReach.rp _ _ _ _)) fun w5 im5 hS5 => ?_))))))))))))))))))
    refine ⟨st0, ?_⟩
    obtain ⟨u5, hx6, hm⟩ := bindS hm
    obtain ⟨b4, of4, cs4, k4, cp4, hv4, hp4, hl4, he4, hr4, hc4⟩ := (hS5.own (i := 1) ⟨rfl, rfl⟩).v.ixq hx6 rfl
    cases rAllocReach_open hr4
    obtain ⟨u6, hx7, hm⟩ := bindS hm
    refine s0 rfl trivial (fun _ => r_ixe hv4 rfl underlying53 sizeOf57 hp4 hl4 he4) rfl (s2 [] rfl trivial rfl (by kernel_rfl) (stO (q := 1) (i := Int.toNat (IntKind.wrap .i64 (p1 + x4))) (j := 0) (u := u6) (u' := u2) hS5 ⟨rfl, rfl⟩ hv4 (idx_some hx7).2.2 he4 rfl rfl rfl sizeOf57 rfl rfl rfl (fun c0 hc0 => by rw [storeL_all (r := rAllocReach) hc0 rfl]; exact (rAllocReach_mk (x := u2)  : rAllocReach.rp _ _ _ _)) fun w6 im6 hS6 => ?_))
    refine ⟨st0, ?_⟩
    refine se (t_then ?_)
    obtain ⟨y2, hx8, hm⟩ := bindS hm
    refine rg (pv (r_ms rfl) (pv (r_mi rfl) (pv (r_mi rfl) (pv (r_mi rfl) (pv (r_mf rfl) (wl rfl (calS cf81 rfl (slices_siftDownCmpFunc_sim (p0 := List.set (List.set x3 (Int.toNat p1) u1) (Int.toNat (IntKind.wrap .i64 (p1 + x4))) u2) (p1 := 0) (p2 := x4) (p3 := p1) (hS6.bun [0] [1] rfl)  hx8) rfl fun v2 T4 w7 im7 rv2 => ?_)))))))
    obtain ⟨rfl, hS7, _⟩ := rv2
    have hS7 := hS7.unb
    refine nil (t_blk (t_then ?_))
    have hm := oI hm; subst hm
    exact rg (pv (r_mi rfl) (pv (r_ib rfl rfl rfl) (pv (r_zi rfl) (nil (t_then ⟨m1, Nat.lt_succ_self _, _, _, y2, (IntKind.wrap .i64 (x4 - 1)), env_has ⟨rfl, rfl, rfl, rfl, rfl, trivial⟩, (iT im3 (iT im4 (iT im5 (iT im6 im7)))), hS7.sel [0, 1] rfl, hn1⟩)))))
  have hm := cfalse hb2 hm
  have hm := oI hm; subst hm
  have hn1 : _ = Lp.brk _ := hn1
  subst hn1
  have hm := thn_brk hq1
  have hm := oI hm; subst hm
  exact xt (x_then (x_then (x_eq (end0 rfl ⟨_, rfl, _, (iT im1 im3), ⟨rfl, hS3.sel [0, 1] rfl, trivial⟩⟩))))

theorem slices_nextPowerOfTwo_sim {p0 : Int} {r : Int} (hS : Sep g T0 w0 [R])  (hm : slices_nextPowerOfTwo p0 = some r) :
    Calls Tryz.prog 82 #[iv p0] w0 (RetS T0 w0 fun T w v => v = .int .u64 r ∧ Sep g T w [R] ∧ True) := by
  refine enter (args := [iv p0]) Tryz.func82 rfl Tryz.ntmps82 rfl fun J => ?_
  unfold slices_nextPowerOfTwo at hm
  refine sq2 (rg (pv (r_zi rfl) (nil (t_then ?_))))
  refine sq2 ?_
  obtain ⟨y1, hx1, hm⟩ := bindS hm
  refine rg (pv (r_mi rfl) (pv (r_cv rfl underlying3 underlying87) (wl rfl (calS cf31 rfl (bits_Len_sim (p0 := IntKind.wrap .u64 p0) (hS.bun [0] [] rfl)  hx1) rfl fun v1 T1 w1 im1 rv1 => ?_))))
  obtain ⟨rfl, hS1, _⟩ := rv1
  have hS1 := hS1.unb
  obtain ⟨_, hz1, hm⟩ := bindS hm
  have hz1 := nn_some hz1
  refine pv (r_ishl rfl rfl hz1) (pv (r_zi rfl) (nil (t_then ?_)))
  have hm := oI hm; subst hm
  exact rtn (ret1 rfl rfl ⟨_, rfl, _, im1, ⟨rfl, hS1.sel [0] rfl, trivial⟩⟩)

theorem slices_xorshift_Next_sim {p0 : Int} {b_p0 o_p0 : Nat} {H_p0 : List Value → Assn} {r : Int × Int} (hS : Sep g T0 w0 [R, H_p0 [.int .u64 p0]]) (hL_p0 : Ln b_p0 o_p0 H_p0) (hm : slices_xorshift_Next p0 = some r) :
    Calls Tryz.prog 83 #[pt b_p0 o_p0] w0 (RetS T0 w0 fun T w v => v = .int .u64 r.1 ∧ Sep g T w [R, H_p0 [.int .u64 r.2]] ∧ True) := by
  refine enter (args := [pt b_p0 o_p0]) Tryz.func83 rfl Tryz.ntmps83 rfl fun J => ?_
  unfold slices_xorshift_Next at hm
  refine sq2 (rg (pv (r_zi rfl) (nil (t_then ?_))))
  refine sq2 (rs [0, 0, 1, 0, 0, 1, 0, 0, 0, 2] [0, 1, 2, 3, 4, 5, 6, 7, 8, 9] mix (by kernel_rfl) hS.lt fun w1 i1 => ?_)
  have im1 := i1.imm
  have hS1 := hS.keep i1 (fun _ h => h)
  refine s0 rfl trivial (fun _ => r_mp rfl) rfl (s0 rfl trivial (fun _ => r_nc rfl) rfl (s1 rfl trivial (r_ld rfl isAgg139 (hS1.cellB (i := 1) ⟨rfl, rfl⟩ hL_p0 (j := 0) rfl)) rfl (s0 rfl trivial (fun _ => r_mp rfl) rfl (s0 rfl trivial (fun _ => r_nc rfl) rfl (s1 rfl trivial (r_ld rfl isAgg139 (hS1.cellB (i := 1) ⟨rfl, rfl⟩ hL_p0 (j := 0) rfl)) rfl (s0 rfl trivial (fun _ => r_ishl rfl rfl (by decide)) rfl (s0 rfl trivial (fun _ => r_ib rfl rfl rfl) rfl (s0 rfl trivial (fun _ => r_nc rfl) rfl (s2 [] rfl trivial rfl (by kernel_rfl) (stB (q := 1) (j := 0) hS1 ⟨rfl, rfl⟩ hL_p0 rfl rfl rfl sizeOf139 rfl rfl rfl fun w2 im2 hS2 => ?_))))))))))
  refine ⟨st0, ?_⟩
  refine se (t_then ?_)
  refine sq2 (rs [0, 0, 1, 0, 0, 1, 0, 0, 0, 2] [0, 1, 2, 3, 4, 5, 6, 7, 8, 9] mix (by kernel_rfl) hS2.lt fun w3 i2 => ?_)
  have im3 := i2.imm
  have hS3 := hS2.keep i2 (fun _ h => h)
  refine s0 rfl trivial (fun _ => r_mp rfl) rfl (s0 rfl trivial (fun _ => r_nc rfl) rfl (s1 rfl trivial (r_ld rfl isAgg139 (hS3.cellB (i := 1) ⟨rfl, rfl⟩ hL_p0 (j := 0) rfl)) rfl (s0 rfl trivial (fun _ => r_mp rfl) rfl (s0 rfl trivial (fun _ => r_nc rfl) rfl (s1 rfl trivial (r_ld rfl isAgg139 (hS3.cellB (i := 1) ⟨rfl, rfl⟩ hL_p0 (j := 0) rfl)) rfl (s0 rfl trivial (fun _ => r_ishr rfl rfl (by decide)) rfl (s0 rfl trivial (fun _ => r_ib rfl rfl rfl) rfl (s0 rfl trivial (fun _ => r_nc rfl) rfl (s2 [] rfl trivial rfl (by kernel_rfl) (stB (q := 1) (j := 0) hS3 ⟨rfl, rfl⟩ hL_p0 rfl rfl rfl sizeOf139 rfl rfl rfl fun w4 im4 hS4 => ?_))))))))))
  refine ⟨st0, ?_⟩
  refine se (t_then ?_)
  refine sq2 (rs [0, 0, 1, 0, 0, 1, 0, 0, 0, 2] [0, 1, 2, 3, 4, 5, 6, 7, 8, 9] mix (by kernel_rfl) hS4.lt fun w5 i3 => ?_)
  have im5 := i3.imm
  have hS5 := hS4.keep i3 (fun _ h => h)
  refine s0 rfl trivial (fun _ => r_mp rfl) rfl (s0 rfl trivial (fun _ => r_nc rfl) rfl (s1 rfl trivial (r_ld rfl isAgg139 (hS5.cellB (i := 1) ⟨rfl, rfl⟩ hL_p0 (j := 0) rfl)) rfl (s0 rfl trivial (fun _ => r_mp rfl) rfl (s0 rfl trivial (fun _ => r_nc rfl) rfl (s1 rfl trivial (r_ld rfl isAgg139 (hS5.cellB (i := 1) ⟨rfl, rfl⟩ hL_p0 (j := 0) rfl)) rfl (s0 rfl trivial (fun _ => r_ishl rfl rfl (by decide)) rfl (s0 rfl trivial (fun _ => r_ib rfl rfl rfl) rfl (s0 rfl trivial (fun _ => r_nc rfl) rfl (s2 [] rfl trivial rfl (by kernel_rfl) (stB (q := 1) (j := 0) hS5 ⟨rfl, rfl⟩ hL_p0 rfl rfl rfl sizeOf139 rfl rfl rfl fun w6 im6 hS6 => ?_))))))))))
  refine ⟨st0, ?_⟩
  refine se (t_then ?_)
  refine sq2 (rg (pv (r_mp rfl) (pv (r_nc rfl) (pv (r_ld rfl isAgg139 (hS6.cellB (i := 1) ⟨rfl, rfl⟩ hL_p0 (j := 0) rfl)) (pv (r_zi rfl) (nil (t_then ?_)))))))
  have hm := oI hm; subst hm
  exact rtn (ret1 rfl rfl ⟨_, rfl, _, (iT im1 (iT im2 (iT im3 (iT im4 (iT im5 im6))))), ⟨rfl, hS6.sel [0, 1] rfl, trivial⟩⟩)

theorem slices_breakPatternsCmpFunc_sim {p0 : List AllocReach} {a1 : OA} {n1 : Nat} {c1 : Nat} {p1 : Int} {p2 : Int} {r : (List AllocReach)} (hS : Sep g T0 w0 [R, ownA rAllocReach 57 (.slice a1 n1 c1) p0])  (hm : slices_breakPatternsCmpFunc p0 p1 p2 = some r) :
    Calls Tryz.prog 52 #[.slice a1 n1 c1, iv p1, iv p2, .func (.func 16) #[] #[]] w0 (RetS T0 w0 fun T w v => v = .tuple #[] ∧ Sep g T w [R, ownA rAllocReach 57 (.slice a1 n1 c1) r] ∧ True) := by
  refine enter (args := [.slice a1 n1 c1, iv p1, iv p2, .func (.func 16) #[] #[]]) Tryz.func52 rfl Tryz.ntmps52 rfl fun J => ?_
  unfold slices_breakPatternsCmpFunc at hm
  refine sq2 (rg (pv (r_mi rfl) (pv (r_mi rfl) (pv (r_ib rfl rfl rfl) (pv (r_zi rfl) (nil (t_then ?_)))))))
  refine sq2 (rg (pv (r_mi rfl) (pv (r_ib rfl rfl rfl) (nil (t_then ?_)))))
  refine cnd rfl (fun hb1 => ?_) (fun hb1 => ?_)
  · have hm := ctrue hb1 hm
    refine sq2 (rg (pv (r_mi rfl) (pv (r_cv rfl underlying3 underlying139) (wl rfl (alS (zs := [.int .u64 0]) zeroValue139 rfl hS fun w1 b1 im1 hS1 => ?_)))))
    refine wl rfl (st0B (q := 0) hS1 ⟨rfl, rfl⟩ rfl rfl rfl sizeOf139 rfl rfl rfl fun w2 im2 hS2 => ?_)
    refine nil (t_then ?_)
    refine sq2 ?_
    obtain ⟨y1, hx1, hm⟩ := bindS hm
    refine rg (pv (r_mi rfl) (wl rfl (calS cf82 rfl (slices_nextPowerOfTwo_sim (p0 := IntKind.wrap .i64 (p2 - p1)) (hS2.bun [0, 1, 2] [] rfl)  hx1) rfl fun v1 T1 w3 im3 rv1 => ?_)))
    obtain ⟨rfl, hS3, _⟩ := rv1
    have hS3 := hS3.unb
    refine pv (r_zi rfl) (nil (t_then ?_))
    refine sq2 (rg (pv (r_mi rfl) (pv (r_mi rfl) (pv (r_iq rfl rfl (by decide)) (pv (r_ib rfl rfl rfl) (pv (r_ib rfl rfl rfl) (pv (r_ib rfl rfl rfl) (pv (r_zi rfl) (nil (t_then ?_))))))))))
    obtain ⟨o1, ho1, hq1⟩ := bindS hm
    obtain ⟨bd1, hbd1, ho1⟩ := loop_open ho1
    refine blk (wp_loop_ghost (fun m a w4 => ∃ (J : JV) (T2 : TP) (x3 : Int) (x1 : List AllocReach) (x2 : Int), a = env (nf 67) J [(0, .slice a1 n1 c1), (1, iv p1), (8, iv (IntKind.wrap .i64 (p2 - p1))), (9, pt b1 0), (10, .int .u64 y1), (11, iv x2)] ∧ Im T1 w3 T2 w4 ∧ Sep g T2 w4 [boxA b1 [.int .u64 x3], R, ownA rAllocReach 57 (.slice a1 n1 c1) x1] ∧ loopM bd1 m (x1, x2, x3) = some o1) NN ⟨_, _, (IntKind.wrap .u64 (IntKind.wrap .i64 (p2 - p1))), p0, (IntKind.wrap .i64 ((IntKind.wrap .i64 (p1 + (IntKind.wrap .i64 ((IntKind.wrap .i64 (Int.tdiv (IntKind.wrap .i64 (p2 - p1)) 4)) * 2)))) - 1)), env_has ⟨rfl, rfl, rfl, rfl, rfl, rfl, trivial⟩, Im.refl, hS3.sel [0, 1, 2] rfl, ho1⟩ ?_)
    rintro m _ w4 ⟨J, T2, x3, x1, x2, rfl, im4, hS4, ho1⟩
    obtain ⟨m1, z1, rfl, hm, hn1⟩ := loop_round ho1
    rw [hbd1] at hm
    refine sq2 (sq2 (rg (pv (r_mi rfl) (pv (r_mi rfl) (pv (r_mi rfl) (pv (r_iq rfl rfl (by decide)) (pv (r_ib rfl rfl rfl) (pv (r_ib rfl rfl rfl) (pv (r_ib rfl rfl rfl) (pv (r_ib rfl rfl rfl) (nil (t_then ?_))))))))))))
    refine cnd rfl (fun hb2 => ?_) (fun hb2 => ?_)
    · have hm := ctrue hb2 hm
      refine skp (t_then ?_)
      refine sq2 (blk (sq2 ?_))
      obtain ⟨y2, hx2, hm⟩ := bindS hm
      refine rg (wl rfl (calS cf83 rfl (slices_xorshift_Next_sim (p0 := x3) (H_p0 := boxA b1) (hS4.bun [1, 2] [0] rfl) (lnBox b1) hx2) rfl fun v2 T3 w5 im5 rv2 => ?_))
      obtain ⟨rfl, hS5, _⟩ := rv2
      have hS5 := hS5.unb
      refine pv (r_mi rfl) (pv (r_ib rfl rfl rfl) (pv (r_ib rfl rfl rfl) (pv (r_cv rfl underlying87 underlying3) (pv (r_zi rfl) (nil (t_then ?_))))))
      obtain ⟨kk1, hkk1, hm⟩ := jn_open hm
      refine cut (fun a w6 => ∃ (J : JV) (T4 : TP) (x4 : Int), a = env (nf 67) J [(0, .slice a1 n1 c1), (1, iv p1), (8, iv (IntKind.wrap .i64 (p2 - p1))), (9, pt b1 0), (10, .int .u64 y1), (11, iv x2), (12, iv x4)] ∧ Im T3 w5 T4 w6 ∧ Sep g T4 w6 [R, ownA rAllocReach 57 (.slice a1 n1 c1) x1, boxA b1 [.int .u64 y2.2]] ∧ kk1 x4 = some z1) ?_ ?_
      · refine sq2 (rg (pv (r_mi rfl) (pv (r_mi rfl) (pv (r_ib rfl rfl rfl) (nil (t_then ?_))))))
        refine cnd rfl (fun hb3 => ?_) (fun hb3 => ?_)
        · have hm := ctrue hb3 hm
          exact rg (pv (r_mi rfl) (pv (r_mi rfl) (pv (r_ib rfl rfl rfl) (pv (r_zi rfl) (nil (t_then ⟨_, _, (IntKind.wrap .i64 ((IntKind.wrap .i64 (bits .and .u64 y2.1 (IntKind.wrap .u64 (y1 - 1)))) - (IntKind.wrap .i64 (p2 - p1)))), env_has ⟨rfl, rfl, rfl, rfl, rfl, rfl, rfl, trivial⟩, Im.refl, hS5.sel [0, 1, 2] rfl, hm⟩))))))
        have hm := cfalse hb3 hm
        exact skp (t_then ⟨_, _, (IntKind.wrap .i64 (bits .and .u64 y2.1 (IntKind.wrap .u64 (y1 - 1)))), env_has ⟨rfl, rfl, rfl, rfl, rfl, rfl, rfl, trivial⟩, Im.refl, hS5.sel [0, 1, 2] rfl, hm⟩)
      rintro _ w6 ⟨J, T4, x4, rfl, im6, hS6, hm⟩
      rw [hkk1] at hm
      refine rs [0, 0, 0, 0, 0, 0, 0, 0, 0, 0, 0, 1, 0, 0, 0, 1, 0, 2, 0, 2] [0, 1, 2, 3, 4, 5, 6, 7, 8, 9, 10, 11, 12, 13, 14, 15, 16, 17, 18, 19] mix (by kernel_rfl) hS6.lt fun w7 i1 => ?_
      have im7 := i1.imm
      have hS7 := hS6.keep i1 (fun _ h => h)
      obtain ⟨u1, hx3, hm⟩ := bindS hm
      obtain ⟨b2, of1, cs1, k1, cp1, hv1, hp1, hl1, he1, hr1, hc1⟩ := (hS7.own (i := 1) ⟨rfl, rfl⟩).v.ixq hx3 rfl
      cases rAllocReach_open hr1
      obtain ⟨u2, hx4, hm⟩ := bindS hm
      obtain ⟨b3, of2, cs2, k2, cp2, hv2, hp2, hl2, he2, hr2, hc2⟩ := (hS7.own (i := 1) ⟨rfl, rfl⟩).v.ixq hx4 rfl
      cases rAllocReach_open hr2
      obtain ⟨u3, hx5, hm⟩ := bindS hm
      obtain ⟨b4, of3, cs3, k3, cp3, hv3, hp3, hl3, he3, hr3, hc3⟩ := (hS7.own (i := 1) ⟨rfl, rfl⟩).v.ixq hx5 rfl
      cases rAllocReach_open hr3
      obtain ⟨u4, hx6, hm⟩ := bindS hm
      refine s0 rfl trivial (fun _ => r_ms rfl) rfl (s0 rfl trivial (fun _ => r_mi rfl) rfl (s0 rfl trivial (fun _ => r_ms rfl) rfl (s0 rfl trivial (fun _ => r_mi rfl) rfl (s0 rfl trivial (fun _ => r_mi rfl) rfl (s0 rfl trivial (fun _ => r_ib rfl rfl rfl) rfl (s0 rfl trivial (fun _ => r_ms rfl) rfl (s0 rfl trivial (fun _ => r_mi rfl) rfl (s0 rfl trivial (fun _ => r_mi rfl) rfl (s0 rfl trivial (fun _ => r_ib rfl rfl rfl) rfl (s0 rfl trivial (fun _ => r_ixe hv1 rfl underlying53 sizeOf57 hp1 hl1 he1) rfl (s1 rfl trivial (r_ldS rfl isAgg57 sizeOf57 rfl hc1 (cs := (cAllocReach u1))) rfl (s0 rfl trivial (fun _ => r_ms rfl) rfl (s0 rfl trivial (fun _ => r_mi rfl) rfl (s0 rfl trivial (fun _ => r_ixe hv2 rfl underlying53 sizeOf57 hp2 hl2 he2) rfl (s1 rfl trivial (r_ldS rfl isAgg57 sizeOf57 rfl hc2 (cs := (cAllocReach u2))) rfl (s0 rfl trivial (fun _ => r_ixe hv3 rfl underlying53 sizeOf57 hp3 hl3 he3) rfl (s2 [] rfl trivial rfl (by kernel_rfl) (stO (q := 1) (i := Int.toNat x2) (j := 0) (u := u4) (u' := u1) hS7 ⟨rfl, rfl⟩ hv3 (idx_some hx6).2.2 he3 rfl rfl rfl sizeOf57 rfl rfl rfl (fun c0 hc0 => by rw [storeL_all (r := rAllocReach) hc0 rfl]; exact (rAllocReach_mk (x := u1)  : rAllocReach.rp _ _ _ _)) fun w8 im8 hS8 => ?_))))))))))))))))))
      refine ⟨st0, ?_⟩
      obtain ⟨u5, hx7, hm⟩ := bindS hm
      obtain ⟨b5, of4, cs4, k4, cp4, hv4, hp4, hl4, he4, hr4, hc4⟩ := (hS8.own (i := 1) ⟨rfl, rfl⟩).v.ixq hx7 rfl
      cases rAllocReach_open hr4
      obtain ⟨u6, hx8, hm⟩ := bindS hm
      refine s0 rfl trivial (fun _ => r_ixe hv4 rfl underlying53 sizeOf57 hp4 hl4 he4) rfl (s2 [] rfl trivial rfl (by kernel_rfl) (stO (q := 1) (i := Int.toNat (IntKind.wrap .i64 (p1 + x4))) (j := 0) (u := u6) (u' := u2) hS8 ⟨rfl, rfl⟩ hv4 (idx_some hx8).2.2 he4 rfl rfl rfl sizeOf57 rfl rfl rfl (fun c0 hc0 => by rw [storeL_all (r := rAllocReach) hc0 rfl]; exact (rAllocReach_mk (x := u2)  : rAllocReach.rp _ _ _ _)) fun w9 im9 hS9 => ?_))
      refine ⟨st0, ?_⟩
      refine se (t_blk (t_then ?_))
      have hm := oI hm; subst hm
      exact rg (pv (r_mi rfl) (pv (r_ib rfl rfl rfl) (pv (r_zi rfl) (nil (t_then ⟨m1, Nat.lt_succ_self _, _, _, y2.2, (List.set (List.set x1 (Int.toNat x2) u1) (Int.toNat (IntKind.wrap .i64 (p1 + x4))) u2), (IntKind.wrap .i64 (x2 + 1)), env_has ⟨rfl, rfl, rfl, rfl, rfl, rfl, trivial⟩, (iT im4 (iT im5 (iT im6 (iT im7 (iT im8 im9))))), hS9.sel [2, 0, 1] rfl, hn1⟩)))))
    have hm := cfalse hb2 hm
    have hm := oI hm; subst hm
    have hn1 : _ = Lp.brk _ := hn1
    subst hn1
    have hm := thn_brk hq1
    have hm := oI hm; subst hm
    exact xt (x_then (x_then (x_eq (end0 rfl ⟨_, rfl, _, (iT im1 (iT im2 (iT im3 im4))), ⟨rfl, hS4.sel [1, 2] rfl, trivial⟩⟩))))
  have hm := cfalse hb1 hm
  have hm := oI hm; subst hm
  exact skp (end0 rfl ⟨_, rfl, _, Im.refl, ⟨rfl, hS.sel [0, 1] rfl, trivial⟩⟩)

theorem slices_order2CmpFunc_sim {p0 : List AllocReach} {v_p0 : Value} {H_p0 : Assn} {p1 : Int} {p2 : Int} {p3 : Int} {b_p3 o_p3 : Nat} {H_p3 : List Value → Assn} {r : Int × Int × Int} (hS : Sep g T0 w0 [R, H_p0, H_p3 [iv p3]]) (hV_p0 : Vw H_p0 rAllocReach v_p0 p0) (hL_p3 : Ln b_p3 o_p3 H_p3) (hm : slices_order2CmpFunc p0 p1 p2 p3 = some r) :
    Calls Tryz.prog 96 #[v_p0, iv p1, iv p2, pt b_p3 o_p3, .func (.func 16) #[] #[]] w0 (RetS T0 w0 fun T w v => v = .tuple #[iv r.1, iv r.2.1] ∧ Sep g T w [R, H_p0, H_p3 [iv r.2.2]] ∧ True) := by
  refine enter (args := [v_p0, iv p1, iv p2, pt b_p3 o_p3, .func (.func 16) #[] #[]]) Tryz.func96 rfl Tryz.ntmps96 rfl fun J => ?_
  unfold slices_order2CmpFunc at hm
  refine sq2 (rg (pv (r_zi rfl) (pv (r_zi rfl) (nil (t_then ?_)))))
  refine sq2 (sq2 (rs [0, 0, 0, 0, 1, 0, 0, 0, 1, 2, 0] [0, 1, 2, 3, 4, 5, 6, 7, 8, 9, 10] mix (by kernel_rfl) hS.lt fun w1 i1 => ?_))
  have im1 := i1.imm
  have hS1 := hS.keep i1 (fun _ h => h)
  obtain ⟨u1, hx1, hm⟩ := bindS hm
  obtain ⟨b1, of1, cs1, k1, cp1, hv1, hp1, hl1, he1, hr1, hc1⟩ := (hS1.view (i := 1) ⟨rfl, rfl⟩ hV_p0).ixq hx1 rfl
  cases rAllocReach_open hr1
  obtain ⟨u2, hx2, hm⟩ := bindS hm
  obtain ⟨b2, of2, cs2, k2, cp2, hv2, hp2, hl2, he2, hr2, hc2⟩ := (hS1.view (i := 1) ⟨rfl, rfl⟩ hV_p0).ixq hx2 rfl
  cases rAllocReach_open hr2
  obtain ⟨y1, hx3, hm⟩ := bindS hm
  refine s0 rfl trivial (fun _ => r_mf rfl) rfl (s0 rfl trivial (fun _ => r_mx (v := v_p0) rfl) rfl (s0 rfl trivial (fun _ => r_mi rfl) rfl (s0 rfl trivial (fun _ => r_ixe hv1 rfl underlying53 sizeOf57 hp1 hl1 he1) rfl (s1 rfl trivial (r_ldS rfl isAgg57 sizeOf57 rfl hc1 (cs := (cAllocReach u1))) rfl (s0 rfl trivial (fun _ => r_mx (v := v_p0) rfl) rfl (s0 rfl trivial (fun _ => r_mi rfl) rfl (s0 rfl trivial (fun _ => r_ixe hv2 rfl underlying53 sizeOf57 hp2 hl2 he2) rfl (s1 rfl trivial (r_ldS rfl isAgg57 sizeOf57 rfl hc2 (cs := (cAllocReach u2))) rfl (s2 [] rfl trivial rfl (by kernel_rfl) (calS cf16 rfl (alloc_Assign_2_sim (p0 := u1) (p1 := u2) (hS1.bun [0, 1, 2] [] rfl)  hx3) rfl fun v1 T1 w2 im2 rv1 => ?_))))))))))
  obtain ⟨rfl, hS2, _⟩ := rv1
  have hS2 := hS2.unb
  refine ⟨st0, ?_⟩
  refine s0 rfl trivial (fun _ => r_ib rfl rfl rfl) rfl (se (t_then ?_))
  refine cnd rfl (fun hb1 => ?_) (fun hb1 => ?_)
  · have hm := ctrue hb1 hm
    refine sq2 (rg (pv (r_mp rfl) (pv (r_nc rfl) (pv (r_ld rfl isAgg3 (hS2.cellB (i := 2) ⟨rfl, rfl⟩ hL_p3 (j := 0) rfl)) (pv (r_ib rfl rfl rfl) (pv (r_nc rfl) (wl rfl (stB (q := 2) (j := 0) hS2 ⟨rfl, rfl⟩ hL_p3 rfl rfl rfl sizeOf3 rfl rfl rfl fun w3 im3 hS3 => ?_))))))))
    refine nil (t_then ?_)
    refine sq2 (rg (pv (r_mi rfl) (pv (r_mi rfl) (pv (r_zi rfl) (pv (r_zi rfl) (nil (t_then ?_)))))))
    have hm := oI hm; subst hm
    exact rtn (r_then (retN (vs := [iv p2, iv p1]) rfl ⟨rfl, rfl, trivial⟩ rfl ⟨_, rfl, _, (iT im1 (iT im2 im3)), ⟨rfl, hS3.sel [0, 1, 2] rfl, trivial⟩⟩))
  have hm := cfalse hb1 hm
  refine skp (t_then ?_)
  refine sq2 (rg (pv (r_mi rfl) (pv (r_mi rfl) (pv (r_zi rfl) (pv (r_zi rfl) (nil (t_then ?_)))))))
  have hm := oI hm; subst hm
  exact rtn (retN (vs := [iv p1, iv p2]) rfl ⟨rfl, rfl, trivial⟩ rfl ⟨_, rfl, _, (iT im1 im2), ⟨rfl, hS2.sel [0, 1, 2] rfl, trivial⟩⟩)

theorem slices_medianCmpFunc_sim {p0 : List AllocReach} {v_p0 : Value} {H_p0 : Assn} {p1 : Int} {p2 : Int} {p3 : Int} {p4 : Int} {b_p4 o_p4 : Nat} {H_p4 : List Value → Assn} {r : Int × Int} (hS : Sep g T0 w0 [R, H_p0, H_p4 [iv p4]]) (hV_p0 : Vw H_p0 rAllocReach v_p0 p0) (hL_p4 : Ln b_p4 o_p4 H_p4) (hm : slices_medianCmpFunc p0 p1 p2 p3 p4 = some r) :
    Calls Tryz.prog 85 #[v_p0, iv p1, iv p2, iv p3, pt b_p4 o_p4, .func (.func 16) #[] #[]] w0 (RetS T0 w0 fun T w v => v = iv r.1 ∧ Sep g T w [R, H_p0, H_p4 [iv r.2]] ∧ True) := by
  refine enter (args := [v_p0, iv p1, iv p2, iv p3, pt b_p4 o_p4, .func (.func 16) #[] #[]]) Tryz.func85 rfl Tryz.ntmps85 rfl fun J => ?_
  unfold slices_medianCmpFunc at hm
  refine sq2 (rg (pv (r_zi rfl) (nil (t_then ?_))))
  refine sq2 ?_
  obtain ⟨y1, hx1, hm⟩ := bindS hm
  refine rg (pv (r_mx (v := v_p0) rfl) (pv (r_mi rfl) (pv (r_mi rfl) (pv (r_mp rfl) (pv (r_mf rfl) (wl rfl (calS cf96 rfl (slices_order2CmpFunc_sim (p0 := p0) (H_p0 := H_p0) (p1 := p1) (p2 := p2) (p3 := p4) (H_p3 := H_p4) (hS.bun [0] [1, 2] rfl) hV_p0 hL_p4 hx1) rfl fun v1 T1 w1 im1 rv1 => ?_)))))))
  obtain ⟨rfl, hS1, _⟩ := rv1
  have hS1 := hS1.unb
  refine pv (r_mv rfl) (pv (r_ex (v := iv y1.1) rfl rfl) (pv (r_ex (v := iv y1.2.1) rfl rfl) (pv (r_zi rfl) (pv (r_zi rfl) (nil (t_then ?_))))))
  refine sq2 ?_
  obtain ⟨y2, hx2, hm⟩ := bindS hm
  refine rg (pv (r_mx (v := v_p0) rfl) (pv (r_mi rfl) (pv (r_mi rfl) (pv (r_mp rfl) (pv (r_mf rfl) (wl rfl (calS cf96 rfl (slices_order2CmpFunc_sim (p0 := p0) (H_p0 := H_p0) (p1 := y1.2.1) (p2 := p3) (p3 := y1.2.2) (H_p3 := H_p4) (hS1.bun [0] [1, 2] rfl) hV_p0 hL_p4 hx2) rfl fun v2 T2 w2 im2 rv2 => ?_)))))))
  obtain ⟨rfl, hS2, _⟩ := rv2
  have hS2 := hS2.unb
  refine pv (r_mv rfl) (pv (r_ex (v := iv y2.1) rfl rfl) (pv (r_ex (v := iv y2.2.1) rfl rfl) (pv (r_zi rfl) (pv (r_zi rfl) (nil (t_then ?_))))))
  refine sq2 ?_
  obtain ⟨y3, hx3, hm⟩ := bindS hm
  refine rg (pv (r_mx (v := v_p0) rfl) (pv (r_mi rfl) (pv (r_mi rfl) (pv (r_mp rfl) (pv (r_mf rfl) (wl rfl (calS cf96 rfl (slices_order2CmpFunc_sim (p0 := p0) (H_p0 := H_p0) (p1 := y1.1) (p2 := y2.1) (p3 := y2.2.2) (H_p3 := H_p4) (hS2.bun [0] [1, 2] rfl) hV_p0 hL_p4 hx3) rfl fun v3 T3 w3 im3 rv3 => ?_)))))))
  obtain ⟨rfl, hS3, _⟩ := rv3
  have hS3 := hS3.unb
  refine pv (r_mv rfl) (pv (r_ex (v := iv y3.1) rfl rfl) (pv (r_ex (v := iv y3.2.1) rfl rfl) (pv (r_zi rfl) (pv (r_zi rfl) (nil (t_then ?_))))))
  refine sq2 (rg (pv (r_mi rfl) (pv (r_zi rfl) (nil (t_then ?_)))))
  have hm := oI hm; subst hm
  exact rtn (ret1 rfl rfl ⟨_, rfl, _, (iT im1 (iT im2 im3)), ⟨rfl, hS3.sel [0, 1, 2] rfl, trivial⟩⟩)

theorem slices_choosePivotCmpFunc_sim {p0 : List AllocReach} {v_p0 : Value} {H_p0 : Assn} {p1 : Int} {p2 : Int} {r : Int × Int} (hS : Sep g T0 w0 [R, H_p0]) (hV_p0 : Vw H_p0 rAllocReach v_p0 p0) (hm : slices_choosePivotCmpFunc p0 p1 p2 = some r) :
    Calls Tryz.prog 53 #[v_p0, iv p1, iv p2, .func (.func 16) #[] #[]] w0 (RetS T0 w0 fun T w v => v = .tuple #[iv r.1, iv r.2] ∧ Sep g T w [R, H_p0] ∧ True) := by
  refine enter (args := [v_p0, iv p1, iv p2, .func (.func 16) #[] #[]]) Tryz.func53 rfl Tryz.ntmps53 rfl fun J => ?_
  unfold slices_choosePivotCmpFunc at hm
  refine sq2 (rg (pv (r_zi rfl) (pv (r_zi rfl) (nil (t_then ?_)))))
  refine sq2 (rg (pv (r_mi rfl) (pv (r_mi rfl) (pv (r_ib rfl rfl rfl) (pv (r_zi rfl) (nil (t_then ?_)))))))
  refine sq2 (rg (wl rfl (alS (zs := [iv 0]) zeroValue3 rfl hS fun w1 b1 im1 hS1 => ?_)))
  refine nil (t_then ?_)
  refine sq2 (rg (pv (r_mi rfl) (pv (r_mi rfl) (pv (r_iq rfl rfl (by decide)) (pv (r_ib rfl rfl rfl) (pv (r_ib rfl rfl rfl) (pv (r_zi rfl) (nil (t_then ?_)))))))))
  refine sq2 (rg (pv (r_mi rfl) (pv (r_mi rfl) (pv (r_iq rfl rfl (by decide)) (pv (r_ib rfl rfl rfl) (pv (r_ib rfl rfl rfl) (pv (r_zi rfl) (nil (t_then ?_)))))))))
  refine sq2 (rg (pv (r_mi rfl) (pv (r_mi rfl) (pv (r_iq rfl rfl (by decide)) (pv (r_ib rfl rfl rfl) (pv (r_ib rfl rfl rfl) (pv (r_zi rfl) (nil (t_then ?_)))))))))
  obtain ⟨kk1, hkk1, hm⟩ := jn_open hm
  refine cut (fun a w2 => ∃ (J : JV) (T1 : TP) (x2 : Int) (x1 : Int), a = env (nf 63) J [(11, pt b1 0), (13, iv x1)] ∧ Im T0 w1 T1 w2 ∧ Sep g T1 w2 [boxA b1 [iv x2], R, H_p0] ∧ kk1 x1 x2 = some r) ?_ ?_
  · refine sq2 (rg (pv (r_mi rfl) (pv (r_ib rfl rfl rfl) (nil (t_then ?_)))))
    refine cnd rfl (fun hb1 => ?_) (fun hb1 => ?_)
    · have hm := ctrue hb1 hm
      refine sq2 (sq2 (rg (pv (r_mi rfl) (pv (r_ib rfl rfl rfl) (nil (t_then ?_))))))
      refine cnd rfl (fun hb2 => ?_) (fun hb2 => ?_)
      · have hm := ctrue hb2 hm
        cases hm
      have hm := cfalse hb2 hm
      refine skp (t_then ?_)
      obtain ⟨y1, hx1, hm⟩ := bindS hm
      refine rg (pv (r_mx (v := v_p0) rfl) (pv (r_mi rfl) (pv (r_mi rfl) (pv (r_mi rfl) (pv (r_mf rfl) (wl rfl (calS cf85 rfl (slices_medianCmpFunc_sim (p0 := p0) (H_p0 := H_p0) (p1 := IntKind.wrap .i64 (p1 + (IntKind.wrap .i64 ((IntKind.wrap .i64 (Int.tdiv (IntKind.wrap .i64 (p2 - p1)) 4)) * 1)))) (p2 := IntKind.wrap .i64 (p1 + (IntKind.wrap .i64 ((IntKind.wrap .i64 (Int.tdiv (IntKind.wrap .i64 (p2 - p1)) 4)) * 2)))) (p3 := IntKind.wrap .i64 (p1 + (IntKind.wrap .i64 ((IntKind.wrap .i64 (Int.tdiv (IntKind.wrap .i64 (p2 - p1)) 4)) * 3)))) (p4 := 0) (H_p4 := boxA b1) (hS1.bun [1] [2, 0] rfl) hV_p0 (lnBox b1) hx1) rfl fun v1 T2 w3 im3 rv1 => ?_)))))))
      obtain ⟨rfl, hS2, _⟩ := rv1
      have hS2 := hS2.unb
      exact pv (r_zi rfl) (nil (t_then ⟨_, _, y1.2, y1.1, env_has ⟨rfl, rfl, trivial⟩, im3, hS2.sel [2, 0, 1] rfl, hm⟩))
    have hm := cfalse hb1 hm
    exact skp (t_then ⟨_, _, 0, (IntKind.wrap .i64 (p1 + (IntKind.wrap .i64 ((IntKind.wrap .i64 (Int.tdiv (IntKind.wrap .i64 (p2 - p1)) 4)) * 2)))), env_has ⟨rfl, rfl, trivial⟩, Im.refl, hS1.sel [0, 1, 2] rfl, hm⟩)
  rintro _ w2 ⟨J, T1, x2, x1, rfl, im2, hS3, hm⟩
  rw [hkk1] at hm
  refine sq2 (rg (pv (r_ld rfl isAgg3 (hS3.cell0 (i := 0) ⟨rfl, rfl⟩ (j := 0) rfl)) (nil (t_then ?_))))
  refine blk (sq2 (rg (pv (r_ib rfl rfl rfl) (pv (r_zb rfl) (nil (t_then ?_))))))
  refine cnd rfl (fun hb3 => ?_) (fun hb3 => ?_)
  · have hm := ctrue hb3 hm
    refine sq2 (rg (pv (r_mi rfl) (pv (r_zi rfl) (pv (r_zi rfl) (nil (t_then ?_))))))
    have hm := oI hm; subst hm
    exact rtn (r_blk (retN (vs := [iv x1, iv 1]) rfl ⟨rfl, rfl, trivial⟩ rfl ⟨_, rfl, _, (iT im1 im2), ⟨rfl, hS3.sel [1, 2] rfl, trivial⟩⟩))
  have hm := cfalse hb3 hm
  refine sq2 (rg (pv (r_ib rfl rfl rfl) (pv (r_zb rfl) (nil (t_then ?_)))))
  refine cnd rfl (fun hb4 => ?_) (fun hb4 => ?_)
  · have hm := ctrue hb4 hm
    refine sq2 (rg (pv (r_mi rfl) (pv (r_zi rfl) (pv (r_zi rfl) (nil (t_then ?_))))))
    have hm := oI hm; subst hm
    exact rtn (r_blk (retN (vs := [iv x1, iv 2]) rfl ⟨rfl, rfl, trivial⟩ rfl ⟨_, rfl, _, (iT im1 im2), ⟨rfl, hS3.sel [1, 2] rfl, trivial⟩⟩))
  have hm := cfalse hb4 hm
  refine sq2 (rg (pv (r_mi rfl) (pv (r_zi rfl) (pv (r_zi rfl) (nil (t_then ?_))))))
  have hm := oI hm; subst hm
  exact rtn (r_blk (retN (vs := [iv x1, iv 0]) rfl ⟨rfl, rfl, trivial⟩ rfl ⟨_, rfl, _, (iT im1 im2), ⟨rfl, hS3.sel [1, 2] rfl, trivial⟩⟩))

theorem slices_reverseRangeCmpFunc_sim {p0 : List AllocReach} {a1 : OA} {n1 : Nat} {c1 : Nat} {p1 : Int} {p2 : Int} {r : (List AllocReach)} (hS : Sep g T0 w0 [R, ownA rAllocReach 57 (.slice a1 n1 c1) p0])  (hm : slices_reverseRangeCmpFunc p0 p1 p2 = some r) :
    Calls Tryz.prog 54 #[.slice a1 n1 c1, iv p1, iv p2, .func (.func 16) #[] #[]] w0 (RetS T0 w0 fun T w v => v = .tuple #[] ∧ Sep g T w [R, ownA rAllocReach 57 (.slice a1 n1 c1) r] ∧ True) := by
  refine enter (args := [.slice a1 n1 c1, iv p1, iv p2, .func (.func 16) #[] #[]]) Tryz.func54 rfl Tryz.ntmps54 rfl fun J => ?_
  unfold slices_reverseRangeCmpFunc at hm
  refine sq2 (rg (pv (r_mi rfl) (pv (r_zi rfl) (nil (t_then ?_)))))
  refine sq2 (rg (pv (r_mi rfl) (pv (r_ib rfl rfl rfl) (pv (r_zi rfl) (nil (t_then ?_))))))
  obtain ⟨o1, ho1, hq1⟩ := bindS hm
  obtain ⟨bd1, hbd1, ho1⟩ := loop_open ho1
  refine blk (wp_loop_ghost (fun m a w1 => ∃ (J : JV) (T1 : TP) (x1 : List AllocReach) (x2 : Int) (x3 : Int), a = env (nf 34) J [(0, .slice a1 n1 c1), (8, iv x2), (9, iv x3)] ∧ Im T0 w0 T1 w1 ∧ Sep g T1 w1 [R, ownA rAllocReach 57 (.slice a1 n1 c1) x1] ∧ loopM bd1 m (x1, x2, x3) = some o1) NN ⟨_, _, p0, p1, (IntKind.wrap .i64 (p2 - 1)), env_has ⟨rfl, rfl, rfl, trivial⟩, Im.refl, hS.sel [0, 1] rfl, ho1⟩ ?_)
  rintro m _ w1 ⟨J, T1, x1, x2, x3, rfl, im1, hS1, ho1⟩
  obtain ⟨m1, z1, rfl, hm, hn1⟩ := loop_round ho1
  rw [hbd1] at hm
  refine sq2 (sq2 (rg (pv (r_mi rfl) (pv (r_mi rfl) (pv (r_ib rfl rfl rfl) (nil (t_then ?_)))))))
  refine cnd rfl (fun hb1 => ?_) (fun hb1 => ?_)
  · have hm := ctrue hb1 hm
    refine skp (t_then ?_)
    refine blk (sq2 (rs [0, 0, 0, 0, 0, 0, 0, 1, 0, 0, 0, 1, 0, 2, 0, 2] [0, 1, 2, 3, 4, 5, 6, 7, 8, 9, 10, 11, 12, 13, 14, 15] mix (by kernel_rfl) hS1.lt fun w2 i1 => ?_))
    have im2 := i1.imm
    have hS2 := hS1.keep i1 (fun _ h => h)
    obtain ⟨u1, hx1, hm⟩ := bindS hm
    obtain ⟨b1, of1, cs1, k1, cp1, hv1, hp1, hl1, he1, hr1, hc1⟩ := (hS2.own (i := 1) ⟨rfl, rfl⟩).v.ixq hx1 rfl
    cases rAllocReach_open hr1
    obtain ⟨u2, hx2, hm⟩ := bindS hm
    obtain ⟨b2, of2, cs2, k2, cp2, hv2, hp2, hl2, he2, hr2, hc2⟩ := (hS2.own (i := 1) ⟨rfl, rfl⟩).v.ixq hx2 rfl
    cases rAllocReach_open hr2
    obtain ⟨u3, hx3, hm⟩ := bindS hm
    obtain ⟨b3, of3, cs3, k3, cp3, hv3, hp3, hl3, he3, hr3, hc3⟩ := (hS2.own (i := 1) ⟨rfl, rfl⟩).v.ixq hx3 rfl
    cases rAllocReach_open hr3
    obtain ⟨u4, hx4, hm⟩ := bindS hm
    refine s0 rfl trivial (fun _ => r_ms rfl) rfl (s0 rfl trivial (fun _ => r_mi rfl) rfl (s0 rfl trivial (fun _ => r_ms rfl) rfl (s0 rfl trivial (fun _ => r_mi rfl) rfl (s0 rfl trivial (fun _ => r_ms rfl) rfl (s0 rfl trivial (fun _ => r_mi rfl) rfl (s0 rfl trivial (fun _ => r_ixe hv1 rfl underlying53 sizeOf57 hp1 hl1 he1) rfl (s1 rfl trivial (r_ldS rfl isAgg57 sizeOf57 rfl hc1 (cs := (cAllocReach u1))) rfl (s0 rfl trivial (fun _ => r_ms rfl) rfl (s0 rfl trivial (fun _ => r_mi rfl) rfl (s0 rfl trivial (fun _ => r_ixe hv2 rfl underlying53 sizeOf57 hp2 hl2 he2) rfl (s1 rfl trivial (r_ldS rfl isAgg57 sizeOf57 rfl hc2 (cs := (cAllocReach u2))) rfl (s0 rfl trivial (fun _ => r_ixe hv3 rfl underlying53 sizeOf57 hp3 hl3 he3) rfl (s2 [] rfl trivial rfl (by kernel_rfl) (stO (q := 1) (i := Int.toNat x2) (j := 0) (u := u4) (u' := u1) hS2 ⟨rfl, rfl⟩ hv3 (idx_some hx4).2.2 he3 rfl rfl rfl sizeOf57 rfl rfl rfl (fun c0 hc0 => by rw [storeL_all (r := rAllocReach) hc0 rfl]; exact (rAllocReach_mk (x := u1)  : rAllocReach.rp _ _ _ _)) fun w3 im3 hS3 => ?_))))))))))))))
    refine ⟨st0, ?_⟩
    obtain ⟨u5, hx5, hm⟩ := bindS hm
    obtain ⟨b4, of4, cs4, k4, cp4, hv4, hp4, hl4, he4, hr4, hc4⟩ := (hS3.own (i := 1) ⟨rfl, rfl⟩).v.ixq hx5 rfl
    cases rAllocReach_open hr4
    obtain ⟨u6, hx6, hm⟩ := bindS hm
    refine s0 rfl trivial (fun _ => r_ixe hv4 rfl underlying53 sizeOf57 hp4 hl4 he4) rfl (s2 [] rfl trivial rfl (by kernel_rfl) (stO (q := 1) (i := Int.toNat x3) (j := 0) (u := u6) (u' := u2) hS3 ⟨rfl, rfl⟩ hv4 (idx_some hx6).2.2 he4 rfl rfl rfl sizeOf57 rfl rfl rfl (fun c0 hc0 => by rw [storeL_all (r := rAllocReach) hc0 rfl]; exact (rAllocReach_mk (x := u2)  : rAllocReach.rp _ _ _ _)) fun w4 im4 hS4 => ?_))
    refine ⟨st0, ?_⟩
    refine se (t_then ?_)
    refine sq2 (rg (pv (r_mi rfl) (pv (r_ib rfl rfl rfl) (pv (r_zi rfl) (nil (t_then ?_))))))
    have hm := oI hm; subst hm
    exact rg (pv (r_mi rfl) (pv (r_ib rfl rfl rfl) (pv (r_zi rfl) (nil (t_blk (t_then ⟨m1, Nat.lt_succ_self _, _, _, (List.set (List.set x1 (Int.toNat x2) u1) (Int.toNat x3) u2), (IntKind.wrap .i64 (x2 + 1)), (IntKind.wrap .i64 (x3 - 1)), env_has ⟨rfl, rfl, rfl, trivial⟩, (iT im1 (iT im2 (iT im3 im4))), hS4.sel [0, 1] rfl, hn1⟩))))))
  have hm := cfalse hb1 hm
  have hm := oI hm; subst hm
  have hn1 : _ = Lp.brk _ := hn1
  subst hn1
  have hm := thn_brk hq1
  have hm := oI hm; subst hm
  exact xt (x_then (x_then (x_eq (end0 rfl ⟨_, rfl, _, im1, ⟨rfl, hS1.sel [0, 1] rfl, trivial⟩⟩))))

theorem slices_partialInsertionSortCmpFunc_sim {p0 : List AllocReach} {a1 : OA} {n1 : Nat} {c1 : Nat} {p1 : Int} {p2 : Int} {r : Bool × (List AllocReach)} (hS : Sep g T0 w0 [R, ownA rAllocReach 57 (.slice a1 n1 c1) p0])  (hm : slices_partialInsertionSortCmpFunc p0 p1 p2 = some r) :
    Calls Tryz.prog 55 #[.slice a1 n1 c1, iv p1, iv p2, .func (.func 16) #[] #[]] w0 (RetS T0 w0 fun T w v => v = .bool r.1 ∧ Sep g T w [R, ownA rAllocReach 57 (.slice a1 n1 c1) r.2] ∧ True) := by
  refine enter (args := [.slice a1 n1 c1, iv p1, iv p2, .func (.func 16) #[] #[]]) Tryz.func55 rfl Tryz.ntmps55 rfl fun J => ?_
  unfold slices_partialInsertionSortCmpFunc at hm
  refine sq2 (rg (pv (r_zb rfl) (nil (t_then ?_))))
  refine sq2 (rg (pv (r_mi rfl) (pv (r_ib rfl rfl rfl) (pv (r_zi rfl) (nil (t_then ?_))))))
  refine sq2 (sq2 (rg (pv (r_zi rfl) (nil (t_then ?_)))))
  obtain ⟨o1, ho1, hq1⟩ := bindS hm
  obtain ⟨bd1, hbd1, ho1⟩ := loop_open ho1
  refine blk (wp_loop_ghost (fun m a w1 => ∃ (J : JV) (T1 : TP) (x1 : Int) (x2 : Int), a = env (nf 141) J [(0, .slice a1 n1 c1), (1, iv p1), (2, iv p2), (3, .func (.func 16) #[] #[]), (9, iv x1), (10, iv x2)] ∧ Im T0 w0 T1 w1 ∧ Sep g T1 w1 [R, ownA rAllocReach 57 (.slice a1 n1 c1) p0] ∧ loopM bd1 m (x1, x2) = some o1) NN ⟨_, _, (IntKind.wrap .i64 (p1 + 1)), 0, env_has ⟨rfl, rfl, rfl, rfl, rfl, rfl, trivial⟩, Im.refl, hS.sel [0, 1] rfl, ho1⟩ ?_)
  rintro m _ w1 ⟨J, T1, x1, x2, rfl, im1, hS1, ho1⟩
  obtain ⟨m1, z1, rfl, hm, hn1⟩ := loop_round ho1
  rw [hbd1] at hm
  refine sq2 (sq2 (rg (pv (r_mi rfl) (pv (r_ib rfl rfl rfl) (nil (t_then ?_))))))
  refine cnd rfl (fun hb1 => ?_) (fun hb1 => ?_)
  · have hm := ctrue hb1 hm
    refine skp (t_then ?_)
    refine sq2 (blk ?_)
    obtain ⟨kk1, hkk1, hm⟩ := jn_open hm
    refine cut (fun a w2 => ∃ (J : JV) (T2 : TP) (x3 : Int), a = env (nf 141) J [(1, iv p1), (2, iv p2), (9, iv x3)] ∧ Im T1 w1 T2 w2 ∧ Sep g T2 w2 [R, ownA rAllocReach 57 (.slice a1 n1 c1) p0] ∧ kk1 x3 = some z1) ?_ ?_
    · obtain ⟨o2, ho2, hq2⟩ := bindS hm
      obtain ⟨bd2, hbd2, ho2⟩ := loop_open ho2
      refine blk (wp_loop_ghost (fun m a w3 => ∃ (J : JV) (T3 : TP) (x4 : Int), a = env (nf 141) J [(0, .slice a1 n1 c1), (1, iv p1), (2, iv p2), (3, .func (.func 16) #[] #[]), (9, iv x4)] ∧ Im T1 w1 T3 w3 ∧ Sep g T3 w3 [R, ownA rAllocReach 57 (.slice a1 n1 c1) p0] ∧ loopM bd2 m x4 = some o2) NN ⟨_, _, x1, env_has ⟨rfl, rfl, rfl, rfl, rfl, trivial⟩, Im.refl, hS1.sel [0, 1] rfl, ho2⟩ ?_)
      rintro m _ w3 ⟨J, T3, x4, rfl, im3, hS2, ho2⟩
      obtain ⟨m2, z2, rfl, hm, hn2⟩ := loop_round ho2
      rw [hbd2] at hm
      refine sq2 (sq2 (rs [0, 0, 0, 0, 0, 0, 0, 0, 1, 0, 0, 0, 0, 1, 2, 0, 0, 0] [0, 1, 2, 3, 4, 5, 6, 7, 8, 9, 10, 11, 12, 13, 14, 15, 16, 17] mix (by kernel_rfl) hS2.lt fun w4 i1 => ?_))
      have im4 := i1.imm
      have hS3 := hS2.keep i1 (fun _ h => h)
      refine s0 rfl trivial (fun _ => r_mi rfl) rfl (s0 rfl trivial (fun _ => r_mi rfl) rfl (s0 rfl trivial (fun _ => r_ib rfl rfl rfl) rfl (s0 rfl trivial (fun _ => r_mb rfl) rfl (?_))))
      rcases Bool.eq_false_or_eq_true (decide (x4 < p2)) with hb2 | hb2
      · have hm := ctrue hb2 hm
        obtain ⟨u1, hx1, hm⟩ := bindS hm
        obtain ⟨b1, of1, cs1, k1, cp1, hv1, hp1, hl1, he1, hr1, hc1⟩ := (hS3.own (i := 1) ⟨rfl, rfl⟩).v.ixq hx1 rfl
        cases rAllocReach_open hr1
        obtain ⟨u2, hx2, hm⟩ := bindS hm
        obtain ⟨b2, of2, cs2, k2, cp2, hv2, hp2, hl2, he2, hr2, hc2⟩ := (hS3.own (i := 1) ⟨rfl, rfl⟩).v.ixq hx2 rfl
        cases rAllocReach_open hr2
        obtain ⟨y1, hx3, hm⟩ := bindS hm
        refine s0 rfl ⟨_, rfl, congrArg Value.bool hb2⟩ (fun _ => r_mf rfl) rfl (s0 rfl ⟨_, rfl, congrArg Value.bool hb2⟩ (fun _ => r_ms rfl) rfl (s0 rfl ⟨_, rfl, congrArg Value.bool hb2⟩ (fun _ => r_mi rfl) rfl (s0 rfl ⟨_, rfl, congrArg Value.bool hb2⟩ (fun _ => r_ixe hv1 rfl underlying53 sizeOf57 hp1 hl1 he1) rfl (s1 rfl ⟨_, rfl, congrArg Value.bool hb2⟩ (r_ldS rfl isAgg57 sizeOf57 rfl hc1 (cs := (cAllocReach u1))) rfl (s0 rfl ⟨_, rfl, congrArg Value.bool hb2⟩ (fun _ => r_ms rfl) rfl (s0 rfl ⟨_, rfl, congrArg Value.bool hb2⟩ (fun _ => r_mi rfl) rfl (s0 rfl ⟨_, rfl, congrArg Value.bool hb2⟩ (fun _ => r_ib rfl rfl rfl) rfl (s0 rfl ⟨_, rfl, congrArg Value.bool hb2⟩ (fun _ => r_ixe hv2 rfl underlying53 sizeOf57 hp2 hl2 he2) rfl (s1 rfl ⟨_, rfl, congrArg Value.bool hb2⟩ (r_ldS rfl isAgg57 sizeOf57 rfl hc2 (cs := (cAllocReach u2))) rfl (s2 [] rfl ⟨_, rfl, congrArg Value.bool hb2⟩ rfl (by kernel_rfl) (calS cf16 rfl (alloc_Assign_2_sim (p0 := u1) (p1 := u2) (hS3.bun [0, 1] [] rfl)  hx3) rfl fun v1 T4 w5 im5 rv1 => ?_)))))))))))
        obtain ⟨rfl, hS4, _⟩ := rv1
        have hS4 := hS4.unb
        refine ⟨st0, ?_⟩
        refine s0 rfl ⟨_, rfl, congrArg Value.bool hb2⟩ (fun _ => r_ib rfl rfl rfl) rfl (s0 rfl ⟨_, rfl, congrArg Value.bool hb2⟩ (fun _ => r_nt rfl) rfl (s0 rfl trivial (fun _ => r_pkt rfl hb2 rfl) rfl (se (t_then ?_))))
        refine cnd rfl (fun hb3 => ?_) (fun hb3 => ?_)
        · have hm := ctrue hb3 hm
          refine skp (t_then ?_)
          refine blk ?_
          have hm := oI hm; subst hm
          exact rg (pv (r_mi rfl) (pv (r_ib rfl rfl rfl) (pv (r_zi rfl) (nil (t_blk (t_then ⟨m2, Nat.lt_succ_self _, _, _, (IntKind.wrap .i64 (x4 + 1)), env_has ⟨rfl, rfl, rfl, rfl, rfl, trivial⟩, (iT im3 (iT im4 im5)), hS4.sel [0, 1] rfl, hn2⟩))))))
        have hm := cfalse hb3 hm
        have hm := oI hm; subst hm
        have hn2 : _ = Lp.brk _ := hn2
        subst hn2
        have hm := thn_brk hq2
        exact xt (x_then (x_then (x_eq (t_then ⟨_, _, x4, env_has ⟨rfl, rfl, rfl, trivial⟩, (iT im3 (iT im4 im5)), hS4.sel [0, 1] rfl, hm⟩))))
      have hm := cfalse hb2 hm
      refine sU rfl (gI rfl rfl hb2) (sU rfl (gI rfl rfl hb2) (sU rfl (gI rfl rfl hb2) (sU rfl (gI rfl rfl hb2) (sU rfl (gI rfl rfl hb2) (sU rfl (gI rfl rfl hb2) (sU rfl (gI rfl rfl hb2) (sU rfl (gI rfl rfl hb2) (sU rfl (gI rfl rfl hb2) (sU rfl (gI rfl rfl hb2) (sU rfl (gI rfl rfl hb2) (sU rfl (gI rfl rfl hb2) (sU rfl (gI rfl rfl hb2) (s0 rfl trivial (fun _ => r_pkf rfl hb2 rfl) rfl (se (t_then ?_)))))))))))))))
      refine cnd (b := false) rfl (fun h => nomatch h) (fun _ => ?_)
      have hm := oI hm; subst hm
      have hn2 : _ = Lp.brk _ := hn2
      subst hn2
      have hm := thn_brk hq2
      exact xt (x_then (x_then (x_eq (t_then ⟨_, _, x4, env_has ⟨rfl, rfl, rfl, trivial⟩, (iT im3 im4), hS3.sel [0, 1] rfl, hm⟩))))
    rintro _ w2 ⟨J, T2, x3, rfl, im2, hS5, hm⟩
    rw [hkk1] at hm
    refine sq2 (sq2 (rg (pv (r_mi rfl) (pv (r_mi rfl) (pv (r_ib rfl rfl rfl) (nil (t_then ?_)))))))
    refine cnd rfl (fun hb5 => ?_) (fun hb5 => ?_)
    · have hm := ctrue hb5 hm
      refine sq2 (rg (pv (r_zb rfl) (nil (t_then ?_))))
      have hm := oI hm; subst hm
      have hn1 : _ = Lp.ret _ := hn1
      subst hn1
      have hm := thn_ret hq1
      have hm := oI hm; subst hm
      exact rtn (r_then (r_blk (r_then (r_then (r_blk (r_then (ret1 rfl rfl ⟨_, rfl, _, (iT im1 im2), ⟨rfl, hS5.sel [0, 1] rfl, trivial⟩⟩)))))))
    have hm := cfalse hb5 hm
    refine skp (t_then ?_)
    refine sq2 (sq2 (rg (pv (r_mi rfl) (pv (r_mi rfl) (pv (r_ib rfl rfl rfl) (pv (r_ib rfl rfl rfl) (nil (t_then ?_))))))))
    refine cnd rfl (fun hb6 => ?_) (fun hb6 => ?_)
    · have hm := ctrue hb6 hm
      refine sq2 (rg (pv (r_zb rfl) (nil (t_then ?_))))
      have hm := oI hm; subst hm
      have hn1 : _ = Lp.ret _ := hn1
      subst hn1
      have hm := thn_ret hq1
      have hm := oI hm; subst hm
      exact rtn (r_then (r_blk (r_then (r_then (r_blk (r_then (ret1 rfl rfl ⟨_, rfl, _, (iT im1 im2), ⟨rfl, hS5.sel [0, 1] rfl, trivial⟩⟩)))))))
    have hm := cfalse hb6 hm
    cases hm
  have hm := cfalse hb1 hm
  have hm := oI hm; subst hm
  have hn1 : _ = Lp.brk _ := hn1
  subst hn1
  have hm := thn_brk hq1
  refine xt (x_then (x_then (x_eq (t_then ?_))))
  refine sq2 (rg (pv (r_zb rfl) (nil (t_then ?_))))
  have hm := oI hm; subst hm
  exact rtn (ret1 rfl rfl ⟨_, rfl, _, im1, ⟨rfl, hS1.sel [0, 1] rfl, trivial⟩⟩)
end Go.Proofs.YteoihjfnojgnnaaGreat
